/- The references' functions on partitions and ways, walked. -/
import Derived.Test.YtbajgbkkbabmlaaGreatDoorProg
import Derived.Test.YtbajgbkkbabmlaaGreatDoorVn
import Derived.Test.YtbajgbkkbabmlaaGreatDoorPw
set_option linter.unusedVariables false
namespace Go.Proofs.YtbajgbkkbabmlaaGreatDoor
open Go.Vc
theorem lx_94_101231020 : LexOk (opsAt (at_ Tryz.f94 [1,0,1,2,3,1,0,2,0])) := ⟨by kernel_rfl⟩

theorem First_ct (A : Option Addr) (c : Nat) (p : List Int) (i : Nat) (h : Heap) (hx : Ints h A p c) (hi : i < p.length) :
    Ct Tryz.prog 94 #[.slice A p.length c, .int .i64 (i : Int)] h (fun v h' => v = .int .i64 (fstK (kerL p) i : Int) ∧ h' = h) := by
  have hl := hx.len
  have hE := kerL_eqv p
  obtain ⟨b, off, rfl, hp⟩ := hx.open_ (by omega)
  refine Ct.enter (args := [.slice (some ⟨b, off, none⟩) p.length c, .int .i64 (i : Int)]) Tryz.func94 rfl Tryz.ntmps94 (by simp) fun w hw => ?_
  -- at 1012
  refine Run.adv 10 [] (at_ Tryz.f94 [1,0,1,2]) [(0, .slice (some ⟨b, off, none⟩) p.length c), (1, .int .i64 (i : Int)), (5, .int .i64 0)]
    (True)
    (by as_aux_lemma => kernel_rfl) trivial fun s_ => ?_
  refine Run.loop (at_ Tryz.f94 [1,0,1,2,3]) (at_ Tryz.f94 [1,0,1,2,7]) (fun k : Nat => [(0, .slice (some ⟨b, off, none⟩) p.length c), (1, .int .i64 (i : Int)), (5, .int .i64 (k : Int))])
    (fun k h' => h' = h ∧ k ≤ i ∧ ∀ j : Nat, j < k → kerL p j i = false) (fun k => i - k) 0 (by as_aux_lemma => kernel_rfl) rfl ?_ ?_
  · exact ⟨rfl, Nat.zero_le _, fun j hj => by omega⟩
  rintro k s h' ⟨rfl, hk, hI⟩ again
  by_cases hlt : k < i
  · have hker := rd_ker (p := p) (i := k) (k := i) (by omega) hi
    by_cases e1 : rd p k = rd p i
    · -- at 10123102141
      refine Run.adv 19 [.dec true, .draw, .val (.int .i64 (rd p (k : Int))), .val (.int .i64 (rd p (i : Int))), .dec true] (at_ Tryz.f94 [1,0,1,2,3,1,0,2,1,4,1]) [(4, .int .i64 (k : Int))]
        ((decide ((k : Int) < (i : Int))) = true ∧ LexOk (opsAt (at_ Tryz.f94 [1,0,1,2,3,1,0,2,0])) ∧ (0 ≤ (k : Int) ∧ (k : Int) < (p.length : Int)) ∧ cellH h' ⟨b, off + (k : Int).toNat, none⟩ = some (.int .i64 (rd p (k : Int))) ∧ (0 ≤ (i : Int) ∧ (i : Int) < (p.length : Int)) ∧ cellH h' ⟨b, off + (i : Int).toNat, none⟩ = some (.int .i64 (rd p (i : Int))) ∧ ((rd p (k : Int)) == (rd p (i : Int))) = true)
        (by as_aux_lemma => kernel_rfl) ⟨(by first | assumption | exact decide_eq_true (by first | omega | assumption)), lx_94_101231020, ⟨by omega, by omega⟩, (hp _ (Ext.refl _) (k : Int) (by omega) (by omega)), ⟨by omega, by omega⟩, (hp _ (Ext.refl _) (i : Int) (by omega) (by omega)), (beq_iff_eq.2 (by first | omega | assumption))⟩ fun s_ => ?_
      refine Run.ret [] (.int .i64 (k : Int)) (True) Tryz.func94 (by as_aux_lemma => kernel_rfl) (by as_aux_lemma => kernel_rfl) trivial ?_
      exact ⟨by rw [fst_unique hE (hker.1 e1) hI hk], rfl⟩
    · -- at 10127
      refine Run.adv 21 [.dec true, .draw, .val (.int .i64 (rd p (k : Int))), .val (.int .i64 (rd p (i : Int))), .dec false] (at_ Tryz.f94 [1,0,1,2,7]) [(0, .slice (some ⟨b, off, none⟩) p.length c), (1, .int .i64 (i : Int)), (5, .int .i64 ((k + 1 : Nat) : Int))]
        ((decide ((k : Int) < (i : Int))) = true ∧ LexOk (opsAt (at_ Tryz.f94 [1,0,1,2,3,1,0,2,0])) ∧ (0 ≤ (k : Int) ∧ (k : Int) < (p.length : Int)) ∧ cellH h' ⟨b, off + (k : Int).toNat, none⟩ = some (.int .i64 (rd p (k : Int))) ∧ (0 ≤ (i : Int) ∧ (i : Int) < (p.length : Int)) ∧ cellH h' ⟨b, off + (i : Int).toNat, none⟩ = some (.int .i64 (rd p (i : Int))) ∧ ((rd p (k : Int)) == (rd p (i : Int))) = false ∧ (-9223372036854775808 ≤ (k : Int) + 1 ∧ (k : Int) + 1 ≤ 9223372036854775807))
        (by as_aux_lemma => kernel_rfl) ⟨(by first | assumption | exact decide_eq_true (by first | omega | assumption)), lx_94_101231020, ⟨by omega, by omega⟩, (hp _ (Ext.refl _) (k : Int) (by omega) (by omega)), ⟨by omega, by omega⟩, (hp _ (Ext.refl _) (i : Int) (by omega) (by omega)), (beq_eq_false_iff_ne.2 (by first | omega | assumption)), ⟨by omega, by omega⟩⟩ fun s_ => ?_
      refine again (k + 1) _ _ ⟨rfl, by omega, fun j hj => ?_⟩ (by omega)
      by_cases e2 : j = k
      · subst e2; exact Bool.eq_false_iff.2 (fun hh => e1 (hker.2 hh))
      · exact hI j (by omega)
  · -- at 111
    refine Run.adv 14 [.dec false] (at_ Tryz.f94 [1,1,1]) [(4, .int .i64 (i : Int))]
      ((decide ((k : Int) < (i : Int))) = false)
      (by as_aux_lemma => kernel_rfl) (by first | assumption | exact decide_eq_false (by first | omega | assumption)) fun s_ => ?_
    refine Run.ret [] (.int .i64 (i : Int)) (True) Tryz.func94 (by as_aux_lemma => kernel_rfl) (by as_aux_lemma => kernel_rfl) trivial ?_
    obtain rfl : k = i := by omega
    exact ⟨by rw [fst_unique hE (hE.refl k) hI (Nat.le_refl _)], rfl⟩
theorem CountR_ct (A : Option Addr) (c : Nat) (p : List Int) (h : Heap) (hx : Ints h A p c) (hl : p.length ≤ 1000000) :
    Ct Tryz.prog 112 #[.slice A p.length c] h (fun v h' => v = .int .i64 (cntL p : Int) ∧ h' = h) := by
  refine Ct.enter (args := [.slice A p.length c]) Tryz.func112 rfl Tryz.ntmps112 (by simp) fun w hw => ?_
  -- at 11012
  refine Run.adv 14 [] (at_ Tryz.f112 [1,1,0,1,2]) [(0, .slice A p.length c), (3, .int .i64 0), (4, .int .i64 0)]
    (True)
    (by as_aux_lemma => kernel_rfl) trivial fun s_ => ?_
  refine Run.loop (at_ Tryz.f112 [1,1,0,1,2,3]) (at_ Tryz.f112 [1,1,0,1,2,7]) (fun (⟨i, m⟩ : Nat × Nat) => [(0, .slice A p.length c), (3, .int .i64 (m : Int)), (4, .int .i64 (i : Int))])
    (fun ⟨i, m⟩ h' => h' = h ∧ i ≤ p.length ∧ m = cntK (kerL p) i) (fun ⟨i, m⟩ => p.length - i) (0, 0) (by as_aux_lemma => kernel_rfl) rfl ?_ ?_
  · exact ⟨rfl, Nat.zero_le _, rfl⟩
  rintro ⟨i, m⟩ s h' ⟨rfl, hi, hm⟩ again
  simp only at hi hm again
  have hcs := cnt_succ (kerL p) i
  have hcl := cnt_le (kerL p) i
  by_cases hlt : i < p.length
  · by_cases e1 : fstK (kerL p) i = i
    · -- at 110127
      refine Run.adv 32 [.dec true, .val (.int .i64 (fstK (kerL p) i : Int)), .dec true] (at_ Tryz.f112 [1,1,0,1,2,7]) [(0, .slice A p.length c), (3, .int .i64 ((m + 1 : Nat) : Int)), (4, .int .i64 ((i + 1 : Nat) : Int))]
        ((decide ((i : Int) < (p.length : Int))) = true ∧ (Ct Tryz.prog 94 #[.slice A p.length c, .int .i64 (i : Int)] h' (fun v_ h_ => v_ = .int .i64 (fstK (kerL p) i : Int) ∧ h_ = h')) ∧ ((fstK (kerL p) i : Int) == (i : Int)) = true ∧ (-9223372036854775808 ≤ (m : Int) + 1 ∧ (m : Int) + 1 ≤ 9223372036854775807) ∧ (-9223372036854775808 ≤ (i : Int) + 1 ∧ (i : Int) + 1 ≤ 9223372036854775807))
        (by as_aux_lemma => kernel_rfl) ⟨(by first | assumption | exact decide_eq_true (by first | omega | assumption)), (First_ct _ _ _ _ _ hx hlt), (beq_iff_eq.2 (by first | omega | assumption)), ⟨by omega, by omega⟩, ⟨by omega, by omega⟩⟩ fun s_ => ?_
      rw [if_pos e1] at hcs
      exact again (i + 1, m + 1) _ _ ⟨rfl, by simp only; omega, by simp only; omega⟩ (by simp only; omega)
    · -- at 110127
      refine Run.adv 28 [.dec true, .val (.int .i64 (fstK (kerL p) i : Int)), .dec false] (at_ Tryz.f112 [1,1,0,1,2,7]) [(0, .slice A p.length c), (3, .int .i64 (m : Int)), (4, .int .i64 ((i + 1 : Nat) : Int))]
        ((decide ((i : Int) < (p.length : Int))) = true ∧ (Ct Tryz.prog 94 #[.slice A p.length c, .int .i64 (i : Int)] h' (fun v_ h_ => v_ = .int .i64 (fstK (kerL p) i : Int) ∧ h_ = h')) ∧ ((fstK (kerL p) i : Int) == (i : Int)) = false ∧ (-9223372036854775808 ≤ (i : Int) + 1 ∧ (i : Int) + 1 ≤ 9223372036854775807))
        (by as_aux_lemma => kernel_rfl) ⟨(by first | assumption | exact decide_eq_true (by first | omega | assumption)), (First_ct _ _ _ _ _ hx hlt), (beq_eq_false_iff_ne.2 (by first | omega | assumption)), ⟨by omega, by omega⟩⟩ fun s_ => ?_
      rw [if_neg e1] at hcs
      exact again (i + 1, m) _ _ ⟨rfl, by simp only; omega, by simp only; omega⟩ (by simp only; omega)
  · -- at 1111
    refine Run.adv 15 [.dec false] (at_ Tryz.f112 [1,1,1,1]) [(2, .int .i64 (m : Int))]
      ((decide ((i : Int) < (p.length : Int))) = false)
      (by as_aux_lemma => kernel_rfl) (by first | assumption | exact decide_eq_false (by first | omega | assumption)) fun s_ => ?_
    refine Run.ret [] (.int .i64 (m : Int)) (True) Tryz.func112 (by as_aux_lemma => kernel_rfl) (by as_aux_lemma => kernel_rfl) trivial ?_
    obtain rfl : i = p.length := by omega
    exact ⟨by rw [hm]; rfl, rfl⟩
theorem PlainR_ct (A : Option Addr) (c : Nat) (p : List Int) (h : Heap) (hx : Ints h A p c) (hl : p.length ≤ 1000000) :
    Ct Tryz.prog 70 #[.slice A p.length c] h (fun v h' => ∃ og, Own h' 3 1 v (plainL p).length ((plainL p).map (Value.int .i64)) og ∧ Ext h h' ∧ ∀ g, og = some g → h.size ≤ g) := by
  have hpl := plainL_len p
  refine Ct.enter (args := [.slice A p.length c]) Tryz.func70 rfl Tryz.ntmps70 (by simp) fun w hw => ?_
  -- at 1080
  refine Run.adv 6 [] (at_ Tryz.f70 [1,0,8,0]) [(0, .slice A p.length c), (2, .slice none 0 0)]
    (True)
    (by as_aux_lemma => kernel_rfl) trivial fun s_ => ?_
  refine Run.new #[] 3 (fun g_ => .slice (some ⟨g_, 0, none⟩) 0 0) (some 8) (at_ Tryz.f70 [1,0,8,1]) (by as_aux_lemma => kernel_rfl) fun g0 h1 hng0 hEg0 hBg0 => ?_
  have hO1 := Own.of_blk (sz := 1) (n := 0) hBg0 rfl
  -- at 11012
  refine Run.adv 8 [] (at_ Tryz.f70 [1,1,0,1,2]) [(0, .slice A p.length c), (3, .slice (some ⟨g0, 0, none⟩) 0 0), (4, .int .i64 0)]
    (True)
    (by as_aux_lemma => kernel_rfl) trivial fun s_ => ?_
  refine Run.loop (at_ Tryz.f70 [1,1,0,1,2,3]) (at_ Tryz.f70 [1,1,0,1,2,7]) (fun (⟨i, A2, c2⟩ : Nat × Option Addr × Nat) => [(0, .slice A p.length c), (3, .slice A2 i c2), (4, .int .i64 (i : Int))])
    (fun ⟨i, A2, c2⟩ h2 => i ≤ p.length ∧ ∃ og, Own h2 3 1 (.slice A2 i c2) i (((plainL p).take i).map (Value.int .i64)) og ∧ Ext h h2 ∧ ∀ g', og = some g' → h.size ≤ g') (fun ⟨i, A2, c2⟩ => p.length - i) (0, some ⟨g0, 0, none⟩, 0) (by as_aux_lemma => kernel_rfl) rfl ?_ ?_
  · exact ⟨Nat.zero_le _, some g0, by simpa using hO1, hEg0, fun g' e => by cases e; omega⟩
  rintro ⟨i, A2, c2⟩ s h2 ⟨hi, og, hO, hE, hg⟩ again
  simp only at hi hO hE hg again
  by_cases hlt : i < p.length
  · have hf := fst_le (kerL p) i
    -- at 11012310211012
    refine Run.adv 29 [.dec true, .val (.int .i64 (fstK (kerL p) i : Int))] (at_ Tryz.f70 [1,1,0,1,2,3,1,0,2,1,1,0,1,2]) [(0, .slice A p.length c), (3, .slice A2 i c2), (4, .int .i64 (i : Int)), (5, .int .i64 (fstK (kerL p) i : Int)), (6, .int .i64 0), (7, .int .i64 0)]
      ((decide ((i : Int) < (p.length : Int))) = true ∧ (Ct Tryz.prog 94 #[.slice A p.length c, .int .i64 (i : Int)] h2 (fun v_ h_ => v_ = .int .i64 (fstK (kerL p) i : Int) ∧ h_ = h2)))
      (by as_aux_lemma => kernel_rfl) ⟨(by first | assumption | exact decide_eq_true (by first | omega | assumption)), (First_ct _ _ _ _ _ (hx.ext hE) hlt)⟩ fun s_ => ?_
    refine Run.loop (at_ Tryz.f70 [1,1,0,1,2,3,1,0,2,1,1,0,1,2,3]) (at_ Tryz.f70 [1,1,0,1,2,3,1,0,2,1,1,0,1,2,7]) (fun (⟨k, m⟩ : Nat × Nat) => [(0, .slice A p.length c), (3, .slice A2 i c2), (4, .int .i64 (i : Int)), (5, .int .i64 (fstK (kerL p) i : Int)), (6, .int .i64 (m : Int)), (7, .int .i64 (k : Int))])
      (fun ⟨k, m⟩ h3 => h3 = h2 ∧ k ≤ fstK (kerL p) i ∧ m = cntK (kerL p) k) (fun ⟨k, m⟩ => fstK (kerL p) i - k) (0, 0) (by as_aux_lemma => kernel_rfl) rfl ?_ ?_
    · exact ⟨rfl, Nat.zero_le _, rfl⟩
    rintro ⟨k, m⟩ s h3 ⟨rfl, hk, hm⟩ again2
    simp only at hk hm again2
    have hcs := cnt_succ (kerL p) k
    have hcl := cnt_le (kerL p) k
    by_cases hlt2 : k < fstK (kerL p) i
    · by_cases e1 : fstK (kerL p) k = k
      · -- at 110123102110127
        refine Run.adv 31 [.dec true, .val (.int .i64 (fstK (kerL p) k : Int)), .dec true] (at_ Tryz.f70 [1,1,0,1,2,3,1,0,2,1,1,0,1,2,7]) [(0, .slice A p.length c), (3, .slice A2 i c2), (4, .int .i64 (i : Int)), (5, .int .i64 (fstK (kerL p) i : Int)), (6, .int .i64 ((m + 1 : Nat) : Int)), (7, .int .i64 ((k + 1 : Nat) : Int))]
          ((decide ((k : Int) < (fstK (kerL p) i : Int))) = true ∧ (Ct Tryz.prog 94 #[.slice A p.length c, .int .i64 (k : Int)] h3 (fun v_ h_ => v_ = .int .i64 (fstK (kerL p) k : Int) ∧ h_ = h3)) ∧ ((fstK (kerL p) k : Int) == (k : Int)) = true ∧ (-9223372036854775808 ≤ (m : Int) + 1 ∧ (m : Int) + 1 ≤ 9223372036854775807) ∧ (-9223372036854775808 ≤ (k : Int) + 1 ∧ (k : Int) + 1 ≤ 9223372036854775807))
          (by as_aux_lemma => kernel_rfl) ⟨(by first | assumption | exact decide_eq_true (by first | omega | assumption)), (First_ct _ _ _ _ _ (hx.ext hE) (by omega)), (beq_iff_eq.2 (by first | omega | assumption)), ⟨by omega, by omega⟩, ⟨by omega, by omega⟩⟩ fun s_ => ?_
        rw [if_pos e1] at hcs
        exact again2 (k + 1, m + 1) _ _ ⟨rfl, by simp only; omega, by simp only; omega⟩ (by simp only; omega)
      · -- at 110123102110127
        refine Run.adv 27 [.dec true, .val (.int .i64 (fstK (kerL p) k : Int)), .dec false] (at_ Tryz.f70 [1,1,0,1,2,3,1,0,2,1,1,0,1,2,7]) [(0, .slice A p.length c), (3, .slice A2 i c2), (4, .int .i64 (i : Int)), (5, .int .i64 (fstK (kerL p) i : Int)), (6, .int .i64 (m : Int)), (7, .int .i64 ((k + 1 : Nat) : Int))]
          ((decide ((k : Int) < (fstK (kerL p) i : Int))) = true ∧ (Ct Tryz.prog 94 #[.slice A p.length c, .int .i64 (k : Int)] h3 (fun v_ h_ => v_ = .int .i64 (fstK (kerL p) k : Int) ∧ h_ = h3)) ∧ ((fstK (kerL p) k : Int) == (k : Int)) = false ∧ (-9223372036854775808 ≤ (k : Int) + 1 ∧ (k : Int) + 1 ≤ 9223372036854775807))
          (by as_aux_lemma => kernel_rfl) ⟨(by first | assumption | exact decide_eq_true (by first | omega | assumption)), (First_ct _ _ _ _ _ (hx.ext hE) (by omega)), (beq_eq_false_iff_ne.2 (by first | omega | assumption)), ⟨by omega, by omega⟩⟩ fun s_ => ?_
        rw [if_neg e1] at hcs
        exact again2 (k + 1, m) _ _ ⟨rfl, by simp only; omega, by simp only; omega⟩ (by simp only; omega)
    · have hke : k = fstK (kerL p) i := by omega
      -- at 11012310211182
      refine Run.adv 12 [.dec false] (at_ Tryz.f70 [1,1,0,1,2,3,1,0,2,1,1,1,8,2]) [(0, .slice A p.length c), (3, .slice A2 i c2), (4, .int .i64 (i : Int)), (30, .slice A2 i c2), (31, .int .i64 (m : Int))]
        ((decide ((k : Int) < (fstK (kerL p) i : Int))) = false)
        (by as_aux_lemma => kernel_rfl) (by first | assumption | exact decide_eq_false (by first | omega | assumption)) fun s_ => ?_
      refine Run.new #[.int .i64 (m : Int)] 3 (fun g_ => .slice (some ⟨g_, 0, none⟩) 1 1) (some 32) (at_ Tryz.f70 [1,1,0,1,2,3,1,0,2,1,1,1,8,3]) (by as_aux_lemma => kernel_rfl) fun g3 h4 hng3 hEg3 hBg3 => ?_
      refine Run.append (.slice A2 i c2) (.slice (some ⟨g3, 0, none⟩) 1 1) 3 (some 33) (at_ Tryz.f70 [1,1,0,1,2,3,1,0,2,1,1,1,8,4]) 1 8 (by as_aux_lemma => kernel_rfl) (by as_aux_lemma => kernel_rfl) (by decide) (hO.ext hEg3) (Src.row (hBg3.all (Ext.refl _)) rfl) (by rfl) rfl (by omega) fun A4 c4 h5 og4 hOA4 hMh5 hgA4 => ?_
      have hEh_h5 := hMh5.ext (hE.trans hEg3) (by exact hg)
      -- at 110127
      refine Run.adv 8 [] (at_ Tryz.f70 [1,1,0,1,2,7]) [(0, .slice A p.length c), (3, .slice A4 (i + 1) c4), (4, .int .i64 ((i + 1 : Nat) : Int))]
        ((-9223372036854775808 ≤ (i : Int) + 1 ∧ (i : Int) + 1 ≤ 9223372036854775807))
        (by as_aux_lemma => kernel_rfl) ⟨by omega, by omega⟩ fun s_ => ?_
      refine again (i + 1, A4, c4) _ _ ⟨hlt, og4, ?_, hEh_h5, fun g' e => ?_⟩ (by simp only; omega)
      · rw [take_snoc 0 (plainL p) i (by omega), List.map_append]
        have : (plainL p).getD ((i : Int).toNat) 0 = (m : Int) := by rw [hm, hke, Int.toNat_natCast]; exact plainK_at (R := kerL p) hlt
        rw [this]
        exact hOA4
      · have := hE.size
        have := hEg3.size
        rcases hgA4 with rfl | rfl
        · exact hg g' e
        · cases e; omega
  · -- at 1111
    refine Run.adv 15 [.dec false] (at_ Tryz.f70 [1,1,1,1]) [(2, .slice A2 i c2)]
      ((decide ((i : Int) < (p.length : Int))) = false)
      (by as_aux_lemma => kernel_rfl) (by first | assumption | exact decide_eq_false (by first | omega | assumption)) fun s_ => ?_
    refine Run.ret [] (.slice A2 i c2) (True) Tryz.func70 (by as_aux_lemma => kernel_rfl) (by as_aux_lemma => kernel_rfl) trivial ?_
    obtain rfl : i = p.length := by omega
    rw [List.take_of_length_le (by omega), ← hpl] at hO
    rw [← hpl]
    exact ⟨og, hO, hE, hg⟩
/-- Is a partition finer than another one? -/
noncomputable def finerB (p q : List Int) : Bool := tv (∀ i k : Nat, i < p.length → k < i → rd p i = rd p k → rd q i = rd q k)
/-- Where edges of a label lead from a node. -/
def succL (es : List Ed) (a b : Int) : List Int := (es.filter fun e => decide (e.1 = a ∧ e.2.1 = b)).map (·.2.2)
theorem succL_snoc (es : List Ed) (e : Ed) (a b : Int) : succL (es ++ [e]) a b = if e.1 = a ∧ e.2.1 = b then succL es a b ++ [e.2.2] else succL es a b := by
  unfold succL
  rw [List.filter_append, List.map_append]
  by_cases h : e.1 = a ∧ e.2.1 = b <;> simp [h]
theorem succL_len (es : List Ed) (a b : Int) : (succL es a b).length ≤ es.length := by
  unfold succL; rw [List.length_map]; exact List.length_filter_le _ _
theorem take_ed (es : List Ed) (i : Nat) (hi : i < es.length) : es.take (i + 1) = es.take i ++ [ed es (i : Int)] := take_snoc (0, 0, 0) es i hi
theorem Succ_ct (A1 A2 : Option Addr) (c1 c2 : Nat) (l : Lt) (x y : Int) (h : Heap) (hx : LtAt h l A1 c1 A2 c2) (hl : l.es.length ≤ 1000000) :
    Ct Tryz.prog 46 #[.agg #[.int .i64 l.n, .slice A1 l.ls.length c1, .slice A2 l.es.length c2], .int .i64 x, .int .i64 y] h
      (fun v h' => ∃ og, Own h' 3 1 v (succL l.es x y).length ((succL l.es x y).map (Value.int .i64)) og ∧ Ext h h' ∧ ∀ g, og = some g → h.size ≤ g) := by
  refine Ct.enter (args := [.agg #[.int .i64 l.n, .slice A1 l.ls.length c1, .slice A2 l.es.length c2], .int .i64 x, .int .i64 y]) Tryz.func46 rfl Tryz.ntmps46 (by simp) fun w hw => ?_
  -- at 080
  refine Run.adv 2 [] (at_ Tryz.f46 [0,8,0]) [(0, .agg #[.int .i64 l.n, .slice A1 l.ls.length c1, .slice A2 l.es.length c2]), (1, .int .i64 x), (2, .int .i64 y)]
    (True)
    (by as_aux_lemma => kernel_rfl) trivial fun s_ => ?_
  refine Run.new #[.int .i64 l.n, .slice A1 l.ls.length c1, .slice A2 l.es.length c2] 25 (fun g_ => .pointer (some ⟨g_, 0, none⟩)) (some 3) (at_ Tryz.f46 [0,8,1]) (by as_aux_lemma => kernel_rfl) fun g1 h1 hng1 hEg1 hBg1 => ?_
  -- at 1080
  refine Run.adv 4 [] (at_ Tryz.f46 [1,0,8,0]) [(0, .agg #[.int .i64 l.n, .slice A1 l.ls.length c1, .slice A2 l.es.length c2]), (1, .int .i64 x), (2, .int .i64 y), (3, .pointer (some ⟨g1, 0, none⟩)), (6, .slice none 0 0)]
    (True)
    (by as_aux_lemma => kernel_rfl) trivial fun s_ => ?_
  refine Run.new #[] 3 (fun g_ => .slice (some ⟨g_, 0, none⟩) 0 0) (some 9) (at_ Tryz.f46 [1,0,8,1]) (by as_aux_lemma => kernel_rfl) fun g0 h2 hng0 hEg0 hBg0 => ?_
  have hO1 := Own.of_blk (sz := 1) (n := 0) hBg0 rfl
  -- at 11012
  refine Run.adv 8 [] (at_ Tryz.f46 [1,1,0,1,2]) [(1, .int .i64 x), (2, .int .i64 y), (3, .pointer (some ⟨g1, 0, none⟩)), (7, .slice (some ⟨g0, 0, none⟩) 0 0), (8, .int .i64 0)]
    (True)
    (by as_aux_lemma => kernel_rfl) trivial fun s_ => ?_
  refine Run.loop (at_ Tryz.f46 [1,1,0,1,2,3]) (at_ Tryz.f46 [1,1,0,1,2,7]) (fun (⟨i, A3, m, c3⟩ : Nat × Option Addr × Nat × Nat) => [(1, .int .i64 x), (2, .int .i64 y), (3, .pointer (some ⟨g1, 0, none⟩)), (7, .slice A3 m c3), (8, .int .i64 (i : Int))])
    (fun ⟨i, A3, m, c3⟩ h3 => i ≤ l.es.length ∧ m = (succL (l.es.take i) x y).length ∧ ∃ og, Own h3 3 1 (.slice A3 m c3) m ((succL (l.es.take i) x y).map (Value.int .i64)) og ∧ Ext h1 h3 ∧ ∀ g', og = some g' → h1.size ≤ g') (fun ⟨i, A3, m, c3⟩ => l.es.length - i) (0, some ⟨g0, 0, none⟩, 0, 0) (by as_aux_lemma => kernel_rfl) rfl ?_ ?_
  · exact ⟨Nat.zero_le _, rfl, some g0, by simpa [succL] using hO1, hEg0, fun g' e => by cases e; omega⟩
  rintro ⟨i, A3, m, c3⟩ s h3 ⟨hi, hm, og, hO, hE, hg⟩ again
  simp only at hi hm hO hE hg again
  have hE2 := hEg1.trans hE
  have hml := succL_len (l.es.take i) x y
  rw [List.length_take] at hml
  by_cases hlt : i < l.es.length
  · obtain ⟨b, off, rfl, hp⟩ := hx.es.open_ (by omega)
    have hsn := succL_snoc (l.es.take i) (ed l.es (i : Int)) x y
    rw [← take_ed l.es i hlt] at hsn
    by_cases e1 : (ed l.es (i : Int)).1 = x
    · by_cases e2 : (ed l.es (i : Int)).2.1 = y
      · rw [if_pos ⟨e1, e2⟩] at hsn
        -- at 1101231021487
        refine Run.adv 43 [.val (.slice (some ⟨b, off, none⟩) l.es.length c2), .dec true, .val (.slice (some ⟨b, off, none⟩) l.es.length c2), .val (.int .i64 ((ed l.es (i : Int)).1)), .dec true, .lit, .val (.slice (some ⟨b, off, none⟩) l.es.length c2), .lit, .lit, .lit, .lit, .val (.int .i64 ((ed l.es (i : Int)).2.1)), .lit, .lit, .dec true, .val (.slice (some ⟨b, off, none⟩) l.es.length c2), .val (.int .i64 ((ed l.es (i : Int)).2.2))] (at_ Tryz.f46 [1,1,0,1,2,3,1,0,2,1,4,8,7]) [(1, .int .i64 x), (2, .int .i64 y), (3, .pointer (some ⟨g1, 0, none⟩)), (7, .slice A3 m c3), (8, .int .i64 (i : Int)), (35, .slice A3 m c3), (41, .int .i64 ((ed l.es (i : Int)).2.2))]
          (cellH h3 ⟨g1, 2, none⟩ = some (.slice (some ⟨b, off, none⟩) l.es.length c2) ∧ (decide ((i : Int) < (l.es.length : Int))) = true ∧ cellH h3 ⟨g1, 2, none⟩ = some (.slice (some ⟨b, off, none⟩) l.es.length c2) ∧ (0 ≤ (i : Int) ∧ (i : Int) < (l.es.length : Int)) ∧ cellH h3 ⟨b, off + (i : Int).toNat * 3, none⟩ = some (.int .i64 ((ed l.es (i : Int)).1)) ∧ (((ed l.es (i : Int)).1) == x) = true ∧ cellH h3 ⟨g1, 2, none⟩ = some (.slice (some ⟨b, off, none⟩) l.es.length c2) ∧ (0 ≤ (i : Int) ∧ (i : Int) < (l.es.length : Int)) ∧ cellH h3 ⟨b, off + (i : Int).toNat * 3 + 1, none⟩ = some (.int .i64 ((ed l.es (i : Int)).2.1)) ∧ (((ed l.es (i : Int)).2.1) == y) = true ∧ cellH h3 ⟨g1, 2, none⟩ = some (.slice (some ⟨b, off, none⟩) l.es.length c2) ∧ (0 ≤ (i : Int) ∧ (i : Int) < (l.es.length : Int)) ∧ cellH h3 ⟨b, off + (i : Int).toNat * 3 + 2, none⟩ = some (.int .i64 ((ed l.es (i : Int)).2.2)))
          (by as_aux_lemma => kernel_rfl) ⟨(hBg1.at hE 2 rfl), (by first | assumption | exact decide_eq_true (by first | omega | assumption)), (hBg1.at hE 2 rfl), ⟨by omega, by omega⟩, (hp _ hE2 (i : Int) (by omega) (by omega)).1, (beq_iff_eq.2 (by first | omega | assumption)), (hBg1.at hE 2 rfl), ⟨by omega, by omega⟩, (hp _ hE2 (i : Int) (by omega) (by omega)).2.1, (beq_iff_eq.2 (by first | omega | assumption)), (hBg1.at hE 2 rfl), ⟨by omega, by omega⟩, (hp _ hE2 (i : Int) (by omega) (by omega)).2.2.1⟩ fun s_ => ?_
        refine Run.new #[.int .i64 ((ed l.es (i : Int)).2.2)] 3 (fun g_ => .slice (some ⟨g_, 0, none⟩) 1 1) (some 42) (at_ Tryz.f46 [1,1,0,1,2,3,1,0,2,1,4,8,8]) (by as_aux_lemma => kernel_rfl) fun g3 h4 hng3 hEg3 hBg3 => ?_
        refine Run.append (.slice A3 m c3) (.slice (some ⟨g3, 0, none⟩) 1 1) 3 (some 43) (at_ Tryz.f46 [1,1,0,1,2,3,1,0,2,1,4,8,9]) 1 8 (by as_aux_lemma => kernel_rfl) (by as_aux_lemma => kernel_rfl) (by decide) (hO.ext hEg3) (Src.row (hBg3.all (Ext.refl _)) rfl) (by rfl) rfl (by omega) fun A4 c4 h5 og4 hOA4 hMh5 hgA4 => ?_
        have hEh1_h5 := hMh5.ext (hE.trans hEg3) (by exact hg)
        -- at 110127
        refine Run.adv 8 [] (at_ Tryz.f46 [1,1,0,1,2,7]) [(1, .int .i64 x), (2, .int .i64 y), (3, .pointer (some ⟨g1, 0, none⟩)), (7, .slice A4 (m + 1) c4), (8, .int .i64 ((i + 1 : Nat) : Int))]
          ((-9223372036854775808 ≤ (i : Int) + 1 ∧ (i : Int) + 1 ≤ 9223372036854775807))
          (by as_aux_lemma => kernel_rfl) ⟨by omega, by omega⟩ fun s_ => ?_
        refine again (i + 1, A4, m + 1, c4) _ _ ⟨hlt, ?_, og4, ?_, hEh1_h5, fun g' e => ?_⟩ (by simp only; omega)
        · simp only; rw [hsn]; simp [hm]
        · simp only; rw [hsn, List.map_append]; exact hOA4
        · have := hE.size
          have := hEg3.size
          rcases hgA4 with rfl | rfl
          · exact hg g' e
          · cases e; omega
      · rw [if_neg (fun hh => e2 hh.2)] at hsn
        -- at 110127
        refine Run.adv 42 [.val (.slice (some ⟨b, off, none⟩) l.es.length c2), .dec true, .val (.slice (some ⟨b, off, none⟩) l.es.length c2), .val (.int .i64 ((ed l.es (i : Int)).1)), .dec true, .lit, .val (.slice (some ⟨b, off, none⟩) l.es.length c2), .lit, .lit, .lit, .lit, .val (.int .i64 ((ed l.es (i : Int)).2.1)), .lit, .lit, .dec false] (at_ Tryz.f46 [1,1,0,1,2,7]) [(1, .int .i64 x), (2, .int .i64 y), (3, .pointer (some ⟨g1, 0, none⟩)), (7, .slice A3 m c3), (8, .int .i64 ((i + 1 : Nat) : Int))]
          (cellH h3 ⟨g1, 2, none⟩ = some (.slice (some ⟨b, off, none⟩) l.es.length c2) ∧ (decide ((i : Int) < (l.es.length : Int))) = true ∧ cellH h3 ⟨g1, 2, none⟩ = some (.slice (some ⟨b, off, none⟩) l.es.length c2) ∧ (0 ≤ (i : Int) ∧ (i : Int) < (l.es.length : Int)) ∧ cellH h3 ⟨b, off + (i : Int).toNat * 3, none⟩ = some (.int .i64 ((ed l.es (i : Int)).1)) ∧ (((ed l.es (i : Int)).1) == x) = true ∧ cellH h3 ⟨g1, 2, none⟩ = some (.slice (some ⟨b, off, none⟩) l.es.length c2) ∧ (0 ≤ (i : Int) ∧ (i : Int) < (l.es.length : Int)) ∧ cellH h3 ⟨b, off + (i : Int).toNat * 3 + 1, none⟩ = some (.int .i64 ((ed l.es (i : Int)).2.1)) ∧ (((ed l.es (i : Int)).2.1) == y) = false ∧ (-9223372036854775808 ≤ (i : Int) + 1 ∧ (i : Int) + 1 ≤ 9223372036854775807))
          (by as_aux_lemma => kernel_rfl) ⟨(hBg1.at hE 2 rfl), (by first | assumption | exact decide_eq_true (by first | omega | assumption)), (hBg1.at hE 2 rfl), ⟨by omega, by omega⟩, (hp _ hE2 (i : Int) (by omega) (by omega)).1, (beq_iff_eq.2 (by first | omega | assumption)), (hBg1.at hE 2 rfl), ⟨by omega, by omega⟩, (hp _ hE2 (i : Int) (by omega) (by omega)).2.1, (beq_eq_false_iff_ne.2 (by first | omega | assumption)), ⟨by omega, by omega⟩⟩ fun s_ => ?_
        refine again (i + 1, A3, m, c3) _ _ ⟨hlt, ?_, og, ?_, hE, hg⟩ (by simp only; omega)
        · simp only; rw [hsn]; exact hm
        · simp only; rw [hsn]; exact hO
    · rw [if_neg (fun hh => e1 hh.1)] at hsn
      -- at 110127
      refine Run.adv 42 [.val (.slice (some ⟨b, off, none⟩) l.es.length c2), .dec true, .val (.slice (some ⟨b, off, none⟩) l.es.length c2), .val (.int .i64 ((ed l.es (i : Int)).1)), .dec false, .lit, .lit, .lit, .lit, .lit, .lit, .lit, .lit] (at_ Tryz.f46 [1,1,0,1,2,7]) [(1, .int .i64 x), (2, .int .i64 y), (3, .pointer (some ⟨g1, 0, none⟩)), (7, .slice A3 m c3), (8, .int .i64 ((i + 1 : Nat) : Int))]
        (cellH h3 ⟨g1, 2, none⟩ = some (.slice (some ⟨b, off, none⟩) l.es.length c2) ∧ (decide ((i : Int) < (l.es.length : Int))) = true ∧ cellH h3 ⟨g1, 2, none⟩ = some (.slice (some ⟨b, off, none⟩) l.es.length c2) ∧ (0 ≤ (i : Int) ∧ (i : Int) < (l.es.length : Int)) ∧ cellH h3 ⟨b, off + (i : Int).toNat * 3, none⟩ = some (.int .i64 ((ed l.es (i : Int)).1)) ∧ (((ed l.es (i : Int)).1) == x) = false ∧ (-9223372036854775808 ≤ (i : Int) + 1 ∧ (i : Int) + 1 ≤ 9223372036854775807))
        (by as_aux_lemma => kernel_rfl) ⟨(hBg1.at hE 2 rfl), (by first | assumption | exact decide_eq_true (by first | omega | assumption)), (hBg1.at hE 2 rfl), ⟨by omega, by omega⟩, (hp _ hE2 (i : Int) (by omega) (by omega)).1, (beq_eq_false_iff_ne.2 (by first | omega | assumption)), ⟨by omega, by omega⟩⟩ fun s_ => ?_
      refine again (i + 1, A3, m, c3) _ _ ⟨hlt, ?_, og, ?_, hE, hg⟩ (by simp only; omega)
      · simp only; rw [hsn]; exact hm
      · simp only; rw [hsn]; exact hO
  · -- at 1111
    refine Run.adv 16 [.val (.slice A2 l.es.length c2), .dec false] (at_ Tryz.f46 [1,1,1,1]) [(6, .slice A3 m c3)]
      (cellH h3 ⟨g1, 2, none⟩ = some (.slice A2 l.es.length c2) ∧ (decide ((i : Int) < (l.es.length : Int))) = false)
      (by as_aux_lemma => kernel_rfl) ⟨(hBg1.at hE 2 rfl), (by first | assumption | exact decide_eq_false (by first | omega | assumption))⟩ fun s_ => ?_
    refine Run.ret [] (.slice A3 m c3) (True) Tryz.func46 (by as_aux_lemma => kernel_rfl) (by as_aux_lemma => kernel_rfl) trivial ?_
    obtain rfl : i = l.es.length := by omega
    rw [List.take_length] at hO hm
    subst hm
    exact ⟨og, hO, hE2, fun g' e => by have := hg g' e; have := hEg1.size; omega⟩
theorem mem_rawW_succ {es : List Ed} {p : List Int} {i : Int} {w : Wy} : w ∈ rawW es p i ↔ ∃ t ∈ succL es i w.1, rd p t = w.2 := by
  rw [mem_rawW]
  unfold succL
  simp only [List.mem_map, List.mem_filter, decide_eq_true_eq]
  constructor
  · rintro ⟨e, he, h1, h2, h3⟩; exact ⟨e.2.2, ⟨e, ⟨he, h1, h2⟩, rfl⟩, h3⟩
  · rintro ⟨t, ⟨e, ⟨he, h1, h2⟩, rfl⟩, h3⟩; exact ⟨e, he, h1, h2, h3⟩
theorem succL_range {l : Lt} (hm : May l) {p : List Int} (hn : (p.length : Int) = l.n) {a b : Int} {t : Int} (ht : t ∈ succL l.es a b) : 0 ≤ t ∧ t < p.length := by
  unfold succL at ht
  simp only [List.mem_map, List.mem_filter] at ht
  obtain ⟨e, ⟨he, _⟩, rfl⟩ := ht
  obtain ⟨i, h0, h1, e1⟩ := (mem_iff (0, 0, 0) e l.es).1 he
  have := (hm.es i h0 h1).1
  unfold ed EdgeMay at this
  rw [e1] at this
  omega
theorem Does_ct (A1 A2 A3 : Option Addr) (c1 c2 c3 : Nat) (l : Lt) (p : List Int) (x y z : Int) (h : Heap) (hx : LtAt h l A1 c1 A2 c2) (hp3 : Ints h A3 p c3) (hm : May l) (hn : (p.length : Int) = l.n) :
    Ct Tryz.prog 113 #[.agg #[.int .i64 l.n, .slice A1 l.ls.length c1, .slice A2 l.es.length c2], .slice A3 p.length c3, .int .i64 x, .int .i64 y, .int .i64 z] h
      (fun v h' => v = .bool (decide ((y, z) ∈ rawW l.es p x)) ∧ Ext h h') := by
  have hl := hm.len
  have h2048 := hm.n2
  refine Ct.enter (args := [.agg #[.int .i64 l.n, .slice A1 l.ls.length c1, .slice A2 l.es.length c2], .slice A3 p.length c3, .int .i64 x, .int .i64 y, .int .i64 z]) Tryz.func113 rfl Tryz.ntmps113 (by simp) fun w hw => ?_
  -- at 080
  refine Run.adv 2 [] (at_ Tryz.f113 [0,8,0]) [(0, .agg #[.int .i64 l.n, .slice A1 l.ls.length c1, .slice A2 l.es.length c2]), (1, .slice A3 p.length c3), (2, .int .i64 x), (3, .int .i64 y), (4, .int .i64 z)]
    (True)
    (by as_aux_lemma => kernel_rfl) trivial fun s_ => ?_
  refine Run.new #[.int .i64 l.n, .slice A1 l.ls.length c1, .slice A2 l.es.length c2] 25 (fun g_ => .pointer (some ⟨g_, 0, none⟩)) (some 5) (at_ Tryz.f113 [0,8,1]) (by as_aux_lemma => kernel_rfl) fun g1 h1 hng1 hEg1 hBg1 => ?_
  -- at 1083
  refine Run.adv 7 [.val (.agg #[.int .i64 l.n, .slice A1 l.ls.length c1, .slice A2 l.es.length c2])] (at_ Tryz.f113 [1,0,8,3]) [(0, .agg #[.int .i64 l.n, .slice A1 l.ls.length c1, .slice A2 l.es.length c2]), (1, .slice A3 p.length c3), (2, .int .i64 x), (3, .int .i64 y), (4, .int .i64 z), (5, .pointer (some ⟨g1, 0, none⟩)), (10, .bool false), (13, .agg #[.int .i64 l.n, .slice A1 l.ls.length c1, .slice A2 l.es.length c2]), (14, .int .i64 x), (15, .int .i64 y)]
    (cellsAt h1 ⟨g1, 0, none⟩ [.int .i64 l.n, .slice A1 l.ls.length c1, .slice A2 l.es.length c2] 0)
    (by as_aux_lemma => kernel_rfl) (hBg1.all (Ext.refl _)) fun s_ => ?_
  refine Run.call 46 #[.agg #[.int .i64 l.n, .slice A1 l.ls.length c1, .slice A2 l.es.length c2], .int .i64 x, .int .i64 y] (some 16) (at_ Tryz.f113 [1,0,8,4]) (by as_aux_lemma => kernel_rfl) (Succ_ct A1 A2 c1 c2 l x y _ (hx.ext hEg1) hl) ?_
  rintro v h2 ⟨og, hO, hE, hg⟩
  have hsl := succL_len l.es x y
  obtain ⟨A4, c4, rfl, hr⟩ := hO.row1 (d := 0) (by omega)
  -- at 11012
  refine Run.adv 8 [] (at_ Tryz.f113 [1,1,0,1,2]) [(1, .slice A3 p.length c3), (4, .int .i64 z), (11, .slice A4 ((succL l.es x y).length) c4), (12, .int .i64 0)]
    (True)
    (by as_aux_lemma => kernel_rfl) trivial fun s_ => ?_
  refine Run.loop (at_ Tryz.f113 [1,1,0,1,2,3]) (at_ Tryz.f113 [1,1,0,1,2,7]) (fun i : Nat => [(1, .slice A3 p.length c3), (4, .int .i64 z), (11, .slice A4 ((succL l.es x y).length) c4), (12, .int .i64 (i : Int))])
    (fun i h3 => h3 = h2 ∧ i ≤ (succL l.es x y).length ∧ ∀ j : Nat, j < i → rd p (rd (succL l.es x y) j) ≠ z) (fun i => (succL l.es x y).length - i) 0 (by as_aux_lemma => kernel_rfl) rfl ?_ ?_
  · exact ⟨rfl, Nat.zero_le _, fun j hj => by omega⟩
  have hE2 := hEg1.trans hE
  rintro i s h3 ⟨rfl, hi, hI⟩ again
  by_cases hlt : i < (succL l.es x y).length
  · obtain ⟨b4, off4, rfl, hp4⟩ := hr.open_ (by omega)
    have hmem : rd (succL l.es x y) i ∈ succL l.es x y := (mem_iff 0 _ _).2 ⟨i, by omega, by omega, rfl⟩
    have htr := succL_range hm hn hmem
    obtain ⟨b, off, rfl, hp⟩ := hp3.open_ (by omega)
    by_cases e1 : rd p (rd (succL l.es x y) i) = z
    · -- at 110123102141
      refine Run.adv 29 [.dec true, .val (.int .i64 (rd (succL l.es x y) (i : Int))), .val (.int .i64 (rd p (rd (succL l.es x y) (i : Int)))), .dec true] (at_ Tryz.f113 [1,1,0,1,2,3,1,0,2,1,4,1]) [(10, .bool true)]
        ((decide ((i : Int) < ((succL l.es x y).length : Int))) = true ∧ (0 ≤ (i : Int) ∧ (i : Int) < ((succL l.es x y).length : Int)) ∧ cellH h3 ⟨b4, off4 + (i : Int).toNat, none⟩ = some (.int .i64 (rd (succL l.es x y) (i : Int))) ∧ (0 ≤ rd (succL l.es x y) (i : Int) ∧ rd (succL l.es x y) (i : Int) < (p.length : Int)) ∧ cellH h3 ⟨b, off + (rd (succL l.es x y) (i : Int)).toNat, none⟩ = some (.int .i64 (rd p (rd (succL l.es x y) (i : Int)))) ∧ ((rd p (rd (succL l.es x y) (i : Int))) == z) = true)
        (by as_aux_lemma => kernel_rfl) ⟨(by first | assumption | exact decide_eq_true (by first | omega | assumption)), ⟨by omega, by omega⟩, (hp4 _ (Ext.refl _) i (by omega) (by omega)), ⟨by omega, by omega⟩, (hp _ hE2 (rd (succL l.es x y) (i : Int)) (by omega) (by omega)), (beq_iff_eq.2 (by first | omega | assumption))⟩ fun s_ => ?_
      refine Run.ret [] (.bool true) (True) Tryz.func113 (by as_aux_lemma => kernel_rfl) (by as_aux_lemma => kernel_rfl) trivial ?_
      exact ⟨by rw [decide_eq_true]; exact mem_rawW_succ.2 ⟨_, hmem, e1⟩, hE2⟩
    · -- at 110127
      refine Run.adv 32 [.dec true, .val (.int .i64 (rd (succL l.es x y) (i : Int))), .val (.int .i64 (rd p (rd (succL l.es x y) (i : Int)))), .dec false] (at_ Tryz.f113 [1,1,0,1,2,7]) [(1, .slice (some ⟨b, off, none⟩) p.length c3), (4, .int .i64 z), (11, .slice (some ⟨b4, off4, none⟩) ((succL l.es x y).length) c4), (12, .int .i64 ((i + 1 : Nat) : Int))]
        ((decide ((i : Int) < ((succL l.es x y).length : Int))) = true ∧ (0 ≤ (i : Int) ∧ (i : Int) < ((succL l.es x y).length : Int)) ∧ cellH h3 ⟨b4, off4 + (i : Int).toNat, none⟩ = some (.int .i64 (rd (succL l.es x y) (i : Int))) ∧ (0 ≤ rd (succL l.es x y) (i : Int) ∧ rd (succL l.es x y) (i : Int) < (p.length : Int)) ∧ cellH h3 ⟨b, off + (rd (succL l.es x y) (i : Int)).toNat, none⟩ = some (.int .i64 (rd p (rd (succL l.es x y) (i : Int)))) ∧ ((rd p (rd (succL l.es x y) (i : Int))) == z) = false ∧ (-9223372036854775808 ≤ (i : Int) + 1 ∧ (i : Int) + 1 ≤ 9223372036854775807))
        (by as_aux_lemma => kernel_rfl) ⟨(by first | assumption | exact decide_eq_true (by first | omega | assumption)), ⟨by omega, by omega⟩, (hp4 _ (Ext.refl _) i (by omega) (by omega)), ⟨by omega, by omega⟩, (hp _ hE2 (rd (succL l.es x y) (i : Int)) (by omega) (by omega)), (beq_eq_false_iff_ne.2 (by first | omega | assumption)), ⟨by omega, by omega⟩⟩ fun s_ => ?_
      refine again (i + 1) _ _ ⟨rfl, hlt, fun j hj => ?_⟩ (by omega)
      by_cases e2 : j = i
      · subst e2; exact e1
      · exact hI j (by omega)
  · -- at 1111
    refine Run.adv 14 [.dec false] (at_ Tryz.f113 [1,1,1,1]) [(10, .bool false)]
      ((decide ((i : Int) < ((succL l.es x y).length : Int))) = false)
      (by as_aux_lemma => kernel_rfl) (by first | assumption | exact decide_eq_false (by first | omega | assumption)) fun s_ => ?_
    refine Run.ret [] (.bool false) (True) Tryz.func113 (by as_aux_lemma => kernel_rfl) (by as_aux_lemma => kernel_rfl) trivial ?_
    refine ⟨?_, hE2⟩
    rw [decide_eq_false]
    intro hh
    obtain ⟨t, ht, he⟩ := mem_rawW_succ.1 hh
    obtain ⟨j, h0, hj, rfl⟩ := (mem_iff 0 _ _).1 ht
    obtain ⟨j, rfl⟩ := Int.eq_ofNat_of_zero_le h0
    have hj' : (j : Int) < (succL l.es x y).length := hj
    exact hI j (by omega) he
end Go.Proofs.YtbajgbkkbabmlaaGreatDoor
