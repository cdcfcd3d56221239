/- part.Plain, part.Blocks, part.Count, walked. -/
import Derived.Test.YtbajgbkkbabmlaaGreatDoorProg
import Derived.Test.YtbajgbkkbabmlaaGreatDoorVn
import Derived.Test.YtbajgbkkbabmlaaGreatDoorPq
import Derived.Test.YtbajgbkkbabmlaaGreatDoorP1
set_option linter.unusedVariables false
namespace Go.Proofs.YtbajgbkkbabmlaaGreatDoor
open Go.Vc

theorem plainP_ct (A : Option Addr) (c : Nat) (xs : List Int) (h : Heap) (hx : Ints h A xs c) (hl : xs.length ≤ 1000000) :
    Ct Tryz.prog 81 #[.slice A xs.length c] h (fun v h' => ∃ og, Own h' 3 1 v (plainL xs).length ((plainL xs).map (Value.int .i64)) og ∧ Ext h h' ∧ ∀ g, og = some g → h.size ≤ g) := by
  refine Ct.enter (args := [.slice A xs.length c]) Tryz.func81 rfl Tryz.ntmps81 (by simp) fun w hw => ?_
  -- at 1081
  refine Run.adv 7 [] (at_ Tryz.f81 [1,0,8,1]) [(0, .slice A xs.length c), (2, .slice none 0 0), (3, .slice A xs.length c)]
    (True)
    (by as_aux_lemma => kernel_rfl) trivial fun s_ => ?_
  refine Run.call 106 #[.slice A xs.length c] (some 4) (at_ Tryz.f81 [1,0,8,2]) (by as_aux_lemma => kernel_rfl) (number_ct A c xs _ hx hl) ?_
  rintro v h1 ⟨og, hO, hE, hg⟩
  rw [numF_plain, ← plainL_len xs] at hO
  obtain ⟨A2, c2, rfl⟩ := hO.slice
  -- at 11
  refine Run.adv 2 [] (at_ Tryz.f81 [1,1]) [(2, .slice A2 ((plainL xs).length) c2)]
    (True)
    (by as_aux_lemma => kernel_rfl) trivial fun s_ => ?_
  refine Run.ret [] (.slice A2 ((plainL xs).length) c2) (True) Tryz.func81 (by as_aux_lemma => kernel_rfl) (by as_aux_lemma => kernel_rfl) trivial ?_
  exact ⟨og, hO, hE, hg⟩
theorem blocks_ct (A : Option Addr) (c : Nat) (p : List Int) (h : Heap) (hx : Ints h A p c) (hl : p.length ≤ 1000000) :
    Ct Tryz.prog 84 #[.slice A p.length c] h (fun v h' => ∃ og vs, Own h' 58 1 v (cntL p) vs og ∧ Ext h h') := by
  have hpl := plainL_len p
  refine Ct.enter (args := [.slice A p.length c]) Tryz.func84 rfl Tryz.ntmps84 (by simp) fun w hw => ?_
  -- at 110081
  refine Run.adv 12 [] (at_ Tryz.f84 [1,1,0,0,8,1]) [(0, .slice A p.length c), (2, .slice none 0 0), (3, .slice none 0 0), (6, .slice A p.length c)]
    (True)
    (by as_aux_lemma => kernel_rfl) trivial fun s_ => ?_
  refine Run.call 81 #[.slice A p.length c] (some 7) (at_ Tryz.f84 [1,1,0,0,8,2]) (by as_aux_lemma => kernel_rfl) (plainP_ct A c p _ hx hl) ?_
  rintro v h1 ⟨og7, hO7, hE7, hg7⟩
  obtain ⟨A7, c7, rfl, hr7⟩ := hO7.row1 (d := 0) (by omega)
  -- at 11012
  refine Run.adv 4 [] (at_ Tryz.f84 [1,1,0,1,2]) [(3, .slice none 0 0), (7, .slice A7 ((plainL p).length) c7), (8, .int .i64 ((plainL p).length : Int)), (9, .int .i64 0)]
    (True)
    (by as_aux_lemma => kernel_rfl) trivial fun s_ => ?_
  refine Run.loop (at_ Tryz.f84 [1,1,0,1,2,3]) (at_ Tryz.f84 [1,1,0,1,2,7]) (fun (⟨i, A2, m, c2⟩ : Nat × Option Addr × Nat × Nat) => [(3, .slice A2 m c2), (7, .slice A7 ((plainL p).length) c7), (8, .int .i64 ((plainL p).length : Int)), (9, .int .i64 (i : Int))])
    (fun ⟨i, A2, m, c2⟩ h2 => i ≤ p.length ∧ m = cntK (kerL p) i ∧ ∃ og vs xss, Own h2 58 1 (.slice A2 m c2) m vs og ∧ Nest h2 3 1 (fun xs : List Int => xs.map (Value.int .i64)) h1.size og vs xss ∧ xss.length = m ∧ (∀ j, (xss.getD j []).length ≤ i) ∧ Ext h1 h2 ∧ ∀ g', og = some g' → h1.size ≤ g') (fun ⟨i, A2, m, c2⟩ => p.length - i) (0, none, 0, 0) (by as_aux_lemma => kernel_rfl) rfl ?_ ?_
  · exact ⟨Nat.zero_le _, rfl, none, [], [], Own.nil _ _ _, Nest.nil, rfl, by simp, Ext.refl _, by simp⟩
  rintro ⟨i, A2, m, c2⟩ s h2 ⟨hi, hm, og, vs, xss, hO, hN, hxm, hxl, hE, hg⟩ again
  simp only at hi hm hO hN hxm hxl hE hg again
  have hml := cnt_le (kerL p) i
  have hvl := hO.cslen
  by_cases hlt : i < p.length
  · obtain ⟨b, off, rfl, hp7⟩ := hr7.open_ (by omega)
    have hv : rd (plainL p) (i : Int) = (cntK (kerL p) (fstK (kerL p) i) : Int) := by rw [rd_nat]; exact plainK_at hlt
    have hcs := cnt_succ (kerL p) i
    have hld : cellH h2 ⟨b, off + (i : Int).toNat, none⟩ = some (.int .i64 (cntK (kerL p) (fstK (kerL p) i) : Int)) := by rw [← hv]; exact hp7 _ hE i (by omega) (by omega)
    by_cases hf : fstK (kerL p) i = i
    · rw [hf] at hld
      rw [if_pos hf] at hcs
      have hjm : (cntK (kerL p) i : Int) = (m : Int) := by omega
      -- at 1101231102101481
      refine Run.adv 28 [.dec true, .val (.int .i64 (cntK (kerL p) i : Int)), .dec true] (at_ Tryz.f84 [1,1,0,1,2,3,1,1,0,2,1,0,1,4,8,1]) [(3, .slice A2 m c2), (4, .int .i64 (i : Int)), (5, .int .i64 (cntK (kerL p) i : Int)), (7, .slice (some ⟨b, off, none⟩) ((plainL p).length) c7), (8, .int .i64 ((plainL p).length : Int)), (9, .int .i64 (i : Int)), (18, .slice A2 m c2)]
        ((decide ((i : Int) < ((plainL p).length : Int))) = true ∧ (0 ≤ (i : Int) ∧ (i : Int) < ((plainL p).length : Int)) ∧ cellH h2 ⟨b, off + (i : Int).toNat, none⟩ = some (.int .i64 (cntK (kerL p) i : Int)) ∧ ((cntK (kerL p) i : Int) == (m : Int)) = true)
        (by as_aux_lemma => kernel_rfl) ⟨(by first | assumption | exact decide_eq_true (by first | omega | assumption)), ⟨by omega, by omega⟩, (hld), (beq_iff_eq.2 (by first | omega | assumption))⟩ fun s_ => ?_
      refine Run.new #[.slice none 0 0] 58 (fun g_ => .slice (some ⟨g_, 0, none⟩) 1 1) (some 19) (at_ Tryz.f84 [1,1,0,1,2,3,1,1,0,2,1,0,1,4,8,2]) (by as_aux_lemma => kernel_rfl) fun g3 h3 hng3 hEg3 hBg3 => ?_
      refine Run.append (.slice A2 m c2) (.slice (some ⟨g3, 0, none⟩) 1 1) 58 (some 20) (at_ Tryz.f84 [1,1,0,1,2,3,1,1,0,2,1,0,1,4,8,3]) 1 24 (by as_aux_lemma => kernel_rfl) (by as_aux_lemma => kernel_rfl) (by decide) (hO.ext hEg3) (Src.row (hBg3.all (Ext.refl _)) rfl) (by rfl) rfl (by omega) fun A4 c4 h4 og4 hOA4 hMh4 hgA4 => ?_
      have hEh1_h4 := hMh4.ext (hE.trans hEg3) (by exact hg)
      have N4 := ((hN.ext hEg3).outer hMh4 hgA4).push rfl
      obtain ⟨g, rfl⟩ := hOA4.pos (by omega)
      obtain ⟨rfl, hc4⟩ := hOA4.addr
      have hgh : h1.size ≤ g := by
        rcases hgA4 with e | e
        · exact hg g e.symm
        · cases e; have := hE.size; have := hEg3.size; omega
      have hjl : m < (xss ++ [[]]).length := by simp; omega
      obtain ⟨o, hOi, hob, -⟩ := N4.open_ hjl
      obtain ⟨A5, c5, hv5⟩ := hOi.slice
      have hlo : ((xss ++ [[]]).getD m []).length ≤ i := by rw [getD_snoc, if_pos hxm.symm]; simp
      have hhd : cellH h4 ⟨g, 0 + (cntK (kerL p) i : Int).toNat, none⟩ = some (.slice A5 ((xss ++ [[]]).getD m []).length c5) := by
        have := hOA4.cell (getD_some undef (show m < (vs ++ [Value.slice none 0 0]).length by simp; omega))
        rw [hv5] at this
        simpa [← hm] using this
      -- at 11012311021187
      refine Run.adv 10 [.val (.slice A5 (((xss ++ [[]]).getD m []).length) c5)] (at_ Tryz.f84 [1,1,0,1,2,3,1,1,0,2,1,1,8,7]) [(3, .slice (some ⟨g, 0, none⟩) (m + 1) c4), (7, .slice (some ⟨b, off, none⟩) ((plainL p).length) c7), (8, .int .i64 ((plainL p).length : Int)), (9, .int .i64 (i : Int)), (21, .slice (some ⟨g, 0, none⟩) (m + 1) c4), (22, .int .i64 (cntK (kerL p) i : Int)), (26, .slice A5 (((xss ++ [[]]).getD m []).length) c5), (27, .int .i64 (i : Int))]
        ((0 ≤ (cntK (kerL p) i : Int) ∧ (cntK (kerL p) i : Int) < (m + 1 : Int)) ∧ cellH h4 ⟨g, 0 + (cntK (kerL p) i : Int).toNat, none⟩ = some (.slice A5 (((xss ++ [[]]).getD m []).length) c5))
        (by as_aux_lemma => kernel_rfl) ⟨⟨by omega, by omega⟩, (hhd)⟩ fun s_ => ?_
      refine Run.new #[.int .i64 (i : Int)] 3 (fun g_ => .slice (some ⟨g_, 0, none⟩) 1 1) (some 28) (at_ Tryz.f84 [1,1,0,1,2,3,1,1,0,2,1,1,8,8]) (by as_aux_lemma => kernel_rfl) fun g6 h6 hng6 hEg6 hBg6 => ?_
      obtain ⟨o', hOi', hob', hup⟩ := (N4.ext hEg6).open_ hjl
      rw [hv5] at hOi'
      refine Run.append (.slice A5 (((xss ++ [[]]).getD m []).length) c5) (.slice (some ⟨g6, 0, none⟩) 1 1) 3 (some 29) (at_ Tryz.f84 [1,1,0,1,2,3,1,1,0,2,1,1,8,9]) 1 8 (by as_aux_lemma => kernel_rfl) (by as_aux_lemma => kernel_rfl) (by decide) hOi' (Src.row (hBg6.all (Ext.refl _)) rfl) (by rfl) rfl (by omega) fun A8 c8 h8 og8 hOA8 hMh8 hgA8 => ?_
      have hEh1_h8 := hMh8.ext (hEh1_h4.trans hEg6) (by exact fun g e => (hob' g e).1)
      have hO8 := (hOA4.ext hEg6).mod hMh8 (.inr fun e => by cases o' with | none => cases e | some g' => exact (hob' g' rfl).2.1 e)
      -- at 110123110211810
      refine Run.adv 1 [] (at_ Tryz.f84 [1,1,0,1,2,3,1,1,0,2,1,1,8,10]) [(3, .slice (some ⟨g, 0, none⟩) (m + 1) c4), (7, .slice (some ⟨b, off, none⟩) ((plainL p).length) c7), (8, .int .i64 ((plainL p).length : Int)), (9, .int .i64 (i : Int)), (29, .slice A8 ((((xss ++ [[]]).getD m []).length) + 1) c8), (30, .pointer (some ⟨g, 0 + (cntK (kerL p) i : Int).toNat, none⟩))]
        ((0 ≤ (cntK (kerL p) i : Int) ∧ (cntK (kerL p) i : Int) < (m + 1 : Int)))
        (by as_aux_lemma => kernel_rfl) ⟨by omega, by omega⟩ fun s_ => ?_
      refine Run.storeOwn g (0 + (cntK (kerL p) i : Int).toNat) [.slice A8 ((((xss ++ [[]]).getD m []).length) + 1) c8] (at_ Tryz.f84 [1,1,0,1,2,3,1,1,0,2,1,1,8,11]) (by as_aux_lemma => kernel_rfl) hO8 (by (simp; omega)) rfl fun h9 hMh9 hzh9 hOh9 => ?_
      have hEh1_h9 := hMh9.ext hEh1_h8 (by exact fun g' e => by cases e; exact hgh)
      -- at 110127
      refine Run.adv 6 [] (at_ Tryz.f84 [1,1,0,1,2,7]) [(3, .slice (some ⟨g, 0, none⟩) (m + 1) c4), (7, .slice (some ⟨b, off, none⟩) ((plainL p).length) c7), (8, .int .i64 ((plainL p).length : Int)), (9, .int .i64 ((i + 1 : Nat) : Int))]
        ((-9223372036854775808 ≤ (i : Int) + 1 ∧ (i : Int) + 1 ≤ 9223372036854775807))
        (by as_aux_lemma => kernel_rfl) ⟨by omega, by omega⟩ fun s_ => ?_
      have N9 := (hup h8 _ ((xss ++ [[]]).getD m [] ++ [(i : Int)]) og8 (by simpa using hOA8) hMh8 (by
        rcases hgA8 with e | e
        · exact .inl e
        · have := hEh1_h4.size; have := hEg6.size; have := hOA4.lt rfl; exact .inr ⟨_, e, Nat.le_refl _, by omega, fun e2 => by cases e2; omega⟩)).modo hMh9
      refine again (i + 1, _, _, c4) _ _ ⟨by simp only; omega, by simp only; omega, some g, _, (xss ++ [[]]).set m ((xss ++ [[]]).getD m [] ++ [(i : Int)]), hOh9, by simpa [setL, ← hm] using N9, by simp; omega, fun j => ?_, hEh1_h9, fun g' e => by cases e; exact hgh⟩ (by simp only; omega)
      rw [getD_set _ _ _ _ _ (by simp; omega)]
      split
      · simp only [List.length_append, List.length_cons, List.length_nil]; omega
      · rw [getD_snoc]; split
        · simp
        · have := hxl j; omega
    · rw [if_neg hf] at hcs
      have hfl : fstK (kerL p) i < i := by have := fst_le (kerL p) i; omega
      have hjlt := cnt_lt (R := kerL p) (fst_idem (kerL_eqv p) i) hfl
      generalize hje : cntK (kerL p) (fstK (kerL p) i) = j at hld hjlt hv
      -- at 11012311021180
      refine Run.adv 28 [.dec true, .val (.int .i64 (j : Int)), .dec false] (at_ Tryz.f84 [1,1,0,1,2,3,1,1,0,2,1,1,8,0]) [(3, .slice A2 m c2), (4, .int .i64 (i : Int)), (5, .int .i64 (j : Int)), (7, .slice (some ⟨b, off, none⟩) ((plainL p).length) c7), (8, .int .i64 ((plainL p).length : Int)), (9, .int .i64 (i : Int))]
        ((decide ((i : Int) < ((plainL p).length : Int))) = true ∧ (0 ≤ (i : Int) ∧ (i : Int) < ((plainL p).length : Int)) ∧ cellH h2 ⟨b, off + (i : Int).toNat, none⟩ = some (.int .i64 (j : Int)) ∧ ((j : Int) == (m : Int)) = false)
        (by as_aux_lemma => kernel_rfl) ⟨(by first | assumption | exact decide_eq_true (by first | omega | assumption)), ⟨by omega, by omega⟩, (hld), (beq_eq_false_iff_ne.2 (by first | omega | assumption))⟩ fun s_ => ?_
      obtain ⟨g, rfl⟩ := hO.pos (by omega)
      obtain ⟨rfl, hc4⟩ := hO.addr
      have hgh := hg g rfl
      have hjl : j < xss.length := by omega
      obtain ⟨o, hOi, hob, -⟩ := hN.open_ hjl
      obtain ⟨A5, c5, hv5⟩ := hOi.slice
      have hlo := hxl j
      have hhd : cellH h2 ⟨g, 0 + (j : Int).toNat, none⟩ = some (.slice A5 (xss.getD j []).length c5) := by
        have := hO.cell (getD_some undef (show j < vs.length by omega))
        rw [hv5] at this
        simpa using this
      -- at 11012311021187
      refine Run.adv 7 [.val (.slice A5 ((xss.getD j []).length) c5)] (at_ Tryz.f84 [1,1,0,1,2,3,1,1,0,2,1,1,8,7]) [(3, .slice (some ⟨g, 0, none⟩) m c2), (7, .slice (some ⟨b, off, none⟩) ((plainL p).length) c7), (8, .int .i64 ((plainL p).length : Int)), (9, .int .i64 (i : Int)), (21, .slice (some ⟨g, 0, none⟩) m c2), (22, .int .i64 (j : Int)), (26, .slice A5 ((xss.getD j []).length) c5), (27, .int .i64 (i : Int))]
        ((0 ≤ (j : Int) ∧ (j : Int) < (m : Int)) ∧ cellH h2 ⟨g, 0 + (j : Int).toNat, none⟩ = some (.slice A5 ((xss.getD j []).length) c5))
        (by as_aux_lemma => kernel_rfl) ⟨⟨by omega, by omega⟩, (hhd)⟩ fun s_ => ?_
      refine Run.new #[.int .i64 (i : Int)] 3 (fun g_ => .slice (some ⟨g_, 0, none⟩) 1 1) (some 28) (at_ Tryz.f84 [1,1,0,1,2,3,1,1,0,2,1,1,8,8]) (by as_aux_lemma => kernel_rfl) fun g6 h6 hng6 hEg6 hBg6 => ?_
      obtain ⟨o', hOi', hob', hup⟩ := (hN.ext hEg6).open_ hjl
      rw [hv5] at hOi'
      refine Run.append (.slice A5 ((xss.getD j []).length) c5) (.slice (some ⟨g6, 0, none⟩) 1 1) 3 (some 29) (at_ Tryz.f84 [1,1,0,1,2,3,1,1,0,2,1,1,8,9]) 1 8 (by as_aux_lemma => kernel_rfl) (by as_aux_lemma => kernel_rfl) (by decide) hOi' (Src.row (hBg6.all (Ext.refl _)) rfl) (by rfl) rfl (by omega) fun A8 c8 h8 og8 hOA8 hMh8 hgA8 => ?_
      have hEh1_h8 := hMh8.ext (hE.trans hEg6) (by exact fun g e => (hob' g e).1)
      have hO8 := (hO.ext hEg6).mod hMh8 (.inr fun e => by cases o' with | none => cases e | some g' => exact (hob' g' rfl).2.1 e)
      -- at 110123110211810
      refine Run.adv 1 [] (at_ Tryz.f84 [1,1,0,1,2,3,1,1,0,2,1,1,8,10]) [(3, .slice (some ⟨g, 0, none⟩) m c2), (7, .slice (some ⟨b, off, none⟩) ((plainL p).length) c7), (8, .int .i64 ((plainL p).length : Int)), (9, .int .i64 (i : Int)), (29, .slice A8 (((xss.getD j []).length) + 1) c8), (30, .pointer (some ⟨g, 0 + (j : Int).toNat, none⟩))]
        ((0 ≤ (j : Int) ∧ (j : Int) < (m : Int)))
        (by as_aux_lemma => kernel_rfl) ⟨by omega, by omega⟩ fun s_ => ?_
      refine Run.storeOwn g (0 + (j : Int).toNat) [.slice A8 (((xss.getD j []).length) + 1) c8] (at_ Tryz.f84 [1,1,0,1,2,3,1,1,0,2,1,1,8,11]) (by as_aux_lemma => kernel_rfl) hO8 (by (simp; omega)) rfl fun h9 hMh9 hzh9 hOh9 => ?_
      have hEh1_h9 := hMh9.ext hEh1_h8 (by exact fun g' e => by cases e; exact hgh)
      -- at 110127
      refine Run.adv 6 [] (at_ Tryz.f84 [1,1,0,1,2,7]) [(3, .slice (some ⟨g, 0, none⟩) m c2), (7, .slice (some ⟨b, off, none⟩) ((plainL p).length) c7), (8, .int .i64 ((plainL p).length : Int)), (9, .int .i64 ((i + 1 : Nat) : Int))]
        ((-9223372036854775808 ≤ (i : Int) + 1 ∧ (i : Int) + 1 ≤ 9223372036854775807))
        (by as_aux_lemma => kernel_rfl) ⟨by omega, by omega⟩ fun s_ => ?_
      have N9 := (hup h8 _ (xss.getD j [] ++ [(i : Int)]) og8 (by simpa using hOA8) hMh8 (by
        rcases hgA8 with e | e
        · exact .inl e
        · have := hE.size; have := hEg6.size; have := hO.lt rfl; exact .inr ⟨_, e, Nat.le_refl _, by omega, fun e2 => by cases e2; omega⟩)).modo hMh9
      refine again (i + 1, _, m, c2) _ _ ⟨by simp only; omega, by simp only; omega, some g, _, xss.set j (xss.getD j [] ++ [(i : Int)]), hOh9, by simpa [setL] using N9, by simp; omega, fun j' => ?_, hEh1_h9, fun g' e => by cases e; exact hgh⟩ (by simp only; omega)
      rw [getD_set _ _ _ _ _ (by omega)]
      split
      · simp only [List.length_append, List.length_cons, List.length_nil]; omega
      · have := hxl j'; omega
  · -- at 1111
    refine Run.adv 12 [.dec false] (at_ Tryz.f84 [1,1,1,1]) [(2, .slice A2 m c2)]
      ((decide ((i : Int) < ((plainL p).length : Int))) = false)
      (by as_aux_lemma => kernel_rfl) (by first | assumption | exact decide_eq_false (by first | omega | assumption)) fun s_ => ?_
    refine Run.ret [] (.slice A2 m c2) (True) Tryz.func84 (by as_aux_lemma => kernel_rfl) (by as_aux_lemma => kernel_rfl) trivial ?_
    obtain rfl : i = p.length := by omega
    subst hm
    exact ⟨og, vs, hO, hE7.trans hE⟩
theorem count_ct (A : Option Addr) (c : Nat) (p : List Int) (h : Heap) (hx : Ints h A p c) (hl : p.length ≤ 1000000) :
    Ct Tryz.prog 59 #[.slice A p.length c] h (fun v h' => v = .int .i64 (cntL p : Int) ∧ Ext h h') := by
  refine Ct.enter (args := [.slice A p.length c]) Tryz.func59 rfl Tryz.ntmps59 (by simp) fun w hw => ?_
  -- at 1081
  refine Run.adv 7 [] (at_ Tryz.f59 [1,0,8,1]) [(0, .slice A p.length c), (2, .int .i64 0), (3, .slice A p.length c)]
    (True)
    (by as_aux_lemma => kernel_rfl) trivial fun s_ => ?_
  refine Run.call 84 #[.slice A p.length c] (some 4) (at_ Tryz.f59 [1,0,8,2]) (by as_aux_lemma => kernel_rfl) (blocks_ct A c p _ hx hl) ?_
  rintro v h1 ⟨og, vs, hO, hE⟩
  obtain ⟨A2, c2, rfl⟩ := hO.slice
  -- at 11
  refine Run.adv 3 [] (at_ Tryz.f59 [1,1]) [(2, .int .i64 (cntL p : Int))]
    (True)
    (by as_aux_lemma => kernel_rfl) trivial fun s_ => ?_
  refine Run.ret [] (.int .i64 (cntL p : Int)) (True) Tryz.func59 (by as_aux_lemma => kernel_rfl) (by as_aux_lemma => kernel_rfl) trivial ?_
  exact ⟨rfl, hE⟩
end Go.Proofs.YtbajgbkkbabmlaaGreatDoor
