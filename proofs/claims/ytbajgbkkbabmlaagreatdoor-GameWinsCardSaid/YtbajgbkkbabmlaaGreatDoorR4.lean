/- The reference's levels, walked. -/
import Derived.Test.YtbajgbkkbabmlaaGreatDoorProg
import Derived.Test.YtbajgbkkbabmlaaGreatDoorV1
import Derived.Test.YtbajgbkkbabmlaaGreatDoorR3
set_option linter.unusedVariables false
namespace Go.Proofs.YtbajgbkkbabmlaaGreatDoor
open Go.Vc

theorem lofRef_ct (A1 A2 : Option Addr) (c1 c2 : Nat) (l : Lt) (n : Nat) (h : Heap) (hx : LtAt h l A1 c1 A2 c2) (hm : May l) (hn : l.n = (n : Int)) :
    Ct Tryz.prog 16 #[.agg #[.int .i64 l.n, .slice A1 l.ls.length c1, .slice A2 l.es.length c2]] h
      (fun v h' => ∃ m og vs, Stop l.es n m ∧ Own h' 58 1 v (levs l.es n m).length vs og ∧ Nest h' 3 1 encI h.size og vs (levs l.es n m) ∧ Ext h h') := by
  have hn1 := hm.n1
  have hn2 := hm.n2
  refine Ct.enter (args := [.agg #[.int .i64 l.n, .slice A1 l.ls.length c1, .slice A2 l.es.length c2]]) Tryz.func16 rfl Tryz.ntmps16 (by simp) fun w hw => ?_
  -- at 080
  refine Run.adv 2 [] (at_ Tryz.f16 [0,8,0]) [(0, .agg #[.int .i64 l.n, .slice A1 l.ls.length c1, .slice A2 l.es.length c2])]
    (True)
    (by as_aux_lemma => kernel_rfl) trivial fun s_ => ?_
  refine Run.new #[.int .i64 l.n, .slice A1 l.ls.length c1, .slice A2 l.es.length c2] 25 (fun g_ => .pointer (some ⟨g_, 0, none⟩)) (some 1) (at_ Tryz.f16 [0,8,1]) (by as_aux_lemma => kernel_rfl) fun g1 h1 hng1 hEg1 hBg1 => ?_
  -- at 1080
  refine Run.adv 4 [] (at_ Tryz.f16 [1,0,8,0]) [(0, .agg #[.int .i64 l.n, .slice A1 l.ls.length c1, .slice A2 l.es.length c2]), (1, .pointer (some ⟨g1, 0, none⟩)), (2, .slice none 0 0)]
    (True)
    (by as_aux_lemma => kernel_rfl) trivial fun s_ => ?_
  refine Run.new #[] 3 (fun g_ => .slice (some ⟨g_, 0, none⟩) 0 0) (some 7) (at_ Tryz.f16 [1,0,8,1]) (by as_aux_lemma => kernel_rfl) fun g0 h2 hng0 hEg0 hBg0 => ?_
  have hO1 := Own.of_blk (sz := 1) (n := 0) hBg0 rfl
  -- at 11012
  refine Run.adv 8 [] (at_ Tryz.f16 [1,1,0,1,2]) [(1, .pointer (some ⟨g1, 0, none⟩)), (3, .slice (some ⟨g0, 0, none⟩) 0 0), (4, .int .i64 0)]
    (True)
    (by as_aux_lemma => kernel_rfl) trivial fun s_ => ?_
  refine Run.loop (at_ Tryz.f16 [1,1,0,1,2,3]) (at_ Tryz.f16 [1,1,0,1,2,7]) (fun (⟨i, A3, c3⟩ : Nat × Option Addr × Nat) => [(1, .pointer (some ⟨g1, 0, none⟩)), (3, .slice A3 i c3), (4, .int .i64 (i : Int))])
    (fun ⟨i, A3, c3⟩ h3 => i ≤ n ∧ ∃ og, Own h3 3 1 (.slice A3 i c3) i ((List.replicate i (0 : Int)).map (Value.int .i64)) og ∧ Ext h1 h3 ∧ ∀ g', og = some g' → h1.size ≤ g') (fun ⟨i, A3, c3⟩ => n - i) (0, some ⟨g0, 0, none⟩, 0) (by as_aux_lemma => kernel_rfl) rfl ?_ ?_
  · exact ⟨Nat.zero_le _, some g0, by simpa using hO1, hEg0, fun g' e => by cases e; omega⟩
  rintro ⟨i, A3, c3⟩ s_ h3 ⟨hi, og, hO, hE, hg⟩ again
  simp only at hi hO hE hg again
  by_cases hlt : (i : Int) < l.n
  · -- at 11012310281
    refine Run.adv 14 [.val (.int .i64 l.n), .dec true] (at_ Tryz.f16 [1,1,0,1,2,3,1,0,2,8,1]) [(1, .pointer (some ⟨g1, 0, none⟩)), (3, .slice A3 i c3), (4, .int .i64 (i : Int)), (14, .slice A3 i c3)]
      (cellH h3 ⟨g1, 0, none⟩ = some (.int .i64 l.n) ∧ (decide ((i : Int) < l.n)) = true)
      (by as_aux_lemma => kernel_rfl) ⟨(hBg1.at hE 0 rfl), (by first | assumption | exact decide_eq_true (by first | omega | assumption))⟩ fun s_ => ?_
    refine Run.new #[.int .i64 0] 3 (fun g_ => .slice (some ⟨g_, 0, none⟩) 1 1) (some 15) (at_ Tryz.f16 [1,1,0,1,2,3,1,0,2,8,2]) (by as_aux_lemma => kernel_rfl) fun g3 h4 hng3 hEg3 hBg3 => ?_
    refine Run.append (.slice A3 i c3) (.slice (some ⟨g3, 0, none⟩) 1 1) 3 (some 16) (at_ Tryz.f16 [1,1,0,1,2,3,1,0,2,8,3]) 1 8 (by as_aux_lemma => kernel_rfl) (by as_aux_lemma => kernel_rfl) (by decide) (hO.ext hEg3) (Src.row (hBg3.all (Ext.refl _)) rfl) (by rfl) rfl (by omega) fun A4 c4 h5 og4 hOA4 hMh5 hgA4 => ?_
    have hEh1_h5 := hMh5.ext (hE.trans hEg3) (by exact hg)
    -- at 110127
    refine Run.adv 8 [] (at_ Tryz.f16 [1,1,0,1,2,7]) [(1, .pointer (some ⟨g1, 0, none⟩)), (3, .slice A4 (i + 1) c4), (4, .int .i64 ((i + 1 : Nat) : Int))]
      ((-9223372036854775808 ≤ (i : Int) + 1 ∧ (i : Int) + 1 ≤ 9223372036854775807))
      (by as_aux_lemma => kernel_rfl) ⟨by omega, by omega⟩ fun s_ => ?_
    refine again (i + 1, A4, c4) _ _ ⟨by simp only; omega, og4, ?_, hEh1_h5, fun g' e => ?_⟩ (by simp only; omega)
    · simp only
      rw [List.replicate_succ', List.map_append]
      exact hOA4
    · have := hE.size
      have := hEg3.size
      rcases hgA4 with rfl | rfl
      · exact hg g' e
      · cases e; omega
  · have hie : i = n := by omega
    rw [hie] at hO
    -- at 111081
    refine Run.adv 13 [.val (.int .i64 l.n), .dec false] (at_ Tryz.f16 [1,1,1,0,8,1]) [(1, .pointer (some ⟨g1, 0, none⟩)), (3, .slice A3 i c3), (17, .slice A3 i c3)]
      (cellH h3 ⟨g1, 0, none⟩ = some (.int .i64 l.n) ∧ (decide ((i : Int) < l.n)) = false)
      (by as_aux_lemma => kernel_rfl) ⟨(hBg1.at hE 0 rfl), (by first | assumption | exact decide_eq_false (by first | omega | assumption))⟩ fun s_ => ?_
    rw [hie]
    refine Run.new #[.slice A3 n c3] 58 (fun g_ => .slice (some ⟨g_, 0, none⟩) 1 1) (some 18) (at_ Tryz.f16 [1,1,1,0,8,2]) (by as_aux_lemma => kernel_rfl) fun g5 h4 hng5 hEg5 hBg5 => ?_
    have hO5 := Own.of_blk (sz := 1) (n := 1) hBg5 rfl
    have hE14 := hE.trans hEg5
    -- at 11112
    refine Run.adv 3 [] (at_ Tryz.f16 [1,1,1,1,2]) [(1, .pointer (some ⟨g1, 0, none⟩)), (3, .slice A3 n c3), (5, .slice (some ⟨g5, 0, none⟩) 1 1)]
      (True)
      (by as_aux_lemma => kernel_rfl) trivial fun s_ => ?_
    refine Run.loop (at_ Tryz.f16 [1,1,1,1,2,3]) (at_ Tryz.f16 [1,1,1,1,2,7]) (fun (⟨k, A4, c4, A5, c5⟩ : Nat × Option Addr × Nat × Option Addr × Nat) => [(1, .pointer (some ⟨g1, 0, none⟩)), (3, .slice A4 n c4), (5, .slice A5 (k + 1) c5)])
      (fun ⟨k, A4, c4, A5, c5⟩ h5 => (∀ j, j < k → cntL (lev l.es n (j + 1)) ≠ cntL (lev l.es n j)) ∧ ∃ og vs, Own h5 58 1 (.slice A5 (k + 1) c5) (k + 1) vs og ∧ Nest h5 3 1 encI h1.size og vs ((List.range (k + 1)).map (lev l.es n)) ∧ vs.getD k undef = .slice A4 n c4 ∧ Ext h1 h5 ∧ ∀ g', og = some g' → h1.size ≤ g') (fun ⟨k, A4, c4, A5, c5⟩ => n - cntL (lev l.es n k)) (0, A3, c3, some ⟨g5, 0, none⟩, 1) (by as_aux_lemma => kernel_rfl) rfl ?_ ?_
    · refine ⟨fun j hj => by omega, some g5, [.slice A3 n c3], hO5, ?_, rfl, hE14, fun g' e => by cases e; have := hE.size; omega⟩
      have N0 : Nest h1 3 1 encI h1.size (some g5) ([] : List Value) ([] : List (List Int)) := Nest.nil
      have hO' : Own h4 3 1 (.slice A3 n c3) (List.replicate n (0 : Int)).length (encI (List.replicate n 0)) og := by rw [List.length_replicate]; exact hO.ext hEg5
      have := N0.pushOwn hE14 hO' (fun g' e => ⟨hg g' e, hg g' e, fun e2 => by cases e2; have := hO.lt e; omega⟩)
      simpa [lev] using this
    rintro ⟨k, A4, c4, A5, c5⟩ s_ h5 ⟨hf, og5, vs, hO6, hN6, hv, hE5, hog⟩ again2
    simp only at hf hO6 hN6 hv hE5 hog again2
    have hE05 := hEg1.trans hE5
    have hgr := lev_grow hf (by omega) k (Nat.le_refl _)
    have hkn := lev_cnt l.es n k
    have hvl := hN6.len
    simp only [List.length_map, List.length_range] at hvl
    obtain ⟨o, hOn, hob, -⟩ := hN6.open_ (j := k) (by simp)
    rw [hv, mapRange_getD _ _ (by omega)] at hOn
    have hll := lev_len l.es n k
    obtain ⟨A4', c4', hv4, hr4⟩ := hOn.row1 (d := 0) (by omega)
    rw [hll] at hv4
    injection hv4 with e1 e2 e3
    subst e1 e3
    -- at 1111232082
    refine Run.adv 5 [.val (.agg #[.int .i64 l.n, .slice A1 l.ls.length c1, .slice A2 l.es.length c2])] (at_ Tryz.f16 [1,1,1,1,2,3,2,0,8,2]) [(1, .pointer (some ⟨g1, 0, none⟩)), (3, .slice A4 n c4), (5, .slice A5 (k + 1) c5), (19, .agg #[.int .i64 l.n, .slice A1 l.ls.length c1, .slice A2 l.es.length c2]), (20, .slice A4 n c4)]
      (cellsAt h5 ⟨g1, 0, none⟩ [.int .i64 l.n, .slice A1 l.ls.length c1, .slice A2 l.es.length c2] 0)
      (by as_aux_lemma => kernel_rfl) (hBg1.all hE5) fun s_ => ?_
    rw [show Value.slice A4 n c4 = .slice A4 (lev l.es n k).length c4 by rw [hll]]
    refine Run.call 44 #[.agg #[.int .i64 l.n, .slice A1 l.ls.length c1, .slice A2 l.es.length c2], .slice A4 ((lev l.es n k).length) c4] (some 21) (at_ Tryz.f16 [1,1,1,1,2,3,2,0,8,3]) (by as_aux_lemma => kernel_rfl) (refStep_ct A1 A2 A4 c1 c2 c4 l (lev l.es n k) _ (hx.ext hE05) hr4 hm (by omega)) ?_
    rintro v h6 ⟨og6, hO7, hE6, hg6⟩
    have hsl : (stepL l.es (lev l.es n k)).length = n := by rw [stepL_len, hll]
    have hO7n := hO7
    obtain ⟨A6, c6, hv6, hr6⟩ := hO7n.row1 (d := 0) (by omega)
    subst hv6
    have hle : lev l.es n (k + 1) = stepL l.es (lev l.es n k) := rfl
    by_cases hst : stepL l.es (lev l.es n k) = lev l.es n k
    · -- at 111123210141
      refine Run.adv 15 [.val (.bool (decide (stepL l.es (lev l.es n k) = lev l.es n k))), .dec true] (at_ Tryz.f16 [1,1,1,1,2,3,2,1,0,1,4,1]) [(2, .slice A5 (k + 1) c5)]
        ((Ct Tryz.prog 45 #[.slice A6 ((stepL l.es (lev l.es n k)).length) c6, .slice A4 ((lev l.es n k).length) c4] h6 (fun v_ h_ => v_ = .bool (decide (stepL l.es (lev l.es n k) = lev l.es n k)) ∧ h_ = h6)) ∧ (decide (stepL l.es (lev l.es n k) = lev l.es n k)) = true)
        (by as_aux_lemma => kernel_rfl) ⟨(Same_ct A6 A4 c6 c4 _ _ _ hr6 (hr4.ext hE6)), (decide_eq_true hst)⟩ fun s_ => ?_
      refine Run.ret [] (.slice A5 (k + 1) c5) (True) Tryz.func16 (by as_aux_lemma => kernel_rfl) (by as_aux_lemma => kernel_rfl) trivial ?_
      have hS : Stop l.es n k := ⟨(lev_same l.es n k).1 hst, hf⟩
      refine ⟨k, og5, vs, hS, ?_, ?_, hE05.trans hE6⟩
      · rw [levs_len]; exact hO6.ext hE6
      · obtain ⟨ogs, n1, n2, n3, n4⟩ := hN6.ext hE6
        have := hEg1.size
        exact ⟨ogs, n1, n2, n3, fun j g' e' => ⟨by have := (n4 j g' e').1; omega, (n4 j g' e').2⟩⟩
    · -- at 111123211082
      refine Run.adv 15 [.val (.bool (decide (stepL l.es (lev l.es n k) = lev l.es n k))), .dec false] (at_ Tryz.f16 [1,1,1,1,2,3,2,1,1,0,8,2]) [(1, .pointer (some ⟨g1, 0, none⟩)), (3, .slice A4 ((lev l.es n k).length) c4), (5, .slice A5 (k + 1) c5), (6, .slice A6 ((stepL l.es (lev l.es n k)).length) c6), (26, .slice A5 (k + 1) c5), (27, .slice A6 ((stepL l.es (lev l.es n k)).length) c6)]
        ((Ct Tryz.prog 45 #[.slice A6 ((stepL l.es (lev l.es n k)).length) c6, .slice A4 ((lev l.es n k).length) c4] h6 (fun v_ h_ => v_ = .bool (decide (stepL l.es (lev l.es n k) = lev l.es n k)) ∧ h_ = h6)) ∧ (decide (stepL l.es (lev l.es n k) = lev l.es n k)) = false)
        (by as_aux_lemma => kernel_rfl) ⟨(Same_ct A6 A4 c6 c4 _ _ _ hr6 (hr4.ext hE6)), (decide_eq_false hst)⟩ fun s_ => ?_
      have hs45 := hE6.size
      have hs14 := hE5.size
      have N5 := hN6.pushOwn hE6 (enc := encI) (xs := stepL l.es (lev l.es n k)) hO7 (fun g' e => ⟨hg6 g' e, by have := hg6 g' e; omega, fun e2 => by have := hO6.lt e2; have := hg6 g' e; omega⟩)
      have hxe : (List.range (k + 1)).map (lev l.es n) ++ [stepL l.es (lev l.es n k)] = (List.range (k + 1 + 1)).map (lev l.es n) := by
        rw [List.range_succ (n := k + 1), List.map_append]; rfl
      rw [hxe] at N5
      refine Run.new #[.slice A6 ((stepL l.es (lev l.es n k)).length) c6] 58 (fun g_ => .slice (some ⟨g_, 0, none⟩) 1 1) (some 28) (at_ Tryz.f16 [1,1,1,1,2,3,2,1,1,0,8,3]) (by as_aux_lemma => kernel_rfl) fun g8 h7 hng8 hEg8 hBg8 => ?_
      refine Run.append (.slice A5 (k + 1) c5) (.slice (some ⟨g8, 0, none⟩) 1 1) 58 (some 29) (at_ Tryz.f16 [1,1,1,1,2,3,2,1,1,0,8,4]) 1 24 (by as_aux_lemma => kernel_rfl) (by as_aux_lemma => kernel_rfl) (by decide) ((hO6.ext hE6).ext hEg8) (Src.row (hBg8.all (Ext.refl _)) rfl) (by rfl) rfl (by omega) fun A9 c9 h8 og9 hOA9 hMh8 hgA9 => ?_
      have hEh1_h8 := hMh8.ext ((hE5.trans hE6).trans hEg8) (by exact hog)
      have N7 := (N5.ext hEg8).outer hMh8 hgA9
      have hs56 := hEg8.size
      have hog9 : ∀ g', og9 = some g' → h1.size ≤ g' := fun g' e => by
        rcases hgA9 with e2 | e2
        · exact hog g' (e2 ▸ e)
        · rw [e2] at e; cases e; omega
      -- at 111127
      refine Run.adv 7 [] (at_ Tryz.f16 [1,1,1,1,2,7]) [(1, .pointer (some ⟨g1, 0, none⟩)), (3, .slice A6 ((stepL l.es (lev l.es n k)).length) c6), (5, .slice A9 ((k + 1) + 1) c9)]
        (True)
        (by as_aux_lemma => kernel_rfl) trivial fun s_ => ?_
      have hmono := lev_mono l.es n k
      have hk1 := lev_cnt l.es n (k + 1)
      have hne : cntL (lev l.es n (k + 1)) ≠ cntL (lev l.es n k) := fun e => hst ((lev_same l.es n k).2 e)
      rw [show Value.slice A6 (stepL l.es (lev l.es n k)).length c6 = .slice A6 n c6 by rw [hsl]]
      refine again2 (k + 1, A6, c6, A9, c9) _ _ ⟨fun j hj => ?_, og9, vs ++ [.slice A6 (stepL l.es (lev l.es n k)).length c6], hOA9, N7, ?_, hEh1_h8, hog9⟩ (by simp only; omega)
      · by_cases ej : j = k
        · subst ej; exact hne
        · exact hf j (by simp only at hj; omega)
      · simp only
        rw [getD_snoc, if_pos (by omega), hsl]
end Go.Proofs.YtbajgbkkbabmlaaGreatDoor
