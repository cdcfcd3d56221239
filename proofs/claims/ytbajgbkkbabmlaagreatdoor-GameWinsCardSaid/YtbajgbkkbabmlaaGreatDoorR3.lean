/- The references' ways, steps and levels, walked. -/
import Derived.Test.YtbajgbkkbabmlaaGreatDoorProg
import Derived.Test.YtbajgbkkbabmlaaGreatDoorR2
import Derived.Test.YtbajgbkkbabmlaaGreatDoorR1
set_option linter.unusedVariables false
namespace Go.Proofs.YtbajgbkkbabmlaaGreatDoor
open Go.Vc
theorem lx_44_1110123102101231020 : LexOk (opsAt (at_ Tryz.f44 [1,1,1,0,1,2,3,1,0,2,1,0,1,2,3,1,0,2,0])) := ⟨by kernel_rfl⟩
theorem lx_95_1101231020 : LexOk (opsAt (at_ Tryz.f95 [1,1,0,1,2,3,1,0,2,0])) := ⟨by kernel_rfl⟩

theorem rawW_bound {l : Lt} (hm : May l) {p : List Int} (hn : (p.length : Int) = l.n) (hpl : plainL p = p) {i : Int} {w : Wy} (hw : w ∈ rawW l.es p i) : (0 ≤ w.1 ∧ w.1 < l.ls.length) ∧ 0 ≤ w.2 ∧ w.2 < cntL p := by
  obtain ⟨e, he, h1, h2, h3⟩ := mem_rawW.1 hw
  obtain ⟨k, k0, k1, e1⟩ := (mem_iff (0, 0, 0) e l.es).1 he
  have hem := (hm.es k k0 k1).1
  unfold ed EdgeMay at hem
  rw [e1] at hem
  obtain ⟨q1, q2, q3, q4, q5, q6⟩ := hem
  obtain ⟨t, ht⟩ := Int.eq_ofNat_of_zero_le q3
  have hr := plainK_range (kerL_eqv p) (n := p.length) (i := t) (by omega)
  have h3' : (plainL p).getD t 0 = w.2 := by rw [← h3, ht, rd_nat, hpl]
  unfold plainL at h3'
  rw [h3'] at hr
  exact ⟨by omega, hr.1, hr.2⟩
theorem refOf_ct (A1 A2 A3 : Option Addr) (c1 c2 c3 : Nat) (l : Lt) (p : List Int) (node : Int) (h : Heap) (hx : LtAt h l A1 c1 A2 c2) (hp : Ints h A3 p c3) (hm : May l) (hn : (p.length : Int) = l.n) (hpl : plainL p = p) :
    Ct Tryz.prog 96 #[.agg #[.int .i64 l.n, .slice A1 l.ls.length c1, .slice A2 l.es.length c2], .slice A3 p.length c3, .int .i64 node] h
      (fun v h' => ∃ og, Own h' 158 2 v (waysOf l.es p node).length ((waysOf l.es p node).flatMap encW) og ∧ Ext h h' ∧ ∀ g, og = some g → h.size ≤ g) := by
  have hn2 := hm.n2
  have hl64 := hm.ls.1
  have hcl := cnt_le (kerL p) p.length
  refine Ct.enter (args := [.agg #[.int .i64 l.n, .slice A1 l.ls.length c1, .slice A2 l.es.length c2], .slice A3 p.length c3, .int .i64 node]) Tryz.func96 rfl Tryz.ntmps96 (by simp) fun w hw => ?_
  -- at 080
  refine Run.adv 2 [] (at_ Tryz.f96 [0,8,0]) [(0, .agg #[.int .i64 l.n, .slice A1 l.ls.length c1, .slice A2 l.es.length c2]), (1, .slice A3 p.length c3), (2, .int .i64 node)]
    (True)
    (by as_aux_lemma => kernel_rfl) trivial fun s_ => ?_
  refine Run.new #[.int .i64 l.n, .slice A1 l.ls.length c1, .slice A2 l.es.length c2] 25 (fun g_ => .pointer (some ⟨g_, 0, none⟩)) (some 3) (at_ Tryz.f96 [0,8,1]) (by as_aux_lemma => kernel_rfl) fun g1 h1 hng1 hEg1 hBg1 => ?_
  -- at 1080
  refine Run.adv 4 [] (at_ Tryz.f96 [1,0,8,0]) [(0, .agg #[.int .i64 l.n, .slice A1 l.ls.length c1, .slice A2 l.es.length c2]), (1, .slice A3 p.length c3), (2, .int .i64 node), (3, .pointer (some ⟨g1, 0, none⟩)), (6, .slice none 0 0)]
    (True)
    (by as_aux_lemma => kernel_rfl) trivial fun s_ => ?_
  refine Run.new #[] 158 (fun g_ => .slice (some ⟨g_, 0, none⟩) 0 0) (some 10) (at_ Tryz.f96 [1,0,8,1]) (by as_aux_lemma => kernel_rfl) fun g0 h2 hng0 hEg0 hBg0 => ?_
  have hO1 := Own.of_blk (sz := 2) (n := 0) hBg0 rfl
  -- at 11012
  refine Run.adv 8 [] (at_ Tryz.f96 [1,1,0,1,2]) [(1, .slice A3 p.length c3), (2, .int .i64 node), (3, .pointer (some ⟨g1, 0, none⟩)), (7, .slice (some ⟨g0, 0, none⟩) 0 0), (8, .int .i64 0)]
    (True)
    (by as_aux_lemma => kernel_rfl) trivial fun s_ => ?_
  refine Run.loop (at_ Tryz.f96 [1,1,0,1,2,3]) (at_ Tryz.f96 [1,1,0,1,2,7]) (fun (⟨a, A4, m, c4⟩ : Nat × Option Addr × Nat × Nat) => [(1, .slice A3 p.length c3), (2, .int .i64 node), (3, .pointer (some ⟨g1, 0, none⟩)), (7, .slice A4 m c4), (8, .int .i64 (a : Int))])
    (fun ⟨a, A4, m, c4⟩ h3 => a ≤ l.ls.length ∧ m ≤ a * 2048 ∧ ∃ (ws : List Wy) (og : Option Nat), ws.length = m ∧ (ws.Pairwise fun x y => ltW x y = true) ∧ (∀ w, w ∈ ws ↔ w ∈ rawW l.es p node ∧ w.1 < a) ∧ Own h3 158 2 (.slice A4 m c4) m (ws.flatMap encW) og ∧ Ext h1 h3 ∧ ∀ g', og = some g' → h1.size ≤ g') (fun ⟨a, A4, m, c4⟩ => l.ls.length - a) (0, some ⟨g0, 0, none⟩, 0, 0) (by as_aux_lemma => kernel_rfl) rfl ?_ ?_
  · refine ⟨Nat.zero_le _, Nat.zero_le _, [], some g0, rfl, List.Pairwise.nil, fun w => ⟨fun hh => by simp at hh, fun hh => ?_⟩, by simpa using hO1, hEg0, fun g' e => by cases e; omega⟩
    have := (rawW_bound hm hn hpl hh.1).1.1
    have := hh.2
    omega
  rintro ⟨a, A4, m, c4⟩ s_ h3 ⟨ha, hml, ws, og, hwl, hP, hW, hO, hE, hg⟩ again
  simp only at ha hml hwl hW hO hE hg again
  have hE2 := hEg1.trans hE
  by_cases hlt : a < l.ls.length
  · -- at 11012310212
    refine Run.adv 18 [.val (.slice A1 l.ls.length c1), .dec true] (at_ Tryz.f96 [1,1,0,1,2,3,1,0,2,1,2]) [(1, .slice A3 p.length c3), (2, .int .i64 node), (3, .pointer (some ⟨g1, 0, none⟩)), (7, .slice A4 m c4), (8, .int .i64 (a : Int)), (9, .int .i64 0)]
      (cellH h3 ⟨g1, 1, none⟩ = some (.slice A1 l.ls.length c1) ∧ (decide ((a : Int) < (l.ls.length : Int))) = true)
      (by as_aux_lemma => kernel_rfl) ⟨(hBg1.at hE 1 rfl), (by first | assumption | exact decide_eq_true (by first | omega | assumption))⟩ fun s_ => ?_
    refine Run.loop (at_ Tryz.f96 [1,1,0,1,2,3,1,0,2,1,2,3]) (at_ Tryz.f96 [1,1,0,1,2,3,1,0,2,1,2,7]) (fun (⟨b, A5, m2, c5⟩ : Nat × Option Addr × Nat × Nat) => [(1, .slice A3 p.length c3), (2, .int .i64 node), (3, .pointer (some ⟨g1, 0, none⟩)), (7, .slice A5 m2 c5), (8, .int .i64 (a : Int)), (9, .int .i64 (b : Int))])
      (fun ⟨b, A5, m2, c5⟩ h4 => b ≤ cntL p ∧ m2 ≤ a * 2048 + b ∧ ∃ (ws : List Wy) (og : Option Nat), ws.length = m2 ∧ (ws.Pairwise fun x y => ltW x y = true) ∧ (∀ w, w ∈ ws ↔ w ∈ rawW l.es p node ∧ (w.1 < a ∨ w.1 = a ∧ w.2 < b)) ∧ Own h4 158 2 (.slice A5 m2 c5) m2 (ws.flatMap encW) og ∧ Ext h1 h4 ∧ ∀ g', og = some g' → h1.size ≤ g') (fun ⟨b, A5, m2, c5⟩ => cntL p - b) (0, A4, m, c4) (by as_aux_lemma => kernel_rfl) rfl ?_ ?_
    · refine ⟨Nat.zero_le _, Nat.le_trans hml (Nat.le_add_right _ _), ws, og, hwl, hP, fun w => (hW w).trans ⟨fun hh => ⟨hh.1, .inl hh.2⟩, fun hh => ⟨hh.1, ?_⟩⟩, hO, hE, hg⟩
      have := (rawW_bound hm hn hpl hh.1).2.1
      have := hh.2
      omega
    rintro ⟨b, A5, m2, c5⟩ s_ h4 ⟨hb, hml2, ws2, og2, hwl2, hP2, hW2, hO2, hE42, hg2⟩ again2
    simp only at hb hml2 hwl2 hW2 hO2 hE42 hg2 again2
    have hcp : cntL p ≤ 2048 := by unfold cntL; omega
    have hE04 := hEg1.trans hE42
    by_cases hlt2 : b < cntL p
    · -- at 110123102123102085
      refine Run.adv 19 [.val (.int .i64 (cntL p : Int)), .dec true, .val (.agg #[.int .i64 l.n, .slice A1 l.ls.length c1, .slice A2 l.es.length c2])] (at_ Tryz.f96 [1,1,0,1,2,3,1,0,2,1,2,3,1,0,2,0,8,5]) [(1, .slice A3 p.length c3), (2, .int .i64 node), (3, .pointer (some ⟨g1, 0, none⟩)), (7, .slice A5 m2 c5), (8, .int .i64 (a : Int)), (9, .int .i64 (b : Int)), (24, .agg #[.int .i64 l.n, .slice A1 l.ls.length c1, .slice A2 l.es.length c2]), (25, .slice A3 p.length c3), (26, .int .i64 node), (27, .int .i64 (a : Int)), (28, .int .i64 (b : Int))]
        ((Ct Tryz.prog 112 #[.slice A3 p.length c3] h4 (fun v_ h_ => v_ = .int .i64 (cntL p : Int) ∧ h_ = h4)) ∧ (decide ((b : Int) < (cntL p : Int))) = true ∧ cellsAt h4 ⟨g1, 0, none⟩ [.int .i64 l.n, .slice A1 l.ls.length c1, .slice A2 l.es.length c2] 0)
        (by as_aux_lemma => kernel_rfl) ⟨(CountR_ct _ _ _ _ (hp.ext hE04) (by omega)), (by first | assumption | exact decide_eq_true (by first | omega | assumption)), (hBg1.all hE42)⟩ fun s_ => ?_
      refine Run.call 113 #[.agg #[.int .i64 l.n, .slice A1 l.ls.length c1, .slice A2 l.es.length c2], .slice A3 p.length c3, .int .i64 node, .int .i64 (a : Int), .int .i64 (b : Int)] (some 29) (at_ Tryz.f96 [1,1,0,1,2,3,1,0,2,1,2,3,1,0,2,0,8,6]) (by as_aux_lemma => kernel_rfl) (Does_ct A1 A2 A3 c1 c2 c3 l p node a b _ (hx.ext hE04) (hp.ext hE04) hm hn) ?_
      rintro _ h5 ⟨rfl, hE5⟩
      by_cases hin : ((a : Int), (b : Int)) ∈ rawW l.es p node
      · -- at 1101231021231021484
        refine Run.adv 7 [.dec true] (at_ Tryz.f96 [1,1,0,1,2,3,1,0,2,1,2,3,1,0,2,1,4,8,4]) [(1, .slice A3 p.length c3), (2, .int .i64 node), (3, .pointer (some ⟨g1, 0, none⟩)), (7, .slice A5 m2 c5), (8, .int .i64 (a : Int)), (9, .int .i64 (b : Int)), (30, .slice A5 m2 c5), (33, .agg #[.int .i64 (a : Int), .int .i64 (b : Int)])]
          ((decide (((a : Int), (b : Int)) ∈ rawW l.es p node)) = true)
          (by as_aux_lemma => kernel_rfl) (decide_eq_true hin) fun s_ => ?_
        refine Run.new #[.int .i64 (a : Int), .int .i64 (b : Int)] 158 (fun g_ => .slice (some ⟨g_, 0, none⟩) 1 1) (some 34) (at_ Tryz.f96 [1,1,0,1,2,3,1,0,2,1,2,3,1,0,2,1,4,8,5]) (by as_aux_lemma => kernel_rfl) fun g3 h6 hng3 hEg3 hBg3 => ?_
        refine Run.append (.slice A5 m2 c5) (.slice (some ⟨g3, 0, none⟩) 1 1) 158 (some 35) (at_ Tryz.f96 [1,1,0,1,2,3,1,0,2,1,2,3,1,0,2,1,4,8,6]) 2 16 (by as_aux_lemma => kernel_rfl) (by as_aux_lemma => kernel_rfl) (by decide) ((hO2.ext hE5).ext hEg3) (Src.row (hBg3.all (Ext.refl _)) rfl) (by rfl) rfl (by omega) fun A9 c9 h7 og9 hOA9 hMh7 hgA9 => ?_
        have hEh1_h7 := hMh7.ext ((hE42.trans hE5).trans hEg3) (by exact hg2)
        -- at 110123102127
        refine Run.adv 8 [] (at_ Tryz.f96 [1,1,0,1,2,3,1,0,2,1,2,7]) [(1, .slice A3 p.length c3), (2, .int .i64 node), (3, .pointer (some ⟨g1, 0, none⟩)), (7, .slice A9 (m2 + 1) c9), (8, .int .i64 (a : Int)), (9, .int .i64 ((b + 1 : Nat) : Int))]
          ((-9223372036854775808 ≤ (b : Int) + 1 ∧ (b : Int) + 1 ≤ 9223372036854775807))
          (by as_aux_lemma => kernel_rfl) ⟨by omega, by omega⟩ fun s_ => ?_
        refine again2 (b + 1, A9, m2 + 1, c9) _ _ ⟨by simp only; omega, by simp only; omega, ws2 ++ [((a : Int), (b : Int))], og9, by simp [hwl2], ?_, fun w => ?_, by simpa [encW, List.flatMap_append] using hOA9, hEh1_h7, fun g' e => ?_⟩ (by simp only; omega)
        · rw [List.pairwise_append]
          refine ⟨hP2, List.pairwise_singleton _ _, fun x hx2 y hy => ?_⟩
          simp only [List.mem_singleton] at hy
          subst hy
          obtain ⟨_, hh⟩ := (hW2 x).1 hx2
          unfold ltW
          simp only [decide_eq_true_eq]
          omega
        · simp only [List.mem_append, List.mem_singleton]
          rw [hW2 w]
          constructor
          · rintro (⟨h1, h2⟩ | rfl)
            · exact ⟨h1, by omega⟩
            · exact ⟨hin, .inr ⟨rfl, by simp only; omega⟩⟩
          · rintro ⟨h1, h2⟩
            by_cases e1 : w.1 = a ∧ w.2 = b
            · right; exact Prod.ext e1.1 e1.2
            · left; exact ⟨h1, by omega⟩
        · have := hE42.size
          have := hE5.size
          have := hEg3.size
          rcases hgA9 with e2 | e2
          · exact hg2 g' (e2 ▸ e)
          · rw [e2] at e; cases e; omega
      · -- at 110123102127
        refine Run.adv 9 [.dec false] (at_ Tryz.f96 [1,1,0,1,2,3,1,0,2,1,2,7]) [(1, .slice A3 p.length c3), (2, .int .i64 node), (3, .pointer (some ⟨g1, 0, none⟩)), (7, .slice A5 m2 c5), (8, .int .i64 (a : Int)), (9, .int .i64 ((b + 1 : Nat) : Int))]
          ((decide (((a : Int), (b : Int)) ∈ rawW l.es p node)) = false ∧ (-9223372036854775808 ≤ (b : Int) + 1 ∧ (b : Int) + 1 ≤ 9223372036854775807))
          (by as_aux_lemma => kernel_rfl) ⟨(decide_eq_false hin), ⟨by omega, by omega⟩⟩ fun s_ => ?_
        refine again2 (b + 1, A5, m2, c5) _ _ ⟨by simp only; omega, by simp only; omega, ws2, og2, hwl2, hP2, fun w => (hW2 w).trans ⟨fun hh => ⟨hh.1, by have := hh.2; simp only; omega⟩, fun hh => ⟨hh.1, ?_⟩⟩, hO2.ext hE5, hE42.trans hE5, hg2⟩ (by simp only; omega)
        have h2 := hh.2
        simp only at h2
        by_cases e1 : w.1 = a ∧ w.2 = b
        · exact absurd (show ((a : Int), (b : Int)) ∈ rawW l.es p node by rw [← e1.1, ← e1.2]; exact hh.1) hin
        · omega
    · have hbe : b = cntL p := by omega
      -- at 110127
      refine Run.adv 16 [.val (.int .i64 (cntL p : Int)), .dec false] (at_ Tryz.f96 [1,1,0,1,2,7]) [(1, .slice A3 p.length c3), (2, .int .i64 node), (3, .pointer (some ⟨g1, 0, none⟩)), (7, .slice A5 m2 c5), (8, .int .i64 ((a + 1 : Nat) : Int))]
        ((Ct Tryz.prog 112 #[.slice A3 p.length c3] h4 (fun v_ h_ => v_ = .int .i64 (cntL p : Int) ∧ h_ = h4)) ∧ (decide ((b : Int) < (cntL p : Int))) = false ∧ (-9223372036854775808 ≤ (a : Int) + 1 ∧ (a : Int) + 1 ≤ 9223372036854775807))
        (by as_aux_lemma => kernel_rfl) ⟨(CountR_ct _ _ _ _ (hp.ext hE04) (by omega)), (by first | assumption | exact decide_eq_false (by first | omega | assumption)), ⟨by omega, by omega⟩⟩ fun s_ => ?_
      refine again (a + 1, A5, m2, c5) _ _ ⟨by simp only; omega, by simp only; omega, ws2, og2, hwl2, hP2, fun w => (hW2 w).trans ⟨fun hh => ⟨hh.1, by have := hh.2; simp only; omega⟩, fun hh => ⟨hh.1, ?_⟩⟩, hO2, hE42, hg2⟩ (by simp only; omega)
      have h2 := hh.2
      have h3 := (rawW_bound hm hn hpl hh.1).2.2
      simp only at h2
      omega
  · have hae : a = l.ls.length := by omega
    -- at 1111
    refine Run.adv 16 [.val (.slice A1 l.ls.length c1), .dec false] (at_ Tryz.f96 [1,1,1,1]) [(6, .slice A4 m c4)]
      (cellH h3 ⟨g1, 1, none⟩ = some (.slice A1 l.ls.length c1) ∧ (decide ((a : Int) < (l.ls.length : Int))) = false)
      (by as_aux_lemma => kernel_rfl) ⟨(hBg1.at hE 1 rfl), (by first | assumption | exact decide_eq_false (by first | omega | assumption))⟩ fun s_ => ?_
    refine Run.ret [] (.slice A4 m c4) (True) Tryz.func96 (by as_aux_lemma => kernel_rfl) (by as_aux_lemma => kernel_rfl) trivial ?_
    have hu : ws = waysOf l.es p node := waysOf_unique hP fun w => (hW w).trans ⟨fun hh => hh.1, fun hh => ⟨hh, by have := (rawW_bound hm hn hpl hh).1.2; omega⟩⟩
    subst hu
    rw [hwl]
    have := hEg1.size
    exact ⟨og, hO, hE2, fun g' e => by have := hg g' e; omega⟩
theorem SameW_ct (A A2 : Option Addr) (c c2 : Nat) (xs ys : List Wy) (h : Heap) (hx : Wys h A xs c) (hy : Wys h A2 ys c2) :
    Ct Tryz.prog 95 #[.slice A xs.length c, .slice A2 ys.length c2] h (fun v h' => v = .bool (decide (xs = ys)) ∧ h' = h) := by
  have hl := hx.len
  refine Ct.enter (args := [.slice A xs.length c, .slice A2 ys.length c2]) Tryz.func95 rfl Tryz.ntmps95 (by simp) fun w hw => ?_
  by_cases hn : (xs.length : Int) = ys.length
  · -- at 11012
    refine Run.adv 21 [.dec false] (at_ Tryz.f95 [1,1,0,1,2]) [(0, .slice A xs.length c), (1, .slice A2 ys.length c2), (5, .int .i64 0)]
      (((xs.length : Int) != (ys.length : Int)) = false)
      (by as_aux_lemma => kernel_rfl) (bne_eq_false_iff_eq.2 (by first | omega | assumption)) fun s_ => ?_
    refine Run.loop (at_ Tryz.f95 [1,1,0,1,2,3]) (at_ Tryz.f95 [1,1,0,1,2,7]) (fun i : Nat => [(0, .slice A xs.length c), (1, .slice A2 ys.length c2), (5, .int .i64 (i : Int))])
      (fun i h' => h' = h ∧ i ≤ xs.length ∧ ∀ j : Nat, j < i → wd xs j = wd ys j) (fun i => xs.length - i) 0 (by as_aux_lemma => kernel_rfl) rfl ?_ ?_
    · exact ⟨rfl, Nat.zero_le _, fun j hj => by omega⟩
    rintro i s h' ⟨rfl, hi, hI⟩ again
    by_cases hlt : i < xs.length
    · obtain ⟨b, off, rfl, hp⟩ := hx.open_ (by omega)
      obtain ⟨b2, off2, rfl, hp2⟩ := hy.open_ (by omega)
      have r1 := hp _ (Ext.refl _) (i : Int) (by omega) (by omega)
      have r2 := hp2 _ (Ext.refl _) (i : Int) (by omega) (by omega)
      by_cases e1 : wd xs i = wd ys i
      · -- at 110127
        refine Run.adv 22 [.dec true, .draw, .val (.agg #[.int .i64 ((wd xs i).1), .int .i64 ((wd xs i).2)]), .val (.agg #[.int .i64 ((wd ys i).1), .int .i64 ((wd ys i).2)]), .dec false] (at_ Tryz.f95 [1,1,0,1,2,7]) [(0, .slice (some ⟨b, off, none⟩) xs.length c), (1, .slice (some ⟨b2, off2, none⟩) ys.length c2), (5, .int .i64 ((i + 1 : Nat) : Int))]
          ((decide ((i : Int) < (xs.length : Int))) = true ∧ LexOk (opsAt (at_ Tryz.f95 [1,1,0,1,2,3,1,0,2,0])) ∧ (0 ≤ (i : Int) ∧ (i : Int) < (xs.length : Int)) ∧ cellsAt h' ⟨b, off + (i : Int).toNat * 2, none⟩ [.int .i64 ((wd xs i).1), .int .i64 ((wd xs i).2)] 0 ∧ (0 ≤ (i : Int) ∧ (i : Int) < (ys.length : Int)) ∧ cellsAt h' ⟨b2, off2 + (i : Int).toNat * 2, none⟩ [.int .i64 ((wd ys i).1), .int .i64 ((wd ys i).2)] 0 ∧ (!((((wd xs i).1) == ((wd ys i).1)) && ((((wd xs i).2) == ((wd ys i).2)) && true))) = false ∧ (-9223372036854775808 ≤ (i : Int) + 1 ∧ (i : Int) + 1 ≤ 9223372036854775807))
          (by as_aux_lemma => kernel_rfl) ⟨(by first | assumption | exact decide_eq_true (by first | omega | assumption)), lx_95_1101231020, ⟨by omega, by omega⟩, (by simpa [wd, encW] using r1), ⟨by omega, by omega⟩, (by simpa [wd, encW] using r2), (bnf (by rw [eqWy]; exact decide_eq_true e1)), ⟨by omega, by omega⟩⟩ fun s_ => ?_
        refine again (i + 1) _ _ ⟨rfl, by omega, fun j hj => ?_⟩ (by omega)
        by_cases e2 : j = i
        · subst e2; exact e1
        · exact hI j (by omega)
      · -- at 110123102141
        refine Run.adv 19 [.dec true, .draw, .val (.agg #[.int .i64 ((wd xs i).1), .int .i64 ((wd xs i).2)]), .val (.agg #[.int .i64 ((wd ys i).1), .int .i64 ((wd ys i).2)]), .dec true] (at_ Tryz.f95 [1,1,0,1,2,3,1,0,2,1,4,1]) [(4, .bool false)]
          ((decide ((i : Int) < (xs.length : Int))) = true ∧ LexOk (opsAt (at_ Tryz.f95 [1,1,0,1,2,3,1,0,2,0])) ∧ (0 ≤ (i : Int) ∧ (i : Int) < (xs.length : Int)) ∧ cellsAt h' ⟨b, off + (i : Int).toNat * 2, none⟩ [.int .i64 ((wd xs i).1), .int .i64 ((wd xs i).2)] 0 ∧ (0 ≤ (i : Int) ∧ (i : Int) < (ys.length : Int)) ∧ cellsAt h' ⟨b2, off2 + (i : Int).toNat * 2, none⟩ [.int .i64 ((wd ys i).1), .int .i64 ((wd ys i).2)] 0 ∧ (!((((wd xs i).1) == ((wd ys i).1)) && ((((wd xs i).2) == ((wd ys i).2)) && true))) = true)
          (by as_aux_lemma => kernel_rfl) ⟨(by first | assumption | exact decide_eq_true (by first | omega | assumption)), lx_95_1101231020, ⟨by omega, by omega⟩, (by simpa [wd, encW] using r1), ⟨by omega, by omega⟩, (by simpa [wd, encW] using r2), (bnt (by rw [eqWy]; exact decide_eq_false e1))⟩ fun s_ => ?_
        refine Run.ret [] (.bool false) (True) Tryz.func95 (by as_aux_lemma => kernel_rfl) (by as_aux_lemma => kernel_rfl) trivial ?_
        exact ⟨by rw [decide_eq_false]; rintro rfl; exact e1 rfl, rfl⟩
    · -- at 1111
      refine Run.adv 14 [.dec false] (at_ Tryz.f95 [1,1,1,1]) [(4, .bool true)]
        ((decide ((i : Int) < (xs.length : Int))) = false)
        (by as_aux_lemma => kernel_rfl) (by first | assumption | exact decide_eq_false (by first | omega | assumption)) fun s_ => ?_
      refine Run.ret [] (.bool true) (True) Tryz.func95 (by as_aux_lemma => kernel_rfl) (by as_aux_lemma => kernel_rfl) trivial ?_
      refine ⟨?_, rfl⟩
      rw [decide_eq_true]
      refine list_ext (0, 0) (by omega) fun j h0 h1 => ?_
      obtain ⟨j, rfl⟩ := Int.eq_ofNat_of_zero_le h0
      rw [Int.toNat_natCast]
      exact hI j (by omega)
  · -- at 10141
    refine Run.adv 18 [.dec true] (at_ Tryz.f95 [1,0,1,4,1]) [(4, .bool false)]
      (((xs.length : Int) != (ys.length : Int)) = true)
      (by as_aux_lemma => kernel_rfl) (bne_iff_ne.2 (by first | omega | assumption)) fun s_ => ?_
    refine Run.ret [] (.bool false) (True) Tryz.func95 (by as_aux_lemma => kernel_rfl) (by as_aux_lemma => kernel_rfl) trivial ?_
    exact ⟨by rw [decide_eq_false]; rintro rfl; exact hn rfl, rfl⟩
theorem Alike_ct (A1 A2 A3 : Option Addr) (c1 c2 c3 : Nat) (l : Lt) (p : List Int) (x y : Int) (h : Heap) (hx : LtAt h l A1 c1 A2 c2) (hp : Ints h A3 p c3) (hm : May l) (hn : (p.length : Int) = l.n) (hpl : plainL p = p) :
    Ct Tryz.prog 71 #[.agg #[.int .i64 l.n, .slice A1 l.ls.length c1, .slice A2 l.es.length c2], .slice A3 p.length c3, .int .i64 x, .int .i64 y] h
      (fun v h' => v = .bool (decide (waysOf l.es p x = waysOf l.es p y)) ∧ Ext h h') := by
  have hlen := hm.len
  refine Ct.enter (args := [.agg #[.int .i64 l.n, .slice A1 l.ls.length c1, .slice A2 l.es.length c2], .slice A3 p.length c3, .int .i64 x, .int .i64 y]) Tryz.func71 rfl Tryz.ntmps71 (by simp) fun w hw => ?_
  -- at 080
  refine Run.adv 2 [] (at_ Tryz.f71 [0,8,0]) [(0, .agg #[.int .i64 l.n, .slice A1 l.ls.length c1, .slice A2 l.es.length c2]), (1, .slice A3 p.length c3), (2, .int .i64 x), (3, .int .i64 y)]
    (True)
    (by as_aux_lemma => kernel_rfl) trivial fun s_ => ?_
  refine Run.new #[.int .i64 l.n, .slice A1 l.ls.length c1, .slice A2 l.es.length c2] 25 (fun g_ => .pointer (some ⟨g_, 0, none⟩)) (some 4) (at_ Tryz.f71 [0,8,1]) (by as_aux_lemma => kernel_rfl) fun g1 h1 hng1 hEg1 hBg1 => ?_
  -- at 10
  refine Run.adv 3 [] (at_ Tryz.f71 [1,0]) [(1, .slice A3 p.length c3), (2, .int .i64 x), (3, .int .i64 y), (4, .pointer (some ⟨g1, 0, none⟩))]
    (True)
    (by as_aux_lemma => kernel_rfl) trivial fun s_ => ?_
  refine Run.any (opsAt (at_ Tryz.f71 [1,0])) (at_ Tryz.f71 [1,1]) (fun H => Mod none h1 H) [0, 1, 2, 4, 5, 6, 9] [0, 1, 2, 4, 5, 6] [.val (.agg #[.int .i64 l.n, .slice A1 l.ls.length c1, .slice A2 l.es.length c2]), .val (.agg #[.int .i64 l.n, .slice A1 l.ls.length c1, .slice A2 l.es.length c2])] #[true, true, true, false, true, true, true, false, false, false] [(1, .slice A3 p.length c3), (2, .int .i64 x), (3, .int .i64 y), (4, .pointer (some ⟨g1, 0, none⟩)), (9, .agg #[.int .i64 l.n, .slice A1 l.ls.length c1, .slice A2 l.es.length c2]), (10, .slice A3 p.length c3), (11, .int .i64 x), (13, .agg #[.int .i64 l.n, .slice A1 l.ls.length c1, .slice A2 l.es.length c2]), (14, .slice A3 p.length c3), (15, .int .i64 y)]
    (fun H => cellsAt H ⟨g1, 0, none⟩ [.int .i64 l.n, .slice A1 l.ls.length c1, .slice A2 l.es.length c2] 0 ∧ cellsAt H ⟨g1, 0, none⟩ [.int .i64 l.n, .slice A1 l.ls.length c1, .slice A2 l.es.length c2] 0) 4 (by as_aux_lemma => kernel_rfl) (by as_aux_lemma => kernel_rfl) ((Ext.refl _).mod _)
    (by as_aux_lemma => kernel_rfl) (fun H hC => ⟨(hBg1.all ((Ext.refl _).trans hC.none_ext)), (hBg1.all ((Ext.refl _).trans hC.none_ext))⟩) fun s_ => ?_
  refine RunA.call 3 96 #[.agg #[.int .i64 l.n, .slice A1 l.ls.length c1, .slice A2 l.es.length c2], .slice A3 p.length c3, .int .i64 x] (some 12) false #[true, true, true, true, true, true, true, false, false, false] (by as_aux_lemma => kernel_rfl) (refOf_ct A1 A2 A3 c1 c2 c3 l p x _ (hx.ext hEg1) (hp.ext hEg1) hm hn hpl) ?_
  rintro v h2 ⟨og2, hO2, hE2, -⟩
  refine ⟨fun _ => (((Ext.refl _).mod _).trans (hE2.mod _)), ?_⟩
  have hw1 := waysOf_len l.es p x
  have hw2 := waysOf_len l.es p y
  obtain ⟨A4, c4, rfl, hr4⟩ := hO2.rowK (d := (0, 0)) encW_len (by omega)
  refine RunA.call 2 96 #[.agg #[.int .i64 l.n, .slice A1 l.ls.length c1, .slice A2 l.es.length c2], .slice A3 p.length c3, .int .i64 y] (some 16) false #[true, true, true, true, true, true, true, true, false, false] (by as_aux_lemma => kernel_rfl) (refOf_ct A1 A2 A3 c1 c2 c3 l p y _ (hx.ext (hEg1.trans hE2)) (hp.ext (hEg1.trans hE2)) hm hn hpl) ?_
  rintro v h3 ⟨og3, hO3, hE3, -⟩
  refine ⟨fun _ => ((((Ext.refl _).mod _).trans (hE2.mod _)).trans (hE3.mod _)), ?_⟩
  obtain ⟨A5, c5, rfl, hr5⟩ := hO3.rowK (d := (0, 0)) encW_len (by omega)
  refine RunA.call 1 95 #[.slice A4 ((waysOf l.es p x).length) c4, .slice A5 ((waysOf l.es p y).length) c5] (some 17) false #[true, true, true, true, true, true, true, true, true, false] (by as_aux_lemma => kernel_rfl) (SameW_ct A4 A5 c4 c5 _ _ _ (Vc.RowK.ext hr4 hE3) hr5) ?_
  rintro _ _ ⟨rfl, rfl⟩
  refine ⟨fun _ => ((((Ext.refl _).mod _).trans (hE2.mod _)).trans (hE3.mod _)), ?_⟩
  refine RunA.adv [9] [] #[true, true, true, true, true, true, true, true, true, true] [(1, .slice A3 p.length c3), (2, .int .i64 x), (3, .int .i64 y), (4, .pointer (some ⟨g1, 0, none⟩)), (8, .bool (decide (waysOf l.es p x = waysOf l.es p y))), (9, .agg #[.int .i64 l.n, .slice A1 l.ls.length c1, .slice A2 l.es.length c2]), (10, .slice A3 p.length c3), (11, .int .i64 x), (12, .slice A4 ((waysOf l.es p x).length) c4), (13, .agg #[.int .i64 l.n, .slice A1 l.ls.length c1, .slice A2 l.es.length c2]), (14, .slice A3 p.length c3), (15, .int .i64 y), (16, .slice A5 ((waysOf l.es p y).length) c5), (17, .bool (decide (waysOf l.es p x = waysOf l.es p y)))]
    (fun H => True) 0 (by as_aux_lemma => kernel_rfl) ((((Ext.refl _).mod _).trans (hE2.mod _)).trans (hE3.mod _))
    (by as_aux_lemma => kernel_rfl) (fun H hC => trivial) fun s_ => ?_
  refine RunA.done [(1, .slice A3 p.length c3), (2, .int .i64 x), (3, .int .i64 y), (4, .pointer (some ⟨g1, 0, none⟩)), (8, .bool (decide (waysOf l.es p x = waysOf l.es p y))), (9, .agg #[.int .i64 l.n, .slice A1 l.ls.length c1, .slice A2 l.es.length c2]), (10, .slice A3 p.length c3), (11, .int .i64 x), (12, .slice A4 ((waysOf l.es p x).length) c4), (13, .agg #[.int .i64 l.n, .slice A1 l.ls.length c1, .slice A2 l.es.length c2]), (14, .slice A3 p.length c3), (15, .int .i64 y), (16, .slice A5 ((waysOf l.es p y).length) c5), (17, .bool (decide (waysOf l.es p x = waysOf l.es p y)))] (by as_aux_lemma => kernel_rfl) (by as_aux_lemma => kernel_rfl) fun s_ => ?_
  -- at 11
  refine Run.adv 0 [] (at_ Tryz.f71 [1,1]) [(8, .bool (decide (waysOf l.es p x = waysOf l.es p y)))]
    (True)
    (by as_aux_lemma => kernel_rfl) trivial fun s_ => ?_
  refine Run.ret [] (.bool (decide (waysOf l.es p x = waysOf l.es p y))) (True) Tryz.func71 (by as_aux_lemma => kernel_rfl) (by as_aux_lemma => kernel_rfl) trivial ?_
  exact ⟨rfl, ((hEg1.trans hE2).trans hE3)⟩
theorem refStep_ct (A1 A2 A3 : Option Addr) (c1 c2 c3 : Nat) (l : Lt) (p : List Int) (h : Heap) (hx : LtAt h l A1 c1 A2 c2) (hp : Ints h A3 p c3) (hm : May l) (hn : (p.length : Int) = l.n) :
    Ct Tryz.prog 44 #[.agg #[.int .i64 l.n, .slice A1 l.ls.length c1, .slice A2 l.es.length c2], .slice A3 p.length c3] h
      (fun v h' => ∃ og, Own h' 3 1 v (stepL l.es p).length ((stepL l.es p).map (Value.int .i64)) og ∧ Ext h h' ∧ ∀ g, og = some g → h.size ≤ g) := by
  have hm2 := hm.n2
  have hpl := plainL_len p
  have hpp := plain_plain p
  have hRe := stepR_eqv l.es (plainL p)
  refine Ct.enter (args := [.agg #[.int .i64 l.n, .slice A1 l.ls.length c1, .slice A2 l.es.length c2], .slice A3 p.length c3]) Tryz.func44 rfl Tryz.ntmps44 (by simp) fun w hw => ?_
  -- at 080
  refine Run.adv 2 [] (at_ Tryz.f44 [0,8,0]) [(0, .agg #[.int .i64 l.n, .slice A1 l.ls.length c1, .slice A2 l.es.length c2]), (1, .slice A3 p.length c3)]
    (True)
    (by as_aux_lemma => kernel_rfl) trivial fun s_ => ?_
  refine Run.new #[.int .i64 l.n, .slice A1 l.ls.length c1, .slice A2 l.es.length c2] 25 (fun g_ => .pointer (some ⟨g_, 0, none⟩)) (some 2) (at_ Tryz.f44 [0,8,1]) (by as_aux_lemma => kernel_rfl) fun g1 h1 hng1 hEg1 hBg1 => ?_
  -- at 1081
  refine Run.adv 5 [] (at_ Tryz.f44 [1,0,8,1]) [(0, .agg #[.int .i64 l.n, .slice A1 l.ls.length c1, .slice A2 l.es.length c2]), (1, .slice A3 p.length c3), (2, .pointer (some ⟨g1, 0, none⟩)), (4, .slice none 0 0), (9, .slice A3 p.length c3)]
    (True)
    (by as_aux_lemma => kernel_rfl) trivial fun s_ => ?_
  refine Run.call 70 #[.slice A3 p.length c3] (some 10) (at_ Tryz.f44 [1,0,8,2]) (by as_aux_lemma => kernel_rfl) (PlainR_ct A3 c3 p _ (hp.ext hEg1) (by omega)) ?_
  rintro v h2 ⟨og2, hO2, hE2, -⟩
  obtain ⟨A4, c4, rfl, hr4⟩ := hO2.row1 (d := 0) (by omega)
  -- at 11080
  refine Run.adv 4 [] (at_ Tryz.f44 [1,1,0,8,0]) [(1, .slice A4 ((plainL p).length) c4), (2, .pointer (some ⟨g1, 0, none⟩)), (10, .slice A4 ((plainL p).length) c4)]
    (True)
    (by as_aux_lemma => kernel_rfl) trivial fun s_ => ?_
  refine Run.new #[] 3 (fun g_ => .slice (some ⟨g_, 0, none⟩) 0 0) (some 11) (at_ Tryz.f44 [1,1,0,8,1]) (by as_aux_lemma => kernel_rfl) fun g0 h3 hng0 hEg0 hBg0 => ?_
  have hE03 := (hEg1.trans hE2).trans hEg0
  have hO1 := Own.of_blk (sz := 1) (n := 0) hBg0 rfl
  -- at 111012
  refine Run.adv 8 [] (at_ Tryz.f44 [1,1,1,0,1,2]) [(1, .slice A4 ((plainL p).length) c4), (2, .pointer (some ⟨g1, 0, none⟩)), (5, .slice (some ⟨g0, 0, none⟩) 0 0), (6, .int .i64 0)]
    (True)
    (by as_aux_lemma => kernel_rfl) trivial fun s_ => ?_
  refine Run.loop (at_ Tryz.f44 [1,1,1,0,1,2,3]) (at_ Tryz.f44 [1,1,1,0,1,2,7]) (fun (⟨i, A5, c5⟩ : Nat × Option Addr × Nat) => [(1, .slice A4 ((plainL p).length) c4), (2, .pointer (some ⟨g1, 0, none⟩)), (5, .slice A5 i c5), (6, .int .i64 (i : Int))])
    (fun ⟨i, A5, c5⟩ h4 => i ≤ p.length ∧ ∃ og, Own h4 3 1 (.slice A5 i c5) i (((List.range i).map fun j => (fstK (stepR l.es (plainL p)) j : Int)).map (Value.int .i64)) og ∧ Ext h2 h4 ∧ ∀ g', og = some g' → h2.size ≤ g') (fun ⟨i, A5, c5⟩ => p.length - i) (0, some ⟨g0, 0, none⟩, 0) (by as_aux_lemma => kernel_rfl) rfl ?_ ?_
  · exact ⟨Nat.zero_le _, some g0, by simpa using hO1, hEg0, fun g' e => by cases e; omega⟩
  rintro ⟨i, A5, c5⟩ s_ h4 ⟨hi, og, hO, hE4, hg⟩ again
  simp only at hi hO hE4 hg again
  have hE14 := hE2.trans hE4
  have hE04 := hEg1.trans hE14
  by_cases hlt : i < p.length
  · obtain ⟨b, off, rfl, hp4⟩ := hr4.open_ (by omega)
    -- at 11101231021012
    refine Run.adv 25 [.dec true] (at_ Tryz.f44 [1,1,1,0,1,2,3,1,0,2,1,0,1,2]) [(1, .slice (some ⟨b, off, none⟩) ((plainL p).length) c4), (2, .pointer (some ⟨g1, 0, none⟩)), (5, .slice A5 i c5), (6, .int .i64 (i : Int)), (7, .int .i64 (i : Int)), (8, .int .i64 ((i : Int) - 1))]
      ((decide ((i : Int) < ((plainL p).length : Int))) = true ∧ (-9223372036854775808 ≤ (i : Int) - 1 ∧ (i : Int) - 1 ≤ 9223372036854775807))
      (by as_aux_lemma => kernel_rfl) ⟨(by first | assumption | exact decide_eq_true (by first | omega | assumption)), ⟨by omega, by omega⟩⟩ fun s_ => ?_
    refine Run.loop (at_ Tryz.f44 [1,1,1,0,1,2,3,1,0,2,1,0,1,2,3]) (at_ Tryz.f44 [1,1,1,0,1,2,3,1,0,2,1,0,1,2,7]) (fun (⟨k, a⟩ : Int × Nat) => [(1, .slice (some ⟨b, off, none⟩) ((plainL p).length) c4), (2, .pointer (some ⟨g1, 0, none⟩)), (5, .slice A5 i c5), (6, .int .i64 (i : Int)), (7, .int .i64 (a : Int)), (8, .int .i64 k)])
      (fun ⟨k, a⟩ h5 => -1 ≤ k ∧ k < a ∧ a ≤ i ∧ stepR l.es (plainL p) a i = true ∧ (∀ j : Nat, k < j → j < a → stepR l.es (plainL p) j i = false) ∧ Ext h4 h5) (fun ⟨k, a⟩ => (k + 1).toNat) ((i : Int) - 1, i) (by as_aux_lemma => kernel_rfl) rfl ?_ ?_
    · exact ⟨by omega, by omega, Nat.le_refl _, hRe.refl i, fun j h1 h2 => by omega, Ext.refl _⟩
    rintro ⟨k, a⟩ s_ h5 ⟨hk1, hk2, ha, hR, hI, hE5⟩ again2
    simp only at hk1 hk2 ha hR hI hE5 again2
    have hE25 := hE4.trans hE5
    have hE15 := hE14.trans hE5
    have hE05 := hE04.trans hE5
    by_cases hlt2 : k ≥ 0
    · obtain ⟨kn, hkn⟩ := Int.eq_ofNat_of_zero_le hlt2
      have hker : rd (plainL p) k = rd (plainL p) i ↔ kerL (plainL p) kn i = true := by rw [hkn]; exact rd_ker (by omega) (by omega)
      by_cases e1 : rd (plainL p) k = rd (plainL p) i
      · by_cases e2 : waysOf l.es (plainL p) k = waysOf l.es (plainL p) i
        · -- at 1110123102101231020
          refine Run.adv 11 [.dec true] (at_ Tryz.f44 [1,1,1,0,1,2,3,1,0,2,1,0,1,2,3,1,0,2,0]) [(1, .slice (some ⟨b, off, none⟩) ((plainL p).length) c4), (2, .pointer (some ⟨g1, 0, none⟩)), (5, .slice A5 i c5), (6, .int .i64 (i : Int)), (7, .int .i64 (a : Int)), (8, .int .i64 k)]
            ((decide (k ≥ 0)) = true)
            (by as_aux_lemma => kernel_rfl) (by first | assumption | exact decide_eq_true (by first | omega | assumption)) fun s_ => ?_
          refine Run.drawE [.val (.int .i64 (rd (plainL p) k)), .val (.int .i64 (rd (plainL p) (i : Int))), .dec true, .val (.agg #[.int .i64 l.n, .slice A1 l.ls.length c1, .slice A2 l.es.length c2]), .lit, .lit, .lit, .lit, .val (.bool (decide (waysOf l.es (plainL p) k = waysOf l.es (plainL p) i)))] (at_ Tryz.f44 [1,1,1,0,1,2,3,1,0,2,1,0,1,2,3,1,0,2,1]) [(1, .slice (some ⟨b, off, none⟩) ((plainL p).length) c4), (2, .pointer (some ⟨g1, 0, none⟩)), (5, .slice A5 i c5), (6, .int .i64 (i : Int)), (7, .int .i64 (a : Int)), (8, .int .i64 k), (40, .bool (decide (waysOf l.es (plainL p) k = waysOf l.es (plainL p) i)))]
            (fun H => LexOk (opsAt (at_ Tryz.f44 [1,1,1,0,1,2,3,1,0,2,1,0,1,2,3,1,0,2,0])) ∧ (0 ≤ k ∧ k < ((plainL p).length : Int)) ∧ cellH H ⟨b, off + k.toNat, none⟩ = some (.int .i64 (rd (plainL p) k)) ∧ (0 ≤ (i : Int) ∧ (i : Int) < ((plainL p).length : Int)) ∧ cellH H ⟨b, off + (i : Int).toNat, none⟩ = some (.int .i64 (rd (plainL p) (i : Int))) ∧ ((rd (plainL p) k) == (rd (plainL p) (i : Int))) = true ∧ cellsAt H ⟨g1, 0, none⟩ [.int .i64 l.n, .slice A1 l.ls.length c1, .slice A2 l.es.length c2] 0 ∧ (Ct Tryz.prog 71 #[.agg #[.int .i64 l.n, .slice A1 l.ls.length c1, .slice A2 l.es.length c2], .slice (some ⟨b, off, none⟩) ((plainL p).length) c4, .int .i64 k, .int .i64 (i : Int)] H (fun v_ h_ => v_ = .bool (decide (waysOf l.es (plainL p) k = waysOf l.es (plainL p) i)) ∧ Ext H h_)))
            (by as_aux_lemma => kernel_rfl) (fun H hH => ⟨lx_44_1110123102101231020, ⟨by omega, by omega⟩, (hp4 _ (hE25.trans hH) k (by omega) (by omega)), ⟨by omega, by omega⟩, (hp4 _ (hE25.trans hH) i (by omega) (by omega)), (beq_iff_eq.2 (by first | omega | assumption)), (hBg1.all (hE15.trans hH)), (Alike_ct A1 A2 _ c1 c2 c4 l (plainL p) k i _ (hx.ext (hE05.trans hH)) (hr4.ext (hE25.trans hH)) hm (by omega) hpp)⟩) fun H s_ hH => ?_
          -- at 111012310210127
          refine Run.adv 11 [.dec true] (at_ Tryz.f44 [1,1,1,0,1,2,3,1,0,2,1,0,1,2,7]) [(1, .slice (some ⟨b, off, none⟩) ((plainL p).length) c4), (2, .pointer (some ⟨g1, 0, none⟩)), (5, .slice A5 i c5), (6, .int .i64 (i : Int)), (7, .int .i64 k), (8, .int .i64 (k - 1))]
            ((decide (waysOf l.es (plainL p) k = waysOf l.es (plainL p) i)) = true ∧ (-9223372036854775808 ≤ k - 1 ∧ k - 1 ≤ 9223372036854775807))
            (by as_aux_lemma => kernel_rfl) ⟨(decide_eq_true e2), ⟨by omega, by omega⟩⟩ fun s_ => ?_
          rw [show Value.int .i64 k = .int .i64 (kn : Int) by rw [hkn]]
          refine again2 (k - 1, kn) _ _ ⟨by simp only; omega, by simp only; omega, by simp only; omega, ?_, fun j h1 h2 => by simp only at h1 h2; omega, hE5.trans hH⟩ (by simp only; omega)
          simp only [stepR, Bool.and_eq_true, decide_eq_true_eq]
          exact ⟨hker.1 e1, by rw [← hkn]; exact e2⟩
        · -- at 1110123102101231020
          refine Run.adv 11 [.dec true] (at_ Tryz.f44 [1,1,1,0,1,2,3,1,0,2,1,0,1,2,3,1,0,2,0]) [(1, .slice (some ⟨b, off, none⟩) ((plainL p).length) c4), (2, .pointer (some ⟨g1, 0, none⟩)), (5, .slice A5 i c5), (6, .int .i64 (i : Int)), (7, .int .i64 (a : Int)), (8, .int .i64 k)]
            ((decide (k ≥ 0)) = true)
            (by as_aux_lemma => kernel_rfl) (by first | assumption | exact decide_eq_true (by first | omega | assumption)) fun s_ => ?_
          refine Run.drawE [.val (.int .i64 (rd (plainL p) k)), .val (.int .i64 (rd (plainL p) (i : Int))), .dec true, .val (.agg #[.int .i64 l.n, .slice A1 l.ls.length c1, .slice A2 l.es.length c2]), .lit, .lit, .lit, .lit, .val (.bool (decide (waysOf l.es (plainL p) k = waysOf l.es (plainL p) i)))] (at_ Tryz.f44 [1,1,1,0,1,2,3,1,0,2,1,0,1,2,3,1,0,2,1]) [(1, .slice (some ⟨b, off, none⟩) ((plainL p).length) c4), (2, .pointer (some ⟨g1, 0, none⟩)), (5, .slice A5 i c5), (6, .int .i64 (i : Int)), (7, .int .i64 (a : Int)), (8, .int .i64 k), (40, .bool (decide (waysOf l.es (plainL p) k = waysOf l.es (plainL p) i)))]
            (fun H => LexOk (opsAt (at_ Tryz.f44 [1,1,1,0,1,2,3,1,0,2,1,0,1,2,3,1,0,2,0])) ∧ (0 ≤ k ∧ k < ((plainL p).length : Int)) ∧ cellH H ⟨b, off + k.toNat, none⟩ = some (.int .i64 (rd (plainL p) k)) ∧ (0 ≤ (i : Int) ∧ (i : Int) < ((plainL p).length : Int)) ∧ cellH H ⟨b, off + (i : Int).toNat, none⟩ = some (.int .i64 (rd (plainL p) (i : Int))) ∧ ((rd (plainL p) k) == (rd (plainL p) (i : Int))) = true ∧ cellsAt H ⟨g1, 0, none⟩ [.int .i64 l.n, .slice A1 l.ls.length c1, .slice A2 l.es.length c2] 0 ∧ (Ct Tryz.prog 71 #[.agg #[.int .i64 l.n, .slice A1 l.ls.length c1, .slice A2 l.es.length c2], .slice (some ⟨b, off, none⟩) ((plainL p).length) c4, .int .i64 k, .int .i64 (i : Int)] H (fun v_ h_ => v_ = .bool (decide (waysOf l.es (plainL p) k = waysOf l.es (plainL p) i)) ∧ Ext H h_)))
            (by as_aux_lemma => kernel_rfl) (fun H hH => ⟨lx_44_1110123102101231020, ⟨by omega, by omega⟩, (hp4 _ (hE25.trans hH) k (by omega) (by omega)), ⟨by omega, by omega⟩, (hp4 _ (hE25.trans hH) i (by omega) (by omega)), (beq_iff_eq.2 (by first | omega | assumption)), (hBg1.all (hE15.trans hH)), (Alike_ct A1 A2 _ c1 c2 c4 l (plainL p) k i _ (hx.ext (hE05.trans hH)) (hr4.ext (hE25.trans hH)) hm (by omega) hpp)⟩) fun H s_ hH => ?_
          -- at 111012310210127
          refine Run.adv 8 [.dec false] (at_ Tryz.f44 [1,1,1,0,1,2,3,1,0,2,1,0,1,2,7]) [(1, .slice (some ⟨b, off, none⟩) ((plainL p).length) c4), (2, .pointer (some ⟨g1, 0, none⟩)), (5, .slice A5 i c5), (6, .int .i64 (i : Int)), (7, .int .i64 (a : Int)), (8, .int .i64 (k - 1))]
            ((decide (waysOf l.es (plainL p) k = waysOf l.es (plainL p) i)) = false ∧ (-9223372036854775808 ≤ k - 1 ∧ k - 1 ≤ 9223372036854775807))
            (by as_aux_lemma => kernel_rfl) ⟨(decide_eq_false e2), ⟨by omega, by omega⟩⟩ fun s_ => ?_
          refine again2 (k - 1, a) _ _ ⟨by simp only; omega, by simp only; omega, by simp only; omega, hR, fun j h1 h2 => ?_, hE5.trans hH⟩ (by simp only; omega)
          simp only at h1 h2
          by_cases e3 : (j : Int) = k
          · simp [stepR, e3, e2]
          · exact hI j (by omega) h2
      · -- at 1110123102101231020
        refine Run.adv 11 [.dec true] (at_ Tryz.f44 [1,1,1,0,1,2,3,1,0,2,1,0,1,2,3,1,0,2,0]) [(1, .slice (some ⟨b, off, none⟩) ((plainL p).length) c4), (2, .pointer (some ⟨g1, 0, none⟩)), (5, .slice A5 i c5), (6, .int .i64 (i : Int)), (7, .int .i64 (a : Int)), (8, .int .i64 k)]
          ((decide (k ≥ 0)) = true)
          (by as_aux_lemma => kernel_rfl) (by first | assumption | exact decide_eq_true (by first | omega | assumption)) fun s_ => ?_
        refine Run.drawE [.val (.int .i64 (rd (plainL p) k)), .val (.int .i64 (rd (plainL p) (i : Int))), .dec false, .lit, .lit, .lit, .lit] (at_ Tryz.f44 [1,1,1,0,1,2,3,1,0,2,1,0,1,2,3,1,0,2,1]) [(1, .slice (some ⟨b, off, none⟩) ((plainL p).length) c4), (2, .pointer (some ⟨g1, 0, none⟩)), (5, .slice A5 i c5), (6, .int .i64 (i : Int)), (7, .int .i64 (a : Int)), (8, .int .i64 k), (40, .bool false)]
          (fun H => LexOk (opsAt (at_ Tryz.f44 [1,1,1,0,1,2,3,1,0,2,1,0,1,2,3,1,0,2,0])) ∧ (0 ≤ k ∧ k < ((plainL p).length : Int)) ∧ cellH H ⟨b, off + k.toNat, none⟩ = some (.int .i64 (rd (plainL p) k)) ∧ (0 ≤ (i : Int) ∧ (i : Int) < ((plainL p).length : Int)) ∧ cellH H ⟨b, off + (i : Int).toNat, none⟩ = some (.int .i64 (rd (plainL p) (i : Int))) ∧ ((rd (plainL p) k) == (rd (plainL p) (i : Int))) = false)
          (by as_aux_lemma => kernel_rfl) (fun H hH => ⟨lx_44_1110123102101231020, ⟨by omega, by omega⟩, (hp4 _ (hE25.trans hH) k (by omega) (by omega)), ⟨by omega, by omega⟩, (hp4 _ (hE25.trans hH) i (by omega) (by omega)), (beq_eq_false_iff_ne.2 (by first | omega | assumption))⟩) fun H s_ hH => ?_
        -- at 111012310210127
        refine Run.adv 8 [.lit] (at_ Tryz.f44 [1,1,1,0,1,2,3,1,0,2,1,0,1,2,7]) [(1, .slice (some ⟨b, off, none⟩) ((plainL p).length) c4), (2, .pointer (some ⟨g1, 0, none⟩)), (5, .slice A5 i c5), (6, .int .i64 (i : Int)), (7, .int .i64 (a : Int)), (8, .int .i64 (k - 1))]
          ((-9223372036854775808 ≤ k - 1 ∧ k - 1 ≤ 9223372036854775807))
          (by as_aux_lemma => kernel_rfl) ⟨by omega, by omega⟩ fun s_ => ?_
        refine again2 (k - 1, a) _ _ ⟨by simp only; omega, by simp only; omega, by simp only; omega, hR, fun j h1 h2 => ?_, hE5.trans hH⟩ (by simp only; omega)
        simp only at h1 h2
        by_cases e3 : (j : Int) = k
        · obtain rfl : j = kn := by omega
          have : kerL (plainL p) j i = false := Bool.eq_false_iff.2 fun hh => e1 (hker.2 hh)
          simp [stepR, this]
        · exact hI j (by omega) h2
    · have hfa : fstK (stepR l.es (plainL p)) i = a := fst_unique hRe hR (fun j hj => hI j (by omega) hj) ha
      -- at 11101231021182
      refine Run.adv 11 [.dec false] (at_ Tryz.f44 [1,1,1,0,1,2,3,1,0,2,1,1,8,2]) [(1, .slice (some ⟨b, off, none⟩) ((plainL p).length) c4), (2, .pointer (some ⟨g1, 0, none⟩)), (5, .slice A5 i c5), (6, .int .i64 (i : Int)), (42, .slice A5 i c5), (43, .int .i64 (a : Int))]
        ((decide (k ≥ 0)) = false)
        (by as_aux_lemma => kernel_rfl) (by first | assumption | exact decide_eq_false (by first | omega | assumption)) fun s_ => ?_
      refine Run.new #[.int .i64 (a : Int)] 3 (fun g_ => .slice (some ⟨g_, 0, none⟩) 1 1) (some 44) (at_ Tryz.f44 [1,1,1,0,1,2,3,1,0,2,1,1,8,3]) (by as_aux_lemma => kernel_rfl) fun g3 h6 hng3 hEg3 hBg3 => ?_
      refine Run.append (.slice A5 i c5) (.slice (some ⟨g3, 0, none⟩) 1 1) 3 (some 45) (at_ Tryz.f44 [1,1,1,0,1,2,3,1,0,2,1,1,8,4]) 1 8 (by as_aux_lemma => kernel_rfl) (by as_aux_lemma => kernel_rfl) (by decide) ((hO.ext hE5).ext hEg3) (Src.row (hBg3.all (Ext.refl _)) rfl) (by rfl) rfl (by omega) fun A9 c9 h7 og9 hOA9 hMh7 hgA9 => ?_
      have hEh2_h7 := hMh7.ext (hE25.trans hEg3) (by exact hg)
      -- at 1110127
      refine Run.adv 8 [] (at_ Tryz.f44 [1,1,1,0,1,2,7]) [(1, .slice (some ⟨b, off, none⟩) ((plainL p).length) c4), (2, .pointer (some ⟨g1, 0, none⟩)), (5, .slice A9 (i + 1) c9), (6, .int .i64 ((i + 1 : Nat) : Int))]
        ((-9223372036854775808 ≤ (i : Int) + 1 ∧ (i : Int) + 1 ≤ 9223372036854775807))
        (by as_aux_lemma => kernel_rfl) ⟨by omega, by omega⟩ fun s_ => ?_
      refine again (i + 1, A9, c9) _ _ ⟨hlt, og9, ?_, hEh2_h7, fun g' e => ?_⟩ (by simp only; omega)
      · simp only
        rw [List.range_succ, List.map_append, List.map_append]
        simp only [List.map_cons, List.map_nil]
        rw [hfa]
        exact hOA9
      · have := hE25.size
        have := hEg3.size
        rcases hgA9 with e2 | e2
        · exact hg g' (e2 ▸ e)
        · rw [e2] at e; cases e; omega
  · have hie : i = p.length := by omega
    rw [hie] at hO
    -- at 1111081
    refine Run.adv 13 [.dec false] (at_ Tryz.f44 [1,1,1,1,0,8,1]) [(46, .slice A5 i c5)]
      ((decide ((i : Int) < ((plainL p).length : Int))) = false)
      (by as_aux_lemma => kernel_rfl) (by first | assumption | exact decide_eq_false (by first | omega | assumption)) fun s_ => ?_
    have hlo : ((List.range p.length).map fun j => (fstK (stepR l.es (plainL p)) j : Int)).length = p.length := by simp
    have hO' : Own h4 3 1 (.slice A5 p.length c5) ((List.range p.length).map fun j => (fstK (stepR l.es (plainL p)) j : Int)).length (((List.range p.length).map fun j => (fstK (stepR l.es (plainL p)) j : Int)).map (Value.int .i64)) og := by rw [hlo]; exact hO
    obtain ⟨A6, c6, hv6, hr6⟩ := hO'.row1 (d := 0) (by omega)
    rw [hlo] at hv6
    injection hv6 with e1 e2 e3
    subst e1 e3
    rw [hie, show Value.slice A5 p.length c5 = .slice A5 ((List.range p.length).map fun j => (fstK (stepR l.es (plainL p)) j : Int)).length c5 by rw [hlo]]
    refine Run.call 70 #[.slice A5 (((List.range p.length).map fun j => (fstK (stepR l.es (plainL p)) j : Int)).length) c5] (some 47) (at_ Tryz.f44 [1,1,1,1,0,8,2]) (by as_aux_lemma => kernel_rfl) (PlainR_ct A5 c5 _ _ hr6 (by omega)) ?_
    rintro v h5 ⟨og5, hO5, hE5, hg5⟩
    have hst : plainL ((List.range p.length).map fun j => (fstK (stepR l.es (plainL p)) j : Int)) = stepL l.es p := by
      have e0 : ∀ X : List Int, plainL X = plainK (kerL X) X.length := fun _ => rfl
      rw [e0, hlo]
      unfold stepL
      refine plainK_congr fun x y hx2 hy2 => ?_
      rw [Bool.eq_iff_iff, ← getD_eq_iff (by omega) (by omega), mapRange_getD _ _ hx2, mapRange_getD _ _ hy2]
      exact ⟨fun hh => R_of_fst hRe (by omega), fun hh => by rw [fst_eq_of hRe hh]⟩
    rw [hst] at hO5
    obtain ⟨A7, c7, rfl⟩ := hO5.slice
    -- at 11111
    refine Run.adv 2 [] (at_ Tryz.f44 [1,1,1,1,1]) [(4, .slice A7 ((stepL l.es p).length) c7)]
      (True)
      (by as_aux_lemma => kernel_rfl) trivial fun s_ => ?_
    refine Run.ret [] (.slice A7 ((stepL l.es p).length) c7) (True) Tryz.func44 (by as_aux_lemma => kernel_rfl) (by as_aux_lemma => kernel_rfl) trivial ?_
    exact ⟨og5, hO5, hE04.trans hE5, fun g' e => by have := hg5 g' e; have := hE04.size; omega⟩
end Go.Proofs.YtbajgbkkbabmlaaGreatDoor
