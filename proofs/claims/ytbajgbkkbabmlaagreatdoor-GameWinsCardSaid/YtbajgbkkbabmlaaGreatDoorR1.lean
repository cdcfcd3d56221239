/- The references' functions on edges and systems, walked: whether an edge stands ahead, whether lists are the same, whether a system may be. -/
import Derived.Test.YtbajgbkkbabmlaaGreatDoorProg
import Derived.Test.YtbajgbkkbabmlaaGreatDoorVd
set_option linter.unusedVariables false
namespace Go.Proofs.YtbajgbkkbabmlaaGreatDoor
open Go.Vc
theorem lx_14_1101231020 : LexOk (opsAt (at_ Tryz.f14 [1,1,0,1,2,3,1,0,2,0])) := ⟨by kernel_rfl⟩
theorem lx_14_111012310210 : LexOk (opsAt (at_ Tryz.f14 [1,1,1,0,1,2,3,1,0,2,1,0])) := ⟨by kernel_rfl⟩
theorem lx_45_1101231020 : LexOk (opsAt (at_ Tryz.f45 [1,1,0,1,2,3,1,0,2,0])) := ⟨by kernel_rfl⟩

theorem Ahead_ct (a b : Ed) (h : Heap) : Ct Tryz.prog 43 #[.agg #[.int .i64 a.1, .int .i64 a.2.1, .int .i64 a.2.2], .agg #[.int .i64 b.1, .int .i64 b.2.1, .int .i64 b.2.2]] h
    (fun v h' => v = .bool (aheadB a b) ∧ Ext h h') := by
  refine Ct.enter (args := [.agg #[.int .i64 a.1, .int .i64 a.2.1, .int .i64 a.2.2], .agg #[.int .i64 b.1, .int .i64 b.2.1, .int .i64 b.2.2]]) Tryz.func43 rfl Tryz.ntmps43 (by simp) fun w hw => ?_
  -- at 080
  refine Run.adv 2 [] (at_ Tryz.f43 [0,8,0]) [(0, .agg #[.int .i64 a.1, .int .i64 a.2.1, .int .i64 a.2.2]), (1, .agg #[.int .i64 b.1, .int .i64 b.2.1, .int .i64 b.2.2])]
    (True)
    (by as_aux_lemma => kernel_rfl) trivial fun s_ => ?_
  refine Run.new #[.int .i64 a.1, .int .i64 a.2.1, .int .i64 a.2.2] 64 (fun g_ => .pointer (some ⟨g_, 0, none⟩)) (some 2) (at_ Tryz.f43 [0,8,1]) (by as_aux_lemma => kernel_rfl) fun g1 h1 hng1 hEg1 hBg1 => ?_
  refine Run.new #[.int .i64 b.1, .int .i64 b.2.1, .int .i64 b.2.2] 64 (fun g_ => .pointer (some ⟨g_, 0, none⟩)) (some 3) (at_ Tryz.f43 [0,8,2]) (by as_aux_lemma => kernel_rfl) fun g2 h2 hng2 hEg2 hBg2 => ?_
  unfold aheadB
  by_cases e1 : a.1 = b.1
  · by_cases e2 : a.2.1 = b.2.1
    · -- at 1111
      refine Run.adv 33 [.val (.int .i64 a.1), .val (.int .i64 b.1), .dec false, .val (.int .i64 a.2.1), .val (.int .i64 b.2.1), .dec false, .val (.int .i64 a.2.2), .val (.int .i64 b.2.2)] (at_ Tryz.f43 [1,1,1,1]) [(4, .bool (decide (a.2.2 < b.2.2)))]
        (cellH h2 ⟨g1, 0, none⟩ = some (.int .i64 a.1) ∧ cellH h2 ⟨g2, 0, none⟩ = some (.int .i64 b.1) ∧ (a.1 != b.1) = false ∧ cellH h2 ⟨g1, 1, none⟩ = some (.int .i64 a.2.1) ∧ cellH h2 ⟨g2, 1, none⟩ = some (.int .i64 b.2.1) ∧ (a.2.1 != b.2.1) = false ∧ cellH h2 ⟨g1, 2, none⟩ = some (.int .i64 a.2.2) ∧ cellH h2 ⟨g2, 2, none⟩ = some (.int .i64 b.2.2))
        (by as_aux_lemma => kernel_rfl) ⟨(hBg1.at hEg2 0 rfl), (hBg2.at (Ext.refl _) 0 rfl), (bne_eq_false_iff_eq.2 (by first | omega | assumption)), (hBg1.at hEg2 1 rfl), (hBg2.at (Ext.refl _) 1 rfl), (bne_eq_false_iff_eq.2 (by first | omega | assumption)), (hBg1.at hEg2 2 rfl), (hBg2.at (Ext.refl _) 2 rfl)⟩ fun s_ => ?_
      refine Run.ret [] (.bool (decide (a.2.2 < b.2.2))) (True) Tryz.func43 (by as_aux_lemma => kernel_rfl) (by as_aux_lemma => kernel_rfl) trivial ?_
      rw [if_neg (by simpa using e1), if_neg (by simpa using e2)]
      exact ⟨rfl, hEg1.trans hEg2⟩
    · -- at 110141
      refine Run.adv 32 [.val (.int .i64 a.1), .val (.int .i64 b.1), .dec false, .val (.int .i64 a.2.1), .val (.int .i64 b.2.1), .dec true, .val (.int .i64 a.2.1), .val (.int .i64 b.2.1)] (at_ Tryz.f43 [1,1,0,1,4,1]) [(4, .bool (decide (a.2.1 < b.2.1)))]
        (cellH h2 ⟨g1, 0, none⟩ = some (.int .i64 a.1) ∧ cellH h2 ⟨g2, 0, none⟩ = some (.int .i64 b.1) ∧ (a.1 != b.1) = false ∧ cellH h2 ⟨g1, 1, none⟩ = some (.int .i64 a.2.1) ∧ cellH h2 ⟨g2, 1, none⟩ = some (.int .i64 b.2.1) ∧ (a.2.1 != b.2.1) = true ∧ cellH h2 ⟨g1, 1, none⟩ = some (.int .i64 a.2.1) ∧ cellH h2 ⟨g2, 1, none⟩ = some (.int .i64 b.2.1))
        (by as_aux_lemma => kernel_rfl) ⟨(hBg1.at hEg2 0 rfl), (hBg2.at (Ext.refl _) 0 rfl), (bne_eq_false_iff_eq.2 (by first | omega | assumption)), (hBg1.at hEg2 1 rfl), (hBg2.at (Ext.refl _) 1 rfl), (bne_iff_ne.2 (by first | omega | assumption)), (hBg1.at hEg2 1 rfl), (hBg2.at (Ext.refl _) 1 rfl)⟩ fun s_ => ?_
      refine Run.ret [] (.bool (decide (a.2.1 < b.2.1))) (True) Tryz.func43 (by as_aux_lemma => kernel_rfl) (by as_aux_lemma => kernel_rfl) trivial ?_
      rw [if_neg (by simpa using e1), if_pos e2]
      exact ⟨rfl, hEg1.trans hEg2⟩
  · -- at 10141
    refine Run.adv 21 [.val (.int .i64 a.1), .val (.int .i64 b.1), .dec true, .val (.int .i64 a.1), .val (.int .i64 b.1)] (at_ Tryz.f43 [1,0,1,4,1]) [(4, .bool (decide (a.1 < b.1)))]
      (cellH h2 ⟨g1, 0, none⟩ = some (.int .i64 a.1) ∧ cellH h2 ⟨g2, 0, none⟩ = some (.int .i64 b.1) ∧ (a.1 != b.1) = true ∧ cellH h2 ⟨g1, 0, none⟩ = some (.int .i64 a.1) ∧ cellH h2 ⟨g2, 0, none⟩ = some (.int .i64 b.1))
      (by as_aux_lemma => kernel_rfl) ⟨(hBg1.at hEg2 0 rfl), (hBg2.at (Ext.refl _) 0 rfl), (bne_iff_ne.2 (by first | omega | assumption)), (hBg1.at hEg2 0 rfl), (hBg2.at (Ext.refl _) 0 rfl)⟩ fun s_ => ?_
    refine Run.ret [] (.bool (decide (a.1 < b.1))) (True) Tryz.func43 (by as_aux_lemma => kernel_rfl) (by as_aux_lemma => kernel_rfl) trivial ?_
    rw [if_pos e1]
    exact ⟨rfl, hEg1.trans hEg2⟩

theorem Same_ct (A A2 : Option Addr) (c c2 : Nat) (xs ys : List Int) (h : Heap) (hx : Ints h A xs c) (hy : Ints h A2 ys c2) :
    Ct Tryz.prog 45 #[.slice A xs.length c, .slice A2 ys.length c2] h (fun v h' => v = .bool (decide (xs = ys)) ∧ h' = h) := by
  have hl := hx.len
  refine Ct.enter (args := [.slice A xs.length c, .slice A2 ys.length c2]) Tryz.func45 rfl Tryz.ntmps45 (by simp) fun w hw => ?_
  by_cases hn : (xs.length : Int) = ys.length
  · -- at 11012
    refine Run.adv 21 [.dec false] (at_ Tryz.f45 [1,1,0,1,2]) [(0, .slice A xs.length c), (1, .slice A2 ys.length c2), (5, .int .i64 0)]
      (((xs.length : Int) != (ys.length : Int)) = false)
      (by as_aux_lemma => kernel_rfl) (bne_eq_false_iff_eq.2 (by first | omega | assumption)) fun s_ => ?_
    refine Run.loop (at_ Tryz.f45 [1,1,0,1,2,3]) (at_ Tryz.f45 [1,1,0,1,2,7]) (fun i : Int => [(0, .slice A xs.length c), (1, .slice A2 ys.length c2), (5, .int .i64 i)])
      (fun i h' => h' = h ∧ 0 ≤ i ∧ i ≤ xs.length ∧ ∀ j : Int, 0 ≤ j → j < i → rd xs j = rd ys j) (fun i => (xs.length - i).toNat) 0 (by as_aux_lemma => kernel_rfl) rfl ?_ ?_
    · exact ⟨rfl, by omega, by omega, fun _ _ h => by omega⟩
    rintro i s h' ⟨rfl, hi0, hi1, hI⟩ again
    by_cases hlt : i < xs.length
    · obtain ⟨b, off, rfl, hp⟩ := hx.open_ (by omega)
      obtain ⟨b2, off2, rfl, hp2⟩ := hy.open_ (by omega)
      by_cases e1 : rd xs i = rd ys i
      · -- at 110127
        refine Run.adv 22 [.dec true, .draw, .val (.int .i64 (rd xs i)), .val (.int .i64 (rd ys i)), .dec false] (at_ Tryz.f45 [1,1,0,1,2,7]) [(0, .slice (some ⟨b, off, none⟩) xs.length c), (1, .slice (some ⟨b2, off2, none⟩) ys.length c2), (5, .int .i64 (i + 1))]
          ((decide (i < (xs.length : Int))) = true ∧ LexOk (opsAt (at_ Tryz.f45 [1,1,0,1,2,3,1,0,2,0])) ∧ (0 ≤ i ∧ i < (xs.length : Int)) ∧ cellH h' ⟨b, off + i.toNat, none⟩ = some (.int .i64 (rd xs i)) ∧ (0 ≤ i ∧ i < (ys.length : Int)) ∧ cellH h' ⟨b2, off2 + i.toNat, none⟩ = some (.int .i64 (rd ys i)) ∧ ((rd xs i) != (rd ys i)) = false ∧ (-9223372036854775808 ≤ i + 1 ∧ i + 1 ≤ 9223372036854775807))
          (by as_aux_lemma => kernel_rfl) ⟨(by first | assumption | exact decide_eq_true (by first | omega | assumption)), lx_45_1101231020, ⟨by omega, by omega⟩, (hp _ (Ext.refl _) i (by omega) (by omega)), ⟨by omega, by omega⟩, (hp2 _ (Ext.refl _) i (by omega) (by omega)), (bne_eq_false_iff_eq.2 (by first | omega | assumption)), ⟨by omega, by omega⟩⟩ fun s_ => ?_
        refine again (i + 1) _ _ ⟨rfl, by omega, by omega, fun j h1 h2 => ?_⟩ (by omega)
        by_cases e2 : j = i
        · subst e2; exact e1
        · exact hI j h1 (by omega)
      · -- at 110123102141
        refine Run.adv 19 [.dec true, .draw, .val (.int .i64 (rd xs i)), .val (.int .i64 (rd ys i)), .dec true] (at_ Tryz.f45 [1,1,0,1,2,3,1,0,2,1,4,1]) [(4, .bool false)]
          ((decide (i < (xs.length : Int))) = true ∧ LexOk (opsAt (at_ Tryz.f45 [1,1,0,1,2,3,1,0,2,0])) ∧ (0 ≤ i ∧ i < (xs.length : Int)) ∧ cellH h' ⟨b, off + i.toNat, none⟩ = some (.int .i64 (rd xs i)) ∧ (0 ≤ i ∧ i < (ys.length : Int)) ∧ cellH h' ⟨b2, off2 + i.toNat, none⟩ = some (.int .i64 (rd ys i)) ∧ ((rd xs i) != (rd ys i)) = true)
          (by as_aux_lemma => kernel_rfl) ⟨(by first | assumption | exact decide_eq_true (by first | omega | assumption)), lx_45_1101231020, ⟨by omega, by omega⟩, (hp _ (Ext.refl _) i (by omega) (by omega)), ⟨by omega, by omega⟩, (hp2 _ (Ext.refl _) i (by omega) (by omega)), (bne_iff_ne.2 (by first | omega | assumption))⟩ fun s_ => ?_
        refine Run.ret [] (.bool false) (True) Tryz.func45 (by as_aux_lemma => kernel_rfl) (by as_aux_lemma => kernel_rfl) trivial ?_
        exact ⟨by rw [decide_eq_false]; rintro rfl; exact e1 rfl, rfl⟩
    · -- at 1111
      refine Run.adv 14 [.dec false] (at_ Tryz.f45 [1,1,1,1]) [(4, .bool true)]
        ((decide (i < (xs.length : Int))) = false)
        (by as_aux_lemma => kernel_rfl) (by first | assumption | exact decide_eq_false (by first | omega | assumption)) fun s_ => ?_
      refine Run.ret [] (.bool true) (True) Tryz.func45 (by as_aux_lemma => kernel_rfl) (by as_aux_lemma => kernel_rfl) trivial ?_
      exact ⟨by rw [decide_eq_true]; exact list_ext 0 (by omega) (fun j h1 h2 => hI j h1 (by omega)), rfl⟩
  · -- at 10141
    refine Run.adv 18 [.dec true] (at_ Tryz.f45 [1,0,1,4,1]) [(4, .bool false)]
      (((xs.length : Int) != (ys.length : Int)) = true)
      (by as_aux_lemma => kernel_rfl) (bne_iff_ne.2 (by first | omega | assumption)) fun s_ => ?_
    refine Run.ret [] (.bool false) (True) Tryz.func45 (by as_aux_lemma => kernel_rfl) (by as_aux_lemma => kernel_rfl) trivial ?_
    exact ⟨by rw [decide_eq_false]; rintro rfl; exact hn rfl, rfl⟩

theorem Light26_ct (A1 A2 : Option Addr) (c1 c2 : Nat) (l : Lt) (h : Heap) (hx : LtAt h l A1 c1 A2 c2) :
    Ct Tryz.prog 49 #[.agg #[.int .i64 l.n, .slice A1 l.ls.length c1, .slice A2 l.es.length c2]] h (fun v h' => v = .bool (tv (Light26 l)) ∧ Ext h h') := by
  have hl := hx.ls.len
  refine Ct.enter (args := [.agg #[.int .i64 l.n, .slice A1 l.ls.length c1, .slice A2 l.es.length c2]]) Tryz.func49 rfl Tryz.ntmps49 (by simp) fun w hw => ?_
  -- at 080
  refine Run.adv 2 [] (at_ Tryz.f49 [0,8,0]) [(0, .agg #[.int .i64 l.n, .slice A1 l.ls.length c1, .slice A2 l.es.length c2])]
    (True)
    (by as_aux_lemma => kernel_rfl) trivial fun s_ => ?_
  refine Run.new #[.int .i64 l.n, .slice A1 l.ls.length c1, .slice A2 l.es.length c2] 25 (fun g_ => .pointer (some ⟨g_, 0, none⟩)) (some 1) (at_ Tryz.f49 [0,8,1]) (by as_aux_lemma => kernel_rfl) fun g1 h1 hng1 hEg1 hBg1 => ?_
  -- at 1012
  refine Run.adv 8 [] (at_ Tryz.f49 [1,0,1,2]) [(1, .pointer (some ⟨g1, 0, none⟩)), (3, .int .i64 0)]
    (True)
    (by as_aux_lemma => kernel_rfl) trivial fun s_ => ?_
  refine Run.loop (at_ Tryz.f49 [1,0,1,2,3]) (at_ Tryz.f49 [1,0,1,2,7]) (fun i : Int => [(1, .pointer (some ⟨g1, 0, none⟩)), (3, .int .i64 i)])
    (fun i h' => h' = h1 ∧ 0 ≤ i ∧ i ≤ l.ls.length ∧ i ≤ 70 ∧ ∀ j : Int, 0 ≤ j → j < i → (sd l.ls j).size ≤ 300) (fun i => (l.ls.length - i).toNat) 0 (by as_aux_lemma => kernel_rfl) rfl ?_ ?_
  · exact ⟨rfl, by omega, by omega, by omega, fun _ _ h => by omega⟩
  rintro i s h' ⟨rfl, hi0, hi1, hi2, hI⟩ again
  by_cases hlt : i < l.ls.length
  · by_cases h70 : i < 70
    · obtain ⟨b, off, rfl, hp⟩ := hx.ls.open_ (by omega)
      by_cases e1 : (sd l.ls i).size ≤ 300
      · -- at 10127
        refine Run.adv 35 [.val (.slice (some ⟨b, off, none⟩) l.ls.length c1), .dec true, .lit, .dec true, .val (.slice (some ⟨b, off, none⟩) l.ls.length c1), .val (.string (sd l.ls i)), .dec false] (at_ Tryz.f49 [1,0,1,2,7]) [(1, .pointer (some ⟨g1, 0, none⟩)), (3, .int .i64 (i + 1))]
          (cellH h' ⟨g1, 1, none⟩ = some (.slice (some ⟨b, off, none⟩) l.ls.length c1) ∧ (decide (i < (l.ls.length : Int))) = true ∧ (decide (i < 70)) = true ∧ cellH h' ⟨g1, 1, none⟩ = some (.slice (some ⟨b, off, none⟩) l.ls.length c1) ∧ (0 ≤ i ∧ i < (l.ls.length : Int)) ∧ cellH h' ⟨b, off + i.toNat, none⟩ = some (.string (sd l.ls i)) ∧ (decide (((sd l.ls i).size : Int) > 300)) = false ∧ (-9223372036854775808 ≤ i + 1 ∧ i + 1 ≤ 9223372036854775807))
          (by as_aux_lemma => kernel_rfl) ⟨(hBg1.at (Ext.refl _) 1 rfl), (by first | assumption | exact decide_eq_true (by first | omega | assumption)), (by first | assumption | exact decide_eq_true (by first | omega | assumption)), (hBg1.at (Ext.refl _) 1 rfl), ⟨by omega, by omega⟩, (hp _ hEg1 i (by omega) (by omega)), (by first | assumption | exact decide_eq_false (by first | omega | assumption)), ⟨by omega, by omega⟩⟩ fun s_ => ?_
        refine again (i + 1) _ _ ⟨rfl, by omega, by omega, by omega, fun j h1 h2 => ?_⟩ (by omega)
        by_cases e2 : j = i
        · subst e2; exact e1
        · exact hI j h1 (by omega)
      · -- at 10123102141
        refine Run.adv 32 [.val (.slice (some ⟨b, off, none⟩) l.ls.length c1), .dec true, .lit, .dec true, .val (.slice (some ⟨b, off, none⟩) l.ls.length c1), .val (.string (sd l.ls i)), .dec true] (at_ Tryz.f49 [1,0,1,2,3,1,0,2,1,4,1]) [(2, .bool false)]
          (cellH h' ⟨g1, 1, none⟩ = some (.slice (some ⟨b, off, none⟩) l.ls.length c1) ∧ (decide (i < (l.ls.length : Int))) = true ∧ (decide (i < 70)) = true ∧ cellH h' ⟨g1, 1, none⟩ = some (.slice (some ⟨b, off, none⟩) l.ls.length c1) ∧ (0 ≤ i ∧ i < (l.ls.length : Int)) ∧ cellH h' ⟨b, off + i.toNat, none⟩ = some (.string (sd l.ls i)) ∧ (decide (((sd l.ls i).size : Int) > 300)) = true)
          (by as_aux_lemma => kernel_rfl) ⟨(hBg1.at (Ext.refl _) 1 rfl), (by first | assumption | exact decide_eq_true (by first | omega | assumption)), (by first | assumption | exact decide_eq_true (by first | omega | assumption)), (hBg1.at (Ext.refl _) 1 rfl), ⟨by omega, by omega⟩, (hp _ hEg1 i (by omega) (by omega)), (by first | assumption | exact decide_eq_true (by first | omega | assumption))⟩ fun s_ => ?_
        refine Run.ret [] (.bool false) (True) Tryz.func49 (by as_aux_lemma => kernel_rfl) (by as_aux_lemma => kernel_rfl) trivial ?_
        exact ⟨by rw [tv_no]; exact fun hh => e1 (hh.1 i hi0 hlt h70), hEg1⟩
    · -- at 111
      refine Run.adv 39 [.val (.slice A1 l.ls.length c1), .dec true, .lit, .dec false, .val (.slice A1 l.ls.length c1), .dec false, .lit, .lit, .lit, .lit, .lit, .lit, .lit, .off, .off, .off, .lit] (at_ Tryz.f49 [1,1,1]) [(2, .bool false)]
        (cellH h' ⟨g1, 1, none⟩ = some (.slice A1 l.ls.length c1) ∧ (decide (i < (l.ls.length : Int))) = true ∧ (decide (i < 70)) = false ∧ cellH h' ⟨g1, 1, none⟩ = some (.slice A1 l.ls.length c1) ∧ (decide ((l.ls.length : Int) < 70)) = false)
        (by as_aux_lemma => kernel_rfl) ⟨(hBg1.at (Ext.refl _) 1 rfl), (by first | assumption | exact decide_eq_true (by first | omega | assumption)), (by first | assumption | exact decide_eq_false (by first | omega | assumption)), (hBg1.at (Ext.refl _) 1 rfl), (by first | assumption | exact decide_eq_false (by first | omega | assumption))⟩ fun s_ => ?_
      refine Run.ret [] (.bool false) (True) Tryz.func49 (by as_aux_lemma => kernel_rfl) (by as_aux_lemma => kernel_rfl) trivial ?_
      exact ⟨by rw [tv_no]; exact fun hh => by have := hh.2.1; omega, hEg1⟩
  · by_cases e1 : l.ls.length < 70
    · have hI' : ∀ j : Int, 0 ≤ j → j < l.ls.length → j < 70 → (sd l.ls j).size ≤ 300 := fun j h1 h2 _ => hI j h1 (by omega)
      by_cases e2 : l.es.length ≤ 200
      · by_cases e3 : l.n ≤ 60
        · -- at 111
          refine Run.adv 39 [.val (.slice A1 l.ls.length c1), .dec false, .lit, .lit, .val (.slice A1 l.ls.length c1), .dec true, .lit, .val (.slice A2 l.es.length c2), .lit, .lit, .dec true, .lit, .val (.int .i64 l.n), .lit, .lit, .dec true, .lit, .lit, .lit] (at_ Tryz.f49 [1,1,1]) [(2, .bool true)]
            (cellH h' ⟨g1, 1, none⟩ = some (.slice A1 l.ls.length c1) ∧ (decide (i < (l.ls.length : Int))) = false ∧ cellH h' ⟨g1, 1, none⟩ = some (.slice A1 l.ls.length c1) ∧ (decide ((l.ls.length : Int) < 70)) = true ∧ cellH h' ⟨g1, 2, none⟩ = some (.slice A2 l.es.length c2) ∧ (decide ((l.es.length : Int) ≤ 200)) = true ∧ cellH h' ⟨g1, 0, none⟩ = some (.int .i64 l.n) ∧ (decide (l.n ≤ 60)) = true)
            (by as_aux_lemma => kernel_rfl) ⟨(hBg1.at (Ext.refl _) 1 rfl), (by first | assumption | exact decide_eq_false (by first | omega | assumption)), (hBg1.at (Ext.refl _) 1 rfl), (by first | assumption | exact decide_eq_true (by first | omega | assumption)), (hBg1.at (Ext.refl _) 2 rfl), (by first | assumption | exact decide_eq_true (by first | omega | assumption)), (hBg1.at (Ext.refl _) 0 rfl), (by first | assumption | exact decide_eq_true (by first | omega | assumption))⟩ fun s_ => ?_
          refine Run.ret [] (.bool true) (True) Tryz.func49 (by as_aux_lemma => kernel_rfl) (by as_aux_lemma => kernel_rfl) trivial ?_
          exact ⟨by rw [tv_yes]; exact ⟨hI', e1, e2, .inl e3⟩, hEg1⟩
        · -- at 111
          refine Run.adv 39 [.val (.slice A1 l.ls.length c1), .dec false, .lit, .lit, .val (.slice A1 l.ls.length c1), .dec true, .lit, .val (.slice A2 l.es.length c2), .lit, .lit, .dec true, .lit, .val (.int .i64 l.n), .lit, .lit, .dec false, .lit, .val (.int .i64 l.n), .lit, .lit] (at_ Tryz.f49 [1,1,1]) [(2, .bool (decide (l.n > 2048)))]
            (cellH h' ⟨g1, 1, none⟩ = some (.slice A1 l.ls.length c1) ∧ (decide (i < (l.ls.length : Int))) = false ∧ cellH h' ⟨g1, 1, none⟩ = some (.slice A1 l.ls.length c1) ∧ (decide ((l.ls.length : Int) < 70)) = true ∧ cellH h' ⟨g1, 2, none⟩ = some (.slice A2 l.es.length c2) ∧ (decide ((l.es.length : Int) ≤ 200)) = true ∧ cellH h' ⟨g1, 0, none⟩ = some (.int .i64 l.n) ∧ (decide (l.n ≤ 60)) = false ∧ cellH h' ⟨g1, 0, none⟩ = some (.int .i64 l.n))
            (by as_aux_lemma => kernel_rfl) ⟨(hBg1.at (Ext.refl _) 1 rfl), (by first | assumption | exact decide_eq_false (by first | omega | assumption)), (hBg1.at (Ext.refl _) 1 rfl), (by first | assumption | exact decide_eq_true (by first | omega | assumption)), (hBg1.at (Ext.refl _) 2 rfl), (by first | assumption | exact decide_eq_true (by first | omega | assumption)), (hBg1.at (Ext.refl _) 0 rfl), (by first | assumption | exact decide_eq_false (by first | omega | assumption)), (hBg1.at (Ext.refl _) 0 rfl)⟩ fun s_ => ?_
          refine Run.ret [] (.bool (decide (l.n > 2048))) (True) Tryz.func49 (by as_aux_lemma => kernel_rfl) (by as_aux_lemma => kernel_rfl) trivial ?_
          by_cases e4 : 2048 < l.n
          · exact ⟨by rw [tv_yes, decide_eq_true e4]; exact ⟨hI', e1, e2, .inr e4⟩, hEg1⟩
          · exact ⟨by rw [tv_no, decide_eq_false e4]; exact fun hh => by have := hh.2.2.2; omega, hEg1⟩
      · -- at 111
        refine Run.adv 39 [.val (.slice A1 l.ls.length c1), .dec false, .lit, .lit, .val (.slice A1 l.ls.length c1), .dec true, .lit, .val (.slice A2 l.es.length c2), .lit, .lit, .dec false, .lit, .lit, .lit, .off, .off, .off, .lit] (at_ Tryz.f49 [1,1,1]) [(2, .bool false)]
          (cellH h' ⟨g1, 1, none⟩ = some (.slice A1 l.ls.length c1) ∧ (decide (i < (l.ls.length : Int))) = false ∧ cellH h' ⟨g1, 1, none⟩ = some (.slice A1 l.ls.length c1) ∧ (decide ((l.ls.length : Int) < 70)) = true ∧ cellH h' ⟨g1, 2, none⟩ = some (.slice A2 l.es.length c2) ∧ (decide ((l.es.length : Int) ≤ 200)) = false)
          (by as_aux_lemma => kernel_rfl) ⟨(hBg1.at (Ext.refl _) 1 rfl), (by first | assumption | exact decide_eq_false (by first | omega | assumption)), (hBg1.at (Ext.refl _) 1 rfl), (by first | assumption | exact decide_eq_true (by first | omega | assumption)), (hBg1.at (Ext.refl _) 2 rfl), (by first | assumption | exact decide_eq_false (by first | omega | assumption))⟩ fun s_ => ?_
        refine Run.ret [] (.bool false) (True) Tryz.func49 (by as_aux_lemma => kernel_rfl) (by as_aux_lemma => kernel_rfl) trivial ?_
        exact ⟨by rw [tv_no]; exact fun hh => by have := hh.2.2.1; omega, hEg1⟩
    · -- at 111
      refine Run.adv 39 [.val (.slice A1 l.ls.length c1), .dec false, .lit, .lit, .val (.slice A1 l.ls.length c1), .dec false, .lit, .lit, .lit, .lit, .lit, .lit, .lit, .off, .off, .off, .lit] (at_ Tryz.f49 [1,1,1]) [(2, .bool false)]
        (cellH h' ⟨g1, 1, none⟩ = some (.slice A1 l.ls.length c1) ∧ (decide (i < (l.ls.length : Int))) = false ∧ cellH h' ⟨g1, 1, none⟩ = some (.slice A1 l.ls.length c1) ∧ (decide ((l.ls.length : Int) < 70)) = false)
        (by as_aux_lemma => kernel_rfl) ⟨(hBg1.at (Ext.refl _) 1 rfl), (by first | assumption | exact decide_eq_false (by first | omega | assumption)), (hBg1.at (Ext.refl _) 1 rfl), (by first | assumption | exact decide_eq_false (by first | omega | assumption))⟩ fun s_ => ?_
      refine Run.ret [] (.bool false) (True) Tryz.func49 (by as_aux_lemma => kernel_rfl) (by as_aux_lemma => kernel_rfl) trivial ?_
      exact ⟨by rw [tv_no]; exact fun hh => by have := hh.2.1; omega, hEg1⟩

theorem Light33_ct (A1 A2 : Option Addr) (c1 c2 : Nat) (l : Lt) (h : Heap) (hx : LtAt h l A1 c1 A2 c2) :
    Ct Tryz.prog 23 #[.agg #[.int .i64 l.n, .slice A1 l.ls.length c1, .slice A2 l.es.length c2]] h (fun v h' => v = .bool (tv (Light33 l)) ∧ Ext h h') := by
  refine Ct.enter (args := [.agg #[.int .i64 l.n, .slice A1 l.ls.length c1, .slice A2 l.es.length c2]]) Tryz.func23 rfl Tryz.ntmps23 (by simp) fun w hw => ?_
  -- at 080
  refine Run.adv 2 [] (at_ Tryz.f23 [0,8,0]) [(0, .agg #[.int .i64 l.n, .slice A1 l.ls.length c1, .slice A2 l.es.length c2])]
    (True)
    (by as_aux_lemma => kernel_rfl) trivial fun s_ => ?_
  refine Run.new #[.int .i64 l.n, .slice A1 l.ls.length c1, .slice A2 l.es.length c2] 25 (fun g_ => .pointer (some ⟨g_, 0, none⟩)) (some 1) (at_ Tryz.f23 [0,8,1]) (by as_aux_lemma => kernel_rfl) fun g1 h1 hng1 hEg1 hBg1 => ?_
  -- at 1081
  refine Run.adv 5 [.val (.agg #[.int .i64 l.n, .slice A1 l.ls.length c1, .slice A2 l.es.length c2])] (at_ Tryz.f23 [1,0,8,1]) [(0, .agg #[.int .i64 l.n, .slice A1 l.ls.length c1, .slice A2 l.es.length c2]), (1, .pointer (some ⟨g1, 0, none⟩)), (2, .bool false), (3, .agg #[.int .i64 l.n, .slice A1 l.ls.length c1, .slice A2 l.es.length c2])]
    (cellsAt h1 ⟨g1, 0, none⟩ [.int .i64 l.n, .slice A1 l.ls.length c1, .slice A2 l.es.length c2] 0)
    (by as_aux_lemma => kernel_rfl) (hBg1.all (Ext.refl _)) fun s_ => ?_
  refine Run.call 49 #[.agg #[.int .i64 l.n, .slice A1 l.ls.length c1, .slice A2 l.es.length c2]] (some 4) (at_ Tryz.f23 [1,0,8,2]) (by as_aux_lemma => kernel_rfl) (Light26_ct _ _ _ _ _ _ (hx.ext hEg1)) ?_
  rintro v h2 ⟨rfl, hE2⟩
  have E2 := hEg1.trans hE2
  by_cases e1 : tv (Light26 l) = true
  · by_cases e2 : l.n ≤ 16
    · by_cases e3 : l.es.length ≤ 60
      · -- at 11
        refine Run.adv 24 [.dec true, .lit, .val (.int .i64 l.n), .lit, .lit, .dec true, .lit, .lit, .lit, .lit, .lit, .val (.slice A2 l.es.length c2), .lit, .lit, .dec true, .lit, .val (.slice A1 l.ls.length c1), .lit, .lit] (at_ Tryz.f23 [1,1]) [(2, .bool (decide ((l.ls.length : Int) ≤ 8)))]
          ((tv (Light26 l)) = true ∧ cellH h2 ⟨g1, 0, none⟩ = some (.int .i64 l.n) ∧ (decide (l.n ≤ 16)) = true ∧ cellH h2 ⟨g1, 2, none⟩ = some (.slice A2 l.es.length c2) ∧ (decide ((l.es.length : Int) ≤ 60)) = true ∧ cellH h2 ⟨g1, 1, none⟩ = some (.slice A1 l.ls.length c1))
          (by as_aux_lemma => kernel_rfl) ⟨(by assumption), (hBg1.at hE2 0 rfl), (by first | assumption | exact decide_eq_true (by first | omega | assumption)), (hBg1.at hE2 2 rfl), (by first | assumption | exact decide_eq_true (by first | omega | assumption)), (hBg1.at hE2 1 rfl)⟩ fun s_ => ?_
        refine Run.ret [] (.bool (decide ((l.ls.length : Int) ≤ 8))) (True) Tryz.func23 (by as_aux_lemma => kernel_rfl) (by as_aux_lemma => kernel_rfl) trivial ?_
        by_cases e4 : l.ls.length ≤ 8
        · exact ⟨by rw [tv_yes, decide_eq_true (by omega)]; exact ⟨tv_iff.1 e1, .inl e2, e3, e4⟩, E2⟩
        · exact ⟨by rw [tv_no, decide_eq_false (by omega)]; exact fun hh => e4 hh.2.2.2, E2⟩
      · -- at 11
        refine Run.adv 24 [.dec true, .lit, .val (.int .i64 l.n), .lit, .lit, .dec true, .lit, .lit, .lit, .lit, .lit, .val (.slice A2 l.es.length c2), .lit, .lit, .dec false, .lit, .lit, .lit] (at_ Tryz.f23 [1,1]) [(2, .bool false)]
          ((tv (Light26 l)) = true ∧ cellH h2 ⟨g1, 0, none⟩ = some (.int .i64 l.n) ∧ (decide (l.n ≤ 16)) = true ∧ cellH h2 ⟨g1, 2, none⟩ = some (.slice A2 l.es.length c2) ∧ (decide ((l.es.length : Int) ≤ 60)) = false)
          (by as_aux_lemma => kernel_rfl) ⟨(by assumption), (hBg1.at hE2 0 rfl), (by first | assumption | exact decide_eq_true (by first | omega | assumption)), (hBg1.at hE2 2 rfl), (by first | assumption | exact decide_eq_false (by first | omega | assumption))⟩ fun s_ => ?_
        refine Run.ret [] (.bool false) (True) Tryz.func23 (by as_aux_lemma => kernel_rfl) (by as_aux_lemma => kernel_rfl) trivial ?_
        exact ⟨by rw [tv_no]; exact fun hh => e3 hh.2.2.1, E2⟩
    · by_cases e5 : 2048 < l.n
      · by_cases e3 : l.es.length ≤ 60
        · -- at 11
          refine Run.adv 24 [.dec true, .lit, .val (.int .i64 l.n), .lit, .lit, .dec false, .lit, .val (.int .i64 l.n), .lit, .lit, .dec true, .lit, .val (.slice A2 l.es.length c2), .lit, .lit, .dec true, .lit, .val (.slice A1 l.ls.length c1), .lit, .lit] (at_ Tryz.f23 [1,1]) [(2, .bool (decide ((l.ls.length : Int) ≤ 8)))]
            ((tv (Light26 l)) = true ∧ cellH h2 ⟨g1, 0, none⟩ = some (.int .i64 l.n) ∧ (decide (l.n ≤ 16)) = false ∧ cellH h2 ⟨g1, 0, none⟩ = some (.int .i64 l.n) ∧ (decide (l.n > 2048)) = true ∧ cellH h2 ⟨g1, 2, none⟩ = some (.slice A2 l.es.length c2) ∧ (decide ((l.es.length : Int) ≤ 60)) = true ∧ cellH h2 ⟨g1, 1, none⟩ = some (.slice A1 l.ls.length c1))
            (by as_aux_lemma => kernel_rfl) ⟨(by assumption), (hBg1.at hE2 0 rfl), (by first | assumption | exact decide_eq_false (by first | omega | assumption)), (hBg1.at hE2 0 rfl), (by first | assumption | exact decide_eq_true (by first | omega | assumption)), (hBg1.at hE2 2 rfl), (by first | assumption | exact decide_eq_true (by first | omega | assumption)), (hBg1.at hE2 1 rfl)⟩ fun s_ => ?_
          refine Run.ret [] (.bool (decide ((l.ls.length : Int) ≤ 8))) (True) Tryz.func23 (by as_aux_lemma => kernel_rfl) (by as_aux_lemma => kernel_rfl) trivial ?_
          by_cases e4 : l.ls.length ≤ 8
          · exact ⟨by rw [tv_yes, decide_eq_true (by omega)]; exact ⟨tv_iff.1 e1, .inr e5, e3, e4⟩, E2⟩
          · exact ⟨by rw [tv_no, decide_eq_false (by omega)]; exact fun hh => e4 hh.2.2.2, E2⟩
        · -- at 11
          refine Run.adv 24 [.dec true, .lit, .val (.int .i64 l.n), .lit, .lit, .dec false, .lit, .val (.int .i64 l.n), .lit, .lit, .dec true, .lit, .val (.slice A2 l.es.length c2), .lit, .lit, .dec false, .lit, .lit, .lit] (at_ Tryz.f23 [1,1]) [(2, .bool false)]
            ((tv (Light26 l)) = true ∧ cellH h2 ⟨g1, 0, none⟩ = some (.int .i64 l.n) ∧ (decide (l.n ≤ 16)) = false ∧ cellH h2 ⟨g1, 0, none⟩ = some (.int .i64 l.n) ∧ (decide (l.n > 2048)) = true ∧ cellH h2 ⟨g1, 2, none⟩ = some (.slice A2 l.es.length c2) ∧ (decide ((l.es.length : Int) ≤ 60)) = false)
            (by as_aux_lemma => kernel_rfl) ⟨(by assumption), (hBg1.at hE2 0 rfl), (by first | assumption | exact decide_eq_false (by first | omega | assumption)), (hBg1.at hE2 0 rfl), (by first | assumption | exact decide_eq_true (by first | omega | assumption)), (hBg1.at hE2 2 rfl), (by first | assumption | exact decide_eq_false (by first | omega | assumption))⟩ fun s_ => ?_
          refine Run.ret [] (.bool false) (True) Tryz.func23 (by as_aux_lemma => kernel_rfl) (by as_aux_lemma => kernel_rfl) trivial ?_
          exact ⟨by rw [tv_no]; exact fun hh => e3 hh.2.2.1, E2⟩
      · -- at 11
        refine Run.adv 24 [.dec true, .lit, .val (.int .i64 l.n), .lit, .lit, .dec false, .lit, .val (.int .i64 l.n), .lit, .lit, .dec false, .lit, .lit, .lit, .lit, .lit, .lit, .lit] (at_ Tryz.f23 [1,1]) [(2, .bool false)]
          ((tv (Light26 l)) = true ∧ cellH h2 ⟨g1, 0, none⟩ = some (.int .i64 l.n) ∧ (decide (l.n ≤ 16)) = false ∧ cellH h2 ⟨g1, 0, none⟩ = some (.int .i64 l.n) ∧ (decide (l.n > 2048)) = false)
          (by as_aux_lemma => kernel_rfl) ⟨(by assumption), (hBg1.at hE2 0 rfl), (by first | assumption | exact decide_eq_false (by first | omega | assumption)), (hBg1.at hE2 0 rfl), (by first | assumption | exact decide_eq_false (by first | omega | assumption))⟩ fun s_ => ?_
        refine Run.ret [] (.bool false) (True) Tryz.func23 (by as_aux_lemma => kernel_rfl) (by as_aux_lemma => kernel_rfl) trivial ?_
        exact ⟨by rw [tv_no]; exact fun hh => by have := hh.2.1; omega, E2⟩
  · have e1' : tv (Light26 l) = false := by simpa using e1
    -- at 11
    refine Run.adv 24 [.dec false, .lit, .lit, .lit, .off, .off, .off, .lit, .lit, .lit, .lit, .lit, .lit, .lit, .lit, .lit] (at_ Tryz.f23 [1,1]) [(2, .bool false)]
      ((tv (Light26 l)) = false)
      (by as_aux_lemma => kernel_rfl) (by assumption) fun s_ => ?_
    refine Run.ret [] (.bool false) (True) Tryz.func23 (by as_aux_lemma => kernel_rfl) (by as_aux_lemma => kernel_rfl) trivial ?_
    exact ⟨by rw [tv_no]; exact fun hh => e1 (tv_yes hh.1), E2⟩

set_option maxHeartbeats 4000000 in
theorem May_ct (A1 A2 : Option Addr) (c1 c2 : Nat) (l : Lt) (h : Heap) (hx : LtAt h l A1 c1 A2 c2) :
    Ct Tryz.prog 14 #[.agg #[.int .i64 l.n, .slice A1 l.ls.length c1, .slice A2 l.es.length c2]] h (fun v h' => v = .bool (mayB l) ∧ Ext h h') := by
  unfold mayB
  refine Ct.enter (args := [.agg #[.int .i64 l.n, .slice A1 l.ls.length c1, .slice A2 l.es.length c2]]) Tryz.func14 rfl Tryz.ntmps14 (by simp) fun w hw => ?_
  -- at 080
  refine Run.adv 2 [] (at_ Tryz.f14 [0,8,0]) [(0, .agg #[.int .i64 l.n, .slice A1 l.ls.length c1, .slice A2 l.es.length c2])]
    (True)
    (by as_aux_lemma => kernel_rfl) trivial fun s_ => ?_
  refine Run.new #[.int .i64 l.n, .slice A1 l.ls.length c1, .slice A2 l.es.length c2] 25 (fun g_ => .pointer (some ⟨g_, 0, none⟩)) (some 1) (at_ Tryz.f14 [0,8,1]) (by as_aux_lemma => kernel_rfl) fun g1 h1 hng1 hEg1 hBg1 => ?_
  by_cases e1 : l.n < 1
  · -- at 10141
    refine Run.adv 31 [.val (.int .i64 l.n), .dec true, .lit, .lit, .lit, .lit, .lit, .lit, .lit, .lit, .lit, .lit, .lit] (at_ Tryz.f14 [1,0,1,4,1]) [(2, .bool false)]
      (cellH h1 ⟨g1, 0, none⟩ = some (.int .i64 l.n) ∧ (decide (l.n < 1)) = true)
      (by as_aux_lemma => kernel_rfl) ⟨(hBg1.at (Ext.refl _) 0 rfl), (by first | assumption | exact decide_eq_true (by first | omega | assumption))⟩ fun s_ => ?_
    refine Run.ret [] (.bool false) (True) Tryz.func14 (by as_aux_lemma => kernel_rfl) (by as_aux_lemma => kernel_rfl) trivial ?_
    exact ⟨by rw [tv_no]; exact fun hh => by have := hh.n1; omega, hEg1⟩
  by_cases e2 : 2048 < l.n
  · -- at 10141
    refine Run.adv 31 [.val (.int .i64 l.n), .dec false, .lit, .val (.int .i64 l.n), .lit, .dec true, .lit, .lit, .lit, .lit, .lit, .lit, .lit, .lit] (at_ Tryz.f14 [1,0,1,4,1]) [(2, .bool false)]
      (cellH h1 ⟨g1, 0, none⟩ = some (.int .i64 l.n) ∧ (decide (l.n < 1)) = false ∧ cellH h1 ⟨g1, 0, none⟩ = some (.int .i64 l.n) ∧ (decide (l.n > 2048)) = true)
      (by as_aux_lemma => kernel_rfl) ⟨(hBg1.at (Ext.refl _) 0 rfl), (by first | assumption | exact decide_eq_false (by first | omega | assumption)), (hBg1.at (Ext.refl _) 0 rfl), (by first | assumption | exact decide_eq_true (by first | omega | assumption))⟩ fun s_ => ?_
    refine Run.ret [] (.bool false) (True) Tryz.func14 (by as_aux_lemma => kernel_rfl) (by as_aux_lemma => kernel_rfl) trivial ?_
    exact ⟨by rw [tv_no]; exact fun hh => by have := hh.n2; omega, hEg1⟩
  by_cases e3 : 64 < l.ls.length
  · -- at 10141
    refine Run.adv 31 [.val (.int .i64 l.n), .dec false, .lit, .val (.int .i64 l.n), .lit, .dec false, .lit, .val (.slice A1 l.ls.length c1), .lit, .lit, .dec true, .lit, .lit, .lit, .lit] (at_ Tryz.f14 [1,0,1,4,1]) [(2, .bool false)]
      (cellH h1 ⟨g1, 0, none⟩ = some (.int .i64 l.n) ∧ (decide (l.n < 1)) = false ∧ cellH h1 ⟨g1, 0, none⟩ = some (.int .i64 l.n) ∧ (decide (l.n > 2048)) = false ∧ cellH h1 ⟨g1, 1, none⟩ = some (.slice A1 l.ls.length c1) ∧ (decide ((l.ls.length : Int) > 64)) = true)
      (by as_aux_lemma => kernel_rfl) ⟨(hBg1.at (Ext.refl _) 0 rfl), (by first | assumption | exact decide_eq_false (by first | omega | assumption)), (hBg1.at (Ext.refl _) 0 rfl), (by first | assumption | exact decide_eq_false (by first | omega | assumption)), (hBg1.at (Ext.refl _) 1 rfl), (by first | assumption | exact decide_eq_true (by first | omega | assumption))⟩ fun s_ => ?_
    refine Run.ret [] (.bool false) (True) Tryz.func14 (by as_aux_lemma => kernel_rfl) (by as_aux_lemma => kernel_rfl) trivial ?_
    exact ⟨by rw [tv_no]; exact fun hh => by have := hh.ls.1; omega, hEg1⟩
  by_cases e4 : 1000000 < l.es.length
  · -- at 10141
    refine Run.adv 31 [.val (.int .i64 l.n), .dec false, .lit, .val (.int .i64 l.n), .lit, .dec false, .lit, .val (.slice A1 l.ls.length c1), .lit, .lit, .dec false, .lit, .val (.slice A2 l.es.length c2), .lit, .lit, .dec true] (at_ Tryz.f14 [1,0,1,4,1]) [(2, .bool false)]
      (cellH h1 ⟨g1, 0, none⟩ = some (.int .i64 l.n) ∧ (decide (l.n < 1)) = false ∧ cellH h1 ⟨g1, 0, none⟩ = some (.int .i64 l.n) ∧ (decide (l.n > 2048)) = false ∧ cellH h1 ⟨g1, 1, none⟩ = some (.slice A1 l.ls.length c1) ∧ (decide ((l.ls.length : Int) > 64)) = false ∧ cellH h1 ⟨g1, 2, none⟩ = some (.slice A2 l.es.length c2) ∧ (decide ((l.es.length : Int) > 1000000)) = true)
      (by as_aux_lemma => kernel_rfl) ⟨(hBg1.at (Ext.refl _) 0 rfl), (by first | assumption | exact decide_eq_false (by first | omega | assumption)), (hBg1.at (Ext.refl _) 0 rfl), (by first | assumption | exact decide_eq_false (by first | omega | assumption)), (hBg1.at (Ext.refl _) 1 rfl), (by first | assumption | exact decide_eq_false (by first | omega | assumption)), (hBg1.at (Ext.refl _) 2 rfl), (by first | assumption | exact decide_eq_true (by first | omega | assumption))⟩ fun s_ => ?_
    refine Run.ret [] (.bool false) (True) Tryz.func14 (by as_aux_lemma => kernel_rfl) (by as_aux_lemma => kernel_rfl) trivial ?_
    exact ⟨by rw [tv_no]; exact fun hh => by have := hh.len; omega, hEg1⟩
  -- at 11012
  refine Run.adv 34 [.val (.int .i64 l.n), .dec false, .lit, .val (.int .i64 l.n), .lit, .dec false, .lit, .val (.slice A1 l.ls.length c1), .lit, .lit, .dec false, .lit, .val (.slice A2 l.es.length c2), .lit, .lit, .dec false] (at_ Tryz.f14 [1,1,0,1,2]) [(1, .pointer (some ⟨g1, 0, none⟩)), (3, .int .i64 0)]
    (cellH h1 ⟨g1, 0, none⟩ = some (.int .i64 l.n) ∧ (decide (l.n < 1)) = false ∧ cellH h1 ⟨g1, 0, none⟩ = some (.int .i64 l.n) ∧ (decide (l.n > 2048)) = false ∧ cellH h1 ⟨g1, 1, none⟩ = some (.slice A1 l.ls.length c1) ∧ (decide ((l.ls.length : Int) > 64)) = false ∧ cellH h1 ⟨g1, 2, none⟩ = some (.slice A2 l.es.length c2) ∧ (decide ((l.es.length : Int) > 1000000)) = false)
    (by as_aux_lemma => kernel_rfl) ⟨(hBg1.at (Ext.refl _) 0 rfl), (by first | assumption | exact decide_eq_false (by first | omega | assumption)), (hBg1.at (Ext.refl _) 0 rfl), (by first | assumption | exact decide_eq_false (by first | omega | assumption)), (hBg1.at (Ext.refl _) 1 rfl), (by first | assumption | exact decide_eq_false (by first | omega | assumption)), (hBg1.at (Ext.refl _) 2 rfl), (by first | assumption | exact decide_eq_false (by first | omega | assumption))⟩ fun s_ => ?_
  refine Run.loop (at_ Tryz.f14 [1,1,0,1,2,3]) (at_ Tryz.f14 [1,1,0,1,2,7]) (fun i : Int => [(1, .pointer (some ⟨g1, 0, none⟩)), (3, .int .i64 i)])
    (fun i h' => h' = h1 ∧ 0 ≤ i ∧ i ≤ l.ls.length ∧ ∀ j : Int, 0 ≤ j → j < i → (sd l.ls j).size ≤ 200 ∧ (0 < j → Op.bytesLess (sd l.ls (j - 1)).toList (sd l.ls j).toList = true)) (fun i => (l.ls.length - i).toNat) 0 (by as_aux_lemma => kernel_rfl) rfl ?_ ?_
  · exact ⟨rfl, by omega, by omega, fun _ _ h => by omega⟩
  rintro i s h' ⟨rfl, hi0, hi1, hI⟩ again
  by_cases hlt : i < l.ls.length
  · obtain ⟨b, off, rfl, hp⟩ := hx.ls.open_ (by omega)
    by_cases a1 : 200 < (sd l.ls i).size
    · -- at 110123102141
      refine Run.adv 20 [.val (.slice (some ⟨b, off, none⟩) l.ls.length c1), .dec true, .draw, .val (.slice (some ⟨b, off, none⟩) l.ls.length c1), .val (.string (sd l.ls i)), .dec true, .lit, .lit, .off, .off, .off, .off, .off, .off, .off, .off, .off, .off, .off, .off, .lit, .lit] (at_ Tryz.f14 [1,1,0,1,2,3,1,0,2,1,4,1]) [(2, .bool false)]
        (cellH h' ⟨g1, 1, none⟩ = some (.slice (some ⟨b, off, none⟩) l.ls.length c1) ∧ (decide (i < (l.ls.length : Int))) = true ∧ LexOk (opsAt (at_ Tryz.f14 [1,1,0,1,2,3,1,0,2,0])) ∧ cellH h' ⟨g1, 1, none⟩ = some (.slice (some ⟨b, off, none⟩) l.ls.length c1) ∧ (0 ≤ i ∧ i < (l.ls.length : Int)) ∧ cellH h' ⟨b, off + i.toNat, none⟩ = some (.string (sd l.ls i)) ∧ (decide (((sd l.ls i).size : Int) > 200)) = true)
        (by as_aux_lemma => kernel_rfl) ⟨(hBg1.at (Ext.refl _) 1 rfl), (by first | assumption | exact decide_eq_true (by first | omega | assumption)), lx_14_1101231020, (hBg1.at (Ext.refl _) 1 rfl), ⟨by omega, by omega⟩, (hp _ hEg1 i (by omega) (by omega)), (by first | assumption | exact decide_eq_true (by first | omega | assumption))⟩ fun s_ => ?_
      refine Run.ret [] (.bool false) (True) Tryz.func14 (by as_aux_lemma => kernel_rfl) (by as_aux_lemma => kernel_rfl) trivial ?_
      exact ⟨by rw [tv_no]; exact fun hh => by have := (hh.ls.2 i hi0 hlt).1; omega, hEg1⟩
    by_cases a2 : 0 < i
    · by_cases a3 : Op.bytesLess (sd l.ls (i - 1)).toList (sd l.ls i).toList = true
      · -- at 110127
        refine Run.adv 23 [.val (.slice (some ⟨b, off, none⟩) l.ls.length c1), .dec true, .draw, .val (.slice (some ⟨b, off, none⟩) l.ls.length c1), .val (.string (sd l.ls i)), .dec false, .lit, .lit, .dec true, .lit, .val (.slice (some ⟨b, off, none⟩) l.ls.length c1), .lit, .lit, .lit, .lit, .val (.string (sd l.ls (i - 1))), .lit, .lit, .val (.slice (some ⟨b, off, none⟩) l.ls.length c1), .lit, .lit, .lit, .val (.string (sd l.ls i)), .lit, .lit, .dec false] (at_ Tryz.f14 [1,1,0,1,2,7]) [(1, .pointer (some ⟨g1, 0, none⟩)), (3, .int .i64 (i + 1))]
          (cellH h' ⟨g1, 1, none⟩ = some (.slice (some ⟨b, off, none⟩) l.ls.length c1) ∧ (decide (i < (l.ls.length : Int))) = true ∧ LexOk (opsAt (at_ Tryz.f14 [1,1,0,1,2,3,1,0,2,0])) ∧ cellH h' ⟨g1, 1, none⟩ = some (.slice (some ⟨b, off, none⟩) l.ls.length c1) ∧ (0 ≤ i ∧ i < (l.ls.length : Int)) ∧ cellH h' ⟨b, off + i.toNat, none⟩ = some (.string (sd l.ls i)) ∧ (decide (((sd l.ls i).size : Int) > 200)) = false ∧ (decide (i > 0)) = true ∧ cellH h' ⟨g1, 1, none⟩ = some (.slice (some ⟨b, off, none⟩) l.ls.length c1) ∧ (-9223372036854775808 ≤ i - 1 ∧ i - 1 ≤ 9223372036854775807) ∧ (0 ≤ i - 1 ∧ i - 1 < (l.ls.length : Int)) ∧ cellH h' ⟨b, off + (i - 1).toNat, none⟩ = some (.string (sd l.ls (i - 1))) ∧ cellH h' ⟨g1, 1, none⟩ = some (.slice (some ⟨b, off, none⟩) l.ls.length c1) ∧ (0 ≤ i ∧ i < (l.ls.length : Int)) ∧ cellH h' ⟨b, off + i.toNat, none⟩ = some (.string (sd l.ls i)) ∧ (!(Op.bytesLess (sd l.ls (i - 1)).toList (sd l.ls i).toList)) = false ∧ (-9223372036854775808 ≤ i + 1 ∧ i + 1 ≤ 9223372036854775807))
          (by as_aux_lemma => kernel_rfl) ⟨(hBg1.at (Ext.refl _) 1 rfl), (by first | assumption | exact decide_eq_true (by first | omega | assumption)), lx_14_1101231020, (hBg1.at (Ext.refl _) 1 rfl), ⟨by omega, by omega⟩, (hp _ hEg1 i (by omega) (by omega)), (by first | assumption | exact decide_eq_false (by first | omega | assumption)), (by first | assumption | exact decide_eq_true (by first | omega | assumption)), (hBg1.at (Ext.refl _) 1 rfl), ⟨by omega, by omega⟩, ⟨by omega, by omega⟩, (hp _ hEg1 (i - 1) (by omega) (by omega)), (hBg1.at (Ext.refl _) 1 rfl), ⟨by omega, by omega⟩, (hp _ hEg1 i (by omega) (by omega)), (bnf (by assumption)), ⟨by omega, by omega⟩⟩ fun s_ => ?_
        refine again (i + 1) _ _ ⟨rfl, by omega, by omega, fun j h1 h2 => ?_⟩ (by omega)
        by_cases e5 : j = i
        · subst e5; exact ⟨by omega, fun _ => a3⟩
        · exact hI j h1 (by omega)
      · have a3' : Op.bytesLess (sd l.ls (i - 1)).toList (sd l.ls i).toList = false := by simpa using a3
        -- at 110123102141
        refine Run.adv 20 [.val (.slice (some ⟨b, off, none⟩) l.ls.length c1), .dec true, .draw, .val (.slice (some ⟨b, off, none⟩) l.ls.length c1), .val (.string (sd l.ls i)), .dec false, .lit, .lit, .dec true, .lit, .val (.slice (some ⟨b, off, none⟩) l.ls.length c1), .lit, .lit, .lit, .lit, .val (.string (sd l.ls (i - 1))), .lit, .lit, .val (.slice (some ⟨b, off, none⟩) l.ls.length c1), .lit, .lit, .lit, .val (.string (sd l.ls i)), .lit, .lit, .dec true] (at_ Tryz.f14 [1,1,0,1,2,3,1,0,2,1,4,1]) [(2, .bool false)]
          (cellH h' ⟨g1, 1, none⟩ = some (.slice (some ⟨b, off, none⟩) l.ls.length c1) ∧ (decide (i < (l.ls.length : Int))) = true ∧ LexOk (opsAt (at_ Tryz.f14 [1,1,0,1,2,3,1,0,2,0])) ∧ cellH h' ⟨g1, 1, none⟩ = some (.slice (some ⟨b, off, none⟩) l.ls.length c1) ∧ (0 ≤ i ∧ i < (l.ls.length : Int)) ∧ cellH h' ⟨b, off + i.toNat, none⟩ = some (.string (sd l.ls i)) ∧ (decide (((sd l.ls i).size : Int) > 200)) = false ∧ (decide (i > 0)) = true ∧ cellH h' ⟨g1, 1, none⟩ = some (.slice (some ⟨b, off, none⟩) l.ls.length c1) ∧ (-9223372036854775808 ≤ i - 1 ∧ i - 1 ≤ 9223372036854775807) ∧ (0 ≤ i - 1 ∧ i - 1 < (l.ls.length : Int)) ∧ cellH h' ⟨b, off + (i - 1).toNat, none⟩ = some (.string (sd l.ls (i - 1))) ∧ cellH h' ⟨g1, 1, none⟩ = some (.slice (some ⟨b, off, none⟩) l.ls.length c1) ∧ (0 ≤ i ∧ i < (l.ls.length : Int)) ∧ cellH h' ⟨b, off + i.toNat, none⟩ = some (.string (sd l.ls i)) ∧ (!(Op.bytesLess (sd l.ls (i - 1)).toList (sd l.ls i).toList)) = true)
          (by as_aux_lemma => kernel_rfl) ⟨(hBg1.at (Ext.refl _) 1 rfl), (by first | assumption | exact decide_eq_true (by first | omega | assumption)), lx_14_1101231020, (hBg1.at (Ext.refl _) 1 rfl), ⟨by omega, by omega⟩, (hp _ hEg1 i (by omega) (by omega)), (by first | assumption | exact decide_eq_false (by first | omega | assumption)), (by first | assumption | exact decide_eq_true (by first | omega | assumption)), (hBg1.at (Ext.refl _) 1 rfl), ⟨by omega, by omega⟩, ⟨by omega, by omega⟩, (hp _ hEg1 (i - 1) (by omega) (by omega)), (hBg1.at (Ext.refl _) 1 rfl), ⟨by omega, by omega⟩, (hp _ hEg1 i (by omega) (by omega)), (bnt (by assumption))⟩ fun s_ => ?_
        refine Run.ret [] (.bool false) (True) Tryz.func14 (by as_aux_lemma => kernel_rfl) (by as_aux_lemma => kernel_rfl) trivial ?_
        exact ⟨by rw [tv_no]; exact fun hh => a3 ((hh.ls.2 i hi0 hlt).2 a2), hEg1⟩
    · -- at 110127
      refine Run.adv 23 [.val (.slice (some ⟨b, off, none⟩) l.ls.length c1), .dec true, .draw, .val (.slice (some ⟨b, off, none⟩) l.ls.length c1), .val (.string (sd l.ls i)), .dec false, .lit, .lit, .dec false, .lit, .lit, .lit, .lit, .lit, .lit, .lit, .lit, .lit, .lit, .lit, .lit, .lit] (at_ Tryz.f14 [1,1,0,1,2,7]) [(1, .pointer (some ⟨g1, 0, none⟩)), (3, .int .i64 (i + 1))]
        (cellH h' ⟨g1, 1, none⟩ = some (.slice (some ⟨b, off, none⟩) l.ls.length c1) ∧ (decide (i < (l.ls.length : Int))) = true ∧ LexOk (opsAt (at_ Tryz.f14 [1,1,0,1,2,3,1,0,2,0])) ∧ cellH h' ⟨g1, 1, none⟩ = some (.slice (some ⟨b, off, none⟩) l.ls.length c1) ∧ (0 ≤ i ∧ i < (l.ls.length : Int)) ∧ cellH h' ⟨b, off + i.toNat, none⟩ = some (.string (sd l.ls i)) ∧ (decide (((sd l.ls i).size : Int) > 200)) = false ∧ (decide (i > 0)) = false ∧ (-9223372036854775808 ≤ i + 1 ∧ i + 1 ≤ 9223372036854775807))
        (by as_aux_lemma => kernel_rfl) ⟨(hBg1.at (Ext.refl _) 1 rfl), (by first | assumption | exact decide_eq_true (by first | omega | assumption)), lx_14_1101231020, (hBg1.at (Ext.refl _) 1 rfl), ⟨by omega, by omega⟩, (hp _ hEg1 i (by omega) (by omega)), (by first | assumption | exact decide_eq_false (by first | omega | assumption)), (by first | assumption | exact decide_eq_false (by first | omega | assumption)), ⟨by omega, by omega⟩⟩ fun s_ => ?_
      refine again (i + 1) _ _ ⟨rfl, by omega, by omega, fun j h1 h2 => ?_⟩ (by omega)
      by_cases e5 : j = i
      · subst e5; exact ⟨by omega, fun hh => absurd hh a2⟩
      · exact hI j h1 (by omega)
  -- at 111012
  refine Run.adv 17 [.val (.slice A1 l.ls.length c1), .dec false] (at_ Tryz.f14 [1,1,1,0,1,2]) [(1, .pointer (some ⟨g1, 0, none⟩)), (4, .int .i64 0)]
    (cellH h' ⟨g1, 1, none⟩ = some (.slice A1 l.ls.length c1) ∧ (decide (i < (l.ls.length : Int))) = false)
    (by as_aux_lemma => kernel_rfl) ⟨(hBg1.at (Ext.refl _) 1 rfl), (by first | assumption | exact decide_eq_false (by first | omega | assumption))⟩ fun s_ => ?_
  have hL : LabelsMay l.ls := ⟨by omega, fun j h1 h2 => hI j h1 (by omega)⟩
  refine Run.loop (at_ Tryz.f14 [1,1,1,0,1,2,3]) (at_ Tryz.f14 [1,1,1,0,1,2,7]) (fun k : Int => [(1, .pointer (some ⟨g1, 0, none⟩)), (4, .int .i64 k)])
    (fun k h'' => Ext h' h'' ∧ 0 ≤ k ∧ k ≤ l.es.length ∧ ∀ j : Int, 0 ≤ j → j < k → EdgeMay l.n l.ls.length (ed l.es j) ∧ (0 < j → aheadB (ed l.es (j - 1)) (ed l.es j) = true)) (fun k => (l.es.length - k).toNat) 0 (by as_aux_lemma => kernel_rfl) rfl ?_ ?_
  · exact ⟨Ext.refl _, by omega, by omega, fun _ _ h => by omega⟩
  rintro k s h'' ⟨hE, hk0, hk1, hK⟩ again2
  have E2 := hEg1.trans hE
  by_cases hlt2 : k < l.es.length
  · obtain ⟨b2, off2, rfl, hp2⟩ := hx.es.open_ (by omega)
    -- at 1110123102085
    refine Run.adv 20 [.val (.slice (some ⟨b2, off2, none⟩) l.es.length c2), .dec true, .val (.slice (some ⟨b2, off2, none⟩) l.es.length c2), .val (.agg #[.int .i64 ((ed l.es k).1), .int .i64 ((ed l.es k).2.1), .int .i64 ((ed l.es k).2.2)])] (at_ Tryz.f14 [1,1,1,0,1,2,3,1,0,2,0,8,5]) [(1, .pointer (some ⟨g1, 0, none⟩)), (4, .int .i64 k), (58, .int .i64 k), (59, .pointer (some ⟨g1, 2, none⟩)), (60, .slice (some ⟨b2, off2, none⟩) l.es.length c2), (61, .int .i64 (l.es.length : Int)), (62, .bool true), (65, .pointer (some ⟨g1, 2, none⟩)), (66, .slice (some ⟨b2, off2, none⟩) l.es.length c2), (67, .int .i64 k), (68, .pointer (some ⟨b2, off2 + k.toNat * 3, none⟩)), (69, .agg #[.int .i64 ((ed l.es k).1), .int .i64 ((ed l.es k).2.1), .int .i64 ((ed l.es k).2.2)])]
      (cellH h'' ⟨g1, 2, none⟩ = some (.slice (some ⟨b2, off2, none⟩) l.es.length c2) ∧ (decide (k < (l.es.length : Int))) = true ∧ cellH h'' ⟨g1, 2, none⟩ = some (.slice (some ⟨b2, off2, none⟩) l.es.length c2) ∧ (0 ≤ k ∧ k < (l.es.length : Int)) ∧ cellsAt h'' ⟨b2, off2 + k.toNat * 3, none⟩ [.int .i64 ((ed l.es k).1), .int .i64 ((ed l.es k).2.1), .int .i64 ((ed l.es k).2.2)] 0)
      (by as_aux_lemma => kernel_rfl) ⟨(hBg1.at hE 2 rfl), (by first | assumption | exact decide_eq_true (by first | omega | assumption)), (hBg1.at hE 2 rfl), ⟨by omega, by omega⟩, (hp2 _ E2 k (by omega) (by omega))⟩ fun s_ => ?_
    refine Run.new #[.int .i64 0, .int .i64 0, .int .i64 0] 64 (fun g_ => .pointer (some ⟨g_, 0, none⟩)) (some 5) (at_ Tryz.f14 [1,1,1,0,1,2,3,1,0,2,0,8,6]) (by as_aux_lemma => kernel_rfl) fun g2 h3 hng2 hEg2 hBg2 => ?_
    refine Run.store g2 0 [.int .i64 ((ed l.es k).1), .int .i64 ((ed l.es k).2.1), .int .i64 ((ed l.es k).2.2)] (at_ Tryz.f14 [1,1,1,0,1,2,3,1,0,2,0,8,7]) (by as_aux_lemma => kernel_rfl) (hBg2.ext (Ext.refl _)) (by simp) rfl fun h4 hMh4 hzh4 (hBg2_h4 : Blk h4 g2 #[.int .i64 ((ed l.es k).1), .int .i64 ((ed l.es k).2.1), .int .i64 ((ed l.es k).2.2)] 64) => ?_
    -- at 111012310210
    refine Run.adv 2 [] (at_ Tryz.f14 [1,1,1,0,1,2,3,1,0,2,1,0]) [(1, .pointer (some ⟨g1, 0, none⟩)), (4, .int .i64 k), (5, .pointer (some ⟨g2, 0, none⟩))]
      (True)
      (by as_aux_lemma => kernel_rfl) trivial fun s_ => ?_
    by_cases q1 : (ed l.es k).1 < 0
    · refine Run.drawE [.val (.int .i64 ((ed l.es k).1)), .dec true, .lit, .lit, .lit, .lit, .lit, .lit, .lit, .lit, .lit, .lit, .lit, .lit, .lit, .lit, .lit, .lit, .lit, .lit, .lit, .lit, .lit, .lit, .lit, .lit, .off, .off, .off, .off, .off, .off, .off, .off, .off, .lit] (at_ Tryz.f14 [1,1,1,0,1,2,3,1,0,2,1,1]) [(119, .bool true)]
        (fun H => LexOk (opsAt (at_ Tryz.f14 [1,1,1,0,1,2,3,1,0,2,1,0])) ∧ cellH H ⟨g2, 0, none⟩ = some (.int .i64 ((ed l.es k).1)) ∧ (decide ((ed l.es k).1 < 0)) = true)
        (by as_aux_lemma => kernel_rfl) (fun H hH => ⟨lx_14_111012310210, (hBg2_h4.at hH 0 rfl), (by first | assumption | exact decide_eq_true (by first | omega | assumption))⟩) fun H s_ hH => ?_
      -- at 11101231021141
      refine Run.adv 5 [.lit] (at_ Tryz.f14 [1,1,1,0,1,2,3,1,0,2,1,1,4,1]) [(2, .bool false)]
        (True)
        (by as_aux_lemma => kernel_rfl) trivial fun s_ => ?_
      refine Run.ret [] (.bool false) (True) Tryz.func14 (by as_aux_lemma => kernel_rfl) (by as_aux_lemma => kernel_rfl) trivial ?_
      exact ⟨by rw [tv_no]; exact fun hh => by have := (hh.es k hk0 hlt2).1; unfold EdgeMay at this; omega, ((hMh4.ext_new (E2.trans hEg2) hng2 E2).trans hH)⟩
    by_cases q2 : l.n ≤ (ed l.es k).1
    · refine Run.drawE [.val (.int .i64 ((ed l.es k).1)), .dec false, .lit, .val (.int .i64 ((ed l.es k).1)), .lit, .lit, .val (.int .i64 l.n), .lit, .dec true, .lit, .lit, .lit, .lit, .lit, .lit, .lit, .lit, .lit, .lit, .lit, .lit, .lit, .lit, .lit, .lit, .lit, .lit, .lit, .off, .off, .off, .off, .off, .off, .off, .off, .off, .lit] (at_ Tryz.f14 [1,1,1,0,1,2,3,1,0,2,1,1]) [(119, .bool true)]
        (fun H => LexOk (opsAt (at_ Tryz.f14 [1,1,1,0,1,2,3,1,0,2,1,0])) ∧ cellH H ⟨g2, 0, none⟩ = some (.int .i64 ((ed l.es k).1)) ∧ (decide ((ed l.es k).1 < 0)) = false ∧ cellH H ⟨g2, 0, none⟩ = some (.int .i64 ((ed l.es k).1)) ∧ cellH H ⟨g1, 0, none⟩ = some (.int .i64 l.n) ∧ (decide ((ed l.es k).1 ≥ l.n)) = true)
        (by as_aux_lemma => kernel_rfl) (fun H hH => ⟨lx_14_111012310210, (hBg2_h4.at hH 0 rfl), (by first | assumption | exact decide_eq_false (by first | omega | assumption)), (hBg2_h4.at hH 0 rfl), (hBg1.at ((hMh4.ext_new (hE.trans hEg2) hng2 hE).trans hH) 0 rfl), (by first | assumption | exact decide_eq_true (by first | omega | assumption))⟩) fun H s_ hH => ?_
      -- at 11101231021141
      refine Run.adv 5 [.lit] (at_ Tryz.f14 [1,1,1,0,1,2,3,1,0,2,1,1,4,1]) [(2, .bool false)]
        (True)
        (by as_aux_lemma => kernel_rfl) trivial fun s_ => ?_
      refine Run.ret [] (.bool false) (True) Tryz.func14 (by as_aux_lemma => kernel_rfl) (by as_aux_lemma => kernel_rfl) trivial ?_
      exact ⟨by rw [tv_no]; exact fun hh => by have := (hh.es k hk0 hlt2).1; unfold EdgeMay at this; omega, ((hMh4.ext_new (E2.trans hEg2) hng2 E2).trans hH)⟩
    by_cases q3 : (ed l.es k).2.2 < 0
    · refine Run.drawE [.val (.int .i64 ((ed l.es k).1)), .dec false, .lit, .val (.int .i64 ((ed l.es k).1)), .lit, .lit, .val (.int .i64 l.n), .lit, .dec false, .lit, .val (.int .i64 ((ed l.es k).2.2)), .lit, .dec true, .lit, .lit, .lit, .lit, .lit, .lit, .lit, .lit, .lit, .lit, .lit, .lit, .lit, .lit, .lit, .lit, .off, .off, .off, .off, .off, .off, .off, .off, .off, .lit] (at_ Tryz.f14 [1,1,1,0,1,2,3,1,0,2,1,1]) [(119, .bool true)]
        (fun H => LexOk (opsAt (at_ Tryz.f14 [1,1,1,0,1,2,3,1,0,2,1,0])) ∧ cellH H ⟨g2, 0, none⟩ = some (.int .i64 ((ed l.es k).1)) ∧ (decide ((ed l.es k).1 < 0)) = false ∧ cellH H ⟨g2, 0, none⟩ = some (.int .i64 ((ed l.es k).1)) ∧ cellH H ⟨g1, 0, none⟩ = some (.int .i64 l.n) ∧ (decide ((ed l.es k).1 ≥ l.n)) = false ∧ cellH H ⟨g2, 2, none⟩ = some (.int .i64 ((ed l.es k).2.2)) ∧ (decide ((ed l.es k).2.2 < 0)) = true)
        (by as_aux_lemma => kernel_rfl) (fun H hH => ⟨lx_14_111012310210, (hBg2_h4.at hH 0 rfl), (by first | assumption | exact decide_eq_false (by first | omega | assumption)), (hBg2_h4.at hH 0 rfl), (hBg1.at ((hMh4.ext_new (hE.trans hEg2) hng2 hE).trans hH) 0 rfl), (by first | assumption | exact decide_eq_false (by first | omega | assumption)), (hBg2_h4.at hH 2 rfl), (by first | assumption | exact decide_eq_true (by first | omega | assumption))⟩) fun H s_ hH => ?_
      -- at 11101231021141
      refine Run.adv 5 [.lit] (at_ Tryz.f14 [1,1,1,0,1,2,3,1,0,2,1,1,4,1]) [(2, .bool false)]
        (True)
        (by as_aux_lemma => kernel_rfl) trivial fun s_ => ?_
      refine Run.ret [] (.bool false) (True) Tryz.func14 (by as_aux_lemma => kernel_rfl) (by as_aux_lemma => kernel_rfl) trivial ?_
      exact ⟨by rw [tv_no]; exact fun hh => by have := (hh.es k hk0 hlt2).1; unfold EdgeMay at this; omega, ((hMh4.ext_new (E2.trans hEg2) hng2 E2).trans hH)⟩
    by_cases q4 : l.n ≤ (ed l.es k).2.2
    · refine Run.drawE [.val (.int .i64 ((ed l.es k).1)), .dec false, .lit, .val (.int .i64 ((ed l.es k).1)), .lit, .lit, .val (.int .i64 l.n), .lit, .dec false, .lit, .val (.int .i64 ((ed l.es k).2.2)), .lit, .dec false, .lit, .val (.int .i64 ((ed l.es k).2.2)), .lit, .lit, .val (.int .i64 l.n), .lit, .dec true, .lit, .lit, .lit, .lit, .lit, .lit, .lit, .lit, .lit, .lit, .lit, .off, .off, .off, .off, .off, .off, .off, .off, .off, .lit] (at_ Tryz.f14 [1,1,1,0,1,2,3,1,0,2,1,1]) [(119, .bool true)]
        (fun H => LexOk (opsAt (at_ Tryz.f14 [1,1,1,0,1,2,3,1,0,2,1,0])) ∧ cellH H ⟨g2, 0, none⟩ = some (.int .i64 ((ed l.es k).1)) ∧ (decide ((ed l.es k).1 < 0)) = false ∧ cellH H ⟨g2, 0, none⟩ = some (.int .i64 ((ed l.es k).1)) ∧ cellH H ⟨g1, 0, none⟩ = some (.int .i64 l.n) ∧ (decide ((ed l.es k).1 ≥ l.n)) = false ∧ cellH H ⟨g2, 2, none⟩ = some (.int .i64 ((ed l.es k).2.2)) ∧ (decide ((ed l.es k).2.2 < 0)) = false ∧ cellH H ⟨g2, 2, none⟩ = some (.int .i64 ((ed l.es k).2.2)) ∧ cellH H ⟨g1, 0, none⟩ = some (.int .i64 l.n) ∧ (decide ((ed l.es k).2.2 ≥ l.n)) = true)
        (by as_aux_lemma => kernel_rfl) (fun H hH => ⟨lx_14_111012310210, (hBg2_h4.at hH 0 rfl), (by first | assumption | exact decide_eq_false (by first | omega | assumption)), (hBg2_h4.at hH 0 rfl), (hBg1.at ((hMh4.ext_new (hE.trans hEg2) hng2 hE).trans hH) 0 rfl), (by first | assumption | exact decide_eq_false (by first | omega | assumption)), (hBg2_h4.at hH 2 rfl), (by first | assumption | exact decide_eq_false (by first | omega | assumption)), (hBg2_h4.at hH 2 rfl), (hBg1.at ((hMh4.ext_new (hE.trans hEg2) hng2 hE).trans hH) 0 rfl), (by first | assumption | exact decide_eq_true (by first | omega | assumption))⟩) fun H s_ hH => ?_
      -- at 11101231021141
      refine Run.adv 5 [.lit] (at_ Tryz.f14 [1,1,1,0,1,2,3,1,0,2,1,1,4,1]) [(2, .bool false)]
        (True)
        (by as_aux_lemma => kernel_rfl) trivial fun s_ => ?_
      refine Run.ret [] (.bool false) (True) Tryz.func14 (by as_aux_lemma => kernel_rfl) (by as_aux_lemma => kernel_rfl) trivial ?_
      exact ⟨by rw [tv_no]; exact fun hh => by have := (hh.es k hk0 hlt2).1; unfold EdgeMay at this; omega, ((hMh4.ext_new (E2.trans hEg2) hng2 E2).trans hH)⟩
    by_cases q5 : (ed l.es k).2.1 < 0
    · refine Run.drawE [.val (.int .i64 ((ed l.es k).1)), .dec false, .lit, .val (.int .i64 ((ed l.es k).1)), .lit, .lit, .val (.int .i64 l.n), .lit, .dec false, .lit, .val (.int .i64 ((ed l.es k).2.2)), .lit, .dec false, .lit, .val (.int .i64 ((ed l.es k).2.2)), .lit, .lit, .val (.int .i64 l.n), .lit, .dec false, .lit, .val (.int .i64 ((ed l.es k).2.1)), .lit, .dec true, .lit, .lit, .lit, .lit, .lit, .lit, .lit, .lit, .off, .off, .off, .off, .off, .off, .off, .off, .off, .lit] (at_ Tryz.f14 [1,1,1,0,1,2,3,1,0,2,1,1]) [(119, .bool true)]
        (fun H => LexOk (opsAt (at_ Tryz.f14 [1,1,1,0,1,2,3,1,0,2,1,0])) ∧ cellH H ⟨g2, 0, none⟩ = some (.int .i64 ((ed l.es k).1)) ∧ (decide ((ed l.es k).1 < 0)) = false ∧ cellH H ⟨g2, 0, none⟩ = some (.int .i64 ((ed l.es k).1)) ∧ cellH H ⟨g1, 0, none⟩ = some (.int .i64 l.n) ∧ (decide ((ed l.es k).1 ≥ l.n)) = false ∧ cellH H ⟨g2, 2, none⟩ = some (.int .i64 ((ed l.es k).2.2)) ∧ (decide ((ed l.es k).2.2 < 0)) = false ∧ cellH H ⟨g2, 2, none⟩ = some (.int .i64 ((ed l.es k).2.2)) ∧ cellH H ⟨g1, 0, none⟩ = some (.int .i64 l.n) ∧ (decide ((ed l.es k).2.2 ≥ l.n)) = false ∧ cellH H ⟨g2, 1, none⟩ = some (.int .i64 ((ed l.es k).2.1)) ∧ (decide ((ed l.es k).2.1 < 0)) = true)
        (by as_aux_lemma => kernel_rfl) (fun H hH => ⟨lx_14_111012310210, (hBg2_h4.at hH 0 rfl), (by first | assumption | exact decide_eq_false (by first | omega | assumption)), (hBg2_h4.at hH 0 rfl), (hBg1.at ((hMh4.ext_new (hE.trans hEg2) hng2 hE).trans hH) 0 rfl), (by first | assumption | exact decide_eq_false (by first | omega | assumption)), (hBg2_h4.at hH 2 rfl), (by first | assumption | exact decide_eq_false (by first | omega | assumption)), (hBg2_h4.at hH 2 rfl), (hBg1.at ((hMh4.ext_new (hE.trans hEg2) hng2 hE).trans hH) 0 rfl), (by first | assumption | exact decide_eq_false (by first | omega | assumption)), (hBg2_h4.at hH 1 rfl), (by first | assumption | exact decide_eq_true (by first | omega | assumption))⟩) fun H s_ hH => ?_
      -- at 11101231021141
      refine Run.adv 5 [.lit] (at_ Tryz.f14 [1,1,1,0,1,2,3,1,0,2,1,1,4,1]) [(2, .bool false)]
        (True)
        (by as_aux_lemma => kernel_rfl) trivial fun s_ => ?_
      refine Run.ret [] (.bool false) (True) Tryz.func14 (by as_aux_lemma => kernel_rfl) (by as_aux_lemma => kernel_rfl) trivial ?_
      exact ⟨by rw [tv_no]; exact fun hh => by have := (hh.es k hk0 hlt2).1; unfold EdgeMay at this; omega, ((hMh4.ext_new (E2.trans hEg2) hng2 E2).trans hH)⟩
    by_cases q6 : l.ls.length ≤ (ed l.es k).2.1
    · refine Run.drawE [.val (.int .i64 ((ed l.es k).1)), .dec false, .lit, .val (.int .i64 ((ed l.es k).1)), .lit, .lit, .val (.int .i64 l.n), .lit, .dec false, .lit, .val (.int .i64 ((ed l.es k).2.2)), .lit, .dec false, .lit, .val (.int .i64 ((ed l.es k).2.2)), .lit, .lit, .val (.int .i64 l.n), .lit, .dec false, .lit, .val (.int .i64 ((ed l.es k).2.1)), .lit, .dec false, .lit, .val (.int .i64 ((ed l.es k).2.1)), .lit, .lit, .val (.slice A1 l.ls.length c1), .lit, .lit, .dec true, .lit, .lit, .off, .off, .off, .off, .off, .off, .off, .off, .off, .lit] (at_ Tryz.f14 [1,1,1,0,1,2,3,1,0,2,1,1]) [(119, .bool true)]
        (fun H => LexOk (opsAt (at_ Tryz.f14 [1,1,1,0,1,2,3,1,0,2,1,0])) ∧ cellH H ⟨g2, 0, none⟩ = some (.int .i64 ((ed l.es k).1)) ∧ (decide ((ed l.es k).1 < 0)) = false ∧ cellH H ⟨g2, 0, none⟩ = some (.int .i64 ((ed l.es k).1)) ∧ cellH H ⟨g1, 0, none⟩ = some (.int .i64 l.n) ∧ (decide ((ed l.es k).1 ≥ l.n)) = false ∧ cellH H ⟨g2, 2, none⟩ = some (.int .i64 ((ed l.es k).2.2)) ∧ (decide ((ed l.es k).2.2 < 0)) = false ∧ cellH H ⟨g2, 2, none⟩ = some (.int .i64 ((ed l.es k).2.2)) ∧ cellH H ⟨g1, 0, none⟩ = some (.int .i64 l.n) ∧ (decide ((ed l.es k).2.2 ≥ l.n)) = false ∧ cellH H ⟨g2, 1, none⟩ = some (.int .i64 ((ed l.es k).2.1)) ∧ (decide ((ed l.es k).2.1 < 0)) = false ∧ cellH H ⟨g2, 1, none⟩ = some (.int .i64 ((ed l.es k).2.1)) ∧ cellH H ⟨g1, 1, none⟩ = some (.slice A1 l.ls.length c1) ∧ (decide ((ed l.es k).2.1 ≥ (l.ls.length : Int))) = true)
        (by as_aux_lemma => kernel_rfl) (fun H hH => ⟨lx_14_111012310210, (hBg2_h4.at hH 0 rfl), (by first | assumption | exact decide_eq_false (by first | omega | assumption)), (hBg2_h4.at hH 0 rfl), (hBg1.at ((hMh4.ext_new (hE.trans hEg2) hng2 hE).trans hH) 0 rfl), (by first | assumption | exact decide_eq_false (by first | omega | assumption)), (hBg2_h4.at hH 2 rfl), (by first | assumption | exact decide_eq_false (by first | omega | assumption)), (hBg2_h4.at hH 2 rfl), (hBg1.at ((hMh4.ext_new (hE.trans hEg2) hng2 hE).trans hH) 0 rfl), (by first | assumption | exact decide_eq_false (by first | omega | assumption)), (hBg2_h4.at hH 1 rfl), (by first | assumption | exact decide_eq_false (by first | omega | assumption)), (hBg2_h4.at hH 1 rfl), (hBg1.at ((hMh4.ext_new (hE.trans hEg2) hng2 hE).trans hH) 1 rfl), (by first | assumption | exact decide_eq_true (by first | omega | assumption))⟩) fun H s_ hH => ?_
      -- at 11101231021141
      refine Run.adv 5 [.lit] (at_ Tryz.f14 [1,1,1,0,1,2,3,1,0,2,1,1,4,1]) [(2, .bool false)]
        (True)
        (by as_aux_lemma => kernel_rfl) trivial fun s_ => ?_
      refine Run.ret [] (.bool false) (True) Tryz.func14 (by as_aux_lemma => kernel_rfl) (by as_aux_lemma => kernel_rfl) trivial ?_
      exact ⟨by rw [tv_no]; exact fun hh => by have := (hh.es k hk0 hlt2).1; unfold EdgeMay at this; omega, ((hMh4.ext_new (E2.trans hEg2) hng2 E2).trans hH)⟩
    have hm : EdgeMay l.n l.ls.length (ed l.es k) := ⟨by omega, by omega, by omega, by omega, by omega, by omega⟩
    by_cases q7 : 0 < k
    · by_cases q8 : aheadB (ed l.es (k - 1)) (ed l.es k) = true
      · refine Run.drawE [.val (.int .i64 ((ed l.es k).1)), .dec false, .lit, .val (.int .i64 ((ed l.es k).1)), .lit, .lit, .val (.int .i64 l.n), .lit, .dec false, .lit, .val (.int .i64 ((ed l.es k).2.2)), .lit, .dec false, .lit, .val (.int .i64 ((ed l.es k).2.2)), .lit, .lit, .val (.int .i64 l.n), .lit, .dec false, .lit, .val (.int .i64 ((ed l.es k).2.1)), .lit, .dec false, .lit, .val (.int .i64 ((ed l.es k).2.1)), .lit, .lit, .val (.slice A1 l.ls.length c1), .lit, .lit, .dec false, .lit, .lit, .dec true, .lit, .val (.slice (some ⟨b2, off2, none⟩) l.es.length c2), .lit, .lit, .lit, .lit, .val (.agg #[.int .i64 ((ed l.es (k - 1)).1), .int .i64 ((ed l.es (k - 1)).2.1), .int .i64 ((ed l.es (k - 1)).2.2)]), .lit, .val (.agg #[.int .i64 ((ed l.es k).1), .int .i64 ((ed l.es k).2.1), .int .i64 ((ed l.es k).2.2)]), .lit, .val (.bool (aheadB (ed l.es (k - 1)) (ed l.es k))), .lit, .lit] (at_ Tryz.f14 [1,1,1,0,1,2,3,1,0,2,1,1]) [(1, .pointer (some ⟨g1, 0, none⟩)), (4, .int .i64 k), (119, .bool (!(aheadB (ed l.es (k - 1)) (ed l.es k))))]
          (fun H => LexOk (opsAt (at_ Tryz.f14 [1,1,1,0,1,2,3,1,0,2,1,0])) ∧ cellH H ⟨g2, 0, none⟩ = some (.int .i64 ((ed l.es k).1)) ∧ (decide ((ed l.es k).1 < 0)) = false ∧ cellH H ⟨g2, 0, none⟩ = some (.int .i64 ((ed l.es k).1)) ∧ cellH H ⟨g1, 0, none⟩ = some (.int .i64 l.n) ∧ (decide ((ed l.es k).1 ≥ l.n)) = false ∧ cellH H ⟨g2, 2, none⟩ = some (.int .i64 ((ed l.es k).2.2)) ∧ (decide ((ed l.es k).2.2 < 0)) = false ∧ cellH H ⟨g2, 2, none⟩ = some (.int .i64 ((ed l.es k).2.2)) ∧ cellH H ⟨g1, 0, none⟩ = some (.int .i64 l.n) ∧ (decide ((ed l.es k).2.2 ≥ l.n)) = false ∧ cellH H ⟨g2, 1, none⟩ = some (.int .i64 ((ed l.es k).2.1)) ∧ (decide ((ed l.es k).2.1 < 0)) = false ∧ cellH H ⟨g2, 1, none⟩ = some (.int .i64 ((ed l.es k).2.1)) ∧ cellH H ⟨g1, 1, none⟩ = some (.slice A1 l.ls.length c1) ∧ (decide ((ed l.es k).2.1 ≥ (l.ls.length : Int))) = false ∧ (decide (k > 0)) = true ∧ cellH H ⟨g1, 2, none⟩ = some (.slice (some ⟨b2, off2, none⟩) l.es.length c2) ∧ (-9223372036854775808 ≤ k - 1 ∧ k - 1 ≤ 9223372036854775807) ∧ (0 ≤ k - 1 ∧ k - 1 < (l.es.length : Int)) ∧ cellsAt H ⟨b2, off2 + (k - 1).toNat * 3, none⟩ [.int .i64 ((ed l.es (k - 1)).1), .int .i64 ((ed l.es (k - 1)).2.1), .int .i64 ((ed l.es (k - 1)).2.2)] 0 ∧ cellsAt H ⟨g2, 0, none⟩ [.int .i64 ((ed l.es k).1), .int .i64 ((ed l.es k).2.1), .int .i64 ((ed l.es k).2.2)] 0 ∧ (Ct Tryz.prog 43 #[.agg #[.int .i64 ((ed l.es (k - 1)).1), .int .i64 ((ed l.es (k - 1)).2.1), .int .i64 ((ed l.es (k - 1)).2.2)], .agg #[.int .i64 ((ed l.es k).1), .int .i64 ((ed l.es k).2.1), .int .i64 ((ed l.es k).2.2)]] H (fun v_ h_ => v_ = .bool (aheadB (ed l.es (k - 1)) (ed l.es k)) ∧ Ext H h_)))
          (by as_aux_lemma => kernel_rfl) (fun H hH => ⟨lx_14_111012310210, (hBg2_h4.at hH 0 rfl), (by first | assumption | exact decide_eq_false (by first | omega | assumption)), (hBg2_h4.at hH 0 rfl), (hBg1.at ((hMh4.ext_new (hE.trans hEg2) hng2 hE).trans hH) 0 rfl), (by first | assumption | exact decide_eq_false (by first | omega | assumption)), (hBg2_h4.at hH 2 rfl), (by first | assumption | exact decide_eq_false (by first | omega | assumption)), (hBg2_h4.at hH 2 rfl), (hBg1.at ((hMh4.ext_new (hE.trans hEg2) hng2 hE).trans hH) 0 rfl), (by first | assumption | exact decide_eq_false (by first | omega | assumption)), (hBg2_h4.at hH 1 rfl), (by first | assumption | exact decide_eq_false (by first | omega | assumption)), (hBg2_h4.at hH 1 rfl), (hBg1.at ((hMh4.ext_new (hE.trans hEg2) hng2 hE).trans hH) 1 rfl), (by first | assumption | exact decide_eq_false (by first | omega | assumption)), (by first | assumption | exact decide_eq_true (by first | omega | assumption)), (hBg1.at ((hMh4.ext_new (hE.trans hEg2) hng2 hE).trans hH) 2 rfl), ⟨by omega, by omega⟩, ⟨by omega, by omega⟩, (hp2 _ ((hMh4.ext_new (E2.trans hEg2) hng2 E2).trans hH) (k - 1) (by omega) (by omega)), (hBg2_h4.all hH), (Ahead_ct (ed l.es (k - 1)) (ed l.es k) H)⟩) fun H s_ hH => ?_
        -- at 1110127
        refine Run.adv 8 [.dec false] (at_ Tryz.f14 [1,1,1,0,1,2,7]) [(1, .pointer (some ⟨g1, 0, none⟩)), (4, .int .i64 (k + 1))]
          ((!(aheadB (ed l.es (k - 1)) (ed l.es k))) = false ∧ (-9223372036854775808 ≤ k + 1 ∧ k + 1 ≤ 9223372036854775807))
          (by as_aux_lemma => kernel_rfl) ⟨(bnf (by assumption)), ⟨by omega, by omega⟩⟩ fun s_ => ?_
        refine again2 (k + 1) _ _ ⟨((hMh4.ext_new (hE.trans hEg2) hng2 hE).trans hH), by omega, by omega, fun j h1 h2 => ?_⟩ (by omega)
        by_cases e5 : j = k
        · subst e5; exact ⟨hm, fun _ => q8⟩
        · exact hK j h1 (by omega)
      · have q8' : aheadB (ed l.es (k - 1)) (ed l.es k) = false := by simpa using q8
        refine Run.drawE [.val (.int .i64 ((ed l.es k).1)), .dec false, .lit, .val (.int .i64 ((ed l.es k).1)), .lit, .lit, .val (.int .i64 l.n), .lit, .dec false, .lit, .val (.int .i64 ((ed l.es k).2.2)), .lit, .dec false, .lit, .val (.int .i64 ((ed l.es k).2.2)), .lit, .lit, .val (.int .i64 l.n), .lit, .dec false, .lit, .val (.int .i64 ((ed l.es k).2.1)), .lit, .dec false, .lit, .val (.int .i64 ((ed l.es k).2.1)), .lit, .lit, .val (.slice A1 l.ls.length c1), .lit, .lit, .dec false, .lit, .lit, .dec true, .lit, .val (.slice (some ⟨b2, off2, none⟩) l.es.length c2), .lit, .lit, .lit, .lit, .val (.agg #[.int .i64 ((ed l.es (k - 1)).1), .int .i64 ((ed l.es (k - 1)).2.1), .int .i64 ((ed l.es (k - 1)).2.2)]), .lit, .val (.agg #[.int .i64 ((ed l.es k).1), .int .i64 ((ed l.es k).2.1), .int .i64 ((ed l.es k).2.2)]), .lit, .val (.bool (aheadB (ed l.es (k - 1)) (ed l.es k))), .lit, .lit] (at_ Tryz.f14 [1,1,1,0,1,2,3,1,0,2,1,1]) [(119, .bool (!(aheadB (ed l.es (k - 1)) (ed l.es k))))]
          (fun H => LexOk (opsAt (at_ Tryz.f14 [1,1,1,0,1,2,3,1,0,2,1,0])) ∧ cellH H ⟨g2, 0, none⟩ = some (.int .i64 ((ed l.es k).1)) ∧ (decide ((ed l.es k).1 < 0)) = false ∧ cellH H ⟨g2, 0, none⟩ = some (.int .i64 ((ed l.es k).1)) ∧ cellH H ⟨g1, 0, none⟩ = some (.int .i64 l.n) ∧ (decide ((ed l.es k).1 ≥ l.n)) = false ∧ cellH H ⟨g2, 2, none⟩ = some (.int .i64 ((ed l.es k).2.2)) ∧ (decide ((ed l.es k).2.2 < 0)) = false ∧ cellH H ⟨g2, 2, none⟩ = some (.int .i64 ((ed l.es k).2.2)) ∧ cellH H ⟨g1, 0, none⟩ = some (.int .i64 l.n) ∧ (decide ((ed l.es k).2.2 ≥ l.n)) = false ∧ cellH H ⟨g2, 1, none⟩ = some (.int .i64 ((ed l.es k).2.1)) ∧ (decide ((ed l.es k).2.1 < 0)) = false ∧ cellH H ⟨g2, 1, none⟩ = some (.int .i64 ((ed l.es k).2.1)) ∧ cellH H ⟨g1, 1, none⟩ = some (.slice A1 l.ls.length c1) ∧ (decide ((ed l.es k).2.1 ≥ (l.ls.length : Int))) = false ∧ (decide (k > 0)) = true ∧ cellH H ⟨g1, 2, none⟩ = some (.slice (some ⟨b2, off2, none⟩) l.es.length c2) ∧ (-9223372036854775808 ≤ k - 1 ∧ k - 1 ≤ 9223372036854775807) ∧ (0 ≤ k - 1 ∧ k - 1 < (l.es.length : Int)) ∧ cellsAt H ⟨b2, off2 + (k - 1).toNat * 3, none⟩ [.int .i64 ((ed l.es (k - 1)).1), .int .i64 ((ed l.es (k - 1)).2.1), .int .i64 ((ed l.es (k - 1)).2.2)] 0 ∧ cellsAt H ⟨g2, 0, none⟩ [.int .i64 ((ed l.es k).1), .int .i64 ((ed l.es k).2.1), .int .i64 ((ed l.es k).2.2)] 0 ∧ (Ct Tryz.prog 43 #[.agg #[.int .i64 ((ed l.es (k - 1)).1), .int .i64 ((ed l.es (k - 1)).2.1), .int .i64 ((ed l.es (k - 1)).2.2)], .agg #[.int .i64 ((ed l.es k).1), .int .i64 ((ed l.es k).2.1), .int .i64 ((ed l.es k).2.2)]] H (fun v_ h_ => v_ = .bool (aheadB (ed l.es (k - 1)) (ed l.es k)) ∧ Ext H h_)))
          (by as_aux_lemma => kernel_rfl) (fun H hH => ⟨lx_14_111012310210, (hBg2_h4.at hH 0 rfl), (by first | assumption | exact decide_eq_false (by first | omega | assumption)), (hBg2_h4.at hH 0 rfl), (hBg1.at ((hMh4.ext_new (hE.trans hEg2) hng2 hE).trans hH) 0 rfl), (by first | assumption | exact decide_eq_false (by first | omega | assumption)), (hBg2_h4.at hH 2 rfl), (by first | assumption | exact decide_eq_false (by first | omega | assumption)), (hBg2_h4.at hH 2 rfl), (hBg1.at ((hMh4.ext_new (hE.trans hEg2) hng2 hE).trans hH) 0 rfl), (by first | assumption | exact decide_eq_false (by first | omega | assumption)), (hBg2_h4.at hH 1 rfl), (by first | assumption | exact decide_eq_false (by first | omega | assumption)), (hBg2_h4.at hH 1 rfl), (hBg1.at ((hMh4.ext_new (hE.trans hEg2) hng2 hE).trans hH) 1 rfl), (by first | assumption | exact decide_eq_false (by first | omega | assumption)), (by first | assumption | exact decide_eq_true (by first | omega | assumption)), (hBg1.at ((hMh4.ext_new (hE.trans hEg2) hng2 hE).trans hH) 2 rfl), ⟨by omega, by omega⟩, ⟨by omega, by omega⟩, (hp2 _ ((hMh4.ext_new (E2.trans hEg2) hng2 E2).trans hH) (k - 1) (by omega) (by omega)), (hBg2_h4.all hH), (Ahead_ct (ed l.es (k - 1)) (ed l.es k) H)⟩) fun H s_ hH => ?_
        -- at 11101231021141
        refine Run.adv 5 [.dec true] (at_ Tryz.f14 [1,1,1,0,1,2,3,1,0,2,1,1,4,1]) [(2, .bool false)]
          ((!(aheadB (ed l.es (k - 1)) (ed l.es k))) = true)
          (by as_aux_lemma => kernel_rfl) (bnt (by assumption)) fun s_ => ?_
        refine Run.ret [] (.bool false) (True) Tryz.func14 (by as_aux_lemma => kernel_rfl) (by as_aux_lemma => kernel_rfl) trivial ?_
        exact ⟨by rw [tv_no]; exact fun hh => q8 ((hh.es k hk0 hlt2).2 q7), ((hMh4.ext_new (E2.trans hEg2) hng2 E2).trans hH)⟩
    · refine Run.drawE [.val (.int .i64 ((ed l.es k).1)), .dec false, .lit, .val (.int .i64 ((ed l.es k).1)), .lit, .lit, .val (.int .i64 l.n), .lit, .dec false, .lit, .val (.int .i64 ((ed l.es k).2.2)), .lit, .dec false, .lit, .val (.int .i64 ((ed l.es k).2.2)), .lit, .lit, .val (.int .i64 l.n), .lit, .dec false, .lit, .val (.int .i64 ((ed l.es k).2.1)), .lit, .dec false, .lit, .val (.int .i64 ((ed l.es k).2.1)), .lit, .lit, .val (.slice A1 l.ls.length c1), .lit, .lit, .dec false, .lit, .lit, .dec false, .lit, .lit, .lit, .lit, .lit, .lit, .lit, .lit, .lit] (at_ Tryz.f14 [1,1,1,0,1,2,3,1,0,2,1,1]) [(1, .pointer (some ⟨g1, 0, none⟩)), (4, .int .i64 k), (119, .bool false)]
        (fun H => LexOk (opsAt (at_ Tryz.f14 [1,1,1,0,1,2,3,1,0,2,1,0])) ∧ cellH H ⟨g2, 0, none⟩ = some (.int .i64 ((ed l.es k).1)) ∧ (decide ((ed l.es k).1 < 0)) = false ∧ cellH H ⟨g2, 0, none⟩ = some (.int .i64 ((ed l.es k).1)) ∧ cellH H ⟨g1, 0, none⟩ = some (.int .i64 l.n) ∧ (decide ((ed l.es k).1 ≥ l.n)) = false ∧ cellH H ⟨g2, 2, none⟩ = some (.int .i64 ((ed l.es k).2.2)) ∧ (decide ((ed l.es k).2.2 < 0)) = false ∧ cellH H ⟨g2, 2, none⟩ = some (.int .i64 ((ed l.es k).2.2)) ∧ cellH H ⟨g1, 0, none⟩ = some (.int .i64 l.n) ∧ (decide ((ed l.es k).2.2 ≥ l.n)) = false ∧ cellH H ⟨g2, 1, none⟩ = some (.int .i64 ((ed l.es k).2.1)) ∧ (decide ((ed l.es k).2.1 < 0)) = false ∧ cellH H ⟨g2, 1, none⟩ = some (.int .i64 ((ed l.es k).2.1)) ∧ cellH H ⟨g1, 1, none⟩ = some (.slice A1 l.ls.length c1) ∧ (decide ((ed l.es k).2.1 ≥ (l.ls.length : Int))) = false ∧ (decide (k > 0)) = false)
        (by as_aux_lemma => kernel_rfl) (fun H hH => ⟨lx_14_111012310210, (hBg2_h4.at hH 0 rfl), (by first | assumption | exact decide_eq_false (by first | omega | assumption)), (hBg2_h4.at hH 0 rfl), (hBg1.at ((hMh4.ext_new (hE.trans hEg2) hng2 hE).trans hH) 0 rfl), (by first | assumption | exact decide_eq_false (by first | omega | assumption)), (hBg2_h4.at hH 2 rfl), (by first | assumption | exact decide_eq_false (by first | omega | assumption)), (hBg2_h4.at hH 2 rfl), (hBg1.at ((hMh4.ext_new (hE.trans hEg2) hng2 hE).trans hH) 0 rfl), (by first | assumption | exact decide_eq_false (by first | omega | assumption)), (hBg2_h4.at hH 1 rfl), (by first | assumption | exact decide_eq_false (by first | omega | assumption)), (hBg2_h4.at hH 1 rfl), (hBg1.at ((hMh4.ext_new (hE.trans hEg2) hng2 hE).trans hH) 1 rfl), (by first | assumption | exact decide_eq_false (by first | omega | assumption)), (by first | assumption | exact decide_eq_false (by first | omega | assumption))⟩) fun H s_ hH => ?_
      -- at 1110127
      refine Run.adv 8 [.lit] (at_ Tryz.f14 [1,1,1,0,1,2,7]) [(1, .pointer (some ⟨g1, 0, none⟩)), (4, .int .i64 (k + 1))]
        ((-9223372036854775808 ≤ k + 1 ∧ k + 1 ≤ 9223372036854775807))
        (by as_aux_lemma => kernel_rfl) ⟨by omega, by omega⟩ fun s_ => ?_
      refine again2 (k + 1) _ _ ⟨((hMh4.ext_new (hE.trans hEg2) hng2 hE).trans hH), by omega, by omega, fun j h1 h2 => ?_⟩ (by omega)
      by_cases e5 : j = k
      · subst e5; exact ⟨hm, fun hh => absurd hh q7⟩
      · exact hK j h1 (by omega)
  · -- at 11111
    refine Run.adv 15 [.val (.slice A2 l.es.length c2), .dec false] (at_ Tryz.f14 [1,1,1,1,1]) [(2, .bool true)]
      (cellH h'' ⟨g1, 2, none⟩ = some (.slice A2 l.es.length c2) ∧ (decide (k < (l.es.length : Int))) = false)
      (by as_aux_lemma => kernel_rfl) ⟨(hBg1.at hE 2 rfl), (by first | assumption | exact decide_eq_false (by first | omega | assumption))⟩ fun s_ => ?_
    refine Run.ret [] (.bool true) (True) Tryz.func14 (by as_aux_lemma => kernel_rfl) (by as_aux_lemma => kernel_rfl) trivial ?_
    exact ⟨by rw [tv_yes]; exact ⟨by omega, by omega, hL, by omega, fun j h1 h2 => hK j h1 (by omega)⟩, E2⟩
end Go.Proofs.YtbajgbkkbabmlaaGreatDoor
