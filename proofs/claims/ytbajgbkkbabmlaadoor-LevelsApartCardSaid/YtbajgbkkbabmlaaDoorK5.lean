/- LevelsOf, LevelsShow, LevelsLast, LevelsApart, walked. -/
import Derived.Test.YtbajgbkkbabmlaaDoorProg
import Derived.Test.YtbajgbkkbabmlaaDoorK4
import Derived.Test.YtbajgbkkbabmlaaDoorK3
set_option linter.unusedVariables false
namespace Go.Proofs.YtbajgbkkbabmlaaDoor
open Go.Vc
theorem lx_5_111111101231020 : LexOk (opsAt (at_ Tryd.f5 [1,1,1,1,1,1,1,0,1,2,3,1,0,2,0])) := ⟨by kernel_rfl⟩
theorem lx_6_1111101231020 : LexOk (opsAt (at_ Tryd.f6 [1,1,1,1,1,0,1,2,3,1,0,2,0])) := ⟨by kernel_rfl⟩
theorem lx_6_11111101231021231021231020 : LexOk (opsAt (at_ Tryd.f6 [1,1,1,1,1,1,0,1,2,3,1,0,2,1,2,3,1,0,2,1,2,3,1,0,2,0])) := ⟨by kernel_rfl⟩
theorem lx_6_111111012310212310212310210 : LexOk (opsAt (at_ Tryd.f6 [1,1,1,1,1,1,0,1,2,3,1,0,2,1,2,3,1,0,2,1,2,3,1,0,2,1,0])) := ⟨by kernel_rfl⟩
theorem lx_8_11101231020 : LexOk (opsAt (at_ Tryd.f8 [1,1,1,0,1,2,3,1,0,2,0])) := ⟨by kernel_rfl⟩

theorem levs_bound {es : List Ed} {n m : Nat} (hn : n ≤ 140737488351232) : ∀ xs ∈ levs es n m, xs.length ≤ 140737488351232 := by
  intro xs h
  unfold levs at h
  obtain ⟨k, -, rfl⟩ := List.mem_map.1 h
  rw [lev_len]; exact hn
theorem levs_rd2 {es : List Ed} {n m k : Nat} {j : Int} (hj : j = (k : Int)) (h : k ≤ m) : rd2 (levs es n m) j = lev es n k := by
  subst hj
  exact levs_at h
theorem small33 {l : Lt} (h : Light33 l) (hm : May l) : l.n ≤ 16 := by
  rcases h.2.1 with e | e
  · exact e
  · have := hm.n2; omega
theorem LevelsOf_ct (A1 A2 : Option Addr) (c1 c2 : Nat) (l : Lt) (h : Heap) (hx : LtAt h l A1 c1 A2 c2) (hT : Tab h) :
    Ct Tryd.prog 5 #[.agg #[.int .i64 l.n, .slice A1 l.ls.length c1, .slice A2 l.es.length c2]] h (fun v h' => v = .bool true ∧ Ext h h') := by
  refine Ct.enter (args := [.agg #[.int .i64 l.n, .slice A1 l.ls.length c1, .slice A2 l.es.length c2]]) Tryd.func5 rfl Tryd.ntmps5 (by simp) fun w hw => ?_
  -- at 080
  refine Run.adv 2 [] (at_ Tryd.f5 [0,8,0]) [(0, .agg #[.int .i64 l.n, .slice A1 l.ls.length c1, .slice A2 l.es.length c2])]
    (True)
    (by as_aux_lemma => kernel_rfl) trivial fun s_ => ?_
  refine Run.new #[.int .i64 l.n, .slice A1 l.ls.length c1, .slice A2 l.es.length c2] 25 (fun g_ => .pointer (some ⟨g_, 0, none⟩)) (some 1) (at_ Tryd.f5 [0,8,1]) (by as_aux_lemma => kernel_rfl) fun g1 h1 hng1 hEg1 hBg1 => ?_
  -- at 10081
  refine Run.adv 6 [.val (.agg #[.int .i64 l.n, .slice A1 l.ls.length c1, .slice A2 l.es.length c2])] (at_ Tryd.f5 [1,0,0,8,1]) [(0, .agg #[.int .i64 l.n, .slice A1 l.ls.length c1, .slice A2 l.es.length c2]), (1, .pointer (some ⟨g1, 0, none⟩)), (2, .bool false), (9, .agg #[.int .i64 l.n, .slice A1 l.ls.length c1, .slice A2 l.es.length c2])]
    (cellsAt h1 ⟨g1, 0, none⟩ [.int .i64 l.n, .slice A1 l.ls.length c1, .slice A2 l.es.length c2] 0)
    (by as_aux_lemma => kernel_rfl) (hBg1.all (Ext.refl _)) fun s_ => ?_
  refine Run.call 24 #[.agg #[.int .i64 l.n, .slice A1 l.ls.length c1, .slice A2 l.es.length c2]] (some 10) (at_ Tryd.f5 [1,0,0,8,2]) (by as_aux_lemma => kernel_rfl) (Light33_ct A1 A2 c1 c2 l _ (hx.ext hEg1)) ?_
  rintro _ h2 ⟨rfl, hE2⟩
  have hE02 := hEg1.trans hE2
  by_cases hS : Light33 l
  rotate_left
  · rw [tv_no hS]
    -- at 1014080
    refine Run.adv 5 [.lit] (at_ Tryd.f5 [1,0,1,4,0,8,0]) [(1, .pointer (some ⟨g1, 0, none⟩))]
      (True)
      (by as_aux_lemma => kernel_rfl) trivial fun s_ => ?_
    refine Run.call 25 #[] (some 12) (at_ Tryd.f5 [1,0,1,4,0,8,1]) (by as_aux_lemma => kernel_rfl) (awake33_ct _ (hT.ext hE02)) ?_
    rintro _ h3 ⟨rfl, hE3⟩
    -- at 10141
    refine Run.adv 2 [] (at_ Tryd.f5 [1,0,1,4,1]) [(2, .bool true)]
      (True)
      (by as_aux_lemma => kernel_rfl) trivial fun s_ => ?_
    refine Run.ret [] (.bool true) (True) Tryd.func5 (by as_aux_lemma => kernel_rfl) (by as_aux_lemma => kernel_rfl) trivial ?_
    exact ⟨rfl, ((hEg1.trans hE2).trans hE3)⟩
  rw [tv_yes hS]
  have hl8 := hS.2.2.2
  -- at 11081
  refine Run.adv 7 [.lit, .val (.agg #[.int .i64 l.n, .slice A1 l.ls.length c1, .slice A2 l.es.length c2])] (at_ Tryd.f5 [1,1,0,8,1]) [(1, .pointer (some ⟨g1, 0, none⟩)), (14, .agg #[.int .i64 l.n, .slice A1 l.ls.length c1, .slice A2 l.es.length c2])]
    (cellsAt h2 ⟨g1, 0, none⟩ [.int .i64 l.n, .slice A1 l.ls.length c1, .slice A2 l.es.length c2] 0)
    (by as_aux_lemma => kernel_rfl) (hBg1.all hE2) fun s_ => ?_
  by_cases hm : May l
  · have hn16 := small33 hS hm
    have hn1 := hm.n1
    obtain ⟨n, hn⟩ := Int.eq_ofNat_of_zero_le (show 0 ≤ l.n by omega)
    refine Run.call 26 #[.agg #[.int .i64 l.n, .slice A1 l.ls.length c1, .slice A2 l.es.length c2]] (some 15) (at_ Tryd.f5 [1,1,0,8,2]) (by as_aux_lemma => kernel_rfl) (lofOk_ct A1 A2 c1 c2 l n _ (hx.ext hE02) hm hn (hT.ext hE02)) ?_
    rintro v h3 ⟨m, w3, og3, vs3, hS3, rfl, hO3, hN3, hE3⟩
    have hmn := hS3.lt (by omega)
    have hll := levs_len l.es n m
    obtain ⟨A3, c3, rfl, hr3⟩ := hO3.rows2 hN3 (by omega) (levs_bound (by omega))
    have hE03 := hE02.trans hE3
    -- at 111081
    refine Run.adv 9 [.val (.agg #[.int .i64 l.n, .slice A1 l.ls.length c1, .slice A2 l.es.length c2])] (at_ Tryd.f5 [1,1,1,0,8,1]) [(1, .pointer (some ⟨g1, 0, none⟩)), (3, .slice A3 ((levs l.es n m).length) c3), (4, .int .i64 0), (19, .agg #[.int .i64 l.n, .slice A1 l.ls.length c1, .slice A2 l.es.length c2])]
      (cellsAt h3 ⟨g1, 0, none⟩ [.int .i64 l.n, .slice A1 l.ls.length c1, .slice A2 l.es.length c2] 0)
      (by as_aux_lemma => kernel_rfl) (hBg1.all (hE2.trans hE3)) fun s_ => ?_
    refine Run.call 27 #[.agg #[.int .i64 l.n, .slice A1 l.ls.length c1, .slice A2 l.es.length c2]] (some 20) (at_ Tryd.f5 [1,1,1,0,8,2]) (by as_aux_lemma => kernel_rfl) (lastOk_ct A1 A2 c1 c2 l n _ (hx.ext hE03) hm hn (hT.ext hE03)) ?_
    rintro v h4 ⟨m4, w4, og4, hS4, rfl, hO4, hE4⟩
    obtain rfl := hS3.unique hS4
    have hvl := lev_len l.es n m
    obtain ⟨A4, c4, rfl, hr4⟩ := hO4.row1 (d := 0) (by omega)
    have hE04 := hE03.trans hE4
    -- at 11110081
    refine Run.adv 10 [.val (.agg #[.int .i64 l.n, .slice A1 l.ls.length c1, .slice A2 l.es.length c2])] (at_ Tryd.f5 [1,1,1,1,0,0,8,1]) [(1, .pointer (some ⟨g1, 0, none⟩)), (3, .slice A3 ((levs l.es n m).length) c3), (4, .int .i64 0), (5, .slice A4 ((lev l.es n m).length) c4), (6, .int .i64 0), (23, .agg #[.int .i64 l.n, .slice A1 l.ls.length c1, .slice A2 l.es.length c2])]
      (cellsAt h4 ⟨g1, 0, none⟩ [.int .i64 l.n, .slice A1 l.ls.length c1, .slice A2 l.es.length c2] 0)
      (by as_aux_lemma => kernel_rfl) (hBg1.all ((hE2.trans hE3).trans hE4)) fun s_ => ?_
    refine Run.call 13 #[.agg #[.int .i64 l.n, .slice A1 l.ls.length c1, .slice A2 l.es.length c2]] (some 24) (at_ Tryd.f5 [1,1,1,1,0,0,8,2]) (by as_aux_lemma => kernel_rfl) (May_ct A1 A2 c1 c2 l _ (hx.ext hE04)) ?_
    rintro _ h5 ⟨rfl, hE5⟩
    rw [mayB_yes hm]
    have hE05 := hE04.trans hE5
    -- at 11111081
    refine Run.adv 7 [.lit, .val (.agg #[.int .i64 l.n, .slice A1 l.ls.length c1, .slice A2 l.es.length c2])] (at_ Tryd.f5 [1,1,1,1,1,0,8,1]) [(1, .pointer (some ⟨g1, 0, none⟩)), (3, .slice A3 ((levs l.es n m).length) c3), (4, .int .i64 0), (5, .slice A4 ((lev l.es n m).length) c4), (6, .int .i64 0), (45, .agg #[.int .i64 l.n, .slice A1 l.ls.length c1, .slice A2 l.es.length c2])]
      (cellsAt h5 ⟨g1, 0, none⟩ [.int .i64 l.n, .slice A1 l.ls.length c1, .slice A2 l.es.length c2] 0)
      (by as_aux_lemma => kernel_rfl) (hBg1.all (((hE2.trans hE3).trans hE4).trans hE5)) fun s_ => ?_
    refine Run.call 28 #[.agg #[.int .i64 l.n, .slice A1 l.ls.length c1, .slice A2 l.es.length c2]] (some 46) (at_ Tryd.f5 [1,1,1,1,1,0,8,2]) (by as_aux_lemma => kernel_rfl) (lofRef_ct A1 A2 c1 c2 l n _ (hx.ext hE05) hm hn) ?_
    rintro v h6 ⟨m6, og6, vs6, hS6, hO6, hN6, hE6⟩
    obtain rfl := hS3.unique hS6
    obtain ⟨A7, c7, rfl, hr7⟩ := hO6.rows2 hN6 (by omega) (levs_bound (by omega))
    have hE36 := (hE4.trans hE5).trans hE6
    have hr3' := hr3.ext hE36
    have hr4' := hr4.ext (hE5.trans hE6)
    have hE06 := hE05.trans hE6
    -- at 1111111012
    refine Run.adv 27 [.lit, .lit, .lit, .lit, .lit, .lit, .lit, .dec false] (at_ Tryd.f5 [1,1,1,1,1,1,1,0,1,2]) [(3, .slice A3 ((levs l.es n m).length) c3), (5, .slice A4 ((lev l.es n m).length) c4), (6, .int .i64 0), (7, .slice A7 ((levs l.es n m).length) c7), (8, .int .i64 0)]
      ((((levs l.es n m).length : Int) != ((levs l.es n m).length : Int)) = false)
      (by as_aux_lemma => kernel_rfl) (bne_eq_false_iff_eq.2 (by first | omega | assumption)) fun s_ => ?_
    obtain ⟨b3, o3, hA3, hc3, hAe3, hp3⟩ := hr3'.open_
    obtain ⟨b7, o7, hA7, hc7, hAe7, hp7⟩ := hr7.open_
    obtain rfl := hAe3 (by omega)
    obtain rfl := hAe7 (by omega)
    refine Run.loop (at_ Tryd.f5 [1,1,1,1,1,1,1,0,1,2,3]) (at_ Tryd.f5 [1,1,1,1,1,1,1,0,1,2,7]) (fun i : Nat => [(3, .slice (some ⟨b3, o3, none⟩) ((levs l.es n m).length) c3), (5, .slice A4 ((lev l.es n m).length) c4), (6, .int .i64 0), (7, .slice (some ⟨b7, o7, none⟩) ((levs l.es n m).length) c7), (8, .int .i64 (i : Int))])
      (fun i h' => h' = h6 ∧ i ≤ (levs l.es n m).length) (fun i => (levs l.es n m).length - i) 0 (by as_aux_lemma => kernel_rfl) rfl ?_ ?_
    · exact ⟨rfl, Nat.zero_le _⟩
    rintro i s' h' ⟨rfl, hi⟩ again
    by_cases hlt : i < (levs l.es n m).length
    · obtain ⟨q1, q2⟩ := hp3 _ (Ext.refl _) i (by omega) (by omega)
      obtain ⟨q3, q4⟩ := hp7 _ (Ext.refl _) i (by omega) (by omega)
      -- at 11111110127
      refine Run.adv 22 [.dec true, .draw, .val (.slice (hA3 (i : Int)) ((rd2 (levs l.es n m) (i : Int)).length) (hc3 (i : Int))), .val (.slice (hA7 (i : Int)) ((rd2 (levs l.es n m) (i : Int)).length) (hc7 (i : Int))), .val (.bool true), .lit] (at_ Tryd.f5 [1,1,1,1,1,1,1,0,1,2,7]) [(3, .slice (some ⟨b3, o3, none⟩) ((levs l.es n m).length) c3), (5, .slice A4 ((lev l.es n m).length) c4), (6, .int .i64 0), (7, .slice (some ⟨b7, o7, none⟩) ((levs l.es n m).length) c7), (8, .int .i64 ((i + 1 : Nat) : Int))]
        ((decide ((i : Int) < ((levs l.es n m).length : Int))) = true ∧ LexOk (opsAt (at_ Tryd.f5 [1,1,1,1,1,1,1,0,1,2,3,1,0,2,0])) ∧ (0 ≤ (i : Int) ∧ (i : Int) < ((levs l.es n m).length : Int)) ∧ cellH h' ⟨b3, o3 + (i : Int).toNat, none⟩ = some (.slice (hA3 (i : Int)) ((rd2 (levs l.es n m) (i : Int)).length) (hc3 (i : Int))) ∧ (0 ≤ (i : Int) ∧ (i : Int) < ((levs l.es n m).length : Int)) ∧ cellH h' ⟨b7, o7 + (i : Int).toNat, none⟩ = some (.slice (hA7 (i : Int)) ((rd2 (levs l.es n m) (i : Int)).length) (hc7 (i : Int))) ∧ (Ct Tryd.prog 20 #[.slice (hA3 (i : Int)) ((rd2 (levs l.es n m) (i : Int)).length) (hc3 (i : Int)), .slice (hA7 (i : Int)) ((rd2 (levs l.es n m) (i : Int)).length) (hc7 (i : Int))] h' (fun v_ h_ => v_ = .bool true ∧ h_ = h')) ∧ (-9223372036854775808 ≤ (i : Int) + 1 ∧ (i : Int) + 1 ≤ 9223372036854775807))
        (by as_aux_lemma => kernel_rfl) ⟨(by first | assumption | exact decide_eq_true (by first | omega | assumption)), lx_5_111111101231020, ⟨by omega, by omega⟩, (q1), ⟨by omega, by omega⟩, (q3), (Same_yes _ _ _ _ _ _ _ q2 q4 rfl), ⟨by omega, by omega⟩⟩ fun s_ => ?_
      exact again (i + 1) _ _ ⟨rfl, by omega⟩ (by omega)
    · obtain ⟨q3, q4⟩ := hp7 _ (Ext.refl _) (((levs l.es n m).length : Int) - 1) (by omega) (by omega)
      -- at 11111111089
      refine Run.adv 21 [.dec false, .val (.slice (hA7 (((levs l.es n m).length : Int) - 1)) ((rd2 (levs l.es n m) (((levs l.es n m).length : Int) - 1)).length) (hc7 (((levs l.es n m).length : Int) - 1))), .val (.bool true)] (at_ Tryd.f5 [1,1,1,1,1,1,1,1,0,8,9]) [(84, .bool true)]
        ((decide ((i : Int) < ((levs l.es n m).length : Int))) = false ∧ (-9223372036854775808 ≤ ((levs l.es n m).length : Int) - 1 ∧ ((levs l.es n m).length : Int) - 1 ≤ 9223372036854775807) ∧ (0 ≤ ((levs l.es n m).length : Int) - 1 ∧ ((levs l.es n m).length : Int) - 1 < ((levs l.es n m).length : Int)) ∧ cellH h' ⟨b7, o7 + (((levs l.es n m).length : Int) - 1).toNat, none⟩ = some (.slice (hA7 (((levs l.es n m).length : Int) - 1)) ((rd2 (levs l.es n m) (((levs l.es n m).length : Int) - 1)).length) (hc7 (((levs l.es n m).length : Int) - 1))) ∧ (Ct Tryd.prog 20 #[.slice A4 ((lev l.es n m).length) c4, .slice (hA7 (((levs l.es n m).length : Int) - 1)) ((rd2 (levs l.es n m) (((levs l.es n m).length : Int) - 1)).length) (hc7 (((levs l.es n m).length : Int) - 1))] h' (fun v_ h_ => v_ = .bool true ∧ h_ = h')))
        (by as_aux_lemma => kernel_rfl) ⟨(by first | assumption | exact decide_eq_false (by first | omega | assumption)), ⟨by omega, by omega⟩, ⟨by omega, by omega⟩, (q3), (Same_yes _ _ _ _ _ _ _ hr4' q4 (levs_rd2 (by omega) (Nat.le_refl _)).symm)⟩ fun s_ => ?_
      refine Run.call 25 #[] (some 85) (at_ Tryd.f5 [1,1,1,1,1,1,1,1,0,8,10]) (by as_aux_lemma => kernel_rfl) (awake33_ct _ (hT.ext hE06)) ?_
      rintro _ h8 ⟨rfl, hE8⟩
      -- at 111111111
      refine Run.adv 3 [] (at_ Tryd.f5 [1,1,1,1,1,1,1,1,1]) [(2, .bool true)]
        (True)
        (by as_aux_lemma => kernel_rfl) trivial fun s_ => ?_
      refine Run.ret [] (.bool true) (True) Tryd.func5 (by as_aux_lemma => kernel_rfl) (by as_aux_lemma => kernel_rfl) trivial ?_
      exact ⟨rfl, hE06.trans hE8⟩
  · refine Run.call 26 #[.agg #[.int .i64 l.n, .slice A1 l.ls.length c1, .slice A2 l.es.length c2]] (some 15) (at_ Tryd.f5 [1,1,0,8,2]) (by as_aux_lemma => kernel_rfl) (lofNo_ct A1 A2 c1 c2 l _ (hx.ext hE02) (by omega) hm) ?_
    rintro _ h3 ⟨rfl, hE3⟩
    have hE03 := hE02.trans hE3
    -- at 111081
    refine Run.adv 9 [.val (.agg #[.int .i64 l.n, .slice A1 l.ls.length c1, .slice A2 l.es.length c2])] (at_ Tryd.f5 [1,1,1,0,8,1]) [(1, .pointer (some ⟨g1, 0, none⟩)), (3, .slice none 0 0), (4, .int .i64 1), (19, .agg #[.int .i64 l.n, .slice A1 l.ls.length c1, .slice A2 l.es.length c2])]
      (cellsAt h3 ⟨g1, 0, none⟩ [.int .i64 l.n, .slice A1 l.ls.length c1, .slice A2 l.es.length c2] 0)
      (by as_aux_lemma => kernel_rfl) (hBg1.all (hE2.trans hE3)) fun s_ => ?_
    refine Run.call 27 #[.agg #[.int .i64 l.n, .slice A1 l.ls.length c1, .slice A2 l.es.length c2]] (some 20) (at_ Tryd.f5 [1,1,1,0,8,2]) (by as_aux_lemma => kernel_rfl) (lastNo_ct A1 A2 c1 c2 l _ (hx.ext hE03) (by omega) hm) ?_
    rintro _ h4 ⟨rfl, hE4⟩
    have hE04 := hE03.trans hE4
    -- at 11110081
    refine Run.adv 10 [.val (.agg #[.int .i64 l.n, .slice A1 l.ls.length c1, .slice A2 l.es.length c2])] (at_ Tryd.f5 [1,1,1,1,0,0,8,1]) [(1, .pointer (some ⟨g1, 0, none⟩)), (3, .slice none 0 0), (4, .int .i64 1), (5, .slice none 0 0), (6, .int .i64 1), (23, .agg #[.int .i64 l.n, .slice A1 l.ls.length c1, .slice A2 l.es.length c2])]
      (cellsAt h4 ⟨g1, 0, none⟩ [.int .i64 l.n, .slice A1 l.ls.length c1, .slice A2 l.es.length c2] 0)
      (by as_aux_lemma => kernel_rfl) (hBg1.all ((hE2.trans hE3).trans hE4)) fun s_ => ?_
    refine Run.call 13 #[.agg #[.int .i64 l.n, .slice A1 l.ls.length c1, .slice A2 l.es.length c2]] (some 24) (at_ Tryd.f5 [1,1,1,1,0,0,8,2]) (by as_aux_lemma => kernel_rfl) (May_ct A1 A2 c1 c2 l _ (hx.ext hE04)) ?_
    rintro _ h5 ⟨rfl, hE5⟩
    rw [mayB_no hm]
    have hE05 := hE04.trans hE5
    -- at 11110140817
    refine Run.adv 22 [.lit, .lit, .lit, .lit, .lit, .lit, .lit, .lit] (at_ Tryd.f5 [1,1,1,1,0,1,4,0,8,17]) [(42, .bool true)]
      (True)
      (by as_aux_lemma => kernel_rfl) trivial fun s_ => ?_
    refine Run.call 25 #[] (some 43) (at_ Tryd.f5 [1,1,1,1,0,1,4,0,8,18]) (by as_aux_lemma => kernel_rfl) (awake33_ct _ (hT.ext hE05)) ?_
    rintro _ h8 ⟨rfl, hE8⟩
    -- at 11110141
    refine Run.adv 3 [] (at_ Tryd.f5 [1,1,1,1,0,1,4,1]) [(2, .bool true)]
      (True)
      (by as_aux_lemma => kernel_rfl) trivial fun s_ => ?_
    refine Run.ret [] (.bool true) (True) Tryd.func5 (by as_aux_lemma => kernel_rfl) (by as_aux_lemma => kernel_rfl) trivial ?_
    exact ⟨rfl, hE05.trans hE8⟩
set_option maxHeartbeats 4000000 in
theorem LevelsShow_ct (A1 A2 : Option Addr) (c1 c2 : Nat) (l : Lt) (h : Heap) (hx : LtAt h l A1 c1 A2 c2) (hT : Tab h) :
    Ct Tryd.prog 6 #[.agg #[.int .i64 l.n, .slice A1 l.ls.length c1, .slice A2 l.es.length c2]] h (fun v h' => v = .bool true ∧ Ext h h') := by
  refine Ct.enter (args := [.agg #[.int .i64 l.n, .slice A1 l.ls.length c1, .slice A2 l.es.length c2]]) Tryd.func6 rfl Tryd.ntmps6 (by simp) fun w hw => ?_
  -- at 080
  refine Run.adv 2 [] (at_ Tryd.f6 [0,8,0]) [(0, .agg #[.int .i64 l.n, .slice A1 l.ls.length c1, .slice A2 l.es.length c2])]
    (True)
    (by as_aux_lemma => kernel_rfl) trivial fun s_ => ?_
  refine Run.new #[.int .i64 l.n, .slice A1 l.ls.length c1, .slice A2 l.es.length c2] 25 (fun g_ => .pointer (some ⟨g_, 0, none⟩)) (some 1) (at_ Tryd.f6 [0,8,1]) (by as_aux_lemma => kernel_rfl) fun g1 h1 hng1 hEg1 hBg1 => ?_
  -- at 10081
  refine Run.adv 6 [.val (.agg #[.int .i64 l.n, .slice A1 l.ls.length c1, .slice A2 l.es.length c2])] (at_ Tryd.f6 [1,0,0,8,1]) [(0, .agg #[.int .i64 l.n, .slice A1 l.ls.length c1, .slice A2 l.es.length c2]), (1, .pointer (some ⟨g1, 0, none⟩)), (2, .bool false), (10, .agg #[.int .i64 l.n, .slice A1 l.ls.length c1, .slice A2 l.es.length c2])]
    (cellsAt h1 ⟨g1, 0, none⟩ [.int .i64 l.n, .slice A1 l.ls.length c1, .slice A2 l.es.length c2] 0)
    (by as_aux_lemma => kernel_rfl) (hBg1.all (Ext.refl _)) fun s_ => ?_
  refine Run.call 24 #[.agg #[.int .i64 l.n, .slice A1 l.ls.length c1, .slice A2 l.es.length c2]] (some 11) (at_ Tryd.f6 [1,0,0,8,2]) (by as_aux_lemma => kernel_rfl) (Light33_ct A1 A2 c1 c2 l _ (hx.ext hEg1)) ?_
  rintro _ h2 ⟨rfl, hE2⟩
  have hE02 := hEg1.trans hE2
  by_cases hS : Light33 l
  rotate_left
  · rw [tv_no hS]
    -- at 1014080
    refine Run.adv 5 [.lit] (at_ Tryd.f6 [1,0,1,4,0,8,0]) [(1, .pointer (some ⟨g1, 0, none⟩))]
      (True)
      (by as_aux_lemma => kernel_rfl) trivial fun s_ => ?_
    refine Run.call 25 #[] (some 13) (at_ Tryd.f6 [1,0,1,4,0,8,1]) (by as_aux_lemma => kernel_rfl) (awake33_ct _ (hT.ext hE02)) ?_
    rintro _ h3 ⟨rfl, hE3⟩
    -- at 10141
    refine Run.adv 2 [] (at_ Tryd.f6 [1,0,1,4,1]) [(2, .bool true)]
      (True)
      (by as_aux_lemma => kernel_rfl) trivial fun s_ => ?_
    refine Run.ret [] (.bool true) (True) Tryd.func6 (by as_aux_lemma => kernel_rfl) (by as_aux_lemma => kernel_rfl) trivial ?_
    exact ⟨rfl, ((hEg1.trans hE2).trans hE3)⟩
  rw [tv_yes hS]
  have hl8 := hS.2.2.2
  -- at 11081
  refine Run.adv 7 [.lit, .val (.agg #[.int .i64 l.n, .slice A1 l.ls.length c1, .slice A2 l.es.length c2])] (at_ Tryd.f6 [1,1,0,8,1]) [(1, .pointer (some ⟨g1, 0, none⟩)), (15, .agg #[.int .i64 l.n, .slice A1 l.ls.length c1, .slice A2 l.es.length c2])]
    (cellsAt h2 ⟨g1, 0, none⟩ [.int .i64 l.n, .slice A1 l.ls.length c1, .slice A2 l.es.length c2] 0)
    (by as_aux_lemma => kernel_rfl) (hBg1.all hE2) fun s_ => ?_
  by_cases hm : May l
  rotate_left
  · refine Run.call 26 #[.agg #[.int .i64 l.n, .slice A1 l.ls.length c1, .slice A2 l.es.length c2]] (some 16) (at_ Tryd.f6 [1,1,0,8,2]) (by as_aux_lemma => kernel_rfl) (lofNo_ct A1 A2 c1 c2 l _ (hx.ext hE02) (by omega) hm) ?_
    rintro _ h3 ⟨rfl, hE3⟩
    -- at 111014080
    refine Run.adv 15 [.lit] (at_ Tryd.f6 [1,1,1,0,1,4,0,8,0]) [(1, .pointer (some ⟨g1, 0, none⟩))]
      (True)
      (by as_aux_lemma => kernel_rfl) trivial fun s_ => ?_
    refine Run.call 25 #[] (some 21) (at_ Tryd.f6 [1,1,1,0,1,4,0,8,1]) (by as_aux_lemma => kernel_rfl) (awake33_ct _ (hT.ext (hE02.trans hE3))) ?_
    rintro _ h8 ⟨rfl, hE8⟩
    -- at 1110141
    refine Run.adv 2 [] (at_ Tryd.f6 [1,1,1,0,1,4,1]) [(2, .bool true)]
      (True)
      (by as_aux_lemma => kernel_rfl) trivial fun s_ => ?_
    refine Run.ret [] (.bool true) (True) Tryd.func6 (by as_aux_lemma => kernel_rfl) (by as_aux_lemma => kernel_rfl) trivial ?_
    exact ⟨rfl, (hE02.trans hE3).trans hE8⟩
  have hn16 := small33 hS hm
  have hn1 := hm.n1
  obtain ⟨n, hn⟩ := Int.eq_ofNat_of_zero_le (show 0 ≤ l.n by omega)
  refine Run.call 26 #[.agg #[.int .i64 l.n, .slice A1 l.ls.length c1, .slice A2 l.es.length c2]] (some 16) (at_ Tryd.f6 [1,1,0,8,2]) (by as_aux_lemma => kernel_rfl) (lofOk_ct A1 A2 c1 c2 l n _ (hx.ext hE02) hm hn (hT.ext hE02)) ?_
  rintro v h3 ⟨m, w3, og3, vs3, hS3, rfl, hO3, hN3, hE3⟩
  have hmn := hS3.lt (by omega)
  have hll := levs_len l.es n m
  obtain ⟨A3, c3, rfl, hr3⟩ := hO3.rows2 hN3 (by omega) (levs_bound (by omega))
  have hE03 := hE02.trans hE3
  have hE13 := hE2.trans hE3
  obtain ⟨b3, o3, hA3, hc3, hAe3, hp3⟩ := hr3.open_
  obtain rfl := hAe3 (by omega)
  have hrow : ∀ k : Nat, k ≤ m → rd2 (levs l.es n m) (k : Int) = lev l.es n k := fun k hk => levs_rd2 rfl hk
  have hrl : ∀ k : Nat, k ≤ m → (rd2 (levs l.es n m) (k : Int)).length = n := fun k hk => by rw [hrow k hk, lev_len]
  -- at 11111012
  refine Run.adv 36 [.lit, .dec false, .lit, .lit, .lit, .val (.int .i64 l.n), .lit, .dec false] (at_ Tryd.f6 [1,1,1,1,1,0,1,2]) [(1, .pointer (some ⟨g1, 0, none⟩)), (3, .slice (some ⟨b3, o3, none⟩) ((levs l.es n m).length) c3), (5, .int .i64 0)]
    ((decide (((levs l.es n m).length : Int) < 1)) = false ∧ cellH h3 ⟨g1, 0, none⟩ = some (.int .i64 l.n) ∧ (decide (((levs l.es n m).length : Int) > l.n)) = false)
    (by as_aux_lemma => kernel_rfl) ⟨(by first | assumption | exact decide_eq_false (by first | omega | assumption)), (hBg1.at (hE2.trans hE3) 0 rfl), (by first | assumption | exact decide_eq_false (by first | omega | assumption))⟩ fun s_ => ?_
  refine Run.loop (at_ Tryd.f6 [1,1,1,1,1,0,1,2,3]) (at_ Tryd.f6 [1,1,1,1,1,0,1,2,7]) (fun i : Nat => [(1, .pointer (some ⟨g1, 0, none⟩)), (3, .slice (some ⟨b3, o3, none⟩) ((levs l.es n m).length) c3), (5, .int .i64 (i : Int))])
    (fun i h' => h' = h3 ∧ i ≤ (levs l.es n m).length) (fun i => (levs l.es n m).length - i) 0 (by as_aux_lemma => kernel_rfl) rfl ?_ ?_
  · exact ⟨rfl, Nat.zero_le _⟩
  rintro i s' h' ⟨rfl, hi⟩ again
  by_cases hlt : i < (levs l.es n m).length
  · obtain ⟨q1, q2⟩ := hp3 _ (Ext.refl _) i (by omega) (by omega)
    have hq := hrl i (by omega)
    -- at 111110127
    refine Run.adv 22 [.dec true, .draw, .val (.slice (hA3 (i : Int)) ((rd2 (levs l.es n m) (i : Int)).length) (hc3 (i : Int))), .val (.int .i64 l.n), .dec false] (at_ Tryd.f6 [1,1,1,1,1,0,1,2,7]) [(1, .pointer (some ⟨g1, 0, none⟩)), (3, .slice (some ⟨b3, o3, none⟩) ((levs l.es n m).length) c3), (5, .int .i64 ((i + 1 : Nat) : Int))]
      ((decide ((i : Int) < ((levs l.es n m).length : Int))) = true ∧ LexOk (opsAt (at_ Tryd.f6 [1,1,1,1,1,0,1,2,3,1,0,2,0])) ∧ (0 ≤ (i : Int) ∧ (i : Int) < ((levs l.es n m).length : Int)) ∧ cellH h' ⟨b3, o3 + (i : Int).toNat, none⟩ = some (.slice (hA3 (i : Int)) ((rd2 (levs l.es n m) (i : Int)).length) (hc3 (i : Int))) ∧ cellH h' ⟨g1, 0, none⟩ = some (.int .i64 l.n) ∧ (((rd2 (levs l.es n m) (i : Int)).length : Int) != l.n) = false ∧ (-9223372036854775808 ≤ (i : Int) + 1 ∧ (i : Int) + 1 ≤ 9223372036854775807))
      (by as_aux_lemma => kernel_rfl) ⟨(by first | assumption | exact decide_eq_true (by first | omega | assumption)), lx_6_1111101231020, ⟨by omega, by omega⟩, (q1), (hBg1.at hE13 0 rfl), (bne_eq_false_iff_eq.2 (by first | omega | assumption)), ⟨by omega, by omega⟩⟩ fun s_ => ?_
    exact again (i + 1) _ _ ⟨rfl, by omega⟩ (by omega)
  -- at 111111012
  refine Run.adv 16 [.dec false] (at_ Tryd.f6 [1,1,1,1,1,1,0,1,2]) [(1, .pointer (some ⟨g1, 0, none⟩)), (3, .slice (some ⟨b3, o3, none⟩) ((levs l.es n m).length) c3), (6, .int .i64 1)]
    ((decide ((i : Int) < ((levs l.es n m).length : Int))) = false)
    (by as_aux_lemma => kernel_rfl) (by first | assumption | exact decide_eq_false (by first | omega | assumption)) fun s_ => ?_
  refine Run.loop (at_ Tryd.f6 [1,1,1,1,1,1,0,1,2,3]) (at_ Tryd.f6 [1,1,1,1,1,1,0,1,2,7]) (fun k : Nat => [(1, .pointer (some ⟨g1, 0, none⟩)), (3, .slice (some ⟨b3, o3, none⟩) ((levs l.es n m).length) c3), (6, .int .i64 (k : Int))])
    (fun k h4 => 1 ≤ k ∧ k ≤ (levs l.es n m).length ∧ Ext h' h4) (fun k => (levs l.es n m).length - k) 1 (by as_aux_lemma => kernel_rfl) rfl ?_ ?_
  · exact ⟨Nat.le_refl _, by omega, Ext.refl _⟩
  rintro k s_ h4 ⟨hk1, hk2, hE4⟩ again
  by_cases hlt : k < (levs l.es n m).length
  · have hkk : ((k : Int) - 1) = ((k - 1 : Nat) : Int) := by omega
    obtain ⟨q1, q2⟩ := hp3 _ (Ext.refl _) ((k : Int) - 1) (by omega) (by omega)
    obtain ⟨p, hp⟩ : ∃ p, p = lev l.es n (k - 1) := ⟨_, rfl⟩
    obtain ⟨q, hq⟩ : ∃ q, q = lev l.es n k := ⟨_, rfl⟩
    have hpe : rd2 (levs l.es n m) ((k : Int) - 1) = p := by rw [hkk, hrow (k - 1) (by omega), hp]
    have hqe : rd2 (levs l.es n m) (k : Int) = q := by rw [hrow k (by omega), hq]
    have hpn : p.length = n := by rw [hp, lev_len]
    have hqn : q.length = n := by rw [hq, lev_len]
    obtain ⟨z1, z2⟩ := hp3 _ (Ext.refl _) k (by omega) (by omega)
    have P1 : ∀ H, Ext h' H → cellH H ⟨b3, o3 + ((k : Int) - 1).toNat, none⟩ = some (.slice (hA3 ((k : Int) - 1)) p.length (hc3 ((k : Int) - 1))) := fun H e => by rw [← hpe]; exact (hp3 H e ((k : Int) - 1) (by omega) (by omega)).1
    have Z1 : ∀ H, Ext h' H → cellH H ⟨b3, o3 + (k : Int).toNat, none⟩ = some (.slice (hA3 (k : Int)) q.length (hc3 (k : Int))) := fun H e => by rw [← hqe]; exact (hp3 H e (k : Int) (by omega) (by omega)).1
    rw [hpe] at q2
    rw [hqe] at z2
    generalize hA3 ((k : Int) - 1) = AP at q2 P1
    generalize hA3 (k : Int) = AQ at z2 Z1
    generalize hc3 ((k : Int) - 1) = cP at q2 P1
    generalize hc3 (k : Int) = cQ at z2 Z1
    obtain ⟨bP, oP, rfl, hP⟩ := q2.open_ (by omega)
    obtain ⟨bQ, oQ, rfl, hQ⟩ := z2.open_ (by omega)
    have hto : ∀ i j : Nat, i < n → j < n → (rd q i = rd q j ↔ rd p i = rd p j ∧ Matched l.es p i j ∧ Matched l.es p j i) := fun i j hi hj => by
      rw [hp, hq]
      have := lev_together l.es n (k - 1) hi hj
      rwa [show k - 1 + 1 = k by omega] at this
    -- at 111111012310212
    refine Run.adv 17 [.dec true] (at_ Tryd.f6 [1,1,1,1,1,1,0,1,2,3,1,0,2,1,2]) [(1, .pointer (some ⟨g1, 0, none⟩)), (3, .slice (some ⟨b3, o3, none⟩) ((levs l.es n m).length) c3), (6, .int .i64 (k : Int)), (7, .int .i64 0)]
      ((decide ((k : Int) < ((levs l.es n m).length : Int))) = true)
      (by as_aux_lemma => kernel_rfl) (by first | assumption | exact decide_eq_true (by first | omega | assumption)) fun s_ => ?_
    refine Run.loop (at_ Tryd.f6 [1,1,1,1,1,1,0,1,2,3,1,0,2,1,2,3]) (at_ Tryd.f6 [1,1,1,1,1,1,0,1,2,3,1,0,2,1,2,7]) (fun s : Nat => [(1, .pointer (some ⟨g1, 0, none⟩)), (3, .slice (some ⟨b3, o3, none⟩) ((levs l.es n m).length) c3), (6, .int .i64 (k : Int)), (7, .int .i64 (s : Int))])
      (fun s h5 => s ≤ n ∧ Ext h4 h5) (fun s => n - s) 0 (by as_aux_lemma => kernel_rfl) rfl ?_ ?_
    · exact ⟨Nat.zero_le _, Ext.refl _⟩
    rintro s s_ h5 ⟨hs, hE5⟩ again2
    have hE15 := (hE13.trans hE4).trans hE5
    by_cases hlt2 : (s : Int) < l.n
    · -- at 111111012310212310212
      refine Run.adv 17 [.val (.int .i64 l.n), .dec true] (at_ Tryd.f6 [1,1,1,1,1,1,0,1,2,3,1,0,2,1,2,3,1,0,2,1,2]) [(1, .pointer (some ⟨g1, 0, none⟩)), (3, .slice (some ⟨b3, o3, none⟩) ((levs l.es n m).length) c3), (6, .int .i64 (k : Int)), (7, .int .i64 (s : Int)), (8, .int .i64 0)]
        (cellH h5 ⟨g1, 0, none⟩ = some (.int .i64 l.n) ∧ (decide ((s : Int) < l.n)) = true)
        (by as_aux_lemma => kernel_rfl) ⟨(hBg1.at hE15 0 rfl), (by first | assumption | exact decide_eq_true (by first | omega | assumption))⟩ fun s_ => ?_
      refine Run.loop (at_ Tryd.f6 [1,1,1,1,1,1,0,1,2,3,1,0,2,1,2,3,1,0,2,1,2,3]) (at_ Tryd.f6 [1,1,1,1,1,1,0,1,2,3,1,0,2,1,2,3,1,0,2,1,2,7]) (fun t : Nat => [(1, .pointer (some ⟨g1, 0, none⟩)), (3, .slice (some ⟨b3, o3, none⟩) ((levs l.es n m).length) c3), (6, .int .i64 (k : Int)), (7, .int .i64 (s : Int)), (8, .int .i64 (t : Int))])
        (fun t h6 => t ≤ s ∧ Ext h5 h6) (fun t => s - t) 0 (by as_aux_lemma => kernel_rfl) rfl ?_ ?_
      · exact ⟨Nat.zero_le _, Ext.refl _⟩
      rintro t s_ h6 ⟨ht, hE6⟩ again3
      have hE36 := (hE4.trans hE5).trans hE6
      have hE16 := hE13.trans hE36
      have hE06 := hE03.trans hE36
      by_cases hlt3 : t < s
      · have hT' := hto s t (by omega) (by omega)
        -- at 11111101231021231021231020
        refine Run.adv 12 [.dec true] (at_ Tryd.f6 [1,1,1,1,1,1,0,1,2,3,1,0,2,1,2,3,1,0,2,1,2,3,1,0,2,0]) [(1, .pointer (some ⟨g1, 0, none⟩)), (3, .slice (some ⟨b3, o3, none⟩) ((levs l.es n m).length) c3), (6, .int .i64 (k : Int)), (7, .int .i64 (s : Int)), (8, .int .i64 (t : Int))]
          ((decide ((t : Int) < (s : Int))) = true)
          (by as_aux_lemma => kernel_rfl) (by first | assumption | exact decide_eq_true (by first | omega | assumption)) fun s_ => ?_
        by_cases e1 : rd p s = rd p t
        · by_cases e2 : Matched l.es p s t
          · by_cases e3 : Matched l.es p t s
            · have hqq := hT'.2 ⟨e1, e2, e3⟩
              refine Run.drawE [.val (.slice (some ⟨bP, oP, none⟩) p.length cP), .val (.int .i64 (rd p (s : Int))), .val (.slice (some ⟨bP, oP, none⟩) p.length cP), .val (.int .i64 (rd p (t : Int))), .dec true, .val (.agg #[.int .i64 l.n, .slice A1 l.ls.length c1, .slice A2 l.es.length c2]), .lit, .lit, .lit, .lit, .lit, .val (.slice (some ⟨bP, oP, none⟩) p.length cP), .lit, .lit, .lit, .val (.bool true), .lit, .val (.agg #[.int .i64 l.n, .slice A1 l.ls.length c1, .slice A2 l.es.length c2]), .lit, .lit, .lit, .lit, .lit, .val (.slice (some ⟨bP, oP, none⟩) p.length cP), .lit, .lit, .lit, .val (.bool true)] (at_ Tryd.f6 [1,1,1,1,1,1,0,1,2,3,1,0,2,1,2,3,1,0,2,1,2,3,1,0,2,1]) [(1, .pointer (some ⟨g1, 0, none⟩)), (3, .slice (some ⟨b3, o3, none⟩) ((levs l.es n m).length) c3), (6, .int .i64 (k : Int)), (7, .int .i64 (s : Int)), (8, .int .i64 (t : Int)), (9, .bool true)]
                (fun H => LexOk (opsAt (at_ Tryd.f6 [1,1,1,1,1,1,0,1,2,3,1,0,2,1,2,3,1,0,2,1,2,3,1,0,2,0])) ∧ (-9223372036854775808 ≤ (k : Int) - 1 ∧ (k : Int) - 1 ≤ 9223372036854775807) ∧ (0 ≤ (k : Int) - 1 ∧ (k : Int) - 1 < ((levs l.es n m).length : Int)) ∧ cellH H ⟨b3, o3 + ((k : Int) - 1).toNat, none⟩ = some (.slice (some ⟨bP, oP, none⟩) p.length cP) ∧ (0 ≤ (s : Int) ∧ (s : Int) < (p.length : Int)) ∧ cellH H ⟨bP, oP + (s : Int).toNat, none⟩ = some (.int .i64 (rd p (s : Int))) ∧ (-9223372036854775808 ≤ (k : Int) - 1 ∧ (k : Int) - 1 ≤ 9223372036854775807) ∧ (0 ≤ (k : Int) - 1 ∧ (k : Int) - 1 < ((levs l.es n m).length : Int)) ∧ cellH H ⟨b3, o3 + ((k : Int) - 1).toNat, none⟩ = some (.slice (some ⟨bP, oP, none⟩) p.length cP) ∧ (0 ≤ (t : Int) ∧ (t : Int) < (p.length : Int)) ∧ cellH H ⟨bP, oP + (t : Int).toNat, none⟩ = some (.int .i64 (rd p (t : Int))) ∧ ((rd p (s : Int)) == (rd p (t : Int))) = true ∧ cellsAt H ⟨g1, 0, none⟩ [.int .i64 l.n, .slice A1 l.ls.length c1, .slice A2 l.es.length c2] 0 ∧ (-9223372036854775808 ≤ (k : Int) - 1 ∧ (k : Int) - 1 ≤ 9223372036854775807) ∧ (0 ≤ (k : Int) - 1 ∧ (k : Int) - 1 < ((levs l.es n m).length : Int)) ∧ cellH H ⟨b3, o3 + ((k : Int) - 1).toNat, none⟩ = some (.slice (some ⟨bP, oP, none⟩) p.length cP) ∧ (Ct Tryd.prog 29 #[.agg #[.int .i64 l.n, .slice A1 l.ls.length c1, .slice A2 l.es.length c2], .slice (some ⟨bP, oP, none⟩) p.length cP, .int .i64 (s : Int), .int .i64 (t : Int)] H (fun v_ h_ => v_ = .bool true ∧ Ext H h_)) ∧ cellsAt H ⟨g1, 0, none⟩ [.int .i64 l.n, .slice A1 l.ls.length c1, .slice A2 l.es.length c2] 0 ∧ (-9223372036854775808 ≤ (k : Int) - 1 ∧ (k : Int) - 1 ≤ 9223372036854775807) ∧ (0 ≤ (k : Int) - 1 ∧ (k : Int) - 1 < ((levs l.es n m).length : Int)) ∧ cellH H ⟨b3, o3 + ((k : Int) - 1).toNat, none⟩ = some (.slice (some ⟨bP, oP, none⟩) p.length cP) ∧ (Ct Tryd.prog 29 #[.agg #[.int .i64 l.n, .slice A1 l.ls.length c1, .slice A2 l.es.length c2], .slice (some ⟨bP, oP, none⟩) p.length cP, .int .i64 (t : Int), .int .i64 (s : Int)] H (fun v_ h_ => v_ = .bool true ∧ Ext H h_)))
                (by as_aux_lemma => kernel_rfl) (fun H hH => ⟨lx_6_11111101231021231021231020, ⟨by omega, by omega⟩, ⟨by omega, by omega⟩, (P1 _ (hE36.trans hH)), ⟨by omega, by omega⟩, (hP _ (hE36.trans hH) (s : Int) (by omega) (by omega)), ⟨by omega, by omega⟩, ⟨by omega, by omega⟩, (P1 _ (hE36.trans hH)), ⟨by omega, by omega⟩, (hP _ (hE36.trans hH) (t : Int) (by omega) (by omega)), (beq_iff_eq.2 (by first | omega | assumption)), (hBg1.all (hE16.trans hH)), ⟨by omega, by omega⟩, ⟨by omega, by omega⟩, (P1 _ (hE36.trans hH)), ((matched_ct A1 A2 (some ⟨bP, oP, none⟩) c1 c2 cP l p (s : Int) (t : Int) _ (hx.ext (hE06.trans hH)) (q2.ext (hE36.trans hH)) hm (by omega)).is (by rw [tv_yes e2])), (hBg1.all (hE16.trans hH)), ⟨by omega, by omega⟩, ⟨by omega, by omega⟩, (P1 _ (hE36.trans hH)), ((matched_ct A1 A2 (some ⟨bP, oP, none⟩) c1 c2 cP l p (t : Int) (s : Int) _ (hx.ext (hE06.trans hH)) (q2.ext (hE36.trans hH)) hm (by omega)).is (by rw [tv_yes e3]))⟩) fun H s_ hH => ?_
              -- at 1111110123102123102127
              refine Run.adv 10 [.draw, .val (.slice (some ⟨bQ, oQ, none⟩) q.length cQ), .val (.int .i64 (rd q (s : Int))), .val (.slice (some ⟨bQ, oQ, none⟩) q.length cQ), .val (.int .i64 (rd q (t : Int))), .dec false] (at_ Tryd.f6 [1,1,1,1,1,1,0,1,2,3,1,0,2,1,2,3,1,0,2,1,2,7]) [(1, .pointer (some ⟨g1, 0, none⟩)), (3, .slice (some ⟨b3, o3, none⟩) ((levs l.es n m).length) c3), (6, .int .i64 (k : Int)), (7, .int .i64 (s : Int)), (8, .int .i64 ((t + 1 : Nat) : Int))]
                (LexOk (opsAt (at_ Tryd.f6 [1,1,1,1,1,1,0,1,2,3,1,0,2,1,2,3,1,0,2,1,2,3,1,0,2,1,0])) ∧ (0 ≤ (k : Int) ∧ (k : Int) < ((levs l.es n m).length : Int)) ∧ cellH H ⟨b3, o3 + (k : Int).toNat, none⟩ = some (.slice (some ⟨bQ, oQ, none⟩) q.length cQ) ∧ (0 ≤ (s : Int) ∧ (s : Int) < (q.length : Int)) ∧ cellH H ⟨bQ, oQ + (s : Int).toNat, none⟩ = some (.int .i64 (rd q (s : Int))) ∧ (0 ≤ (k : Int) ∧ (k : Int) < ((levs l.es n m).length : Int)) ∧ cellH H ⟨b3, o3 + (k : Int).toNat, none⟩ = some (.slice (some ⟨bQ, oQ, none⟩) q.length cQ) ∧ (0 ≤ (t : Int) ∧ (t : Int) < (q.length : Int)) ∧ cellH H ⟨bQ, oQ + (t : Int).toNat, none⟩ = some (.int .i64 (rd q (t : Int))) ∧ (!(((rd q (s : Int)) == (rd q (t : Int))) == true)) = false ∧ (-9223372036854775808 ≤ (t : Int) + 1 ∧ (t : Int) + 1 ≤ 9223372036854775807))
                (by as_aux_lemma => kernel_rfl) ⟨lx_6_111111012310212310212310210, ⟨by omega, by omega⟩, (Z1 _ (hE36.trans hH)), ⟨by omega, by omega⟩, (hQ _ (hE36.trans hH) (s : Int) (by omega) (by omega)), ⟨by omega, by omega⟩, (Z1 _ (hE36.trans hH)), ⟨by omega, by omega⟩, (hQ _ (hE36.trans hH) (t : Int) (by omega) (by omega)), (by rw [beq_iff_eq.2 hqq]; rfl), ⟨by omega, by omega⟩⟩ fun s_ => ?_
              exact again3 (t + 1) _ _ ⟨by omega, hE6.trans hH⟩ (by omega)
            · have hqq : ¬ rd q s = rd q t := fun hh => e3 (hT'.1 hh).2.2
              refine Run.drawE [.val (.slice (some ⟨bP, oP, none⟩) p.length cP), .val (.int .i64 (rd p (s : Int))), .val (.slice (some ⟨bP, oP, none⟩) p.length cP), .val (.int .i64 (rd p (t : Int))), .dec true, .val (.agg #[.int .i64 l.n, .slice A1 l.ls.length c1, .slice A2 l.es.length c2]), .lit, .lit, .lit, .lit, .lit, .val (.slice (some ⟨bP, oP, none⟩) p.length cP), .lit, .lit, .lit, .val (.bool true), .lit, .val (.agg #[.int .i64 l.n, .slice A1 l.ls.length c1, .slice A2 l.es.length c2]), .lit, .lit, .lit, .lit, .lit, .val (.slice (some ⟨bP, oP, none⟩) p.length cP), .lit, .lit, .lit, .val (.bool false)] (at_ Tryd.f6 [1,1,1,1,1,1,0,1,2,3,1,0,2,1,2,3,1,0,2,1,2,3,1,0,2,1]) [(1, .pointer (some ⟨g1, 0, none⟩)), (3, .slice (some ⟨b3, o3, none⟩) ((levs l.es n m).length) c3), (6, .int .i64 (k : Int)), (7, .int .i64 (s : Int)), (8, .int .i64 (t : Int)), (9, .bool false)]
                (fun H => LexOk (opsAt (at_ Tryd.f6 [1,1,1,1,1,1,0,1,2,3,1,0,2,1,2,3,1,0,2,1,2,3,1,0,2,0])) ∧ (-9223372036854775808 ≤ (k : Int) - 1 ∧ (k : Int) - 1 ≤ 9223372036854775807) ∧ (0 ≤ (k : Int) - 1 ∧ (k : Int) - 1 < ((levs l.es n m).length : Int)) ∧ cellH H ⟨b3, o3 + ((k : Int) - 1).toNat, none⟩ = some (.slice (some ⟨bP, oP, none⟩) p.length cP) ∧ (0 ≤ (s : Int) ∧ (s : Int) < (p.length : Int)) ∧ cellH H ⟨bP, oP + (s : Int).toNat, none⟩ = some (.int .i64 (rd p (s : Int))) ∧ (-9223372036854775808 ≤ (k : Int) - 1 ∧ (k : Int) - 1 ≤ 9223372036854775807) ∧ (0 ≤ (k : Int) - 1 ∧ (k : Int) - 1 < ((levs l.es n m).length : Int)) ∧ cellH H ⟨b3, o3 + ((k : Int) - 1).toNat, none⟩ = some (.slice (some ⟨bP, oP, none⟩) p.length cP) ∧ (0 ≤ (t : Int) ∧ (t : Int) < (p.length : Int)) ∧ cellH H ⟨bP, oP + (t : Int).toNat, none⟩ = some (.int .i64 (rd p (t : Int))) ∧ ((rd p (s : Int)) == (rd p (t : Int))) = true ∧ cellsAt H ⟨g1, 0, none⟩ [.int .i64 l.n, .slice A1 l.ls.length c1, .slice A2 l.es.length c2] 0 ∧ (-9223372036854775808 ≤ (k : Int) - 1 ∧ (k : Int) - 1 ≤ 9223372036854775807) ∧ (0 ≤ (k : Int) - 1 ∧ (k : Int) - 1 < ((levs l.es n m).length : Int)) ∧ cellH H ⟨b3, o3 + ((k : Int) - 1).toNat, none⟩ = some (.slice (some ⟨bP, oP, none⟩) p.length cP) ∧ (Ct Tryd.prog 29 #[.agg #[.int .i64 l.n, .slice A1 l.ls.length c1, .slice A2 l.es.length c2], .slice (some ⟨bP, oP, none⟩) p.length cP, .int .i64 (s : Int), .int .i64 (t : Int)] H (fun v_ h_ => v_ = .bool true ∧ Ext H h_)) ∧ cellsAt H ⟨g1, 0, none⟩ [.int .i64 l.n, .slice A1 l.ls.length c1, .slice A2 l.es.length c2] 0 ∧ (-9223372036854775808 ≤ (k : Int) - 1 ∧ (k : Int) - 1 ≤ 9223372036854775807) ∧ (0 ≤ (k : Int) - 1 ∧ (k : Int) - 1 < ((levs l.es n m).length : Int)) ∧ cellH H ⟨b3, o3 + ((k : Int) - 1).toNat, none⟩ = some (.slice (some ⟨bP, oP, none⟩) p.length cP) ∧ (Ct Tryd.prog 29 #[.agg #[.int .i64 l.n, .slice A1 l.ls.length c1, .slice A2 l.es.length c2], .slice (some ⟨bP, oP, none⟩) p.length cP, .int .i64 (t : Int), .int .i64 (s : Int)] H (fun v_ h_ => v_ = .bool false ∧ Ext H h_)))
                (by as_aux_lemma => kernel_rfl) (fun H hH => ⟨lx_6_11111101231021231021231020, ⟨by omega, by omega⟩, ⟨by omega, by omega⟩, (P1 _ (hE36.trans hH)), ⟨by omega, by omega⟩, (hP _ (hE36.trans hH) (s : Int) (by omega) (by omega)), ⟨by omega, by omega⟩, ⟨by omega, by omega⟩, (P1 _ (hE36.trans hH)), ⟨by omega, by omega⟩, (hP _ (hE36.trans hH) (t : Int) (by omega) (by omega)), (beq_iff_eq.2 (by first | omega | assumption)), (hBg1.all (hE16.trans hH)), ⟨by omega, by omega⟩, ⟨by omega, by omega⟩, (P1 _ (hE36.trans hH)), ((matched_ct A1 A2 (some ⟨bP, oP, none⟩) c1 c2 cP l p (s : Int) (t : Int) _ (hx.ext (hE06.trans hH)) (q2.ext (hE36.trans hH)) hm (by omega)).is (by rw [tv_yes e2])), (hBg1.all (hE16.trans hH)), ⟨by omega, by omega⟩, ⟨by omega, by omega⟩, (P1 _ (hE36.trans hH)), ((matched_ct A1 A2 (some ⟨bP, oP, none⟩) c1 c2 cP l p (t : Int) (s : Int) _ (hx.ext (hE06.trans hH)) (q2.ext (hE36.trans hH)) hm (by omega)).is (by rw [tv_no e3]))⟩) fun H s_ hH => ?_
              -- at 1111110123102123102127
              refine Run.adv 10 [.draw, .val (.slice (some ⟨bQ, oQ, none⟩) q.length cQ), .val (.int .i64 (rd q (s : Int))), .val (.slice (some ⟨bQ, oQ, none⟩) q.length cQ), .val (.int .i64 (rd q (t : Int))), .dec false] (at_ Tryd.f6 [1,1,1,1,1,1,0,1,2,3,1,0,2,1,2,3,1,0,2,1,2,7]) [(1, .pointer (some ⟨g1, 0, none⟩)), (3, .slice (some ⟨b3, o3, none⟩) ((levs l.es n m).length) c3), (6, .int .i64 (k : Int)), (7, .int .i64 (s : Int)), (8, .int .i64 ((t + 1 : Nat) : Int))]
                (LexOk (opsAt (at_ Tryd.f6 [1,1,1,1,1,1,0,1,2,3,1,0,2,1,2,3,1,0,2,1,2,3,1,0,2,1,0])) ∧ (0 ≤ (k : Int) ∧ (k : Int) < ((levs l.es n m).length : Int)) ∧ cellH H ⟨b3, o3 + (k : Int).toNat, none⟩ = some (.slice (some ⟨bQ, oQ, none⟩) q.length cQ) ∧ (0 ≤ (s : Int) ∧ (s : Int) < (q.length : Int)) ∧ cellH H ⟨bQ, oQ + (s : Int).toNat, none⟩ = some (.int .i64 (rd q (s : Int))) ∧ (0 ≤ (k : Int) ∧ (k : Int) < ((levs l.es n m).length : Int)) ∧ cellH H ⟨b3, o3 + (k : Int).toNat, none⟩ = some (.slice (some ⟨bQ, oQ, none⟩) q.length cQ) ∧ (0 ≤ (t : Int) ∧ (t : Int) < (q.length : Int)) ∧ cellH H ⟨bQ, oQ + (t : Int).toNat, none⟩ = some (.int .i64 (rd q (t : Int))) ∧ (!(((rd q (s : Int)) == (rd q (t : Int))) == false)) = false ∧ (-9223372036854775808 ≤ (t : Int) + 1 ∧ (t : Int) + 1 ≤ 9223372036854775807))
                (by as_aux_lemma => kernel_rfl) ⟨lx_6_111111012310212310212310210, ⟨by omega, by omega⟩, (Z1 _ (hE36.trans hH)), ⟨by omega, by omega⟩, (hQ _ (hE36.trans hH) (s : Int) (by omega) (by omega)), ⟨by omega, by omega⟩, (Z1 _ (hE36.trans hH)), ⟨by omega, by omega⟩, (hQ _ (hE36.trans hH) (t : Int) (by omega) (by omega)), (by rw [beq_eq_false_iff_ne.2 hqq]; rfl), ⟨by omega, by omega⟩⟩ fun s_ => ?_
              exact again3 (t + 1) _ _ ⟨by omega, hE6.trans hH⟩ (by omega)
          · have hqq : ¬ rd q s = rd q t := fun hh => e2 (hT'.1 hh).2.1
            refine Run.drawE [.val (.slice (some ⟨bP, oP, none⟩) p.length cP), .val (.int .i64 (rd p (s : Int))), .val (.slice (some ⟨bP, oP, none⟩) p.length cP), .val (.int .i64 (rd p (t : Int))), .dec true, .val (.agg #[.int .i64 l.n, .slice A1 l.ls.length c1, .slice A2 l.es.length c2]), .lit, .lit, .lit, .lit, .lit, .val (.slice (some ⟨bP, oP, none⟩) p.length cP), .lit, .lit, .lit, .val (.bool false), .lit, .lit, .lit, .lit, .lit, .lit, .lit, .lit, .lit] (at_ Tryd.f6 [1,1,1,1,1,1,0,1,2,3,1,0,2,1,2,3,1,0,2,1,2,3,1,0,2,1]) [(1, .pointer (some ⟨g1, 0, none⟩)), (3, .slice (some ⟨b3, o3, none⟩) ((levs l.es n m).length) c3), (6, .int .i64 (k : Int)), (7, .int .i64 (s : Int)), (8, .int .i64 (t : Int)), (9, .bool false)]
              (fun H => LexOk (opsAt (at_ Tryd.f6 [1,1,1,1,1,1,0,1,2,3,1,0,2,1,2,3,1,0,2,1,2,3,1,0,2,0])) ∧ (-9223372036854775808 ≤ (k : Int) - 1 ∧ (k : Int) - 1 ≤ 9223372036854775807) ∧ (0 ≤ (k : Int) - 1 ∧ (k : Int) - 1 < ((levs l.es n m).length : Int)) ∧ cellH H ⟨b3, o3 + ((k : Int) - 1).toNat, none⟩ = some (.slice (some ⟨bP, oP, none⟩) p.length cP) ∧ (0 ≤ (s : Int) ∧ (s : Int) < (p.length : Int)) ∧ cellH H ⟨bP, oP + (s : Int).toNat, none⟩ = some (.int .i64 (rd p (s : Int))) ∧ (-9223372036854775808 ≤ (k : Int) - 1 ∧ (k : Int) - 1 ≤ 9223372036854775807) ∧ (0 ≤ (k : Int) - 1 ∧ (k : Int) - 1 < ((levs l.es n m).length : Int)) ∧ cellH H ⟨b3, o3 + ((k : Int) - 1).toNat, none⟩ = some (.slice (some ⟨bP, oP, none⟩) p.length cP) ∧ (0 ≤ (t : Int) ∧ (t : Int) < (p.length : Int)) ∧ cellH H ⟨bP, oP + (t : Int).toNat, none⟩ = some (.int .i64 (rd p (t : Int))) ∧ ((rd p (s : Int)) == (rd p (t : Int))) = true ∧ cellsAt H ⟨g1, 0, none⟩ [.int .i64 l.n, .slice A1 l.ls.length c1, .slice A2 l.es.length c2] 0 ∧ (-9223372036854775808 ≤ (k : Int) - 1 ∧ (k : Int) - 1 ≤ 9223372036854775807) ∧ (0 ≤ (k : Int) - 1 ∧ (k : Int) - 1 < ((levs l.es n m).length : Int)) ∧ cellH H ⟨b3, o3 + ((k : Int) - 1).toNat, none⟩ = some (.slice (some ⟨bP, oP, none⟩) p.length cP) ∧ (Ct Tryd.prog 29 #[.agg #[.int .i64 l.n, .slice A1 l.ls.length c1, .slice A2 l.es.length c2], .slice (some ⟨bP, oP, none⟩) p.length cP, .int .i64 (s : Int), .int .i64 (t : Int)] H (fun v_ h_ => v_ = .bool false ∧ Ext H h_)))
              (by as_aux_lemma => kernel_rfl) (fun H hH => ⟨lx_6_11111101231021231021231020, ⟨by omega, by omega⟩, ⟨by omega, by omega⟩, (P1 _ (hE36.trans hH)), ⟨by omega, by omega⟩, (hP _ (hE36.trans hH) (s : Int) (by omega) (by omega)), ⟨by omega, by omega⟩, ⟨by omega, by omega⟩, (P1 _ (hE36.trans hH)), ⟨by omega, by omega⟩, (hP _ (hE36.trans hH) (t : Int) (by omega) (by omega)), (beq_iff_eq.2 (by first | omega | assumption)), (hBg1.all (hE16.trans hH)), ⟨by omega, by omega⟩, ⟨by omega, by omega⟩, (P1 _ (hE36.trans hH)), ((matched_ct A1 A2 (some ⟨bP, oP, none⟩) c1 c2 cP l p (s : Int) (t : Int) _ (hx.ext (hE06.trans hH)) (q2.ext (hE36.trans hH)) hm (by omega)).is (by rw [tv_no e2]))⟩) fun H s_ hH => ?_
            -- at 1111110123102123102127
            refine Run.adv 10 [.draw, .val (.slice (some ⟨bQ, oQ, none⟩) q.length cQ), .val (.int .i64 (rd q (s : Int))), .val (.slice (some ⟨bQ, oQ, none⟩) q.length cQ), .val (.int .i64 (rd q (t : Int))), .dec false] (at_ Tryd.f6 [1,1,1,1,1,1,0,1,2,3,1,0,2,1,2,3,1,0,2,1,2,7]) [(1, .pointer (some ⟨g1, 0, none⟩)), (3, .slice (some ⟨b3, o3, none⟩) ((levs l.es n m).length) c3), (6, .int .i64 (k : Int)), (7, .int .i64 (s : Int)), (8, .int .i64 ((t + 1 : Nat) : Int))]
              (LexOk (opsAt (at_ Tryd.f6 [1,1,1,1,1,1,0,1,2,3,1,0,2,1,2,3,1,0,2,1,2,3,1,0,2,1,0])) ∧ (0 ≤ (k : Int) ∧ (k : Int) < ((levs l.es n m).length : Int)) ∧ cellH H ⟨b3, o3 + (k : Int).toNat, none⟩ = some (.slice (some ⟨bQ, oQ, none⟩) q.length cQ) ∧ (0 ≤ (s : Int) ∧ (s : Int) < (q.length : Int)) ∧ cellH H ⟨bQ, oQ + (s : Int).toNat, none⟩ = some (.int .i64 (rd q (s : Int))) ∧ (0 ≤ (k : Int) ∧ (k : Int) < ((levs l.es n m).length : Int)) ∧ cellH H ⟨b3, o3 + (k : Int).toNat, none⟩ = some (.slice (some ⟨bQ, oQ, none⟩) q.length cQ) ∧ (0 ≤ (t : Int) ∧ (t : Int) < (q.length : Int)) ∧ cellH H ⟨bQ, oQ + (t : Int).toNat, none⟩ = some (.int .i64 (rd q (t : Int))) ∧ (!(((rd q (s : Int)) == (rd q (t : Int))) == false)) = false ∧ (-9223372036854775808 ≤ (t : Int) + 1 ∧ (t : Int) + 1 ≤ 9223372036854775807))
              (by as_aux_lemma => kernel_rfl) ⟨lx_6_111111012310212310212310210, ⟨by omega, by omega⟩, (Z1 _ (hE36.trans hH)), ⟨by omega, by omega⟩, (hQ _ (hE36.trans hH) (s : Int) (by omega) (by omega)), ⟨by omega, by omega⟩, (Z1 _ (hE36.trans hH)), ⟨by omega, by omega⟩, (hQ _ (hE36.trans hH) (t : Int) (by omega) (by omega)), (by rw [beq_eq_false_iff_ne.2 hqq]; rfl), ⟨by omega, by omega⟩⟩ fun s_ => ?_
            exact again3 (t + 1) _ _ ⟨by omega, hE6.trans hH⟩ (by omega)
        · have hqq : ¬ rd q s = rd q t := fun hh => e1 (hT'.1 hh).1
          refine Run.drawE [.val (.slice (some ⟨bP, oP, none⟩) p.length cP), .val (.int .i64 (rd p (s : Int))), .val (.slice (some ⟨bP, oP, none⟩) p.length cP), .val (.int .i64 (rd p (t : Int))), .dec false, .lit, .lit, .lit, .lit, .lit, .lit, .lit, .lit, .lit, .lit, .lit, .lit, .lit, .lit, .lit, .lit, .lit] (at_ Tryd.f6 [1,1,1,1,1,1,0,1,2,3,1,0,2,1,2,3,1,0,2,1,2,3,1,0,2,1]) [(1, .pointer (some ⟨g1, 0, none⟩)), (3, .slice (some ⟨b3, o3, none⟩) ((levs l.es n m).length) c3), (6, .int .i64 (k : Int)), (7, .int .i64 (s : Int)), (8, .int .i64 (t : Int)), (9, .bool false)]
            (fun H => LexOk (opsAt (at_ Tryd.f6 [1,1,1,1,1,1,0,1,2,3,1,0,2,1,2,3,1,0,2,1,2,3,1,0,2,0])) ∧ (-9223372036854775808 ≤ (k : Int) - 1 ∧ (k : Int) - 1 ≤ 9223372036854775807) ∧ (0 ≤ (k : Int) - 1 ∧ (k : Int) - 1 < ((levs l.es n m).length : Int)) ∧ cellH H ⟨b3, o3 + ((k : Int) - 1).toNat, none⟩ = some (.slice (some ⟨bP, oP, none⟩) p.length cP) ∧ (0 ≤ (s : Int) ∧ (s : Int) < (p.length : Int)) ∧ cellH H ⟨bP, oP + (s : Int).toNat, none⟩ = some (.int .i64 (rd p (s : Int))) ∧ (-9223372036854775808 ≤ (k : Int) - 1 ∧ (k : Int) - 1 ≤ 9223372036854775807) ∧ (0 ≤ (k : Int) - 1 ∧ (k : Int) - 1 < ((levs l.es n m).length : Int)) ∧ cellH H ⟨b3, o3 + ((k : Int) - 1).toNat, none⟩ = some (.slice (some ⟨bP, oP, none⟩) p.length cP) ∧ (0 ≤ (t : Int) ∧ (t : Int) < (p.length : Int)) ∧ cellH H ⟨bP, oP + (t : Int).toNat, none⟩ = some (.int .i64 (rd p (t : Int))) ∧ ((rd p (s : Int)) == (rd p (t : Int))) = false)
            (by as_aux_lemma => kernel_rfl) (fun H hH => ⟨lx_6_11111101231021231021231020, ⟨by omega, by omega⟩, ⟨by omega, by omega⟩, (P1 _ (hE36.trans hH)), ⟨by omega, by omega⟩, (hP _ (hE36.trans hH) (s : Int) (by omega) (by omega)), ⟨by omega, by omega⟩, ⟨by omega, by omega⟩, (P1 _ (hE36.trans hH)), ⟨by omega, by omega⟩, (hP _ (hE36.trans hH) (t : Int) (by omega) (by omega)), (beq_eq_false_iff_ne.2 (by first | omega | assumption))⟩) fun H s_ hH => ?_
          -- at 1111110123102123102127
          refine Run.adv 10 [.draw, .val (.slice (some ⟨bQ, oQ, none⟩) q.length cQ), .val (.int .i64 (rd q (s : Int))), .val (.slice (some ⟨bQ, oQ, none⟩) q.length cQ), .val (.int .i64 (rd q (t : Int))), .dec false] (at_ Tryd.f6 [1,1,1,1,1,1,0,1,2,3,1,0,2,1,2,3,1,0,2,1,2,7]) [(1, .pointer (some ⟨g1, 0, none⟩)), (3, .slice (some ⟨b3, o3, none⟩) ((levs l.es n m).length) c3), (6, .int .i64 (k : Int)), (7, .int .i64 (s : Int)), (8, .int .i64 ((t + 1 : Nat) : Int))]
            (LexOk (opsAt (at_ Tryd.f6 [1,1,1,1,1,1,0,1,2,3,1,0,2,1,2,3,1,0,2,1,2,3,1,0,2,1,0])) ∧ (0 ≤ (k : Int) ∧ (k : Int) < ((levs l.es n m).length : Int)) ∧ cellH H ⟨b3, o3 + (k : Int).toNat, none⟩ = some (.slice (some ⟨bQ, oQ, none⟩) q.length cQ) ∧ (0 ≤ (s : Int) ∧ (s : Int) < (q.length : Int)) ∧ cellH H ⟨bQ, oQ + (s : Int).toNat, none⟩ = some (.int .i64 (rd q (s : Int))) ∧ (0 ≤ (k : Int) ∧ (k : Int) < ((levs l.es n m).length : Int)) ∧ cellH H ⟨b3, o3 + (k : Int).toNat, none⟩ = some (.slice (some ⟨bQ, oQ, none⟩) q.length cQ) ∧ (0 ≤ (t : Int) ∧ (t : Int) < (q.length : Int)) ∧ cellH H ⟨bQ, oQ + (t : Int).toNat, none⟩ = some (.int .i64 (rd q (t : Int))) ∧ (!(((rd q (s : Int)) == (rd q (t : Int))) == false)) = false ∧ (-9223372036854775808 ≤ (t : Int) + 1 ∧ (t : Int) + 1 ≤ 9223372036854775807))
            (by as_aux_lemma => kernel_rfl) ⟨lx_6_111111012310212310212310210, ⟨by omega, by omega⟩, (Z1 _ (hE36.trans hH)), ⟨by omega, by omega⟩, (hQ _ (hE36.trans hH) (s : Int) (by omega) (by omega)), ⟨by omega, by omega⟩, (Z1 _ (hE36.trans hH)), ⟨by omega, by omega⟩, (hQ _ (hE36.trans hH) (t : Int) (by omega) (by omega)), (by rw [beq_eq_false_iff_ne.2 hqq]; rfl), ⟨by omega, by omega⟩⟩ fun s_ => ?_
          exact again3 (t + 1) _ _ ⟨by omega, hE6.trans hH⟩ (by omega)
      · -- at 1111110123102127
        refine Run.adv 15 [.dec false] (at_ Tryd.f6 [1,1,1,1,1,1,0,1,2,3,1,0,2,1,2,7]) [(1, .pointer (some ⟨g1, 0, none⟩)), (3, .slice (some ⟨b3, o3, none⟩) ((levs l.es n m).length) c3), (6, .int .i64 (k : Int)), (7, .int .i64 ((s + 1 : Nat) : Int))]
          ((decide ((t : Int) < (s : Int))) = false ∧ (-9223372036854775808 ≤ (s : Int) + 1 ∧ (s : Int) + 1 ≤ 9223372036854775807))
          (by as_aux_lemma => kernel_rfl) ⟨(by first | assumption | exact decide_eq_false (by first | omega | assumption)), ⟨by omega, by omega⟩⟩ fun s_ => ?_
        exact again2 (s + 1) _ _ ⟨by omega, hE5.trans hE6⟩ (by omega)
    · -- at 1111110127
      refine Run.adv 16 [.val (.int .i64 l.n), .dec false] (at_ Tryd.f6 [1,1,1,1,1,1,0,1,2,7]) [(1, .pointer (some ⟨g1, 0, none⟩)), (3, .slice (some ⟨b3, o3, none⟩) ((levs l.es n m).length) c3), (6, .int .i64 ((k + 1 : Nat) : Int))]
        (cellH h5 ⟨g1, 0, none⟩ = some (.int .i64 l.n) ∧ (decide ((s : Int) < l.n)) = false ∧ (-9223372036854775808 ≤ (k : Int) + 1 ∧ (k : Int) + 1 ≤ 9223372036854775807))
        (by as_aux_lemma => kernel_rfl) ⟨(hBg1.at hE15 0 rfl), (by first | assumption | exact decide_eq_false (by first | omega | assumption)), ⟨by omega, by omega⟩⟩ fun s_ => ?_
      exact again (k + 1) _ _ ⟨by omega, by omega, hE4.trans hE5⟩ (by omega)
  · have hE04 := hE03.trans hE4
    -- at 1111111080
    refine Run.adv 12 [.dec false] (at_ Tryd.f6 [1,1,1,1,1,1,1,0,8,0]) [(1, .pointer (some ⟨g1, 0, none⟩))]
      ((decide ((k : Int) < ((levs l.es n m).length : Int))) = false)
      (by as_aux_lemma => kernel_rfl) (by first | assumption | exact decide_eq_false (by first | omega | assumption)) fun s_ => ?_
    refine Run.call 25 #[] (some 119) (at_ Tryd.f6 [1,1,1,1,1,1,1,0,8,1]) (by as_aux_lemma => kernel_rfl) (awake33_ct _ (hT.ext hE04)) ?_
    rintro _ h8 ⟨rfl, hE8⟩
    -- at 11111111
    refine Run.adv 2 [] (at_ Tryd.f6 [1,1,1,1,1,1,1,1]) [(2, .bool true)]
      (True)
      (by as_aux_lemma => kernel_rfl) trivial fun s_ => ?_
    refine Run.ret [] (.bool true) (True) Tryd.func6 (by as_aux_lemma => kernel_rfl) (by as_aux_lemma => kernel_rfl) trivial ?_
    exact ⟨rfl, hE04.trans hE8⟩
theorem LevelsLast_ct (A1 A2 A3 : Option Addr) (c1 c2 c3 : Nat) (l : Lt) (q : List Int) (h : Heap) (hx : LtAt h l A1 c1 A2 c2) (hq : Ints h A3 q c3) (hT : Tab h) :
    Ct Tryd.prog 7 #[.agg #[.int .i64 l.n, .slice A1 l.ls.length c1, .slice A2 l.es.length c2], .slice A3 q.length c3] h (fun v h' => v = .bool true ∧ Ext h h') := by
  refine Ct.enter (args := [.agg #[.int .i64 l.n, .slice A1 l.ls.length c1, .slice A2 l.es.length c2], .slice A3 q.length c3]) Tryd.func7 rfl Tryd.ntmps7 (by simp) fun w hw => ?_
  -- at 080
  refine Run.adv 2 [] (at_ Tryd.f7 [0,8,0]) [(0, .agg #[.int .i64 l.n, .slice A1 l.ls.length c1, .slice A2 l.es.length c2]), (1, .slice A3 q.length c3)]
    (True)
    (by as_aux_lemma => kernel_rfl) trivial fun s_ => ?_
  refine Run.new #[.int .i64 l.n, .slice A1 l.ls.length c1, .slice A2 l.es.length c2] 25 (fun g_ => .pointer (some ⟨g_, 0, none⟩)) (some 2) (at_ Tryd.f7 [0,8,1]) (by as_aux_lemma => kernel_rfl) fun g1 h1 hng1 hEg1 hBg1 => ?_
  -- at 10081
  refine Run.adv 6 [.val (.agg #[.int .i64 l.n, .slice A1 l.ls.length c1, .slice A2 l.es.length c2])] (at_ Tryd.f7 [1,0,0,8,1]) [(0, .agg #[.int .i64 l.n, .slice A1 l.ls.length c1, .slice A2 l.es.length c2]), (1, .slice A3 q.length c3), (2, .pointer (some ⟨g1, 0, none⟩)), (4, .bool false), (7, .agg #[.int .i64 l.n, .slice A1 l.ls.length c1, .slice A2 l.es.length c2])]
    (cellsAt h1 ⟨g1, 0, none⟩ [.int .i64 l.n, .slice A1 l.ls.length c1, .slice A2 l.es.length c2] 0)
    (by as_aux_lemma => kernel_rfl) (hBg1.all (Ext.refl _)) fun s_ => ?_
  refine Run.call 24 #[.agg #[.int .i64 l.n, .slice A1 l.ls.length c1, .slice A2 l.es.length c2]] (some 8) (at_ Tryd.f7 [1,0,0,8,2]) (by as_aux_lemma => kernel_rfl) (Light33_ct A1 A2 c1 c2 l _ (hx.ext hEg1)) ?_
  rintro _ h2 ⟨rfl, hE2⟩
  have hE02 := hEg1.trans hE2
  have hE12 := hE2
  have tail : ∀ s : Env, Run Tryd.prog 7 53 (at_ Tryd.f7 [1,0,1,4,0]) (kn [(1, .slice A3 q.length c3)] s) h2 (w, false) (fun v h' => v = .bool true ∧ Ext h h') := by
    intro s
    -- at 1014080
    refine Run.adv 1 [] (at_ Tryd.f7 [1,0,1,4,0,8,0]) [(1, .slice A3 q.length c3)]
      (True)
      (by as_aux_lemma => kernel_rfl) trivial fun s_ => ?_
    refine Run.call 25 #[] (some 15) (at_ Tryd.f7 [1,0,1,4,0,8,1]) (by as_aux_lemma => kernel_rfl) (awake33_ct _ (hT.ext hE02)) ?_
    rintro _ h8 ⟨rfl, hE8⟩
    -- at 10141
    refine Run.adv 2 [] (at_ Tryd.f7 [1,0,1,4,1]) [(4, .bool true)]
      (True)
      (by as_aux_lemma => kernel_rfl) trivial fun s_ => ?_
    refine Run.ret [] (.bool true) (True) Tryd.func7 (by as_aux_lemma => kernel_rfl) (by as_aux_lemma => kernel_rfl) trivial ?_
    exact ⟨rfl, (hE02.trans hE8)⟩
  by_cases hS : Light33 l
  rotate_left
  · rw [tv_no hS]
    -- at 10140
    refine Run.adv 9 [.lit, .lit, .lit, .lit] (at_ Tryd.f7 [1,0,1,4,0]) [(1, .slice A3 q.length c3)]
      (True)
      (by as_aux_lemma => kernel_rfl) trivial fun s_ => ?_
    exact tail _
  rw [tv_yes hS]
  have hl8 := hS.2.2.2
  by_cases hq30 : 30 < q.length
  · -- at 10140
    refine Run.adv 9 [.lit, .lit, .lit, .dec true] (at_ Tryd.f7 [1,0,1,4,0]) [(1, .slice A3 q.length c3)]
      ((decide ((q.length : Int) > 30)) = true)
      (by as_aux_lemma => kernel_rfl) (by first | assumption | exact decide_eq_true (by first | omega | assumption)) fun s_ => ?_
    exact tail _
  -- at 11081
  refine Run.adv 12 [.lit, .lit, .lit, .dec false, .val (.agg #[.int .i64 l.n, .slice A1 l.ls.length c1, .slice A2 l.es.length c2])] (at_ Tryd.f7 [1,1,0,8,1]) [(1, .slice A3 q.length c3), (2, .pointer (some ⟨g1, 0, none⟩)), (17, .agg #[.int .i64 l.n, .slice A1 l.ls.length c1, .slice A2 l.es.length c2])]
    ((decide ((q.length : Int) > 30)) = false ∧ cellsAt h2 ⟨g1, 0, none⟩ [.int .i64 l.n, .slice A1 l.ls.length c1, .slice A2 l.es.length c2] 0)
    (by as_aux_lemma => kernel_rfl) ⟨(by first | assumption | exact decide_eq_false (by first | omega | assumption)), (hBg1.all hE2)⟩ fun s_ => ?_
  by_cases hm : May l
  rotate_left
  · refine Run.call 27 #[.agg #[.int .i64 l.n, .slice A1 l.ls.length c1, .slice A2 l.es.length c2]] (some 18) (at_ Tryd.f7 [1,1,0,8,2]) (by as_aux_lemma => kernel_rfl) (lastNo_ct A1 A2 c1 c2 l _ (hx.ext hE02) (by omega) hm) ?_
    rintro _ h4 ⟨rfl, hE4⟩
    -- at 111014080
    refine Run.adv 15 [.lit] (at_ Tryd.f7 [1,1,1,0,1,4,0,8,0]) [(1, .slice A3 q.length c3)]
      (True)
      (by as_aux_lemma => kernel_rfl) trivial fun s_ => ?_
    refine Run.call 25 #[] (some 23) (at_ Tryd.f7 [1,1,1,0,1,4,0,8,1]) (by as_aux_lemma => kernel_rfl) (awake33_ct _ (hT.ext (hE02.trans hE4))) ?_
    rintro _ h8 ⟨rfl, hE8⟩
    -- at 1110141
    refine Run.adv 2 [] (at_ Tryd.f7 [1,1,1,0,1,4,1]) [(4, .bool true)]
      (True)
      (by as_aux_lemma => kernel_rfl) trivial fun s_ => ?_
    refine Run.ret [] (.bool true) (True) Tryd.func7 (by as_aux_lemma => kernel_rfl) (by as_aux_lemma => kernel_rfl) trivial ?_
    exact ⟨rfl, (((hEg1.trans hE2).trans hE4).trans hE8)⟩
  have hn16 := small33 hS hm
  have hn1 := hm.n1
  obtain ⟨n, hn⟩ := Int.eq_ofNat_of_zero_le (show 0 ≤ l.n by omega)
  refine Run.call 27 #[.agg #[.int .i64 l.n, .slice A1 l.ls.length c1, .slice A2 l.es.length c2]] (some 18) (at_ Tryd.f7 [1,1,0,8,2]) (by as_aux_lemma => kernel_rfl) (lastOk_ct A1 A2 c1 c2 l n _ (hx.ext hE02) hm hn (hT.ext hE02)) ?_
  rintro v h4 ⟨m4, w4, og4, hS4, rfl, hO4, hE4⟩
  have hmn := hS4.lt (by omega)
  have hvl := lev_len l.es n m4
  obtain ⟨A4, c4, rfl, hr4⟩ := hO4.row1 (d := 0) (by omega)
  have hE04 := hE02.trans hE4
  -- at 11110088
  refine Run.adv 25 [.lit, .val (.int .i64 l.n), .dec false, .val (.agg #[.int .i64 l.n, .slice A1 l.ls.length c1, .slice A2 l.es.length c2]), .lit] (at_ Tryd.f7 [1,1,1,1,0,0,8,8]) [(1, .slice A3 q.length c3), (2, .pointer (some ⟨g1, 0, none⟩)), (5, .slice A4 ((lev l.es n m4).length) c4), (29, .bool false), (30, .agg #[.int .i64 l.n, .slice A1 l.ls.length c1, .slice A2 l.es.length c2]), (31, .slice A4 ((lev l.es n m4).length) c4)]
    (cellH h4 ⟨g1, 0, none⟩ = some (.int .i64 l.n) ∧ (((lev l.es n m4).length : Int) != l.n) = false ∧ cellsAt h4 ⟨g1, 0, none⟩ [.int .i64 l.n, .slice A1 l.ls.length c1, .slice A2 l.es.length c2] 0)
    (by as_aux_lemma => kernel_rfl) ⟨(hBg1.at (hE2.trans hE4) 0 rfl), (bne_eq_false_iff_eq.2 (by first | omega | assumption)), (hBg1.all (hE2.trans hE4))⟩ fun s_ => ?_
  refine Run.call 19 #[.agg #[.int .i64 l.n, .slice A1 l.ls.length c1, .slice A2 l.es.length c2], .slice A4 ((lev l.es n m4).length) c4] (some 32) (at_ Tryd.f7 [1,1,1,1,0,0,8,9]) (by as_aux_lemma => kernel_rfl) ((refStable_ct A1 A2 A4 c1 c2 c4 l (lev l.es n m4) _ (hx.ext hE04) hr4 hm (by omega)).is (by rw [tv_yes (stop_stable hS4)])) ?_
  rintro _ h5 ⟨rfl, hE5⟩
  have hE05 := hE04.trans hE5
  have tail2 : ∀ s : Env, Run Tryd.prog 7 53 (at_ Tryd.f7 [1,1,1,1,1,0,1,4,0]) (kn [(1, .slice A3 q.length c3)] s) h5 (w, false) (fun v h' => v = .bool true ∧ Ext h h') := by
    intro s
    -- at 11111014080
    refine Run.adv 1 [] (at_ Tryd.f7 [1,1,1,1,1,0,1,4,0,8,0]) [(1, .slice A3 q.length c3)]
      (True)
      (by as_aux_lemma => kernel_rfl) trivial fun s_ => ?_
    refine Run.call 25 #[] (some 46) (at_ Tryd.f7 [1,1,1,1,1,0,1,4,0,8,1]) (by as_aux_lemma => kernel_rfl) (awake33_ct _ (hT.ext hE05)) ?_
    rintro _ h8 ⟨rfl, hE8⟩
    -- at 111110141
    refine Run.adv 2 [] (at_ Tryd.f7 [1,1,1,1,1,0,1,4,1]) [(4, .bool true)]
      (True)
      (by as_aux_lemma => kernel_rfl) trivial fun s_ => ?_
    refine Run.ret [] (.bool true) (True) Tryd.func7 (by as_aux_lemma => kernel_rfl) (by as_aux_lemma => kernel_rfl) trivial ?_
    exact ⟨rfl, (hE05.trans hE8)⟩
  by_cases hqn : (q.length : Int) = l.n
  rotate_left
  · -- at 111110140
    refine Run.adv 22 [.lit, .lit, .val (.int .i64 l.n), .dec true, .lit, .lit, .lit, .lit] (at_ Tryd.f7 [1,1,1,1,1,0,1,4,0]) [(1, .slice A3 q.length c3)]
      (cellH h5 ⟨g1, 0, none⟩ = some (.int .i64 l.n) ∧ ((q.length : Int) != l.n) = true)
      (by as_aux_lemma => kernel_rfl) ⟨(hBg1.at ((hE2.trans hE4).trans hE5) 0 rfl), (bne_iff_ne.2 (by first | omega | assumption))⟩ fun s_ => ?_
    exact tail2 _
  -- at 111110088
  refine Run.adv 16 [.lit, .lit, .val (.int .i64 l.n), .dec false, .val (.agg #[.int .i64 l.n, .slice A1 l.ls.length c1, .slice A2 l.es.length c2]), .lit] (at_ Tryd.f7 [1,1,1,1,1,0,0,8,8]) [(1, .slice A3 q.length c3), (2, .pointer (some ⟨g1, 0, none⟩)), (5, .slice A4 ((lev l.es n m4).length) c4), (40, .bool false), (41, .agg #[.int .i64 l.n, .slice A1 l.ls.length c1, .slice A2 l.es.length c2]), (42, .slice A3 q.length c3)]
    (cellH h5 ⟨g1, 0, none⟩ = some (.int .i64 l.n) ∧ ((q.length : Int) != l.n) = false ∧ cellsAt h5 ⟨g1, 0, none⟩ [.int .i64 l.n, .slice A1 l.ls.length c1, .slice A2 l.es.length c2] 0)
    (by as_aux_lemma => kernel_rfl) ⟨(hBg1.at ((hE2.trans hE4).trans hE5) 0 rfl), (bne_eq_false_iff_eq.2 (by first | omega | assumption)), (hBg1.all ((hE2.trans hE4).trans hE5))⟩ fun s_ => ?_
  refine Run.call 19 #[.agg #[.int .i64 l.n, .slice A1 l.ls.length c1, .slice A2 l.es.length c2], .slice A3 q.length c3] (some 43) (at_ Tryd.f7 [1,1,1,1,1,0,0,8,9]) (by as_aux_lemma => kernel_rfl) (refStable_ct A1 A2 A3 c1 c2 c3 l q _ (hx.ext hE05) (hq.ext hE05) hm hqn) ?_
  rintro _ h6 ⟨rfl, hE6⟩
  have hE06 := hE05.trans hE6
  by_cases hst : StableP l.es q
  · rw [tv_yes hst]
    have hfin : finerB q (lev l.es n m4) = true := by
      unfold finerB
      rw [tv_yes]
      exact fun i k hi hk e => stable_finer (n := n) (by omega) hst (fun e he => by
        obtain ⟨j, h0, h1, rfl⟩ := (mem_iff (0, 0, 0) _ _).1 he
        have := (hm.es j h0 h1).1
        unfold EdgeMay at this
        constructor
        · exact this.2.2.1
        · have := this.2.2.2.1; rw [hn] at this; exact this) m4 i k (by omega) (by omega) e
    -- at 111111084
    refine Run.adv 11 [.lit, .lit, .val (.bool true)] (at_ Tryd.f7 [1,1,1,1,1,1,0,8,4]) [(50, .bool true)]
      ((Ct Tryd.prog 22 #[.slice A3 q.length c3, .slice A4 ((lev l.es n m4).length) c4] h6 (fun v_ h_ => v_ = .bool true ∧ h_ = h6)))
      (by as_aux_lemma => kernel_rfl) ((Finer_ct A3 A4 c3 c4 q (lev l.es n m4) _ (hq.ext hE06) (hr4.ext (hE5.trans hE6)) (by omega)).is (by rw [hfin])) fun s_ => ?_
    refine Run.call 25 #[] (some 51) (at_ Tryd.f7 [1,1,1,1,1,1,0,8,5]) (by as_aux_lemma => kernel_rfl) (awake33_ct _ (hT.ext hE06)) ?_
    rintro _ h8 ⟨rfl, hE8⟩
    -- at 1111111
    refine Run.adv 3 [] (at_ Tryd.f7 [1,1,1,1,1,1,1]) [(4, .bool true)]
      (True)
      (by as_aux_lemma => kernel_rfl) trivial fun s_ => ?_
    refine Run.ret [] (.bool true) (True) Tryd.func7 (by as_aux_lemma => kernel_rfl) (by as_aux_lemma => kernel_rfl) trivial ?_
    exact ⟨rfl, (((((hEg1.trans hE2).trans hE4).trans hE5).trans hE6).trans hE8)⟩
  · rw [tv_no hst]
    -- at 11111014080
    refine Run.adv 6 [.lit, .lit] (at_ Tryd.f7 [1,1,1,1,1,0,1,4,0,8,0]) [(1, .slice A3 q.length c3)]
      (True)
      (by as_aux_lemma => kernel_rfl) trivial fun s_ => ?_
    refine Run.call 25 #[] (some 46) (at_ Tryd.f7 [1,1,1,1,1,0,1,4,0,8,1]) (by as_aux_lemma => kernel_rfl) (awake33_ct _ (hT.ext hE06)) ?_
    rintro _ h8 ⟨rfl, hE8⟩
    -- at 111110141
    refine Run.adv 2 [] (at_ Tryd.f7 [1,1,1,1,1,0,1,4,1]) [(4, .bool true)]
      (True)
      (by as_aux_lemma => kernel_rfl) trivial fun s_ => ?_
    refine Run.ret [] (.bool true) (True) Tryd.func7 (by as_aux_lemma => kernel_rfl) (by as_aux_lemma => kernel_rfl) trivial ?_
    exact ⟨rfl, (((((hEg1.trans hE2).trans hE4).trans hE5).trans hE6).trans hE8)⟩
theorem LevelsApart_ct (A : Option Addr) (c : Nat) (xss : List (List Int)) (s t : Int) (h : Heap) (hx : Rows2 h A xss c) (hT : Tab h) :
    Ct Tryd.prog 8 #[.slice A xss.length c, .int .i64 s, .int .i64 t] h (fun v h' => v = .bool true ∧ Ext h h') := by
  refine Ct.enter (args := [.slice A xss.length c, .int .i64 s, .int .i64 t]) Tryd.func8 rfl Tryd.ntmps8 (by simp) fun w hw => ?_
  by_cases h20 : 20 < xss.length
  · -- at 1014080
    refine Run.adv 14 [.dec true] (at_ Tryd.f8 [1,0,1,4,0,8,0]) [(0, .slice A xss.length c)]
      ((decide ((xss.length : Int) > 20)) = true)
      (by as_aux_lemma => kernel_rfl) (by first | assumption | exact decide_eq_true (by first | omega | assumption)) fun s_ => ?_
    refine Run.call 25 #[] (some 12) (at_ Tryd.f8 [1,0,1,4,0,8,1]) (by as_aux_lemma => kernel_rfl) (awake33_ct _ hT) ?_
    rintro _ h8 ⟨rfl, hE8⟩
    -- at 10141
    refine Run.adv 2 [] (at_ Tryd.f8 [1,0,1,4,1]) [(6, .bool true)]
      (True)
      (by as_aux_lemma => kernel_rfl) trivial fun s_ => ?_
    refine Run.ret [] (.bool true) (True) Tryd.func8 (by as_aux_lemma => kernel_rfl) (by as_aux_lemma => kernel_rfl) trivial ?_
    exact ⟨rfl, hE8⟩
  -- at 111012
  refine Run.adv 26 [.dec false] (at_ Tryd.f8 [1,1,1,0,1,2]) [(0, .slice A xss.length c), (1, .int .i64 s), (2, .int .i64 t), (7, .int .i64 (-1)), (8, .int .i64 ((xss.length : Int) - 1))]
    ((decide ((xss.length : Int) > 20)) = false ∧ (-9223372036854775808 ≤ (xss.length : Int) - 1 ∧ (xss.length : Int) - 1 ≤ 9223372036854775807))
    (by as_aux_lemma => kernel_rfl) ⟨(by first | assumption | exact decide_eq_false (by first | omega | assumption)), ⟨by omega, by omega⟩⟩ fun s_ => ?_
  obtain ⟨b, off, hA, hc, hAe, hr⟩ := hx.open_
  refine Run.loop (at_ Tryd.f8 [1,1,1,0,1,2,3]) (at_ Tryd.f8 [1,1,1,0,1,2,7]) (fun (⟨j, r⟩ : Nat × Int) => [(0, .slice A xss.length c), (1, .int .i64 s), (2, .int .i64 t), (7, .int .i64 r), (8, .int .i64 ((j : Int) - 1))])
    (fun ⟨j, r⟩ h' => h' = h ∧ j ≤ xss.length ∧ ((r = -1 ∧ ∀ i : Nat, j ≤ i → i < xss.length → ¬ ApartIn (rd2 xss i) s t) ∨ ∃ i : Nat, r = i ∧ j ≤ i ∧ i < xss.length ∧ ApartIn (rd2 xss i) s t ∧ ∀ k : Nat, j ≤ k → k < i → ¬ ApartIn (rd2 xss k) s t)) (fun ⟨j, r⟩ => j) (xss.length, -1) (by as_aux_lemma => kernel_rfl) rfl ?_ ?_
  · exact ⟨rfl, Nat.le_refl _, .inl ⟨rfl, fun i h1 h2 => by first | omega | (simp only at h1; omega)⟩⟩
  rintro ⟨j, r⟩ s' h' ⟨rfl, hj, hI⟩ again
  simp only at hj hI again
  have hc20 : xss.length ≤ 20 := by omega
  by_cases hlt : (j : Int) - 1 ≥ 0
  · obtain ⟨k, rfl⟩ : ∃ k, j = k + 1 := ⟨j - 1, by omega⟩
    have hk1 : ((k + 1 : Nat) : Int) - 1 = (k : Int) := by omega
    dsimp only
    rw [hk1]
    obtain rfl := hAe (by omega)
    obtain ⟨r1, r2⟩ := hr _ (Ext.refl _) k (by omega) (by omega)
    have no : ¬ ApartIn (rd2 xss k) s t → (r = -1 ∧ ∀ i : Nat, k ≤ i → i < xss.length → ¬ ApartIn (rd2 xss i) s t) ∨ ∃ i : Nat, r = i ∧ k ≤ i ∧ i < xss.length ∧ ApartIn (rd2 xss i) s t ∧ ∀ q : Nat, k ≤ q → q < i → ¬ ApartIn (rd2 xss q) s t := fun hno => by
      rcases hI with ⟨a1, a2⟩ | ⟨i, a1, a2, a3, a4, a5⟩
      · refine .inl ⟨a1, fun i h1 h2 => ?_⟩
        by_cases e : i = k
        · subst e; exact hno
        · exact a2 i (by omega) h2
      · refine .inr ⟨i, a1, by omega, a3, a4, fun q h1 h2 => ?_⟩
        by_cases e : q = k
        · subst e; exact hno
        · exact a5 q (by omega) h2
    by_cases e1 : s ≥ 0
    rotate_left
    · -- at 1110127
      refine Run.adv 20 [.dec true, .draw, .dec false, .lit, .lit, .lit, .lit, .lit, .lit, .lit, .lit, .lit, .lit, .lit, .lit, .lit, .lit, .lit, .lit, .lit, .lit, .lit, .lit, .lit, .lit, .lit, .lit, .lit, .lit, .lit, .lit, .lit, .lit, .lit] (at_ Tryd.f8 [1,1,1,0,1,2,7]) [(0, .slice (some ⟨b, off, none⟩) xss.length c), (1, .int .i64 s), (2, .int .i64 t), (7, .int .i64 r), (8, .int .i64 ((k : Int) - 1))]
        ((decide ((k : Int) ≥ 0)) = true ∧ LexOk (opsAt (at_ Tryd.f8 [1,1,1,0,1,2,3,1,0,2,0])) ∧ (decide (s ≥ 0)) = false ∧ (-9223372036854775808 ≤ (k : Int) - 1 ∧ (k : Int) - 1 ≤ 9223372036854775807))
        (by as_aux_lemma => kernel_rfl) ⟨(by first | assumption | exact decide_eq_true (by first | omega | assumption)), lx_8_11101231020, (by first | assumption | exact decide_eq_false (by first | omega | assumption)), ⟨by omega, by omega⟩⟩ fun s_ => ?_
      exact again (k, r) _ _ ⟨rfl, by simp only; omega, no fun hh => e1 hh.1⟩ (by simp only; omega)
    by_cases e2 : t ≥ 0
    rotate_left
    · -- at 1110127
      refine Run.adv 20 [.dec true, .draw, .dec true, .lit, .dec false, .lit, .lit, .lit, .lit, .lit, .lit, .lit, .lit, .lit, .lit, .lit, .lit, .lit, .lit, .lit, .lit, .lit, .lit, .lit, .lit, .lit, .lit, .lit, .lit, .lit, .lit, .lit, .lit, .lit] (at_ Tryd.f8 [1,1,1,0,1,2,7]) [(0, .slice (some ⟨b, off, none⟩) xss.length c), (1, .int .i64 s), (2, .int .i64 t), (7, .int .i64 r), (8, .int .i64 ((k : Int) - 1))]
        ((decide ((k : Int) ≥ 0)) = true ∧ LexOk (opsAt (at_ Tryd.f8 [1,1,1,0,1,2,3,1,0,2,0])) ∧ (decide (s ≥ 0)) = true ∧ (decide (t ≥ 0)) = false ∧ (-9223372036854775808 ≤ (k : Int) - 1 ∧ (k : Int) - 1 ≤ 9223372036854775807))
        (by as_aux_lemma => kernel_rfl) ⟨(by first | assumption | exact decide_eq_true (by first | omega | assumption)), lx_8_11101231020, (by first | assumption | exact decide_eq_true (by first | omega | assumption)), (by first | assumption | exact decide_eq_false (by first | omega | assumption)), ⟨by omega, by omega⟩⟩ fun s_ => ?_
      exact again (k, r) _ _ ⟨rfl, by simp only; omega, no fun hh => e2 hh.2.1⟩ (by simp only; omega)
    by_cases e3 : s < (rd2 xss (k : Int)).length
    rotate_left
    · -- at 1110127
      refine Run.adv 20 [.dec true, .draw, .dec true, .lit, .dec true, .lit, .lit, .lit, .lit, .val (.slice (hA (k : Int)) ((rd2 xss (k : Int)).length) (hc (k : Int))), .lit, .lit, .dec false, .lit, .lit, .lit, .lit, .lit, .lit, .lit, .lit, .lit, .lit, .lit, .lit, .lit, .lit, .lit, .lit, .lit, .lit, .lit, .lit, .lit, .lit] (at_ Tryd.f8 [1,1,1,0,1,2,7]) [(0, .slice (some ⟨b, off, none⟩) xss.length c), (1, .int .i64 s), (2, .int .i64 t), (7, .int .i64 r), (8, .int .i64 ((k : Int) - 1))]
        ((decide ((k : Int) ≥ 0)) = true ∧ LexOk (opsAt (at_ Tryd.f8 [1,1,1,0,1,2,3,1,0,2,0])) ∧ (decide (s ≥ 0)) = true ∧ (decide (t ≥ 0)) = true ∧ (0 ≤ (k : Int) ∧ (k : Int) < (xss.length : Int)) ∧ cellH h' ⟨b, off + (k : Int).toNat, none⟩ = some (.slice (hA (k : Int)) ((rd2 xss (k : Int)).length) (hc (k : Int))) ∧ (decide (s < ((rd2 xss (k : Int)).length : Int))) = false ∧ (-9223372036854775808 ≤ (k : Int) - 1 ∧ (k : Int) - 1 ≤ 9223372036854775807))
        (by as_aux_lemma => kernel_rfl) ⟨(by first | assumption | exact decide_eq_true (by first | omega | assumption)), lx_8_11101231020, (by first | assumption | exact decide_eq_true (by first | omega | assumption)), (by first | assumption | exact decide_eq_true (by first | omega | assumption)), ⟨by omega, by omega⟩, (r1), (by first | assumption | exact decide_eq_false (by first | omega | assumption)), ⟨by omega, by omega⟩⟩ fun s_ => ?_
      exact again (k, r) _ _ ⟨rfl, by simp only; omega, no fun hh => e3 hh.2.2.1⟩ (by simp only; omega)
    by_cases e4 : t < (rd2 xss (k : Int)).length
    rotate_left
    · -- at 1110127
      refine Run.adv 20 [.dec true, .draw, .dec true, .lit, .dec true, .lit, .lit, .lit, .lit, .val (.slice (hA (k : Int)) ((rd2 xss (k : Int)).length) (hc (k : Int))), .lit, .lit, .dec true, .lit, .lit, .lit, .lit, .val (.slice (hA (k : Int)) ((rd2 xss (k : Int)).length) (hc (k : Int))), .lit, .lit, .dec false, .lit, .lit, .lit, .lit, .lit, .lit, .lit, .lit, .lit, .lit, .lit, .lit, .lit, .lit, .lit] (at_ Tryd.f8 [1,1,1,0,1,2,7]) [(0, .slice (some ⟨b, off, none⟩) xss.length c), (1, .int .i64 s), (2, .int .i64 t), (7, .int .i64 r), (8, .int .i64 ((k : Int) - 1))]
        ((decide ((k : Int) ≥ 0)) = true ∧ LexOk (opsAt (at_ Tryd.f8 [1,1,1,0,1,2,3,1,0,2,0])) ∧ (decide (s ≥ 0)) = true ∧ (decide (t ≥ 0)) = true ∧ (0 ≤ (k : Int) ∧ (k : Int) < (xss.length : Int)) ∧ cellH h' ⟨b, off + (k : Int).toNat, none⟩ = some (.slice (hA (k : Int)) ((rd2 xss (k : Int)).length) (hc (k : Int))) ∧ (decide (s < ((rd2 xss (k : Int)).length : Int))) = true ∧ (0 ≤ (k : Int) ∧ (k : Int) < (xss.length : Int)) ∧ cellH h' ⟨b, off + (k : Int).toNat, none⟩ = some (.slice (hA (k : Int)) ((rd2 xss (k : Int)).length) (hc (k : Int))) ∧ (decide (t < ((rd2 xss (k : Int)).length : Int))) = false ∧ (-9223372036854775808 ≤ (k : Int) - 1 ∧ (k : Int) - 1 ≤ 9223372036854775807))
        (by as_aux_lemma => kernel_rfl) ⟨(by first | assumption | exact decide_eq_true (by first | omega | assumption)), lx_8_11101231020, (by first | assumption | exact decide_eq_true (by first | omega | assumption)), (by first | assumption | exact decide_eq_true (by first | omega | assumption)), ⟨by omega, by omega⟩, (r1), (by first | assumption | exact decide_eq_true (by first | omega | assumption)), ⟨by omega, by omega⟩, (r1), (by first | assumption | exact decide_eq_false (by first | omega | assumption)), ⟨by omega, by omega⟩⟩ fun s_ => ?_
      exact again (k, r) _ _ ⟨rfl, by simp only; omega, no fun hh => e4 hh.2.2.2.1⟩ (by simp only; omega)
    obtain ⟨b1, o1, hA1, hp1⟩ := r2.open_ (by omega)
    rw [hA1] at r1
    by_cases e5 : rd (rd2 xss (k : Int)) s = rd (rd2 xss (k : Int)) t
    · -- at 1110127
      refine Run.adv 20 [.dec true, .draw, .dec true, .lit, .dec true, .lit, .lit, .lit, .lit, .val (.slice (some ⟨b1, o1, none⟩) ((rd2 xss (k : Int)).length) (hc (k : Int))), .lit, .lit, .dec true, .lit, .lit, .lit, .lit, .val (.slice (some ⟨b1, o1, none⟩) ((rd2 xss (k : Int)).length) (hc (k : Int))), .lit, .lit, .dec true, .lit, .lit, .lit, .val (.slice (some ⟨b1, o1, none⟩) ((rd2 xss (k : Int)).length) (hc (k : Int))), .lit, .lit, .lit, .val (.int .i64 (rd (rd2 xss (k : Int)) s)), .lit, .lit, .lit, .lit, .val (.slice (some ⟨b1, o1, none⟩) ((rd2 xss (k : Int)).length) (hc (k : Int))), .lit, .lit, .lit, .val (.int .i64 (rd (rd2 xss (k : Int)) t)), .lit, .dec false] (at_ Tryd.f8 [1,1,1,0,1,2,7]) [(0, .slice (some ⟨b, off, none⟩) xss.length c), (1, .int .i64 s), (2, .int .i64 t), (7, .int .i64 r), (8, .int .i64 ((k : Int) - 1))]
        ((decide ((k : Int) ≥ 0)) = true ∧ LexOk (opsAt (at_ Tryd.f8 [1,1,1,0,1,2,3,1,0,2,0])) ∧ (decide (s ≥ 0)) = true ∧ (decide (t ≥ 0)) = true ∧ (0 ≤ (k : Int) ∧ (k : Int) < (xss.length : Int)) ∧ cellH h' ⟨b, off + (k : Int).toNat, none⟩ = some (.slice (some ⟨b1, o1, none⟩) ((rd2 xss (k : Int)).length) (hc (k : Int))) ∧ (decide (s < ((rd2 xss (k : Int)).length : Int))) = true ∧ (0 ≤ (k : Int) ∧ (k : Int) < (xss.length : Int)) ∧ cellH h' ⟨b, off + (k : Int).toNat, none⟩ = some (.slice (some ⟨b1, o1, none⟩) ((rd2 xss (k : Int)).length) (hc (k : Int))) ∧ (decide (t < ((rd2 xss (k : Int)).length : Int))) = true ∧ (0 ≤ (k : Int) ∧ (k : Int) < (xss.length : Int)) ∧ cellH h' ⟨b, off + (k : Int).toNat, none⟩ = some (.slice (some ⟨b1, o1, none⟩) ((rd2 xss (k : Int)).length) (hc (k : Int))) ∧ (0 ≤ s ∧ s < ((rd2 xss (k : Int)).length : Int)) ∧ cellH h' ⟨b1, o1 + s.toNat, none⟩ = some (.int .i64 (rd (rd2 xss (k : Int)) s)) ∧ (0 ≤ (k : Int) ∧ (k : Int) < (xss.length : Int)) ∧ cellH h' ⟨b, off + (k : Int).toNat, none⟩ = some (.slice (some ⟨b1, o1, none⟩) ((rd2 xss (k : Int)).length) (hc (k : Int))) ∧ (0 ≤ t ∧ t < ((rd2 xss (k : Int)).length : Int)) ∧ cellH h' ⟨b1, o1 + t.toNat, none⟩ = some (.int .i64 (rd (rd2 xss (k : Int)) t)) ∧ ((rd (rd2 xss (k : Int)) s) != (rd (rd2 xss (k : Int)) t)) = false ∧ (-9223372036854775808 ≤ (k : Int) - 1 ∧ (k : Int) - 1 ≤ 9223372036854775807))
        (by as_aux_lemma => kernel_rfl) ⟨(by first | assumption | exact decide_eq_true (by first | omega | assumption)), lx_8_11101231020, (by first | assumption | exact decide_eq_true (by first | omega | assumption)), (by first | assumption | exact decide_eq_true (by first | omega | assumption)), ⟨by omega, by omega⟩, (r1), (by first | assumption | exact decide_eq_true (by first | omega | assumption)), ⟨by omega, by omega⟩, (r1), (by first | assumption | exact decide_eq_true (by first | omega | assumption)), ⟨by omega, by omega⟩, (r1), ⟨by omega, by omega⟩, (hp1 _ (Ext.refl _) s (by omega) (by omega)), ⟨by omega, by omega⟩, (r1), ⟨by omega, by omega⟩, (hp1 _ (Ext.refl _) t (by omega) (by omega)), (bne_eq_false_iff_eq.2 (by first | omega | assumption)), ⟨by omega, by omega⟩⟩ fun s_ => ?_
      exact again (k, r) _ _ ⟨rfl, by simp only; omega, no fun hh => hh.2.2.2.2 e5⟩ (by simp only; omega)
    · -- at 1110127
      refine Run.adv 23 [.dec true, .draw, .dec true, .lit, .dec true, .lit, .lit, .lit, .lit, .val (.slice (some ⟨b1, o1, none⟩) ((rd2 xss (k : Int)).length) (hc (k : Int))), .lit, .lit, .dec true, .lit, .lit, .lit, .lit, .val (.slice (some ⟨b1, o1, none⟩) ((rd2 xss (k : Int)).length) (hc (k : Int))), .lit, .lit, .dec true, .lit, .lit, .lit, .val (.slice (some ⟨b1, o1, none⟩) ((rd2 xss (k : Int)).length) (hc (k : Int))), .lit, .lit, .lit, .val (.int .i64 (rd (rd2 xss (k : Int)) s)), .lit, .lit, .lit, .lit, .val (.slice (some ⟨b1, o1, none⟩) ((rd2 xss (k : Int)).length) (hc (k : Int))), .lit, .lit, .lit, .val (.int .i64 (rd (rd2 xss (k : Int)) t)), .lit, .dec true] (at_ Tryd.f8 [1,1,1,0,1,2,7]) [(0, .slice (some ⟨b, off, none⟩) xss.length c), (1, .int .i64 s), (2, .int .i64 t), (7, .int .i64 (k : Int)), (8, .int .i64 ((k : Int) - 1))]
        ((decide ((k : Int) ≥ 0)) = true ∧ LexOk (opsAt (at_ Tryd.f8 [1,1,1,0,1,2,3,1,0,2,0])) ∧ (decide (s ≥ 0)) = true ∧ (decide (t ≥ 0)) = true ∧ (0 ≤ (k : Int) ∧ (k : Int) < (xss.length : Int)) ∧ cellH h' ⟨b, off + (k : Int).toNat, none⟩ = some (.slice (some ⟨b1, o1, none⟩) ((rd2 xss (k : Int)).length) (hc (k : Int))) ∧ (decide (s < ((rd2 xss (k : Int)).length : Int))) = true ∧ (0 ≤ (k : Int) ∧ (k : Int) < (xss.length : Int)) ∧ cellH h' ⟨b, off + (k : Int).toNat, none⟩ = some (.slice (some ⟨b1, o1, none⟩) ((rd2 xss (k : Int)).length) (hc (k : Int))) ∧ (decide (t < ((rd2 xss (k : Int)).length : Int))) = true ∧ (0 ≤ (k : Int) ∧ (k : Int) < (xss.length : Int)) ∧ cellH h' ⟨b, off + (k : Int).toNat, none⟩ = some (.slice (some ⟨b1, o1, none⟩) ((rd2 xss (k : Int)).length) (hc (k : Int))) ∧ (0 ≤ s ∧ s < ((rd2 xss (k : Int)).length : Int)) ∧ cellH h' ⟨b1, o1 + s.toNat, none⟩ = some (.int .i64 (rd (rd2 xss (k : Int)) s)) ∧ (0 ≤ (k : Int) ∧ (k : Int) < (xss.length : Int)) ∧ cellH h' ⟨b, off + (k : Int).toNat, none⟩ = some (.slice (some ⟨b1, o1, none⟩) ((rd2 xss (k : Int)).length) (hc (k : Int))) ∧ (0 ≤ t ∧ t < ((rd2 xss (k : Int)).length : Int)) ∧ cellH h' ⟨b1, o1 + t.toNat, none⟩ = some (.int .i64 (rd (rd2 xss (k : Int)) t)) ∧ ((rd (rd2 xss (k : Int)) s) != (rd (rd2 xss (k : Int)) t)) = true ∧ (-9223372036854775808 ≤ (k : Int) - 1 ∧ (k : Int) - 1 ≤ 9223372036854775807))
        (by as_aux_lemma => kernel_rfl) ⟨(by first | assumption | exact decide_eq_true (by first | omega | assumption)), lx_8_11101231020, (by first | assumption | exact decide_eq_true (by first | omega | assumption)), (by first | assumption | exact decide_eq_true (by first | omega | assumption)), ⟨by omega, by omega⟩, (r1), (by first | assumption | exact decide_eq_true (by first | omega | assumption)), ⟨by omega, by omega⟩, (r1), (by first | assumption | exact decide_eq_true (by first | omega | assumption)), ⟨by omega, by omega⟩, (r1), ⟨by omega, by omega⟩, (hp1 _ (Ext.refl _) s (by omega) (by omega)), ⟨by omega, by omega⟩, (r1), ⟨by omega, by omega⟩, (hp1 _ (Ext.refl _) t (by omega) (by omega)), (bne_iff_ne.2 (by first | omega | assumption)), ⟨by omega, by omega⟩⟩ fun s_ => ?_
      exact again (k, (k : Int)) _ _ ⟨rfl, by simp only; omega, .inr ⟨k, rfl, Nat.le_refl _, by omega, ⟨e1, e2, e3, e4, e5⟩, fun q h1 h2 => by first | omega | (simp only at h1; omega)⟩⟩ (by simp only; omega)
  · have hj0 : j = 0 := by omega
    have hR : IsApart xss s t r := by
      rcases hI with ⟨a1, a2⟩ | ⟨i, a1, a2, a3, a4, a5⟩
      · exact .inl ⟨a1, fun i h2 => a2 i (by omega) h2⟩
      · exact .inr ⟨i, a1, a3, a4, fun q h2 => a5 q (by omega) h2⟩
    -- at 1111083
    refine Run.adv 13 [.dec false] (at_ Tryd.f8 [1,1,1,1,0,8,3]) [(7, .int .i64 r), (62, .slice A xss.length c), (63, .int .i64 s), (64, .int .i64 t)]
      ((decide ((j : Int) - 1 ≥ 0)) = false)
      (by as_aux_lemma => kernel_rfl) (by first | assumption | exact decide_eq_false (by first | omega | assumption)) fun s_ => ?_
    refine Run.call 30 #[.slice A xss.length c, .int .i64 s, .int .i64 t] (some 65) (at_ Tryd.f8 [1,1,1,1,0,8,4]) (by as_aux_lemma => kernel_rfl) (apart_is A c xss s t r _ hx hR) ?_
    rintro _ h7 ⟨rfl, hE7⟩
    -- at 1111087
    refine Run.adv 3 [] (at_ Tryd.f8 [1,1,1,1,0,8,7]) [(68, .bool (r == r))]
      (True)
      (by as_aux_lemma => kernel_rfl) trivial fun s_ => ?_
    rw [show (r == r) = true from beq_self_eq_true r]
    refine Run.call 25 #[] (some 69) (at_ Tryd.f8 [1,1,1,1,0,8,8]) (by as_aux_lemma => kernel_rfl) (awake33_ct _ (hT.ext hE7)) ?_
    rintro _ h8 ⟨rfl, hE8⟩
    -- at 11111
    refine Run.adv 3 [] (at_ Tryd.f8 [1,1,1,1,1]) [(6, .bool true)]
      (True)
      (by as_aux_lemma => kernel_rfl) trivial fun s_ => ?_
    refine Run.ret [] (.bool true) (True) Tryd.func8 (by as_aux_lemma => kernel_rfl) (by as_aux_lemma => kernel_rfl) trivial ?_
    exact ⟨rfl, hE7.trans hE8⟩
end Go.Proofs.YtbajgbkkbabmlaaDoor
