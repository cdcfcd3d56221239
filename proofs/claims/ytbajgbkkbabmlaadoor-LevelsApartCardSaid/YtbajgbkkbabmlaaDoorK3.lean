/- SignOf, SignSteps, walked. -/
import Derived.Test.YtbajgbkkbabmlaaDoorProg
import Derived.Test.YtbajgbkkbabmlaaDoorK2
set_option linter.unusedVariables false
namespace Go.Proofs.YtbajgbkkbabmlaaDoor
open Go.Vc

theorem mayB_yes {l : Lt} (h : May l) : mayB l = true := tv_yes h
theorem mayB_no {l : Lt} (h : ¬ May l) : mayB l = false := tv_no h
theorem rd_stepL {es : List Ed} {p : List Int} {i k : Nat} (hi : i < p.length) (hk : k < p.length) (h : rd (stepL es p) i = rd (stepL es p) k) : rd p i = rd p k := by
  rw [rd_ker (by rw [stepL_len]; exact hi) (by rw [stepL_len]; exact hk)] at h
  unfold stepL at h
  rw [kerL_plainK (stepR_eqv _ _) _ hi hk] at h
  have := step_fin es (plainL p) p.length i k hi hk h
  rw [kerL_plain p hi hk] at this
  exact (rd_ker hi hk).2 this
theorem SignOf_ct (A1 A2 A3 : Option Addr) (c1 c2 c3 : Nat) (l : Lt) (p : List Int) (node : Int) (h : Heap) (hx : LtAt h l A1 c1 A2 c2) (hp : Ints h A3 p c3) (hT : Tab h) :
    Ct Tryd.prog 3 #[.agg #[.int .i64 l.n, .slice A1 l.ls.length c1, .slice A2 l.es.length c2], .slice A3 p.length c3, .int .i64 node] h (fun v h' => v = .bool true ∧ Ext h h') := by
  refine Ct.enter (args := [.agg #[.int .i64 l.n, .slice A1 l.ls.length c1, .slice A2 l.es.length c2], .slice A3 p.length c3, .int .i64 node]) Tryd.func3 rfl Tryd.ntmps3 (by simp) fun w hw => ?_
  -- at 080
  refine Run.adv 2 [] (at_ Tryd.f3 [0,8,0]) [(0, .agg #[.int .i64 l.n, .slice A1 l.ls.length c1, .slice A2 l.es.length c2]), (1, .slice A3 p.length c3), (2, .int .i64 node)]
    (True)
    (by as_aux_lemma => kernel_rfl) trivial fun s_ => ?_
  refine Run.new #[.int .i64 l.n, .slice A1 l.ls.length c1, .slice A2 l.es.length c2] 25 (fun g_ => .pointer (some ⟨g_, 0, none⟩)) (some 3) (at_ Tryd.f3 [0,8,1]) (by as_aux_lemma => kernel_rfl) fun g1 h1 hng1 hEg1 hBg1 => ?_
  -- at 10082
  refine Run.adv 7 [.val (.agg #[.int .i64 l.n, .slice A1 l.ls.length c1, .slice A2 l.es.length c2])] (at_ Tryd.f3 [1,0,0,8,2]) [(0, .agg #[.int .i64 l.n, .slice A1 l.ls.length c1, .slice A2 l.es.length c2]), (1, .slice A3 p.length c3), (2, .int .i64 node), (3, .pointer (some ⟨g1, 0, none⟩)), (6, .bool false), (9, .agg #[.int .i64 l.n, .slice A1 l.ls.length c1, .slice A2 l.es.length c2]), (10, .slice A3 p.length c3)]
    (cellsAt h1 ⟨g1, 0, none⟩ [.int .i64 l.n, .slice A1 l.ls.length c1, .slice A2 l.es.length c2] 0)
    (by as_aux_lemma => kernel_rfl) (hBg1.all (Ext.refl _)) fun s_ => ?_
  refine Run.call 10 #[.agg #[.int .i64 l.n, .slice A1 l.ls.length c1, .slice A2 l.es.length c2], .slice A3 p.length c3] (some 11) (at_ Tryd.f3 [1,0,0,8,3]) (by as_aux_lemma => kernel_rfl) (light32_ct A1 A2 A3 c1 c2 c3 l p _ (hx.ext hEg1)) ?_
  rintro _ h2 ⟨rfl, hE2⟩
  have hE02 := hEg1.trans hE2
  by_cases hS : Small32 l p
  rotate_left
  · rw [tv_no hS]
    -- at 1014080
    refine Run.adv 5 [.lit] (at_ Tryd.f3 [1,0,1,4,0,8,0]) [(1, .slice A3 p.length c3)]
      (True)
      (by as_aux_lemma => kernel_rfl) trivial fun s_ => ?_
    refine Run.call 11 #[] (some 13) (at_ Tryd.f3 [1,0,1,4,0,8,1]) (by as_aux_lemma => kernel_rfl) (awake32_ct _ (hT.ext hE02)) ?_
    rintro _ h3 ⟨rfl, hE3⟩
    -- at 10141
    refine Run.adv 2 [] (at_ Tryd.f3 [1,0,1,4,1]) [(6, .bool true)]
      (True)
      (by as_aux_lemma => kernel_rfl) trivial fun s_ => ?_
    refine Run.ret [] (.bool true) (True) Tryd.func3 (by as_aux_lemma => kernel_rfl) (by as_aux_lemma => kernel_rfl) trivial ?_
    exact ⟨rfl, ((hEg1.trans hE2).trans hE3)⟩
  rw [tv_yes hS]
  have hl8 := hS.2.2.2.2
  have hp30 := hS.2.2.1
  -- at 11083
  refine Run.adv 9 [.lit, .val (.agg #[.int .i64 l.n, .slice A1 l.ls.length c1, .slice A2 l.es.length c2])] (at_ Tryd.f3 [1,1,0,8,3]) [(1, .slice A3 p.length c3), (2, .int .i64 node), (3, .pointer (some ⟨g1, 0, none⟩)), (15, .agg #[.int .i64 l.n, .slice A1 l.ls.length c1, .slice A2 l.es.length c2]), (16, .slice A3 p.length c3), (17, .int .i64 node)]
    (cellsAt h2 ⟨g1, 0, none⟩ [.int .i64 l.n, .slice A1 l.ls.length c1, .slice A2 l.es.length c2] 0)
    (by as_aux_lemma => kernel_rfl) (hBg1.all hE2) fun s_ => ?_
  by_cases hG : Good l p ∧ 0 ≤ node ∧ node < l.n
  · obtain ⟨⟨hm, hn⟩, h0, hlt⟩ := hG
    have hlen := hm.len
    obtain ⟨nd, rfl⟩ := Int.eq_ofNat_of_zero_le h0
    have hpl := plainL_len p
    refine Run.call 12 #[.agg #[.int .i64 l.n, .slice A1 l.ls.length c1, .slice A2 l.es.length c2], .slice A3 p.length c3, .int .i64 (nd : Int)] (some 18) (at_ Tryd.f3 [1,1,0,8,4]) (by as_aux_lemma => kernel_rfl) (ofOk_ct A1 A2 A3 c1 c2 c3 l p nd _ (hx.ext hE02) (hp.ext hE02) hm hn (by omega)) ?_
    rintro v h3 ⟨w, og, rfl, hO, hE3⟩
    have hwl := waysOf_len l.es (plainL p) nd
    obtain ⟨A4, c4, rfl, hr4⟩ := hO.rowK (d := (0, 0)) encW_len (by omega)
    have hE03 := hE02.trans hE3
    -- at 1110081
    refine Run.adv 10 [.val (.agg #[.int .i64 l.n, .slice A1 l.ls.length c1, .slice A2 l.es.length c2])] (at_ Tryd.f3 [1,1,1,0,0,8,1]) [(1, .slice A3 p.length c3), (2, .int .i64 (nd : Int)), (3, .pointer (some ⟨g1, 0, none⟩)), (7, .slice A4 ((waysOf l.es (plainL p) nd).length) c4), (8, .int .i64 0), (21, .agg #[.int .i64 l.n, .slice A1 l.ls.length c1, .slice A2 l.es.length c2])]
      (cellsAt h3 ⟨g1, 0, none⟩ [.int .i64 l.n, .slice A1 l.ls.length c1, .slice A2 l.es.length c2] 0)
      (by as_aux_lemma => kernel_rfl) (hBg1.all (hE2.trans hE3)) fun s_ => ?_
    refine Run.call 13 #[.agg #[.int .i64 l.n, .slice A1 l.ls.length c1, .slice A2 l.es.length c2]] (some 22) (at_ Tryd.f3 [1,1,1,0,0,8,2]) (by as_aux_lemma => kernel_rfl) (May_ct A1 A2 c1 c2 l _ (hx.ext hE03)) ?_
    rintro _ h4 ⟨rfl, hE4⟩
    have hmb := mayB_yes hm
    rw [hmb]
    have hE04 := hE03.trans hE4
    -- at 11110
    refine Run.adv 22 [.lit, .lit, .lit, .lit, .val (.int .i64 l.n), .lit, .dec false, .lit, .dec false, .lit, .lit, .val (.int .i64 l.n), .lit, .dec false] (at_ Tryd.f3 [1,1,1,1,0]) [(1, .slice A3 p.length c3), (2, .int .i64 (nd : Int)), (3, .pointer (some ⟨g1, 0, none⟩)), (7, .slice A4 ((waysOf l.es (plainL p) nd).length) c4), (8, .int .i64 0)]
      (cellH h4 ⟨g1, 0, none⟩ = some (.int .i64 l.n) ∧ ((p.length : Int) != l.n) = false ∧ (decide ((nd : Int) < 0)) = false ∧ cellH h4 ⟨g1, 0, none⟩ = some (.int .i64 l.n) ∧ (decide ((nd : Int) ≥ l.n)) = false)
      (by as_aux_lemma => kernel_rfl) ⟨(hBg1.at ((hE2.trans hE3).trans hE4) 0 rfl), (bne_eq_false_iff_eq.2 (by first | omega | assumption)), (by first | assumption | exact decide_eq_false (by first | omega | assumption)), (hBg1.at ((hE2.trans hE3).trans hE4) 0 rfl), (by first | assumption | exact decide_eq_false (by first | omega | assumption))⟩ fun s_ => ?_
    refine Run.any (opsAt (at_ Tryd.f3 [1,1,1,1,0])) (at_ Tryd.f3 [1,1,1,1,1]) (fun H => Mod none h4 H) [0, 1, 2, 3, 4, 5, 7, 10, 11, 13, 14] [0, 1, 2, 3, 4, 5, 7] [.lit, .lit, .val (.agg #[.int .i64 l.n, .slice A1 l.ls.length c1, .slice A2 l.es.length c2]), .lit, .lit] #[true, true, true, true, true, true, false, true, false, false, false, false, false, false, false] [(1, .slice A3 p.length c3), (2, .int .i64 (nd : Int)), (3, .pointer (some ⟨g1, 0, none⟩)), (7, .slice A4 ((waysOf l.es (plainL p) nd).length) c4), (8, .int .i64 0), (51, .int .i64 0), (52, .bool true), (53, .bool true), (54, .slice A4 ((waysOf l.es (plainL p) nd).length) c4), (55, .agg #[.int .i64 l.n, .slice A1 l.ls.length c1, .slice A2 l.es.length c2]), (56, .slice A3 p.length c3), (58, .int .i64 (nd : Int))]
      (fun H => cellsAt H ⟨g1, 0, none⟩ [.int .i64 l.n, .slice A1 l.ls.length c1, .slice A2 l.es.length c2] 0) 8 (by as_aux_lemma => kernel_rfl) (by as_aux_lemma => kernel_rfl) ((Ext.refl _).mod _)
      (by as_aux_lemma => kernel_rfl) (fun H hC => (hBg1.all (((hE2.trans hE3).trans hE4).trans hC.none_ext))) fun s_ => ?_
    refine RunA.call 7 16 #[.slice A3 p.length c3] (some 57) false #[true, true, true, true, true, true, true, true, false, false, false, false, false, false, false] (by as_aux_lemma => kernel_rfl) (PlainR_ct A3 c3 p _ (hp.ext hE04) (by omega)) ?_
    rintro v h5 ⟨og5, hO5, hE5, -⟩
    refine ⟨fun _ => (((Ext.refl _).mod _).trans (hE5.mod _)), ?_⟩
    obtain ⟨A6, c6, rfl, hr6⟩ := hO5.row1 (d := 0) (by omega)
    refine RunA.call 6 15 #[.agg #[.int .i64 l.n, .slice A1 l.ls.length c1, .slice A2 l.es.length c2], .slice A6 ((plainL p).length) c6, .int .i64 (nd : Int)] (some 59) false #[true, true, true, true, true, true, true, true, true, false, false, false, false, false, false] (by as_aux_lemma => kernel_rfl) (refOf_ct A1 A2 A6 c1 c2 c6 l (plainL p) nd _ (hx.ext (hE04.trans hE5)) hr6 hm (by omega) (plain_plain p)) ?_
    rintro v h6 ⟨og6, hO6, hE6, -⟩
    refine ⟨fun _ => ((((Ext.refl _).mod _).trans (hE5.mod _)).trans (hE6.mod _)), ?_⟩
    obtain ⟨A7, c7, rfl, hr7⟩ := hO6.rowK (d := (0, 0)) encW_len (by omega)
    refine RunA.call 5 14 #[.slice A4 ((waysOf l.es (plainL p) nd).length) c4, .slice A7 ((waysOf l.es (plainL p) nd).length) c7] (some 60) false #[true, true, true, true, true, true, true, true, true, true, false, false, false, false, false] (by as_aux_lemma => kernel_rfl) (((SameW_ct A4 A7 c4 c7 _ _ _ (Vc.RowK.ext hr4 ((hE4.trans hE5).trans hE6)) hr7).is (by rw [decide_eq_true rfl])).toE) ?_
    rintro _ h7 ⟨rfl, hE7⟩
    refine ⟨fun _ => (((((Ext.refl _).mod _).trans (hE5.mod _)).trans (hE6.mod _)).trans (hE7.mod _)), ?_⟩
    refine RunA.adv [10, 11] [] #[true, true, true, true, true, true, true, true, true, true, true, true, false, false, false] [(1, .slice A3 p.length c3), (2, .int .i64 (nd : Int)), (3, .pointer (some ⟨g1, 0, none⟩)), (7, .slice A4 ((waysOf l.es (plainL p) nd).length) c4), (8, .int .i64 0), (51, .int .i64 0), (52, .bool true), (53, .bool true), (54, .slice A4 ((waysOf l.es (plainL p) nd).length) c4), (55, .agg #[.int .i64 l.n, .slice A1 l.ls.length c1, .slice A2 l.es.length c2]), (56, .slice A3 p.length c3), (57, .slice A6 ((plainL p).length) c6), (58, .int .i64 (nd : Int)), (59, .slice A7 ((waysOf l.es (plainL p) nd).length) c7), (60, .bool true), (61, .bool true), (62, .bool true)]
      (fun H => True) 3 (by as_aux_lemma => kernel_rfl) (((((Ext.refl _).mod _).trans (hE5.mod _)).trans (hE6.mod _)).trans (hE7.mod _))
      (by as_aux_lemma => kernel_rfl) (fun H hC => trivial) fun s_ => ?_
    refine RunA.call 2 11 #[] (some 63) false #[true, true, true, true, true, true, true, true, true, true, true, true, true, false, false] (by as_aux_lemma => kernel_rfl) (awake32_ct _ (hT.ext ((((((hEg1.trans hE2).trans hE3).trans hE4).trans hE5).trans hE6).trans hE7))) ?_
    rintro _ h8 ⟨rfl, hE8⟩
    refine ⟨fun _ => ((((((Ext.refl _).mod _).trans (hE5.mod _)).trans (hE6.mod _)).trans (hE7.mod _)).trans (hE8.mod _)), ?_⟩
    refine RunA.adv [13, 14] [] #[true, true, true, true, true, true, true, true, true, true, true, true, true, true, true] [(1, .slice A3 p.length c3), (2, .int .i64 (nd : Int)), (3, .pointer (some ⟨g1, 0, none⟩)), (6, .bool true), (7, .slice A4 ((waysOf l.es (plainL p) nd).length) c4), (8, .int .i64 0), (51, .int .i64 0), (52, .bool true), (53, .bool true), (54, .slice A4 ((waysOf l.es (plainL p) nd).length) c4), (55, .agg #[.int .i64 l.n, .slice A1 l.ls.length c1, .slice A2 l.es.length c2]), (56, .slice A3 p.length c3), (57, .slice A6 ((plainL p).length) c6), (58, .int .i64 (nd : Int)), (59, .slice A7 ((waysOf l.es (plainL p) nd).length) c7), (60, .bool true), (61, .bool true), (62, .bool true), (63, .bool true), (64, .bool true)]
      (fun H => True) 0 (by as_aux_lemma => kernel_rfl) ((((((Ext.refl _).mod _).trans (hE5.mod _)).trans (hE6.mod _)).trans (hE7.mod _)).trans (hE8.mod _))
      (by as_aux_lemma => kernel_rfl) (fun H hC => trivial) fun s_ => ?_
    refine RunA.done [(1, .slice A3 p.length c3), (2, .int .i64 (nd : Int)), (3, .pointer (some ⟨g1, 0, none⟩)), (6, .bool true), (7, .slice A4 ((waysOf l.es (plainL p) nd).length) c4), (8, .int .i64 0), (51, .int .i64 0), (52, .bool true), (53, .bool true), (54, .slice A4 ((waysOf l.es (plainL p) nd).length) c4), (55, .agg #[.int .i64 l.n, .slice A1 l.ls.length c1, .slice A2 l.es.length c2]), (56, .slice A3 p.length c3), (57, .slice A6 ((plainL p).length) c6), (58, .int .i64 (nd : Int)), (59, .slice A7 ((waysOf l.es (plainL p) nd).length) c7), (60, .bool true), (61, .bool true), (62, .bool true), (63, .bool true), (64, .bool true)] (by as_aux_lemma => kernel_rfl) (by as_aux_lemma => kernel_rfl) fun s_ => ?_
    -- at 11111
    refine Run.adv 0 [] (at_ Tryd.f3 [1,1,1,1,1]) [(6, .bool true)]
      (True)
      (by as_aux_lemma => kernel_rfl) trivial fun s_ => ?_
    refine Run.ret [] (.bool true) (True) Tryd.func3 (by as_aux_lemma => kernel_rfl) (by as_aux_lemma => kernel_rfl) trivial ?_
    exact ⟨rfl, (((((((hEg1.trans hE2).trans hE3).trans hE4).trans hE5).trans hE6).trans hE7).trans hE8)⟩
  · refine Run.call 12 #[.agg #[.int .i64 l.n, .slice A1 l.ls.length c1, .slice A2 l.es.length c2], .slice A3 p.length c3, .int .i64 node] (some 18) (at_ Tryd.f3 [1,1,0,8,4]) (by as_aux_lemma => kernel_rfl) (ofNo_ct A1 A2 A3 c1 c2 c3 l p node _ (hx.ext hE02) (by omega) hG) ?_
    rintro _ h3 ⟨rfl, hE3⟩
    have hE03 := hE02.trans hE3
    -- at 1110081
    refine Run.adv 10 [.val (.agg #[.int .i64 l.n, .slice A1 l.ls.length c1, .slice A2 l.es.length c2])] (at_ Tryd.f3 [1,1,1,0,0,8,1]) [(1, .slice A3 p.length c3), (2, .int .i64 node), (3, .pointer (some ⟨g1, 0, none⟩)), (7, .slice none 0 0), (8, .int .i64 1), (21, .agg #[.int .i64 l.n, .slice A1 l.ls.length c1, .slice A2 l.es.length c2])]
      (cellsAt h3 ⟨g1, 0, none⟩ [.int .i64 l.n, .slice A1 l.ls.length c1, .slice A2 l.es.length c2] 0)
      (by as_aux_lemma => kernel_rfl) (hBg1.all (hE2.trans hE3)) fun s_ => ?_
    refine Run.call 13 #[.agg #[.int .i64 l.n, .slice A1 l.ls.length c1, .slice A2 l.es.length c2]] (some 22) (at_ Tryd.f3 [1,1,1,0,0,8,2]) (by as_aux_lemma => kernel_rfl) (May_ct A1 A2 c1 c2 l _ (hx.ext hE03)) ?_
    rintro _ h4 ⟨rfl, hE4⟩
    have hE04 := hE03.trans hE4
    have tail : ∀ s : Env, Run Tryd.prog 3 65 (at_ Tryd.f3 [1,1,1,0,1,4,0]) (kn [(7, .slice none 0 0), (8, .int .i64 1)] s) h4 (w, false) (fun v h' => v = .bool true ∧ Ext h h') := by
      intro s
      -- at 111014088
      refine Run.adv 9 [.lit, .lit] (at_ Tryd.f3 [1,1,1,0,1,4,0,8,8]) [(48, .bool true)]
        (True)
        (by as_aux_lemma => kernel_rfl) trivial fun s_ => ?_
      refine Run.call 11 #[] (some 49) (at_ Tryd.f3 [1,1,1,0,1,4,0,8,9]) (by as_aux_lemma => kernel_rfl) (awake32_ct _ (hT.ext hE04)) ?_
      rintro _ h8 ⟨rfl, hE8⟩
      -- at 1110141
      refine Run.adv 3 [] (at_ Tryd.f3 [1,1,1,0,1,4,1]) [(6, .bool true)]
        (True)
        (by as_aux_lemma => kernel_rfl) trivial fun s_ => ?_
      refine Run.ret [] (.bool true) (True) Tryd.func3 (by as_aux_lemma => kernel_rfl) (by as_aux_lemma => kernel_rfl) trivial ?_
      exact ⟨rfl, (hE04.trans hE8)⟩
    by_cases hm : May l
    · rw [mayB_yes hm]
      by_cases hn : (p.length : Int) = l.n
      · by_cases h0 : node < 0
        · -- at 1110140
          refine Run.adv 21 [.lit, .lit, .lit, .lit, .val (.int .i64 l.n), .lit, .dec false, .lit, .dec true, .lit, .lit, .lit, .lit] (at_ Tryd.f3 [1,1,1,0,1,4,0]) [(7, .slice none 0 0), (8, .int .i64 1)]
            (cellH h4 ⟨g1, 0, none⟩ = some (.int .i64 l.n) ∧ ((p.length : Int) != l.n) = false ∧ (decide (node < 0)) = true)
            (by as_aux_lemma => kernel_rfl) ⟨(hBg1.at ((hE2.trans hE3).trans hE4) 0 rfl), (bne_eq_false_iff_eq.2 (by first | omega | assumption)), (by first | assumption | exact decide_eq_true (by first | omega | assumption))⟩ fun s_ => ?_
          exact tail _
        · -- at 1110140
          refine Run.adv 21 [.lit, .lit, .lit, .lit, .val (.int .i64 l.n), .lit, .dec false, .lit, .dec false, .lit, .lit, .val (.int .i64 l.n), .lit, .dec true] (at_ Tryd.f3 [1,1,1,0,1,4,0]) [(7, .slice none 0 0), (8, .int .i64 1)]
            (cellH h4 ⟨g1, 0, none⟩ = some (.int .i64 l.n) ∧ ((p.length : Int) != l.n) = false ∧ (decide (node < 0)) = false ∧ cellH h4 ⟨g1, 0, none⟩ = some (.int .i64 l.n) ∧ (decide (node ≥ l.n)) = true)
            (by as_aux_lemma => kernel_rfl) ⟨(hBg1.at ((hE2.trans hE3).trans hE4) 0 rfl), (bne_eq_false_iff_eq.2 (by first | omega | assumption)), (by first | assumption | exact decide_eq_false (by first | omega | assumption)), (hBg1.at ((hE2.trans hE3).trans hE4) 0 rfl), (decide_eq_true (by rcases Int.lt_or_le node l.n with h2 | h2; exact absurd ⟨⟨hm, hn⟩, by omega, h2⟩ hG; exact h2))⟩ fun s_ => ?_
          exact tail _
      · -- at 1110140
        refine Run.adv 21 [.lit, .lit, .lit, .lit, .val (.int .i64 l.n), .lit, .dec true, .lit, .lit, .lit, .lit, .lit, .lit] (at_ Tryd.f3 [1,1,1,0,1,4,0]) [(7, .slice none 0 0), (8, .int .i64 1)]
          (cellH h4 ⟨g1, 0, none⟩ = some (.int .i64 l.n) ∧ ((p.length : Int) != l.n) = true)
          (by as_aux_lemma => kernel_rfl) ⟨(hBg1.at ((hE2.trans hE3).trans hE4) 0 rfl), (bne_iff_ne.2 (by first | omega | assumption))⟩ fun s_ => ?_
        exact tail _
    · rw [mayB_no hm]
      -- at 1110140
      refine Run.adv 21 [.lit, .lit, .lit, .lit, .lit, .lit, .lit, .lit, .lit, .lit, .lit, .lit] (at_ Tryd.f3 [1,1,1,0,1,4,0]) [(7, .slice none 0 0), (8, .int .i64 1)]
        (True)
        (by as_aux_lemma => kernel_rfl) trivial fun s_ => ?_
      exact tail _
theorem SignSteps_ct (A1 A2 A3 : Option Addr) (c1 c2 c3 : Nat) (l : Lt) (p : List Int) (h : Heap) (hx : LtAt h l A1 c1 A2 c2) (hp : Ints h A3 p c3) (hT : Tab h) :
    Ct Tryd.prog 4 #[.agg #[.int .i64 l.n, .slice A1 l.ls.length c1, .slice A2 l.es.length c2], .slice A3 p.length c3] h (fun v h' => v = .bool true ∧ Ext h h') := by
  refine Ct.enter (args := [.agg #[.int .i64 l.n, .slice A1 l.ls.length c1, .slice A2 l.es.length c2], .slice A3 p.length c3]) Tryd.func4 rfl Tryd.ntmps4 (by simp) fun w hw => ?_
  -- at 080
  refine Run.adv 2 [] (at_ Tryd.f4 [0,8,0]) [(0, .agg #[.int .i64 l.n, .slice A1 l.ls.length c1, .slice A2 l.es.length c2]), (1, .slice A3 p.length c3)]
    (True)
    (by as_aux_lemma => kernel_rfl) trivial fun s_ => ?_
  refine Run.new #[.int .i64 l.n, .slice A1 l.ls.length c1, .slice A2 l.es.length c2] 25 (fun g_ => .pointer (some ⟨g_, 0, none⟩)) (some 2) (at_ Tryd.f4 [0,8,1]) (by as_aux_lemma => kernel_rfl) fun g1 h1 hng1 hEg1 hBg1 => ?_
  -- at 10082
  refine Run.adv 7 [.val (.agg #[.int .i64 l.n, .slice A1 l.ls.length c1, .slice A2 l.es.length c2])] (at_ Tryd.f4 [1,0,0,8,2]) [(0, .agg #[.int .i64 l.n, .slice A1 l.ls.length c1, .slice A2 l.es.length c2]), (1, .slice A3 p.length c3), (2, .pointer (some ⟨g1, 0, none⟩)), (4, .bool false), (8, .agg #[.int .i64 l.n, .slice A1 l.ls.length c1, .slice A2 l.es.length c2]), (9, .slice A3 p.length c3)]
    (cellsAt h1 ⟨g1, 0, none⟩ [.int .i64 l.n, .slice A1 l.ls.length c1, .slice A2 l.es.length c2] 0)
    (by as_aux_lemma => kernel_rfl) (hBg1.all (Ext.refl _)) fun s_ => ?_
  refine Run.call 10 #[.agg #[.int .i64 l.n, .slice A1 l.ls.length c1, .slice A2 l.es.length c2], .slice A3 p.length c3] (some 10) (at_ Tryd.f4 [1,0,0,8,3]) (by as_aux_lemma => kernel_rfl) (light32_ct A1 A2 A3 c1 c2 c3 l p _ (hx.ext hEg1)) ?_
  rintro _ h2 ⟨rfl, hE2⟩
  have hE02 := hEg1.trans hE2
  by_cases hS : Small32 l p
  rotate_left
  · rw [tv_no hS]
    -- at 1014080
    refine Run.adv 5 [.lit] (at_ Tryd.f4 [1,0,1,4,0,8,0]) [(1, .slice A3 p.length c3)]
      (True)
      (by as_aux_lemma => kernel_rfl) trivial fun s_ => ?_
    refine Run.call 11 #[] (some 12) (at_ Tryd.f4 [1,0,1,4,0,8,1]) (by as_aux_lemma => kernel_rfl) (awake32_ct _ (hT.ext hE02)) ?_
    rintro _ h3 ⟨rfl, hE3⟩
    -- at 10141
    refine Run.adv 2 [] (at_ Tryd.f4 [1,0,1,4,1]) [(4, .bool true)]
      (True)
      (by as_aux_lemma => kernel_rfl) trivial fun s_ => ?_
    refine Run.ret [] (.bool true) (True) Tryd.func4 (by as_aux_lemma => kernel_rfl) (by as_aux_lemma => kernel_rfl) trivial ?_
    exact ⟨rfl, ((hEg1.trans hE2).trans hE3)⟩
  rw [tv_yes hS]
  have hl8 := hS.2.2.2.2
  have hp30 := hS.2.2.1
  -- at 11082
  refine Run.adv 8 [.lit, .val (.agg #[.int .i64 l.n, .slice A1 l.ls.length c1, .slice A2 l.es.length c2])] (at_ Tryd.f4 [1,1,0,8,2]) [(1, .slice A3 p.length c3), (2, .pointer (some ⟨g1, 0, none⟩)), (14, .agg #[.int .i64 l.n, .slice A1 l.ls.length c1, .slice A2 l.es.length c2]), (15, .slice A3 p.length c3)]
    (cellsAt h2 ⟨g1, 0, none⟩ [.int .i64 l.n, .slice A1 l.ls.length c1, .slice A2 l.es.length c2] 0)
    (by as_aux_lemma => kernel_rfl) (hBg1.all hE2) fun s_ => ?_
  by_cases hG : Good l p
  · obtain ⟨hm, hn⟩ := hG
    have hlen := hm.len
    have hpl := plainL_len p
    have hsl := stepL_len l.es p
    refine Run.call 17 #[.agg #[.int .i64 l.n, .slice A1 l.ls.length c1, .slice A2 l.es.length c2], .slice A3 p.length c3] (some 16) (at_ Tryd.f4 [1,1,0,8,3]) (by as_aux_lemma => kernel_rfl) (stepOk_ct A1 A2 A3 c1 c2 c3 l p _ (hx.ext hE02) (hp.ext hE02) hm hn (hT.ext hE02)) ?_
    rintro v h3 ⟨w5, og, rfl, hO, hE3, -⟩
    obtain ⟨A4, c4, rfl, hr4⟩ := hO.row1 (d := 0) (by omega)
    have hE03 := hE02.trans hE3
    -- at 1110081
    refine Run.adv 10 [.val (.agg #[.int .i64 l.n, .slice A1 l.ls.length c1, .slice A2 l.es.length c2])] (at_ Tryd.f4 [1,1,1,0,0,8,1]) [(1, .slice A3 p.length c3), (2, .pointer (some ⟨g1, 0, none⟩)), (5, .slice A4 ((stepL l.es p).length) c4), (6, .int .i64 0), (19, .agg #[.int .i64 l.n, .slice A1 l.ls.length c1, .slice A2 l.es.length c2])]
      (cellsAt h3 ⟨g1, 0, none⟩ [.int .i64 l.n, .slice A1 l.ls.length c1, .slice A2 l.es.length c2] 0)
      (by as_aux_lemma => kernel_rfl) (hBg1.all (hE2.trans hE3)) fun s_ => ?_
    refine Run.call 13 #[.agg #[.int .i64 l.n, .slice A1 l.ls.length c1, .slice A2 l.es.length c2]] (some 20) (at_ Tryd.f4 [1,1,1,0,0,8,2]) (by as_aux_lemma => kernel_rfl) (May_ct A1 A2 c1 c2 l _ (hx.ext hE03)) ?_
    rintro _ h4 ⟨rfl, hE4⟩
    rw [mayB_yes hm]
    have hE04 := hE03.trans hE4
    -- at 1111082
    refine Run.adv 15 [.lit, .lit, .lit, .lit, .val (.int .i64 l.n), .lit, .dec false, .val (.agg #[.int .i64 l.n, .slice A1 l.ls.length c1, .slice A2 l.es.length c2])] (at_ Tryd.f4 [1,1,1,1,0,8,2]) [(1, .slice A3 p.length c3), (2, .pointer (some ⟨g1, 0, none⟩)), (5, .slice A4 ((stepL l.es p).length) c4), (6, .int .i64 0), (45, .agg #[.int .i64 l.n, .slice A1 l.ls.length c1, .slice A2 l.es.length c2]), (46, .slice A3 p.length c3)]
      (cellH h4 ⟨g1, 0, none⟩ = some (.int .i64 l.n) ∧ ((p.length : Int) != l.n) = false ∧ cellsAt h4 ⟨g1, 0, none⟩ [.int .i64 l.n, .slice A1 l.ls.length c1, .slice A2 l.es.length c2] 0)
      (by as_aux_lemma => kernel_rfl) ⟨(hBg1.at ((hE2.trans hE3).trans hE4) 0 rfl), (bne_eq_false_iff_eq.2 (by first | omega | assumption)), (hBg1.all ((hE2.trans hE3).trans hE4))⟩ fun s_ => ?_
    refine Run.call 19 #[.agg #[.int .i64 l.n, .slice A1 l.ls.length c1, .slice A2 l.es.length c2], .slice A3 p.length c3] (some 47) (at_ Tryd.f4 [1,1,1,1,0,8,3]) (by as_aux_lemma => kernel_rfl) (refStable_ct A1 A2 A3 c1 c2 c3 l p _ (hx.ext hE04) (hp.ext hE04) hm hn) ?_
    rintro _ h5 ⟨rfl, hE5⟩
    have hE05 := hE04.trans hE5
    by_cases hst : StableP l.es p
    · rw [tv_yes hst]
      -- at 111110086
      refine Run.adv 11 [.lit, .lit, .val (.agg #[.int .i64 l.n, .slice A1 l.ls.length c1, .slice A2 l.es.length c2]), .lit] (at_ Tryd.f4 [1,1,1,1,1,0,0,8,6]) [(1, .slice A3 p.length c3), (2, .pointer (some ⟨g1, 0, none⟩)), (5, .slice A4 ((stepL l.es p).length) c4), (6, .int .i64 0), (7, .bool true), (50, .bool false), (51, .slice A4 ((stepL l.es p).length) c4), (52, .agg #[.int .i64 l.n, .slice A1 l.ls.length c1, .slice A2 l.es.length c2]), (53, .slice A3 p.length c3)]
        (cellsAt h5 ⟨g1, 0, none⟩ [.int .i64 l.n, .slice A1 l.ls.length c1, .slice A2 l.es.length c2] 0)
        (by as_aux_lemma => kernel_rfl) (hBg1.all (((hE2.trans hE3).trans hE4).trans hE5)) fun s_ => ?_
      refine Run.call 21 #[.agg #[.int .i64 l.n, .slice A1 l.ls.length c1, .slice A2 l.es.length c2], .slice A3 p.length c3] (some 54) (at_ Tryd.f4 [1,1,1,1,1,0,0,8,7]) (by as_aux_lemma => kernel_rfl) (refStep_ct A1 A2 A3 c1 c2 c3 l p _ (hx.ext hE05) (hp.ext hE05) hm hn) ?_
      rintro v h6 ⟨og6, hO6, hE6, -⟩
      obtain ⟨A6, c6, rfl, hr6⟩ := hO6.row1 (d := 0) (by omega)
      have hr46 := hr4.ext ((hE4.trans hE5).trans hE6)
      have hE06 := hE05.trans hE6
      -- at 1111100819
      refine Run.adv 12 [.lit, .val (.bool true), .lit, .lit, .lit, .lit, .val (.bool true), .lit, .lit, .val (.agg #[.int .i64 l.n, .slice A1 l.ls.length c1, .slice A2 l.es.length c2]), .lit] (at_ Tryd.f4 [1,1,1,1,1,0,0,8,19]) [(1, .slice A3 p.length c3), (2, .pointer (some ⟨g1, 0, none⟩)), (5, .slice A4 ((stepL l.es p).length) c4), (6, .int .i64 0), (7, .bool true), (58, .bool false), (64, .bool false), (65, .agg #[.int .i64 l.n, .slice A1 l.ls.length c1, .slice A2 l.es.length c2]), (66, .slice A3 p.length c3)]
        ((Ct Tryd.prog 20 #[.slice A4 ((stepL l.es p).length) c4, .slice A6 ((stepL l.es p).length) c6] h6 (fun v_ h_ => v_ = .bool true ∧ h_ = h6)) ∧ (Ct Tryd.prog 22 #[.slice A4 ((stepL l.es p).length) c4, .slice A3 p.length c3] h6 (fun v_ h_ => v_ = .bool true ∧ h_ = h6)) ∧ cellsAt h6 ⟨g1, 0, none⟩ [.int .i64 l.n, .slice A1 l.ls.length c1, .slice A2 l.es.length c2] 0)
        (by as_aux_lemma => kernel_rfl) ⟨(Same_yes A4 A6 c4 c6 (stepL l.es p) (stepL l.es p) _ hr46 hr6 rfl), ((Finer_ct A4 A3 c4 c3 (stepL l.es p) p _ hr46 (hp.ext hE06) (by omega)).is (by rw [finerB, tv_yes]; exact fun i k hi hk e => rd_stepL (by omega) (by omega) e)), (hBg1.all ((((hE2.trans hE3).trans hE4).trans hE5).trans hE6))⟩ fun s_ => ?_
      refine Run.call 18 #[.agg #[.int .i64 l.n, .slice A1 l.ls.length c1, .slice A2 l.es.length c2], .slice A3 p.length c3] (some 67) (at_ Tryd.f4 [1,1,1,1,1,0,0,8,20]) (by as_aux_lemma => kernel_rfl) (stable_yes A1 A2 A3 c1 c2 c3 l p _ (hx.ext hE06) (hp.ext hE06) (by omega) (hT.ext hE06) ⟨⟨hm, hn⟩, hst⟩) ?_
      rintro _ h7 ⟨rfl, hE7⟩
      have hE07 := hE06.trans hE7
      -- at 111111082
      refine Run.adv 10 [.lit, .lit, .lit] (at_ Tryd.f4 [1,1,1,1,1,1,0,8,2]) [(5, .slice A4 ((stepL l.es p).length) c4), (7, .bool true), (71, .slice A4 ((stepL l.es p).length) c4), (72, .slice A3 p.length c3)]
        (True)
        (by as_aux_lemma => kernel_rfl) trivial fun s_ => ?_
      refine Run.call 23 #[.slice A3 p.length c3] (some 73) (at_ Tryd.f4 [1,1,1,1,1,1,0,8,3]) (by as_aux_lemma => kernel_rfl) (plainP_ct A3 c3 p _ (hp.ext hE07) (by omega)) ?_
      rintro v h8 ⟨og8, hO8, hE8, -⟩
      obtain ⟨A8, c8, rfl, hr8⟩ := hO8.row1 (d := 0) (by omega)
      -- at 111111087
      refine Run.adv 4 [.val (.bool true)] (at_ Tryd.f4 [1,1,1,1,1,1,0,8,7]) [(77, .bool true)]
        ((Ct Tryd.prog 20 #[.slice A4 ((stepL l.es p).length) c4, .slice A8 ((plainL p).length) c8] h8 (fun v_ h_ => v_ = .bool true ∧ h_ = h8)))
        (by as_aux_lemma => kernel_rfl) ((Same_ct A4 A8 c4 c8 (stepL l.es p) (plainL p) _ (hr46.ext (hE7.trans hE8)) hr8).is (by rw [decide_eq_true ((stable_step _ _).1 hst)])) fun s_ => ?_
      refine Run.call 11 #[] (some 78) (at_ Tryd.f4 [1,1,1,1,1,1,0,8,8]) (by as_aux_lemma => kernel_rfl) (awake32_ct _ (hT.ext (((((((hEg1.trans hE2).trans hE3).trans hE4).trans hE5).trans hE6).trans hE7).trans hE8))) ?_
      rintro _ h9 ⟨rfl, hE9⟩
      -- at 1111111
      refine Run.adv 3 [] (at_ Tryd.f4 [1,1,1,1,1,1,1]) [(4, .bool true)]
        (True)
        (by as_aux_lemma => kernel_rfl) trivial fun s_ => ?_
      refine Run.ret [] (.bool true) (True) Tryd.func4 (by as_aux_lemma => kernel_rfl) (by as_aux_lemma => kernel_rfl) trivial ?_
      exact ⟨rfl, ((((((((hEg1.trans hE2).trans hE3).trans hE4).trans hE5).trans hE6).trans hE7).trans hE8).trans hE9)⟩
    · rw [tv_no hst]
      -- at 111110086
      refine Run.adv 11 [.lit, .lit, .val (.agg #[.int .i64 l.n, .slice A1 l.ls.length c1, .slice A2 l.es.length c2]), .lit] (at_ Tryd.f4 [1,1,1,1,1,0,0,8,6]) [(1, .slice A3 p.length c3), (2, .pointer (some ⟨g1, 0, none⟩)), (5, .slice A4 ((stepL l.es p).length) c4), (6, .int .i64 0), (7, .bool false), (50, .bool false), (51, .slice A4 ((stepL l.es p).length) c4), (52, .agg #[.int .i64 l.n, .slice A1 l.ls.length c1, .slice A2 l.es.length c2]), (53, .slice A3 p.length c3)]
        (cellsAt h5 ⟨g1, 0, none⟩ [.int .i64 l.n, .slice A1 l.ls.length c1, .slice A2 l.es.length c2] 0)
        (by as_aux_lemma => kernel_rfl) (hBg1.all (((hE2.trans hE3).trans hE4).trans hE5)) fun s_ => ?_
      refine Run.call 21 #[.agg #[.int .i64 l.n, .slice A1 l.ls.length c1, .slice A2 l.es.length c2], .slice A3 p.length c3] (some 54) (at_ Tryd.f4 [1,1,1,1,1,0,0,8,7]) (by as_aux_lemma => kernel_rfl) (refStep_ct A1 A2 A3 c1 c2 c3 l p _ (hx.ext hE05) (hp.ext hE05) hm hn) ?_
      rintro v h6 ⟨og6, hO6, hE6, -⟩
      obtain ⟨A6, c6, rfl, hr6⟩ := hO6.row1 (d := 0) (by omega)
      have hr46 := hr4.ext ((hE4.trans hE5).trans hE6)
      have hE06 := hE05.trans hE6
      -- at 1111100819
      refine Run.adv 12 [.lit, .val (.bool true), .lit, .lit, .lit, .lit, .val (.bool true), .lit, .lit, .val (.agg #[.int .i64 l.n, .slice A1 l.ls.length c1, .slice A2 l.es.length c2]), .lit] (at_ Tryd.f4 [1,1,1,1,1,0,0,8,19]) [(1, .slice A3 p.length c3), (2, .pointer (some ⟨g1, 0, none⟩)), (5, .slice A4 ((stepL l.es p).length) c4), (6, .int .i64 0), (7, .bool false), (58, .bool false), (64, .bool false), (65, .agg #[.int .i64 l.n, .slice A1 l.ls.length c1, .slice A2 l.es.length c2]), (66, .slice A3 p.length c3)]
        ((Ct Tryd.prog 20 #[.slice A4 ((stepL l.es p).length) c4, .slice A6 ((stepL l.es p).length) c6] h6 (fun v_ h_ => v_ = .bool true ∧ h_ = h6)) ∧ (Ct Tryd.prog 22 #[.slice A4 ((stepL l.es p).length) c4, .slice A3 p.length c3] h6 (fun v_ h_ => v_ = .bool true ∧ h_ = h6)) ∧ cellsAt h6 ⟨g1, 0, none⟩ [.int .i64 l.n, .slice A1 l.ls.length c1, .slice A2 l.es.length c2] 0)
        (by as_aux_lemma => kernel_rfl) ⟨(Same_yes A4 A6 c4 c6 (stepL l.es p) (stepL l.es p) _ hr46 hr6 rfl), ((Finer_ct A4 A3 c4 c3 (stepL l.es p) p _ hr46 (hp.ext hE06) (by omega)).is (by rw [finerB, tv_yes]; exact fun i k hi hk e => rd_stepL (by omega) (by omega) e)), (hBg1.all ((((hE2.trans hE3).trans hE4).trans hE5).trans hE6))⟩ fun s_ => ?_
      refine Run.call 18 #[.agg #[.int .i64 l.n, .slice A1 l.ls.length c1, .slice A2 l.es.length c2], .slice A3 p.length c3] (some 67) (at_ Tryd.f4 [1,1,1,1,1,0,0,8,20]) (by as_aux_lemma => kernel_rfl) (stable_no A1 A2 A3 c1 c2 c3 l p _ (hx.ext hE06) (hp.ext hE06) (by omega) (hT.ext hE06) (fun hh => hst hh.2)) ?_
      rintro _ h7 ⟨rfl, hE7⟩
      have hE07 := hE06.trans hE7
      -- at 111111082
      refine Run.adv 10 [.lit, .lit, .lit] (at_ Tryd.f4 [1,1,1,1,1,1,0,8,2]) [(5, .slice A4 ((stepL l.es p).length) c4), (7, .bool false), (71, .slice A4 ((stepL l.es p).length) c4), (72, .slice A3 p.length c3)]
        (True)
        (by as_aux_lemma => kernel_rfl) trivial fun s_ => ?_
      refine Run.call 23 #[.slice A3 p.length c3] (some 73) (at_ Tryd.f4 [1,1,1,1,1,1,0,8,3]) (by as_aux_lemma => kernel_rfl) (plainP_ct A3 c3 p _ (hp.ext hE07) (by omega)) ?_
      rintro v h8 ⟨og8, hO8, hE8, -⟩
      obtain ⟨A8, c8, rfl, hr8⟩ := hO8.row1 (d := 0) (by omega)
      -- at 111111087
      refine Run.adv 4 [.val (.bool false)] (at_ Tryd.f4 [1,1,1,1,1,1,0,8,7]) [(77, .bool true)]
        ((Ct Tryd.prog 20 #[.slice A4 ((stepL l.es p).length) c4, .slice A8 ((plainL p).length) c8] h8 (fun v_ h_ => v_ = .bool false ∧ h_ = h8)))
        (by as_aux_lemma => kernel_rfl) ((Same_ct A4 A8 c4 c8 (stepL l.es p) (plainL p) _ (hr46.ext (hE7.trans hE8)) hr8).is (by rw [decide_eq_false (fun hh => hst ((stable_step _ _).2 hh))])) fun s_ => ?_
      refine Run.call 11 #[] (some 78) (at_ Tryd.f4 [1,1,1,1,1,1,0,8,8]) (by as_aux_lemma => kernel_rfl) (awake32_ct _ (hT.ext (((((((hEg1.trans hE2).trans hE3).trans hE4).trans hE5).trans hE6).trans hE7).trans hE8))) ?_
      rintro _ h9 ⟨rfl, hE9⟩
      -- at 1111111
      refine Run.adv 3 [] (at_ Tryd.f4 [1,1,1,1,1,1,1]) [(4, .bool true)]
        (True)
        (by as_aux_lemma => kernel_rfl) trivial fun s_ => ?_
      refine Run.ret [] (.bool true) (True) Tryd.func4 (by as_aux_lemma => kernel_rfl) (by as_aux_lemma => kernel_rfl) trivial ?_
      exact ⟨rfl, ((((((((hEg1.trans hE2).trans hE3).trans hE4).trans hE5).trans hE6).trans hE7).trans hE8).trans hE9)⟩
  · refine Run.call 17 #[.agg #[.int .i64 l.n, .slice A1 l.ls.length c1, .slice A2 l.es.length c2], .slice A3 p.length c3] (some 16) (at_ Tryd.f4 [1,1,0,8,3]) (by as_aux_lemma => kernel_rfl) (stepNo_ct A1 A2 A3 c1 c2 c3 l p _ (hx.ext hE02) (by omega) hG) ?_
    rintro _ h3 ⟨rfl, hE3⟩
    have hE03 := hE02.trans hE3
    -- at 1110081
    refine Run.adv 10 [.val (.agg #[.int .i64 l.n, .slice A1 l.ls.length c1, .slice A2 l.es.length c2])] (at_ Tryd.f4 [1,1,1,0,0,8,1]) [(1, .slice A3 p.length c3), (2, .pointer (some ⟨g1, 0, none⟩)), (5, .slice none 0 0), (6, .int .i64 1), (19, .agg #[.int .i64 l.n, .slice A1 l.ls.length c1, .slice A2 l.es.length c2])]
      (cellsAt h3 ⟨g1, 0, none⟩ [.int .i64 l.n, .slice A1 l.ls.length c1, .slice A2 l.es.length c2] 0)
      (by as_aux_lemma => kernel_rfl) (hBg1.all (hE2.trans hE3)) fun s_ => ?_
    refine Run.call 13 #[.agg #[.int .i64 l.n, .slice A1 l.ls.length c1, .slice A2 l.es.length c2]] (some 20) (at_ Tryd.f4 [1,1,1,0,0,8,2]) (by as_aux_lemma => kernel_rfl) (May_ct A1 A2 c1 c2 l _ (hx.ext hE03)) ?_
    rintro _ h4 ⟨rfl, hE4⟩
    have hE04 := hE03.trans hE4
    have tail : ∀ s : Env, Run Tryd.prog 4 80 (at_ Tryd.f4 [1,1,1,0,1,4,0]) (kn [(1, .slice A3 p.length c3), (2, .pointer (some ⟨g1, 0, none⟩)), (5, .slice none 0 0), (6, .int .i64 1)] s) h4 (w, false) (fun v h' => v = .bool true ∧ Ext h h') := by
      intro s
      -- at 1110140810
      refine Run.adv 11 [.lit, .lit, .lit, .val (.agg #[.int .i64 l.n, .slice A1 l.ls.length c1, .slice A2 l.es.length c2]), .lit] (at_ Tryd.f4 [1,1,1,0,1,4,0,8,10]) [(36, .bool true), (37, .agg #[.int .i64 l.n, .slice A1 l.ls.length c1, .slice A2 l.es.length c2]), (38, .slice A3 p.length c3)]
        (cellsAt h4 ⟨g1, 0, none⟩ [.int .i64 l.n, .slice A1 l.ls.length c1, .slice A2 l.es.length c2] 0)
        (by as_aux_lemma => kernel_rfl) (hBg1.all ((hE2.trans hE3).trans hE4)) fun s_ => ?_
      refine Run.call 18 #[.agg #[.int .i64 l.n, .slice A1 l.ls.length c1, .slice A2 l.es.length c2], .slice A3 p.length c3] (some 39) (at_ Tryd.f4 [1,1,1,0,1,4,0,8,11]) (by as_aux_lemma => kernel_rfl) (stable_no A1 A2 A3 c1 c2 c3 l p _ (hx.ext hE04) (hp.ext hE04) (by omega) (hT.ext hE04) (fun hh => hG hh.1)) ?_
      rintro _ h5 ⟨rfl, hE5⟩
      -- at 1110140814
      refine Run.adv 3 [.lit] (at_ Tryd.f4 [1,1,1,0,1,4,0,8,14]) [(42, .bool true)]
        (True)
        (by as_aux_lemma => kernel_rfl) trivial fun s_ => ?_
      refine Run.call 11 #[] (some 43) (at_ Tryd.f4 [1,1,1,0,1,4,0,8,15]) (by as_aux_lemma => kernel_rfl) (awake32_ct _ (hT.ext (hE04.trans hE5))) ?_
      rintro _ h8 ⟨rfl, hE8⟩
      -- at 1110141
      refine Run.adv 3 [] (at_ Tryd.f4 [1,1,1,0,1,4,1]) [(4, .bool true)]
        (True)
        (by as_aux_lemma => kernel_rfl) trivial fun s_ => ?_
      refine Run.ret [] (.bool true) (True) Tryd.func4 (by as_aux_lemma => kernel_rfl) (by as_aux_lemma => kernel_rfl) trivial ?_
      exact ⟨rfl, ((hE04.trans hE5).trans hE8)⟩
    by_cases hm : May l
    · rw [mayB_yes hm]
      -- at 1110140
      refine Run.adv 11 [.lit, .lit, .lit, .lit, .val (.int .i64 l.n), .lit, .dec true] (at_ Tryd.f4 [1,1,1,0,1,4,0]) [(1, .slice A3 p.length c3), (2, .pointer (some ⟨g1, 0, none⟩)), (5, .slice none 0 0), (6, .int .i64 1)]
        (cellH h4 ⟨g1, 0, none⟩ = some (.int .i64 l.n) ∧ ((p.length : Int) != l.n) = true)
        (by as_aux_lemma => kernel_rfl) ⟨(hBg1.at ((hE2.trans hE3).trans hE4) 0 rfl), (bne_iff_ne.2 (fun hh => hG ⟨hm, hh⟩))⟩ fun s_ => ?_
      exact tail _
    · rw [mayB_no hm]
      -- at 1110140
      refine Run.adv 11 [.lit, .lit, .lit, .lit, .lit, .lit] (at_ Tryd.f4 [1,1,1,0,1,4,0]) [(1, .slice A3 p.length c3), (2, .pointer (some ⟨g1, 0, none⟩)), (5, .slice none 0 0), (6, .int .i64 1)]
        (True)
        (by as_aux_lemma => kernel_rfl) trivial fun s_ => ?_
      exact tail _
end Go.Proofs.YtbajgbkkbabmlaaDoor
