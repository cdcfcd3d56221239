/- GamePlays, walked. -/
import Derived.Test.YtbajgbkkbabmlaaGreatDoorProg
import Derived.Test.YtbajgbkkbabmlaaGreatDoorO11
set_option linter.unusedVariables false
namespace Go.Proofs.YtbajgbkkbabmlaaGreatDoor
open Go.Vc
theorem lx_5_1111111101231020 : LexOk (opsAt (at_ Tryz.f5 [1,1,1,1,1,1,1,1,0,1,2,3,1,0,2,0])) := ⟨by kernel_rfl⟩

set_option maxHeartbeats 1000000 in
theorem GamePlays_ct (A1 A2 : Option Addr) (c1 c2 : Nat) (l : Lt) (s t : Int) (h : Heap) (hx : LtAt h l A1 c1 A2 c2) (hT : Tab h) :
    Ct Tryz.prog 5 #[.agg #[.int .i64 l.n, .slice A1 l.ls.length c1, .slice A2 l.es.length c2], .int .i64 s, .int .i64 t] h (fun v h' => v = .bool true ∧ Ext h h') := by
  refine Ct.enter (args := [.agg #[.int .i64 l.n, .slice A1 l.ls.length c1, .slice A2 l.es.length c2], .int .i64 s, .int .i64 t]) Tryz.func5 rfl Tryz.ntmps5 (by simp) fun w hw => ?_
  -- at 080
  refine Run.adv 2 [] (at_ Tryz.f5 [0,8,0]) [(0, .agg #[.int .i64 l.n, .slice A1 l.ls.length c1, .slice A2 l.es.length c2]), (1, .int .i64 s), (2, .int .i64 t)]
    (True)
    (by as_aux_lemma => kernel_rfl) trivial fun s_ => ?_
  refine Run.new #[.int .i64 l.n, .slice A1 l.ls.length c1, .slice A2 l.es.length c2] 25 (fun g_ => .pointer (some ⟨g_, 0, none⟩)) (some 3) (at_ Tryz.f5 [0,8,1]) (by as_aux_lemma => kernel_rfl) fun g1 h1 hng1 hEg1 hBg1 => ?_
  -- at 10081
  refine Run.adv 6 [.val (.agg #[.int .i64 l.n, .slice A1 l.ls.length c1, .slice A2 l.es.length c2])] (at_ Tryz.f5 [1,0,0,8,1]) [(0, .agg #[.int .i64 l.n, .slice A1 l.ls.length c1, .slice A2 l.es.length c2]), (1, .int .i64 s), (2, .int .i64 t), (3, .pointer (some ⟨g1, 0, none⟩)), (6, .bool false), (14, .agg #[.int .i64 l.n, .slice A1 l.ls.length c1, .slice A2 l.es.length c2])]
    (cellsAt h1 ⟨g1, 0, none⟩ [.int .i64 l.n, .slice A1 l.ls.length c1, .slice A2 l.es.length c2] 0)
    (by as_aux_lemma => kernel_rfl) (hBg1.all (Ext.refl _)) fun s_ => ?_
  refine Run.call 23 #[.agg #[.int .i64 l.n, .slice A1 l.ls.length c1, .slice A2 l.es.length c2]] (some 15) (at_ Tryz.f5 [1,0,0,8,2]) (by as_aux_lemma => kernel_rfl) (Light33_ct A1 A2 c1 c2 l _ (hx.ext hEg1)) ?_
  rintro _ h2 ⟨rfl, hE2⟩
  have hE02 := hEg1.trans hE2
  by_cases hS : Light33 l
  rotate_left
  · rw [tv_no hS]
    -- at 1014080
    refine Run.adv 5 [.lit] (at_ Tryz.f5 [1,0,1,4,0,8,0]) [(1, .int .i64 s)]
      (True)
      (by as_aux_lemma => kernel_rfl) trivial fun s_ => ?_
    refine Run.call 24 #[] (some 17) (at_ Tryz.f5 [1,0,1,4,0,8,1]) (by as_aux_lemma => kernel_rfl) (awake58_ct _ (hT.ext hE02)) ?_
    rintro _ h3 ⟨rfl, hE3⟩
    -- at 10141
    refine Run.adv 2 [] (at_ Tryz.f5 [1,0,1,4,1]) [(6, .bool true)]
      (True)
      (by as_aux_lemma => kernel_rfl) trivial fun s_ => ?_
    refine Run.ret [] (.bool true) (True) Tryz.func5 (by as_aux_lemma => kernel_rfl) (by as_aux_lemma => kernel_rfl) trivial ?_
    exact ⟨rfl, ((hEg1.trans hE2).trans hE3)⟩
  rw [tv_yes hS]
  have hl8 := hS.2.2.2
  -- at 11083
  refine Run.adv 9 [.lit, .val (.agg #[.int .i64 l.n, .slice A1 l.ls.length c1, .slice A2 l.es.length c2])] (at_ Tryz.f5 [1,1,0,8,3]) [(1, .int .i64 s), (2, .int .i64 t), (3, .pointer (some ⟨g1, 0, none⟩)), (19, .agg #[.int .i64 l.n, .slice A1 l.ls.length c1, .slice A2 l.es.length c2]), (20, .int .i64 s), (21, .int .i64 t)]
    (cellsAt h2 ⟨g1, 0, none⟩ [.int .i64 l.n, .slice A1 l.ls.length c1, .slice A2 l.es.length c2] 0)
    (by as_aux_lemma => kernel_rfl) (hBg1.all hE2) fun s_ => ?_
  by_cases hG : May l ∧ InR l [s, t]
  rotate_left
  · refine Run.call 25 #[.agg #[.int .i64 l.n, .slice A1 l.ls.length c1, .slice A2 l.es.length c2], .int .i64 s, .int .i64 t] (some 22) (at_ Tryz.f5 [1,1,0,8,4]) (by as_aux_lemma => kernel_rfl) (PlayNo_ct A1 A2 c1 c2 l s t _ (hx.ext hE02) (by omega) (hT.ext hE02) hG) ?_
    rintro _ h3 ⟨rfl, hE3⟩
    have hE03 := hE02.trans hE3
    -- at 111083
    refine Run.adv 11 [.val (.agg #[.int .i64 l.n, .slice A1 l.ls.length c1, .slice A2 l.es.length c2])] (at_ Tryz.f5 [1,1,1,0,8,3]) [(1, .int .i64 s), (2, .int .i64 t), (3, .pointer (some ⟨g1, 0, none⟩)), (7, .slice none 0 0), (8, .int .i64 1), (18, .tuple #[.slice none 0 0, .int .i64 1]), (19, .agg #[.int .i64 l.n, .slice A1 l.ls.length c1, .slice A2 l.es.length c2]), (20, .int .i64 s), (21, .int .i64 t), (22, .tuple #[.slice none 0 0, .int .i64 1]), (23, .slice none 0 0), (24, .int .i64 1), (26, .agg #[.int .i64 l.n, .slice A1 l.ls.length c1, .slice A2 l.es.length c2]), (27, .int .i64 s), (28, .int .i64 t)]
      (cellsAt h3 ⟨g1, 0, none⟩ [.int .i64 l.n, .slice A1 l.ls.length c1, .slice A2 l.es.length c2] 0)
      (by as_aux_lemma => kernel_rfl) (hBg1.all (hE2.trans hE3)) fun s_ => ?_
    refine Run.call 26 #[.agg #[.int .i64 l.n, .slice A1 l.ls.length c1, .slice A2 l.es.length c2], .int .i64 s, .int .i64 t] (some 29) (at_ Tryz.f5 [1,1,1,0,8,4]) (by as_aux_lemma => kernel_rfl) (RoundsNo_ct A1 A2 c1 c2 l s t _ (hx.ext hE03) (by omega) (hT.ext hE03) hG) ?_
    rintro _ h4 ⟨rfl, hE4⟩
    have hE04 := hE03.trans hE4
    -- at 11110081
    refine Run.adv 10 [.val (.agg #[.int .i64 l.n, .slice A1 l.ls.length c1, .slice A2 l.es.length c2])] (at_ Tryz.f5 [1,1,1,1,0,0,8,1]) [(1, .int .i64 s), (2, .int .i64 t), (3, .pointer (some ⟨g1, 0, none⟩)), (7, .slice none 0 0), (8, .int .i64 1), (9, .int .i64 0), (10, .int .i64 1), (32, .agg #[.int .i64 l.n, .slice A1 l.ls.length c1, .slice A2 l.es.length c2])]
      (cellsAt h4 ⟨g1, 0, none⟩ [.int .i64 l.n, .slice A1 l.ls.length c1, .slice A2 l.es.length c2] 0)
      (by as_aux_lemma => kernel_rfl) (hBg1.all ((hE2.trans hE3).trans hE4)) fun s_ => ?_
    refine Run.call 14 #[.agg #[.int .i64 l.n, .slice A1 l.ls.length c1, .slice A2 l.es.length c2]] (some 33) (at_ Tryz.f5 [1,1,1,1,0,0,8,2]) (by as_aux_lemma => kernel_rfl) (May_ct A1 A2 c1 c2 l _ (hx.ext hE04)) ?_
    rintro _ h5 ⟨rfl, hE5⟩
    have hE05 := hE04.trans hE5
    have tail : ∀ f : Env, Run Tryz.prog 5 117 (at_ Tryz.f5 [1,1,1,1,0,1,4,0]) (kn [(7, .slice none 0 0), (8, .int .i64 1), (9, .int .i64 0), (10, .int .i64 1)] f) h5 (w, false) (fun v h' => v = .bool true ∧ Ext h h') := by
      intro f
      -- at 11110140816
      refine Run.adv 17 [.lit, .lit, .lit, .lit, .lit, .lit] (at_ Tryz.f5 [1,1,1,1,0,1,4,0,8,16]) [(70, .bool true)]
        (True)
        (by as_aux_lemma => kernel_rfl) trivial fun s_ => ?_
      refine Run.call 24 #[] (some 71) (at_ Tryz.f5 [1,1,1,1,0,1,4,0,8,17]) (by as_aux_lemma => kernel_rfl) (awake58_ct _ (hT.ext hE05)) ?_
      rintro _ h6 ⟨rfl, hE6⟩
      -- at 11110141
      refine Run.adv 3 [] (at_ Tryz.f5 [1,1,1,1,0,1,4,1]) [(6, .bool true)]
        (True)
        (by as_aux_lemma => kernel_rfl) trivial fun s_ => ?_
      refine Run.ret [] (.bool true) (True) Tryz.func5 (by as_aux_lemma => kernel_rfl) (by as_aux_lemma => kernel_rfl) trivial ?_
      exact ⟨rfl, hE05.trans hE6⟩
    by_cases hm : May l
    rotate_left
    · rw [mayB_no hm]
      -- at 11110140
      refine Run.adv 24 [.lit, .lit, .lit, .lit, .lit, .lit, .lit, .lit, .lit, .lit, .lit, .lit, .lit] (at_ Tryz.f5 [1,1,1,1,0,1,4,0]) [(7, .slice none 0 0), (8, .int .i64 1), (9, .int .i64 0), (10, .int .i64 1)]
        (True)
        (by as_aux_lemma => kernel_rfl) trivial fun s_ => ?_
      exact tail _
    rw [mayB_yes hm]
    by_cases e1 : s < 0
    · -- at 11110140
      refine Run.adv 24 [.lit, .lit, .dec true, .lit, .lit, .lit, .lit, .lit, .lit, .lit, .lit, .lit, .lit] (at_ Tryz.f5 [1,1,1,1,0,1,4,0]) [(7, .slice none 0 0), (8, .int .i64 1), (9, .int .i64 0), (10, .int .i64 1)]
        ((decide (s < 0)) = true)
        (by as_aux_lemma => kernel_rfl) (by first | assumption | exact decide_eq_true (by first | omega | assumption)) fun s_ => ?_
      exact tail _
    by_cases e2 : s ≥ l.n
    · -- at 11110140
      refine Run.adv 24 [.lit, .lit, .dec false, .lit, .lit, .val (.int .i64 l.n), .lit, .dec true, .lit, .lit, .lit, .lit, .lit, .lit] (at_ Tryz.f5 [1,1,1,1,0,1,4,0]) [(7, .slice none 0 0), (8, .int .i64 1), (9, .int .i64 0), (10, .int .i64 1)]
        ((decide (s < 0)) = false ∧ cellH h5 ⟨g1, 0, none⟩ = some (.int .i64 l.n) ∧ (decide (s ≥ l.n)) = true)
        (by as_aux_lemma => kernel_rfl) ⟨(by first | assumption | exact decide_eq_false (by first | omega | assumption)), (hBg1.at (((hE2.trans hE3).trans hE4).trans hE5) 0 rfl), (by first | assumption | exact decide_eq_true (by first | omega | assumption))⟩ fun s_ => ?_
      exact tail _
    by_cases e3 : t < 0
    · -- at 11110140
      refine Run.adv 24 [.lit, .lit, .dec false, .lit, .lit, .val (.int .i64 l.n), .lit, .dec false, .lit, .dec true, .lit, .lit, .lit, .lit] (at_ Tryz.f5 [1,1,1,1,0,1,4,0]) [(7, .slice none 0 0), (8, .int .i64 1), (9, .int .i64 0), (10, .int .i64 1)]
        ((decide (s < 0)) = false ∧ cellH h5 ⟨g1, 0, none⟩ = some (.int .i64 l.n) ∧ (decide (s ≥ l.n)) = false ∧ (decide (t < 0)) = true)
        (by as_aux_lemma => kernel_rfl) ⟨(by first | assumption | exact decide_eq_false (by first | omega | assumption)), (hBg1.at (((hE2.trans hE3).trans hE4).trans hE5) 0 rfl), (by first | assumption | exact decide_eq_false (by first | omega | assumption)), (by first | assumption | exact decide_eq_true (by first | omega | assumption))⟩ fun s_ => ?_
      exact tail _
    by_cases e4 : t ≥ l.n
    · -- at 11110140
      refine Run.adv 24 [.lit, .lit, .dec false, .lit, .lit, .val (.int .i64 l.n), .lit, .dec false, .lit, .dec false, .lit, .lit, .val (.int .i64 l.n), .lit, .dec true] (at_ Tryz.f5 [1,1,1,1,0,1,4,0]) [(7, .slice none 0 0), (8, .int .i64 1), (9, .int .i64 0), (10, .int .i64 1)]
        ((decide (s < 0)) = false ∧ cellH h5 ⟨g1, 0, none⟩ = some (.int .i64 l.n) ∧ (decide (s ≥ l.n)) = false ∧ (decide (t < 0)) = false ∧ cellH h5 ⟨g1, 0, none⟩ = some (.int .i64 l.n) ∧ (decide (t ≥ l.n)) = true)
        (by as_aux_lemma => kernel_rfl) ⟨(by first | assumption | exact decide_eq_false (by first | omega | assumption)), (hBg1.at (((hE2.trans hE3).trans hE4).trans hE5) 0 rfl), (by first | assumption | exact decide_eq_false (by first | omega | assumption)), (by first | assumption | exact decide_eq_false (by first | omega | assumption)), (hBg1.at (((hE2.trans hE3).trans hE4).trans hE5) 0 rfl), (by first | assumption | exact decide_eq_true (by first | omega | assumption))⟩ fun s_ => ?_
      exact tail _
    exact absurd ⟨hm, inR2 ⟨by omega, by omega⟩ ⟨by omega, by omega⟩⟩ hG
  obtain ⟨hm, hR⟩ := hG
  have hs : 0 ≤ s ∧ s < l.n := hR 0 (by simp)
  have ht : 0 ≤ t ∧ t < l.n := hR 1 (by simp)
  have hn16 := small33 hS hm
  have hn1 := hm.n1
  obtain ⟨n, hn⟩ := Int.eq_ofNat_of_zero_le (show 0 ≤ l.n by omega)
  obtain ⟨m, hSt⟩ := exists_stop l.es n (by omega)
  have hmn := hSt.lt (by omega)
  have hll := levs_len l.es n m
  refine Run.call 25 #[.agg #[.int .i64 l.n, .slice A1 l.ls.length c1, .slice A2 l.es.length c2], .int .i64 s, .int .i64 t] (some 22) (at_ Tryz.f5 [1,1,0,8,4]) (by as_aux_lemma => kernel_rfl) (Play_ct A1 A2 c1 c2 l s t _ (hx.ext hE02) (hT.ext hE02) hm hR n m hn hSt) ?_
  rintro v h3 ⟨A3, c3, rfl, hr3, hE3⟩
  have hE03 := hE02.trans hE3
  -- at 111083
  refine Run.adv 11 [.val (.agg #[.int .i64 l.n, .slice A1 l.ls.length c1, .slice A2 l.es.length c2])] (at_ Tryz.f5 [1,1,1,0,8,3]) [(1, .int .i64 s), (2, .int .i64 t), (3, .pointer (some ⟨g1, 0, none⟩)), (7, .slice A3 ((playL l (levs l.es n m) (levs l.es n m).length s t).length) c3), (8, .int .i64 0), (18, .tuple #[.slice A3 ((playL l (levs l.es n m) (levs l.es n m).length s t).length) c3, .int .i64 0]), (19, .agg #[.int .i64 l.n, .slice A1 l.ls.length c1, .slice A2 l.es.length c2]), (20, .int .i64 s), (21, .int .i64 t), (22, .tuple #[.slice A3 ((playL l (levs l.es n m) (levs l.es n m).length s t).length) c3, .int .i64 0]), (23, .slice A3 ((playL l (levs l.es n m) (levs l.es n m).length s t).length) c3), (24, .int .i64 0), (26, .agg #[.int .i64 l.n, .slice A1 l.ls.length c1, .slice A2 l.es.length c2]), (27, .int .i64 s), (28, .int .i64 t)]
    (cellsAt h3 ⟨g1, 0, none⟩ [.int .i64 l.n, .slice A1 l.ls.length c1, .slice A2 l.es.length c2] 0)
    (by as_aux_lemma => kernel_rfl) (hBg1.all (hE2.trans hE3)) fun s_ => ?_
  refine Run.call 26 #[.agg #[.int .i64 l.n, .slice A1 l.ls.length c1, .slice A2 l.es.length c2], .int .i64 s, .int .i64 t] (some 29) (at_ Tryz.f5 [1,1,1,0,8,4]) (by as_aux_lemma => kernel_rfl) (Rounds_ct A1 A2 c1 c2 l s t _ (hx.ext hE03) (hT.ext hE03) hm hR n m hn hSt) ?_
  rintro _ h4 ⟨rfl, hE4⟩
  have hE04 := hE03.trans hE4
  -- at 11110081
  refine Run.adv 10 [.val (.agg #[.int .i64 l.n, .slice A1 l.ls.length c1, .slice A2 l.es.length c2])] (at_ Tryz.f5 [1,1,1,1,0,0,8,1]) [(1, .int .i64 s), (2, .int .i64 t), (3, .pointer (some ⟨g1, 0, none⟩)), (7, .slice A3 ((playL l (levs l.es n m) (levs l.es n m).length s t).length) c3), (8, .int .i64 0), (9, .int .i64 (apartI (levs l.es n m) s t)), (10, .int .i64 0), (32, .agg #[.int .i64 l.n, .slice A1 l.ls.length c1, .slice A2 l.es.length c2])]
    (cellsAt h4 ⟨g1, 0, none⟩ [.int .i64 l.n, .slice A1 l.ls.length c1, .slice A2 l.es.length c2] 0)
    (by as_aux_lemma => kernel_rfl) (hBg1.all ((hE2.trans hE3).trans hE4)) fun s_ => ?_
  refine Run.call 14 #[.agg #[.int .i64 l.n, .slice A1 l.ls.length c1, .slice A2 l.es.length c2]] (some 33) (at_ Tryz.f5 [1,1,1,1,0,0,8,2]) (by as_aux_lemma => kernel_rfl) (May_ct A1 A2 c1 c2 l _ (hx.ext hE04)) ?_
  rintro _ h5 ⟨rfl, hE5⟩
  have hE05 := hE04.trans hE5
  rw [mayB_yes hm]
  -- at 11111081
  refine Run.adv 27 [.lit, .lit, .dec false, .lit, .lit, .val (.int .i64 l.n), .lit, .dec false, .lit, .dec false, .lit, .lit, .val (.int .i64 l.n), .lit, .dec false, .val (.agg #[.int .i64 l.n, .slice A1 l.ls.length c1, .slice A2 l.es.length c2])] (at_ Tryz.f5 [1,1,1,1,1,0,8,1]) [(1, .int .i64 s), (2, .int .i64 t), (3, .pointer (some ⟨g1, 0, none⟩)), (7, .slice A3 ((playL l (levs l.es n m) (levs l.es n m).length s t).length) c3), (8, .int .i64 0), (9, .int .i64 (apartI (levs l.es n m) s t)), (10, .int .i64 0), (73, .agg #[.int .i64 l.n, .slice A1 l.ls.length c1, .slice A2 l.es.length c2])]
    ((decide (s < 0)) = false ∧ cellH h5 ⟨g1, 0, none⟩ = some (.int .i64 l.n) ∧ (decide (s ≥ l.n)) = false ∧ (decide (t < 0)) = false ∧ cellH h5 ⟨g1, 0, none⟩ = some (.int .i64 l.n) ∧ (decide (t ≥ l.n)) = false ∧ cellsAt h5 ⟨g1, 0, none⟩ [.int .i64 l.n, .slice A1 l.ls.length c1, .slice A2 l.es.length c2] 0)
    (by as_aux_lemma => kernel_rfl) ⟨(by first | assumption | exact decide_eq_false (by first | omega | assumption)), (hBg1.at (((hE2.trans hE3).trans hE4).trans hE5) 0 rfl), (by first | assumption | exact decide_eq_false (by first | omega | assumption)), (by first | assumption | exact decide_eq_false (by first | omega | assumption)), (hBg1.at (((hE2.trans hE3).trans hE4).trans hE5) 0 rfl), (by first | assumption | exact decide_eq_false (by first | omega | assumption)), (hBg1.all (((hE2.trans hE3).trans hE4).trans hE5))⟩ fun s_ => ?_
  refine Run.call 16 #[.agg #[.int .i64 l.n, .slice A1 l.ls.length c1, .slice A2 l.es.length c2]] (some 74) (at_ Tryz.f5 [1,1,1,1,1,0,8,2]) (by as_aux_lemma => kernel_rfl) (lofRef_ct A1 A2 c1 c2 l n _ (hx.ext hE05) hm hn) ?_
  rintro v h6 ⟨m', og6, vs6, hS6, hO6, hN6, hE6⟩
  obtain rfl := hSt.unique hS6
  obtain ⟨A6, c6, rfl, hr6⟩ := hO6.rows2 hN6 (by omega) (levs_bound (by omega))
  have hE06 := hE05.trans hE6
  -- at 111111084
  refine Run.adv 8 [.val (.agg #[.int .i64 l.n, .slice A1 l.ls.length c1, .slice A2 l.es.length c2])] (at_ Tryz.f5 [1,1,1,1,1,1,0,8,4]) [(1, .int .i64 s), (2, .int .i64 t), (3, .pointer (some ⟨g1, 0, none⟩)), (7, .slice A3 ((playL l (levs l.es n m) (levs l.es n m).length s t).length) c3), (8, .int .i64 0), (9, .int .i64 (apartI (levs l.es n m) s t)), (10, .int .i64 0), (11, .slice A6 ((levs l.es n m).length) c6), (73, .agg #[.int .i64 l.n, .slice A1 l.ls.length c1, .slice A2 l.es.length c2]), (74, .slice A6 ((levs l.es n m).length) c6), (75, .agg #[.int .i64 l.n, .slice A1 l.ls.length c1, .slice A2 l.es.length c2]), (76, .slice A6 ((levs l.es n m).length) c6), (77, .int .i64 s), (78, .int .i64 t)]
    (cellsAt h6 ⟨g1, 0, none⟩ [.int .i64 l.n, .slice A1 l.ls.length c1, .slice A2 l.es.length c2] 0)
    (by as_aux_lemma => kernel_rfl) (hBg1.all ((((hE2.trans hE3).trans hE4).trans hE5).trans hE6)) fun s_ => ?_
  refine Run.call 27 #[.agg #[.int .i64 l.n, .slice A1 l.ls.length c1, .slice A2 l.es.length c2], .slice A6 ((levs l.es n m).length) c6, .int .i64 s, .int .i64 t] (some 79) (at_ Tryz.f5 [1,1,1,1,1,1,0,8,5]) (by as_aux_lemma => kernel_rfl) (refPlay_ct A1 A2 A6 c1 c2 c6 n m l hm hn hmn (levs l.es n m).length s t _ (hx.ext hE06) hr6 (by unfold InN; omega) (by unfold InN; omega) (mu_le (by unfold InN; omega) (by unfold InN; omega))) ?_
  rintro v h7 ⟨A7, c7, rfl, hr7, hE7⟩
  have hE07 := hE06.trans hE7
  have hr3' := hr3.ext (((hE4.trans hE5).trans hE6).trans hE7)
  have hpl := playL_len l (levs l.es n m) (levs l.es n m).length s t
  generalize playL l (levs l.es n m) (levs l.es n m).length s t = rs at *
  have hne : (apartI (levs l.es n m) s t != apartI (levs l.es n m) s t) = false := by simp
  have hne2 : ((rs.length : Int) != (rs.length : Int)) = false := by simp
  -- at 11111111012
  refine Run.adv 35 [.lit, .lit, .lit, .lit, .lit, .lit, .lit, .val (.int .i64 (apartI (levs l.es n m) s t)), .lit, .dec false, .lit, .lit, .lit, .lit, .dec false] (at_ Tryz.f5 [1,1,1,1,1,1,1,1,0,1,2]) [(7, .slice A3 rs.length c3), (12, .slice A7 rs.length c7), (13, .int .i64 0)]
    ((Ct Tryz.prog 15 #[.slice A6 ((levs l.es n m).length) c6, .int .i64 s, .int .i64 t] h7 (fun v_ h_ => v_ = .int .i64 (apartI (levs l.es n m) s t) ∧ h_ = h7)) ∧ ((apartI (levs l.es n m) s t) != (apartI (levs l.es n m) s t)) = false ∧ ((rs.length : Int) != (rs.length : Int)) = false)
    (by as_aux_lemma => kernel_rfl) ⟨(refApart_ct A6 c6 n (levs l.es n m) s t _ (hr6.ext hE7) levs_rows (by omega) (by omega)), (hne), (hne2)⟩ fun s_ => ?_
  refine Run.loop (at_ Tryz.f5 [1,1,1,1,1,1,1,1,0,1,2,3]) (at_ Tryz.f5 [1,1,1,1,1,1,1,1,0,1,2,7]) (fun i : Nat => [(7, .slice A3 rs.length c3), (12, .slice A7 rs.length c7), (13, .int .i64 (i : Int))])
    (fun i h' => h' = h7 ∧ i ≤ rs.length) (fun i => rs.length - i) 0 (by as_aux_lemma => kernel_rfl) rfl ?_ ?_
  · exact ⟨rfl, Nat.zero_le _⟩
  rintro i s_ h' ⟨rfl, hi⟩ again
  by_cases hlt : i < rs.length
  · obtain ⟨b3, o3, rfl, hp3⟩ := hr3'.open_ (by omega)
    obtain ⟨b7, o7, rfl, hp7⟩ := hr7.open_ (by omega)
    have q3 := hp3 _ (Ext.refl _) (i : Int) (by omega) (by omega)
    have q7 := hp7 _ (Ext.refl _) (i : Int) (by omega) (by omega)
    rw [Int.toNat_natCast] at q3 q7
    generalize rs.getD i (0, ByteArray.empty, 0, 0) = r at q3 q7
    -- at 111111110127
    refine Run.adv 22 [.dec true, .draw, .val (.agg #[.int .i64 r.1, .string r.2.1, .int .i64 r.2.2.1, .int .i64 r.2.2.2]), .val (.agg #[.int .i64 r.1, .string r.2.1, .int .i64 r.2.2.1, .int .i64 r.2.2.2]), .dec false] (at_ Tryz.f5 [1,1,1,1,1,1,1,1,0,1,2,7]) [(7, .slice (some ⟨b3, o3, none⟩) rs.length c3), (12, .slice (some ⟨b7, o7, none⟩) rs.length c7), (13, .int .i64 ((i + 1 : Nat) : Int))]
      ((decide ((i : Int) < (rs.length : Int))) = true ∧ LexOk (opsAt (at_ Tryz.f5 [1,1,1,1,1,1,1,1,0,1,2,3,1,0,2,0])) ∧ (0 ≤ (i : Int) ∧ (i : Int) < (rs.length : Int)) ∧ cellsAt h' ⟨b3, o3 + (i : Int).toNat * 4, none⟩ [.int .i64 r.1, .string r.2.1, .int .i64 r.2.2.1, .int .i64 r.2.2.2] 0 ∧ (0 ≤ (i : Int) ∧ (i : Int) < (rs.length : Int)) ∧ cellsAt h' ⟨b7, o7 + (i : Int).toNat * 4, none⟩ [.int .i64 r.1, .string r.2.1, .int .i64 r.2.2.1, .int .i64 r.2.2.2] 0 ∧ (!((r.1 == r.1) && ((r.2.1.toList == r.2.1.toList) && ((r.2.2.1 == r.2.2.1) && ((r.2.2.2 == r.2.2.2) && true))))) = false ∧ (-9223372036854775808 ≤ (i : Int) + 1 ∧ (i : Int) + 1 ≤ 9223372036854775807))
      (by as_aux_lemma => kernel_rfl) ⟨(by first | assumption | exact decide_eq_true (by first | omega | assumption)), lx_5_1111111101231020, ⟨by omega, by omega⟩, (by rw [Int.toNat_natCast]; exact q3), ⟨by omega, by omega⟩, (by rw [Int.toNat_natCast]; exact q7), (by simp), ⟨by omega, by omega⟩⟩ fun s_ => ?_
    exact again (i + 1) _ _ ⟨rfl, by omega⟩ (by omega)
  · -- at 111111111080
    refine Run.adv 12 [.dec false] (at_ Tryz.f5 [1,1,1,1,1,1,1,1,1,0,8,0]) [(13, .int .i64 (i : Int))]
      ((decide ((i : Int) < (rs.length : Int))) = false)
      (by as_aux_lemma => kernel_rfl) (by first | assumption | exact decide_eq_false (by first | omega | assumption)) fun s_ => ?_
    refine Run.call 24 #[] (some 116) (at_ Tryz.f5 [1,1,1,1,1,1,1,1,1,0,8,1]) (by as_aux_lemma => kernel_rfl) (awake58_ct _ (hT.ext hE07)) ?_
    rintro _ h8 ⟨rfl, hE8⟩
    -- at 1111111111
    refine Run.adv 2 [] (at_ Tryz.f5 [1,1,1,1,1,1,1,1,1,1]) [(6, .bool true)]
      (True)
      (by as_aux_lemma => kernel_rfl) trivial fun s_ => ?_
    refine Run.ret [] (.bool true) (True) Tryz.func5 (by as_aux_lemma => kernel_rfl) (by as_aux_lemma => kernel_rfl) trivial ?_
    exact ⟨rfl, hE07.trans hE8⟩
end Go.Proofs.YtbajgbkkbabmlaaGreatDoor
