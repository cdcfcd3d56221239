/- sign.Of, sign.Step, sign.Stable, walked. -/
import Derived.Test.YtbajgbkkbabmlaaDoorProg
import Derived.Test.YtbajgbkkbabmlaaDoorU1
import Derived.Test.YtbajgbkkbabmlaaDoorB1
import Derived.Test.YtbajgbkkbabmlaaDoorS3
import Derived.Test.YtbajgbkkbabmlaaDoorS4
set_option linter.unusedVariables false
namespace Go.Proofs.YtbajgbkkbabmlaaDoor
open Go.Vc

theorem errB_yes {p : Prop} (h : p) : errB p = 0 := by unfold errB; rw [if_pos (tv_yes h)]
theorem errB_no {p : Prop} (h : ¬ p) : errB p = 1 := by unfold errB; rw [if_neg (by rw [tv_no h]; simp)]
/-- A partition of a system that may be. -/
def Good (l : Lt) (p : List Int) : Prop := May l ∧ (p.length : Int) = l.n
theorem scheck_ct (A1 A2 A3 : Option Addr) (c1 c2 c3 : Nat) (l : Lt) (p : List Int) (h : Heap) (hx : LtAt h l A1 c1 A2 c2) (hl : l.ls.length ≤ 100000) :
    Ct Tryd.prog 36 #[.agg #[.int .i64 l.n, .slice A1 l.ls.length c1, .slice A2 l.es.length c2], .slice A3 p.length c3] h (fun v h' => v = .int .i64 (errB (Good l p)) ∧ Ext h h') := by
  refine Ct.enter (args := [.agg #[.int .i64 l.n, .slice A1 l.ls.length c1, .slice A2 l.es.length c2], .slice A3 p.length c3]) Tryd.func36 rfl Tryd.ntmps36 (by simp) fun w hw => ?_
  -- at 080
  refine Run.adv 2 [] (at_ Tryd.f36 [0,8,0]) [(0, .agg #[.int .i64 l.n, .slice A1 l.ls.length c1, .slice A2 l.es.length c2]), (1, .slice A3 p.length c3)]
    (True)
    (by as_aux_lemma => kernel_rfl) trivial fun s_ => ?_
  refine Run.new #[.int .i64 l.n, .slice A1 l.ls.length c1, .slice A2 l.es.length c2] 25 (fun g_ => .pointer (some ⟨g_, 0, none⟩)) (some 2) (at_ Tryd.f36 [0,8,1]) (by as_aux_lemma => kernel_rfl) fun g1 h1 hng1 hEg1 hBg1 => ?_
  -- at 10081
  refine Run.adv 6 [.val (.agg #[.int .i64 l.n, .slice A1 l.ls.length c1, .slice A2 l.es.length c2])] (at_ Tryd.f36 [1,0,0,8,1]) [(0, .agg #[.int .i64 l.n, .slice A1 l.ls.length c1, .slice A2 l.es.length c2]), (1, .slice A3 p.length c3), (2, .pointer (some ⟨g1, 0, none⟩)), (4, .int .i64 0), (5, .agg #[.int .i64 l.n, .slice A1 l.ls.length c1, .slice A2 l.es.length c2])]
    (cellsAt h1 ⟨g1, 0, none⟩ [.int .i64 l.n, .slice A1 l.ls.length c1, .slice A2 l.es.length c2] 0)
    (by as_aux_lemma => kernel_rfl) (hBg1.all (Ext.refl _)) fun s_ => ?_
  refine Run.call 50 #[.agg #[.int .i64 l.n, .slice A1 l.ls.length c1, .slice A2 l.es.length c2]] (some 6) (at_ Tryd.f36 [1,0,0,8,2]) (by as_aux_lemma => kernel_rfl) (CheckM_ct A1 A2 c1 c2 l _ (hx.ext hEg1) hl) ?_
  rintro _ h2 ⟨rfl, hE⟩
  by_cases hm : May l
  · have he : errB (May l) = 0 := errB_yes hm
    by_cases hn : (p.length : Int) = l.n
    · -- at 111
      refine Run.adv 15 [.dec false, .lit, .lit, .lit, .val (.int .i64 l.n), .lit, .dec false] (at_ Tryd.f36 [1,1,1]) [(4, .int .i64 0)]
        (((errB (May l)) != 0) = false ∧ cellH h2 ⟨g1, 0, none⟩ = some (.int .i64 l.n) ∧ ((p.length : Int) != l.n) = false)
        (by as_aux_lemma => kernel_rfl) ⟨(bne_eq_false_iff_eq.2 (by first | omega | assumption)), (hBg1.at hE 0 rfl), (bne_eq_false_iff_eq.2 (by first | omega | assumption))⟩ fun s_ => ?_
      refine Run.ret [] (.int .i64 0) (True) Tryd.func36 (by as_aux_lemma => kernel_rfl) (by as_aux_lemma => kernel_rfl) trivial ?_
      exact ⟨by rw [errB_yes ⟨hm, hn⟩], (hEg1.trans hE)⟩
    · -- at 10141
      refine Run.adv 14 [.dec false, .lit, .lit, .lit, .val (.int .i64 l.n), .lit, .dec true] (at_ Tryd.f36 [1,0,1,4,1]) [(4, .int .i64 1)]
        (((errB (May l)) != 0) = false ∧ cellH h2 ⟨g1, 0, none⟩ = some (.int .i64 l.n) ∧ ((p.length : Int) != l.n) = true)
        (by as_aux_lemma => kernel_rfl) ⟨(bne_eq_false_iff_eq.2 (by first | omega | assumption)), (hBg1.at hE 0 rfl), (bne_iff_ne.2 (by first | omega | assumption))⟩ fun s_ => ?_
      refine Run.ret [] (.int .i64 1) (True) Tryd.func36 (by as_aux_lemma => kernel_rfl) (by as_aux_lemma => kernel_rfl) trivial ?_
      exact ⟨by rw [errB_no (fun hh => hn hh.2)], (hEg1.trans hE)⟩
  · have he : errB (May l) ≠ 0 := by rw [errB_no hm]; decide
    -- at 10141
    refine Run.adv 14 [.dec true, .lit, .lit, .lit, .lit, .lit] (at_ Tryd.f36 [1,0,1,4,1]) [(4, .int .i64 1)]
      (((errB (May l)) != 0) = true)
      (by as_aux_lemma => kernel_rfl) (bne_iff_ne.2 (by first | omega | assumption)) fun s_ => ?_
    refine Run.ret [] (.int .i64 1) (True) Tryd.func36 (by as_aux_lemma => kernel_rfl) (by as_aux_lemma => kernel_rfl) trivial ?_
    exact ⟨by rw [errB_no (fun hh => hm hh.1)], (hEg1.trans hE)⟩
theorem ofNo_ct (A1 A2 A3 : Option Addr) (c1 c2 c3 : Nat) (l : Lt) (p : List Int) (node : Int) (h : Heap) (hx : LtAt h l A1 c1 A2 c2) (hl : l.ls.length ≤ 100000) (hno : ¬ (Good l p ∧ 0 ≤ node ∧ node < l.n)) :
    Ct Tryd.prog 12 #[.agg #[.int .i64 l.n, .slice A1 l.ls.length c1, .slice A2 l.es.length c2], .slice A3 p.length c3, .int .i64 node] h (fun v h' => v = .tuple #[.slice none 0 0, .int .i64 1] ∧ Ext h h') := by
  refine Ct.enter (args := [.agg #[.int .i64 l.n, .slice A1 l.ls.length c1, .slice A2 l.es.length c2], .slice A3 p.length c3, .int .i64 node]) Tryd.func12 rfl Tryd.ntmps12 (by simp) fun w hw => ?_
  -- at 080
  refine Run.adv 2 [] (at_ Tryd.f12 [0,8,0]) [(0, .agg #[.int .i64 l.n, .slice A1 l.ls.length c1, .slice A2 l.es.length c2]), (1, .slice A3 p.length c3), (2, .int .i64 node)]
    (True)
    (by as_aux_lemma => kernel_rfl) trivial fun s_ => ?_
  refine Run.new #[.int .i64 l.n, .slice A1 l.ls.length c1, .slice A2 l.es.length c2] 25 (fun g_ => .pointer (some ⟨g_, 0, none⟩)) (some 3) (at_ Tryd.f12 [0,8,1]) (by as_aux_lemma => kernel_rfl) fun g1 h1 hng1 hEg1 hBg1 => ?_
  -- at 10082
  refine Run.adv 8 [.val (.agg #[.int .i64 l.n, .slice A1 l.ls.length c1, .slice A2 l.es.length c2])] (at_ Tryd.f12 [1,0,0,8,2]) [(0, .agg #[.int .i64 l.n, .slice A1 l.ls.length c1, .slice A2 l.es.length c2]), (1, .slice A3 p.length c3), (2, .int .i64 node), (3, .pointer (some ⟨g1, 0, none⟩)), (6, .slice none 0 0), (7, .int .i64 0), (8, .agg #[.int .i64 l.n, .slice A1 l.ls.length c1, .slice A2 l.es.length c2]), (9, .slice A3 p.length c3)]
    (cellsAt h1 ⟨g1, 0, none⟩ [.int .i64 l.n, .slice A1 l.ls.length c1, .slice A2 l.es.length c2] 0)
    (by as_aux_lemma => kernel_rfl) (hBg1.all (Ext.refl _)) fun s_ => ?_
  refine Run.call 36 #[.agg #[.int .i64 l.n, .slice A1 l.ls.length c1, .slice A2 l.es.length c2], .slice A3 p.length c3] (some 10) (at_ Tryd.f12 [1,0,0,8,3]) (by as_aux_lemma => kernel_rfl) (scheck_ct A1 A2 A3 c1 c2 c3 l p _ (hx.ext hEg1) hl) ?_
  rintro _ h2 ⟨rfl, hE⟩
  by_cases hm : Good l p
  · have he : errB (Good l p) = 0 := errB_yes hm
    by_cases hn : node < 0
    · -- at 10141
      refine Run.adv 18 [.dec false, .lit, .dec true, .lit, .lit, .lit, .lit] (at_ Tryd.f12 [1,0,1,4,1]) [(6, .slice none 0 0), (7, .int .i64 1)]
        (((errB (Good l p)) != 0) = false ∧ (decide (node < 0)) = true)
        (by as_aux_lemma => kernel_rfl) ⟨(bne_eq_false_iff_eq.2 (by first | omega | assumption)), (by first | assumption | exact decide_eq_true (by first | omega | assumption))⟩ fun s_ => ?_
      refine Run.ret [] (.tuple #[.slice none 0 0, .int .i64 1]) (True) Tryd.func12 (by as_aux_lemma => kernel_rfl) (by as_aux_lemma => kernel_rfl) trivial ?_
      exact ⟨rfl, (hEg1.trans hE)⟩
    · have hn2 : node ≥ l.n := by
        rcases Int.lt_or_le node l.n with h2 | h2
        · exact absurd ⟨hm, by omega, h2⟩ hno
        · exact h2
      -- at 10141
      refine Run.adv 18 [.dec false, .lit, .dec false, .lit, .lit, .val (.int .i64 l.n), .lit, .dec true] (at_ Tryd.f12 [1,0,1,4,1]) [(6, .slice none 0 0), (7, .int .i64 1)]
        (((errB (Good l p)) != 0) = false ∧ (decide (node < 0)) = false ∧ cellH h2 ⟨g1, 0, none⟩ = some (.int .i64 l.n) ∧ (decide (node ≥ l.n)) = true)
        (by as_aux_lemma => kernel_rfl) ⟨(bne_eq_false_iff_eq.2 (by first | omega | assumption)), (by first | assumption | exact decide_eq_false (by first | omega | assumption)), (hBg1.at hE 0 rfl), (by first | assumption | exact decide_eq_true (by first | omega | assumption))⟩ fun s_ => ?_
      refine Run.ret [] (.tuple #[.slice none 0 0, .int .i64 1]) (True) Tryd.func12 (by as_aux_lemma => kernel_rfl) (by as_aux_lemma => kernel_rfl) trivial ?_
      exact ⟨rfl, (hEg1.trans hE)⟩
  · have he : errB (Good l p) ≠ 0 := by rw [errB_no hm]; decide
    -- at 10141
    refine Run.adv 18 [.dec true, .lit, .lit, .lit, .lit, .lit, .lit] (at_ Tryd.f12 [1,0,1,4,1]) [(6, .slice none 0 0), (7, .int .i64 1)]
      (((errB (Good l p)) != 0) = true)
      (by as_aux_lemma => kernel_rfl) (bne_iff_ne.2 (by first | omega | assumption)) fun s_ => ?_
    refine Run.ret [] (.tuple #[.slice none 0 0, .int .i64 1]) (True) Tryd.func12 (by as_aux_lemma => kernel_rfl) (by as_aux_lemma => kernel_rfl) trivial ?_
    exact ⟨rfl, (hEg1.trans hE)⟩
theorem ofOk_ct (A1 A2 A3 : Option Addr) (c1 c2 c3 : Nat) (l : Lt) (p : List Int) (node : Nat) (h : Heap) (hx : LtAt h l A1 c1 A2 c2) (hp : Ints h A3 p c3) (hm : May l) (hn : (p.length : Int) = l.n) (hi : node < p.length) :
    Ct Tryd.prog 12 #[.agg #[.int .i64 l.n, .slice A1 l.ls.length c1, .slice A2 l.es.length c2], .slice A3 p.length c3, .int .i64 (node : Int)] h
      (fun v h' => ∃ w og, v = .tuple #[w, .int .i64 0] ∧ Own h' 56 2 w (waysOf l.es (plainL p) node).length ((waysOf l.es (plainL p) node).flatMap encW) og ∧ Ext h h') := by
  have hm2 := hm.n2
  have hl := hm.ls.1
  have hG : Good l p := ⟨hm, hn⟩
  have he : errB (Good l p) = 0 := errB_yes hG
  have hpl := plainL_len p
  refine Ct.enter (args := [.agg #[.int .i64 l.n, .slice A1 l.ls.length c1, .slice A2 l.es.length c2], .slice A3 p.length c3, .int .i64 (node : Int)]) Tryd.func12 rfl Tryd.ntmps12 (by simp) fun w hw => ?_
  -- at 080
  refine Run.adv 2 [] (at_ Tryd.f12 [0,8,0]) [(0, .agg #[.int .i64 l.n, .slice A1 l.ls.length c1, .slice A2 l.es.length c2]), (1, .slice A3 p.length c3), (2, .int .i64 (node : Int))]
    (True)
    (by as_aux_lemma => kernel_rfl) trivial fun s_ => ?_
  refine Run.new #[.int .i64 l.n, .slice A1 l.ls.length c1, .slice A2 l.es.length c2] 25 (fun g_ => .pointer (some ⟨g_, 0, none⟩)) (some 3) (at_ Tryd.f12 [0,8,1]) (by as_aux_lemma => kernel_rfl) fun g1 h1 hng1 hEg1 hBg1 => ?_
  -- at 10082
  refine Run.adv 8 [.val (.agg #[.int .i64 l.n, .slice A1 l.ls.length c1, .slice A2 l.es.length c2])] (at_ Tryd.f12 [1,0,0,8,2]) [(0, .agg #[.int .i64 l.n, .slice A1 l.ls.length c1, .slice A2 l.es.length c2]), (1, .slice A3 p.length c3), (2, .int .i64 (node : Int)), (3, .pointer (some ⟨g1, 0, none⟩)), (6, .slice none 0 0), (7, .int .i64 0), (8, .agg #[.int .i64 l.n, .slice A1 l.ls.length c1, .slice A2 l.es.length c2]), (9, .slice A3 p.length c3)]
    (cellsAt h1 ⟨g1, 0, none⟩ [.int .i64 l.n, .slice A1 l.ls.length c1, .slice A2 l.es.length c2] 0)
    (by as_aux_lemma => kernel_rfl) (hBg1.all (Ext.refl _)) fun s_ => ?_
  refine Run.call 36 #[.agg #[.int .i64 l.n, .slice A1 l.ls.length c1, .slice A2 l.es.length c2], .slice A3 p.length c3] (some 10) (at_ Tryd.f12 [1,0,0,8,3]) (by as_aux_lemma => kernel_rfl) (scheck_ct A1 A2 A3 c1 c2 c3 l p _ (hx.ext hEg1) (by omega)) ?_
  rintro _ h2 ⟨rfl, hE⟩
  have hE2 := hEg1.trans hE
  -- at 110
  refine Run.adv 15 [.dec false, .lit, .dec false, .lit, .lit, .val (.int .i64 l.n), .lit, .dec false] (at_ Tryd.f12 [1,1,0]) [(1, .slice A3 p.length c3), (2, .int .i64 (node : Int)), (3, .pointer (some ⟨g1, 0, none⟩))]
    (((errB (Good l p)) != 0) = false ∧ (decide ((node : Int) < 0)) = false ∧ cellH h2 ⟨g1, 0, none⟩ = some (.int .i64 l.n) ∧ (decide ((node : Int) ≥ l.n)) = false)
    (by as_aux_lemma => kernel_rfl) ⟨(bne_eq_false_iff_eq.2 (by first | omega | assumption)), (by first | assumption | exact decide_eq_false (by first | omega | assumption)), (hBg1.at hE 0 rfl), (by first | assumption | exact decide_eq_false (by first | omega | assumption))⟩ fun s_ => ?_
  refine Run.any (opsAt (at_ Tryd.f12 [1,1,0])) (at_ Tryd.f12 [1,1,1]) (fun H => Mod none h2 H) [0, 1, 4, 5, 7, 8] [0, 1, 4] [.val (.agg #[.int .i64 l.n, .slice A1 l.ls.length c1, .slice A2 l.es.length c2])] #[true, true, false, false, true, false, false, false, false] [(1, .slice A3 p.length c3), (2, .int .i64 (node : Int)), (3, .pointer (some ⟨g1, 0, none⟩)), (22, .agg #[.int .i64 l.n, .slice A1 l.ls.length c1, .slice A2 l.es.length c2]), (23, .slice A3 p.length c3), (26, .int .i64 (node : Int))]
    (fun H => cellsAt H ⟨g1, 0, none⟩ [.int .i64 l.n, .slice A1 l.ls.length c1, .slice A2 l.es.length c2] 0) 6 (by as_aux_lemma => kernel_rfl) (by as_aux_lemma => kernel_rfl) ((Ext.refl _).mod _)
    (by as_aux_lemma => kernel_rfl) (fun H hC => (hBg1.all (hE.trans hC.none_ext))) fun s_ => ?_
  refine RunA.call 5 23 #[.slice A3 p.length c3] (some 24) false #[true, true, true, false, true, false, false, false, false] (by as_aux_lemma => kernel_rfl) (plainP_ct A3 c3 p _ (hp.ext hE2) (by omega)) ?_
  rintro v h3 ⟨og3, hO3, hE3, -⟩
  refine ⟨fun _ => (((Ext.refl _).mod _).trans (hE3.mod _)), ?_⟩
  obtain ⟨A4, c4, rfl, hr4⟩ := hO3.row1 (d := 0) (by omega)
  refine RunA.call 4 37 #[.agg #[.int .i64 l.n, .slice A1 l.ls.length c1, .slice A2 l.es.length c2], .slice A4 ((plainL p).length) c4] (some 25) false #[true, true, true, true, true, false, false, false, false] (by as_aux_lemma => kernel_rfl) (all_ct A1 A2 A4 c1 c2 c4 l (plainL p) _ (hx.ext (hE2.trans hE3)) hr4 hm (by omega)) ?_
  rintro v h4 ⟨g, vs, hO4, hN4, hE4, hg4⟩
  refine ⟨fun _ => ((((Ext.refl _).mod _).trans (hE3.mod _)).trans (hE4.mod _)), ?_⟩
  obtain ⟨A5, c5, rfl⟩ := hO4.slice
  obtain ⟨rfl, _⟩ := hO4.addr
  obtain ⟨o, hOi, hob, -⟩ := hN4.open_ (j := node) (by simp; omega)
  obtain ⟨A6, c6, hv6⟩ := hOi.slice
  rw [hv6, mapRange_getD _ _ (by omega)] at hOi
  have hvl := hO4.cslen
  have hhd : vs[node]? = some (.slice A6 (waysOf l.es (plainL p) node).length c6) := by
    rw [getD_some undef (by omega), hv6, mapRange_getD _ _ (by omega)]
  refine RunA.adv [5] [] #[true, true, true, true, true, true, false, false, false] [(1, .slice A3 p.length c3), (2, .int .i64 (node : Int)), (3, .pointer (some ⟨g1, 0, none⟩)), (22, .agg #[.int .i64 l.n, .slice A1 l.ls.length c1, .slice A2 l.es.length c2]), (23, .slice A3 p.length c3), (24, .slice A4 ((plainL p).length) c4), (25, .slice (some ⟨g, 0, none⟩) ((plainL p).length) c5), (26, .int .i64 (node : Int)), (27, .pointer (some ⟨g, 0 + (node : Int).toNat, none⟩))]
    (fun H => (0 ≤ (node : Int) ∧ (node : Int) < ((plainL p).length : Int))) 3 (by as_aux_lemma => kernel_rfl) ((((Ext.refl _).mod _).trans (hE3.mod _)).trans (hE4.mod _))
    (by as_aux_lemma => kernel_rfl) (fun H hC => ⟨by omega, by omega⟩) fun s_ => ?_
  refine RunA.solo 2 [.val (.slice A6 ((waysOf l.es (plainL p) node).length) c6)] (.slice A6 ((waysOf l.es (plainL p) node).length) c6) (some 28) false #[true, true, true, true, true, true, true, false, false] (cellH h4 ⟨g, 0 + (node : Int).toNat, none⟩ = some (.slice A6 ((waysOf l.es (plainL p) node).length) c6)) (by as_aux_lemma => kernel_rfl) (hO4.cell (by simpa using hhd)) (fun _ => ((((Ext.refl _).mod _).trans (hE3.mod _)).trans (hE4.mod _))) ?_
  refine RunA.adv [7, 8] [] #[true, true, true, true, true, true, true, true, true] [(1, .slice A3 p.length c3), (2, .int .i64 (node : Int)), (3, .pointer (some ⟨g1, 0, none⟩)), (6, .slice A6 ((waysOf l.es (plainL p) node).length) c6), (7, .int .i64 0), (22, .agg #[.int .i64 l.n, .slice A1 l.ls.length c1, .slice A2 l.es.length c2]), (23, .slice A3 p.length c3), (24, .slice A4 ((plainL p).length) c4), (25, .slice (some ⟨g, 0, none⟩) ((plainL p).length) c5), (26, .int .i64 (node : Int)), (27, .pointer (some ⟨g, 0 + (node : Int).toNat, none⟩)), (28, .slice A6 ((waysOf l.es (plainL p) node).length) c6)]
    (fun H => True) 0 (by as_aux_lemma => kernel_rfl) ((((Ext.refl _).mod _).trans (hE3.mod _)).trans (hE4.mod _))
    (by as_aux_lemma => kernel_rfl) (fun H hC => trivial) fun s_ => ?_
  refine RunA.done [(1, .slice A3 p.length c3), (2, .int .i64 (node : Int)), (3, .pointer (some ⟨g1, 0, none⟩)), (6, .slice A6 ((waysOf l.es (plainL p) node).length) c6), (7, .int .i64 0), (22, .agg #[.int .i64 l.n, .slice A1 l.ls.length c1, .slice A2 l.es.length c2]), (23, .slice A3 p.length c3), (24, .slice A4 ((plainL p).length) c4), (25, .slice (some ⟨g, 0, none⟩) ((plainL p).length) c5), (26, .int .i64 (node : Int)), (27, .pointer (some ⟨g, 0 + (node : Int).toNat, none⟩)), (28, .slice A6 ((waysOf l.es (plainL p) node).length) c6)] (by as_aux_lemma => kernel_rfl) (by as_aux_lemma => kernel_rfl) fun s_ => ?_
  -- at 111
  refine Run.adv 0 [] (at_ Tryd.f12 [1,1,1]) [(6, .slice A6 ((waysOf l.es (plainL p) node).length) c6), (7, .int .i64 0)]
    (True)
    (by as_aux_lemma => kernel_rfl) trivial fun s_ => ?_
  refine Run.ret [] (.tuple #[.slice A6 ((waysOf l.es (plainL p) node).length) c6, .int .i64 0]) (True) Tryd.func12 (by as_aux_lemma => kernel_rfl) (by as_aux_lemma => kernel_rfl) trivial ?_
  exact ⟨_, o, rfl, hOi, (((hEg1.trans hE).trans hE3).trans hE4)⟩
end Go.Proofs.YtbajgbkkbabmlaaDoor
