/- sign.Of, sign.Step, sign.Stable, walked. -/
import Derived.Test.YtbajgbkkbabmlaaGreatDoorProg
import Derived.Test.YtbajgbkkbabmlaaGreatDoorU1
import Derived.Test.YtbajgbkkbabmlaaGreatDoorB1
import Derived.Test.YtbajgbkkbabmlaaGreatDoorS3
import Derived.Test.YtbajgbkkbabmlaaGreatDoorS4
set_option linter.unusedVariables false
namespace Go.Proofs.YtbajgbkkbabmlaaGreatDoor
open Go.Vc

theorem errB_yes {p : Prop} (h : p) : errB p = 0 := by unfold errB; rw [if_pos (tv_yes h)]
theorem errB_no {p : Prop} (h : ¬ p) : errB p = 1 := by unfold errB; rw [if_neg (by rw [tv_no h]; simp)]
/-- A partition of a system that may be. -/
def Good (l : Lt) (p : List Int) : Prop := May l ∧ (p.length : Int) = l.n
theorem scheck_ct (A1 A2 A3 : Option Addr) (c1 c2 c3 : Nat) (l : Lt) (p : List Int) (h : Heap) (hx : LtAt h l A1 c1 A2 c2) (hl : l.ls.length ≤ 100000) :
    Ct Tryz.prog 80 #[.agg #[.int .i64 l.n, .slice A1 l.ls.length c1, .slice A2 l.es.length c2], .slice A3 p.length c3] h (fun v h' => v = .int .i64 (errB (Good l p)) ∧ Ext h h') := by
  refine Ct.enter (args := [.agg #[.int .i64 l.n, .slice A1 l.ls.length c1, .slice A2 l.es.length c2], .slice A3 p.length c3]) Tryz.func80 rfl Tryz.ntmps80 (by simp) fun w hw => ?_
  -- at 080
  refine Run.adv 2 [] (at_ Tryz.f80 [0,8,0]) [(0, .agg #[.int .i64 l.n, .slice A1 l.ls.length c1, .slice A2 l.es.length c2]), (1, .slice A3 p.length c3)]
    (True)
    (by as_aux_lemma => kernel_rfl) trivial fun s_ => ?_
  refine Run.new #[.int .i64 l.n, .slice A1 l.ls.length c1, .slice A2 l.es.length c2] 25 (fun g_ => .pointer (some ⟨g_, 0, none⟩)) (some 2) (at_ Tryz.f80 [0,8,1]) (by as_aux_lemma => kernel_rfl) fun g1 h1 hng1 hEg1 hBg1 => ?_
  -- at 10081
  refine Run.adv 6 [.val (.agg #[.int .i64 l.n, .slice A1 l.ls.length c1, .slice A2 l.es.length c2])] (at_ Tryz.f80 [1,0,0,8,1]) [(0, .agg #[.int .i64 l.n, .slice A1 l.ls.length c1, .slice A2 l.es.length c2]), (1, .slice A3 p.length c3), (2, .pointer (some ⟨g1, 0, none⟩)), (4, .int .i64 0), (5, .agg #[.int .i64 l.n, .slice A1 l.ls.length c1, .slice A2 l.es.length c2])]
    (cellsAt h1 ⟨g1, 0, none⟩ [.int .i64 l.n, .slice A1 l.ls.length c1, .slice A2 l.es.length c2] 0)
    (by as_aux_lemma => kernel_rfl) (hBg1.all (Ext.refl _)) fun s_ => ?_
  refine Run.call 73 #[.agg #[.int .i64 l.n, .slice A1 l.ls.length c1, .slice A2 l.es.length c2]] (some 6) (at_ Tryz.f80 [1,0,0,8,2]) (by as_aux_lemma => kernel_rfl) (CheckM_ct A1 A2 c1 c2 l _ (hx.ext hEg1) hl) ?_
  rintro _ h2 ⟨rfl, hE⟩
  by_cases hm : May l
  · have he : errB (May l) = 0 := errB_yes hm
    by_cases hn : (p.length : Int) = l.n
    · -- at 111
      refine Run.adv 15 [.dec false, .lit, .lit, .lit, .val (.int .i64 l.n), .lit, .dec false] (at_ Tryz.f80 [1,1,1]) [(4, .int .i64 0)]
        (((errB (May l)) != 0) = false ∧ cellH h2 ⟨g1, 0, none⟩ = some (.int .i64 l.n) ∧ ((p.length : Int) != l.n) = false)
        (by as_aux_lemma => kernel_rfl) ⟨(bne_eq_false_iff_eq.2 (by first | omega | assumption)), (hBg1.at hE 0 rfl), (bne_eq_false_iff_eq.2 (by first | omega | assumption))⟩ fun s_ => ?_
      refine Run.ret [] (.int .i64 0) (True) Tryz.func80 (by as_aux_lemma => kernel_rfl) (by as_aux_lemma => kernel_rfl) trivial ?_
      exact ⟨by rw [errB_yes ⟨hm, hn⟩], (hEg1.trans hE)⟩
    · -- at 10141
      refine Run.adv 14 [.dec false, .lit, .lit, .lit, .val (.int .i64 l.n), .lit, .dec true] (at_ Tryz.f80 [1,0,1,4,1]) [(4, .int .i64 1)]
        (((errB (May l)) != 0) = false ∧ cellH h2 ⟨g1, 0, none⟩ = some (.int .i64 l.n) ∧ ((p.length : Int) != l.n) = true)
        (by as_aux_lemma => kernel_rfl) ⟨(bne_eq_false_iff_eq.2 (by first | omega | assumption)), (hBg1.at hE 0 rfl), (bne_iff_ne.2 (by first | omega | assumption))⟩ fun s_ => ?_
      refine Run.ret [] (.int .i64 1) (True) Tryz.func80 (by as_aux_lemma => kernel_rfl) (by as_aux_lemma => kernel_rfl) trivial ?_
      exact ⟨by rw [errB_no (fun hh => hn hh.2)], (hEg1.trans hE)⟩
  · have he : errB (May l) ≠ 0 := by rw [errB_no hm]; decide
    -- at 10141
    refine Run.adv 14 [.dec true, .lit, .lit, .lit, .lit, .lit] (at_ Tryz.f80 [1,0,1,4,1]) [(4, .int .i64 1)]
      (((errB (May l)) != 0) = true)
      (by as_aux_lemma => kernel_rfl) (bne_iff_ne.2 (by first | omega | assumption)) fun s_ => ?_
    refine Run.ret [] (.int .i64 1) (True) Tryz.func80 (by as_aux_lemma => kernel_rfl) (by as_aux_lemma => kernel_rfl) trivial ?_
    exact ⟨by rw [errB_no (fun hh => hm hh.1)], (hEg1.trans hE)⟩
end Go.Proofs.YtbajgbkkbabmlaaGreatDoor
