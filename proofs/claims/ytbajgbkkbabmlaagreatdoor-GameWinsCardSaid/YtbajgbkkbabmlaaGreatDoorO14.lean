/- Pairs of nodes in a list. -/
import Derived.Test.YtbajgbkkbabmlaaGreatDoorProg
import Derived.Test.YtbajgbkkbabmlaaGreatDoorVt
import Derived.Test.YtbajgbkkbabmlaaGreatDoorO13
set_option linter.unusedVariables false
namespace Go.Vc
theorem says_eqP {P : Program} {t e : TypeId} (hk : P.underlying t = some (.array 2 e)) (he : P.underlying e = some (.int .i64)) (hi : (P.info? e).map (·.size) = some 1) (hg : P.eqGuardType P.depth t = false) {x y : Operand} (a b c d : Int) (h : Heap) :
    Says P (do eqGuard .eql t x y (.agg #[.int .i64 a, .int .i64 b]) (.agg #[.int .i64 c, .int .i64 d]); binOp .eql t (.agg #[.int .i64 a, .int .i64 b]) (.agg #[.int .i64 c, .int .i64 d])) (.bool (decide ((a, b) = (c, d)))) h := by
  intro w _
  have := eq_pair (w := w) hk he hi a b c d 9998
  simp only [eqGuard, binOp, Op.equal, Op.maxDepth]
  simp [Result.andThen, hg, this]
end Go.Vc
namespace Go.Proofs.YtbajgbkkbabmlaaGreatDoor
open Go.Vc
theorem lx_89_10123110210 : LexOk (opsAt (at_ Tryz.f89 [1,0,1,2,3,1,1,0,2,1,0])) := ⟨by kernel_rfl⟩

theorem array2 : Tryz.prog.underlying 41 = some (.array 2 3) := by kernel_rfl
theorem noguard2 : Tryz.prog.eqGuardType Tryz.prog.depth 41 = false := by kernel_rfl
theorem indexP_ct (A : Option Addr) (c : Nat) (ws : List Wy) (a b : Int) (h : Heap) (hx : Wys h A ws c) (hl : ws.length ≤ 1000000000) :
    Ct Tryz.prog 89 #[.slice A ws.length c, .agg #[.int .i64 a, .int .i64 b]] h (fun v h' => (∃ i : Int, v = .int .i64 i ∧ (0 ≤ i ↔ (a, b) ∈ ws)) ∧ Ext h h') := by
  refine Ct.enter (args := [.slice A ws.length c, .agg #[.int .i64 a, .int .i64 b]]) Tryz.func89 rfl Tryz.ntmps89 (by simp) fun w hw => ?_
  -- at 080
  refine Run.adv 2 [] (at_ Tryz.f89 [0,8,0]) [(0, .slice A ws.length c), (1, .agg #[.int .i64 a, .int .i64 b])]
    (True)
    (by as_aux_lemma => kernel_rfl) trivial fun s_ => ?_
  refine Run.new #[.int .i64 a, .int .i64 b] 41 (fun g_ => .pointer (some ⟨g_, 0, none⟩)) (some 3) (at_ Tryz.f89 [0,8,1]) (by as_aux_lemma => kernel_rfl) fun g3 h1 hng3 hEg3 hBg3 => ?_
  -- at 1012
  refine Run.adv 10 [] (at_ Tryz.f89 [1,0,1,2]) [(0, .slice A ws.length c), (3, .pointer (some ⟨g3, 0, none⟩)), (7, .int .i64 (ws.length : Int)), (8, .int .i64 0)]
    (True)
    (by as_aux_lemma => kernel_rfl) trivial fun s_ => ?_
  refine Run.loop (at_ Tryz.f89 [1,0,1,2,3]) (at_ Tryz.f89 [1,0,1,2,7]) (fun i : Nat => [(0, .slice A ws.length c), (3, .pointer (some ⟨g3, 0, none⟩)), (7, .int .i64 (ws.length : Int)), (8, .int .i64 (i : Int))])
    (fun i h' => h' = h1 ∧ i ≤ ws.length ∧ ∀ j : Nat, j < i → wd ws j ≠ (a, b)) (fun i => ws.length - i) 0 (by as_aux_lemma => kernel_rfl) rfl ?_ ?_
  · exact ⟨rfl, Nat.zero_le _, fun j hj => by omega⟩
  rintro i s_ h' ⟨rfl, hi, hI⟩ again
  by_cases hlt : i < ws.length
  · obtain ⟨b3, o3, rfl, hp3⟩ := hx.open_ (by omega)
    have hpe := hp3 _ hEg3 (i : Int) (by omega) (by omega)
    rw [Int.toNat_natCast] at hpe
    have hmem : ws.getD i (0, 0) ∈ ws := by rw [List.getD_eq_getElem?_getD, List.getElem?_eq_getElem hlt]; exact List.getElem_mem _
    have hwd : wd ws i = ws.getD i (0, 0) := rfl
    generalize ws.getD i (0, 0) = e at hpe hmem hwd
    by_cases e1 : (a, b) = (e.1, e.2)
    · -- at 1012311021141
      refine Run.adv 22 [.dec true, .draw, .val (.agg #[.int .i64 a, .int .i64 b]), .val (.agg #[.int .i64 e.1, .int .i64 e.2]), .say (.bool (decide ((a, b) = (e.1, e.2)))), .dec true] (at_ Tryz.f89 [1,0,1,2,3,1,1,0,2,1,1,4,1]) [(4, .int .i64 (i : Int))]
        ((decide ((i : Int) < (ws.length : Int))) = true ∧ LexOk (opsAt (at_ Tryz.f89 [1,0,1,2,3,1,1,0,2,1,0])) ∧ cellsAt h' ⟨g3, 0, none⟩ [.int .i64 a, .int .i64 b] 0 ∧ (0 ≤ (i : Int) ∧ (i : Int) < (ws.length : Int)) ∧ cellsAt h' ⟨b3, o3 + (i : Int).toNat * 2, none⟩ [.int .i64 e.1, .int .i64 e.2] 0 ∧ Says Tryz.prog (do eqGuard .eql 41 (Operand.tmp 11) (Operand.tmp 15) (.agg #[.int .i64 a, .int .i64 b]) (.agg #[.int .i64 e.1, .int .i64 e.2]); binOp .eql 41 (.agg #[.int .i64 a, .int .i64 b]) (.agg #[.int .i64 e.1, .int .i64 e.2])) (.bool (decide ((a, b) = (e.1, e.2)))) h' ∧ (decide ((a, b) = (e.1, e.2))) = true)
        (by as_aux_lemma => kernel_rfl) ⟨(by first | assumption | exact decide_eq_true (by first | omega | assumption)), lx_89_10123110210, (hBg3.all (Ext.refl _)), ⟨by omega, by omega⟩, (by rw [Int.toNat_natCast]; exact hpe), (says_eqP array2 Tryz.underlying3 info_int noguard2 _ _ _ _ _), (decide_eq_true e1)⟩ fun s_ => ?_
      refine Run.ret [] (.int .i64 (i : Int)) (True) Tryz.func89 (by as_aux_lemma => kernel_rfl) (by as_aux_lemma => kernel_rfl) trivial ?_
      exact ⟨⟨i, rfl, fun _ => by rw [e1]; exact hmem, fun _ => by omega⟩, hEg3⟩
    · -- at 10127
      refine Run.adv 23 [.dec true, .draw, .val (.agg #[.int .i64 a, .int .i64 b]), .val (.agg #[.int .i64 e.1, .int .i64 e.2]), .say (.bool (decide ((a, b) = (e.1, e.2)))), .dec false] (at_ Tryz.f89 [1,0,1,2,7]) [(0, .slice (some ⟨b3, o3, none⟩) ws.length c), (3, .pointer (some ⟨g3, 0, none⟩)), (7, .int .i64 (ws.length : Int)), (8, .int .i64 ((i + 1 : Nat) : Int))]
        ((decide ((i : Int) < (ws.length : Int))) = true ∧ LexOk (opsAt (at_ Tryz.f89 [1,0,1,2,3,1,1,0,2,1,0])) ∧ cellsAt h' ⟨g3, 0, none⟩ [.int .i64 a, .int .i64 b] 0 ∧ (0 ≤ (i : Int) ∧ (i : Int) < (ws.length : Int)) ∧ cellsAt h' ⟨b3, o3 + (i : Int).toNat * 2, none⟩ [.int .i64 e.1, .int .i64 e.2] 0 ∧ Says Tryz.prog (do eqGuard .eql 41 (Operand.tmp 11) (Operand.tmp 15) (.agg #[.int .i64 a, .int .i64 b]) (.agg #[.int .i64 e.1, .int .i64 e.2]); binOp .eql 41 (.agg #[.int .i64 a, .int .i64 b]) (.agg #[.int .i64 e.1, .int .i64 e.2])) (.bool (decide ((a, b) = (e.1, e.2)))) h' ∧ (decide ((a, b) = (e.1, e.2))) = false ∧ (-9223372036854775808 ≤ (i : Int) + 1 ∧ (i : Int) + 1 ≤ 9223372036854775807))
        (by as_aux_lemma => kernel_rfl) ⟨(by first | assumption | exact decide_eq_true (by first | omega | assumption)), lx_89_10123110210, (hBg3.all (Ext.refl _)), ⟨by omega, by omega⟩, (by rw [Int.toNat_natCast]; exact hpe), (says_eqP array2 Tryz.underlying3 info_int noguard2 _ _ _ _ _), (decide_eq_false e1), ⟨by omega, by omega⟩⟩ fun s_ => ?_
      refine again (i + 1) _ _ ⟨rfl, by omega, fun j hj => ?_⟩ (by omega)
      by_cases e3 : j = i
      · subst e3; rw [hwd]; exact fun hh => e1 hh.symm
      · exact hI j (by omega)
  · -- at 111
    refine Run.adv 11 [.dec false] (at_ Tryz.f89 [1,1,1]) [(4, .int .i64 (-1))]
      ((decide ((i : Int) < (ws.length : Int))) = false)
      (by as_aux_lemma => kernel_rfl) (by first | assumption | exact decide_eq_false (by first | omega | assumption)) fun s_ => ?_
    refine Run.ret [] (.int .i64 (-1)) (True) Tryz.func89 (by as_aux_lemma => kernel_rfl) (by as_aux_lemma => kernel_rfl) trivial ?_
    refine ⟨⟨-1, rfl, fun hh => by omega, fun hh => ?_⟩, hEg3⟩
    obtain ⟨j, hj, h3⟩ := List.mem_iff_getElem.1 hh
    exact absurd (by unfold wd; rw [List.getD_eq_getElem?_getD, List.getElem?_eq_getElem hj]; exact h3) (hI j (by omega))
theorem containsP_ct (A : Option Addr) (c : Nat) (ws : List Wy) (a b : Int) (h : Heap) (hx : Wys h A ws c) (hl : ws.length ≤ 1000000000) :
    Ct Tryz.prog 63 #[.slice A ws.length c, .agg #[.int .i64 a, .int .i64 b]] h (fun v h' => v = .bool (tv ((a, b) ∈ ws)) ∧ Ext h h') := by
  refine Ct.enter (args := [.slice A ws.length c, .agg #[.int .i64 a, .int .i64 b]]) Tryz.func63 rfl Tryz.ntmps63 (by simp) fun w hw => ?_
  -- at 080
  refine Run.adv 2 [] (at_ Tryz.f63 [0,8,0]) [(0, .slice A ws.length c), (1, .agg #[.int .i64 a, .int .i64 b])]
    (True)
    (by as_aux_lemma => kernel_rfl) trivial fun s_ => ?_
  refine Run.new #[.int .i64 a, .int .i64 b] 41 (fun g_ => .pointer (some ⟨g_, 0, none⟩)) (some 3) (at_ Tryz.f63 [0,8,1]) (by as_aux_lemma => kernel_rfl) fun g3 h1 hng3 hEg3 hBg3 => ?_
  -- at 1082
  refine Run.adv 6 [.val (.agg #[.int .i64 a, .int .i64 b])] (at_ Tryz.f63 [1,0,8,2]) [(0, .slice A ws.length c), (1, .agg #[.int .i64 a, .int .i64 b]), (3, .pointer (some ⟨g3, 0, none⟩)), (4, .bool false), (5, .slice A ws.length c), (6, .agg #[.int .i64 a, .int .i64 b])]
    (cellsAt h1 ⟨g3, 0, none⟩ [.int .i64 a, .int .i64 b] 0)
    (by as_aux_lemma => kernel_rfl) (hBg3.all (Ext.refl _)) fun s_ => ?_
  refine Run.call 89 #[.slice A ws.length c, .agg #[.int .i64 a, .int .i64 b]] (some 7) (at_ Tryz.f63 [1,0,8,3]) (by as_aux_lemma => kernel_rfl) (indexP_ct A c ws a b _ (hx.ext hEg3) hl) ?_
  rintro _ h2 ⟨⟨i, rfl, hi⟩, hE2⟩
  -- at 11
  refine Run.adv 3 [] (at_ Tryz.f63 [1,1]) [(4, .bool (decide (i ≥ 0)))]
    (True)
    (by as_aux_lemma => kernel_rfl) trivial fun s_ => ?_
  refine Run.ret [] (.bool (decide (i ≥ 0))) (True) Tryz.func63 (by as_aux_lemma => kernel_rfl) (by as_aux_lemma => kernel_rfl) trivial ?_
  refine ⟨?_, hEg3.trans hE2⟩
  by_cases h0 : 0 ≤ i
  · rw [tv_yes (hi.1 h0), decide_eq_true (by omega)]
  · rw [tv_no (fun hh => h0 (hi.2 hh)), decide_eq_false (by omega)]
end Go.Proofs.YtbajgbkkbabmlaaGreatDoor
