/- lts.Check, walked. -/
import Derived.Test.YtbajgbkkbabmlaaGreatDoorProg
import Derived.Test.YtbajgbkkbabmlaaGreatDoorL3
set_option linter.unusedVariables false
namespace Go.Proofs.YtbajgbkkbabmlaaGreatDoor
open Go.Vc
theorem lx_73_1110123110210 : LexOk (opsAt (at_ Tryz.f73 [1,1,1,0,1,2,3,1,1,0,2,1,0])) := ⟨by kernel_rfl⟩

theorem node_ct (i n : Int) (g : Nat) (h : Heap) (hB : cellH h ⟨g, 0, none⟩ = some (.int .i64 n)) :
    Ct Tryz.prog 98 #[.int .i64 i, .pointer (some ⟨g, 0, none⟩)] h (fun v h' => v = .bool (tv (0 ≤ i ∧ i < n)) ∧ h' = h) := by
  refine Ct.enter (args := [.int .i64 i, .pointer (some ⟨g, 0, none⟩)]) Tryz.func98 rfl Tryz.ntmps98 (by simp) fun w hw => ?_
  by_cases e1 : i ≥ 0
  · -- at 11
    refine Run.adv 16 [.dec true, .lit, .lit, .val (.int .i64 n), .lit] (at_ Tryz.f98 [1,1]) [(3, .bool (decide (i < n)))]
      ((decide (i ≥ 0)) = true ∧ cellH h ⟨g, 0, none⟩ = some (.int .i64 n))
      (by as_aux_lemma => kernel_rfl) ⟨(by first | assumption | exact decide_eq_true (by first | omega | assumption)), (hB)⟩ fun s_ => ?_
    refine Run.ret [] (.bool (decide (i < n))) (True) Tryz.func98 (by as_aux_lemma => kernel_rfl) (by as_aux_lemma => kernel_rfl) trivial ?_
    refine ⟨?_, rfl⟩
    by_cases e2 : i < n
    · rw [tv_yes ⟨e1, e2⟩, decide_eq_true e2]
    · rw [tv_no (fun hh => e2 hh.2), decide_eq_false e2]
  · -- at 11
    refine Run.adv 16 [.dec false, .lit, .lit, .lit] (at_ Tryz.f98 [1,1]) [(3, .bool false)]
      ((decide (i ≥ 0)) = false)
      (by as_aux_lemma => kernel_rfl) (by first | assumption | exact decide_eq_false (by first | omega | assumption)) fun s_ => ?_
    refine Run.ret [] (.bool false) (True) Tryz.func98 (by as_aux_lemma => kernel_rfl) (by as_aux_lemma => kernel_rfl) trivial ?_
    exact ⟨by rw [tv_no (fun hh => e1 hh.1)], rfl⟩
theorem node_ctE (i n : Int) (g : Nat) (h : Heap) (hB : cellH h ⟨g, 0, none⟩ = some (.int .i64 n)) :
    Ct Tryz.prog 98 #[.int .i64 i, .pointer (some ⟨g, 0, none⟩)] h (fun v h' => v = .bool (tv (0 ≤ i ∧ i < n)) ∧ Ext h h') :=
  (node_ct i n g h hB).mono fun v h' ⟨a, b⟩ => ⟨a, b ▸ Ext.refl _⟩
/-- An edge is let by, behind another one. -/
def EdgeOk (l : Lt) (i : Int) : Prop := (0 ≤ (ed l.es i).1 ∧ (ed l.es i).1 < l.n) ∧ (0 ≤ (ed l.es i).2.2 ∧ (ed l.es i).2.2 < l.n) ∧ 0 ≤ (ed l.es i).2.1 ∧ (ed l.es i).2.1 < l.ls.length ∧ (0 < i → cmpE (ed l.es (i - 1)) (ed l.es i) < 0)
/-- May a system be (in the program's way of asking)? -/
structure CheckOk (l : Lt) : Prop where
  n1 : 1 ≤ l.n
  n2 : l.n ≤ 2048
  ls : NamedB l.ls
  len : l.es.length ≤ 1000000
  es : ∀ i : Int, 0 ≤ i → i < l.es.length → EdgeOk l i
noncomputable def errB (p : Prop) : Int := if tv p = true then 0 else 1
theorem Check_ct (A1 A2 : Option Addr) (c1 c2 : Nat) (l : Lt) (h : Heap) (hx : LtAt h l A1 c1 A2 c2) (hl : l.ls.length ≤ 100000) :
    Ct Tryz.prog 73 #[.agg #[.int .i64 l.n, .slice A1 l.ls.length c1, .slice A2 l.es.length c2]] h (fun v h' => v = .int .i64 (errB (CheckOk l)) ∧ Ext h h') := by
  refine Ct.enter (args := [.agg #[.int .i64 l.n, .slice A1 l.ls.length c1, .slice A2 l.es.length c2]]) Tryz.func73 rfl Tryz.ntmps73 (by simp) fun w hw => ?_
  -- at 080
  refine Run.adv 2 [] (at_ Tryz.f73 [0,8,0]) [(0, .agg #[.int .i64 l.n, .slice A1 l.ls.length c1, .slice A2 l.es.length c2])]
    (True)
    (by as_aux_lemma => kernel_rfl) trivial fun s_ => ?_
  refine Run.new #[.int .i64 l.n, .slice A1 l.ls.length c1, .slice A2 l.es.length c2] 25 (fun g_ => .pointer (some ⟨g_, 0, none⟩)) (some 1) (at_ Tryz.f73 [0,8,1]) (by as_aux_lemma => kernel_rfl) fun g1 h1 hng1 hEg1 hBg1 => ?_
  by_cases e1 : l.n < 1
  · -- at 10141
    refine Run.adv 31 [.val (.int .i64 l.n), .dec true, .lit, .lit, .lit, .lit, .lit, .lit, .lit, .lit, .lit, .lit, .lit] (at_ Tryz.f73 [1,0,1,4,1]) [(2, .int .i64 1)]
      (cellH h1 ⟨g1, 0, none⟩ = some (.int .i64 l.n) ∧ (decide (l.n < 1)) = true)
      (by as_aux_lemma => kernel_rfl) ⟨(hBg1.at (Ext.refl _) 0 rfl), (by first | assumption | exact decide_eq_true (by first | omega | assumption))⟩ fun s_ => ?_
    refine Run.ret [] (.int .i64 1) (True) Tryz.func73 (by as_aux_lemma => kernel_rfl) (by as_aux_lemma => kernel_rfl) trivial ?_
    exact ⟨by rw [errB, tv_no (fun hh => by have := hh.n1; omega)]; rfl, hEg1⟩
  by_cases e2 : l.n > 2048
  · -- at 10141
    refine Run.adv 31 [.val (.int .i64 l.n), .dec false, .lit, .val (.int .i64 l.n), .lit, .dec true, .lit, .lit, .lit, .lit, .lit, .lit, .lit, .lit] (at_ Tryz.f73 [1,0,1,4,1]) [(2, .int .i64 1)]
      (cellH h1 ⟨g1, 0, none⟩ = some (.int .i64 l.n) ∧ (decide (l.n < 1)) = false ∧ cellH h1 ⟨g1, 0, none⟩ = some (.int .i64 l.n) ∧ (decide (l.n > 2048)) = true)
      (by as_aux_lemma => kernel_rfl) ⟨(hBg1.at (Ext.refl _) 0 rfl), (by first | assumption | exact decide_eq_false (by first | omega | assumption)), (hBg1.at (Ext.refl _) 0 rfl), (by first | assumption | exact decide_eq_true (by first | omega | assumption))⟩ fun s_ => ?_
    refine Run.ret [] (.int .i64 1) (True) Tryz.func73 (by as_aux_lemma => kernel_rfl) (by as_aux_lemma => kernel_rfl) trivial ?_
    exact ⟨by rw [errB, tv_no (fun hh => by have := hh.n2; omega)]; rfl, hEg1⟩
  -- at 100811
  refine Run.adv 16 [.val (.int .i64 l.n), .dec false, .lit, .val (.int .i64 l.n), .lit, .dec false, .lit, .val (.slice A1 l.ls.length c1)] (at_ Tryz.f73 [1,0,0,8,11]) [(1, .pointer (some ⟨g1, 0, none⟩)), (14, .bool false), (16, .slice A1 l.ls.length c1)]
    (cellH h1 ⟨g1, 0, none⟩ = some (.int .i64 l.n) ∧ (decide (l.n < 1)) = false ∧ cellH h1 ⟨g1, 0, none⟩ = some (.int .i64 l.n) ∧ (decide (l.n > 2048)) = false ∧ cellH h1 ⟨g1, 1, none⟩ = some (.slice A1 l.ls.length c1))
    (by as_aux_lemma => kernel_rfl) ⟨(hBg1.at (Ext.refl _) 0 rfl), (by first | assumption | exact decide_eq_false (by first | omega | assumption)), (hBg1.at (Ext.refl _) 0 rfl), (by first | assumption | exact decide_eq_false (by first | omega | assumption)), (hBg1.at (Ext.refl _) 1 rfl)⟩ fun s_ => ?_
  refine Run.call 97 #[.slice A1 l.ls.length c1] (some 17) (at_ Tryz.f73 [1,0,0,8,12]) (by as_aux_lemma => kernel_rfl) (named_ct A1 c1 l.ls _ (hx.ls.ext hEg1) hl) ?_
  rintro _ h2 ⟨rfl, hE2⟩
  by_cases e3 : NamedB l.ls
  rotate_left
  · -- at 10141
    refine Run.adv 14 [.lit, .dec true, .lit, .lit, .lit, .lit] (at_ Tryz.f73 [1,0,1,4,1]) [(2, .int .i64 1)]
      ((!(tv (NamedB l.ls))) = true)
      (by as_aux_lemma => kernel_rfl) (bnt (tv_no e3)) fun s_ => ?_
    refine Run.ret [] (.int .i64 1) (True) Tryz.func73 (by as_aux_lemma => kernel_rfl) (by as_aux_lemma => kernel_rfl) trivial ?_
    exact ⟨by rw [errB, tv_no (fun hh => e3 hh.ls)]; rfl, hEg1.trans hE2⟩
  by_cases e4 : l.es.length > 1000000
  · -- at 10141
    refine Run.adv 14 [.lit, .dec false, .lit, .val (.slice A2 l.es.length c2), .lit, .lit, .dec true] (at_ Tryz.f73 [1,0,1,4,1]) [(2, .int .i64 1)]
      ((!(tv (NamedB l.ls))) = false ∧ cellH h2 ⟨g1, 2, none⟩ = some (.slice A2 l.es.length c2) ∧ (decide ((l.es.length : Int) > 1000000)) = true)
      (by as_aux_lemma => kernel_rfl) ⟨(bnf (tv_yes e3)), (hBg1.at hE2 2 rfl), (by first | assumption | exact decide_eq_true (by first | omega | assumption))⟩ fun s_ => ?_
    refine Run.ret [] (.int .i64 1) (True) Tryz.func73 (by as_aux_lemma => kernel_rfl) (by as_aux_lemma => kernel_rfl) trivial ?_
    exact ⟨by rw [errB, tv_no (fun hh => by have := hh.len; omega)]; rfl, hEg1.trans hE2⟩
  -- at 111012
  refine Run.adv 25 [.lit, .dec false, .lit, .val (.slice A2 l.es.length c2), .lit, .lit, .dec false, .val (.slice A2 l.es.length c2)] (at_ Tryz.f73 [1,1,1,0,1,2]) [(1, .pointer (some ⟨g1, 0, none⟩)), (3, .func (.func 98) #[] #[.pointer (some ⟨g1, 0, none⟩)]), (28, .slice A2 l.es.length c2), (29, .int .i64 (l.es.length : Int)), (30, .int .i64 0)]
    ((!(tv (NamedB l.ls))) = false ∧ cellH h2 ⟨g1, 2, none⟩ = some (.slice A2 l.es.length c2) ∧ (decide ((l.es.length : Int) > 1000000)) = false ∧ cellH h2 ⟨g1, 2, none⟩ = some (.slice A2 l.es.length c2))
    (by as_aux_lemma => kernel_rfl) ⟨(bnf (tv_yes e3)), (hBg1.at hE2 2 rfl), (by first | assumption | exact decide_eq_false (by first | omega | assumption)), (hBg1.at hE2 2 rfl)⟩ fun s_ => ?_
  refine Run.loop (at_ Tryz.f73 [1,1,1,0,1,2,3]) (at_ Tryz.f73 [1,1,1,0,1,2,7]) (fun i : Int => [(1, .pointer (some ⟨g1, 0, none⟩)), (3, .func (.func 98) #[] #[.pointer (some ⟨g1, 0, none⟩)]), (28, .slice A2 l.es.length c2), (29, .int .i64 (l.es.length : Int)), (30, .int .i64 i)])
    (fun i h' => Ext h2 h' ∧ 0 ≤ i ∧ i ≤ l.es.length ∧ ∀ j : Int, 0 ≤ j → j < i → EdgeOk l j) (fun i => (l.es.length - i).toNat) 0 (by as_aux_lemma => kernel_rfl) rfl ?_ ?_
  · exact ⟨Ext.refl _, by omega, by omega, fun j _ hj => by omega⟩
  rintro i s h' ⟨hE, hi0, hi, hI⟩ again
  by_cases hlt : i < l.es.length
  rotate_left
  · -- at 11111
    refine Run.adv 11 [.dec false] (at_ Tryz.f73 [1,1,1,1,1]) [(2, .int .i64 0)]
      ((decide (i < (l.es.length : Int))) = false)
      (by as_aux_lemma => kernel_rfl) (by first | assumption | exact decide_eq_false (by first | omega | assumption)) fun s_ => ?_
    refine Run.ret [] (.int .i64 0) (True) Tryz.func73 (by as_aux_lemma => kernel_rfl) (by as_aux_lemma => kernel_rfl) trivial ?_
    exact ⟨by rw [errB, tv_yes ⟨by omega, by omega, e3, by omega, fun j a b => hI j a (by omega)⟩]; rfl, (hEg1.trans hE2).trans hE⟩
  obtain ⟨b2, off2, rfl, hp2⟩ := hx.es.open_ (by omega)
  -- at 11101231102083
  refine Run.adv 14 [.dec true, .val (.agg #[.int .i64 ((ed l.es i).1), .int .i64 ((ed l.es i).2.1), .int .i64 ((ed l.es i).2.2)])] (at_ Tryz.f73 [1,1,1,0,1,2,3,1,1,0,2,0,8,3]) [(1, .pointer (some ⟨g1, 0, none⟩)), (3, .func (.func 98) #[] #[.pointer (some ⟨g1, 0, none⟩)]), (28, .slice (some ⟨b2, off2, none⟩) l.es.length c2), (29, .int .i64 (l.es.length : Int)), (30, .int .i64 i), (31, .bool true), (32, .int .i64 i), (33, .pointer (some ⟨b2, off2 + i.toNat * 3, none⟩)), (34, .agg #[.int .i64 ((ed l.es i).1), .int .i64 ((ed l.es i).2.1), .int .i64 ((ed l.es i).2.2)])]
    ((decide (i < (l.es.length : Int))) = true ∧ (0 ≤ i ∧ i < (l.es.length : Int)) ∧ cellsAt h' ⟨b2, off2 + i.toNat * 3, none⟩ [.int .i64 ((ed l.es i).1), .int .i64 ((ed l.es i).2.1), .int .i64 ((ed l.es i).2.2)] 0)
    (by as_aux_lemma => kernel_rfl) ⟨(by first | assumption | exact decide_eq_true (by first | omega | assumption)), ⟨by omega, by omega⟩, (hp2 _ ((hEg1.trans hE2).trans hE) i (by omega) (by omega))⟩ fun s_ => ?_
  refine Run.new #[.int .i64 0, .int .i64 0, .int .i64 0] 64 (fun g_ => .pointer (some ⟨g_, 0, none⟩)) (some 5) (at_ Tryz.f73 [1,1,1,0,1,2,3,1,1,0,2,0,8,4]) (by as_aux_lemma => kernel_rfl) fun g2 h3 hng2 hEg2 hBg2 => ?_
  -- at 11101231102085
  refine Run.adv 1 [] (at_ Tryz.f73 [1,1,1,0,1,2,3,1,1,0,2,0,8,5]) [(1, .pointer (some ⟨g1, 0, none⟩)), (3, .func (.func 98) #[] #[.pointer (some ⟨g1, 0, none⟩)]), (4, .int .i64 i), (5, .pointer (some ⟨g2, 0, none⟩)), (28, .slice (some ⟨b2, off2, none⟩) l.es.length c2), (29, .int .i64 (l.es.length : Int)), (30, .int .i64 i), (31, .bool true), (32, .int .i64 i), (33, .pointer (some ⟨b2, off2 + i.toNat * 3, none⟩)), (34, .agg #[.int .i64 ((ed l.es i).1), .int .i64 ((ed l.es i).2.1), .int .i64 ((ed l.es i).2.2)])]
    (True)
    (by as_aux_lemma => kernel_rfl) trivial fun s_ => ?_
  refine Run.store g2 0 [.int .i64 ((ed l.es i).1), .int .i64 ((ed l.es i).2.1), .int .i64 ((ed l.es i).2.2)] (at_ Tryz.f73 [1,1,1,0,1,2,3,1,1,0,2,0,8,6]) (by as_aux_lemma => kernel_rfl) (hBg2.ext (Ext.refl _)) (by simp) rfl fun h4 hMh4 hzh4 (hBg2_h4 : Blk h4 g2 #[.int .i64 ((ed l.es i).1), .int .i64 ((ed l.es i).2.1), .int .i64 ((ed l.es i).2.2)] 64) => ?_
  -- at 1110123110210
  refine Run.adv 2 [] (at_ Tryz.f73 [1,1,1,0,1,2,3,1,1,0,2,1,0]) [(1, .pointer (some ⟨g1, 0, none⟩)), (3, .func (.func 98) #[] #[.pointer (some ⟨g1, 0, none⟩)]), (4, .int .i64 i), (5, .pointer (some ⟨g2, 0, none⟩)), (28, .slice (some ⟨b2, off2, none⟩) l.es.length c2), (29, .int .i64 (l.es.length : Int)), (30, .int .i64 i)]
    (True)
    (by as_aux_lemma => kernel_rfl) trivial fun s_ => ?_
  by_cases q1 : 0 ≤ (ed l.es i).1 ∧ (ed l.es i).1 < l.n
  rotate_left
  · refine Run.drawE [.val (.int .i64 ((ed l.es i).1)), .val (.bool (tv (0 ≤ (ed l.es i).1 ∧ (ed l.es i).1 < l.n))), .dec true, .lit, .lit, .lit, .lit, .lit, .lit, .lit, .lit, .lit, .lit, .lit, .lit, .lit, .lit, .lit, .lit, .off, .off, .off, .off, .off, .off, .off, .off, .off, .lit] (at_ Tryz.f73 [1,1,1,0,1,2,3,1,1,0,2,1,1]) [(74, .bool true)]
      (fun H => LexOk (opsAt (at_ Tryz.f73 [1,1,1,0,1,2,3,1,1,0,2,1,0])) ∧ cellH H ⟨g2, 0, none⟩ = some (.int .i64 ((ed l.es i).1)) ∧ (Ct Tryz.prog 98 #[.int .i64 ((ed l.es i).1), .pointer (some ⟨g1, 0, none⟩)] H (fun v_ h_ => v_ = .bool (tv (0 ≤ (ed l.es i).1 ∧ (ed l.es i).1 < l.n)) ∧ Ext H h_)) ∧ ((!(tv (0 ≤ (ed l.es i).1 ∧ (ed l.es i).1 < l.n))) = true))
      (by as_aux_lemma => kernel_rfl) (fun H hH => ⟨lx_73_1110123110210, (hBg2_h4.at hH 0 rfl), (node_ctE _ _ _ _ (hBg1.at ((hMh4.ext_new ((hE2.trans hE).trans hEg2) hng2 (hE2.trans hE)).trans hH) 0 rfl)), (bnt (tv_no q1))⟩) fun H s_ hH => ?_
    -- at 111012311021141
    refine Run.adv 5 [.lit] (at_ Tryz.f73 [1,1,1,0,1,2,3,1,1,0,2,1,1,4,1]) [(2, .int .i64 1)]
      (True)
      (by as_aux_lemma => kernel_rfl) trivial fun s_ => ?_
    refine Run.ret [] (.int .i64 1) (True) Tryz.func73 (by as_aux_lemma => kernel_rfl) (by as_aux_lemma => kernel_rfl) trivial ?_
    exact ⟨by rw [errB, tv_no (fun hh => q1 (hh.es i hi0 hlt).1)]; rfl, ((hMh4.ext_new (((hEg1.trans hE2).trans hE).trans hEg2) hng2 ((hEg1.trans hE2).trans hE)).trans hH)⟩
  by_cases q2 : 0 ≤ (ed l.es i).2.2 ∧ (ed l.es i).2.2 < l.n
  rotate_left
  · refine Run.drawE [.val (.int .i64 ((ed l.es i).1)), .val (.bool (tv (0 ≤ (ed l.es i).1 ∧ (ed l.es i).1 < l.n))), .dec false, .lit, .lit, .val (.int .i64 ((ed l.es i).2.2)), .lit, .val (.bool (tv (0 ≤ (ed l.es i).2.2 ∧ (ed l.es i).2.2 < l.n))), .lit, .dec true, .lit, .lit, .lit, .lit, .lit, .lit, .lit, .lit, .lit, .lit, .lit, .off, .off, .off, .off, .off, .off, .off, .off, .off, .lit] (at_ Tryz.f73 [1,1,1,0,1,2,3,1,1,0,2,1,1]) [(74, .bool true)]
      (fun H => LexOk (opsAt (at_ Tryz.f73 [1,1,1,0,1,2,3,1,1,0,2,1,0])) ∧ cellH H ⟨g2, 0, none⟩ = some (.int .i64 ((ed l.es i).1)) ∧ (Ct Tryz.prog 98 #[.int .i64 ((ed l.es i).1), .pointer (some ⟨g1, 0, none⟩)] H (fun v_ h_ => v_ = .bool (tv (0 ≤ (ed l.es i).1 ∧ (ed l.es i).1 < l.n)) ∧ Ext H h_)) ∧ ((!(tv (0 ≤ (ed l.es i).1 ∧ (ed l.es i).1 < l.n))) = false) ∧ cellH H ⟨g2, 2, none⟩ = some (.int .i64 ((ed l.es i).2.2)) ∧ (Ct Tryz.prog 98 #[.int .i64 ((ed l.es i).2.2), .pointer (some ⟨g1, 0, none⟩)] H (fun v_ h_ => v_ = .bool (tv (0 ≤ (ed l.es i).2.2 ∧ (ed l.es i).2.2 < l.n)) ∧ Ext H h_)) ∧ ((!(tv (0 ≤ (ed l.es i).2.2 ∧ (ed l.es i).2.2 < l.n))) = true))
      (by as_aux_lemma => kernel_rfl) (fun H hH => ⟨lx_73_1110123110210, (hBg2_h4.at hH 0 rfl), (node_ctE _ _ _ _ (hBg1.at ((hMh4.ext_new ((hE2.trans hE).trans hEg2) hng2 (hE2.trans hE)).trans hH) 0 rfl)), (bnf (tv_yes q1)), (hBg2_h4.at hH 2 rfl), (node_ctE _ _ _ _ (hBg1.at ((hMh4.ext_new ((hE2.trans hE).trans hEg2) hng2 (hE2.trans hE)).trans hH) 0 rfl)), (bnt (tv_no q2))⟩) fun H s_ hH => ?_
    -- at 111012311021141
    refine Run.adv 5 [.lit] (at_ Tryz.f73 [1,1,1,0,1,2,3,1,1,0,2,1,1,4,1]) [(2, .int .i64 1)]
      (True)
      (by as_aux_lemma => kernel_rfl) trivial fun s_ => ?_
    refine Run.ret [] (.int .i64 1) (True) Tryz.func73 (by as_aux_lemma => kernel_rfl) (by as_aux_lemma => kernel_rfl) trivial ?_
    exact ⟨by rw [errB, tv_no (fun hh => q2 (hh.es i hi0 hlt).2.1)]; rfl, ((hMh4.ext_new (((hEg1.trans hE2).trans hE).trans hEg2) hng2 ((hEg1.trans hE2).trans hE)).trans hH)⟩
  by_cases q3 : (ed l.es i).2.1 < 0
  · refine Run.drawE [.val (.int .i64 ((ed l.es i).1)), .val (.bool (tv (0 ≤ (ed l.es i).1 ∧ (ed l.es i).1 < l.n))), .dec false, .lit, .lit, .val (.int .i64 ((ed l.es i).2.2)), .lit, .val (.bool (tv (0 ≤ (ed l.es i).2.2 ∧ (ed l.es i).2.2 < l.n))), .lit, .dec false, .lit, .val (.int .i64 ((ed l.es i).2.1)), .lit, .dec true, .lit, .lit, .lit, .lit, .lit, .lit, .lit, .lit, .off, .off, .off, .off, .off, .off, .off, .off, .off, .lit] (at_ Tryz.f73 [1,1,1,0,1,2,3,1,1,0,2,1,1]) [(74, .bool true)]
      (fun H => LexOk (opsAt (at_ Tryz.f73 [1,1,1,0,1,2,3,1,1,0,2,1,0])) ∧ cellH H ⟨g2, 0, none⟩ = some (.int .i64 ((ed l.es i).1)) ∧ (Ct Tryz.prog 98 #[.int .i64 ((ed l.es i).1), .pointer (some ⟨g1, 0, none⟩)] H (fun v_ h_ => v_ = .bool (tv (0 ≤ (ed l.es i).1 ∧ (ed l.es i).1 < l.n)) ∧ Ext H h_)) ∧ ((!(tv (0 ≤ (ed l.es i).1 ∧ (ed l.es i).1 < l.n))) = false) ∧ cellH H ⟨g2, 2, none⟩ = some (.int .i64 ((ed l.es i).2.2)) ∧ (Ct Tryz.prog 98 #[.int .i64 ((ed l.es i).2.2), .pointer (some ⟨g1, 0, none⟩)] H (fun v_ h_ => v_ = .bool (tv (0 ≤ (ed l.es i).2.2 ∧ (ed l.es i).2.2 < l.n)) ∧ Ext H h_)) ∧ ((!(tv (0 ≤ (ed l.es i).2.2 ∧ (ed l.es i).2.2 < l.n))) = false) ∧ cellH H ⟨g2, 1, none⟩ = some (.int .i64 ((ed l.es i).2.1)) ∧ (decide ((ed l.es i).2.1 < 0)) = true)
      (by as_aux_lemma => kernel_rfl) (fun H hH => ⟨lx_73_1110123110210, (hBg2_h4.at hH 0 rfl), (node_ctE _ _ _ _ (hBg1.at ((hMh4.ext_new ((hE2.trans hE).trans hEg2) hng2 (hE2.trans hE)).trans hH) 0 rfl)), (bnf (tv_yes q1)), (hBg2_h4.at hH 2 rfl), (node_ctE _ _ _ _ (hBg1.at ((hMh4.ext_new ((hE2.trans hE).trans hEg2) hng2 (hE2.trans hE)).trans hH) 0 rfl)), (bnf (tv_yes q2)), (hBg2_h4.at hH 1 rfl), (by first | assumption | exact decide_eq_true (by first | omega | assumption))⟩) fun H s_ hH => ?_
    -- at 111012311021141
    refine Run.adv 5 [.lit] (at_ Tryz.f73 [1,1,1,0,1,2,3,1,1,0,2,1,1,4,1]) [(2, .int .i64 1)]
      (True)
      (by as_aux_lemma => kernel_rfl) trivial fun s_ => ?_
    refine Run.ret [] (.int .i64 1) (True) Tryz.func73 (by as_aux_lemma => kernel_rfl) (by as_aux_lemma => kernel_rfl) trivial ?_
    exact ⟨by rw [errB, tv_no (fun hh => by have := (hh.es i hi0 hlt).2.2.1; omega)]; rfl, ((hMh4.ext_new (((hEg1.trans hE2).trans hE).trans hEg2) hng2 ((hEg1.trans hE2).trans hE)).trans hH)⟩
  by_cases q4 : l.ls.length ≤ (ed l.es i).2.1
  · refine Run.drawE [.val (.int .i64 ((ed l.es i).1)), .val (.bool (tv (0 ≤ (ed l.es i).1 ∧ (ed l.es i).1 < l.n))), .dec false, .lit, .lit, .val (.int .i64 ((ed l.es i).2.2)), .lit, .val (.bool (tv (0 ≤ (ed l.es i).2.2 ∧ (ed l.es i).2.2 < l.n))), .lit, .dec false, .lit, .val (.int .i64 ((ed l.es i).2.1)), .lit, .dec false, .lit, .val (.int .i64 ((ed l.es i).2.1)), .lit, .lit, .val (.slice A1 l.ls.length c1), .lit, .lit, .dec true, .lit, .lit, .off, .off, .off, .off, .off, .off, .off, .off, .off, .lit] (at_ Tryz.f73 [1,1,1,0,1,2,3,1,1,0,2,1,1]) [(74, .bool true)]
      (fun H => LexOk (opsAt (at_ Tryz.f73 [1,1,1,0,1,2,3,1,1,0,2,1,0])) ∧ cellH H ⟨g2, 0, none⟩ = some (.int .i64 ((ed l.es i).1)) ∧ (Ct Tryz.prog 98 #[.int .i64 ((ed l.es i).1), .pointer (some ⟨g1, 0, none⟩)] H (fun v_ h_ => v_ = .bool (tv (0 ≤ (ed l.es i).1 ∧ (ed l.es i).1 < l.n)) ∧ Ext H h_)) ∧ ((!(tv (0 ≤ (ed l.es i).1 ∧ (ed l.es i).1 < l.n))) = false) ∧ cellH H ⟨g2, 2, none⟩ = some (.int .i64 ((ed l.es i).2.2)) ∧ (Ct Tryz.prog 98 #[.int .i64 ((ed l.es i).2.2), .pointer (some ⟨g1, 0, none⟩)] H (fun v_ h_ => v_ = .bool (tv (0 ≤ (ed l.es i).2.2 ∧ (ed l.es i).2.2 < l.n)) ∧ Ext H h_)) ∧ ((!(tv (0 ≤ (ed l.es i).2.2 ∧ (ed l.es i).2.2 < l.n))) = false) ∧ cellH H ⟨g2, 1, none⟩ = some (.int .i64 ((ed l.es i).2.1)) ∧ (decide ((ed l.es i).2.1 < 0)) = false ∧ cellH H ⟨g2, 1, none⟩ = some (.int .i64 ((ed l.es i).2.1)) ∧ cellH H ⟨g1, 1, none⟩ = some (.slice A1 l.ls.length c1) ∧ (decide ((ed l.es i).2.1 ≥ (l.ls.length : Int))) = true)
      (by as_aux_lemma => kernel_rfl) (fun H hH => ⟨lx_73_1110123110210, (hBg2_h4.at hH 0 rfl), (node_ctE _ _ _ _ (hBg1.at ((hMh4.ext_new ((hE2.trans hE).trans hEg2) hng2 (hE2.trans hE)).trans hH) 0 rfl)), (bnf (tv_yes q1)), (hBg2_h4.at hH 2 rfl), (node_ctE _ _ _ _ (hBg1.at ((hMh4.ext_new ((hE2.trans hE).trans hEg2) hng2 (hE2.trans hE)).trans hH) 0 rfl)), (bnf (tv_yes q2)), (hBg2_h4.at hH 1 rfl), (by first | assumption | exact decide_eq_false (by first | omega | assumption)), (hBg2_h4.at hH 1 rfl), (hBg1.at ((hMh4.ext_new ((hE2.trans hE).trans hEg2) hng2 (hE2.trans hE)).trans hH) 1 rfl), (by first | assumption | exact decide_eq_true (by first | omega | assumption))⟩) fun H s_ hH => ?_
    -- at 111012311021141
    refine Run.adv 5 [.lit] (at_ Tryz.f73 [1,1,1,0,1,2,3,1,1,0,2,1,1,4,1]) [(2, .int .i64 1)]
      (True)
      (by as_aux_lemma => kernel_rfl) trivial fun s_ => ?_
    refine Run.ret [] (.int .i64 1) (True) Tryz.func73 (by as_aux_lemma => kernel_rfl) (by as_aux_lemma => kernel_rfl) trivial ?_
    exact ⟨by rw [errB, tv_no (fun hh => by have := (hh.es i hi0 hlt).2.2.2.1; omega)]; rfl, ((hMh4.ext_new (((hEg1.trans hE2).trans hE).trans hEg2) hng2 ((hEg1.trans hE2).trans hE)).trans hH)⟩
  by_cases q5 : 0 < i
  rotate_left
  · refine Run.drawE [.val (.int .i64 ((ed l.es i).1)), .val (.bool (tv (0 ≤ (ed l.es i).1 ∧ (ed l.es i).1 < l.n))), .dec false, .lit, .lit, .val (.int .i64 ((ed l.es i).2.2)), .lit, .val (.bool (tv (0 ≤ (ed l.es i).2.2 ∧ (ed l.es i).2.2 < l.n))), .lit, .dec false, .lit, .val (.int .i64 ((ed l.es i).2.1)), .lit, .dec false, .lit, .val (.int .i64 ((ed l.es i).2.1)), .lit, .lit, .val (.slice A1 l.ls.length c1), .lit, .lit, .dec false, .lit, .lit, .dec false, .lit, .lit, .lit, .lit, .lit, .lit, .lit, .lit, .lit] (at_ Tryz.f73 [1,1,1,0,1,2,3,1,1,0,2,1,1]) [(1, .pointer (some ⟨g1, 0, none⟩)), (3, .func (.func 98) #[] #[.pointer (some ⟨g1, 0, none⟩)]), (28, .slice (some ⟨b2, off2, none⟩) l.es.length c2), (29, .int .i64 (l.es.length : Int)), (30, .int .i64 i), (74, .bool false)]
      (fun H => LexOk (opsAt (at_ Tryz.f73 [1,1,1,0,1,2,3,1,1,0,2,1,0])) ∧ cellH H ⟨g2, 0, none⟩ = some (.int .i64 ((ed l.es i).1)) ∧ (Ct Tryz.prog 98 #[.int .i64 ((ed l.es i).1), .pointer (some ⟨g1, 0, none⟩)] H (fun v_ h_ => v_ = .bool (tv (0 ≤ (ed l.es i).1 ∧ (ed l.es i).1 < l.n)) ∧ Ext H h_)) ∧ ((!(tv (0 ≤ (ed l.es i).1 ∧ (ed l.es i).1 < l.n))) = false) ∧ cellH H ⟨g2, 2, none⟩ = some (.int .i64 ((ed l.es i).2.2)) ∧ (Ct Tryz.prog 98 #[.int .i64 ((ed l.es i).2.2), .pointer (some ⟨g1, 0, none⟩)] H (fun v_ h_ => v_ = .bool (tv (0 ≤ (ed l.es i).2.2 ∧ (ed l.es i).2.2 < l.n)) ∧ Ext H h_)) ∧ ((!(tv (0 ≤ (ed l.es i).2.2 ∧ (ed l.es i).2.2 < l.n))) = false) ∧ cellH H ⟨g2, 1, none⟩ = some (.int .i64 ((ed l.es i).2.1)) ∧ (decide ((ed l.es i).2.1 < 0)) = false ∧ cellH H ⟨g2, 1, none⟩ = some (.int .i64 ((ed l.es i).2.1)) ∧ cellH H ⟨g1, 1, none⟩ = some (.slice A1 l.ls.length c1) ∧ (decide ((ed l.es i).2.1 ≥ (l.ls.length : Int))) = false ∧ (decide (i > 0)) = false)
      (by as_aux_lemma => kernel_rfl) (fun H hH => ⟨lx_73_1110123110210, (hBg2_h4.at hH 0 rfl), (node_ctE _ _ _ _ (hBg1.at ((hMh4.ext_new ((hE2.trans hE).trans hEg2) hng2 (hE2.trans hE)).trans hH) 0 rfl)), (bnf (tv_yes q1)), (hBg2_h4.at hH 2 rfl), (node_ctE _ _ _ _ (hBg1.at ((hMh4.ext_new ((hE2.trans hE).trans hEg2) hng2 (hE2.trans hE)).trans hH) 0 rfl)), (bnf (tv_yes q2)), (hBg2_h4.at hH 1 rfl), (by first | assumption | exact decide_eq_false (by first | omega | assumption)), (hBg2_h4.at hH 1 rfl), (hBg1.at ((hMh4.ext_new ((hE2.trans hE).trans hEg2) hng2 (hE2.trans hE)).trans hH) 1 rfl), (by first | assumption | exact decide_eq_false (by first | omega | assumption)), (by first | assumption | exact decide_eq_false (by first | omega | assumption))⟩) fun H s_ hH => ?_
    -- at 1110127
    refine Run.adv 7 [.lit] (at_ Tryz.f73 [1,1,1,0,1,2,7]) [(1, .pointer (some ⟨g1, 0, none⟩)), (3, .func (.func 98) #[] #[.pointer (some ⟨g1, 0, none⟩)]), (28, .slice (some ⟨b2, off2, none⟩) l.es.length c2), (29, .int .i64 (l.es.length : Int)), (30, .int .i64 (i + 1))]
      ((-9223372036854775808 ≤ i + 1 ∧ i + 1 ≤ 9223372036854775807))
      (by as_aux_lemma => kernel_rfl) ⟨by omega, by omega⟩ fun s_ => ?_
    refine again (i + 1) _ _ ⟨((hMh4.ext_new (hE.trans hEg2) hng2 hE).trans hH), by omega, by omega, fun j h0 hj => ?_⟩ (by omega)
    by_cases e2 : j = i
    · subst e2; exact ⟨q1, q2, by omega, by omega, fun hh => absurd hh q5⟩
    · exact hI j h0 (by omega)
  by_cases q6 : cmpE (ed l.es (i - 1)) (ed l.es i) ≥ 0
  · refine Run.drawE [.val (.int .i64 ((ed l.es i).1)), .val (.bool (tv (0 ≤ (ed l.es i).1 ∧ (ed l.es i).1 < l.n))), .dec false, .lit, .lit, .val (.int .i64 ((ed l.es i).2.2)), .lit, .val (.bool (tv (0 ≤ (ed l.es i).2.2 ∧ (ed l.es i).2.2 < l.n))), .lit, .dec false, .lit, .val (.int .i64 ((ed l.es i).2.1)), .lit, .dec false, .lit, .val (.int .i64 ((ed l.es i).2.1)), .lit, .lit, .val (.slice A1 l.ls.length c1), .lit, .lit, .dec false, .lit, .lit, .dec true, .lit, .val (.slice (some ⟨b2, off2, none⟩) l.es.length c2), .lit, .lit, .lit, .lit, .val (.agg #[.int .i64 ((ed l.es (i - 1)).1), .int .i64 ((ed l.es (i - 1)).2.1), .int .i64 ((ed l.es (i - 1)).2.2)]), .lit, .val (.agg #[.int .i64 ((ed l.es i).1), .int .i64 ((ed l.es i).2.1), .int .i64 ((ed l.es i).2.2)]), .lit, .val (.int .i64 (cmpE (ed l.es (i - 1)) (ed l.es i))), .lit, .lit] (at_ Tryz.f73 [1,1,1,0,1,2,3,1,1,0,2,1,1]) [(74, .bool (decide (cmpE (ed l.es (i - 1)) (ed l.es i) ≥ 0)))]
      (fun H => LexOk (opsAt (at_ Tryz.f73 [1,1,1,0,1,2,3,1,1,0,2,1,0])) ∧ cellH H ⟨g2, 0, none⟩ = some (.int .i64 ((ed l.es i).1)) ∧ (Ct Tryz.prog 98 #[.int .i64 ((ed l.es i).1), .pointer (some ⟨g1, 0, none⟩)] H (fun v_ h_ => v_ = .bool (tv (0 ≤ (ed l.es i).1 ∧ (ed l.es i).1 < l.n)) ∧ Ext H h_)) ∧ ((!(tv (0 ≤ (ed l.es i).1 ∧ (ed l.es i).1 < l.n))) = false) ∧ cellH H ⟨g2, 2, none⟩ = some (.int .i64 ((ed l.es i).2.2)) ∧ (Ct Tryz.prog 98 #[.int .i64 ((ed l.es i).2.2), .pointer (some ⟨g1, 0, none⟩)] H (fun v_ h_ => v_ = .bool (tv (0 ≤ (ed l.es i).2.2 ∧ (ed l.es i).2.2 < l.n)) ∧ Ext H h_)) ∧ ((!(tv (0 ≤ (ed l.es i).2.2 ∧ (ed l.es i).2.2 < l.n))) = false) ∧ cellH H ⟨g2, 1, none⟩ = some (.int .i64 ((ed l.es i).2.1)) ∧ (decide ((ed l.es i).2.1 < 0)) = false ∧ cellH H ⟨g2, 1, none⟩ = some (.int .i64 ((ed l.es i).2.1)) ∧ cellH H ⟨g1, 1, none⟩ = some (.slice A1 l.ls.length c1) ∧ (decide ((ed l.es i).2.1 ≥ (l.ls.length : Int))) = false ∧ (decide (i > 0)) = true ∧ cellH H ⟨g1, 2, none⟩ = some (.slice (some ⟨b2, off2, none⟩) l.es.length c2) ∧ (-9223372036854775808 ≤ i - 1 ∧ i - 1 ≤ 9223372036854775807) ∧ (0 ≤ i - 1 ∧ i - 1 < (l.es.length : Int)) ∧ cellsAt H ⟨b2, off2 + (i - 1).toNat * 3, none⟩ [.int .i64 ((ed l.es (i - 1)).1), .int .i64 ((ed l.es (i - 1)).2.1), .int .i64 ((ed l.es (i - 1)).2.2)] 0 ∧ cellsAt H ⟨g2, 0, none⟩ [.int .i64 ((ed l.es i).1), .int .i64 ((ed l.es i).2.1), .int .i64 ((ed l.es i).2.2)] 0 ∧ (Ct Tryz.prog 99 #[.agg #[.int .i64 ((ed l.es (i - 1)).1), .int .i64 ((ed l.es (i - 1)).2.1), .int .i64 ((ed l.es (i - 1)).2.2)], .agg #[.int .i64 ((ed l.es i).1), .int .i64 ((ed l.es i).2.1), .int .i64 ((ed l.es i).2.2)]] H (fun v_ h_ => v_ = .int .i64 (cmpE (ed l.es (i - 1)) (ed l.es i)) ∧ Ext H h_)))
      (by as_aux_lemma => kernel_rfl) (fun H hH => ⟨lx_73_1110123110210, (hBg2_h4.at hH 0 rfl), (node_ctE _ _ _ _ (hBg1.at ((hMh4.ext_new ((hE2.trans hE).trans hEg2) hng2 (hE2.trans hE)).trans hH) 0 rfl)), (bnf (tv_yes q1)), (hBg2_h4.at hH 2 rfl), (node_ctE _ _ _ _ (hBg1.at ((hMh4.ext_new ((hE2.trans hE).trans hEg2) hng2 (hE2.trans hE)).trans hH) 0 rfl)), (bnf (tv_yes q2)), (hBg2_h4.at hH 1 rfl), (by first | assumption | exact decide_eq_false (by first | omega | assumption)), (hBg2_h4.at hH 1 rfl), (hBg1.at ((hMh4.ext_new ((hE2.trans hE).trans hEg2) hng2 (hE2.trans hE)).trans hH) 1 rfl), (by first | assumption | exact decide_eq_false (by first | omega | assumption)), (by first | assumption | exact decide_eq_true (by first | omega | assumption)), (hBg1.at ((hMh4.ext_new ((hE2.trans hE).trans hEg2) hng2 (hE2.trans hE)).trans hH) 2 rfl), ⟨by omega, by omega⟩, ⟨by omega, by omega⟩, (hp2 _ ((hMh4.ext_new (((hEg1.trans hE2).trans hE).trans hEg2) hng2 ((hEg1.trans hE2).trans hE)).trans hH) (i - 1) (by omega) (by omega)), (hBg2_h4.all hH), (cmpE_ct _ _ _)⟩) fun H s_ hH => ?_
    -- at 111012311021141
    refine Run.adv 5 [.dec true] (at_ Tryz.f73 [1,1,1,0,1,2,3,1,1,0,2,1,1,4,1]) [(2, .int .i64 1)]
      ((decide (cmpE (ed l.es (i - 1)) (ed l.es i) ≥ 0)) = true)
      (by as_aux_lemma => kernel_rfl) (by first | assumption | exact decide_eq_true (by first | omega | assumption)) fun s_ => ?_
    refine Run.ret [] (.int .i64 1) (True) Tryz.func73 (by as_aux_lemma => kernel_rfl) (by as_aux_lemma => kernel_rfl) trivial ?_
    exact ⟨by rw [errB, tv_no (fun hh => by have := (hh.es i hi0 hlt).2.2.2.2 q5; omega)]; rfl, ((hMh4.ext_new (((hEg1.trans hE2).trans hE).trans hEg2) hng2 ((hEg1.trans hE2).trans hE)).trans hH)⟩
  · refine Run.drawE [.val (.int .i64 ((ed l.es i).1)), .val (.bool (tv (0 ≤ (ed l.es i).1 ∧ (ed l.es i).1 < l.n))), .dec false, .lit, .lit, .val (.int .i64 ((ed l.es i).2.2)), .lit, .val (.bool (tv (0 ≤ (ed l.es i).2.2 ∧ (ed l.es i).2.2 < l.n))), .lit, .dec false, .lit, .val (.int .i64 ((ed l.es i).2.1)), .lit, .dec false, .lit, .val (.int .i64 ((ed l.es i).2.1)), .lit, .lit, .val (.slice A1 l.ls.length c1), .lit, .lit, .dec false, .lit, .lit, .dec true, .lit, .val (.slice (some ⟨b2, off2, none⟩) l.es.length c2), .lit, .lit, .lit, .lit, .val (.agg #[.int .i64 ((ed l.es (i - 1)).1), .int .i64 ((ed l.es (i - 1)).2.1), .int .i64 ((ed l.es (i - 1)).2.2)]), .lit, .val (.agg #[.int .i64 ((ed l.es i).1), .int .i64 ((ed l.es i).2.1), .int .i64 ((ed l.es i).2.2)]), .lit, .val (.int .i64 (cmpE (ed l.es (i - 1)) (ed l.es i))), .lit, .lit] (at_ Tryz.f73 [1,1,1,0,1,2,3,1,1,0,2,1,1]) [(1, .pointer (some ⟨g1, 0, none⟩)), (3, .func (.func 98) #[] #[.pointer (some ⟨g1, 0, none⟩)]), (28, .slice (some ⟨b2, off2, none⟩) l.es.length c2), (29, .int .i64 (l.es.length : Int)), (30, .int .i64 i), (74, .bool (decide (cmpE (ed l.es (i - 1)) (ed l.es i) ≥ 0)))]
      (fun H => LexOk (opsAt (at_ Tryz.f73 [1,1,1,0,1,2,3,1,1,0,2,1,0])) ∧ cellH H ⟨g2, 0, none⟩ = some (.int .i64 ((ed l.es i).1)) ∧ (Ct Tryz.prog 98 #[.int .i64 ((ed l.es i).1), .pointer (some ⟨g1, 0, none⟩)] H (fun v_ h_ => v_ = .bool (tv (0 ≤ (ed l.es i).1 ∧ (ed l.es i).1 < l.n)) ∧ Ext H h_)) ∧ ((!(tv (0 ≤ (ed l.es i).1 ∧ (ed l.es i).1 < l.n))) = false) ∧ cellH H ⟨g2, 2, none⟩ = some (.int .i64 ((ed l.es i).2.2)) ∧ (Ct Tryz.prog 98 #[.int .i64 ((ed l.es i).2.2), .pointer (some ⟨g1, 0, none⟩)] H (fun v_ h_ => v_ = .bool (tv (0 ≤ (ed l.es i).2.2 ∧ (ed l.es i).2.2 < l.n)) ∧ Ext H h_)) ∧ ((!(tv (0 ≤ (ed l.es i).2.2 ∧ (ed l.es i).2.2 < l.n))) = false) ∧ cellH H ⟨g2, 1, none⟩ = some (.int .i64 ((ed l.es i).2.1)) ∧ (decide ((ed l.es i).2.1 < 0)) = false ∧ cellH H ⟨g2, 1, none⟩ = some (.int .i64 ((ed l.es i).2.1)) ∧ cellH H ⟨g1, 1, none⟩ = some (.slice A1 l.ls.length c1) ∧ (decide ((ed l.es i).2.1 ≥ (l.ls.length : Int))) = false ∧ (decide (i > 0)) = true ∧ cellH H ⟨g1, 2, none⟩ = some (.slice (some ⟨b2, off2, none⟩) l.es.length c2) ∧ (-9223372036854775808 ≤ i - 1 ∧ i - 1 ≤ 9223372036854775807) ∧ (0 ≤ i - 1 ∧ i - 1 < (l.es.length : Int)) ∧ cellsAt H ⟨b2, off2 + (i - 1).toNat * 3, none⟩ [.int .i64 ((ed l.es (i - 1)).1), .int .i64 ((ed l.es (i - 1)).2.1), .int .i64 ((ed l.es (i - 1)).2.2)] 0 ∧ cellsAt H ⟨g2, 0, none⟩ [.int .i64 ((ed l.es i).1), .int .i64 ((ed l.es i).2.1), .int .i64 ((ed l.es i).2.2)] 0 ∧ (Ct Tryz.prog 99 #[.agg #[.int .i64 ((ed l.es (i - 1)).1), .int .i64 ((ed l.es (i - 1)).2.1), .int .i64 ((ed l.es (i - 1)).2.2)], .agg #[.int .i64 ((ed l.es i).1), .int .i64 ((ed l.es i).2.1), .int .i64 ((ed l.es i).2.2)]] H (fun v_ h_ => v_ = .int .i64 (cmpE (ed l.es (i - 1)) (ed l.es i)) ∧ Ext H h_)))
      (by as_aux_lemma => kernel_rfl) (fun H hH => ⟨lx_73_1110123110210, (hBg2_h4.at hH 0 rfl), (node_ctE _ _ _ _ (hBg1.at ((hMh4.ext_new ((hE2.trans hE).trans hEg2) hng2 (hE2.trans hE)).trans hH) 0 rfl)), (bnf (tv_yes q1)), (hBg2_h4.at hH 2 rfl), (node_ctE _ _ _ _ (hBg1.at ((hMh4.ext_new ((hE2.trans hE).trans hEg2) hng2 (hE2.trans hE)).trans hH) 0 rfl)), (bnf (tv_yes q2)), (hBg2_h4.at hH 1 rfl), (by first | assumption | exact decide_eq_false (by first | omega | assumption)), (hBg2_h4.at hH 1 rfl), (hBg1.at ((hMh4.ext_new ((hE2.trans hE).trans hEg2) hng2 (hE2.trans hE)).trans hH) 1 rfl), (by first | assumption | exact decide_eq_false (by first | omega | assumption)), (by first | assumption | exact decide_eq_true (by first | omega | assumption)), (hBg1.at ((hMh4.ext_new ((hE2.trans hE).trans hEg2) hng2 (hE2.trans hE)).trans hH) 2 rfl), ⟨by omega, by omega⟩, ⟨by omega, by omega⟩, (hp2 _ ((hMh4.ext_new (((hEg1.trans hE2).trans hE).trans hEg2) hng2 ((hEg1.trans hE2).trans hE)).trans hH) (i - 1) (by omega) (by omega)), (hBg2_h4.all hH), (cmpE_ct _ _ _)⟩) fun H s_ hH => ?_
    -- at 1110127
    refine Run.adv 7 [.dec false] (at_ Tryz.f73 [1,1,1,0,1,2,7]) [(1, .pointer (some ⟨g1, 0, none⟩)), (3, .func (.func 98) #[] #[.pointer (some ⟨g1, 0, none⟩)]), (28, .slice (some ⟨b2, off2, none⟩) l.es.length c2), (29, .int .i64 (l.es.length : Int)), (30, .int .i64 (i + 1))]
      ((decide (cmpE (ed l.es (i - 1)) (ed l.es i) ≥ 0)) = false ∧ (-9223372036854775808 ≤ i + 1 ∧ i + 1 ≤ 9223372036854775807))
      (by as_aux_lemma => kernel_rfl) ⟨(by first | assumption | exact decide_eq_false (by first | omega | assumption)), ⟨by omega, by omega⟩⟩ fun s_ => ?_
    refine again (i + 1) _ _ ⟨((hMh4.ext_new (hE.trans hEg2) hng2 hE).trans hH), by omega, by omega, fun j h0 hj => ?_⟩ (by omega)
    by_cases e2 : j = i
    · subst e2; exact ⟨q1, q2, by omega, by omega, fun _ => by omega⟩
    · exact hI j h0 (by omega)
end Go.Proofs.YtbajgbkkbabmlaaGreatDoor
