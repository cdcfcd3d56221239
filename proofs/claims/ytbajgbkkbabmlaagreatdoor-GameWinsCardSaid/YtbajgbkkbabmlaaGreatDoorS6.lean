/- sign.Step, sign.Stable, walked. -/
import Derived.Test.YtbajgbkkbabmlaaGreatDoorProg
import Derived.Test.YtbajgbkkbabmlaaGreatDoorS5
set_option linter.unusedVariables false
namespace Go.Proofs.YtbajgbkkbabmlaaGreatDoor
open Go.Vc

theorem key_str : KeyOk Tryz.prog 9 Value.string := KeyOk.str Tryz.underlying9
theorem idx_self {κ : Type} [DecidableEq κ] (ks : List κ) (x : κ) (h : idx x ks = none) : idx x (ks ++ [x]) = some ks.length := by
  rw [idx_snoc, h]; simp
/-- A node's key. -/
def keyT (es : List Ed) (p : List Int) (j : Nat) : ByteArray := ⟨(keyB (rd (plainL p) j) (waysOf es (plainL p) j)).toArray⟩
def keysT (es : List Ed) (p : List Int) (i : Nat) : List ByteArray := (List.range i).map (keyT es p)
theorem keysT_succ (es : List Ed) (p : List Int) (i : Nat) : keysT es p (i + 1) = keysT es p i ++ [keyT es p i] := by simp [keysT, List.range_succ]
theorem keysT_len (es : List Ed) (p : List Int) (i : Nat) : (keysT es p i).length = i := by simp [keysT]
theorem steps_keys (es : List Ed) (p : List Int) : (numF (keysT es p p.length)).2 = stepL es p :=
  step_keys es p _ (keysT_len _ _ _) fun i hi => by
    unfold keysT; rw [mapRange_getD _ _ hi]; rfl
theorem ways_bound {l : Lt} (hm : May l) (p : List Int) (i : Int) {w : Wy} (hw : w ∈ waysOf l.es (plainL p) i) (hn : (p.length : Int) = l.n) : (0 ≤ w.1 ∧ w.1 < 64) ∧ 0 ≤ w.2 ∧ w.2 < 2048 := by
  obtain ⟨e, he, h1, h2, h3⟩ := mem_rawW.1 (mem_waysOf.1 hw)
  obtain ⟨k, k0, k1, e1⟩ := (mem_iff (0, 0, 0) e l.es).1 he
  have hem := (hm.es k k0 k1).1
  unfold ed EdgeMay at hem
  rw [e1] at hem
  obtain ⟨q1, q2, q3, q4, q5, q6⟩ := hem
  have h64 := hm.ls.1
  have h2048 := hm.n2
  obtain ⟨t, ht⟩ := Int.eq_ofNat_of_zero_le q3
  have hr := plainK_range (kerL_eqv p) (n := p.length) (i := t) (by omega)
  have hc := cnt_le (kerL p) p.length
  have h3' : (plainL p).getD t 0 = w.2 := by rw [← h3, ht, rd_nat]
  unfold plainL at h3'
  rw [h3'] at hr
  omega
theorem stepNo_ct (A1 A2 A3 : Option Addr) (c1 c2 c3 : Nat) (l : Lt) (p : List Int) (h : Heap) (hx : LtAt h l A1 c1 A2 c2) (hl : l.ls.length ≤ 100000) (hno : ¬ Good l p) :
    Ct Tryz.prog 58 #[.agg #[.int .i64 l.n, .slice A1 l.ls.length c1, .slice A2 l.es.length c2], .slice A3 p.length c3] h (fun v h' => v = .tuple #[.slice none 0 0, .int .i64 1] ∧ Ext h h') := by
  have he : errB (Good l p) = 1 := errB_no hno
  refine Ct.enter (args := [.agg #[.int .i64 l.n, .slice A1 l.ls.length c1, .slice A2 l.es.length c2], .slice A3 p.length c3]) Tryz.func58 rfl Tryz.ntmps58 (by simp) fun w hw => ?_
  -- at 080
  refine Run.adv 2 [] (at_ Tryz.f58 [0,8,0]) [(0, .agg #[.int .i64 l.n, .slice A1 l.ls.length c1, .slice A2 l.es.length c2]), (1, .slice A3 p.length c3)]
    (True)
    (by as_aux_lemma => kernel_rfl) trivial fun s_ => ?_
  refine Run.new #[.int .i64 l.n, .slice A1 l.ls.length c1, .slice A2 l.es.length c2] 25 (fun g_ => .pointer (some ⟨g_, 0, none⟩)) (some 2) (at_ Tryz.f58 [0,8,1]) (by as_aux_lemma => kernel_rfl) fun g1 h1 hng1 hEg1 hBg1 => ?_
  -- at 10082
  refine Run.adv 8 [.val (.agg #[.int .i64 l.n, .slice A1 l.ls.length c1, .slice A2 l.es.length c2])] (at_ Tryz.f58 [1,0,0,8,2]) [(0, .agg #[.int .i64 l.n, .slice A1 l.ls.length c1, .slice A2 l.es.length c2]), (1, .slice A3 p.length c3), (2, .pointer (some ⟨g1, 0, none⟩)), (4, .slice none 0 0), (5, .int .i64 0), (14, .agg #[.int .i64 l.n, .slice A1 l.ls.length c1, .slice A2 l.es.length c2]), (15, .slice A3 p.length c3)]
    (cellsAt h1 ⟨g1, 0, none⟩ [.int .i64 l.n, .slice A1 l.ls.length c1, .slice A2 l.es.length c2] 0)
    (by as_aux_lemma => kernel_rfl) (hBg1.all (Ext.refl _)) fun s_ => ?_
  refine Run.call 80 #[.agg #[.int .i64 l.n, .slice A1 l.ls.length c1, .slice A2 l.es.length c2], .slice A3 p.length c3] (some 16) (at_ Tryz.f58 [1,0,0,8,3]) (by as_aux_lemma => kernel_rfl) (scheck_ct A1 A2 A3 c1 c2 c3 l p _ (hx.ext hEg1) hl) ?_
  rintro _ h2 ⟨rfl, hE⟩
  rw [he]
  -- at 101141
  refine Run.adv 14 [.lit] (at_ Tryz.f58 [1,0,1,1,4,1]) [(4, .slice none 0 0), (5, .int .i64 1)]
    (True)
    (by as_aux_lemma => kernel_rfl) trivial fun s_ => ?_
  refine Run.ret [] (.tuple #[.slice none 0 0, .int .i64 1]) (True) Tryz.func58 (by as_aux_lemma => kernel_rfl) (by as_aux_lemma => kernel_rfl) trivial ?_
  exact ⟨rfl, (hEg1.trans hE)⟩
set_option maxHeartbeats 1000000 in
theorem stepOk_ct (A1 A2 A3 : Option Addr) (c1 c2 c3 : Nat) (l : Lt) (p : List Int) (h : Heap) (hx : LtAt h l A1 c1 A2 c2) (hp : Ints h A3 p c3) (hm : May l) (hn : (p.length : Int) = l.n) (hT : Tab h) :
    Ct Tryz.prog 58 #[.agg #[.int .i64 l.n, .slice A1 l.ls.length c1, .slice A2 l.es.length c2], .slice A3 p.length c3] h
      (fun v h' => ∃ w og, v = .tuple #[w, .int .i64 0] ∧ Own h' 3 1 w (stepL l.es p).length ((stepL l.es p).map (Value.int .i64)) og ∧ Ext h h' ∧ ∀ g, og = some g → h.size ≤ g) := by
  have hm2 := hm.n2
  have hl := hm.ls.1
  have he : errB (Good l p) = 0 := errB_yes ⟨hm, hn⟩
  have hpl := plainL_len p
  refine Ct.enter (args := [.agg #[.int .i64 l.n, .slice A1 l.ls.length c1, .slice A2 l.es.length c2], .slice A3 p.length c3]) Tryz.func58 rfl Tryz.ntmps58 (by simp) fun w hw => ?_
  -- at 080
  refine Run.adv 2 [] (at_ Tryz.f58 [0,8,0]) [(0, .agg #[.int .i64 l.n, .slice A1 l.ls.length c1, .slice A2 l.es.length c2]), (1, .slice A3 p.length c3)]
    (True)
    (by as_aux_lemma => kernel_rfl) trivial fun s_ => ?_
  refine Run.new #[.int .i64 l.n, .slice A1 l.ls.length c1, .slice A2 l.es.length c2] 25 (fun g_ => .pointer (some ⟨g_, 0, none⟩)) (some 2) (at_ Tryz.f58 [0,8,1]) (by as_aux_lemma => kernel_rfl) fun g1 h1 hng1 hEg1 hBg1 => ?_
  -- at 10082
  refine Run.adv 8 [.val (.agg #[.int .i64 l.n, .slice A1 l.ls.length c1, .slice A2 l.es.length c2])] (at_ Tryz.f58 [1,0,0,8,2]) [(0, .agg #[.int .i64 l.n, .slice A1 l.ls.length c1, .slice A2 l.es.length c2]), (1, .slice A3 p.length c3), (2, .pointer (some ⟨g1, 0, none⟩)), (4, .slice none 0 0), (5, .int .i64 0), (14, .agg #[.int .i64 l.n, .slice A1 l.ls.length c1, .slice A2 l.es.length c2]), (15, .slice A3 p.length c3)]
    (cellsAt h1 ⟨g1, 0, none⟩ [.int .i64 l.n, .slice A1 l.ls.length c1, .slice A2 l.es.length c2] 0)
    (by as_aux_lemma => kernel_rfl) (hBg1.all (Ext.refl _)) fun s_ => ?_
  refine Run.call 80 #[.agg #[.int .i64 l.n, .slice A1 l.ls.length c1, .slice A2 l.es.length c2], .slice A3 p.length c3] (some 16) (at_ Tryz.f58 [1,0,0,8,3]) (by as_aux_lemma => kernel_rfl) (scheck_ct A1 A2 A3 c1 c2 c3 l p _ (hx.ext hEg1) (by omega)) ?_
  rintro _ h2 ⟨rfl, hE⟩
  rw [he]
  have hE2 := hEg1.trans hE
  -- at 11081
  refine Run.adv 12 [.lit] (at_ Tryz.f58 [1,1,0,8,1]) [(2, .pointer (some ⟨g1, 0, none⟩)), (20, .slice A3 p.length c3)]
    (True)
    (by as_aux_lemma => kernel_rfl) trivial fun s_ => ?_
  refine Run.call 81 #[.slice A3 p.length c3] (some 21) (at_ Tryz.f58 [1,1,0,8,2]) (by as_aux_lemma => kernel_rfl) (plainP_ct A3 c3 p _ (hp.ext hE2) (by omega)) ?_
  rintro v h3 ⟨og3, hO3, hE3, -⟩
  obtain ⟨A4, c4, rfl, hr4⟩ := hO3.row1 (d := 0) (by omega)
  -- at 111080
  refine Run.adv 4 [] (at_ Tryz.f58 [1,1,1,0,8,0]) [(1, .slice A4 ((plainL p).length) c4), (2, .pointer (some ⟨g1, 0, none⟩))]
    (True)
    (by as_aux_lemma => kernel_rfl) trivial fun s_ => ?_
  refine Run.makeMap (some 22) (at_ Tryz.f58 [1,1,1,0,8,1]) (by as_aux_lemma => kernel_rfl) fun gm h4 hngm hEgm hmgm => ?_
  have hE4 := (hE2.trans hE3).trans hEgm
  -- at 111110082
  refine Run.adv 11 [.val (.agg #[.int .i64 l.n, .slice A1 l.ls.length c1, .slice A2 l.es.length c2])] (at_ Tryz.f58 [1,1,1,1,1,0,0,8,2]) [(1, .slice A4 ((plainL p).length) c4), (2, .pointer (some ⟨g1, 0, none⟩)), (7, .map (some gm)), (8, .slice none 0 0), (23, .agg #[.int .i64 l.n, .slice A1 l.ls.length c1, .slice A2 l.es.length c2]), (24, .slice A4 ((plainL p).length) c4)]
    (cellsAt h4 ⟨g1, 0, none⟩ [.int .i64 l.n, .slice A1 l.ls.length c1, .slice A2 l.es.length c2] 0)
    (by as_aux_lemma => kernel_rfl) (hBg1.all ((hE.trans hE3).trans hEgm)) fun s_ => ?_
  refine Run.call 82 #[.agg #[.int .i64 l.n, .slice A1 l.ls.length c1, .slice A2 l.es.length c2], .slice A4 ((plainL p).length) c4] (some 25) (at_ Tryz.f58 [1,1,1,1,1,0,0,8,3]) (by as_aux_lemma => kernel_rfl) (all_ct A1 A2 A4 c1 c2 c4 l (plainL p) _ (hx.ext hE4) (hr4.ext hEgm) hm (by omega)) ?_
  rintro v h5 ⟨ga, vs, hO5, hN5, hE5, hg5⟩
  obtain ⟨A5, c5, rfl⟩ := hO5.slice
  obtain ⟨rfl, _⟩ := hO5.addr
  have hvl := hO5.cslen
  have hgm4 := (hmgm Value.string (Value.int .i64)).lt
  -- at 11111012
  refine Run.adv 4 [] (at_ Tryz.f58 [1,1,1,1,1,0,1,2]) [(1, .slice A4 ((plainL p).length) c4), (7, .map (some gm)), (8, .slice none 0 0), (25, .slice (some ⟨ga, 0, none⟩) ((plainL p).length) c5), (26, .int .i64 ((plainL p).length : Int)), (27, .int .i64 0)]
    (True)
    (by as_aux_lemma => kernel_rfl) trivial fun s_ => ?_
  refine Run.loop (at_ Tryz.f58 [1,1,1,1,1,0,1,2,3]) (at_ Tryz.f58 [1,1,1,1,1,0,1,2,7]) (fun (⟨i, A2, c2⟩ : Nat × Option Addr × Nat) => [(1, .slice A4 ((plainL p).length) c4), (7, .map (some gm)), (8, .slice A2 i c2), (25, .slice (some ⟨ga, 0, none⟩) ((plainL p).length) c5), (26, .int .i64 ((plainL p).length : Int)), (27, .int .i64 (i : Int))])
    (fun ⟨i, A2, c2⟩ h6 => i ≤ p.length ∧ ∃ og, Own h6 3 1 (.slice A2 i c2) i ((numF (keysT l.es p i)).2.map (Value.int .i64)) og ∧ MapAt h6 gm Value.string (Value.int .i64) (nums (numF (keysT l.es p i)).1) ∧ Mod (some gm) h5 h6 ∧ ∀ g', og = some g' → h5.size ≤ g') (fun ⟨i, A2, c2⟩ => p.length - i) (0, none, 0) (by as_aux_lemma => kernel_rfl) rfl ?_ ?_
  · refine ⟨Nat.zero_le _, none, Own.nil _ _ _, ?_, (Ext.refl _).mod _, by simp⟩
    exact (hmgm _ _).ext hE5
  rintro ⟨i, A2, c2⟩ s h6 ⟨hi, og, hO, hM, hM6, hg⟩ again
  simp only at hi hO hM hM6 hg again
  have hsz := hM6.size
  have hE6 : Ext h3 h6 := hM6.ext (hEgm.trans hE5) (fun g' e => by cases e; omega)
  have hOa := hO5.mod hM6 (.inr (by simp only [ne_eq, Option.some.injEq]; omega))
  have hNa := hN5.modn hM6 (fun g' e => by cases e; exact hgm4)
  have hE06 := (hE2.trans hE3).trans hE6
  have hga5 := hO5.lt rfl
  by_cases hlt : i < p.length
  · obtain ⟨b, off, rfl, hp4⟩ := hr4.open_ (by omega)
    obtain ⟨o, hOi, hob, -⟩ := hNa.open_ (j := i) (by simp; omega)
    obtain ⟨A6, c6, hv6⟩ := hOi.slice
    rw [hv6, mapRange_getD _ _ (by omega)] at hOi
    have hwl := waysOf_len l.es (plainL p) (i : Int)
    have hlen := hm.len
    obtain ⟨A6', c6', hv6', hrow⟩ := hOi.rowK (d := (0, 0)) encW_len (by omega)
    injection hv6' with e1 e2 e3
    subst e1 e3
    have hhd : vs[i]? = some (.slice A6 (waysOf l.es (plainL p) i).length c6) := by
      rw [getD_some undef (by omega), hv6, mapRange_getD _ _ (by omega)]
    have hrv : 0 ≤ rd (plainL p) (i : Int) ∧ rd (plainL p) (i : Int) < 2048 := by
      have hr := plainK_range (kerL_eqv p) (n := p.length) hlt
      have hc := cnt_le (kerL p) p.length
      rw [rd_nat]; unfold plainL; omega
    -- at 11111012311021085
    refine Run.adv 24 [.dec true, .val (.slice A6 ((waysOf l.es (plainL p) i).length) c6), .val (.int .i64 (rd (plainL p) (i : Int)))] (at_ Tryz.f58 [1,1,1,1,1,0,1,2,3,1,1,0,2,1,0,8,5]) [(1, .slice (some ⟨b, off, none⟩) ((plainL p).length) c4), (7, .map (some gm)), (8, .slice A2 i c2), (9, .int .i64 (i : Int)), (10, .slice A6 ((waysOf l.es (plainL p) i).length) c6), (25, .slice (some ⟨ga, 0, none⟩) ((plainL p).length) c5), (26, .int .i64 ((plainL p).length : Int)), (27, .int .i64 (i : Int)), (35, .int .i64 (rd (plainL p) (i : Int))), (36, .slice A6 ((waysOf l.es (plainL p) i).length) c6)]
      ((decide ((i : Int) < ((plainL p).length : Int))) = true ∧ (0 ≤ (i : Int) ∧ (i : Int) < ((plainL p).length : Int)) ∧ cellH h6 ⟨ga, 0 + (i : Int).toNat, none⟩ = some (.slice A6 ((waysOf l.es (plainL p) i).length) c6) ∧ (0 ≤ (i : Int) ∧ (i : Int) < ((plainL p).length : Int)) ∧ cellH h6 ⟨b, off + (i : Int).toNat, none⟩ = some (.int .i64 (rd (plainL p) (i : Int))))
      (by as_aux_lemma => kernel_rfl) ⟨(by first | assumption | exact decide_eq_true (by first | omega | assumption)), ⟨by omega, by omega⟩, (hOa.cell (by simpa using hhd)), ⟨by omega, by omega⟩, (hp4 _ hE6 i (by omega) (by omega))⟩ fun s_ => ?_
    refine Run.call 83 #[.int .i64 (rd (plainL p) (i : Int)), .slice A6 ((waysOf l.es (plainL p) i).length) c6] (some 37) (at_ Tryz.f58 [1,1,1,1,1,0,1,2,3,1,1,0,2,1,0,8,6]) (by as_aux_lemma => kernel_rfl) (key_ct A6 c6 (rd (plainL p) i) (waysOf l.es (plainL p) i) _ hrow (hT.ext hE06) (by omega) (by omega) (fun w hw => by have := ways_bound hm p _ hw hn; omega) (by omega)) ?_
    rintro _ h7 ⟨rfl, hE7⟩
    have hM7 := hM.ext hE7
    have hfi := numF_len (keysT l.es p i)
    have hki := numF_keys (keysT l.es p i)
    rw [keysT_len] at hfi hki
    cases hix : idx (keyT l.es p i) (numF (keysT l.es p i)).1 with
    | some j =>
      have hst : numF (keysT l.es p (i + 1)) = ((numF (keysT l.es p i)).1, (numF (keysT l.es p i)).2 ++ [(j : Int)]) := by rw [keysT_succ, numF_snoc]; unfold numStep; rw [hix]
      have hmf : mfind (nums (numF (keysT l.es p i)).1) (keyT l.es p i) = some (j : Int) := by rw [mfind_nums, hix]; rfl
      -- at 111110123110211184
      refine Run.adv 26 [.say (.tuple #[.int .i64 (j : Int), .bool true]), .lit, .say (.int .i64 (j : Int))] (at_ Tryz.f58 [1,1,1,1,1,0,1,2,3,1,1,0,2,1,1,1,8,4]) [(1, .slice (some ⟨b, off, none⟩) ((plainL p).length) c4), (7, .map (some gm)), (8, .slice A2 i c2), (25, .slice (some ⟨ga, 0, none⟩) ((plainL p).length) c5), (26, .int .i64 ((plainL p).length : Int)), (27, .int .i64 (i : Int)), (50, .slice A2 i c2), (53, .int .i64 (j : Int))]
        (Says Tryz.prog (Instr.lookup 127 (.map (some gm)) (.string (keyT l.es p i)) true) (.tuple #[.int .i64 (j : Int), .bool true]) h7 ∧ Says Tryz.prog (Instr.lookup 127 (.map (some gm)) (.string (keyT l.es p i)) false) (.int .i64 (j : Int)) h7)
        (by as_aux_lemma => kernel_rfl) ⟨(hM7.found Tryz.underlying127 key_str zero_int hmf), (hM7.lookup1 Tryz.underlying127 key_str _ hmf)⟩ fun s_ => ?_
      refine Run.new #[.int .i64 (j : Int)] 3 (fun g_ => .slice (some ⟨g_, 0, none⟩) 1 1) (some 54) (at_ Tryz.f58 [1,1,1,1,1,0,1,2,3,1,1,0,2,1,1,1,8,5]) (by as_aux_lemma => kernel_rfl) fun g3 h8 hng3 hEg3 hBg3 => ?_
      refine Run.append (.slice A2 i c2) (.slice (some ⟨g3, 0, none⟩) 1 1) 3 (some 55) (at_ Tryz.f58 [1,1,1,1,1,0,1,2,3,1,1,0,2,1,1,1,8,6]) 1 8 (by as_aux_lemma => kernel_rfl) (by as_aux_lemma => kernel_rfl) (by decide) ((hO.ext hE7).ext hEg3) (Src.row (hBg3.all (Ext.refl _)) rfl) (by rfl) rfl (by omega) fun A9 c9 h9 og9 hOA9 hMh9 hgA9 => ?_
      have hEh3_h9 := hMh9.ext ((hE6.trans hE7).trans hEg3) (by exact fun g' e => by have := hg g' e; have := hE5.size; have := hEgm.size; omega)
      -- at 111110127
      refine Run.adv 7 [] (at_ Tryz.f58 [1,1,1,1,1,0,1,2,7]) [(1, .slice (some ⟨b, off, none⟩) ((plainL p).length) c4), (7, .map (some gm)), (8, .slice A9 (i + 1) c9), (25, .slice (some ⟨ga, 0, none⟩) ((plainL p).length) c5), (26, .int .i64 ((plainL p).length : Int)), (27, .int .i64 ((i + 1 : Nat) : Int))]
        ((-9223372036854775808 ≤ (i : Int) + 1 ∧ (i : Int) + 1 ≤ 9223372036854775807))
        (by as_aux_lemma => kernel_rfl) ⟨by omega, by omega⟩ fun s_ => ?_
      have hE68 := hE7.trans hEg3
      have hs1 := hE68.size
      have hs2 := hMh9.size
      have hga : some ga ≠ og := fun e => by have := hg ga e.symm; omega
      have hgn : some gm ≠ og := fun e => by have := hg gm e.symm; have := hE5.size; omega
      refine again (i + 1, A9, c9) _ _ ⟨hlt, og9, by simp only; rw [hst, List.map_append]; exact hOA9, by simp only; rw [hst]; exact (hM.ext hE68).mod hMh9 hgn, (hM6.over (hE68.mod none) (by simp)).over hMh9 hg, fun g' e => ?_⟩ (by simp only; omega)
      rcases hgA9 with e2 | e2
      · exact hg g' (e2 ▸ e)
      · rw [e2] at e; cases e; omega
    | none =>
      have hst : numF (keysT l.es p (i + 1)) = ((numF (keysT l.es p i)).1 ++ [keyT l.es p i], (numF (keysT l.es p i)).2 ++ [((numF (keysT l.es p i)).1.length : Int)]) := by rw [keysT_succ, numF_snoc]; unfold numStep; rw [hix]
      have hln := hM7.len (P := Tryz.prog) (ty := 3) Tryz.underlying127
      rw [nums_length] at hln
      -- at 111110123110211011484
      refine Run.adv 25 [.say (.tuple #[.int .i64 0, .bool false]), .lit, .say (.int .i64 ((numF (keysT l.es p i)).1.length : Int))] (at_ Tryz.f58 [1,1,1,1,1,0,1,2,3,1,1,0,2,1,1,0,1,1,4,8,4]) [(1, .slice (some ⟨b, off, none⟩) ((plainL p).length) c4), (7, .map (some gm)), (8, .slice A2 i c2), (11, .string (keyT l.es p i)), (25, .slice (some ⟨ga, 0, none⟩) ((plainL p).length) c5), (26, .int .i64 ((plainL p).length : Int)), (27, .int .i64 (i : Int)), (46, .map (some gm)), (47, .string (keyT l.es p i)), (49, .int .i64 ((numF (keysT l.es p i)).1.length : Int))]
        (Says Tryz.prog (Instr.lookup 127 (.map (some gm)) (.string (keyT l.es p i)) true) (.tuple #[.int .i64 0, .bool false]) h7 ∧ Says Tryz.prog (Builtin.len_ #[127] 3 #[.map (some gm)]) (.int .i64 ((numF (keysT l.es p i)).1.length : Int)) h7)
        (by as_aux_lemma => kernel_rfl) ⟨(hM7.missing Tryz.underlying127 key_str zero_int (by rw [mfind_nums, hix]; rfl)), hln⟩ fun s_ => ?_
      refine Run.mapUpdate 127 gm Value.string (Value.int .i64) (keyT l.es p i) ((numF (keysT l.es p i)).1.length : Int) (at_ Tryz.f58 [1,1,1,1,1,0,1,2,3,1,1,0,2,1,1,0,1,1,4,8,5]) (by as_aux_lemma => kernel_rfl) Tryz.underlying127 key_str hM7 fun h8 hMh8 hzh8 hmh8 => ?_
      rw [mput_nums _ _ hix] at hmh8
      have hmf : mfind (nums ((numF (keysT l.es p i)).1 ++ [keyT l.es p i])) (keyT l.es p i) = some ((numF (keysT l.es p i)).1.length : Int) := by rw [mfind_nums, idx_self _ _ hix]; rfl
      have hE8 : Ext h3 h8 := hMh8.ext (hE6.trans hE7) (fun g' e => by cases e; omega)
      -- at 111110123110211184
      refine Run.adv 6 [.say (.int .i64 ((numF (keysT l.es p i)).1.length : Int))] (at_ Tryz.f58 [1,1,1,1,1,0,1,2,3,1,1,0,2,1,1,1,8,4]) [(1, .slice (some ⟨b, off, none⟩) ((plainL p).length) c4), (7, .map (some gm)), (8, .slice A2 i c2), (25, .slice (some ⟨ga, 0, none⟩) ((plainL p).length) c5), (26, .int .i64 ((plainL p).length : Int)), (27, .int .i64 (i : Int)), (50, .slice A2 i c2), (53, .int .i64 ((numF (keysT l.es p i)).1.length : Int))]
        (Says Tryz.prog (Instr.lookup 127 (.map (some gm)) (.string (keyT l.es p i)) false) (.int .i64 ((numF (keysT l.es p i)).1.length : Int)) h8)
        (by as_aux_lemma => kernel_rfl) (hmh8.lookup1 Tryz.underlying127 key_str _ hmf) fun s_ => ?_
      refine Run.new #[.int .i64 ((numF (keysT l.es p i)).1.length : Int)] 3 (fun g_ => .slice (some ⟨g_, 0, none⟩) 1 1) (some 54) (at_ Tryz.f58 [1,1,1,1,1,0,1,2,3,1,1,0,2,1,1,1,8,5]) (by as_aux_lemma => kernel_rfl) fun g3 h9 hng3 hEg3 hBg3 => ?_
      have hgn : some gm ≠ og := fun e => by have := hg gm e.symm; have := hE5.size; omega
      refine Run.append (.slice A2 i c2) (.slice (some ⟨g3, 0, none⟩) 1 1) 3 (some 55) (at_ Tryz.f58 [1,1,1,1,1,0,1,2,3,1,1,0,2,1,1,1,8,6]) 1 8 (by as_aux_lemma => kernel_rfl) (by as_aux_lemma => kernel_rfl) (by decide) (((hO.ext hE7).mod hMh8 (.inr (Ne.symm hgn))).ext hEg3) (Src.row (hBg3.all (Ext.refl _)) rfl) (by rfl) rfl (by omega) fun A9 c9 h10 og9 hOA9 hMh10 hgA9 => ?_
      have hEh3_h10 := hMh10.ext (hE8.trans hEg3) (by exact fun g' e => by have := hg g' e; have := hE5.size; have := hEgm.size; omega)
      -- at 111110127
      refine Run.adv 7 [] (at_ Tryz.f58 [1,1,1,1,1,0,1,2,7]) [(1, .slice (some ⟨b, off, none⟩) ((plainL p).length) c4), (7, .map (some gm)), (8, .slice A9 (i + 1) c9), (25, .slice (some ⟨ga, 0, none⟩) ((plainL p).length) c5), (26, .int .i64 ((plainL p).length : Int)), (27, .int .i64 ((i + 1 : Nat) : Int))]
        ((-9223372036854775808 ≤ (i : Int) + 1 ∧ (i : Int) + 1 ≤ 9223372036854775807))
        (by as_aux_lemma => kernel_rfl) ⟨by omega, by omega⟩ fun s_ => ?_
      have hs1 := hE7.size
      have hs2 := hEg3.size
      refine again (i + 1, A9, c9) _ _ ⟨hlt, og9, by simp only; rw [hst, List.map_append]; exact hOA9, by simp only; rw [hst]; exact (hmh8.ext hEg3).mod hMh10 hgn, ((((hM6.over (hE7.mod none) (by simp)).trans hMh8).over (hEg3.mod none) (by simp))).over hMh10 hg, fun g' e => ?_⟩ (by simp only; omega)
      rcases hgA9 with e2 | e2
      · exact hg g' (e2 ▸ e)
      · rw [e2] at e; cases e; omega
  · have hie : i = p.length := by omega
    rw [hie] at hO
    -- at 1111111
    refine Run.adv 13 [.dec false] (at_ Tryz.f58 [1,1,1,1,1,1,1]) [(4, .slice A2 i c2), (5, .int .i64 0)]
      ((decide ((i : Int) < ((plainL p).length : Int))) = false)
      (by as_aux_lemma => kernel_rfl) (by first | assumption | exact decide_eq_false (by first | omega | assumption)) fun s_ => ?_
    refine Run.ret [] (.tuple #[.slice A2 i c2, .int .i64 0]) (True) Tryz.func58 (by as_aux_lemma => kernel_rfl) (by as_aux_lemma => kernel_rfl) trivial ?_
    rw [steps_keys, ← stepL_len l.es p] at hO
    rw [hie, ← stepL_len l.es p]
    exact ⟨_, og, rfl, hO, hE06, fun g' e => by have := hg g' e; have := hE5.size; have := hEgm.size; have := (hE2.trans hE3).size; omega⟩
end Go.Proofs.YtbajgbkkbabmlaaGreatDoor
