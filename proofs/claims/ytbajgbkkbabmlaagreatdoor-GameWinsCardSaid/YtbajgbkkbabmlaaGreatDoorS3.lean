/- sign.all, walked. -/
import Derived.Test.YtbajgbkkbabmlaaGreatDoorProg
import Derived.Test.YtbajgbkkbabmlaaGreatDoorS1
import Derived.Test.YtbajgbkkbabmlaaGreatDoorS2
set_option linter.unusedVariables false
namespace Go.Proofs.YtbajgbkkbabmlaaGreatDoor
open Go.Vc

theorem take_ed' (es : List Ed) (i : Nat) (hi : i < es.length) : es.take (i + 1) = es.take i ++ [ed es (i : Int)] := take_snoc (0, 0, 0) es i hi
set_option maxHeartbeats 1000000 in
theorem all_ct (A1 A2 A3 : Option Addr) (c1 c2 c3 : Nat) (l : Lt) (p : List Int) (h : Heap) (hx : LtAt h l A1 c1 A2 c2) (hpr : Ints h A3 p c3) (hm : May l) (hn : (p.length : Int) = l.n) :
    Ct Tryz.prog 82 #[.agg #[.int .i64 l.n, .slice A1 l.ls.length c1, .slice A2 l.es.length c2], .slice A3 p.length c3] h
      (fun v h' => ∃ g vs, Own h' 130 1 v p.length vs (some g) ∧ Nest h' 158 2 (fun ws : List Wy => ws.flatMap encW) h.size (some g) vs ((List.range p.length).map fun j : Nat => waysOf l.es p (j : Int)) ∧ Ext h h' ∧ h.size ≤ g) := by
  have hlen := hm.len
  have hn1 := hm.n1
  have hn2 := hm.n2
  refine Ct.enter (args := [.agg #[.int .i64 l.n, .slice A1 l.ls.length c1, .slice A2 l.es.length c2], .slice A3 p.length c3]) Tryz.func82 rfl Tryz.ntmps82 (by simp) fun w hw => ?_
  -- at 080
  refine Run.adv 2 [] (at_ Tryz.f82 [0,8,0]) [(0, .agg #[.int .i64 l.n, .slice A1 l.ls.length c1, .slice A2 l.es.length c2]), (1, .slice A3 p.length c3)]
    (True)
    (by as_aux_lemma => kernel_rfl) trivial fun s_ => ?_
  refine Run.new #[.int .i64 l.n, .slice A1 l.ls.length c1, .slice A2 l.es.length c2] 25 (fun g_ => .pointer (some ⟨g_, 0, none⟩)) (some 2) (at_ Tryz.f82 [0,8,1]) (by as_aux_lemma => kernel_rfl) fun g1 h1 hng1 hEg1 hBg1 => ?_
  -- at 1082
  refine Run.adv 6 [.val (.int .i64 l.n)] (at_ Tryz.f82 [1,0,8,2]) [(0, .agg #[.int .i64 l.n, .slice A1 l.ls.length c1, .slice A2 l.es.length c2]), (1, .slice A3 p.length c3), (2, .pointer (some ⟨g1, 0, none⟩)), (4, .slice none 0 0), (10, .pointer (some ⟨g1, 0, none⟩)), (11, .int .i64 l.n)]
    (cellH h1 ⟨g1, 0, none⟩ = some (.int .i64 l.n))
    (by as_aux_lemma => kernel_rfl) (hBg1.at (Ext.refl _) 0 rfl) fun s_ => ?_
  refine Run.make l.n (.slice none 0 0) 130 24 (some 12) (at_ Tryz.f82 [1,0,8,3]) (by as_aux_lemma => kernel_rfl) (by as_aux_lemma => kernel_rfl) (by omega) (by omega) (by omega) fun g h0 hng hEg hBg => ?_
  have hN : l.n.toNat = p.length := by omega
  rw [hN] at hBg ⊢
  have hO0 := own_made hBg (by omega)
  have hgl := hO0.lt rfl
  -- at 11012
  refine Run.adv 11 [.val (.slice A2 l.es.length c2)] (at_ Tryz.f82 [1,1,0,1,2]) [(1, .slice A3 p.length c3), (5, .slice (some ⟨g, 0, none⟩) p.length p.length), (14, .slice A2 l.es.length c2), (15, .int .i64 (l.es.length : Int)), (16, .int .i64 0)]
    (cellH h0 ⟨g1, 2, none⟩ = some (.slice A2 l.es.length c2))
    (by as_aux_lemma => kernel_rfl) (hBg1.at hEg 2 rfl) fun s_ => ?_
  refine Run.loop (at_ Tryz.f82 [1,1,0,1,2,3]) (at_ Tryz.f82 [1,1,0,1,2,7]) (fun i : Nat => [(1, .slice A3 p.length c3), (5, .slice (some ⟨g, 0, none⟩) p.length p.length), (14, .slice A2 l.es.length c2), (15, .int .i64 (l.es.length : Int)), (16, .int .i64 (i : Int))])
    (fun i h2 => i ≤ l.es.length ∧ ∃ vs, Own h2 130 1 (.slice (some ⟨g, 0, none⟩) p.length p.length) p.length vs (some g) ∧ Nest h2 158 2 (fun ws : List Wy => ws.flatMap encW) h1.size (some g) vs ((List.range p.length).map fun j : Nat => rawW (l.es.take i) p (j : Int)) ∧ Ext h1 h2) (fun i => l.es.length - i) 0 (by as_aux_lemma => kernel_rfl) rfl ?_ ?_
  · refine ⟨Nat.zero_le _, _, hO0, ?_, hEg⟩
    have hz : ((List.range p.length).map fun j : Nat => rawW (l.es.take 0) p (j : Int)) = List.replicate p.length [] := by
      rw [List.eq_replicate_iff]; simp [rawW]
    rw [hz]
    exact Nest.zeros p.length rfl
  rintro i s h2 ⟨hi, vs, hO, hNs, hE⟩ again
  have hE2 := hEg1.trans hE
  have hvl := hO.cslen
  have hg2 := hO.lt rfl
  by_cases hlt : i < l.es.length
  · obtain ⟨b, off, rfl, hp⟩ := hx.es.open_ (by omega)
    obtain ⟨b3, off3, rfl, hp3⟩ := hpr.open_ (by omega)
    have hem := (hm.es i (by omega) (by omega)).1
    unfold EdgeMay at hem
    generalize hed : ed l.es (i : Int) = e at hem
    -- at 1101231102082
    refine Run.adv 13 [.dec true, .val (.agg #[.int .i64 e.1, .int .i64 e.2.1, .int .i64 e.2.2])] (at_ Tryz.f82 [1,1,0,1,2,3,1,1,0,2,0,8,2]) [(1, .slice (some ⟨b3, off3, none⟩) p.length c3), (5, .slice (some ⟨g, 0, none⟩) p.length p.length), (14, .slice (some ⟨b, off, none⟩) l.es.length c2), (15, .int .i64 (l.es.length : Int)), (16, .int .i64 (i : Int)), (19, .agg #[.int .i64 e.1, .int .i64 e.2.1, .int .i64 e.2.2])]
      ((decide ((i : Int) < (l.es.length : Int))) = true ∧ (0 ≤ (i : Int) ∧ (i : Int) < (l.es.length : Int)) ∧ cellsAt h2 ⟨b, off + (i : Int).toNat * 3, none⟩ [.int .i64 e.1, .int .i64 e.2.1, .int .i64 e.2.2] 0)
      (by as_aux_lemma => kernel_rfl) ⟨(by first | assumption | exact decide_eq_true (by first | omega | assumption)), ⟨by omega, by omega⟩, (by rw [← hed]; exact hp _ hE2 (i : Int) (by omega) (by omega))⟩ fun s_ => ?_
    refine Run.new #[.int .i64 0, .int .i64 0, .int .i64 0] 64 (fun g_ => .pointer (some ⟨g_, 0, none⟩)) (some 7) (at_ Tryz.f82 [1,1,0,1,2,3,1,1,0,2,0,8,3]) (by as_aux_lemma => kernel_rfl) fun g7 h3 hng7 hEg7 hBg7 => ?_
    refine Run.store g7 0 [.int .i64 e.1, .int .i64 e.2.1, .int .i64 e.2.2] (at_ Tryz.f82 [1,1,0,1,2,3,1,1,0,2,0,8,4]) (by as_aux_lemma => kernel_rfl) (hBg7.ext (Ext.refl _)) (by simp) rfl fun h4 hMh4 hzh4 (hBg7_h4 : Blk h4 g7 #[.int .i64 e.1, .int .i64 e.2.1, .int .i64 e.2.2] 64) => ?_
    have hE24 := (hMh4.ext_new hEg7 hng7 (Ext.refl _))
    have hO4 := hO.ext hE24
    have hjx : e.1.toNat < ((List.range p.length).map fun j : Nat => rawW (l.es.take i) p (j : Int)).length := by simp; omega
    obtain ⟨o, hOi, hob, hup⟩ := hNs.open2 hE24 hjx
    obtain ⟨A5, c5, hv5⟩ := hOi.slice
    rw [hv5, mapRange_getD _ _ (by omega)] at hOi
    have hje : ((e.1.toNat : Nat) : Int) = e.1 := by omega
    rw [hje] at hOi
    have hgo : some g ≠ o := fun e => (hob g e.symm).2.1 rfl
    have hg7 : some g7 ≠ o := fun e => by have := (hob g7 e.symm).2.2; omega
    have hrl := rawW_len (l.es.take i) p e.1
    rw [List.length_take] at hrl
    have hhd : vs[e.1.toNat]? = some (.slice A5 (rawW (l.es.take i) p e.1).length c5) := by
      rw [getD_some undef (by omega), hv5, mapRange_getD _ _ (by omega), hje]
    -- at 11012311021
    refine Run.adv 1 [] (at_ Tryz.f82 [1,1,0,1,2,3,1,1,0,2,1]) [(1, .slice (some ⟨b3, off3, none⟩) p.length c3), (5, .slice (some ⟨g, 0, none⟩) p.length p.length), (7, .pointer (some ⟨g7, 0, none⟩)), (14, .slice (some ⟨b, off, none⟩) l.es.length c2), (15, .int .i64 (l.es.length : Int)), (16, .int .i64 (i : Int))]
      (True)
      (by as_aux_lemma => kernel_rfl) trivial fun s_ => ?_
    refine Run.any (opsAt (at_ Tryz.f82 [1,1,0,1,2,3,1,1,0,2,1])) (at_ Tryz.f82 [1,1,0,1,2,3,1,1,0,2,1]).tail (fun H => Mod o h4 H) [0, 1, 2, 3, 4, 5, 6, 7, 8, 9, 10, 11, 12, 13, 14, 15, 18] [0, 1, 2, 3, 4, 5, 6, 7, 8, 9, 10, 11, 12, 13, 14, 15] [.val (.int .i64 e.1), .val (.int .i64 e.1), .val (.slice A5 ((rawW (l.es.take i) p e.1).length) c5), .val (.int .i64 e.2.1), .val (.int .i64 e.2.2), .val (.int .i64 (rd p e.2.2))] #[true, true, true, true, true, true, true, true, true, true, true, true, true, true, true, true, false, false, false, false] [(1, .slice (some ⟨b3, off3, none⟩) p.length c3), (5, .slice (some ⟨g, 0, none⟩) p.length p.length), (7, .pointer (some ⟨g7, 0, none⟩)), (14, .slice (some ⟨b, off, none⟩) l.es.length c2), (15, .int .i64 (l.es.length : Int)), (16, .int .i64 (i : Int)), (20, .slice (some ⟨g, 0, none⟩) p.length p.length), (21, .pointer (some ⟨g7, 0, none⟩)), (22, .int .i64 e.1), (23, .slice (some ⟨g, 0, none⟩) p.length p.length), (24, .pointer (some ⟨g7, 0, none⟩)), (25, .int .i64 e.1), (26, .pointer (some ⟨g, 0 + e.1.toNat, none⟩)), (27, .slice A5 ((rawW (l.es.take i) p e.1).length) c5), (28, .pointer (some ⟨g7, 1, none⟩)), (29, .int .i64 e.2.1), (30, .slice (some ⟨b3, off3, none⟩) p.length c3), (31, .pointer (some ⟨g7, 2, none⟩)), (32, .int .i64 e.2.2), (33, .pointer (some ⟨b3, off3 + e.2.2.toNat, none⟩)), (34, .int .i64 (rd p e.2.2)), (35, .agg #[.int .i64 e.2.1, .int .i64 (rd p e.2.2)])]
      (fun H => cellH H ⟨g7, 0, none⟩ = some (.int .i64 e.1) ∧ cellH H ⟨g7, 0, none⟩ = some (.int .i64 e.1) ∧ (0 ≤ e.1 ∧ e.1 < (p.length : Int)) ∧ cellH H ⟨g, 0 + e.1.toNat, none⟩ = some (.slice A5 ((rawW (l.es.take i) p e.1).length) c5) ∧ cellH H ⟨g7, 1, none⟩ = some (.int .i64 e.2.1) ∧ cellH H ⟨g7, 2, none⟩ = some (.int .i64 e.2.2) ∧ (0 ≤ e.2.2 ∧ e.2.2 < (p.length : Int)) ∧ cellH H ⟨b3, off3 + e.2.2.toNat, none⟩ = some (.int .i64 (rd p e.2.2))) 4 (by as_aux_lemma => kernel_rfl) (by as_aux_lemma => kernel_rfl) ((Ext.refl _).mod _)
      (by as_aux_lemma => kernel_rfl) (fun H hC => ⟨((hC.blk (hBg7_h4.ext (Ext.refl _)) hg7).at (Ext.refl _) 0 rfl), ((hC.blk (hBg7_h4.ext (Ext.refl _)) hg7).at (Ext.refl _) 0 rfl), ⟨by omega, by omega⟩, ((hO4.mod hC (.inr hgo)).cell (by rw [Nat.zero_add]; exact hhd)), ((hC.blk (hBg7_h4.ext (Ext.refl _)) hg7).at (Ext.refl _) 1 rfl), ((hC.blk (hBg7_h4.ext (Ext.refl _)) hg7).at (Ext.refl _) 2 rfl), ⟨by omega, by omega⟩, (hp3 _ (hC.ext (hMh4.ext_new (hE2.trans hEg7) hng7 hE2) (by exact fun g' e' => by have := (hob g' e').1; have := hEg1.size; omega)) e.2.2 (by omega) (by omega))⟩) fun s_ => ?_
    refine RunA.new 3 #[.int .i64 e.2.1, .int .i64 (rd p e.2.2)] 158 (fun g_ => .slice (some ⟨g_, 0, none⟩) 1 1) (some 36) false #[true, true, true, true, true, true, true, true, true, true, true, true, true, true, true, true, true, false, false, false] (by as_aux_lemma => kernel_rfl) fun g8 h5 hng8 hEg8 hBg8 => ⟨fun _ => (((Ext.refl _).mod _).trans (hEg8.mod _)), ?_⟩
    refine RunA.append 2 (.slice A5 ((rawW (l.es.take i) p e.1).length) c5) (.slice (some ⟨g8, 0, none⟩) 1 1) 158 (some 37) false #[true, true, true, true, true, true, true, true, true, true, true, true, true, true, true, true, true, true, false, false] 2 16 (by as_aux_lemma => kernel_rfl) (by as_aux_lemma => kernel_rfl) (by decide) (hOi.ext hEg8) (Src.row (hBg8.all (Ext.refl _)) rfl) (by rfl) rfl (by omega) fun A6 c6 h6 og6 hOA6 hMh6 hgA6 => ⟨fun _ => ((((Ext.refl _).mod _).trans (hEg8.mod _)).trans hMh6), ?_⟩
    refine RunA.adv [18] [] #[true, true, true, true, true, true, true, true, true, true, true, true, true, true, true, true, true, true, true, false] [(1, .slice (some ⟨b3, off3, none⟩) p.length c3), (5, .slice (some ⟨g, 0, none⟩) p.length p.length), (7, .pointer (some ⟨g7, 0, none⟩)), (14, .slice (some ⟨b, off, none⟩) l.es.length c2), (15, .int .i64 (l.es.length : Int)), (16, .int .i64 (i : Int)), (20, .slice (some ⟨g, 0, none⟩) p.length p.length), (21, .pointer (some ⟨g7, 0, none⟩)), (22, .int .i64 e.1), (23, .slice (some ⟨g, 0, none⟩) p.length p.length), (24, .pointer (some ⟨g7, 0, none⟩)), (25, .int .i64 e.1), (26, .pointer (some ⟨g, 0 + e.1.toNat, none⟩)), (27, .slice A5 ((rawW (l.es.take i) p e.1).length) c5), (28, .pointer (some ⟨g7, 1, none⟩)), (29, .int .i64 e.2.1), (30, .slice (some ⟨b3, off3, none⟩) p.length c3), (31, .pointer (some ⟨g7, 2, none⟩)), (32, .int .i64 e.2.2), (33, .pointer (some ⟨b3, off3 + e.2.2.toNat, none⟩)), (34, .int .i64 (rd p e.2.2)), (35, .agg #[.int .i64 e.2.1, .int .i64 (rd p e.2.2)]), (36, .slice (some ⟨g8, 0, none⟩) 1 1), (37, .slice A6 (((rawW (l.es.take i) p e.1).length) + 1) c6), (38, .pointer (some ⟨g, 0 + e.1.toNat, none⟩))]
      (fun H => (0 ≤ e.1 ∧ e.1 < (p.length : Int))) 1 (by as_aux_lemma => kernel_rfl) ((((Ext.refl _).mod _).trans (hEg8.mod _)).trans hMh6)
      (by as_aux_lemma => kernel_rfl) (fun H hC => ⟨by omega, by omega⟩) fun s_ => ?_
    have hO6 := (hO4.ext hEg8).mod hMh6 (.inr hgo)
    refine RunA.storeOwn 0 g (0 + e.1.toNat) [.slice A6 (((rawW (l.es.take i) p e.1).length) + 1) c6] true #[true, true, true, true, true, true, true, true, true, true, true, true, true, true, true, true, true, true, true, true] (by as_aux_lemma => kernel_rfl) hO6 (by (simp; omega)) rfl fun h7 hMh7 hzh7 hOh7 => ⟨(fun e => by cases e), ?_⟩
    refine RunA.done [(1, .slice (some ⟨b3, off3, none⟩) p.length c3), (5, .slice (some ⟨g, 0, none⟩) p.length p.length), (7, .pointer (some ⟨g7, 0, none⟩)), (14, .slice (some ⟨b, off, none⟩) l.es.length c2), (15, .int .i64 (l.es.length : Int)), (16, .int .i64 (i : Int)), (20, .slice (some ⟨g, 0, none⟩) p.length p.length), (21, .pointer (some ⟨g7, 0, none⟩)), (22, .int .i64 e.1), (23, .slice (some ⟨g, 0, none⟩) p.length p.length), (24, .pointer (some ⟨g7, 0, none⟩)), (25, .int .i64 e.1), (26, .pointer (some ⟨g, 0 + e.1.toNat, none⟩)), (27, .slice A5 ((rawW (l.es.take i) p e.1).length) c5), (28, .pointer (some ⟨g7, 1, none⟩)), (29, .int .i64 e.2.1), (30, .slice (some ⟨b3, off3, none⟩) p.length c3), (31, .pointer (some ⟨g7, 2, none⟩)), (32, .int .i64 e.2.2), (33, .pointer (some ⟨b3, off3 + e.2.2.toNat, none⟩)), (34, .int .i64 (rd p e.2.2)), (35, .agg #[.int .i64 e.2.1, .int .i64 (rd p e.2.2)]), (36, .slice (some ⟨g8, 0, none⟩) 1 1), (37, .slice A6 (((rawW (l.es.take i) p e.1).length) + 1) c6), (38, .pointer (some ⟨g, 0 + e.1.toNat, none⟩))] (by as_aux_lemma => kernel_rfl) (by as_aux_lemma => kernel_rfl) fun s_ => ?_
    -- at 110127
    refine Run.adv 5 [] (at_ Tryz.f82 [1,1,0,1,2,7]) [(1, .slice (some ⟨b3, off3, none⟩) p.length c3), (5, .slice (some ⟨g, 0, none⟩) p.length p.length), (14, .slice (some ⟨b, off, none⟩) l.es.length c2), (15, .int .i64 (l.es.length : Int)), (16, .int .i64 ((i + 1 : Nat) : Int))]
      ((-9223372036854775808 ≤ (i : Int) + 1 ∧ (i : Int) + 1 ≤ 9223372036854775807))
      (by as_aux_lemma => kernel_rfl) ⟨by omega, by omega⟩ fun s_ => ?_
    have hEo : Ext h1 h6 := hMh6.ext ((hE.trans hE24).trans hEg8) (fun g' e' => (hob g' e').1)
    refine again (i + 1) _ _ ⟨hlt, _, hOh7, ?_, hMh7.ext hEo (fun g' e' => by cases e'; omega)⟩ (by omega)
    have N6 := (hup h6 (.slice A6 ((rawW (l.es.take i) p e.1).length + 1) c6) (rawW (l.es.take i) p e.1 ++ [(e.2.1, rd p e.2.2)]) og6 (by simpa [encW, List.flatMap_append] using hOA6) ((hEg8.mod _).trans hMh6) (by
      rcases hgA6 with e' | e'
      · exact .inl e'
      · have := hE24.size; have := hEg8.size; have := hE.size
        exact .inr ⟨_, e', by omega, by omega, fun e2 => by cases e2; omega⟩)).modo hMh7
    rw [mapRange_set] at N6
    have hf : (fun k : Nat => if k = e.1.toNat then rawW (l.es.take i) p e.1 ++ [(e.2.1, rd p e.2.2)] else rawW (l.es.take i) p (k : Int)) = fun k : Nat => rawW (l.es.take (i + 1)) p (k : Int) := by
      funext k
      rw [take_ed' l.es i hlt, hed, rawW_snoc]
      by_cases hk : k = e.1.toNat
      · subst hk; rw [if_pos rfl, if_pos hje.symm, hje]
      · rw [if_neg hk, if_neg (by omega)]
    rw [hf] at N6
    simpa [setL] using N6
  · have hie : i = l.es.length := by omega
    rw [hie, List.take_length] at hNs
    -- at 111012
    refine Run.adv 15 [.dec false] (at_ Tryz.f82 [1,1,1,0,1,2]) [(5, .slice (some ⟨g, 0, none⟩) p.length p.length), (40, .slice (some ⟨g, 0, none⟩) p.length p.length), (41, .int .i64 (p.length : Int)), (42, .int .i64 0)]
      ((decide ((i : Int) < (l.es.length : Int))) = false)
      (by as_aux_lemma => kernel_rfl) (by first | assumption | exact decide_eq_false (by first | omega | assumption)) fun s_ => ?_
    refine Run.loop (at_ Tryz.f82 [1,1,1,0,1,2,3]) (at_ Tryz.f82 [1,1,1,0,1,2,7]) (fun k : Nat => [(5, .slice (some ⟨g, 0, none⟩) p.length p.length), (40, .slice (some ⟨g, 0, none⟩) p.length p.length), (41, .int .i64 (p.length : Int)), (42, .int .i64 (k : Int))])
      (fun k h3 => k ≤ p.length ∧ ∃ vs, Own h3 130 1 (.slice (some ⟨g, 0, none⟩) p.length p.length) p.length vs (some g) ∧ Nest h3 158 2 (fun ws : List Wy => ws.flatMap encW) h1.size (some g) vs ((List.range p.length).map fun j : Nat => if j < k then waysOf l.es p (j : Int) else rawW l.es p (j : Int)) ∧ Ext h1 h3) (fun k => p.length - k) 0 (by as_aux_lemma => kernel_rfl) rfl ?_ ?_
    · exact ⟨Nat.zero_le _, vs, hO, by simpa using hNs, hE⟩
    rintro k s h3 ⟨hk, vs3, hO3, hN3, hE3⟩ again2
    have hvl3 := hO3.cslen
    have hg3 := hO3.lt rfl
    by_cases hlt2 : k < p.length
    · obtain ⟨o, hOi, hob, hup⟩ := hN3.open_ (j := k) (by simpa using hlt2)
      obtain ⟨A5, c5, hv5⟩ := hOi.slice
      rw [hv5, mapRange_getD _ _ hlt2, if_neg (Nat.lt_irrefl k)] at hOi
      have hgo : some g ≠ o := fun e => (hob g e.symm).2.1 rfl
      have hrl := rawW_len l.es p (k : Int)
      have hhd : vs3[k]? = some (.slice A5 (rawW l.es p (k : Int)).length c5) := by
        rw [getD_some undef (by omega), hv5, mapRange_getD _ _ hlt2, if_neg (Nat.lt_irrefl k)]
      -- at 111012311021081
      refine Run.adv 20 [.dec true, .val (.slice A5 ((rawW l.es p (k : Int)).length) c5)] (at_ Tryz.f82 [1,1,1,0,1,2,3,1,1,0,2,1,0,8,1]) [(5, .slice (some ⟨g, 0, none⟩) p.length p.length), (8, .int .i64 (k : Int)), (9, .slice A5 ((rawW l.es p (k : Int)).length) c5), (40, .slice (some ⟨g, 0, none⟩) p.length p.length), (41, .int .i64 (p.length : Int)), (42, .int .i64 (k : Int)), (47, .slice A5 ((rawW l.es p (k : Int)).length) c5)]
        ((decide ((k : Int) < (p.length : Int))) = true ∧ (0 ≤ (k : Int) ∧ (k : Int) < (p.length : Int)) ∧ cellH h3 ⟨g, 0 + (k : Int).toNat, none⟩ = some (.slice A5 ((rawW l.es p (k : Int)).length) c5))
        (by as_aux_lemma => kernel_rfl) ⟨(by first | assumption | exact decide_eq_true (by first | omega | assumption)), ⟨by omega, by omega⟩, (hO3.cell (by simpa using hhd))⟩ fun s_ => ?_
      refine Run.call 107 #[.slice A5 ((rawW l.es p (k : Int)).length) c5, .func (.func 108) #[] #[]] (some 48) (at_ Tryz.f82 [1,1,1,0,1,2,3,1,1,0,2,1,0,8,2]) (by as_aux_lemma => kernel_rfl) (sortA_ct _ _ _ _ hOi (by omega)) ?_
      rintro v h4 ⟨rfl, hO4, hM4⟩
      have hO3' := hO3.mod hM4 (.inr hgo)
      -- at 111012311021183
      refine Run.adv 5 [] (at_ Tryz.f82 [1,1,1,0,1,2,3,1,1,0,2,1,1,8,3]) [(5, .slice (some ⟨g, 0, none⟩) p.length p.length), (8, .int .i64 (k : Int)), (9, .slice A5 ((rawW l.es p (k : Int)).length) c5), (40, .slice (some ⟨g, 0, none⟩) p.length p.length), (41, .int .i64 (p.length : Int)), (42, .int .i64 (k : Int)), (49, .slice (some ⟨g, 0, none⟩) p.length p.length), (50, .int .i64 (k : Int)), (51, .slice A5 ((rawW l.es p (k : Int)).length) c5)]
        (True)
        (by as_aux_lemma => kernel_rfl) trivial fun s_ => ?_
      have hsl := srtW_len (rawW l.es p (k : Int))
      refine Run.call 109 #[.slice A5 ((rawW l.es p (k : Int)).length) c5] (some 52) (at_ Tryz.f82 [1,1,1,0,1,2,3,1,1,0,2,1,1,8,4]) (by as_aux_lemma => kernel_rfl) (compactW_ct _ o (srtW (rawW l.es p (k : Int))) _ (hsl.symm ▸ hO4) (by omega)) ?_
      rintro v h5 ⟨hO5, hM5⟩
      obtain ⟨A6, c6, rfl⟩ := hO5.slice
      have hO3'' := hO3'.mod hM5 (.inr hgo)
      -- at 111012311021185
      refine Run.adv 1 [] (at_ Tryz.f82 [1,1,1,0,1,2,3,1,1,0,2,1,1,8,5]) [(5, .slice (some ⟨g, 0, none⟩) p.length p.length), (40, .slice (some ⟨g, 0, none⟩) p.length p.length), (41, .int .i64 (p.length : Int)), (42, .int .i64 (k : Int)), (52, .slice A6 ((compL (srtW (rawW l.es p (k : Int)))).length) c6), (53, .pointer (some ⟨g, 0 + (k : Int).toNat, none⟩))]
        ((0 ≤ (k : Int) ∧ (k : Int) < (p.length : Int)))
        (by as_aux_lemma => kernel_rfl) ⟨by omega, by omega⟩ fun s_ => ?_
      refine Run.storeOwn g (0 + (k : Int).toNat) [.slice A6 ((compL (srtW (rawW l.es p (k : Int)))).length) c6] (at_ Tryz.f82 [1,1,1,0,1,2,3,1,1,0,2,1,1,8,6]) (by as_aux_lemma => kernel_rfl) hO3'' (by (simp; omega)) rfl fun h6 hMh6 hzh6 hOh6 => ?_
      -- at 1110127
      refine Run.adv 6 [] (at_ Tryz.f82 [1,1,1,0,1,2,7]) [(5, .slice (some ⟨g, 0, none⟩) p.length p.length), (40, .slice (some ⟨g, 0, none⟩) p.length p.length), (41, .int .i64 (p.length : Int)), (42, .int .i64 ((k + 1 : Nat) : Int))]
        ((-9223372036854775808 ≤ (k : Int) + 1 ∧ (k : Int) + 1 ≤ 9223372036854775807))
        (by as_aux_lemma => kernel_rfl) ⟨by omega, by omega⟩ fun s_ => ?_
      have hM35 := hM4.trans hM5
      have hE5 : Ext h1 h5 := hM35.ext hE3 (fun g' e' => (hob g' e').1)
      refine again2 (k + 1) _ _ ⟨hlt2, _, hOh6, ?_, hMh6.ext hE5 (fun g' e' => by cases e'; omega)⟩ (by omega)
      have N6 := (hup h5 (.slice A6 (compL (srtW (rawW l.es p (k : Int)))).length c6) (waysOf l.es p (k : Int)) o hO5 hM35 (.inl rfl)).modo hMh6
      rw [mapRange_set] at N6
      have hf : (fun j : Nat => if j = k then waysOf l.es p (k : Int) else if j < k then waysOf l.es p (j : Int) else rawW l.es p (j : Int)) = fun j : Nat => if j < k + 1 then waysOf l.es p (j : Int) else rawW l.es p (j : Int) := by
        funext j
        by_cases hj : j = k
        · subst hj; rw [if_pos rfl, if_pos (Nat.lt_succ_self j)]
        · rw [if_neg hj]
          by_cases hj2 : j < k
          · rw [if_pos hj2, if_pos (by omega)]
          · rw [if_neg hj2, if_neg (by omega)]
      rw [hf] at N6
      simpa [setL] using N6
    · have hke : k = p.length := by omega
      rw [hke] at hN3
      -- at 11111
      refine Run.adv 12 [.dec false] (at_ Tryz.f82 [1,1,1,1,1]) [(4, .slice (some ⟨g, 0, none⟩) p.length p.length)]
        ((decide ((k : Int) < (p.length : Int))) = false)
        (by as_aux_lemma => kernel_rfl) (by first | assumption | exact decide_eq_false (by first | omega | assumption)) fun s_ => ?_
      refine Run.ret [] (.slice (some ⟨g, 0, none⟩) p.length p.length) (True) Tryz.func82 (by as_aux_lemma => kernel_rfl) (by as_aux_lemma => kernel_rfl) trivial ?_
      have hf : ((List.range p.length).map fun j : Nat => if j < p.length then waysOf l.es p (j : Int) else rawW l.es p (j : Int)) = (List.range p.length).map fun j : Nat => waysOf l.es p (j : Int) :=
        List.map_congr_left fun j hj => by rw [if_pos (List.mem_range.1 hj)]
      rw [hf] at hN3
      obtain ⟨ogs, n1, n2, n3, n4⟩ := hN3
      have := hEg1.size
      exact ⟨g, vs3, hO3, ⟨ogs, n1, n2, n3, fun j g' e' => ⟨by have := (n4 j g' e').1; omega, (n4 j g' e').2⟩⟩, hEg1.trans hE3, by omega⟩
end Go.Proofs.YtbajgbkkbabmlaaGreatDoor
