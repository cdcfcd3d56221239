/- bisim.Greatest, walked. -/
import Derived.Test.YtbajgbkkbabmlaaGreatDoorProg
import Derived.Test.YtbajgbkkbabmlaaGreatDoorO17
set_option linter.unusedVariables false
namespace Go.Proofs.YtbajgbkkbabmlaaGreatDoor
open Go.Vc

theorem allP_nodup (n : Nat) : ∀ i, (allP n i).Nodup
  | 0 => by simp [allP]
  | i + 1 => by
    rw [allP_snoc, List.nodup_append]
    refine ⟨allP_nodup n i, ?_, fun a ha b hb e => ?_⟩
    · unfold rowP
      rw [List.nodup_iff_pairwise_ne, List.pairwise_map]
      exact (List.nodup_range (n := n)).imp fun {a b} hab e => hab (by simp only [Prod.mk.injEq] at e; omega)
    · have h1 := mem_allP.1 ha
      unfold rowP at hb
      obtain ⟨t, _, rfl⟩ := List.mem_map.1 hb
      rw [e] at h1
      simp only at h1
      omega
set_option maxHeartbeats 4000000 in
theorem Greatest_ct (A1 A2 : Option Addr) (c1 c2 n m0 : Nat) (l : Lt) (h : Heap) (hx : LtAt h l A1 c1 A2 c2) (hm : May l) (hn : l.n = (n : Int)) (hS : Stop l.es n m0) :
    Ct Tryz.prog 62 #[.agg #[.int .i64 l.n, .slice A1 l.ls.length c1, .slice A2 l.es.length c2]] h
      (fun v h' => ∃ A c ws, v = .tuple #[.slice A ws.length c, .int .i64 0] ∧ Wys h' A ws c ∧ ws.length ≤ 1000000000 ∧ (∀ k, k ∈ ws ↔ Tog l n m0 k) ∧ Ext h h') := by
  have hlen := hm.len
  have hn1 := hm.n1
  have hn2 := hm.n2
  refine Ct.enter (args := [.agg #[.int .i64 l.n, .slice A1 l.ls.length c1, .slice A2 l.es.length c2]]) Tryz.func62 rfl Tryz.ntmps62 (by simp) fun w hw => ?_
  -- at 080
  refine Run.adv 2 [] (at_ Tryz.f62 [0,8,0]) [(0, .agg #[.int .i64 l.n, .slice A1 l.ls.length c1, .slice A2 l.es.length c2])]
    (True)
    (by as_aux_lemma => kernel_rfl) trivial fun s_ => ?_
  refine Run.new #[.int .i64 l.n, .slice A1 l.ls.length c1, .slice A2 l.es.length c2] 25 (fun g_ => .pointer (some ⟨g_, 0, none⟩)) (some 1) (at_ Tryz.f62 [0,8,1]) (by as_aux_lemma => kernel_rfl) fun g1 h1 hng1 hEg1 hBg1 => ?_
  -- at 10081
  refine Run.adv 7 [.val (.agg #[.int .i64 l.n, .slice A1 l.ls.length c1, .slice A2 l.es.length c2])] (at_ Tryz.f62 [1,0,0,8,1]) [(0, .agg #[.int .i64 l.n, .slice A1 l.ls.length c1, .slice A2 l.es.length c2]), (1, .pointer (some ⟨g1, 0, none⟩)), (2, .slice none 0 0), (3, .int .i64 0), (13, .agg #[.int .i64 l.n, .slice A1 l.ls.length c1, .slice A2 l.es.length c2])]
    (cellsAt h1 ⟨g1, 0, none⟩ [.int .i64 l.n, .slice A1 l.ls.length c1, .slice A2 l.es.length c2] 0)
    (by as_aux_lemma => kernel_rfl) (hBg1.all (Ext.refl _)) fun s_ => ?_
  refine Run.call 73 #[.agg #[.int .i64 l.n, .slice A1 l.ls.length c1, .slice A2 l.es.length c2]] (some 14) (at_ Tryz.f62 [1,0,0,8,2]) (by as_aux_lemma => kernel_rfl) (CheckM_ct A1 A2 c1 c2 l _ (hx.ext hEg1) (by have := hm.ls.1; omega)) ?_
  rintro _ h2 ⟨rfl, hE2⟩
  rw [errB_yes hm]
  have hE02 := hEg1.trans hE2
  -- at 111012
  refine Run.adv 21 [.lit, .val (.int .i64 l.n)] (at_ Tryz.f62 [1,1,1,0,1,2]) [(1, .pointer (some ⟨g1, 0, none⟩)), (5, .slice none 0 0), (19, .int .i64 l.n), (20, .int .i64 0)]
    (cellH h2 ⟨g1, 0, none⟩ = some (.int .i64 l.n))
    (by as_aux_lemma => kernel_rfl) (hBg1.at hE2 0 rfl) fun s_ => ?_
  rw [show Value.int .i64 l.n = .int .i64 (n : Int) by rw [hn]]
  refine Run.loop (at_ Tryz.f62 [1,1,1,0,1,2,3]) (at_ Tryz.f62 [1,1,1,0,1,2,7]) (fun (⟨i, A4, c4⟩ : Nat × Option Addr × Nat) => [(1, .pointer (some ⟨g1, 0, none⟩)), (5, .slice A4 ((allP n i).length) c4), (19, .int .i64 (n : Int)), (20, .int .i64 (i : Int))])
    (fun ⟨i, A4, c4⟩ h3 => i ≤ n ∧ ∃ og, Own h3 41 2 (.slice A4 (allP n i).length c4) (allP n i).length ((allP n i).flatMap encW) og ∧ Ext h2 h3 ∧ ∀ g', og = some g' → h2.size ≤ g') (fun ⟨i, A4, c4⟩ => n - i) (0, none, 0) (by as_aux_lemma => kernel_rfl) rfl ?_ ?_
  · exact ⟨Nat.zero_le _, none, Own.nil _ _ _, Ext.refl _, by simp⟩
  rintro ⟨i, A4, c4⟩ s_ h3 ⟨hi, og, hO, hE, hg⟩ again
  simp only at hi hO hE hg again
  dsimp only
  have hal := allP_len n i
  have hsq : i * n ≤ 2048 * 2048 := Nat.mul_le_mul (by omega) (by omega)
  have hE13 := hE2.trans hE
  have hE03 := hE02.trans hE
  by_cases hlt : i < n
  · -- at 11101231102112
    refine Run.adv 21 [.dec true, .val (.int .i64 l.n)] (at_ Tryz.f62 [1,1,1,0,1,2,3,1,1,0,2,1,1,2]) [(1, .pointer (some ⟨g1, 0, none⟩)), (5, .slice A4 ((allP n i).length) c4), (6, .int .i64 (i : Int)), (19, .int .i64 (n : Int)), (20, .int .i64 (i : Int)), (24, .int .i64 l.n), (25, .int .i64 0)]
      ((decide ((i : Int) < (n : Int))) = true ∧ cellH h3 ⟨g1, 0, none⟩ = some (.int .i64 l.n))
      (by as_aux_lemma => kernel_rfl) ⟨(by first | assumption | exact decide_eq_true (by first | omega | assumption)), (hBg1.at hE13 0 rfl)⟩ fun s_ => ?_
    rw [show Value.int .i64 l.n = .int .i64 (n : Int) by rw [hn]]
    refine Run.loop (at_ Tryz.f62 [1,1,1,0,1,2,3,1,1,0,2,1,1,2,3]) (at_ Tryz.f62 [1,1,1,0,1,2,3,1,1,0,2,1,1,2,7]) (fun (⟨j, A5, c5⟩ : Nat × Option Addr × Nat) => [(1, .pointer (some ⟨g1, 0, none⟩)), (5, .slice A5 ((allP n i).length + j) c5), (6, .int .i64 (i : Int)), (19, .int .i64 (n : Int)), (20, .int .i64 (i : Int)), (24, .int .i64 (n : Int)), (25, .int .i64 (j : Int))])
      (fun ⟨j, A5, c5⟩ h4 => j ≤ n ∧ ∃ og, Own h4 41 2 (.slice A5 ((allP n i).length + j) c5) ((allP n i).length + j) ((allP n i ++ rowP j i).flatMap encW) og ∧ Ext h2 h4 ∧ ∀ g', og = some g' → h2.size ≤ g') (fun ⟨j, A5, c5⟩ => n - j) (0, A4, c4) (by as_aux_lemma => kernel_rfl) rfl ?_ ?_
    · exact ⟨Nat.zero_le _, og, by simpa [rowP] using hO, hE, hg⟩
    rintro ⟨j, A5, c5⟩ s_ h4 ⟨hj, og5, hO5, hE4, hg5⟩ again2
    simp only at hj hO5 hE4 hg5 again2
    dsimp only
    by_cases hlt2 : j < n
    · -- at 1110123110211231102184
      refine Run.adv 19 [.dec true] (at_ Tryz.f62 [1,1,1,0,1,2,3,1,1,0,2,1,1,2,3,1,1,0,2,1,8,4]) [(1, .pointer (some ⟨g1, 0, none⟩)), (5, .slice A5 ((allP n i).length + j) c5), (6, .int .i64 (i : Int)), (7, .int .i64 (j : Int)), (19, .int .i64 (n : Int)), (20, .int .i64 (i : Int)), (24, .int .i64 (n : Int)), (25, .int .i64 (j : Int)), (28, .slice A5 ((allP n i).length + j) c5), (31, .agg #[.int .i64 (i : Int), .int .i64 (j : Int)])]
        ((decide ((j : Int) < (n : Int))) = true)
        (by as_aux_lemma => kernel_rfl) (by first | assumption | exact decide_eq_true (by first | omega | assumption)) fun s_ => ?_
      refine Run.new #[.int .i64 (i : Int), .int .i64 (j : Int)] 41 (fun g_ => .slice (some ⟨g_, 0, none⟩) 1 1) (some 32) (at_ Tryz.f62 [1,1,1,0,1,2,3,1,1,0,2,1,1,2,3,1,1,0,2,1,8,5]) (by as_aux_lemma => kernel_rfl) fun g3 h5 hng3 hEg3 hBg3 => ?_
      refine Run.append (.slice A5 ((allP n i).length + j) c5) (.slice (some ⟨g3, 0, none⟩) 1 1) 41 (some 33) (at_ Tryz.f62 [1,1,1,0,1,2,3,1,1,0,2,1,1,2,3,1,1,0,2,1,8,6]) 2 16 (by as_aux_lemma => kernel_rfl) (by as_aux_lemma => kernel_rfl) (by decide) (hO5.ext hEg3) (Src.row (hBg3.all (Ext.refl _)) rfl) (by rfl) rfl (by omega) fun A6 c6 h6 og6 hOA6 hMh6 hgA6 => ?_
      have hEh2_h6 := hMh6.ext (hE4.trans hEg3) (by exact hg5)
      -- at 111012311021127
      refine Run.adv 7 [] (at_ Tryz.f62 [1,1,1,0,1,2,3,1,1,0,2,1,1,2,7]) [(1, .pointer (some ⟨g1, 0, none⟩)), (5, .slice A6 (((allP n i).length + j) + 1) c6), (6, .int .i64 (i : Int)), (19, .int .i64 (n : Int)), (20, .int .i64 (i : Int)), (24, .int .i64 (n : Int)), (25, .int .i64 ((j + 1 : Nat) : Int))]
        ((-9223372036854775808 ≤ (j : Int) + 1 ∧ (j : Int) + 1 ≤ 9223372036854775807))
        (by as_aux_lemma => kernel_rfl) ⟨by omega, by omega⟩ fun s_ => ?_
      refine again2 (j + 1, A6, c6) _ _ ⟨by simp only; omega, og6, ?_, hEh2_h6, fun g' e => ?_⟩ (by simp only; omega)
      · simp only; rw [rowP_snoc, ← List.append_assoc, List.flatMap_append]; exact hOA6
      · have := hE4.size
        have := hEg3.size
        rcases hgA6 with rfl | rfl
        · exact hg5 g' e
        · cases e; omega
    · have hje : j = n := by omega
      -- at 1110127
      refine Run.adv 12 [.dec false] (at_ Tryz.f62 [1,1,1,0,1,2,7]) [(1, .pointer (some ⟨g1, 0, none⟩)), (5, .slice A5 ((allP n i).length + j) c5), (19, .int .i64 (n : Int)), (20, .int .i64 ((i + 1 : Nat) : Int))]
        ((decide ((j : Int) < (n : Int))) = false ∧ (-9223372036854775808 ≤ (i : Int) + 1 ∧ (i : Int) + 1 ≤ 9223372036854775807))
        (by as_aux_lemma => kernel_rfl) ⟨(by first | assumption | exact decide_eq_false (by first | omega | assumption)), ⟨by omega, by omega⟩⟩ fun s_ => ?_
      have hlen2 : (allP n i).length + j = (allP n (i + 1)).length := by rw [allP_len, allP_len, hje, Nat.succ_mul]
      rw [hlen2] at hO5 ⊢
      rw [hje, ← allP_snoc] at hO5
      exact again (i + 1, A5, c5) _ _ ⟨by simp only; omega, og5, hO5, hE4, hg5⟩ (by simp only; omega)
  · have hie : i = n := by omega
    rw [hie] at hO ⊢
    have hal2 := allP_len n n
    have hsq2 : n * n ≤ 2048 * 2048 := Nat.mul_le_mul (by omega) (by omega)
    have hO' := hO
    obtain ⟨A5, c5, hv5, hw5⟩ := hO'.rowK (d := (0, 0)) encW_len (by omega)
    injection hv5 with e1 e2 e3
    subst e1 e3
    -- at 1111082
    refine Run.adv 11 [.dec false, .val (.agg #[.int .i64 l.n, .slice A1 l.ls.length c1, .slice A2 l.es.length c2])] (at_ Tryz.f62 [1,1,1,1,0,8,2]) [(5, .slice A4 ((allP n n).length) c4), (37, .agg #[.int .i64 l.n, .slice A1 l.ls.length c1, .slice A2 l.es.length c2]), (38, .slice A4 ((allP n n).length) c4)]
      ((decide ((n : Int) < (n : Int))) = false ∧ cellsAt h3 ⟨g1, 0, none⟩ [.int .i64 l.n, .slice A1 l.ls.length c1, .slice A2 l.es.length c2] 0)
      (by as_aux_lemma => kernel_rfl) ⟨(by first | assumption | exact decide_eq_false (by first | omega | assumption)), (hBg1.all hE13)⟩ fun s_ => ?_
    refine Run.call 87 #[.agg #[.int .i64 l.n, .slice A1 l.ls.length c1, .slice A2 l.es.length c2], .slice A4 ((allP n n).length) c4] (some 39) (at_ Tryz.f62 [1,1,1,1,0,8,3]) (by as_aux_lemma => kernel_rfl) (openB_ct A1 A2 A4 c1 c2 c4 n l (allP n n) _ (hx.ext hE03) hw5 hm hn (fun w hw => by have := mem_allP.1 hw; omega) (by omega)) ?_
    rintro v h5 ⟨g, g5, r, B, vs, ess, m, rfl, T, hkeys, hg5, hE5⟩
    -- at 111112
    refine Run.adv 7 [] (at_ Tryz.f62 [1,1,1,1,1,2]) [(5, .slice A4 ((allP n n).length) c4), (8, .pointer (some ⟨g, 0, none⟩))]
      (True)
      (by as_aux_lemma => kernel_rfl) trivial fun s_ => ?_
    have hE05 := hE03.trans hE5
    have hgn : ∀ x, og = some x → x < h3.size := fun x e => hO.lt e
    have hlts := T.lts
    have hsz03 := hE03.size
    refine Run.loop (at_ Tryz.f62 [1,1,1,1,1,2,3]) (at_ Tryz.f62 [1,1,1,1,1,2,7]) (fun (⟨rs, A6, c6⟩ : List Wy × Option Addr × Nat) => [(5, .slice A6 rs.length c6), (8, .pointer (some ⟨g, 0, none⟩))])
      (fun ⟨rs, A6, c6⟩ h6 => (∃ m og, Tbl h6 g g5 r l n B vs ess m ∧ Own h6 41 2 (.slice A6 rs.length c6) rs.length (rs.flatMap encW) og ∧ og ≠ some r ∧ (∀ k, InM m k ↔ k ∈ rs)) ∧ rs.Nodup ∧ (∀ k, Tog l n m0 k → k ∈ rs) ∧ (∀ k ∈ rs, 0 ≤ k.1 ∧ k.1 < n ∧ 0 ≤ k.2 ∧ k.2 < n) ∧ rs.length ≤ 1000000000 ∧ Ext h h6) (fun ⟨rs, A6, c6⟩ => rs.length) (allP n n, A4, c4) (by as_aux_lemma => kernel_rfl) rfl ?_ ?_
    · exact ⟨⟨m, og, T, hO.ext hE5, fun e => by have := hgn r e; omega, hkeys⟩, allP_nodup n n, fun k hk => mem_allP.2 ⟨hk.1, hk.2.1, hk.2.2.1, hk.2.2.2.1⟩, fun k hk => by have := mem_allP.1 hk; omega, by omega, hE05⟩
    rintro ⟨rs, A6, c6⟩ s_ h6 ⟨⟨M, og6, T6, hO6, hogr, hkM⟩, hnd, htog, hrg, hrl, hE06⟩ againR
    simp only at T6 hO6 hkM hnd htog hrg hrl hE06 againR
    dsimp only
    -- at 111112321012
    refine Run.adv 13 [] (at_ Tryz.f62 [1,1,1,1,1,2,3,2,1,0,1,2]) [(5, .slice A6 rs.length c6), (8, .pointer (some ⟨g, 0, none⟩)), (10, .slice none 0 0), (42, .slice A6 rs.length c6), (43, .int .i64 (rs.length : Int)), (44, .int .i64 0)]
      (True)
      (by as_aux_lemma => kernel_rfl) trivial fun s_ => ?_
    refine Run.loop (at_ Tryz.f62 [1,1,1,1,1,2,3,2,1,0,1,2,3]) (at_ Tryz.f62 [1,1,1,1,1,2,3,2,1,0,1,2,7]) (fun (⟨i, ks, A7, c7⟩ : Nat × List Wy × Option Addr × Nat) => [(5, .slice A6 rs.length c6), (8, .pointer (some ⟨g, 0, none⟩)), (10, .slice A7 ks.length c7), (42, .slice A6 rs.length c6), (43, .int .i64 (rs.length : Int)), (44, .int .i64 (i : Int))])
      (fun ⟨i, ks, A7, c7⟩ h7 => i ≤ rs.length ∧ ∃ m og7, MapAt h7 r encP (Value.int .i64) m ∧ ((∀ x ∈ m, x.2 = 1) ∧ (m.map Prod.fst).Nodup) ∧ Mod (some r) h6 h7 ∧ Own h7 41 2 (.slice A7 ks.length c7) ks.length (ks.flatMap encW) og7 ∧ (∀ x, og7 = some x → h6.size ≤ x) ∧ (∀ k, InM m k ↔ k ∈ ks ∨ k ∈ rs.drop i) ∧ ks.Sublist (rs.take i) ∧ (∀ k, Tog l n m0 k → InM m k) ∧ (ks.length = i → m = M ∧ ∀ j : Nat, j < i → FollP l M false (wd rs j).1 (wd rs j).2 ∧ FollP l M true (wd rs j).2 (wd rs j).1) ∧ Ext h h7 ∧ h6.size ≤ h7.size) (fun ⟨i, ks, A7, c7⟩ => rs.length - i) (0, [], none, 0) (by as_aux_lemma => kernel_rfl) rfl ?_ ?_
    · exact ⟨Nat.zero_le _, M, none, T6.map, ⟨T6.ones, T6.nod⟩, ⟨Nat.le_refl _, fun b _ _ => rfl⟩, Own.nil _ _ _, by simp, by simpa using hkM, by simp, fun k hk => (hkM k).2 (htog k hk), fun _ => ⟨rfl, fun j hj => by omega⟩, hE06, Nat.le_refl _⟩
    rintro ⟨i, ks, A7, c7⟩ s_ h7 ⟨hi, m, og7, hM7, ⟨hone7, hnod7⟩, hMod, hOk, hg7, hkm, hsub, htm, hall, hE07, hz67⟩ again2
    simp only at hi hM7 hone7 hnod7 hMod hOk hg7 hkm hsub htm hall hE07 hz67 again2
    dsimp only
    have T7 := T6.upd hMod hM7 hone7 hnod7
    have hOr := hO6.mod hMod (.inr hogr)
    obtain ⟨A8, c8, hv8, hw8⟩ := hOr.rowK (d := (0, 0)) encW_len (by omega)
    injection hv8 with e1 e2 e3
    subst e1 e3
    have hkl := hsub.length_le
    rw [List.length_take] at hkl
    have hrl6 := T6.map.lt
    have inM : ∀ (m : Pm) (q : Int × Int), InM m q ↔ q ∈ m.map Prod.fst := fun m q => by unfold InM; rw [ne_eq, mfind_none, Decidable.not_not]
    by_cases hlt2 : i < rs.length
    · obtain ⟨b3, o3, hA6, hp3⟩ := hw8.open_ (by omega)
      subst hA6
      have hpe := hp3 _ (Ext.refl _) (i : Int) (by omega) (by omega)
      have hmem : wd rs i ∈ rs := by unfold wd; rw [List.getD_eq_getElem?_getD, List.getElem?_eq_getElem hlt2]; exact List.getElem_mem _
      have htk := take_wd rs i hlt2
      have hwi : rs[i] = wd rs i := by unfold wd; rw [List.getD_eq_getElem?_getD, List.getElem?_eq_getElem hlt2]; rfl
      have hdr : rs.drop i = wd rs i :: rs.drop (i + 1) := by rw [← hwi]; exact List.drop_eq_getElem_cons hlt2
      have hndr : wd rs i ∉ rs.drop (i + 1) := by
        have := hnd.sublist (List.drop_sublist i rs)
        rw [hdr] at this
        exact (List.nodup_cons.1 this).1
      have hndk : wd rs i ∉ ks := fun hh => by
        have h1 := hsub.subset hh
        have h2 : (rs.take (i + 1)).Nodup := hnd.sublist (List.take_sublist _ _)
        rw [htk, List.nodup_append] at h2
        exact h2.2.2 _ h1 _ (List.mem_singleton.2 rfl) rfl
      rw [Int.toNat_natCast, show rs.getD i (0, 0) = wd rs i from rfl] at hpe
      have hallw := hall
      generalize hew : wd rs i = e at hpe hmem htk hdr hndr hndk
      obtain ⟨i1, i2, i3, i4⟩ := hrg e hmem
      -- at 11111232101231102082
      refine Run.adv 13 [.dec true, .val (.agg #[.int .i64 e.1, .int .i64 e.2])] (at_ Tryz.f62 [1,1,1,1,1,2,3,2,1,0,1,2,3,1,1,0,2,0,8,2]) [(5, .slice (some ⟨b3, o3, none⟩) rs.length c6), (8, .pointer (some ⟨g, 0, none⟩)), (10, .slice A7 ks.length c7), (42, .slice (some ⟨b3, o3, none⟩) rs.length c6), (43, .int .i64 (rs.length : Int)), (44, .int .i64 (i : Int)), (47, .agg #[.int .i64 e.1, .int .i64 e.2])]
        ((decide ((i : Int) < (rs.length : Int))) = true ∧ (0 ≤ (i : Int) ∧ (i : Int) < (rs.length : Int)) ∧ cellsAt h7 ⟨b3, o3 + (i : Int).toNat * 2, none⟩ [.int .i64 e.1, .int .i64 e.2] 0)
        (by as_aux_lemma => kernel_rfl) ⟨(by first | assumption | exact decide_eq_true (by first | omega | assumption)), ⟨by omega, by omega⟩, (by rw [Int.toNat_natCast]; exact hpe)⟩ fun s_ => ?_
      refine Run.new #[.int .i64 0, .int .i64 0] 41 (fun g_ => .pointer (some ⟨g_, 0, none⟩)) (some 12) (at_ Tryz.f62 [1,1,1,1,1,2,3,2,1,0,1,2,3,1,1,0,2,0,8,3]) (by as_aux_lemma => kernel_rfl) fun g12 h8 hng12 hEg12 hBg12 => ?_
      refine Run.store g12 0 [.int .i64 e.1, .int .i64 e.2] (at_ Tryz.f62 [1,1,1,1,1,2,3,2,1,0,1,2,3,1,1,0,2,0,8,4]) (by as_aux_lemma => kernel_rfl) (hBg12.ext (Ext.refl _)) (by simp) rfl fun h9 hMh9 hzh9 (hBg12_h9 : Blk h9 g12 #[.int .i64 e.1, .int .i64 e.2] 41) => ?_
      have hE79 := (hMh9.ext_new hEg12 hng12 (Ext.refl _))
      have hl12 := hBg12_h9.lt
      -- at 111112321012311021082
      refine Run.adv 5 [.val (.agg #[.int .i64 e.1, .int .i64 e.2])] (at_ Tryz.f62 [1,1,1,1,1,2,3,2,1,0,1,2,3,1,1,0,2,1,0,8,2]) [(5, .slice (some ⟨b3, o3, none⟩) rs.length c6), (8, .pointer (some ⟨g, 0, none⟩)), (10, .slice A7 ks.length c7), (12, .pointer (some ⟨g12, 0, none⟩)), (42, .slice (some ⟨b3, o3, none⟩) rs.length c6), (43, .int .i64 (rs.length : Int)), (44, .int .i64 (i : Int)), (48, .pointer (some ⟨g, 0, none⟩)), (49, .agg #[.int .i64 e.1, .int .i64 e.2])]
        (cellsAt h9 ⟨g12, 0, none⟩ [.int .i64 e.1, .int .i64 e.2] 0)
        (by as_aux_lemma => kernel_rfl) (hBg12_h9.all (Ext.refl _)) fun s_ => ?_
      refine Run.call 88 #[.pointer (some ⟨g, 0, none⟩), .agg #[.int .i64 e.1, .int .i64 e.2], .bool false] (some 50) (at_ Tryz.f62 [1,1,1,1,1,2,3,2,1,0,1,2,3,1,1,0,2,1,0,8,3]) (by as_aux_lemma => kernel_rfl) (followsF_ct g g5 r n B l vs ess m e.1 e.2 _ (T7.ext hE79) hm hn (by omega) (by omega)) ?_
      rintro _ h10 ⟨rfl, hE10⟩
      have hE710 := hE79.trans hE10
      have delC : ∀ (hz : Heap), Ext h7 hz → True := fun _ _ => trivial
      by_cases p1 : FollP l m false e.1 e.2
      · rw [tv_yes p1]
        -- at 111112321012311021086
        refine Run.adv 3 [.lit, .lit, .val (.agg #[.int .i64 e.1, .int .i64 e.2])] (at_ Tryz.f62 [1,1,1,1,1,2,3,2,1,0,1,2,3,1,1,0,2,1,0,8,6]) [(5, .slice (some ⟨b3, o3, none⟩) rs.length c6), (8, .pointer (some ⟨g, 0, none⟩)), (10, .slice A7 ks.length c7), (12, .pointer (some ⟨g12, 0, none⟩)), (42, .slice (some ⟨b3, o3, none⟩) rs.length c6), (43, .int .i64 (rs.length : Int)), (44, .int .i64 (i : Int)), (48, .pointer (some ⟨g, 0, none⟩)), (49, .agg #[.int .i64 e.1, .int .i64 e.2]), (50, .bool true), (51, .bool true), (52, .pointer (some ⟨g, 0, none⟩)), (53, .agg #[.int .i64 e.1, .int .i64 e.2])]
          (cellsAt h10 ⟨g12, 0, none⟩ [.int .i64 e.1, .int .i64 e.2] 0)
          (by as_aux_lemma => kernel_rfl) (hBg12_h9.all hE10) fun s_ => ?_
        refine Run.call 88 #[.pointer (some ⟨g, 0, none⟩), .agg #[.int .i64 e.1, .int .i64 e.2], .bool true] (some 54) (at_ Tryz.f62 [1,1,1,1,1,2,3,2,1,0,1,2,3,1,1,0,2,1,0,8,7]) (by as_aux_lemma => kernel_rfl) (followsT_ct g g5 r n B l vs ess m e.1 e.2 _ (T7.ext hE710) hm hn (by omega) (by omega)) ?_
        rintro _ h11 ⟨rfl, hE11⟩
        have hE711 := hE710.trans hE11
        by_cases p2 : FollP l m true e.2 e.1
        · rw [tv_yes p2]
          -- at 1111123210123110211482
          refine Run.adv 6 [.lit, .val (.agg #[.int .i64 e.1, .int .i64 e.2])] (at_ Tryz.f62 [1,1,1,1,1,2,3,2,1,0,1,2,3,1,1,0,2,1,1,4,8,2]) [(5, .slice (some ⟨b3, o3, none⟩) rs.length c6), (8, .pointer (some ⟨g, 0, none⟩)), (10, .slice A7 ks.length c7), (12, .pointer (some ⟨g12, 0, none⟩)), (42, .slice (some ⟨b3, o3, none⟩) rs.length c6), (43, .int .i64 (rs.length : Int)), (44, .int .i64 (i : Int)), (56, .slice A7 ks.length c7), (57, .agg #[.int .i64 e.1, .int .i64 e.2])]
            (cellsAt h11 ⟨g12, 0, none⟩ [.int .i64 e.1, .int .i64 e.2] 0)
            (by as_aux_lemma => kernel_rfl) (hBg12_h9.all (hE10.trans hE11)) fun s_ => ?_
          refine Run.new #[.int .i64 e.1, .int .i64 e.2] 41 (fun g_ => .slice (some ⟨g_, 0, none⟩) 1 1) (some 58) (at_ Tryz.f62 [1,1,1,1,1,2,3,2,1,0,1,2,3,1,1,0,2,1,1,4,8,3]) (by as_aux_lemma => kernel_rfl) fun g13 h12 hng13 hEg13 hBg13 => ?_
          refine Run.append (.slice A7 ks.length c7) (.slice (some ⟨g13, 0, none⟩) 1 1) 41 (some 59) (at_ Tryz.f62 [1,1,1,1,1,2,3,2,1,0,1,2,3,1,1,0,2,1,1,4,8,4]) 2 16 (by as_aux_lemma => kernel_rfl) (by as_aux_lemma => kernel_rfl) (by decide) (hOk.ext (hE711.trans hEg13)) (Src.row (hBg13.all (Ext.refl _)) rfl) (by rfl) rfl (by omega) fun A9 c9 h13 og9 hOA9 hMh13 hgA9 => ?_
          have hEh_h13 := hMh13.ext ((((hMh9.ext_new (hE07.trans hEg12) hng12 hE07).trans hE10).trans hE11).trans hEg13) (by exact fun x e => by have := hg7 x e; have := hE06.size; omega)
          -- at 1111123210127
          refine Run.adv 7 [] (at_ Tryz.f62 [1,1,1,1,1,2,3,2,1,0,1,2,7]) [(5, .slice (some ⟨b3, o3, none⟩) rs.length c6), (8, .pointer (some ⟨g, 0, none⟩)), (10, .slice A9 (ks.length + 1) c9), (42, .slice (some ⟨b3, o3, none⟩) rs.length c6), (43, .int .i64 (rs.length : Int)), (44, .int .i64 ((i + 1 : Nat) : Int))]
            ((-9223372036854775808 ≤ (i : Int) + 1 ∧ (i : Int) + 1 ≤ 9223372036854775807))
            (by as_aux_lemma => kernel_rfl) ⟨by omega, by omega⟩ fun s_ => ?_
          rw [show Value.slice A9 (ks.length + 1) c9 = .slice A9 (ks ++ [e]).length c9 by simp]
          have hE712 := hE711.trans hEg13
          have hMod12 := hMod.trans (hE712.mod (some r))
          have hs12 := hMod12.size
          have hs13 := hMh13.size
          refine again2 (i + 1, ks ++ [e], A9, c9) _ _ ⟨by simp only; omega, m, og9, (hM7.ext hE712).mod hMh13 (fun e => by have := hg7 r e.symm; omega), ⟨hone7, hnod7⟩, ⟨by omega, fun b hb hne => (hMh13.keep b (by omega) (fun e => by have := hg7 b e.symm; omega)).trans (hMod12.keep b hb hne)⟩, by simp only; rw [List.length_append, List.flatMap_append]; exact hOA9, fun x hx => ?_, fun k => ?_, ?_, htm, fun hh => ?_, hEh_h13, by omega⟩ (by simp only; omega)
          · rcases hgA9 with e2 | e2
            · exact hg7 x (e2 ▸ hx)
            · rw [e2] at hx; cases hx; have := hE712.size; omega
          · simp only
            rw [hkm, hdr, List.mem_cons, List.mem_append, List.mem_singleton, or_assoc]
          · simp only; rw [htk]; exact hsub.append (List.Sublist.refl _)
          · simp only [List.length_append, List.length_cons, List.length_nil] at hh
            obtain ⟨rfl, h2⟩ := hall (by omega)
            refine ⟨rfl, fun j hj => ?_⟩
            by_cases e3 : j = i
            · subst e3; rw [hew]; exact ⟨p1, p2⟩
            · exact h2 j (by simp only at hj; omega)
        · rw [tv_no p2]
          have hBz := (T7.ext hE711).blk
          have hMz := hM7.ext hE711
          -- at 11111232101231102115
          refine Run.adv 3 [.lit] (at_ Tryz.f62 [1,1,1,1,1,2,3,2,1,0,1,2,3,1,1,0,2,1,1,5]) [(5, .slice (some ⟨b3, o3, none⟩) rs.length c6), (8, .pointer (some ⟨g, 0, none⟩)), (10, .slice A7 ks.length c7), (12, .pointer (some ⟨g12, 0, none⟩)), (42, .slice (some ⟨b3, o3, none⟩) rs.length c6), (43, .int .i64 (rs.length : Int)), (44, .int .i64 (i : Int))]
            (True)
            (by as_aux_lemma => kernel_rfl) trivial fun s_ => ?_
          refine Run.any (opsAt (at_ Tryz.f62 [1,1,1,1,1,2,3,2,1,0,1,2,3,1,1,0,2,1,1,5])) (at_ Tryz.f62 [1,1,1,1,1,2,3,2,1,0,1,2,3,1,1,0,2,1,1,5]).tail (fun H => Mod (some r) h11 H) [0, 1, 2, 3, 4] [0, 1, 2, 3, 4] [.val (.map (some r)), .val (.agg #[.int .i64 e.1, .int .i64 e.2])] #[true, true, true, true, true, false] [(5, .slice (some ⟨b3, o3, none⟩) rs.length c6), (8, .pointer (some ⟨g, 0, none⟩)), (10, .slice A7 ks.length c7), (12, .pointer (some ⟨g12, 0, none⟩)), (42, .slice (some ⟨b3, o3, none⟩) rs.length c6), (43, .int .i64 (rs.length : Int)), (44, .int .i64 (i : Int)), (60, .pointer (some ⟨g, 0, none⟩)), (61, .pointer (some ⟨g, 0, none⟩)), (62, .pointer (some ⟨g, 1, none⟩)), (63, .map (some r)), (64, .agg #[.int .i64 e.1, .int .i64 e.2])]
            (fun H => cellH H ⟨g, 1, none⟩ = some (.map (some r)) ∧ cellsAt H ⟨g12, 0, none⟩ [.int .i64 e.1, .int .i64 e.2] 0) 1 (by as_aux_lemma => kernel_rfl) (by as_aux_lemma => kernel_rfl) ((Ext.refl _).mod _)
            (by as_aux_lemma => kernel_rfl) (fun H hC => ⟨((hC.blk (hBz.ext (Ext.refl _)) (by simp only [ne_eq, Option.some.injEq]; omega)).at (Ext.refl _) 1 rfl), ((hC.blk (hBg12_h9.ext (hE10.trans hE11)) (by simp only [ne_eq, Option.some.injEq]; omega)).all (Ext.refl _))⟩) fun s_ => ?_
          refine RunA.del 0 73 r encP (Value.int .i64) (e.1, e.2) false #[true, true, true, true, true, true] (by as_aux_lemma => kernel_rfl) Tryz.underlying73 key2 hMz fun h14 hMh14 hzh14 hmh14 => ⟨fun _ => (((Ext.refl _).mod _).trans hMh14), ?_⟩
          refine RunA.done [(5, .slice (some ⟨b3, o3, none⟩) rs.length c6), (8, .pointer (some ⟨g, 0, none⟩)), (10, .slice A7 ks.length c7), (12, .pointer (some ⟨g12, 0, none⟩)), (42, .slice (some ⟨b3, o3, none⟩) rs.length c6), (43, .int .i64 (rs.length : Int)), (44, .int .i64 (i : Int)), (60, .pointer (some ⟨g, 0, none⟩)), (61, .pointer (some ⟨g, 0, none⟩)), (62, .pointer (some ⟨g, 1, none⟩)), (63, .map (some r)), (64, .agg #[.int .i64 e.1, .int .i64 e.2])] (by as_aux_lemma => kernel_rfl) (by as_aux_lemma => kernel_rfl) fun s_ => ?_
          -- at 1111123210127
          refine Run.adv 5 [] (at_ Tryz.f62 [1,1,1,1,1,2,3,2,1,0,1,2,7]) [(5, .slice (some ⟨b3, o3, none⟩) rs.length c6), (8, .pointer (some ⟨g, 0, none⟩)), (10, .slice A7 ks.length c7), (42, .slice (some ⟨b3, o3, none⟩) rs.length c6), (43, .int .i64 (rs.length : Int)), (44, .int .i64 ((i + 1 : Nat) : Int))]
            ((-9223372036854775808 ≤ (i : Int) + 1 ∧ (i : Int) + 1 ≤ 9223372036854775807))
            (by as_aux_lemma => kernel_rfl) ⟨by omega, by omega⟩ fun s_ => ?_
          have hs14 := hMh14.size
          have hsE := hE711.size
          refine again2 (i + 1, ks, A7, c7) _ _ ⟨by simp only; omega, _, og7, hmh14, ⟨mdel_vals hone7, mdel_nodup _ hnod7⟩, (hMod.trans (hE711.mod _)).trans hMh14, (hOk.ext hE711).mod hMh14 (.inr (fun e => by have := hg7 r e; omega)), hg7, fun k => ?_, ?_, fun k hk => ?_, fun hh => by simp only at hh; omega, hMh14.ext (hE07.trans hE711) (fun x e => by cases e; omega), by omega⟩ (by simp only; omega)
          · rw [inM, mdel_keys _ hnod7, ← inM, hkm, hdr, List.mem_cons]
            constructor
            · rintro ⟨h1, h2 | h2 | h2⟩
              · exact .inl h2
              · exact absurd h2 h1
              · exact .inr h2
            · rintro (h2 | h2)
              · exact ⟨fun e2 => hndk (by rw [show e = k from e2.symm]; exact h2), .inl h2⟩
              · exact ⟨fun e2 => hndr (by rw [show e = k from e2.symm]; exact h2), .inr (.inr h2)⟩
          · simp only; rw [htk]; exact hsub.trans (List.sublist_append_left _ _)
          · rw [inM, mdel_keys _ hnod7, ← inM]
            refine ⟨fun e2 => ?_, htm k hk⟩
            subst e2
            exact p2 (tog_foll hm hn hS htm hk).2
      · rw [tv_no p1]
        have hBz := (T7.ext hE710).blk
        have hMz := hM7.ext hE710
        -- at 11111232101231102115
        refine Run.adv 7 [.lit, .lit, .lit, .lit] (at_ Tryz.f62 [1,1,1,1,1,2,3,2,1,0,1,2,3,1,1,0,2,1,1,5]) [(5, .slice (some ⟨b3, o3, none⟩) rs.length c6), (8, .pointer (some ⟨g, 0, none⟩)), (10, .slice A7 ks.length c7), (12, .pointer (some ⟨g12, 0, none⟩)), (42, .slice (some ⟨b3, o3, none⟩) rs.length c6), (43, .int .i64 (rs.length : Int)), (44, .int .i64 (i : Int))]
          (True)
          (by as_aux_lemma => kernel_rfl) trivial fun s_ => ?_
        refine Run.any (opsAt (at_ Tryz.f62 [1,1,1,1,1,2,3,2,1,0,1,2,3,1,1,0,2,1,1,5])) (at_ Tryz.f62 [1,1,1,1,1,2,3,2,1,0,1,2,3,1,1,0,2,1,1,5]).tail (fun H => Mod (some r) h10 H) [0, 1, 2, 3, 4] [0, 1, 2, 3, 4] [.val (.map (some r)), .val (.agg #[.int .i64 e.1, .int .i64 e.2])] #[true, true, true, true, true, false] [(5, .slice (some ⟨b3, o3, none⟩) rs.length c6), (8, .pointer (some ⟨g, 0, none⟩)), (10, .slice A7 ks.length c7), (12, .pointer (some ⟨g12, 0, none⟩)), (42, .slice (some ⟨b3, o3, none⟩) rs.length c6), (43, .int .i64 (rs.length : Int)), (44, .int .i64 (i : Int)), (60, .pointer (some ⟨g, 0, none⟩)), (61, .pointer (some ⟨g, 0, none⟩)), (62, .pointer (some ⟨g, 1, none⟩)), (63, .map (some r)), (64, .agg #[.int .i64 e.1, .int .i64 e.2])]
          (fun H => cellH H ⟨g, 1, none⟩ = some (.map (some r)) ∧ cellsAt H ⟨g12, 0, none⟩ [.int .i64 e.1, .int .i64 e.2] 0) 1 (by as_aux_lemma => kernel_rfl) (by as_aux_lemma => kernel_rfl) ((Ext.refl _).mod _)
          (by as_aux_lemma => kernel_rfl) (fun H hC => ⟨((hC.blk (hBz.ext (Ext.refl _)) (by simp only [ne_eq, Option.some.injEq]; omega)).at (Ext.refl _) 1 rfl), ((hC.blk (hBg12_h9.ext hE10) (by simp only [ne_eq, Option.some.injEq]; omega)).all (Ext.refl _))⟩) fun s_ => ?_
        refine RunA.del 0 73 r encP (Value.int .i64) (e.1, e.2) false #[true, true, true, true, true, true] (by as_aux_lemma => kernel_rfl) Tryz.underlying73 key2 hMz fun h14 hMh14 hzh14 hmh14 => ⟨fun _ => (((Ext.refl _).mod _).trans hMh14), ?_⟩
        refine RunA.done [(5, .slice (some ⟨b3, o3, none⟩) rs.length c6), (8, .pointer (some ⟨g, 0, none⟩)), (10, .slice A7 ks.length c7), (12, .pointer (some ⟨g12, 0, none⟩)), (42, .slice (some ⟨b3, o3, none⟩) rs.length c6), (43, .int .i64 (rs.length : Int)), (44, .int .i64 (i : Int)), (60, .pointer (some ⟨g, 0, none⟩)), (61, .pointer (some ⟨g, 0, none⟩)), (62, .pointer (some ⟨g, 1, none⟩)), (63, .map (some r)), (64, .agg #[.int .i64 e.1, .int .i64 e.2])] (by as_aux_lemma => kernel_rfl) (by as_aux_lemma => kernel_rfl) fun s_ => ?_
        -- at 1111123210127
        refine Run.adv 5 [] (at_ Tryz.f62 [1,1,1,1,1,2,3,2,1,0,1,2,7]) [(5, .slice (some ⟨b3, o3, none⟩) rs.length c6), (8, .pointer (some ⟨g, 0, none⟩)), (10, .slice A7 ks.length c7), (42, .slice (some ⟨b3, o3, none⟩) rs.length c6), (43, .int .i64 (rs.length : Int)), (44, .int .i64 ((i + 1 : Nat) : Int))]
          ((-9223372036854775808 ≤ (i : Int) + 1 ∧ (i : Int) + 1 ≤ 9223372036854775807))
          (by as_aux_lemma => kernel_rfl) ⟨by omega, by omega⟩ fun s_ => ?_
        have hs14 := hMh14.size
        have hsE := hE710.size
        refine again2 (i + 1, ks, A7, c7) _ _ ⟨by simp only; omega, _, og7, hmh14, ⟨mdel_vals hone7, mdel_nodup _ hnod7⟩, (hMod.trans (hE710.mod _)).trans hMh14, (hOk.ext hE710).mod hMh14 (.inr (fun e => by have := hg7 r e; omega)), hg7, fun k => ?_, ?_, fun k hk => ?_, fun hh => by simp only at hh; omega, hMh14.ext (hE07.trans hE710) (fun x e => by cases e; omega), by omega⟩ (by simp only; omega)
        · rw [inM, mdel_keys _ hnod7, ← inM, hkm, hdr, List.mem_cons]
          constructor
          · rintro ⟨h1, h2 | h2 | h2⟩
            · exact .inl h2
            · exact absurd h2 h1
            · exact .inr h2
          · rintro (h2 | h2)
            · exact ⟨fun e2 => hndk (by rw [show e = k from e2.symm]; exact h2), .inl h2⟩
            · exact ⟨fun e2 => hndr (by rw [show e = k from e2.symm]; exact h2), .inr (.inr h2)⟩
        · simp only; rw [htk]; exact hsub.trans (List.sublist_append_left _ _)
        · rw [inM, mdel_keys _ hnod7, ← inM]
          refine ⟨fun e2 => ?_, htm k hk⟩
          subst e2
          exact p1 (tog_foll hm hn hS htm hk).1
    · have hie : i = rs.length := by omega
      rw [hie, List.drop_length] at hkm
      rw [hie, List.take_length] at hsub
      rw [hie] at hall
      have hkr : ∀ k, InM m k ↔ k ∈ ks := fun k => by rw [hkm]; simp
      by_cases heq : (ks.length : Int) = (rs.length : Int)
      · obtain ⟨rfl, h2⟩ := hall (by omega)
        have hks : ks = rs := hsub.eq_of_length (by omega)
        obtain ⟨A10, c10, hv10, hw10⟩ := hOk.rowK (d := (0, 0)) encW_len (by omega)
        -- at 11111232110141
        refine Run.adv 23 [.dec false, .dec true] (at_ Tryz.f62 [1,1,1,1,1,2,3,2,1,1,0,1,4,1]) [(2, .slice A7 ks.length c7), (3, .int .i64 0)]
          ((decide ((i : Int) < (rs.length : Int))) = false ∧ ((ks.length : Int) == (rs.length : Int)) = true)
          (by as_aux_lemma => kernel_rfl) ⟨(by first | assumption | exact decide_eq_false (by first | omega | assumption)), (beq_iff_eq.2 (by first | omega | assumption))⟩ fun s_ => ?_
        refine Run.ret [] (.tuple #[.slice A7 ks.length c7, .int .i64 0]) (True) Tryz.func62 (by as_aux_lemma => kernel_rfl) (by as_aux_lemma => kernel_rfl) trivial ?_
        refine ⟨A10, c10, ks, by rw [hv10], hw10, by omega, fun k => ⟨fun hk => ?_, fun hk => by rw [hks]; exact htog k hk⟩, hE07⟩
        have hkR : k ∈ rs := by rw [← hks]; exact hk
        obtain ⟨r1, r2, r3, r4⟩ := hrg k hkR
        refine ⟨r1, r2, r3, r4, bisim_tog hm hn (M := m) (fun q hq => hrg q (by rw [← hks]; exact (hkr q).1 hq)) (fun q hq => ?_) m0 k ((hkr k).2 hk)⟩
        have hq2 : q ∈ rs := by rw [← hks]; exact (hkr q).1 hq
        obtain ⟨j, hj, h3⟩ := List.mem_iff_getElem.1 hq2
        have := h2 j hj
        rw [show wd rs j = q from by unfold wd; rw [List.getD_eq_getElem?_getD, List.getElem?_eq_getElem hj]; exact h3] at this
        exact this
      · -- at 1111127
        refine Run.adv 23 [.dec false, .dec false] (at_ Tryz.f62 [1,1,1,1,1,2,7]) [(5, .slice A7 ks.length c7), (8, .pointer (some ⟨g, 0, none⟩))]
          ((decide ((i : Int) < (rs.length : Int))) = false ∧ ((ks.length : Int) == (rs.length : Int)) = false)
          (by as_aux_lemma => kernel_rfl) ⟨(by first | assumption | exact decide_eq_false (by first | omega | assumption)), (beq_eq_false_iff_ne.2 (by first | omega | assumption))⟩ fun s_ => ?_
        exact againR (ks, A7, c7) _ _ ⟨⟨m, og7, T7, hOk, fun e => by have := hg7 r e; omega, hkr⟩, hnd.sublist hsub, fun k hk => (hkr k).1 (htm k hk), fun k hk => hrg k (hsub.subset hk), by simp only; omega, hE07⟩ (by simp only; omega)
end Go.Proofs.YtbajgbkkbabmlaaGreatDoor
