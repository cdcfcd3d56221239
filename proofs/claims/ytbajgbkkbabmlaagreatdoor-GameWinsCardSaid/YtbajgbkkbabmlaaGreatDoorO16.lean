/- bisim.open, walked. -/
import Derived.Test.YtbajgbkkbabmlaaGreatDoorProg
import Derived.Test.YtbajgbkkbabmlaaGreatDoorO15
set_option linter.unusedVariables false
namespace Go.Proofs.YtbajgbkkbabmlaaGreatDoor
open Go.Vc

theorem outL_snoc (es : List Ed) (e : Ed) (a : Int) : outL (es ++ [e]) a = if e.1 = a then outL es a ++ [e] else outL es a := by
  unfold outL
  rw [List.filter_append]
  by_cases h : e.1 = a <;> simp [h]
theorem idx_none {κ : Type} [DecidableEq κ] {k : κ} {ks : List κ} : idx k ks = none ↔ k ∉ ks := by
  unfold idx
  rw [List.findIdx?_eq_none_iff]
  constructor
  · intro h hm; have := h k hm; simp at this
  · intro h x hx; simp only [decide_eq_false_iff_not]; exact fun e => h (e ▸ hx)
theorem mfind_none {κ υ : Type} [DecidableEq κ] {m : List (κ × υ)} {k : κ} : mfind m k = none ↔ k ∉ m.map Prod.fst := by
  rw [← idx_none]
  unfold mfind
  cases h : idx k (m.map Prod.fst) with
  | none => simp
  | some i =>
    have := idx_some h
    rw [List.getElem?_map] at this
    obtain ⟨x, hx, _⟩ := Option.map_eq_some_iff.1 this
    simp [hx]
theorem mput_keys {κ υ : Type} [DecidableEq κ] (m : List (κ × υ)) (k : κ) (v : υ) (q : κ) : q ∈ (mput m k v).map Prod.fst ↔ q = k ∨ q ∈ m.map Prod.fst := by
  unfold mput
  cases h : idx k (m.map Prod.fst) with
  | none => simp only [List.map_append, List.mem_append, List.map_cons, List.map_nil, List.mem_singleton]; exact or_comm
  | some i =>
    have h1 := idx_some h
    have hk : k ∈ m.map Prod.fst := List.mem_of_getElem? h1
    have h2 : (m.set i (k, v)).map Prod.fst = m.map Prod.fst := by
      rw [List.map_set]
      obtain ⟨hl, he⟩ := List.getElem?_eq_some_iff.1 h1
      rw [← he]; exact List.set_getElem_self hl
    rw [h2]
    exact ⟨.inr, fun hh => hh.elim (fun e => e ▸ hk) id⟩
theorem mput_nodup {κ υ : Type} [DecidableEq κ] {m : List (κ × υ)} (k : κ) (v : υ) (h : (m.map Prod.fst).Nodup) : ((mput m k v).map Prod.fst).Nodup := by
  unfold mput
  cases hi : idx k (m.map Prod.fst) with
  | none =>
    have := idx_none.1 hi
    simp only [List.map_append, List.map_cons, List.map_nil]
    rw [List.nodup_append]
    exact ⟨h, by simp, fun a ha b hb => by rw [List.mem_singleton.1 hb]; exact fun e => this (e ▸ ha)⟩
  | some i =>
    have h1 := idx_some hi
    have h2 : (m.set i (k, v)).map Prod.fst = m.map Prod.fst := by
      rw [List.map_set]
      obtain ⟨hl, he⟩ := List.getElem?_eq_some_iff.1 h1
      rw [← he]; exact List.set_getElem_self hl
    rw [h2]; exact h
theorem mdel_nodup {κ υ : Type} [DecidableEq κ] {m : List (κ × υ)} (k : κ) (h : (m.map Prod.fst).Nodup) : ((mdel m k).map Prod.fst).Nodup := by
  unfold mdel
  cases idx k (m.map Prod.fst) with
  | none => exact h
  | some i => simp only; rw [map_erase]; exact h.sublist (List.eraseIdx_sublist _ _)
theorem mem_eraseI {α : Type} : ∀ {l : List α} {i : Nat} (hi : i < l.length) (h : l.Nodup) (q : α), q ∈ l.eraseIdx i ↔ q ≠ l[i] ∧ q ∈ l
  | x :: l, 0, _, h, q => by
    have hx := (List.nodup_cons.1 h).1
    simp only [List.eraseIdx_cons_zero, List.getElem_cons_zero, List.mem_cons]
    exact ⟨fun hq => ⟨fun e => hx (e ▸ hq), .inr hq⟩, fun ⟨h1, h2⟩ => h2.resolve_left h1⟩
  | x :: l, i + 1, hi, h, q => by
    obtain ⟨hx, hl⟩ := List.nodup_cons.1 h
    have ih := mem_eraseI (l := l) (i := i) (by simpa using hi) hl q
    simp only [List.eraseIdx_cons_succ, List.getElem_cons_succ, List.mem_cons, ih]
    constructor
    · rintro (e | ⟨h1, h2⟩)
      · exact ⟨fun e2 => hx (by rw [← e, e2]; exact List.getElem_mem _), .inl e⟩
      · exact ⟨h1, .inr h2⟩
    · rintro ⟨h1, e | h2⟩
      · exact .inl e
      · exact .inr ⟨h1, h2⟩
theorem mdel_keys {κ υ : Type} [DecidableEq κ] {m : List (κ × υ)} (k : κ) (h : (m.map Prod.fst).Nodup) (q : κ) : q ∈ (mdel m k).map Prod.fst ↔ q ≠ k ∧ q ∈ m.map Prod.fst := by
  unfold mdel
  cases hi : idx k (m.map Prod.fst) with
  | none =>
    have := idx_none.1 hi
    exact ⟨fun hq => ⟨fun e => this (e ▸ hq), hq⟩, fun hq => hq.2⟩
  | some i =>
    have h1 := idx_some hi
    obtain ⟨hl, he⟩ := List.getElem?_eq_some_iff.1 h1
    simp only
    rw [map_erase, mem_eraseI hl h, he]
theorem mdel_vals {κ υ : Type} [DecidableEq κ] {m : List (κ × υ)} {k : κ} {v : υ} (h : ∀ x ∈ m, x.2 = v) : ∀ x ∈ mdel m k, x.2 = v := by
  unfold mdel
  cases idx k (m.map Prod.fst) with
  | none => exact h
  | some i => exact fun x hx => h x ((List.eraseIdx_sublist _ _).subset hx)
theorem mput_vals {κ υ : Type} [DecidableEq κ] {m : List (κ × υ)} {k : κ} {v : υ} (h : ∀ x ∈ m, x.2 = v) : ∀ x ∈ mput m k v, x.2 = v := by
  unfold mput
  cases idx k (m.map Prod.fst) with
  | none => intro x hx; rcases List.mem_append.1 hx with hx | hx; exact h x hx; rw [List.mem_singleton.1 hx]
  | some i => intro x hx; rcases List.mem_or_eq_of_mem_set hx with hx | hx; exact h x hx; rw [hx]
theorem take_wd (ws : List Wy) (i : Nat) (hi : i < ws.length) : ws.take (i + 1) = ws.take i ++ [wd ws i] := take_snoc (0, 0) ws i hi
set_option maxHeartbeats 1000000 in
theorem openB_ct (A1 A2 A3 : Option Addr) (c1 c2 c3 n : Nat) (l : Lt) (rel : List Wy) (h : Heap) (hx : LtAt h l A1 c1 A2 c2) (hr : Wys h A3 rel c3) (hm : May l) (hn : l.n = (n : Int)) (hin : ∀ w ∈ rel, 0 ≤ w.1 ∧ w.1 < n ∧ 0 ≤ w.2 ∧ w.2 < n) (hl : rel.length ≤ 1000000000) :
    Ct Tryz.prog 87 #[.agg #[.int .i64 l.n, .slice A1 l.ls.length c1, .slice A2 l.es.length c2], .slice A3 rel.length c3] h
      (fun v h' => ∃ g g5 r B vs ess m, v = .tuple #[.pointer (some ⟨g, 0, none⟩), .bool true] ∧ Tbl h' g g5 r l n B vs ess m ∧ (∀ k, InM m k ↔ k ∈ rel) ∧ h.size ≤ g5 ∧ Ext h h') := by
  have hlen := hm.len
  have hn1 := hm.n1
  have hn2 := hm.n2
  refine Ct.enter (args := [.agg #[.int .i64 l.n, .slice A1 l.ls.length c1, .slice A2 l.es.length c2], .slice A3 rel.length c3]) Tryz.func87 rfl Tryz.ntmps87 (by simp) fun w hw => ?_
  -- at 080
  refine Run.adv 2 [] (at_ Tryz.f87 [0,8,0]) [(0, .agg #[.int .i64 l.n, .slice A1 l.ls.length c1, .slice A2 l.es.length c2]), (1, .slice A3 rel.length c3)]
    (True)
    (by as_aux_lemma => kernel_rfl) trivial fun s_ => ?_
  refine Run.new #[.int .i64 l.n, .slice A1 l.ls.length c1, .slice A2 l.es.length c2] 25 (fun g_ => .pointer (some ⟨g_, 0, none⟩)) (some 2) (at_ Tryz.f87 [0,8,1]) (by as_aux_lemma => kernel_rfl) fun g2 h1 hng2 hEg2 hBg2 => ?_
  -- at 10081
  refine Run.adv 7 [.val (.agg #[.int .i64 l.n, .slice A1 l.ls.length c1, .slice A2 l.es.length c2])] (at_ Tryz.f87 [1,0,0,8,1]) [(0, .agg #[.int .i64 l.n, .slice A1 l.ls.length c1, .slice A2 l.es.length c2]), (1, .slice A3 rel.length c3), (2, .pointer (some ⟨g2, 0, none⟩)), (4, .pointer none), (5, .bool false), (11, .agg #[.int .i64 l.n, .slice A1 l.ls.length c1, .slice A2 l.es.length c2])]
    (cellsAt h1 ⟨g2, 0, none⟩ [.int .i64 l.n, .slice A1 l.ls.length c1, .slice A2 l.es.length c2] 0)
    (by as_aux_lemma => kernel_rfl) (hBg2.all (Ext.refl _)) fun s_ => ?_
  refine Run.call 73 #[.agg #[.int .i64 l.n, .slice A1 l.ls.length c1, .slice A2 l.es.length c2]] (some 12) (at_ Tryz.f87 [1,0,0,8,2]) (by as_aux_lemma => kernel_rfl) (CheckM_ct A1 A2 c1 c2 l _ (hx.ext hEg2) (by have := hm.ls.1; omega)) ?_
  rintro _ h2 ⟨rfl, hE2⟩
  rw [errB_yes hm]
  have hE02 := hEg2.trans hE2
  -- at 11082
  refine Run.adv 8 [.lit, .val (.int .i64 l.n)] (at_ Tryz.f87 [1,1,0,8,2]) [(1, .slice A3 rel.length c3), (2, .pointer (some ⟨g2, 0, none⟩)), (15, .int .i64 l.n)]
    (cellH h2 ⟨g2, 0, none⟩ = some (.int .i64 l.n))
    (by as_aux_lemma => kernel_rfl) (hBg2.at hE2 0 rfl) fun s_ => ?_
  rw [show Value.int .i64 l.n = .int .i64 (n : Int) by rw [hn]]
  refine Run.make (n : Int) (.slice none 0 0) 23 24 (some 16) (at_ Tryz.f87 [1,1,0,8,3]) (by as_aux_lemma => kernel_rfl) (by as_aux_lemma => kernel_rfl) (by omega) (by omega) (by omega) fun g5 h3 hng5 hEg5 hBg5 => ?_
  rw [Int.toNat_natCast] at hBg5
  refine Run.makeMap (some 17) (at_ Tryz.f87 [1,1,0,8,4]) (by as_aux_lemma => kernel_rfl) fun r h4 hnr hEr hmr => ?_
  -- at 11085
  refine Run.adv 1 [] (at_ Tryz.f87 [1,1,0,8,5]) [(1, .slice A3 rel.length c3), (2, .pointer (some ⟨g2, 0, none⟩)), (15, .int .i64 (n : Int)), (16, .slice (some ⟨g5, 0, none⟩) n n), (17, .map (some r)), (18, .agg #[.slice (some ⟨g5, 0, none⟩) n n, .map (some r)])]
    (True)
    (by as_aux_lemma => kernel_rfl) trivial fun s_ => ?_
  refine Run.new #[.slice (some ⟨g5, 0, none⟩) n n, .map (some r)] 139 (fun g_ => .pointer (some ⟨g_, 0, none⟩)) (some 19) (at_ Tryz.f87 [1,1,0,8,6]) (by as_aux_lemma => kernel_rfl) fun g h5 hng hEg hBg => ?_
  have hO5 := (own_made hBg5 (by omega)).ext (hEr.trans hEg)
  have hN5 : Nest h5 64 3 encEs h5.size (some g5) (List.replicate n (.slice none 0 0)) (List.replicate n []) := Nest.zeros n rfl
  have hM5 : MapAt h5 r encP (Value.int .i64) ([] : Pm) := (hmr encP (Value.int .i64)).ext hEg
  have hE05 := ((hE02.trans hEg5).trans hEr).trans hEg
  have hE15 := ((hE2.trans hEg5).trans hEr).trans hEg
  have hz5 := hBg5.lt
  have hzr := (hmr encP (Value.int .i64)).lt
  have hzg := hBg.lt
  have hz02 := hE02.size
  -- at 111012
  refine Run.adv 11 [.val (.slice A2 l.es.length c2)] (at_ Tryz.f87 [1,1,1,0,1,2]) [(1, .slice A3 rel.length c3), (2, .pointer (some ⟨g2, 0, none⟩)), (6, .pointer (some ⟨g, 0, none⟩)), (21, .slice A2 l.es.length c2), (22, .int .i64 (l.es.length : Int)), (23, .int .i64 0)]
    (cellH h5 ⟨g2, 2, none⟩ = some (.slice A2 l.es.length c2))
    (by as_aux_lemma => kernel_rfl) (hBg2.at (((hE2.trans hEg5).trans hEr).trans hEg) 2 rfl) fun s_ => ?_
  refine Run.loop (at_ Tryz.f87 [1,1,1,0,1,2,3]) (at_ Tryz.f87 [1,1,1,0,1,2,7]) (fun i : Nat => [(1, .slice A3 rel.length c3), (2, .pointer (some ⟨g2, 0, none⟩)), (6, .pointer (some ⟨g, 0, none⟩)), (21, .slice A2 l.es.length c2), (22, .int .i64 (l.es.length : Int)), (23, .int .i64 (i : Int))])
    (fun i h6 => i ≤ l.es.length ∧ ∃ vs ess, Own h6 23 1 (.slice (some ⟨g5, 0, none⟩) n n) n vs (some g5) ∧ Nest h6 64 3 encEs h5.size (some g5) vs ess ∧ ess.length = n ∧ (∀ a : Nat, a < n → ess.getD a [] = outL (l.es.take i) a) ∧ Ext h h6 ∧ Blk h6 g #[.slice (some ⟨g5, 0, none⟩) n n, .map (some r)] 139 ∧ MapAt h6 r encP (Value.int .i64) ([] : Pm) ∧ Ext h1 h6 ∧ h5.size ≤ h6.size) (fun i => l.es.length - i) 0 (by as_aux_lemma => kernel_rfl) rfl ?_ ?_
  · refine ⟨Nat.zero_le _, _, _, hO5, hN5, by simp, fun a ha => ?_, hE05, hBg, hM5, hE15, Nat.le_refl _⟩
    simp [outL, List.getD_eq_getElem?_getD, ha]
  rintro i s_ h6 ⟨hi, vs, ess, hO, hN, hel, hout, hE, hB, hM, hE1, hsz⟩ again
  by_cases hlt : i < l.es.length
  · obtain ⟨b, off, rfl, hp⟩ := hx.es.open_ (by omega)
    have hpe := hp _ hE (i : Int) (by omega) (by omega)
    have hmem := ed_mem l.es i hlt
    have htk := take_ed l.es i hlt
    rw [show l.es.getD (i : Int).toNat (0, 0, 0) = ed l.es (i : Int) from rfl] at hpe
    generalize hed : ed l.es (i : Int) = e at hpe hmem htk
    have hem := may_edge hm hmem
    unfold EdgeMay at hem
    obtain ⟨a, ha⟩ := Int.eq_ofNat_of_zero_le hem.1
    have han : a < n := by omega
    have hlB := hB.lt
    -- at 11101231102082
    refine Run.adv 13 [.dec true, .val (.agg #[.int .i64 e.1, .int .i64 e.2.1, .int .i64 e.2.2])] (at_ Tryz.f87 [1,1,1,0,1,2,3,1,1,0,2,0,8,2]) [(1, .slice A3 rel.length c3), (2, .pointer (some ⟨g2, 0, none⟩)), (6, .pointer (some ⟨g, 0, none⟩)), (21, .slice (some ⟨b, off, none⟩) l.es.length c2), (22, .int .i64 (l.es.length : Int)), (23, .int .i64 (i : Int)), (26, .agg #[.int .i64 e.1, .int .i64 e.2.1, .int .i64 e.2.2])]
      ((decide ((i : Int) < (l.es.length : Int))) = true ∧ (0 ≤ (i : Int) ∧ (i : Int) < (l.es.length : Int)) ∧ cellsAt h6 ⟨b, off + (i : Int).toNat * 3, none⟩ [.int .i64 e.1, .int .i64 e.2.1, .int .i64 e.2.2] 0)
      (by as_aux_lemma => kernel_rfl) ⟨(by first | assumption | exact decide_eq_true (by first | omega | assumption)), ⟨by omega, by omega⟩, (by exact hpe)⟩ fun s_ => ?_
    refine Run.new #[.int .i64 0, .int .i64 0, .int .i64 0] 64 (fun g_ => .pointer (some ⟨g_, 0, none⟩)) (some 8) (at_ Tryz.f87 [1,1,1,0,1,2,3,1,1,0,2,0,8,3]) (by as_aux_lemma => kernel_rfl) fun g8 h7 hng8 hEg8 hBg8 => ?_
    refine Run.store g8 0 [.int .i64 e.1, .int .i64 e.2.1, .int .i64 e.2.2] (at_ Tryz.f87 [1,1,1,0,1,2,3,1,1,0,2,0,8,4]) (by as_aux_lemma => kernel_rfl) (hBg8.ext (Ext.refl _)) (by simp) rfl fun h8 hMh8 hzh8 (hBg8_h8 : Blk h8 g8 #[.int .i64 e.1, .int .i64 e.2.1, .int .i64 e.2.2] 64) => ?_
    have hE68 := (hMh8.ext_new hEg8 hng8 (Ext.refl _))
    have hE08 := (hMh8.ext_new (hE.trans hEg8) hng8 hE)
    have hE18 := (hMh8.ext_new (hE1.trans hEg8) hng8 hE1)
    have hvl := hN.len
    have hcell : ∀ H, Own H 23 1 (.slice (some ⟨g5, 0, none⟩) n n) n vs (some g5) → cellH H ⟨g5, 0 + e.1.toNat, none⟩ = some (vs.getD a undef) := fun H hO => by
      rw [ha, Int.toNat_natCast, Nat.zero_add]
      exact hO.cell (getD_some undef (show a < vs.length by omega))
    obtain ⟨o, hOi, hob, -⟩ := hN.open_ (j := a) (by omega)
    obtain ⟨A5, c5, hv5⟩ := hOi.slice
    rw [hv5] at hcell
    have hlo : (ess.getD a []).length ≤ i := by
      rw [hout a han]
      have := outL_len (l.es.take i) a
      rw [List.length_take] at this
      omega
    have hB8 := hB.ext hE68
    have hl8 := hBg8_h8.lt
    -- at 111012311021
    refine Run.adv 1 [] (at_ Tryz.f87 [1,1,1,0,1,2,3,1,1,0,2,1]) [(1, .slice A3 rel.length c3), (2, .pointer (some ⟨g2, 0, none⟩)), (6, .pointer (some ⟨g, 0, none⟩)), (8, .pointer (some ⟨g8, 0, none⟩)), (21, .slice (some ⟨b, off, none⟩) l.es.length c2), (22, .int .i64 (l.es.length : Int)), (23, .int .i64 (i : Int))]
      (True)
      (by as_aux_lemma => kernel_rfl) trivial fun s_ => ?_
    refine Run.any (opsAt (at_ Tryz.f87 [1,1,1,0,1,2,3,1,1,0,2,1])) (at_ Tryz.f87 [1,1,1,0,1,2,3,1,1,0,2,1]).tail (fun H => Blk H g #[.slice (some ⟨g5, 0, none⟩) n n, .map (some r)] 139 ∧ Blk H g8 #[.int .i64 e.1, .int .i64 e.2.1, .int .i64 e.2.2] 64 ∧ cellH H ⟨g5, 0 + e.1.toNat, none⟩ = some (.slice A5 (ess.getD a []).length c5)) [0, 1, 2, 3, 4, 5, 6, 7, 8, 9, 10, 11, 12, 13, 14, 17] [0, 1, 2, 3, 4, 5, 6, 7, 8, 9, 10, 11, 12, 13, 14] [.val (.slice (some ⟨g5, 0, none⟩) n n), .val (.int .i64 e.1), .val (.slice (some ⟨g5, 0, none⟩) n n), .val (.int .i64 e.1), .val (.slice A5 ((ess.getD a []).length) c5), .val (.agg #[.int .i64 e.1, .int .i64 e.2.1, .int .i64 e.2.2])] #[true, true, true, true, true, true, true, true, true, true, true, true, true, true, true, false, false, false, false] [(1, .slice A3 rel.length c3), (2, .pointer (some ⟨g2, 0, none⟩)), (6, .pointer (some ⟨g, 0, none⟩)), (8, .pointer (some ⟨g8, 0, none⟩)), (21, .slice (some ⟨b, off, none⟩) l.es.length c2), (22, .int .i64 (l.es.length : Int)), (23, .int .i64 (i : Int)), (27, .pointer (some ⟨g, 0, none⟩)), (28, .pointer (some ⟨g, 0, none⟩)), (29, .pointer (some ⟨g, 0, none⟩)), (30, .slice (some ⟨g5, 0, none⟩) n n), (31, .pointer (some ⟨g8, 0, none⟩)), (32, .int .i64 e.1), (33, .pointer (some ⟨g, 0, none⟩)), (34, .pointer (some ⟨g, 0, none⟩)), (35, .pointer (some ⟨g, 0, none⟩)), (36, .slice (some ⟨g5, 0, none⟩) n n), (37, .pointer (some ⟨g8, 0, none⟩)), (38, .int .i64 e.1), (39, .pointer (some ⟨g5, 0 + e.1.toNat, none⟩)), (40, .slice A5 ((ess.getD a []).length) c5), (41, .agg #[.int .i64 e.1, .int .i64 e.2.1, .int .i64 e.2.2])]
      (fun H => cellH H ⟨g, 0, none⟩ = some (.slice (some ⟨g5, 0, none⟩) n n) ∧ cellH H ⟨g8, 0, none⟩ = some (.int .i64 e.1) ∧ cellH H ⟨g, 0, none⟩ = some (.slice (some ⟨g5, 0, none⟩) n n) ∧ cellH H ⟨g8, 0, none⟩ = some (.int .i64 e.1) ∧ (0 ≤ e.1 ∧ e.1 < (n : Int)) ∧ cellH H ⟨g5, 0 + e.1.toNat, none⟩ = some (.slice A5 ((ess.getD a []).length) c5) ∧ cellsAt H ⟨g8, 0, none⟩ [.int .i64 e.1, .int .i64 e.2.1, .int .i64 e.2.2] 0) 4 (by as_aux_lemma => kernel_rfl) (by as_aux_lemma => kernel_rfl) ⟨hB8, hBg8_h8, hcell _ (hO.ext hE68)⟩
      (by as_aux_lemma => kernel_rfl) (fun H hC => ⟨(hC.1.at (Ext.refl _) 0 rfl), (hC.2.1.at (Ext.refl _) 0 rfl), (hC.1.at (Ext.refl _) 0 rfl), (hC.2.1.at (Ext.refl _) 0 rfl), ⟨by omega, by omega⟩, (hC.2.2), (hC.2.1.all (Ext.refl _))⟩) fun s_ => ?_
    refine RunA.new 3 #[.int .i64 e.1, .int .i64 e.2.1, .int .i64 e.2.2] 64 (fun g_ => .slice (some ⟨g_, 0, none⟩) 1 1) (some 42) false #[true, true, true, true, true, true, true, true, true, true, true, true, true, true, true, true, false, false, false] (by as_aux_lemma => kernel_rfl) fun g9 h9 hng9 hEg9 hBg9 => ⟨fun _ => ⟨hB8.ext hEg9, hBg8_h8.ext hEg9, hcell _ (hO.ext (hE68.trans hEg9))⟩, ?_⟩
    obtain ⟨o', hOi', hob', hup⟩ := hN.open2 (hE68.trans hEg9) (j := a) (by omega)
    rw [hv5] at hOi'
    have hng : some g ≠ o' := fun e => by have := (hob' g e.symm).1; omega
    have hng8' : some g8 ≠ o' := fun e => by have := (hob' g8 e.symm).2.2; omega
    have hng5 : some g5 ≠ o' := fun e => (hob' g5 e.symm).2.1 rfl
    have hngr : some r ≠ o' := fun e => by have := (hob' r e.symm).1; omega
    have hlt' : ∀ x, o' = some x → h.size ≤ x := fun x e => by have := (hob' x e).1; omega
    refine RunA.append 2 (.slice A5 ((ess.getD a []).length) c5) (.slice (some ⟨g9, 0, none⟩) 1 1) 64 (some 43) false #[true, true, true, true, true, true, true, true, true, true, true, true, true, true, true, true, true, false, false] 3 24 (by as_aux_lemma => kernel_rfl) (by as_aux_lemma => kernel_rfl) (by decide) hOi' (Src.row (hBg9.all (Ext.refl _)) rfl) (by rfl) (by simp [Vc.one]) (by omega) fun A8 c8 h10 og8 hOA8 hMh10 hgA8 => ⟨fun _ => ⟨hMh10.blk (hB8.ext hEg9) hng, hMh10.blk (hBg8_h8.ext hEg9) hng8', hcell _ ((hO.ext (hE68.trans hEg9)).mod hMh10 (.inr hng5))⟩, ?_⟩
    have hO10 := (hO.ext (hE68.trans hEg9)).mod hMh10 (.inr hng5)
    refine RunA.adv [17] [] #[true, true, true, true, true, true, true, true, true, true, true, true, true, true, true, true, true, true, false] [(1, .slice A3 rel.length c3), (2, .pointer (some ⟨g2, 0, none⟩)), (6, .pointer (some ⟨g, 0, none⟩)), (8, .pointer (some ⟨g8, 0, none⟩)), (21, .slice (some ⟨b, off, none⟩) l.es.length c2), (22, .int .i64 (l.es.length : Int)), (23, .int .i64 (i : Int)), (27, .pointer (some ⟨g, 0, none⟩)), (28, .pointer (some ⟨g, 0, none⟩)), (29, .pointer (some ⟨g, 0, none⟩)), (30, .slice (some ⟨g5, 0, none⟩) n n), (31, .pointer (some ⟨g8, 0, none⟩)), (32, .int .i64 e.1), (33, .pointer (some ⟨g, 0, none⟩)), (34, .pointer (some ⟨g, 0, none⟩)), (35, .pointer (some ⟨g, 0, none⟩)), (36, .slice (some ⟨g5, 0, none⟩) n n), (37, .pointer (some ⟨g8, 0, none⟩)), (38, .int .i64 e.1), (39, .pointer (some ⟨g5, 0 + e.1.toNat, none⟩)), (40, .slice A5 ((ess.getD a []).length) c5), (41, .agg #[.int .i64 e.1, .int .i64 e.2.1, .int .i64 e.2.2]), (42, .slice (some ⟨g9, 0, none⟩) 1 1), (43, .slice A8 (((ess.getD a []).length) + 1) c8), (44, .pointer (some ⟨g5, 0 + e.1.toNat, none⟩))]
      (fun H => (0 ≤ e.1 ∧ e.1 < (n : Int))) 1 (by as_aux_lemma => kernel_rfl) ⟨hMh10.blk (hB8.ext hEg9) hng, hMh10.blk (hBg8_h8.ext hEg9) hng8', hcell _ ((hO.ext (hE68.trans hEg9)).mod hMh10 (.inr hng5))⟩
      (by as_aux_lemma => kernel_rfl) (fun H hC => ⟨by omega, by omega⟩) fun s_ => ?_
    refine RunA.storeOwn 0 g5 (0 + e.1.toNat) [.slice A8 (((ess.getD a []).length) + 1) c8] true #[true, true, true, true, true, true, true, true, true, true, true, true, true, true, true, true, true, true, true] (by as_aux_lemma => kernel_rfl) hO10 (by (simp; omega)) rfl fun h11 hMh11 hzh11 hOh11 => ⟨(fun e => by cases e), ?_⟩
    refine RunA.done [(1, .slice A3 rel.length c3), (2, .pointer (some ⟨g2, 0, none⟩)), (6, .pointer (some ⟨g, 0, none⟩)), (8, .pointer (some ⟨g8, 0, none⟩)), (21, .slice (some ⟨b, off, none⟩) l.es.length c2), (22, .int .i64 (l.es.length : Int)), (23, .int .i64 (i : Int)), (27, .pointer (some ⟨g, 0, none⟩)), (28, .pointer (some ⟨g, 0, none⟩)), (29, .pointer (some ⟨g, 0, none⟩)), (30, .slice (some ⟨g5, 0, none⟩) n n), (31, .pointer (some ⟨g8, 0, none⟩)), (32, .int .i64 e.1), (33, .pointer (some ⟨g, 0, none⟩)), (34, .pointer (some ⟨g, 0, none⟩)), (35, .pointer (some ⟨g, 0, none⟩)), (36, .slice (some ⟨g5, 0, none⟩) n n), (37, .pointer (some ⟨g8, 0, none⟩)), (38, .int .i64 e.1), (39, .pointer (some ⟨g5, 0 + e.1.toNat, none⟩)), (40, .slice A5 ((ess.getD a []).length) c5), (41, .agg #[.int .i64 e.1, .int .i64 e.2.1, .int .i64 e.2.2]), (42, .slice (some ⟨g9, 0, none⟩) 1 1), (43, .slice A8 (((ess.getD a []).length) + 1) c8), (44, .pointer (some ⟨g5, 0 + e.1.toNat, none⟩))] (by as_aux_lemma => kernel_rfl) (by as_aux_lemma => kernel_rfl) fun s_ => ?_
    -- at 1110127
    refine Run.adv 5 [] (at_ Tryz.f87 [1,1,1,0,1,2,7]) [(1, .slice A3 rel.length c3), (2, .pointer (some ⟨g2, 0, none⟩)), (6, .pointer (some ⟨g, 0, none⟩)), (21, .slice (some ⟨b, off, none⟩) l.es.length c2), (22, .int .i64 (l.es.length : Int)), (23, .int .i64 ((i + 1 : Nat) : Int))]
      ((-9223372036854775808 ≤ (i : Int) + 1 ∧ (i : Int) + 1 ≤ 9223372036854775807))
      (by as_aux_lemma => kernel_rfl) ⟨by omega, by omega⟩ fun s_ => ?_
    have hz9 := hEg9.size
    have hz68 := hE68.size
    have N11 := (hup h10 _ (ess.getD a [] ++ [e]) og8 (by simpa [encEs, encE] using hOA8) hMh10 (by
      rcases hgA8 with e | e
      · exact .inl e
      · exact .inr ⟨_, e, by omega, by omega, fun e2 => by cases e2; omega⟩)).modo hMh11
    have hE011 : Ext h h11 := hMh11.ext (hMh10.ext (hE08.trans hEg9) hlt') (fun x e => by cases e; omega)
    have hE111 : Ext h1 h11 := hMh11.ext (hMh10.ext (hE18.trans hEg9) (fun x e => by have := (hob' x e).1; have := hE15.size; omega)) (fun x e => by cases e; have := hE2.size; omega)
    refine again (i + 1) _ _ ⟨by omega, _, ess.set a (ess.getD a [] ++ [e]), hOh11, by simpa [setL, ha] using N11, by simp [hel], fun a' ha' => ?_, hE011, hMh11.blk (hMh10.blk (hB8.ext hEg9) hng) (fun e => by cases e; omega), (hM.ext (hE68.trans hEg9)).mod hMh10 hngr |>.mod hMh11 (fun e => by cases e; omega), hE111, ?_⟩ (by omega)
    · rw [getD_set _ _ _ _ _ (by omega), htk, outL_snoc, ha]
      by_cases e3 : a' = a
      · subst e3; rw [if_pos rfl, if_pos rfl, hout a' ha']
      · rw [if_neg e3, if_neg (by omega), hout a' ha']
    · have := hMh10.size
      have := hMh11.size
      omega
  · have hie : i = l.es.length := by omega
    rw [hie, List.take_length] at hout
    -- at 1111012
    refine Run.adv 15 [.dec false] (at_ Tryz.f87 [1,1,1,1,0,1,2]) [(1, .slice A3 rel.length c3), (2, .pointer (some ⟨g2, 0, none⟩)), (6, .pointer (some ⟨g, 0, none⟩)), (46, .slice A3 rel.length c3), (47, .int .i64 (rel.length : Int)), (48, .int .i64 0)]
      ((decide ((i : Int) < (l.es.length : Int))) = false)
      (by as_aux_lemma => kernel_rfl) (by first | assumption | exact decide_eq_false (by first | omega | assumption)) fun s_ => ?_
    refine Run.loop (at_ Tryz.f87 [1,1,1,1,0,1,2,3]) (at_ Tryz.f87 [1,1,1,1,0,1,2,7]) (fun k : Nat => [(1, .slice A3 rel.length c3), (2, .pointer (some ⟨g2, 0, none⟩)), (6, .pointer (some ⟨g, 0, none⟩)), (46, .slice A3 rel.length c3), (47, .int .i64 (rel.length : Int)), (48, .int .i64 (k : Int))])
      (fun k h7 => k ≤ rel.length ∧ ∃ m : Pm, MapAt h7 r encP (Value.int .i64) m ∧ (∀ q, InM m q ↔ q ∈ rel.take k) ∧ (∀ x ∈ m, x.2 = 1) ∧ Mod (some r) h6 h7 ∧ (m.map Prod.fst).Nodup) (fun k => rel.length - k) 0 (by as_aux_lemma => kernel_rfl) rfl ?_ ?_
    · exact ⟨Nat.zero_le _, [], hM, fun q => by simp [InM, mfind_none], by simp, ⟨Nat.le_refl _, fun b _ _ => rfl⟩, by simp⟩
    rintro k s_ h7 ⟨hk, m, hM7, hkeys, hones, hMod, hnod⟩ again2
    have hE07 : Ext h h7 := hMod.ext hE (fun x e => by cases e; omega)
    have hE17 : Ext h1 h7 := hMod.ext hE1 (fun x e => by cases e; have := hE2.size; omega)
    have hB7 := hMod.blk hB (fun e => by cases e; omega)
    by_cases hlt2 : k < rel.length
    · obtain ⟨b3, o3, rfl, hp3⟩ := hr.open_ (by omega)
      have hpe := hp3 _ hE07 (k : Int) (by omega) (by omega)
      have hmem : wd rel k ∈ rel := by unfold wd; rw [List.getD_eq_getElem?_getD, List.getElem?_eq_getElem hlt2]; exact List.getElem_mem _
      have htk := take_wd rel k hlt2
      rw [Int.toNat_natCast, show rel.getD k (0, 0) = wd rel k from rfl] at hpe
      generalize wd rel k = e at hpe hmem htk
      obtain ⟨i1, i2, i3, i4⟩ := hin e hmem
      have hl7 := hB7.lt
      have hl2 := hBg2.lt
      have hz17 := hE17.size
      have q1 : ¬ (if e.2 < e.1 then e.2 else e.1) < 0 := by split <;> omega
      have q2 : ¬ (if e.2 > e.1 then e.2 else e.1) ≥ l.n := by split <;> omega
      -- at 111101231102082
      refine Run.adv 13 [.dec true, .val (.agg #[.int .i64 e.1, .int .i64 e.2])] (at_ Tryz.f87 [1,1,1,1,0,1,2,3,1,1,0,2,0,8,2]) [(1, .slice (some ⟨b3, o3, none⟩) rel.length c3), (2, .pointer (some ⟨g2, 0, none⟩)), (6, .pointer (some ⟨g, 0, none⟩)), (46, .slice (some ⟨b3, o3, none⟩) rel.length c3), (47, .int .i64 (rel.length : Int)), (48, .int .i64 (k : Int)), (51, .agg #[.int .i64 e.1, .int .i64 e.2])]
        ((decide ((k : Int) < (rel.length : Int))) = true ∧ (0 ≤ (k : Int) ∧ (k : Int) < (rel.length : Int)) ∧ cellsAt h7 ⟨b3, o3 + (k : Int).toNat * 2, none⟩ [.int .i64 e.1, .int .i64 e.2] 0)
        (by as_aux_lemma => kernel_rfl) ⟨(by first | assumption | exact decide_eq_true (by first | omega | assumption)), ⟨by omega, by omega⟩, (by rw [Int.toNat_natCast]; exact hpe)⟩ fun s_ => ?_
      refine Run.new #[.int .i64 0, .int .i64 0] 41 (fun g_ => .pointer (some ⟨g_, 0, none⟩)) (some 10) (at_ Tryz.f87 [1,1,1,1,0,1,2,3,1,1,0,2,0,8,3]) (by as_aux_lemma => kernel_rfl) fun g10 h8 hng10 hEg10 hBg10 => ?_
      refine Run.store g10 0 [.int .i64 e.1, .int .i64 e.2] (at_ Tryz.f87 [1,1,1,1,0,1,2,3,1,1,0,2,0,8,4]) (by as_aux_lemma => kernel_rfl) (hBg10.ext (Ext.refl _)) (by simp) rfl fun h9 hMh9 hzh9 (hBg10_h9 : Blk h9 g10 #[.int .i64 e.1, .int .i64 e.2] 41) => ?_
      have hE79 := (hMh9.ext_new hEg10 hng10 (Ext.refl _))
      have hM9 := hM7.ext hE79
      -- at 11110123110211
      refine Run.adv 23 [.val (.int .i64 e.1), .val (.int .i64 e.2), .dec false, .lit, .val (.int .i64 e.1), .lit, .lit, .val (.int .i64 e.2), .lit, .lit, .lit, .val (.int .i64 l.n), .lit, .dec false] (at_ Tryz.f87 [1,1,1,1,0,1,2,3,1,1,0,2,1,1]) [(1, .slice (some ⟨b3, o3, none⟩) rel.length c3), (2, .pointer (some ⟨g2, 0, none⟩)), (6, .pointer (some ⟨g, 0, none⟩)), (10, .pointer (some ⟨g10, 0, none⟩)), (46, .slice (some ⟨b3, o3, none⟩) rel.length c3), (47, .int .i64 (rel.length : Int)), (48, .int .i64 (k : Int))]
        ((0 ≤ (0 : Int) ∧ (0 : Int) < 2) ∧ cellH h9 ⟨g10, 0, none⟩ = some (.int .i64 e.1) ∧ (0 ≤ (1 : Int) ∧ (1 : Int) < 2) ∧ cellH h9 ⟨g10, 1, none⟩ = some (.int .i64 e.2) ∧ (decide ((if e.2 < e.1 then e.2 else e.1) < 0)) = false ∧ (0 ≤ (0 : Int) ∧ (0 : Int) < 2) ∧ cellH h9 ⟨g10, 0, none⟩ = some (.int .i64 e.1) ∧ (0 ≤ (1 : Int) ∧ (1 : Int) < 2) ∧ cellH h9 ⟨g10, 1, none⟩ = some (.int .i64 e.2) ∧ cellH h9 ⟨g2, 0, none⟩ = some (.int .i64 l.n) ∧ (decide ((if e.2 > e.1 then e.2 else e.1) ≥ l.n)) = false)
        (by as_aux_lemma => kernel_rfl) ⟨⟨by omega, by omega⟩, (hBg10_h9.at (Ext.refl _) 0 rfl), ⟨by omega, by omega⟩, (hBg10_h9.at (Ext.refl _) 1 rfl), (decide_eq_false q1), ⟨by omega, by omega⟩, (hBg10_h9.at (Ext.refl _) 0 rfl), ⟨by omega, by omega⟩, (hBg10_h9.at (Ext.refl _) 1 rfl), (hBg2.at (hMh9.ext_new (hE17.trans hEg10) hng10 hE17) 0 rfl), (decide_eq_false q2)⟩ fun s_ => ?_
      refine Run.any (opsAt (at_ Tryz.f87 [1,1,1,1,0,1,2,3,1,1,0,2,1,1])) (at_ Tryz.f87 [1,1,1,1,0,1,2,3,1,1,0,2,1,1]).tail (fun H => Mod none h9 H) [0, 1, 2, 3, 4] [0, 1, 2, 3, 4] [.val (.map (some r)), .val (.agg #[.int .i64 e.1, .int .i64 e.2])] #[true, true, true, true, true, false] [(1, .slice (some ⟨b3, o3, none⟩) rel.length c3), (2, .pointer (some ⟨g2, 0, none⟩)), (6, .pointer (some ⟨g, 0, none⟩)), (10, .pointer (some ⟨g10, 0, none⟩)), (46, .slice (some ⟨b3, o3, none⟩) rel.length c3), (47, .int .i64 (rel.length : Int)), (48, .int .i64 (k : Int)), (68, .pointer (some ⟨g, 0, none⟩)), (69, .pointer (some ⟨g, 0, none⟩)), (70, .pointer (some ⟨g, 1, none⟩)), (71, .map (some r)), (72, .agg #[.int .i64 e.1, .int .i64 e.2])]
        (fun H => cellH H ⟨g, 1, none⟩ = some (.map (some r)) ∧ cellsAt H ⟨g10, 0, none⟩ [.int .i64 e.1, .int .i64 e.2] 0) 1 (by as_aux_lemma => kernel_rfl) (by as_aux_lemma => kernel_rfl) ((Ext.refl _).mod _)
        (by as_aux_lemma => kernel_rfl) (fun H hC => ⟨(hB7.at ((hMh9.ext_new hEg10 hng10 (Ext.refl _)).trans hC.none_ext) 1 rfl), (hBg10_h9.all ((Ext.refl _).trans hC.none_ext))⟩) fun s_ => ?_
      refine RunA.mapUpdate 0 73 r encP (Value.int .i64) (e.1, e.2) 1 true #[true, true, true, true, true, true] (by as_aux_lemma => kernel_rfl) Tryz.underlying73 key2 hM9 fun h10 hMh10 hzh10 hmh10 => ⟨(fun e => by cases e), ?_⟩
      refine RunA.done [(1, .slice (some ⟨b3, o3, none⟩) rel.length c3), (2, .pointer (some ⟨g2, 0, none⟩)), (6, .pointer (some ⟨g, 0, none⟩)), (10, .pointer (some ⟨g10, 0, none⟩)), (46, .slice (some ⟨b3, o3, none⟩) rel.length c3), (47, .int .i64 (rel.length : Int)), (48, .int .i64 (k : Int)), (68, .pointer (some ⟨g, 0, none⟩)), (69, .pointer (some ⟨g, 0, none⟩)), (70, .pointer (some ⟨g, 1, none⟩)), (71, .map (some r)), (72, .agg #[.int .i64 e.1, .int .i64 e.2])] (by as_aux_lemma => kernel_rfl) (by as_aux_lemma => kernel_rfl) fun s_ => ?_
      -- at 11110127
      refine Run.adv 5 [] (at_ Tryz.f87 [1,1,1,1,0,1,2,7]) [(1, .slice (some ⟨b3, o3, none⟩) rel.length c3), (2, .pointer (some ⟨g2, 0, none⟩)), (6, .pointer (some ⟨g, 0, none⟩)), (46, .slice (some ⟨b3, o3, none⟩) rel.length c3), (47, .int .i64 (rel.length : Int)), (48, .int .i64 ((k + 1 : Nat) : Int))]
        ((-9223372036854775808 ≤ (k : Int) + 1 ∧ (k : Int) + 1 ≤ 9223372036854775807))
        (by as_aux_lemma => kernel_rfl) ⟨by omega, by omega⟩ fun s_ => ?_
      refine again2 (k + 1) _ _ ⟨by omega, _, hmh10, fun q => ?_, mput_vals hones, (hMod.trans (hE79.mod _)).trans hMh10, mput_nodup _ _ hnod⟩ (by omega)
      have h1 : InM m q ↔ q ∈ m.map Prod.fst := by unfold InM; rw [ne_eq, mfind_none, Decidable.not_not]
      have h2 : InM (mput m (e.1, e.2) 1) q ↔ q ∈ (mput m (e.1, e.2) 1).map Prod.fst := by unfold InM; rw [ne_eq, mfind_none, Decidable.not_not]
      rw [h2, mput_keys, ← h1, hkeys, htk, List.mem_append, List.mem_singleton]
      exact or_comm
    · have hke : k = rel.length := by omega
      rw [hke, List.take_length] at hkeys
      -- at 111111
      refine Run.adv 13 [.dec false] (at_ Tryz.f87 [1,1,1,1,1,1]) [(4, .pointer (some ⟨g, 0, none⟩)), (5, .bool true)]
        ((decide ((k : Int) < (rel.length : Int))) = false)
        (by as_aux_lemma => kernel_rfl) (by first | assumption | exact decide_eq_false (by first | omega | assumption)) fun s_ => ?_
      refine Run.ret [] (.tuple #[.pointer (some ⟨g, 0, none⟩), .bool true]) (True) Tryz.func87 (by as_aux_lemma => kernel_rfl) (by as_aux_lemma => kernel_rfl) trivial ?_
      exact ⟨g, g5, r, h5.size, vs, ess, m, rfl, ⟨hB7, hO.mod hMod (.inr fun e => by cases e; omega), hN.modn hMod (fun x e => by cases e; omega), hM7, hel, hout, hones, ⟨by omega, by omega, hzg⟩, hnod⟩, hkeys, by omega, hE07⟩
end Go.Proofs.YtbajgbkkbabmlaaGreatDoor
