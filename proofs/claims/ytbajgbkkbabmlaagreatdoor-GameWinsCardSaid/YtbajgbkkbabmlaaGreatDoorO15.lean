/- The table of a relation: does one node follow another one? -/
import Derived.Test.YtbajgbkkbabmlaaGreatDoorProg
import Derived.Test.YtbajgbkkbabmlaaGreatDoorO14
set_option linter.unusedVariables false
namespace Go.Proofs.YtbajgbkkbabmlaaGreatDoor
open Go.Vc
theorem lx_88_190 : LexOk (opsAt (atS Tryz.f88 [1,9,0])) := ⟨by kernel_rfl⟩
theorem lx_88_19111012311021012311021110 : LexOk (opsAt (atS Tryz.f88 [1,9,1,1,1,0,1,2,3,1,1,0,2,1,0,1,2,3,1,1,0,2,1,1,1,0])) := ⟨by kernel_rfl⟩

abbrev encEs (es : List Ed) : List Value := es.flatMap encE
abbrev Pm := List ((Int × Int) × Int)
/-- A table lies there: edges by their nodes, and pairs. -/
structure Tbl (h : Heap) (g g5 r : Nat) (l : Lt) (n B : Nat) (vs : List Value) (ess : List (List Ed)) (m : Pm) : Prop where
  blk : Blk h g #[.slice (some ⟨g5, 0, none⟩) n n, .map (some r)] 139
  own : Own h 23 1 (.slice (some ⟨g5, 0, none⟩) n n) n vs (some g5)
  nest : Nest h 64 3 encEs B (some g5) vs ess
  map : MapAt h r encP (Value.int .i64) m
  len : ess.length = n
  outs : ∀ a : Nat, a < n → ess.getD a [] = outL l.es a
  ones : ∀ x ∈ m, x.2 = 1
  lts : g5 < r ∧ r < g ∧ g < B
  nod : (m.map Prod.fst).Nodup
theorem Tbl.ext {h h' : Heap} {g g5 r : Nat} {l : Lt} {n B : Nat} {vs : List Value} {ess : List (List Ed)} {m : Pm} (T : Tbl h g g5 r l n B vs ess m) (E : Ext h h') : Tbl h' g g5 r l n B vs ess m :=
  ⟨T.blk.ext E, T.own.ext E, T.nest.ext E, T.map.ext E, T.len, T.outs, T.ones, T.lts, T.nod⟩
theorem Tbl.upd {h h' : Heap} {g g5 r : Nat} {l : Lt} {n B : Nat} {vs : List Value} {ess : List (List Ed)} {m m' : Pm} (T : Tbl h g g5 r l n B vs ess m) (M : Mod (some r) h h') (hm : MapAt h' r encP (Value.int .i64) m') (h1 : ∀ x ∈ m', x.2 = 1) (h2 : (m'.map Prod.fst).Nodup) : Tbl h' g g5 r l n B vs ess m' :=
  have a := T.lts
  ⟨M.blk T.blk (fun e => by cases e; omega), T.own.mod M (.inr fun e => by cases e; omega), T.nest.modn M (fun x e => by cases e; omega), hm, T.len, T.outs, h1, T.lts, h2⟩
/-- The edges from a node. -/
theorem Tbl.row {h : Heap} {g g5 r : Nat} {l : Lt} {n B : Nat} {vs : List Value} {ess : List (List Ed)} {m : Pm} (T : Tbl h g g5 r l n B vs ess m) (hl : l.es.length ≤ 1000000) {a : Int} (h0 : 0 ≤ a) (h1 : a < n) :
    ∃ A c, cellH h ⟨g5, 0 + a.toNat, none⟩ = some (.slice A (outL l.es a).length c) ∧ Edges h A (outL l.es a) c := by
  obtain ⟨a, rfl⟩ := Int.eq_ofNat_of_zero_le h0
  have ha : a < n := by omega
  obtain ⟨o, hO, -, -⟩ := T.nest.open_ (j := a) (by rw [T.len]; exact ha)
  have hol := outL_len l.es a
  rw [T.outs a ha] at hO
  obtain ⟨A, c, hv, hr⟩ := hO.rowK (d := (0, 0, 0)) enc3_len (by omega)
  have hvl := T.nest.len
  rw [T.len] at hvl
  refine ⟨A, c, ?_, hr⟩
  have hcl := T.own.cell (getD_some undef (show a < vs.length by omega))
  rw [hv] at hcl
  simpa using hcl
theorem mfind_mem {κ υ : Type} [DecidableEq κ] {m : List (κ × υ)} {k : κ} {v : υ} (h : mfind m k = some v) : (∃ x ∈ m, x.2 = v) := by
  unfold mfind at h
  obtain ⟨i, _, h2⟩ := Option.bind_eq_some_iff.1 h
  obtain ⟨x, hx, rfl⟩ := Option.map_eq_some_iff.1 h2
  exact ⟨x, List.mem_of_getElem? hx, rfl⟩
/-- Does a pair stand in a map? -/
def InM (m : Pm) (k : Int × Int) : Prop := mfind m k ≠ none
/-- Do edges answer each other? -/
def Good2 (m : Pm) (tu : Bool) (e f : Ed) : Prop := e.2.1 = f.2.1 ∧ InM m (if tu then (f.2.2, e.2.2) else (e.2.2, f.2.2))
/-- Does a node follow another one? -/
def FollP (l : Lt) (m : Pm) (tu : Bool) (lead behind : Int) : Prop := ∀ e ∈ outL l.es lead, ∃ f ∈ outL l.es behind, Good2 m tu e f
theorem ed_mem (es : List Ed) (i : Nat) (hi : i < es.length) : ed es (i : Int) ∈ es := by rw [ed_get _ _ hi]; exact List.getElem_mem _
theorem mem_ed {es : List Ed} {e : Ed} (h : e ∈ es) : ∃ i : Nat, i < es.length ∧ ed es (i : Int) = e := by
  obtain ⟨j, hj, rfl⟩ := List.mem_iff_getElem.1 h
  exact ⟨j, hj, ed_get _ _ hj⟩
theorem array_map : Tryz.prog.underlying 73 = some (.map 41 3) := by kernel_rfl
theorem key2 : KeyOk Tryz.prog 41 encP := KeyOk.pair array2 Tryz.underlying3 info_int
theorem zero_i : zeroOf Tryz.prog 3 = some (.int .i64 0) := by kernel_rfl
set_option maxHeartbeats 1000000 in
theorem followsF_ct (g g5 r n B : Nat) (l : Lt) (vs : List Value) (ess : List (List Ed)) (m : Pm) (a b : Int) (h : Heap) (T : Tbl h g g5 r l n B vs ess m) (hm : May l) (hn : l.n = (n : Int)) (ha : 0 ≤ a ∧ a < n) (hb : 0 ≤ b ∧ b < n) :
    Ct Tryz.prog 88 #[.pointer (some ⟨g, 0, none⟩), .agg #[.int .i64 a, .int .i64 b], .bool false] h (fun v h' => v = .bool (tv (FollP l m false a b)) ∧ Ext h h') := by
  have hlen := hm.len
  have hBg := T.blk
  have hol := outL_len l.es a
  have hol2 := outL_len l.es b
  refine Ct.enter (args := [.pointer (some ⟨g, 0, none⟩), .agg #[.int .i64 a, .int .i64 b], .bool false]) Tryz.func88 rfl Tryz.ntmps88 (by simp) fun w hw => ?_
  -- at 080
  refine Run.adv 2 [] (at_ Tryz.f88 [0,8,0]) [(0, .pointer (some ⟨g, 0, none⟩)), (1, .agg #[.int .i64 a, .int .i64 b]), (2, .bool false)]
    (True)
    (by as_aux_lemma => kernel_rfl) trivial fun s_ => ?_
  refine Run.new #[.int .i64 a, .int .i64 b] 41 (fun g_ => .pointer (some ⟨g_, 0, none⟩)) (some 4) (at_ Tryz.f88 [0,8,1]) (by as_aux_lemma => kernel_rfl) fun g4 h1 hng4 hEg4 hBg4 => ?_
  obtain ⟨A1, c1, hc1, hr1⟩ := (T.ext hEg4).row hlen (a := a) (by omega) (by omega)
  -- at 1
  refine Run.adv 2 [] (at_ Tryz.f88 [1]) [(0, .pointer (some ⟨g, 0, none⟩)), (2, .bool false), (4, .pointer (some ⟨g4, 0, none⟩))]
    (True)
    (by as_aux_lemma => kernel_rfl) trivial fun s_ => ?_
  refine Run.scope (atS Tryz.f88 [1,9]) (by as_aux_lemma => kernel_rfl) ?_
  -- at 19110
  refine Run.adv 10 [.draw, .val (.int .i64 a), .val (.int .i64 b), .lit] (atS Tryz.f88 [1,9,1,1,0]) [(0, .pointer (some ⟨g, 0, none⟩)), (2, .bool false), (7, .int .i64 a), (8, .int .i64 b)]
    (LexOk (opsAt (atS Tryz.f88 [1,9,0])) ∧ (0 ≤ (0 : Int) ∧ (0 : Int) < 2) ∧ cellH h1 ⟨g4, 0, none⟩ = some (.int .i64 a) ∧ (0 ≤ (1 : Int) ∧ (1 : Int) < 2) ∧ cellH h1 ⟨g4, 1, none⟩ = some (.int .i64 b))
    (by as_aux_lemma => kernel_rfl) ⟨lx_88_190, ⟨by omega, by omega⟩, (hBg4.at (Ext.refl _) 0 rfl), ⟨by omega, by omega⟩, (hBg4.at (Ext.refl _) 1 rfl)⟩ fun s_ => ?_
  refine Run.label (atS Tryz.f88 [1,9,1,1,1]) (by as_aux_lemma => kernel_rfl) ?_
  -- at 19111012
  refine Run.adv 14 [.val (.slice (some ⟨g5, 0, none⟩) n n), .val (.slice A1 ((outL l.es a).length) c1)] (atS Tryz.f88 [1,9,1,1,1,0,1,2]) [(0, .pointer (some ⟨g, 0, none⟩)), (2, .bool false), (7, .int .i64 a), (8, .int .i64 b), (27, .slice A1 ((outL l.es a).length) c1), (28, .int .i64 ((outL l.es a).length : Int)), (29, .int .i64 0)]
    (cellH h1 ⟨g, 0, none⟩ = some (.slice (some ⟨g5, 0, none⟩) n n) ∧ (0 ≤ a ∧ a < (n : Int)) ∧ cellH h1 ⟨g5, 0 + a.toNat, none⟩ = some (.slice A1 ((outL l.es a).length) c1))
    (by as_aux_lemma => kernel_rfl) ⟨(hBg.at hEg4 0 rfl), ⟨by omega, by omega⟩, (hc1)⟩ fun s_ => ?_
  refine Run.loop (atS Tryz.f88 [1,9,1,1,1,0,1,2,3]) (atS Tryz.f88 [1,9,1,1,1,0,1,2,7]) (fun i : Nat => [(0, .pointer (some ⟨g, 0, none⟩)), (2, .bool false), (7, .int .i64 a), (8, .int .i64 b), (27, .slice A1 ((outL l.es a).length) c1), (28, .int .i64 ((outL l.es a).length : Int)), (29, .int .i64 (i : Int))])
    (fun i h2 => i ≤ (outL l.es a).length ∧ (∀ j : Nat, j < i → ∃ f ∈ outL l.es b, Good2 m false (ed (outL l.es a) j) f) ∧ Ext h1 h2) (fun i => (outL l.es a).length - i) 0 (by as_aux_lemma => kernel_rfl) rfl ?_ ?_
  · exact ⟨Nat.zero_le _, fun j hj => by omega, Ext.refl _⟩
  rintro i s_ h2 ⟨hi, hI, hE⟩ again
  have hE02 := hEg4.trans hE
  by_cases hlt : i < (outL l.es a).length
  · obtain ⟨b1, o1, rfl, hp1⟩ := hr1.open_ (by omega)
    have hpe := hp1 _ hE (i : Int) (by omega) (by omega)
    have hmem := ed_mem _ i hlt
    rw [show (outL l.es a).getD (i : Int).toNat (0, 0, 0) = ed (outL l.es a) (i : Int) from rfl] at hpe
    have hIi : ∀ j : Nat, j < i + 1 → j ≠ i → ∃ f ∈ outL l.es b, Good2 m false (ed (outL l.es a) j) f := fun j h1 h2 => hI j (by omega)
    generalize hed : ed (outL l.es a) (i : Int) = e at hpe hmem
    have hl4 := hBg4.lt
    have hz12 := hE.size
    -- at 1911101231102082
    refine Run.adv 13 [.dec true, .val (.agg #[.int .i64 e.1, .int .i64 e.2.1, .int .i64 e.2.2])] (atS Tryz.f88 [1,9,1,1,1,0,1,2,3,1,1,0,2,0,8,2]) [(0, .pointer (some ⟨g, 0, none⟩)), (2, .bool false), (7, .int .i64 a), (8, .int .i64 b), (27, .slice (some ⟨b1, o1, none⟩) ((outL l.es a).length) c1), (28, .int .i64 ((outL l.es a).length : Int)), (29, .int .i64 (i : Int)), (32, .agg #[.int .i64 e.1, .int .i64 e.2.1, .int .i64 e.2.2])]
      ((decide ((i : Int) < ((outL l.es a).length : Int))) = true ∧ (0 ≤ (i : Int) ∧ (i : Int) < ((outL l.es a).length : Int)) ∧ cellsAt h2 ⟨b1, o1 + (i : Int).toNat * 3, none⟩ [.int .i64 e.1, .int .i64 e.2.1, .int .i64 e.2.2] 0)
      (by as_aux_lemma => kernel_rfl) ⟨(by first | assumption | exact decide_eq_true (by first | omega | assumption)), ⟨by omega, by omega⟩, (by exact hpe)⟩ fun s_ => ?_
    have hgB := hBg.lt
    have hs2 := hE02.size
    refine Run.new #[.int .i64 0, .int .i64 0, .int .i64 0] 64 (fun g_ => .pointer (some ⟨g_, 0, none⟩)) (some 10) (atS Tryz.f88 [1,9,1,1,1,0,1,2,3,1,1,0,2,0,8,3]) (by as_aux_lemma => kernel_rfl) fun g10 h3 hng10 hEg10 hBg10 => ?_
    refine Run.store g10 0 [.int .i64 e.1, .int .i64 e.2.1, .int .i64 e.2.2] (atS Tryz.f88 [1,9,1,1,1,0,1,2,3,1,1,0,2,0,8,4]) (by as_aux_lemma => kernel_rfl) (hBg10.ext (Ext.refl _)) (by simp) rfl fun h4 hMh4 hzh4 (hBg10_h4 : Blk h4 g10 #[.int .i64 e.1, .int .i64 e.2.1, .int .i64 e.2.2] 64) => ?_
    have hE24 := (hMh4.ext_new hEg10 hng10 (Ext.refl _))
    have hE04 := (hMh4.ext_new (hE02.trans hEg10) hng10 hE02)
    obtain ⟨A2, c2, hc2, hr2⟩ := (T.ext hE04).row hlen (a := b) (by omega) (by omega)
    -- at 19111012311021012
    refine Run.adv 15 [.val (.slice (some ⟨g5, 0, none⟩) n n), .val (.slice A2 ((outL l.es b).length) c2)] (atS Tryz.f88 [1,9,1,1,1,0,1,2,3,1,1,0,2,1,0,1,2]) [(0, .pointer (some ⟨g, 0, none⟩)), (2, .bool false), (7, .int .i64 a), (8, .int .i64 b), (10, .pointer (some ⟨g10, 0, none⟩)), (27, .slice (some ⟨b1, o1, none⟩) ((outL l.es a).length) c1), (28, .int .i64 ((outL l.es a).length : Int)), (29, .int .i64 (i : Int)), (39, .slice A2 ((outL l.es b).length) c2), (40, .int .i64 ((outL l.es b).length : Int)), (41, .int .i64 0)]
      (cellH h4 ⟨g, 0, none⟩ = some (.slice (some ⟨g5, 0, none⟩) n n) ∧ (0 ≤ b ∧ b < (n : Int)) ∧ cellH h4 ⟨g5, 0 + b.toNat, none⟩ = some (.slice A2 ((outL l.es b).length) c2))
      (by as_aux_lemma => kernel_rfl) ⟨(hBg.at (hMh4.ext_new (hE02.trans hEg10) hng10 hE02) 0 rfl), ⟨by omega, by omega⟩, (hc2)⟩ fun s_ => ?_
    refine Run.loop (atS Tryz.f88 [1,9,1,1,1,0,1,2,3,1,1,0,2,1,0,1,2,3]) (atS Tryz.f88 [1,9,1,1,1,0,1,2,3,1,1,0,2,1,0,1,2,7]) (fun k : Nat => [(0, .pointer (some ⟨g, 0, none⟩)), (2, .bool false), (7, .int .i64 a), (8, .int .i64 b), (10, .pointer (some ⟨g10, 0, none⟩)), (27, .slice (some ⟨b1, o1, none⟩) ((outL l.es a).length) c1), (28, .int .i64 ((outL l.es a).length : Int)), (29, .int .i64 (i : Int)), (39, .slice A2 ((outL l.es b).length) c2), (40, .int .i64 ((outL l.es b).length : Int)), (41, .int .i64 (k : Int))])
      (fun k h5 => k ≤ (outL l.es b).length ∧ (∀ j : Nat, j < k → ¬ Good2 m false e (ed (outL l.es b) j)) ∧ Ext h4 h5) (fun k => (outL l.es b).length - k) 0 (by as_aux_lemma => kernel_rfl) rfl ?_ ?_
    · exact ⟨Nat.zero_le _, fun j hj => by omega, Ext.refl _⟩
    rintro k s_ h5 ⟨hk, hK, hE5⟩ again2
    have hE05 := hE04.trans hE5
    have hE25 := hE24.trans hE5
    by_cases hlt2 : k < (outL l.es b).length
    · obtain ⟨b2, o2, rfl, hp2⟩ := hr2.open_ (by omega)
      have hpf := hp2 _ hE5 (k : Int) (by omega) (by omega)
      have hmem2 := ed_mem _ k hlt2
      rw [show (outL l.es b).getD (k : Int).toNat (0, 0, 0) = ed (outL l.es b) (k : Int) from rfl] at hpf
      generalize hed2 : ed (outL l.es b) (k : Int) = f at hpf hmem2
      -- at 1911101231102101231102082
      refine Run.adv 13 [.dec true, .val (.agg #[.int .i64 f.1, .int .i64 f.2.1, .int .i64 f.2.2])] (atS Tryz.f88 [1,9,1,1,1,0,1,2,3,1,1,0,2,1,0,1,2,3,1,1,0,2,0,8,2]) [(0, .pointer (some ⟨g, 0, none⟩)), (2, .bool false), (7, .int .i64 a), (8, .int .i64 b), (10, .pointer (some ⟨g10, 0, none⟩)), (27, .slice (some ⟨b1, o1, none⟩) ((outL l.es a).length) c1), (28, .int .i64 ((outL l.es a).length : Int)), (29, .int .i64 (i : Int)), (39, .slice (some ⟨b2, o2, none⟩) ((outL l.es b).length) c2), (40, .int .i64 ((outL l.es b).length : Int)), (41, .int .i64 (k : Int)), (44, .agg #[.int .i64 f.1, .int .i64 f.2.1, .int .i64 f.2.2])]
        ((decide ((k : Int) < ((outL l.es b).length : Int))) = true ∧ (0 ≤ (k : Int) ∧ (k : Int) < ((outL l.es b).length : Int)) ∧ cellsAt h5 ⟨b2, o2 + (k : Int).toNat * 3, none⟩ [.int .i64 f.1, .int .i64 f.2.1, .int .i64 f.2.2] 0)
        (by as_aux_lemma => kernel_rfl) ⟨(by first | assumption | exact decide_eq_true (by first | omega | assumption)), ⟨by omega, by omega⟩, (by exact hpf)⟩ fun s_ => ?_
      have hs5 := hE05.size
      have hl10 := hBg10_h4.lt
      have hs45 := hE5.size
      refine Run.new #[.int .i64 0, .int .i64 0, .int .i64 0] 64 (fun g_ => .pointer (some ⟨g_, 0, none⟩)) (some 12) (atS Tryz.f88 [1,9,1,1,1,0,1,2,3,1,1,0,2,1,0,1,2,3,1,1,0,2,0,8,3]) (by as_aux_lemma => kernel_rfl) fun g12 h6 hng12 hEg12 hBg12 => ?_
      refine Run.store g12 0 [.int .i64 f.1, .int .i64 f.2.1, .int .i64 f.2.2] (atS Tryz.f88 [1,9,1,1,1,0,1,2,3,1,1,0,2,1,0,1,2,3,1,1,0,2,0,8,4]) (by as_aux_lemma => kernel_rfl) (hBg12.ext (Ext.refl _)) (by simp) rfl fun h7 hMh7 hzh7 (hBg12_h7 : Blk h7 g12 #[.int .i64 f.1, .int .i64 f.2.1, .int .i64 f.2.2] 64) => ?_
      have hl12 := hBg12_h7.lt
      -- at 19111012311021012311021085
      refine Run.adv 8 [.val (.int .i64 e.2.2), .val (.int .i64 f.2.2)] (atS Tryz.f88 [1,9,1,1,1,0,1,2,3,1,1,0,2,1,0,1,2,3,1,1,0,2,1,0,8,5]) [(0, .pointer (some ⟨g, 0, none⟩)), (2, .bool false), (7, .int .i64 a), (8, .int .i64 b), (10, .pointer (some ⟨g10, 0, none⟩)), (12, .pointer (some ⟨g12, 0, none⟩)), (27, .slice (some ⟨b1, o1, none⟩) ((outL l.es a).length) c1), (28, .int .i64 ((outL l.es a).length : Int)), (29, .int .i64 (i : Int)), (39, .slice (some ⟨b2, o2, none⟩) ((outL l.es b).length) c2), (40, .int .i64 ((outL l.es b).length : Int)), (41, .int .i64 (k : Int)), (44, .agg #[.int .i64 f.1, .int .i64 f.2.1, .int .i64 f.2.2]), (45, .pointer (some ⟨g10, 2, none⟩)), (46, .int .i64 e.2.2), (47, .pointer (some ⟨g12, 2, none⟩)), (48, .int .i64 f.2.2), (49, .agg #[.int .i64 e.2.2, .int .i64 f.2.2])]
        (cellH h7 ⟨g10, 2, none⟩ = some (.int .i64 e.2.2) ∧ cellH h7 ⟨g12, 2, none⟩ = some (.int .i64 f.2.2))
        (by as_aux_lemma => kernel_rfl) ⟨(hBg10_h4.at (hMh7.ext_new (hE5.trans hEg12) hng12 hE5) 2 rfl), (hBg12_h7.at (Ext.refl _) 2 rfl)⟩ fun s_ => ?_
      refine Run.new #[.int .i64 0, .int .i64 0] 41 (fun g_ => .pointer (some ⟨g_, 0, none⟩)) (some 13) (atS Tryz.f88 [1,9,1,1,1,0,1,2,3,1,1,0,2,1,0,1,2,3,1,1,0,2,1,0,8,6]) (by as_aux_lemma => kernel_rfl) fun g13 h8 hng13 hEg13 hBg13 => ?_
      refine Run.store g13 0 [.int .i64 e.2.2, .int .i64 f.2.2] (atS Tryz.f88 [1,9,1,1,1,0,1,2,3,1,1,0,2,1,0,1,2,3,1,1,0,2,1,0,8,7]) (by as_aux_lemma => kernel_rfl) (hBg13.ext (Ext.refl _)) (by simp) rfl fun h9 hMh9 hzh9 (hBg13_h9 : Blk h9 g13 #[.int .i64 e.2.2, .int .i64 f.2.2] 41) => ?_

      have hE0H := (hMh9.ext_new ((hMh7.ext_new (hE05.trans hEg12) hng12 hE05).trans hEg13) hng13 (hMh7.ext_new (hE05.trans hEg12) hng12 hE05))
      have hE4H := (hMh9.ext_new ((hMh7.ext_new (hE5.trans hEg12) hng12 hE5).trans hEg13) hng13 (hMh7.ext_new (hE5.trans hEg12) hng12 hE5))
      have hE5H := (hMh9.ext_new ((hMh7.ext_new hEg12 hng12 (Ext.refl _)).trans hEg13) hng13 (hMh7.ext_new hEg12 hng12 (Ext.refl _)))
      have hMp := T.map.ext hE0H
      have next : ¬ Good2 m false e f → ∀ j : Nat, j < k + 1 → ¬ Good2 m false e (ed (outL l.es b) j) := fun hno j hj => by
        by_cases e3 : j = k
        · subst e3; rw [hed2]; exact hno
        · exact hK j (by omega)
      by_cases e1 : e.2.1 = f.2.1
      · cases hf : mfind m (e.2.2, f.2.2) with
        | some v =>
          obtain rfl : v = 1 := by
            obtain ⟨x, hx, rfl⟩ := mfind_mem hf
            exact T.ones x hx
          -- at 191110127
          refine Run.adv 16 [.lit, .draw, .val (.int .i64 e.2.1), .val (.int .i64 f.2.1), .dec true, .lit, .lit, .lit, .val (.map (some r)), .lit, .val (.agg #[.int .i64 e.2.2, .int .i64 f.2.2]), .lit, .say (.int .i64 1), .lit, .lit] (atS Tryz.f88 [1,9,1,1,1,0,1,2,7]) [(0, .pointer (some ⟨g, 0, none⟩)), (2, .bool false), (7, .int .i64 a), (8, .int .i64 b), (27, .slice (some ⟨b1, o1, none⟩) ((outL l.es a).length) c1), (28, .int .i64 ((outL l.es a).length : Int)), (29, .int .i64 ((i + 1 : Nat) : Int))]
            (LexOk (opsAt (atS Tryz.f88 [1,9,1,1,1,0,1,2,3,1,1,0,2,1,0,1,2,3,1,1,0,2,1,1,1,0])) ∧ cellH h9 ⟨g10, 1, none⟩ = some (.int .i64 e.2.1) ∧ cellH h9 ⟨g12, 1, none⟩ = some (.int .i64 f.2.1) ∧ (e.2.1 == f.2.1) = true ∧ cellH h9 ⟨g, 1, none⟩ = some (.map (some r)) ∧ cellsAt h9 ⟨g13, 0, none⟩ [.int .i64 e.2.2, .int .i64 f.2.2] 0 ∧ Says Tryz.prog (Instr.lookup 73 (.map (some r)) (.agg #[.int .i64 e.2.2, .int .i64 f.2.2]) false) (.int .i64 1) h9 ∧ (-9223372036854775808 ≤ (i : Int) + 1 ∧ (i : Int) + 1 ≤ 9223372036854775807))
            (by as_aux_lemma => kernel_rfl) ⟨lx_88_19111012311021012311021110, (hBg10_h4.at (hMh9.ext_new ((hMh7.ext_new (hE5.trans hEg12) hng12 hE5).trans hEg13) hng13 (hMh7.ext_new (hE5.trans hEg12) hng12 hE5)) 1 rfl), (hBg12_h7.at (hMh9.ext_new hEg13 hng13 (Ext.refl _)) 1 rfl), (beq_iff_eq.2 (by first | omega | assumption)), (hBg.at (hMh9.ext_new ((hMh7.ext_new (hE05.trans hEg12) hng12 hE05).trans hEg13) hng13 (hMh7.ext_new (hE05.trans hEg12) hng12 hE05)) 1 rfl), (hBg13_h9.all (Ext.refl _)), (MapAt.lookup1 hMp array_map key2 (e.2.2, f.2.2) hf), ⟨by omega, by omega⟩⟩ fun s_ => ?_
          refine again (i + 1) _ _ ⟨by omega, fun j hj => ?_, hE.trans (hE25.trans hE5H)⟩ (by omega)
          by_cases e3 : j = i
          · subst e3
            rw [hed]
            exact ⟨f, hmem2, e1, by unfold InM; simp only [Bool.false_eq_true, if_false, if_true]; rw [hf]; simp⟩
          · exact hIi j hj e3
        | none =>
          -- at 191110123110210127
          refine Run.adv 17 [.lit, .draw, .val (.int .i64 e.2.1), .val (.int .i64 f.2.1), .dec true, .lit, .lit, .lit, .val (.map (some r)), .lit, .val (.agg #[.int .i64 e.2.2, .int .i64 f.2.2]), .lit, .say (.int .i64 0), .lit, .lit] (atS Tryz.f88 [1,9,1,1,1,0,1,2,3,1,1,0,2,1,0,1,2,7]) [(0, .pointer (some ⟨g, 0, none⟩)), (2, .bool false), (7, .int .i64 a), (8, .int .i64 b), (10, .pointer (some ⟨g10, 0, none⟩)), (27, .slice (some ⟨b1, o1, none⟩) ((outL l.es a).length) c1), (28, .int .i64 ((outL l.es a).length : Int)), (29, .int .i64 (i : Int)), (39, .slice (some ⟨b2, o2, none⟩) ((outL l.es b).length) c2), (40, .int .i64 ((outL l.es b).length : Int)), (41, .int .i64 ((k + 1 : Nat) : Int))]
            (LexOk (opsAt (atS Tryz.f88 [1,9,1,1,1,0,1,2,3,1,1,0,2,1,0,1,2,3,1,1,0,2,1,1,1,0])) ∧ cellH h9 ⟨g10, 1, none⟩ = some (.int .i64 e.2.1) ∧ cellH h9 ⟨g12, 1, none⟩ = some (.int .i64 f.2.1) ∧ (e.2.1 == f.2.1) = true ∧ cellH h9 ⟨g, 1, none⟩ = some (.map (some r)) ∧ cellsAt h9 ⟨g13, 0, none⟩ [.int .i64 e.2.2, .int .i64 f.2.2] 0 ∧ Says Tryz.prog (Instr.lookup 73 (.map (some r)) (.agg #[.int .i64 e.2.2, .int .i64 f.2.2]) false) (.int .i64 0) h9 ∧ (-9223372036854775808 ≤ (k : Int) + 1 ∧ (k : Int) + 1 ≤ 9223372036854775807))
            (by as_aux_lemma => kernel_rfl) ⟨lx_88_19111012311021012311021110, (hBg10_h4.at (hMh9.ext_new ((hMh7.ext_new (hE5.trans hEg12) hng12 hE5).trans hEg13) hng13 (hMh7.ext_new (hE5.trans hEg12) hng12 hE5)) 1 rfl), (hBg12_h7.at (hMh9.ext_new hEg13 hng13 (Ext.refl _)) 1 rfl), (beq_iff_eq.2 (by first | omega | assumption)), (hBg.at (hMh9.ext_new ((hMh7.ext_new (hE05.trans hEg12) hng12 hE05).trans hEg13) hng13 (hMh7.ext_new (hE05.trans hEg12) hng12 hE05)) 1 rfl), (hBg13_h9.all (Ext.refl _)), (MapAt.missing1 (k := (e.2.2, f.2.2)) (z := .int .i64 0) hMp array_map key2 zero_i hf), ⟨by omega, by omega⟩⟩ fun s_ => ?_
          exact again2 (k + 1) _ _ ⟨by omega, next (fun hh => by have := hh.2; unfold InM at this; simp only [Bool.false_eq_true, if_false, if_true] at this; exact this hf), hE5.trans hE5H⟩ (by omega)
      · -- at 191110123110210127
        refine Run.adv 17 [.lit, .draw, .val (.int .i64 e.2.1), .val (.int .i64 f.2.1), .dec false, .lit, .lit, .lit, .lit, .lit, .lit, .lit] (atS Tryz.f88 [1,9,1,1,1,0,1,2,3,1,1,0,2,1,0,1,2,7]) [(0, .pointer (some ⟨g, 0, none⟩)), (2, .bool false), (7, .int .i64 a), (8, .int .i64 b), (10, .pointer (some ⟨g10, 0, none⟩)), (27, .slice (some ⟨b1, o1, none⟩) ((outL l.es a).length) c1), (28, .int .i64 ((outL l.es a).length : Int)), (29, .int .i64 (i : Int)), (39, .slice (some ⟨b2, o2, none⟩) ((outL l.es b).length) c2), (40, .int .i64 ((outL l.es b).length : Int)), (41, .int .i64 ((k + 1 : Nat) : Int))]
          (LexOk (opsAt (atS Tryz.f88 [1,9,1,1,1,0,1,2,3,1,1,0,2,1,0,1,2,3,1,1,0,2,1,1,1,0])) ∧ cellH h9 ⟨g10, 1, none⟩ = some (.int .i64 e.2.1) ∧ cellH h9 ⟨g12, 1, none⟩ = some (.int .i64 f.2.1) ∧ (e.2.1 == f.2.1) = false ∧ (-9223372036854775808 ≤ (k : Int) + 1 ∧ (k : Int) + 1 ≤ 9223372036854775807))
          (by as_aux_lemma => kernel_rfl) ⟨lx_88_19111012311021012311021110, (hBg10_h4.at (hMh9.ext_new ((hMh7.ext_new (hE5.trans hEg12) hng12 hE5).trans hEg13) hng13 (hMh7.ext_new (hE5.trans hEg12) hng12 hE5)) 1 rfl), (hBg12_h7.at (hMh9.ext_new hEg13 hng13 (Ext.refl _)) 1 rfl), (beq_eq_false_iff_ne.2 (by first | omega | assumption)), ⟨by omega, by omega⟩⟩ fun s_ => ?_
        exact again2 (k + 1) _ _ ⟨by omega, next (fun hh => e1 hh.1), hE5.trans hE5H⟩ (by omega)
    · -- at 1911101231102111
      refine Run.adv 11 [.dec false] (atS Tryz.f88 [1,9,1,1,1,0,1,2,3,1,1,0,2,1,1,1]) [(6, .bool false)]
        ((decide ((k : Int) < ((outL l.es b).length : Int))) = false)
        (by as_aux_lemma => kernel_rfl) (by first | assumption | exact decide_eq_false (by first | omega | assumption)) fun s_ => ?_
      refine Run.ret [] (.bool false) (True) Tryz.func88 (by as_aux_lemma => kernel_rfl) (by as_aux_lemma => kernel_rfl) trivial ?_
      refine ⟨?_, hE05⟩
      rw [tv_no]
      intro hh
      obtain ⟨f, hf, hg⟩ := hh e hmem
      obtain ⟨j, hj, rfl⟩ := mem_ed hf
      exact hK j (by omega) hg
  · -- at 1911111
    refine Run.adv 11 [.dec false] (atS Tryz.f88 [1,9,1,1,1,1,1]) [(6, .bool true)]
      ((decide ((i : Int) < ((outL l.es a).length : Int))) = false)
      (by as_aux_lemma => kernel_rfl) (by first | assumption | exact decide_eq_false (by first | omega | assumption)) fun s_ => ?_
    refine Run.ret [] (.bool true) (True) Tryz.func88 (by as_aux_lemma => kernel_rfl) (by as_aux_lemma => kernel_rfl) trivial ?_
    refine ⟨?_, hE02⟩
    rw [tv_yes]
    intro e he
    obtain ⟨j, hj, rfl⟩ := mem_ed he
    exact hI j (by omega)
set_option maxHeartbeats 1000000 in
theorem followsT_ct (g g5 r n B : Nat) (l : Lt) (vs : List Value) (ess : List (List Ed)) (m : Pm) (a b : Int) (h : Heap) (T : Tbl h g g5 r l n B vs ess m) (hm : May l) (hn : l.n = (n : Int)) (ha : 0 ≤ a ∧ a < n) (hb : 0 ≤ b ∧ b < n) :
    Ct Tryz.prog 88 #[.pointer (some ⟨g, 0, none⟩), .agg #[.int .i64 a, .int .i64 b], .bool true] h (fun v h' => v = .bool (tv (FollP l m true b a)) ∧ Ext h h') := by
  have hlen := hm.len
  have hBg := T.blk
  have hol := outL_len l.es b
  have hol2 := outL_len l.es a
  refine Ct.enter (args := [.pointer (some ⟨g, 0, none⟩), .agg #[.int .i64 a, .int .i64 b], .bool true]) Tryz.func88 rfl Tryz.ntmps88 (by simp) fun w hw => ?_
  -- at 080
  refine Run.adv 2 [] (at_ Tryz.f88 [0,8,0]) [(0, .pointer (some ⟨g, 0, none⟩)), (1, .agg #[.int .i64 a, .int .i64 b]), (2, .bool true)]
    (True)
    (by as_aux_lemma => kernel_rfl) trivial fun s_ => ?_
  refine Run.new #[.int .i64 a, .int .i64 b] 41 (fun g_ => .pointer (some ⟨g_, 0, none⟩)) (some 4) (at_ Tryz.f88 [0,8,1]) (by as_aux_lemma => kernel_rfl) fun g4 h1 hng4 hEg4 hBg4 => ?_
  obtain ⟨A1, c1, hc1, hr1⟩ := (T.ext hEg4).row hlen (a := b) (by omega) (by omega)
  -- at 1
  refine Run.adv 2 [] (at_ Tryz.f88 [1]) [(0, .pointer (some ⟨g, 0, none⟩)), (2, .bool true), (4, .pointer (some ⟨g4, 0, none⟩))]
    (True)
    (by as_aux_lemma => kernel_rfl) trivial fun s_ => ?_
  refine Run.scope (atS Tryz.f88 [1,9]) (by as_aux_lemma => kernel_rfl) ?_
  -- at 19110
  refine Run.adv 15 [.draw, .val (.int .i64 a), .val (.int .i64 b), .lit] (atS Tryz.f88 [1,9,1,1,0]) [(0, .pointer (some ⟨g, 0, none⟩)), (2, .bool true), (7, .int .i64 b), (8, .int .i64 a)]
    (LexOk (opsAt (atS Tryz.f88 [1,9,0])) ∧ (0 ≤ (0 : Int) ∧ (0 : Int) < 2) ∧ cellH h1 ⟨g4, 0, none⟩ = some (.int .i64 a) ∧ (0 ≤ (1 : Int) ∧ (1 : Int) < 2) ∧ cellH h1 ⟨g4, 1, none⟩ = some (.int .i64 b))
    (by as_aux_lemma => kernel_rfl) ⟨lx_88_190, ⟨by omega, by omega⟩, (hBg4.at (Ext.refl _) 0 rfl), ⟨by omega, by omega⟩, (hBg4.at (Ext.refl _) 1 rfl)⟩ fun s_ => ?_
  refine Run.label (atS Tryz.f88 [1,9,1,1,1]) (by as_aux_lemma => kernel_rfl) ?_
  -- at 19111012
  refine Run.adv 14 [.val (.slice (some ⟨g5, 0, none⟩) n n), .val (.slice A1 ((outL l.es b).length) c1)] (atS Tryz.f88 [1,9,1,1,1,0,1,2]) [(0, .pointer (some ⟨g, 0, none⟩)), (2, .bool true), (7, .int .i64 b), (8, .int .i64 a), (27, .slice A1 ((outL l.es b).length) c1), (28, .int .i64 ((outL l.es b).length : Int)), (29, .int .i64 0)]
    (cellH h1 ⟨g, 0, none⟩ = some (.slice (some ⟨g5, 0, none⟩) n n) ∧ (0 ≤ b ∧ b < (n : Int)) ∧ cellH h1 ⟨g5, 0 + b.toNat, none⟩ = some (.slice A1 ((outL l.es b).length) c1))
    (by as_aux_lemma => kernel_rfl) ⟨(hBg.at hEg4 0 rfl), ⟨by omega, by omega⟩, (hc1)⟩ fun s_ => ?_
  refine Run.loop (atS Tryz.f88 [1,9,1,1,1,0,1,2,3]) (atS Tryz.f88 [1,9,1,1,1,0,1,2,7]) (fun i : Nat => [(0, .pointer (some ⟨g, 0, none⟩)), (2, .bool true), (7, .int .i64 b), (8, .int .i64 a), (27, .slice A1 ((outL l.es b).length) c1), (28, .int .i64 ((outL l.es b).length : Int)), (29, .int .i64 (i : Int))])
    (fun i h2 => i ≤ (outL l.es b).length ∧ (∀ j : Nat, j < i → ∃ f ∈ outL l.es a, Good2 m true (ed (outL l.es b) j) f) ∧ Ext h1 h2) (fun i => (outL l.es b).length - i) 0 (by as_aux_lemma => kernel_rfl) rfl ?_ ?_
  · exact ⟨Nat.zero_le _, fun j hj => by omega, Ext.refl _⟩
  rintro i s_ h2 ⟨hi, hI, hE⟩ again
  have hE02 := hEg4.trans hE
  by_cases hlt : i < (outL l.es b).length
  · obtain ⟨b1, o1, rfl, hp1⟩ := hr1.open_ (by omega)
    have hpe := hp1 _ hE (i : Int) (by omega) (by omega)
    have hmem := ed_mem _ i hlt
    rw [show (outL l.es b).getD (i : Int).toNat (0, 0, 0) = ed (outL l.es b) (i : Int) from rfl] at hpe
    have hIi : ∀ j : Nat, j < i + 1 → j ≠ i → ∃ f ∈ outL l.es a, Good2 m true (ed (outL l.es b) j) f := fun j h1 h2 => hI j (by omega)
    generalize hed : ed (outL l.es b) (i : Int) = e at hpe hmem
    have hl4 := hBg4.lt
    have hz12 := hE.size
    -- at 1911101231102082
    refine Run.adv 13 [.dec true, .val (.agg #[.int .i64 e.1, .int .i64 e.2.1, .int .i64 e.2.2])] (atS Tryz.f88 [1,9,1,1,1,0,1,2,3,1,1,0,2,0,8,2]) [(0, .pointer (some ⟨g, 0, none⟩)), (2, .bool true), (7, .int .i64 b), (8, .int .i64 a), (27, .slice (some ⟨b1, o1, none⟩) ((outL l.es b).length) c1), (28, .int .i64 ((outL l.es b).length : Int)), (29, .int .i64 (i : Int)), (32, .agg #[.int .i64 e.1, .int .i64 e.2.1, .int .i64 e.2.2])]
      ((decide ((i : Int) < ((outL l.es b).length : Int))) = true ∧ (0 ≤ (i : Int) ∧ (i : Int) < ((outL l.es b).length : Int)) ∧ cellsAt h2 ⟨b1, o1 + (i : Int).toNat * 3, none⟩ [.int .i64 e.1, .int .i64 e.2.1, .int .i64 e.2.2] 0)
      (by as_aux_lemma => kernel_rfl) ⟨(by first | assumption | exact decide_eq_true (by first | omega | assumption)), ⟨by omega, by omega⟩, (by exact hpe)⟩ fun s_ => ?_
    have hgB := hBg.lt
    have hs2 := hE02.size
    refine Run.new #[.int .i64 0, .int .i64 0, .int .i64 0] 64 (fun g_ => .pointer (some ⟨g_, 0, none⟩)) (some 10) (atS Tryz.f88 [1,9,1,1,1,0,1,2,3,1,1,0,2,0,8,3]) (by as_aux_lemma => kernel_rfl) fun g10 h3 hng10 hEg10 hBg10 => ?_
    refine Run.store g10 0 [.int .i64 e.1, .int .i64 e.2.1, .int .i64 e.2.2] (atS Tryz.f88 [1,9,1,1,1,0,1,2,3,1,1,0,2,0,8,4]) (by as_aux_lemma => kernel_rfl) (hBg10.ext (Ext.refl _)) (by simp) rfl fun h4 hMh4 hzh4 (hBg10_h4 : Blk h4 g10 #[.int .i64 e.1, .int .i64 e.2.1, .int .i64 e.2.2] 64) => ?_
    have hE24 := (hMh4.ext_new hEg10 hng10 (Ext.refl _))
    have hE04 := (hMh4.ext_new (hE02.trans hEg10) hng10 hE02)
    obtain ⟨A2, c2, hc2, hr2⟩ := (T.ext hE04).row hlen (a := a) (by omega) (by omega)
    -- at 19111012311021012
    refine Run.adv 15 [.val (.slice (some ⟨g5, 0, none⟩) n n), .val (.slice A2 ((outL l.es a).length) c2)] (atS Tryz.f88 [1,9,1,1,1,0,1,2,3,1,1,0,2,1,0,1,2]) [(0, .pointer (some ⟨g, 0, none⟩)), (2, .bool true), (7, .int .i64 b), (8, .int .i64 a), (10, .pointer (some ⟨g10, 0, none⟩)), (27, .slice (some ⟨b1, o1, none⟩) ((outL l.es b).length) c1), (28, .int .i64 ((outL l.es b).length : Int)), (29, .int .i64 (i : Int)), (39, .slice A2 ((outL l.es a).length) c2), (40, .int .i64 ((outL l.es a).length : Int)), (41, .int .i64 0)]
      (cellH h4 ⟨g, 0, none⟩ = some (.slice (some ⟨g5, 0, none⟩) n n) ∧ (0 ≤ a ∧ a < (n : Int)) ∧ cellH h4 ⟨g5, 0 + a.toNat, none⟩ = some (.slice A2 ((outL l.es a).length) c2))
      (by as_aux_lemma => kernel_rfl) ⟨(hBg.at (hMh4.ext_new (hE02.trans hEg10) hng10 hE02) 0 rfl), ⟨by omega, by omega⟩, (hc2)⟩ fun s_ => ?_
    refine Run.loop (atS Tryz.f88 [1,9,1,1,1,0,1,2,3,1,1,0,2,1,0,1,2,3]) (atS Tryz.f88 [1,9,1,1,1,0,1,2,3,1,1,0,2,1,0,1,2,7]) (fun k : Nat => [(0, .pointer (some ⟨g, 0, none⟩)), (2, .bool true), (7, .int .i64 b), (8, .int .i64 a), (10, .pointer (some ⟨g10, 0, none⟩)), (27, .slice (some ⟨b1, o1, none⟩) ((outL l.es b).length) c1), (28, .int .i64 ((outL l.es b).length : Int)), (29, .int .i64 (i : Int)), (39, .slice A2 ((outL l.es a).length) c2), (40, .int .i64 ((outL l.es a).length : Int)), (41, .int .i64 (k : Int))])
      (fun k h5 => k ≤ (outL l.es a).length ∧ (∀ j : Nat, j < k → ¬ Good2 m true e (ed (outL l.es a) j)) ∧ Ext h4 h5) (fun k => (outL l.es a).length - k) 0 (by as_aux_lemma => kernel_rfl) rfl ?_ ?_
    · exact ⟨Nat.zero_le _, fun j hj => by omega, Ext.refl _⟩
    rintro k s_ h5 ⟨hk, hK, hE5⟩ again2
    have hE05 := hE04.trans hE5
    have hE25 := hE24.trans hE5
    by_cases hlt2 : k < (outL l.es a).length
    · obtain ⟨b2, o2, rfl, hp2⟩ := hr2.open_ (by omega)
      have hpf := hp2 _ hE5 (k : Int) (by omega) (by omega)
      have hmem2 := ed_mem _ k hlt2
      rw [show (outL l.es a).getD (k : Int).toNat (0, 0, 0) = ed (outL l.es a) (k : Int) from rfl] at hpf
      generalize hed2 : ed (outL l.es a) (k : Int) = f at hpf hmem2
      -- at 1911101231102101231102082
      refine Run.adv 13 [.dec true, .val (.agg #[.int .i64 f.1, .int .i64 f.2.1, .int .i64 f.2.2])] (atS Tryz.f88 [1,9,1,1,1,0,1,2,3,1,1,0,2,1,0,1,2,3,1,1,0,2,0,8,2]) [(0, .pointer (some ⟨g, 0, none⟩)), (2, .bool true), (7, .int .i64 b), (8, .int .i64 a), (10, .pointer (some ⟨g10, 0, none⟩)), (27, .slice (some ⟨b1, o1, none⟩) ((outL l.es b).length) c1), (28, .int .i64 ((outL l.es b).length : Int)), (29, .int .i64 (i : Int)), (39, .slice (some ⟨b2, o2, none⟩) ((outL l.es a).length) c2), (40, .int .i64 ((outL l.es a).length : Int)), (41, .int .i64 (k : Int)), (44, .agg #[.int .i64 f.1, .int .i64 f.2.1, .int .i64 f.2.2])]
        ((decide ((k : Int) < ((outL l.es a).length : Int))) = true ∧ (0 ≤ (k : Int) ∧ (k : Int) < ((outL l.es a).length : Int)) ∧ cellsAt h5 ⟨b2, o2 + (k : Int).toNat * 3, none⟩ [.int .i64 f.1, .int .i64 f.2.1, .int .i64 f.2.2] 0)
        (by as_aux_lemma => kernel_rfl) ⟨(by first | assumption | exact decide_eq_true (by first | omega | assumption)), ⟨by omega, by omega⟩, (by exact hpf)⟩ fun s_ => ?_
      have hs5 := hE05.size
      have hl10 := hBg10_h4.lt
      have hs45 := hE5.size
      refine Run.new #[.int .i64 0, .int .i64 0, .int .i64 0] 64 (fun g_ => .pointer (some ⟨g_, 0, none⟩)) (some 12) (atS Tryz.f88 [1,9,1,1,1,0,1,2,3,1,1,0,2,1,0,1,2,3,1,1,0,2,0,8,3]) (by as_aux_lemma => kernel_rfl) fun g12 h6 hng12 hEg12 hBg12 => ?_
      refine Run.store g12 0 [.int .i64 f.1, .int .i64 f.2.1, .int .i64 f.2.2] (atS Tryz.f88 [1,9,1,1,1,0,1,2,3,1,1,0,2,1,0,1,2,3,1,1,0,2,0,8,4]) (by as_aux_lemma => kernel_rfl) (hBg12.ext (Ext.refl _)) (by simp) rfl fun h7 hMh7 hzh7 (hBg12_h7 : Blk h7 g12 #[.int .i64 f.1, .int .i64 f.2.1, .int .i64 f.2.2] 64) => ?_
      have hl12 := hBg12_h7.lt
      -- at 19111012311021012311021085
      refine Run.adv 8 [.val (.int .i64 e.2.2), .val (.int .i64 f.2.2)] (atS Tryz.f88 [1,9,1,1,1,0,1,2,3,1,1,0,2,1,0,1,2,3,1,1,0,2,1,0,8,5]) [(0, .pointer (some ⟨g, 0, none⟩)), (2, .bool true), (7, .int .i64 b), (8, .int .i64 a), (10, .pointer (some ⟨g10, 0, none⟩)), (12, .pointer (some ⟨g12, 0, none⟩)), (27, .slice (some ⟨b1, o1, none⟩) ((outL l.es b).length) c1), (28, .int .i64 ((outL l.es b).length : Int)), (29, .int .i64 (i : Int)), (39, .slice (some ⟨b2, o2, none⟩) ((outL l.es a).length) c2), (40, .int .i64 ((outL l.es a).length : Int)), (41, .int .i64 (k : Int)), (44, .agg #[.int .i64 f.1, .int .i64 f.2.1, .int .i64 f.2.2]), (45, .pointer (some ⟨g10, 2, none⟩)), (46, .int .i64 e.2.2), (47, .pointer (some ⟨g12, 2, none⟩)), (48, .int .i64 f.2.2), (49, .agg #[.int .i64 e.2.2, .int .i64 f.2.2])]
        (cellH h7 ⟨g10, 2, none⟩ = some (.int .i64 e.2.2) ∧ cellH h7 ⟨g12, 2, none⟩ = some (.int .i64 f.2.2))
        (by as_aux_lemma => kernel_rfl) ⟨(hBg10_h4.at (hMh7.ext_new (hE5.trans hEg12) hng12 hE5) 2 rfl), (hBg12_h7.at (Ext.refl _) 2 rfl)⟩ fun s_ => ?_
      refine Run.new #[.int .i64 0, .int .i64 0] 41 (fun g_ => .pointer (some ⟨g_, 0, none⟩)) (some 13) (atS Tryz.f88 [1,9,1,1,1,0,1,2,3,1,1,0,2,1,0,1,2,3,1,1,0,2,1,0,8,6]) (by as_aux_lemma => kernel_rfl) fun g13 h8 hng13 hEg13 hBg13 => ?_
      refine Run.store g13 0 [.int .i64 e.2.2, .int .i64 f.2.2] (atS Tryz.f88 [1,9,1,1,1,0,1,2,3,1,1,0,2,1,0,1,2,3,1,1,0,2,1,0,8,7]) (by as_aux_lemma => kernel_rfl) (hBg13.ext (Ext.refl _)) (by simp) rfl fun h9 hMh9 hzh9 (hBg13_h9 : Blk h9 g13 #[.int .i64 e.2.2, .int .i64 f.2.2] 41) => ?_
      -- at 19111012311021012311021101485
      refine Run.adv 13 [.lit, .val (.int .i64 f.2.2), .val (.int .i64 e.2.2)] (atS Tryz.f88 [1,9,1,1,1,0,1,2,3,1,1,0,2,1,0,1,2,3,1,1,0,2,1,1,0,1,4,8,5]) [(0, .pointer (some ⟨g, 0, none⟩)), (2, .bool true), (7, .int .i64 b), (8, .int .i64 a), (10, .pointer (some ⟨g10, 0, none⟩)), (12, .pointer (some ⟨g12, 0, none⟩)), (13, .pointer (some ⟨g13, 0, none⟩)), (27, .slice (some ⟨b1, o1, none⟩) ((outL l.es b).length) c1), (28, .int .i64 ((outL l.es b).length : Int)), (29, .int .i64 (i : Int)), (39, .slice (some ⟨b2, o2, none⟩) ((outL l.es a).length) c2), (40, .int .i64 ((outL l.es a).length : Int)), (41, .int .i64 (k : Int)), (44, .agg #[.int .i64 f.1, .int .i64 f.2.1, .int .i64 f.2.2]), (45, .pointer (some ⟨g10, 2, none⟩)), (46, .int .i64 e.2.2), (47, .pointer (some ⟨g12, 2, none⟩)), (48, .int .i64 f.2.2), (49, .agg #[.int .i64 e.2.2, .int .i64 f.2.2]), (50, .bool true), (51, .pointer (some ⟨g12, 2, none⟩)), (52, .int .i64 f.2.2), (53, .pointer (some ⟨g10, 2, none⟩)), (54, .int .i64 e.2.2), (55, .agg #[.int .i64 f.2.2, .int .i64 e.2.2])]
        (cellH h9 ⟨g12, 2, none⟩ = some (.int .i64 f.2.2) ∧ cellH h9 ⟨g10, 2, none⟩ = some (.int .i64 e.2.2))
        (by as_aux_lemma => kernel_rfl) ⟨(hBg12_h7.at (hMh9.ext_new hEg13 hng13 (Ext.refl _)) 2 rfl), (hBg10_h4.at (hMh9.ext_new ((hMh7.ext_new (hE5.trans hEg12) hng12 hE5).trans hEg13) hng13 (hMh7.ext_new (hE5.trans hEg12) hng12 hE5)) 2 rfl)⟩ fun s_ => ?_
      refine Run.store g13 0 [.int .i64 f.2.2, .int .i64 e.2.2] (atS Tryz.f88 [1,9,1,1,1,0,1,2,3,1,1,0,2,1,0,1,2,3,1,1,0,2,1,1,0,1,4,8,6]) (by as_aux_lemma => kernel_rfl) (hBg13_h9.ext (Ext.refl _)) (by simp) rfl fun h10 hMh10 hzh10 (hBg13_h10 : Blk h10 g13 #[.int .i64 f.2.2, .int .i64 e.2.2] 41) => ?_
      have hE0H := (hMh10.ext_new (hMh9.ext_new ((hMh7.ext_new (hE05.trans hEg12) hng12 hE05).trans hEg13) hng13 (hMh7.ext_new (hE05.trans hEg12) hng12 hE05)) hng13 (hMh7.ext_new (hE05.trans hEg12) hng12 hE05))
      have hE4H := (hMh10.ext_new (hMh9.ext_new ((hMh7.ext_new (hE5.trans hEg12) hng12 hE5).trans hEg13) hng13 (hMh7.ext_new (hE5.trans hEg12) hng12 hE5)) hng13 (hMh7.ext_new (hE5.trans hEg12) hng12 hE5))
      have hE5H := (hMh10.ext_new (hMh9.ext_new ((hMh7.ext_new hEg12 hng12 (Ext.refl _)).trans hEg13) hng13 (hMh7.ext_new hEg12 hng12 (Ext.refl _))) hng13 (hMh7.ext_new hEg12 hng12 (Ext.refl _)))
      have hMp := T.map.ext hE0H
      have next : ¬ Good2 m true e f → ∀ j : Nat, j < k + 1 → ¬ Good2 m true e (ed (outL l.es a) j) := fun hno j hj => by
        by_cases e3 : j = k
        · subst e3; rw [hed2]; exact hno
        · exact hK j (by omega)
      by_cases e1 : e.2.1 = f.2.1
      · cases hf : mfind m (f.2.2, e.2.2) with
        | some v =>
          obtain rfl : v = 1 := by
            obtain ⟨x, hx, rfl⟩ := mfind_mem hf
            exact T.ones x hx
          -- at 191110127
          refine Run.adv 9 [.draw, .val (.int .i64 e.2.1), .val (.int .i64 f.2.1), .dec true, .lit, .lit, .lit, .val (.map (some r)), .lit, .val (.agg #[.int .i64 f.2.2, .int .i64 e.2.2]), .lit, .say (.int .i64 1), .lit, .lit] (atS Tryz.f88 [1,9,1,1,1,0,1,2,7]) [(0, .pointer (some ⟨g, 0, none⟩)), (2, .bool true), (7, .int .i64 b), (8, .int .i64 a), (27, .slice (some ⟨b1, o1, none⟩) ((outL l.es b).length) c1), (28, .int .i64 ((outL l.es b).length : Int)), (29, .int .i64 ((i + 1 : Nat) : Int))]
            (LexOk (opsAt (atS Tryz.f88 [1,9,1,1,1,0,1,2,3,1,1,0,2,1,0,1,2,3,1,1,0,2,1,1,1,0])) ∧ cellH h10 ⟨g10, 1, none⟩ = some (.int .i64 e.2.1) ∧ cellH h10 ⟨g12, 1, none⟩ = some (.int .i64 f.2.1) ∧ (e.2.1 == f.2.1) = true ∧ cellH h10 ⟨g, 1, none⟩ = some (.map (some r)) ∧ cellsAt h10 ⟨g13, 0, none⟩ [.int .i64 f.2.2, .int .i64 e.2.2] 0 ∧ Says Tryz.prog (Instr.lookup 73 (.map (some r)) (.agg #[.int .i64 f.2.2, .int .i64 e.2.2]) false) (.int .i64 1) h10 ∧ (-9223372036854775808 ≤ (i : Int) + 1 ∧ (i : Int) + 1 ≤ 9223372036854775807))
            (by as_aux_lemma => kernel_rfl) ⟨lx_88_19111012311021012311021110, (hBg10_h4.at (hMh10.ext_new (hMh9.ext_new ((hMh7.ext_new (hE5.trans hEg12) hng12 hE5).trans hEg13) hng13 (hMh7.ext_new (hE5.trans hEg12) hng12 hE5)) hng13 (hMh7.ext_new (hE5.trans hEg12) hng12 hE5)) 1 rfl), (hBg12_h7.at (hMh10.ext_new (hMh9.ext_new hEg13 hng13 (Ext.refl _)) hng13 (Ext.refl _)) 1 rfl), (beq_iff_eq.2 (by first | omega | assumption)), (hBg.at (hMh10.ext_new (hMh9.ext_new ((hMh7.ext_new (hE05.trans hEg12) hng12 hE05).trans hEg13) hng13 (hMh7.ext_new (hE05.trans hEg12) hng12 hE05)) hng13 (hMh7.ext_new (hE05.trans hEg12) hng12 hE05)) 1 rfl), (hBg13_h10.all (Ext.refl _)), (MapAt.lookup1 hMp array_map key2 (f.2.2, e.2.2) hf), ⟨by omega, by omega⟩⟩ fun s_ => ?_
          refine again (i + 1) _ _ ⟨by omega, fun j hj => ?_, hE.trans (hE25.trans hE5H)⟩ (by omega)
          by_cases e3 : j = i
          · subst e3
            rw [hed]
            exact ⟨f, hmem2, e1, by unfold InM; simp only [Bool.false_eq_true, if_false, if_true]; rw [hf]; simp⟩
          · exact hIi j hj e3
        | none =>
          -- at 191110123110210127
          refine Run.adv 10 [.draw, .val (.int .i64 e.2.1), .val (.int .i64 f.2.1), .dec true, .lit, .lit, .lit, .val (.map (some r)), .lit, .val (.agg #[.int .i64 f.2.2, .int .i64 e.2.2]), .lit, .say (.int .i64 0), .lit, .lit] (atS Tryz.f88 [1,9,1,1,1,0,1,2,3,1,1,0,2,1,0,1,2,7]) [(0, .pointer (some ⟨g, 0, none⟩)), (2, .bool true), (7, .int .i64 b), (8, .int .i64 a), (10, .pointer (some ⟨g10, 0, none⟩)), (27, .slice (some ⟨b1, o1, none⟩) ((outL l.es b).length) c1), (28, .int .i64 ((outL l.es b).length : Int)), (29, .int .i64 (i : Int)), (39, .slice (some ⟨b2, o2, none⟩) ((outL l.es a).length) c2), (40, .int .i64 ((outL l.es a).length : Int)), (41, .int .i64 ((k + 1 : Nat) : Int))]
            (LexOk (opsAt (atS Tryz.f88 [1,9,1,1,1,0,1,2,3,1,1,0,2,1,0,1,2,3,1,1,0,2,1,1,1,0])) ∧ cellH h10 ⟨g10, 1, none⟩ = some (.int .i64 e.2.1) ∧ cellH h10 ⟨g12, 1, none⟩ = some (.int .i64 f.2.1) ∧ (e.2.1 == f.2.1) = true ∧ cellH h10 ⟨g, 1, none⟩ = some (.map (some r)) ∧ cellsAt h10 ⟨g13, 0, none⟩ [.int .i64 f.2.2, .int .i64 e.2.2] 0 ∧ Says Tryz.prog (Instr.lookup 73 (.map (some r)) (.agg #[.int .i64 f.2.2, .int .i64 e.2.2]) false) (.int .i64 0) h10 ∧ (-9223372036854775808 ≤ (k : Int) + 1 ∧ (k : Int) + 1 ≤ 9223372036854775807))
            (by as_aux_lemma => kernel_rfl) ⟨lx_88_19111012311021012311021110, (hBg10_h4.at (hMh10.ext_new (hMh9.ext_new ((hMh7.ext_new (hE5.trans hEg12) hng12 hE5).trans hEg13) hng13 (hMh7.ext_new (hE5.trans hEg12) hng12 hE5)) hng13 (hMh7.ext_new (hE5.trans hEg12) hng12 hE5)) 1 rfl), (hBg12_h7.at (hMh10.ext_new (hMh9.ext_new hEg13 hng13 (Ext.refl _)) hng13 (Ext.refl _)) 1 rfl), (beq_iff_eq.2 (by first | omega | assumption)), (hBg.at (hMh10.ext_new (hMh9.ext_new ((hMh7.ext_new (hE05.trans hEg12) hng12 hE05).trans hEg13) hng13 (hMh7.ext_new (hE05.trans hEg12) hng12 hE05)) hng13 (hMh7.ext_new (hE05.trans hEg12) hng12 hE05)) 1 rfl), (hBg13_h10.all (Ext.refl _)), (MapAt.missing1 (k := (f.2.2, e.2.2)) (z := .int .i64 0) hMp array_map key2 zero_i hf), ⟨by omega, by omega⟩⟩ fun s_ => ?_
          exact again2 (k + 1) _ _ ⟨by omega, next (fun hh => by have := hh.2; unfold InM at this; simp only [Bool.false_eq_true, if_false, if_true] at this; exact this hf), hE5.trans hE5H⟩ (by omega)
      · -- at 191110123110210127
        refine Run.adv 10 [.draw, .val (.int .i64 e.2.1), .val (.int .i64 f.2.1), .dec false, .lit, .lit, .lit, .lit, .lit, .lit, .lit] (atS Tryz.f88 [1,9,1,1,1,0,1,2,3,1,1,0,2,1,0,1,2,7]) [(0, .pointer (some ⟨g, 0, none⟩)), (2, .bool true), (7, .int .i64 b), (8, .int .i64 a), (10, .pointer (some ⟨g10, 0, none⟩)), (27, .slice (some ⟨b1, o1, none⟩) ((outL l.es b).length) c1), (28, .int .i64 ((outL l.es b).length : Int)), (29, .int .i64 (i : Int)), (39, .slice (some ⟨b2, o2, none⟩) ((outL l.es a).length) c2), (40, .int .i64 ((outL l.es a).length : Int)), (41, .int .i64 ((k + 1 : Nat) : Int))]
          (LexOk (opsAt (atS Tryz.f88 [1,9,1,1,1,0,1,2,3,1,1,0,2,1,0,1,2,3,1,1,0,2,1,1,1,0])) ∧ cellH h10 ⟨g10, 1, none⟩ = some (.int .i64 e.2.1) ∧ cellH h10 ⟨g12, 1, none⟩ = some (.int .i64 f.2.1) ∧ (e.2.1 == f.2.1) = false ∧ (-9223372036854775808 ≤ (k : Int) + 1 ∧ (k : Int) + 1 ≤ 9223372036854775807))
          (by as_aux_lemma => kernel_rfl) ⟨lx_88_19111012311021012311021110, (hBg10_h4.at (hMh10.ext_new (hMh9.ext_new ((hMh7.ext_new (hE5.trans hEg12) hng12 hE5).trans hEg13) hng13 (hMh7.ext_new (hE5.trans hEg12) hng12 hE5)) hng13 (hMh7.ext_new (hE5.trans hEg12) hng12 hE5)) 1 rfl), (hBg12_h7.at (hMh10.ext_new (hMh9.ext_new hEg13 hng13 (Ext.refl _)) hng13 (Ext.refl _)) 1 rfl), (beq_eq_false_iff_ne.2 (by first | omega | assumption)), ⟨by omega, by omega⟩⟩ fun s_ => ?_
        exact again2 (k + 1) _ _ ⟨by omega, next (fun hh => e1 hh.1), hE5.trans hE5H⟩ (by omega)
    · -- at 1911101231102111
      refine Run.adv 11 [.dec false] (atS Tryz.f88 [1,9,1,1,1,0,1,2,3,1,1,0,2,1,1,1]) [(6, .bool false)]
        ((decide ((k : Int) < ((outL l.es a).length : Int))) = false)
        (by as_aux_lemma => kernel_rfl) (by first | assumption | exact decide_eq_false (by first | omega | assumption)) fun s_ => ?_
      refine Run.ret [] (.bool false) (True) Tryz.func88 (by as_aux_lemma => kernel_rfl) (by as_aux_lemma => kernel_rfl) trivial ?_
      refine ⟨?_, hE05⟩
      rw [tv_no]
      intro hh
      obtain ⟨f, hf, hg⟩ := hh e hmem
      obtain ⟨j, hj, rfl⟩ := mem_ed hf
      exact hK j (by omega) hg
  · -- at 1911111
    refine Run.adv 11 [.dec false] (atS Tryz.f88 [1,9,1,1,1,1,1]) [(6, .bool true)]
      ((decide ((i : Int) < ((outL l.es b).length : Int))) = false)
      (by as_aux_lemma => kernel_rfl) (by first | assumption | exact decide_eq_false (by first | omega | assumption)) fun s_ => ?_
    refine Run.ret [] (.bool true) (True) Tryz.func88 (by as_aux_lemma => kernel_rfl) (by as_aux_lemma => kernel_rfl) trivial ?_
    refine ⟨?_, hE02⟩
    rw [tv_yes]
    intro e he
    obtain ⟨j, hj, rfl⟩ := mem_ed he
    exact hI j (by omega)
end Go.Proofs.YtbajgbkkbabmlaaGreatDoor
