/- The engine's last part: arguments, as the row's form reads them, opened; a statement's frame. -/
import Derived.Test.YtbajgbkkbabmlaaGreatDoorVn
import Derived.Lib.SmallJoins
import Derived.Deep.Matrix
import Derived.Deep.Strs
import Derived.SliceStrings
import Derived.SizedLaws
import Derived.Carry
import Derived.ChangeCalls
import Derived.ProofKit
set_option linter.unusedVariables false
set_option linter.unusedSimpArgs false
namespace Go.Vc
open Go.ChangeShapes Go.WideShapes Go.Deep Go.RowKit

theorem cellH_spot {h : Heap} {a : Addr} {v : Value} (hc : cellH h a = some v) : a = ⟨a.block, a.off, none⟩ := by
  unfold cellH at hc
  split at hc
  · split at hc
    · cases hc
    · rename_i hs
      obtain ⟨b, o, s⟩ := a
      cases s with
      | none => rfl
      | some x => simp at hs
  · cases hc
theorem cellH_ext {h h' : Heap} {a : Addr} {v : Value} (hc : cellH h a = some v) (E : Ext h h') : cellH h' a = some v := by
  have := E.keep a.block (cellH_lt hc)
  unfold cellH at *
  rw [this]; exact hc
theorem add0 (a : Addr) : a.add 0 = a := by simp [Addr.add]
theorem row1_of {α : Type} {h : Heap} {a : Addr} {enc : α → Value} {d : α} {xs : List α} {cap : Nat} (hc : xs.length ≤ cap) (hm : xs.length ≤ 140737488351232) (hcell : ∀ i, i < xs.length → cellH h (a.add i) = some (enc (xs.getD i d))) : Row1 h (some a) enc d xs cap := by
  refine ⟨hm, hc, fun hp => ?_⟩
  have h0 := hcell 0 hp
  rw [add0] at h0
  have ha := cellH_spot h0
  refine ⟨a.block, a.off, congrArg some ha, fun h' E j j0 j1 => ?_⟩
  have := cellH_ext (hcell j.toNat (by omega)) E
  rw [ha, addr_add] at this
  exact this
theorem row1_nil {α : Type} {h : Heap} {enc : α → Value} {d : α} : Row1 h none enc d [] 0 := ⟨by simp, Nat.le_refl _, fun hp => absurd hp (by simp)⟩
theorem getD_take {α : Type} (l : List α) (n i : Nat) (d : α) (h : i < n) : (l.take n).getD i d = l.getD i d := by
  simp [List.getD_eq_getElem?_getD, List.getElem?_take, h]
section
variable {H : Type} {enc : TypeId × Value → H} {P : Program} {w : World}
/-- All slices and texts of a datum are within reach. -/
def InReach {H : Type} (P : Program) (t : TypeId) (d : DataW H) : Prop := ∀ n ∈ d.weights P t, n ≤ reachBytes
theorem open_Ints {t e : TypeId} {fuel : Nat} {cs : List Value} {x : DataW H × List MemPlace} (ht : P.underlying t = some (.slice e)) (he : P.underlying e = some (.int .i64)) (hc : P.cellsOf e = 1) (hb : 1 ≤ P.bytesOf e)
    (h : DataW.trod enc P w 0 (fun _ => true) true fuel t cs = some x) (hw : InReach P t x.1) : ∃ A c xs, cs = [.slice A xs.length c] ∧ Ints w.heap A xs c := by
  rcases open_ints ht he hc h with ⟨rfl, rfl⟩ | ⟨a, len, cap, zs, rfl, _, hl, _, hz, rfl, hcell, _⟩
  · exact ⟨none, 0, [], rfl, row1_nil⟩
  · simp only [if_true] at hz
    have hwt := hw (((lits .i64 (zs.take len) : List (DataW H)).length + (lits .i64 (zs.drop len) : List (DataW H)).length) * P.bytesOf e) (by simp [DataW.weights, ht])
    simp only [lits, List.length_map, List.length_take, List.length_drop] at hwt
    have h1 : min len zs.length + (zs.length - len) = zs.length := by omega
    rw [h1] at hwt
    have h2 := Nat.mul_le_mul_left zs.length hb
    have hr : reachBytes = 140737488351232 := rfl
    have hlen : (zs.take len).length = len := by rw [List.length_take]; omega
    refine ⟨some a, cap, zs.take len, by rw [hlen], row1_of (by omega) (by omega) fun i hi => ?_⟩
    rw [hlen] at hi
    rw [getD_take _ _ _ _ hi]
    exact hcell i (by omega)
theorem open_Strs {t e : TypeId} {fuel : Nat} {cs : List Value} {x : DataW H × List MemPlace} (ht : P.underlying t = some (.slice e)) (he : P.underlying e = some .string) (hc : P.cellsOf e = 1) (hb : 1 ≤ P.bytesOf e)
    (h : DataW.trod enc P w 0 (fun _ => true) true fuel t cs = some x) (hw : InReach P t x.1) : ∃ A c xs, cs = [.slice A xs.length c] ∧ Strs w.heap A xs c := by
  rcases open_strings ht he hc h with ⟨rfl, rfl⟩ | ⟨a, len, cap, zs, rfl, _, hl, _, hz, rfl, hcell, _⟩
  · exact ⟨none, 0, [], rfl, row1_nil⟩
  · simp only [if_true] at hz
    have hwt := hw (((strs (zs.take len) : List (DataW H)).length + (strs (zs.drop len) : List (DataW H)).length) * P.bytesOf e) (by simp [DataW.weights, ht])
    simp only [strs, List.length_map, List.length_take, List.length_drop] at hwt
    have h1 : min len zs.length + (zs.length - len) = zs.length := by omega
    rw [h1] at hwt
    have h2 := Nat.mul_le_mul_left zs.length hb
    have hr : reachBytes = 140737488351232 := rfl
    have hlen : (zs.take len).length = len := by rw [List.length_take]; omega
    refine ⟨some a, cap, zs.take len, by rw [hlen], row1_of (by omega) (by omega) fun i hi => ?_⟩
    rw [hlen] at hi
    rw [getD_take _ _ _ _ hi]
    exact hcell i (by omega)
/-- Three cells that read as a struct of three ints. -/
theorem open_three {e : TypeId} {f0 f1 f2 : Field} {n : Nat} {cs : List Value} {y : DataW H × List MemPlace} (he : P.underlying e = some (.struct #[f0, f1, f2])) (h0 : P.underlying f0.type = some (.int .i64)) (h1 : P.underlying f1.type = some (.int .i64)) (h2 : P.underlying f2.type = some (.int .i64))
    (o0 : f0.offset = 0) (o1 : f1.offset = 1) (o2 : f2.offset = 2) (c0 : P.cellsOf f0.type = 1) (c1 : P.cellsOf f1.type = 1) (c2 : P.cellsOf f2.type = 1) (hl : cs.length = 3)
    (h : DataW.trod enc P w 0 (fun _ => true) true n e cs = some y) : ∃ x : Ed, cs = encE x := by
  obtain ⟨y0, y1, y2, m, _, _, k0, k1, k2⟩ := trod_struct3 he h
  match cs, hl with
  | [a, b, c], _ =>
    rw [o0, c0] at k0
    rw [o1, c1] at k1
    rw [o2, c2] at k2
    obtain ⟨x0, e0, _, _⟩ := DataW.trod_int h0 k0
    obtain ⟨x1, e1, _, _⟩ := DataW.trod_int h1 k1
    obtain ⟨x2, e2, _, _⟩ := DataW.trod_int h2 k2
    simp at e0 e1 e2
    exact ⟨(x0, x1, x2), by simp [encE, e0, e1, e2]⟩
theorem open_Edges {t e : TypeId} {f0 f1 f2 : Field} {fuel : Nat} {cs : List Value} {x : DataW H × List MemPlace} (ht : P.underlying t = some (.slice e)) (he : P.underlying e = some (.struct #[f0, f1, f2])) (h0 : P.underlying f0.type = some (.int .i64)) (h1 : P.underlying f1.type = some (.int .i64)) (h2 : P.underlying f2.type = some (.int .i64))
    (o0 : f0.offset = 0) (o1 : f1.offset = 1) (o2 : f2.offset = 2) (c0 : P.cellsOf f0.type = 1) (c1 : P.cellsOf f1.type = 1) (c2 : P.cellsOf f2.type = 1) (hc : P.cellsOf e = 3) (hb : 1 ≤ P.bytesOf e)
    (h : DataW.trod enc P w 0 (fun _ => true) true fuel t cs = some x) (hw : InReach P t x.1) : ∃ A c xs, cs = [.slice A xs.length c] ∧ Edges w.heap A xs c := by
  rcases open_slice ht h with ⟨rfl, rfl⟩ | ⟨a, len, cap, m, n, D, Pl, rfl, _, hl, _, hmm, rfl, hx⟩
  · exact ⟨none, 0, [], rfl, by simp, Nat.le_refl _, fun hp => absurd hp (by simp)⟩
  · simp only [if_true] at hmm
    rw [hmm] at hx hw
    have hwt := hw ((((List.range len).map D).length + ((List.range (cap - len)).map fun j => D (len + j)).length) * P.bytesOf e) (by simp [DataW.weights, ht])
    simp only [List.length_map, List.length_range] at hwt
    rw [show len + (cap - len) = cap from by omega] at hwt
    have hmul := Nat.mul_le_mul_left cap hb
    have hr : reachBytes = 140737488351232 := rfl
    have each : ∀ i, i < len → ∃ y : Ed, ∀ j v, (encE y)[j]? = some v → w.cell? ((a.add (i * 3)).add j) = some v := fun i hi => by
      obtain ⟨cs', k1, k2⟩ := hx i (by omega)
      rw [hc] at k1
      obtain ⟨_, hlen, hcell⟩ := World.cells?_some k1
      obtain ⟨y, rfl⟩ := open_three he h0 h1 h2 o0 o1 o2 c0 c1 c2 hlen k2
      refine ⟨y, fun j v hj => ?_⟩
      have hj3 : j < 3 := (List.getElem?_eq_some_iff.1 hj).1
      rw [hcell j hj3, hj]
    obtain ⟨E, hE⟩ := choose_lt each
    have hlen : ((List.range len).map E).length = len := by simp
    refine ⟨some a, cap, (List.range len).map E, by rw [hlen], by omega, by omega, fun hp => ?_⟩
    have hz := hE 0 (by omega) 0 _ rfl
    rw [Nat.zero_mul, add0, add0, cellH_eq] at hz
    have ha := cellH_spot hz
    refine ⟨a.block, a.off, congrArg some ha, fun h' hE' j j0 j1 => cellsAt_of _ 0 fun i hi => ?_⟩
    rw [hlen] at j1
    have hjl : j.toNat < len := by omega
    rw [List.getD_eq_getElem?_getD, List.getElem?_map, List.getElem?_range hjl] at hi ⊢
    simp only [Option.map_some, Option.getD_some] at hi ⊢
    have hv := hE j.toNat hjl i _ (List.getElem?_eq_getElem hi)
    rw [cellH_eq] at hv
    have := cellH_ext hv hE'
    rw [List.getElem?_eq_getElem hi, ← this, ha, addr_add, addr_add, addr_add, Nat.zero_add]
theorem open_Rows2 {t e q : TypeId} {fuel : Nat} {cs : List Value} {x : DataW H × List MemPlace} (ht : P.underlying t = some (.slice e)) (he : P.underlying e = some (.slice q)) (hq : P.underlying q = some (.int .i64)) (ce : P.cellsOf e = 1) (cq : P.cellsOf q = 1) (hb : 1 ≤ P.bytesOf e) (hb2 : 1 ≤ P.bytesOf q)
    (h : DataW.trod enc P w 0 (fun _ => true) true fuel t cs = some x) (hw : InReach P t x.1) : ∃ A c xss, cs = [.slice A xss.length c] ∧ Rows2 w.heap A xss c := by
  rcases open_int_rows ht he hq ce cq h with ⟨rfl, rfl⟩ | ⟨a, len, cap, A, L, C, Z, rfl, _, hl, _, rfl, hx⟩
  · exact ⟨none, 0, [], rfl, by simp, Nat.le_refl _, 0, 0, fun _ => none, fun _ => 0, fun hp => absurd hp (by simp), fun h' E j j0 j1 => absurd j1 (by simp; omega)⟩
  · have hr : reachBytes = 140737488351232 := rfl
    have hwt := hw ((((List.range len).map fun r => intRow (H := H) .i64 (A r) (L r) (Z r)).length + ((List.range (cap - len)).map fun j => intRow (H := H) .i64 (A (len + j)) (L (len + j)) (Z (len + j))).length) * P.bytesOf e) (by simp [DataW.weights, ht])
    simp only [List.length_map, List.length_range] at hwt
    rw [show len + (cap - len) = cap from by omega] at hwt
    have hmul := Nat.mul_le_mul_left cap hb
    have hmemAll : ∀ (l : List (DataW H)) (d : DataW H), d ∈ l → ∀ n ∈ d.weights P e, n ∈ DataW.weightsAll P e l := by
      intro l
      induction l with
      | nil => intro d hd; simp at hd
      | cons a l ih =>
        intro d hd n hn
        simp only [DataW.weightsAll, List.mem_append]
        rcases List.mem_cons.1 hd with rfl | hd
        · exact Or.inl hn
        · exact Or.inr (ih d hd n hn)
    have hCb : ∀ r, r < len → C r ≤ 140737488351232 := fun r hr2 => by
      obtain ⟨_, hLC, _, hZl, _, hnil, _⟩ := hx r (by omega)
      cases hA : A r with
      | none => rw [hnil hA]; omega
      | some a' =>
        have := hw ((Z r).length * P.bytesOf q) (by
          simp only [DataW.weights, ht, List.mem_cons, List.mem_append]
          right; left
          refine hmemAll _ (intRow .i64 (A r) (L r) (Z r)) (List.mem_map.2 ⟨r, List.mem_range.2 hr2, rfl⟩) _ ?_
          rw [hA]
          simp only [intRow, DataW.weights, he, lits, List.length_map, List.length_take, List.length_drop, List.mem_cons]
          left
          congr 1
          omega)
        have h2 := Nat.mul_le_mul_left (Z r).length hb2
        omega
    have hlen : ((List.range len).map fun r => (Z r).take (L r)).length = len := by simp
    have hrd : ∀ j : Int, 0 ≤ j → j < len → rd2 ((List.range len).map fun r => (Z r).take (L r)) j = (Z j.toNat).take (L j.toNat) := fun j j0 j1 => by
      unfold rd2; exact mapRange_getD _ _ (by omega)
    refine ⟨some a, cap, (List.range len).map fun r => (Z r).take (L r), by rw [hlen], by omega, by omega, a.block, a.off, fun j => A j.toNat, fun j => C j.toNat, fun hp => ?_, fun h' E j j0 j1 => ?_⟩
    · have := (hx 0 (by omega)).1
      rw [add0, cellH_eq] at this
      exact congrArg some (cellH_spot this)
    · rw [hlen] at j1
      have hz := (hx 0 (by omega)).1
      rw [add0, cellH_eq] at hz
      have ha := cellH_spot hz
      obtain ⟨k1, hLC, _, hZl, _, hnil, hrow⟩ := hx j.toNat (by omega)
      have hcb := hCb j.toNat (by omega)
      rw [hrd j j0 j1]
      have hL : ((Z j.toNat).take (L j.toNat)).length = L j.toNat := by rw [List.length_take]; omega
      rw [cellH_eq] at k1
      have k2 := cellH_ext k1 E
      rw [ha, addr_add] at k2
      refine ⟨by rw [hL]; exact k2, ?_⟩
      cases hA : A j.toNat with
      | none =>
        have h0 := hnil hA
        have : (Z j.toNat).take (L j.toNat) = [] := List.eq_nil_of_length_eq_zero (by omega)
        rw [this]
        show Ints h' (A j.toNat) [] (C j.toNat)
        rw [hA, h0]
        exact row1_nil
      | some a' =>
        obtain ⟨_, hcell⟩ := hrow a' hA
        show Ints h' (A j.toNat) _ (C j.toNat)
        rw [hA]
        refine Row1.ext (h := w.heap) (row1_of (by omega) (by omega) fun i hi => ?_) E
        rw [hL] at hi
        rw [getD_take _ _ _ _ hi]
        exact hcell i (by omega)
theorem okInt {t : TypeId} {k : IntKind} {n : Nat} {v : Value} {y : DataW H × List MemPlace} (ht : P.underlying t = some (.int k)) (h : DataW.trod enc P w 0 (fun _ => true) true n t [v] = some y) : ∃ x, v = .int k x := by
  obtain ⟨x, e, _⟩ := DataW.trod_int ht h
  exact ⟨x, by simpa using e⟩
end

/-! ### A statement's frame -/
theorem trodAll_below {H : Type} {enc : TypeId × Value → H} {P : Program} (hl : laidOutB P = true) {W W' : World} (hb : Below W.heap.size W W') : ∀ (ts : List TypeId) (vs : List Value) (ds : List (DataW H)) (ps : List MemPlace),
    (∀ t ∈ ts, P.readableRec t = true ∧ t < P.types.size) → DataW.TrodAll enc P W 0 (fun _ => true) true ts vs ds ps → (∀ x ∈ ps, x.block < W.heap.size) → DataW.TrodAll enc P W' 0 (fun b => decide (b < W.heap.size)) true ts vs ds ps
  | [], vs, ds, ps, _, h, _ => by obtain ⟨rfl, rfl, rfl⟩ := trodAll_nil h; rfl
  | t :: ts, vs, ds, ps, hr, h, hlt => by
    obtain ⟨v, vs', d, ds', p, q, rfl, rfl, rfl, h1, h2⟩ := trodAll_cons h
    exact ⟨p, q, Below.trod hl (hr t (by simp)).1 (hr t (by simp)).2 h1 hb (fun x hx => hlt x (by simp [hx])), trodAll_below hl hb ts vs' ds' q (fun t' ht' => hr t' (by simp [ht'])) h2 (fun x hx => hlt x (by simp [hx])), rfl⟩
/-- Whatever the input: true; the input reads as it did. -/
theorem law_lifted {C : Checked} {f : FuncId} {fn : Func} {s : ChangeSpec} {X : World → Array Value → Prop} {tb : TypeId} (hX : ∀ (w w' : World) (args : Array Value), w.heap = w'.heap → X w args → X w' args)
    (hlaid : laidOutB C.prog = true) (own : ownKnob C.prog.godebug = none) (noInit : C.prog.inits.idxOf? f = none) (hfn : C.prog.funcs[f]? = some fn)
    (hvars : s.vars = []) (hsp : ∀ (H : Type) (ds : List (DataW H)), ds.length = fn.params.size → s.fn H ds = { results := [.lit (.bool true)], args := ds }) (hrt : fn.resultTypes = #[tb]) (htb : C.prog.underlying tb = some .bool)
    (hread : fn.params.toList.all (fun t => C.prog.readableRec t && decide (t < C.prog.types.size)) = true)
    (os : Os) (started : os.Started) (H : Type) (enc : TypeId × Value → H)
    (witness : ∃ (w : World) (tape : Tape) (i : Input), w.os = os ∧ (w.forCall tape i).Shaped C.prog ∧ i.vars = [] ∧ Input.okWide C.prog (w.forCall tape i) .any w.heap.size f i ∧
      ((s.pre enc C.prog fn [] false (w.forCall tape i).memory i.args ∧ X (w.forCall tape i).memory i.args) ∧ sizedMet enc C.prog fn (OpenSpec.ofChange s) false (w.forCall tape i).memory i.args) ∧ ({} : Assume).holds C.prog (lone (Frame.enter C.prog f i.args .normal) [] (w.forCall tape i)))
    (walk : ∀ (W : World) (base : Nat) (args : Array Value) (ds : List (DataW H)) (p : List MemPlace), (∀ (j : Nat) t v, fn.params[j]? = some t → args[j]? = some v → Value.okWide C.prog W .any base t v) →
      DataW.TrodAll enc C.prog W 0 (fun _ => true) true fn.params.toList args.toList ds p → (DataW.weightsEach C.prog fn.params.toList ds).all (· ≤ reachBytes) = true → X W args → Ct C.prog f args W.heap (fun v h' => v = .bool true ∧ Ext W.heap h')) :
    ReturnsInHanded {} C os f .any (fun w args => (s.pre enc C.prog fn [] false w args ∧ X w args) ∧ sizedMet enc C.prog fn (OpenSpec.ofChange s) false w args) (s.post enc C.prog fn false true false false) := by
  refine returnsInHanded_of_change_and (C := C) (X := X) hX own started noInit hfn witness ?_
  intro W base args ds gs before hval hW _ hwt hL _
  have hW' := hW
  obtain ⟨p, q, hA, hV, rfl, hfz, hnd⟩ := hW
  rw [hvars] at hV
  obtain ⟨rfl, rfl⟩ := trodVars_none hV
  have hlen := trodAll_length hA
  have hvt : s.plain.varTypes C.prog = [] := by simp [ChangeSpec.plain, DataSpec.varTypes, hvars]
  rw [hvt, List.append_nil, List.append_nil] at hwt
  refine (walk W base args ds p hval hA hwt hL W rfl).mono ?_
  rintro e w' ⟨v, rfl, hs, rfl, hE⟩
  have hb : Below W.heap.size W w' := ⟨hs.os, hs.tape, hs.output, hE.size, hE.keep⟩
  have hds : s.fn H (ds ++ []) = { results := [.lit (.bool true)], args := ds } := by
    rw [List.append_nil]; exact hsp H ds (by have := hlen.2; simpa using this)
  have hlt : ∀ x ∈ p, x.block < W.heap.size := fun x hx => by simpa using hW'.lt x (by simpa using hx)
  have hr : ∀ t ∈ fn.params.toList, C.prog.readableRec t = true ∧ t < C.prog.types.size := fun t ht => by
    have := List.all_eq_true.1 hread t ht
    simpa using this
  refine ⟨_, rfl, ds, [], p ++ [], [], p, [], hW', ?_, ?_, ?_, hb.frame _, fun h => by cases h⟩
  · rw [hds, hrt]
    exact trodAll_mk1 (shut_bool htb true)
  · rw [hds]
    exact trodAll_below hlaid hb _ _ _ _ hr hA hlt
  · rw [hds, hvars]; rfl
end Go.Vc
