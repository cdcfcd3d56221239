/- The engine's second part: blocks, rows, slices of one's own, appends. -/
import Derived.Test.YtbajgbkkbabmlaaGreatDoorVc
import Derived.ChangeKeysEq
set_option linter.unusedVariables false
set_option linter.unusedSimpArgs false
namespace Go.Vc

/-! ### Blocks -/
/-- Block g holds these cells. -/
def Blk (h : Heap) (g : Nat) (cs : Array Value) (t : TypeId) : Prop := h[g]? = some (.cells cs t (0, 0))
theorem Blk.lt {h : Heap} {g : Nat} {cs : Array Value} {t : TypeId} (hg : Blk h g cs t) : g < h.size := (Array.getElem?_eq_some_iff.1 hg).1
theorem Blk.ext {h h' : Heap} {g : Nat} {cs : Array Value} {t : TypeId} (hg : Blk h g cs t) (E : Ext h h') : Blk h' g cs t := (E.keep g hg.lt).trans hg
theorem Blk.at {h h' : Heap} {g : Nat} {cs : Array Value} {t : TypeId} (hg : Blk h g cs t) (E : Ext h h') (i : Nat) {v : Value} (hi : cs[i]? = some v) : cellH h' ⟨g, i, none⟩ = some v := by
  have := hg.ext E
  unfold Blk at this
  simp [cellH, this, hi]
theorem cellsAt_row {h : Heap} {g : Nat} {cs : Array Value} {t : TypeId} (hg : Blk h g cs t) : ∀ (l : List Value) (off i : Nat), (∀ j, j < l.length → cs[off + i + j]? = l[j]?) → cellsAt h ⟨g, off, none⟩ l i
  | [], _, _, _ => trivial
  | v :: l, off, i, hc => by
    refine ⟨?_, cellsAt_row hg l off (i + 1) fun j hj => ?_⟩
    · rw [addr_add]
      have := hc 0 (by simp)
      exact hg.at (Ext.refl h) (off + i) (by simpa using this)
    · have := hc (j + 1) (by simpa using hj)
      rw [show off + (i + 1) + j = off + i + (j + 1) from by omega]
      simpa using this
theorem Blk.all {h h' : Heap} {g : Nat} {cs : Array Value} {t : TypeId} (hg : Blk h g cs t) (E : Ext h h') : cellsAt h' ⟨g, 0, none⟩ cs.toList 0 :=
  cellsAt_row (hg.ext E) cs.toList 0 0 (fun j hj => by simp)

/-- All lies as it did but for block og. -/
structure Mod (og : Option Nat) (h h' : Heap) : Prop where
  size : h.size ≤ h'.size
  keep : ∀ b, b < h.size → some b ≠ og → h'[b]? = h[b]?
theorem Ext.mod {h h' : Heap} (E : Ext h h') (og : Option Nat) : Mod og h h' := ⟨E.size, fun b hb _ => E.keep b hb⟩
theorem Mod.ext {og : Option Nat} {x h h' : Heap} (M : Mod og h h') (E : Ext x h) (hb : ∀ g, og = some g → x.size ≤ g) : Ext x h' :=
  ⟨Nat.le_trans E.size M.size, fun b hlt => (M.keep b (Nat.lt_of_lt_of_le hlt E.size) (fun e => by have := hb b e.symm; omega)).trans (E.keep b hlt)⟩
theorem Mod.ext_new {g : Nat} {x hp h h' : Heap} (M : Mod (some g) h h') (E : Ext x h) (hn : g = hp.size) (E2 : Ext x hp) : Ext x h' :=
  M.ext E fun g' e => by cases e; rw [hn]; exact E2.size
theorem Mod.blk {og : Option Nat} {h h' : Heap} (M : Mod og h h') {g : Nat} {cs : Array Value} {t : TypeId} (hg : Blk h g cs t) (hn : some g ≠ og) : Blk h' g cs t := (M.keep g hg.lt hn).trans hg
theorem Mod.trans {og : Option Nat} {a b c : Heap} (h : Mod og a b) (k : Mod og b c) : Mod og a c := ⟨Nat.le_trans h.size k.size, fun i hi hn => (k.keep i (Nat.lt_of_lt_of_le hi h.size) hn).trans (h.keep i hi hn)⟩
theorem Mod.none_ext {h h' : Heap} (M : Mod none h h') : Ext h h' := ⟨M.size, fun b hb => M.keep b hb (by simp)⟩

/-! ### Rows that are read -/
/-- Elements of one cell. -/
structure Row1 {α : Type} (h : Heap) (A : Option Addr) (enc : α → Value) (d : α) (xs : List α) (c : Nat) : Prop where
  len : xs.length ≤ 140737488351232
  cap : xs.length ≤ c
  open_ : 0 < xs.length → ∃ b off, A = some ⟨b, off, none⟩ ∧ ∀ h', Ext h h' → ∀ j : Int, 0 ≤ j → j < xs.length → cellH h' ⟨b, off + j.toNat, none⟩ = some (enc (xs.getD j.toNat d))
/-- Elements of k cells. -/
structure RowK {α : Type} (h : Heap) (A : Option Addr) (k : Nat) (enc : α → List Value) (d : α) (xs : List α) (c : Nat) : Prop where
  len : xs.length ≤ 140737488351232
  cap : xs.length ≤ c
  open_ : 0 < xs.length → ∃ b off, A = some ⟨b, off, none⟩ ∧ ∀ h', Ext h h' → ∀ j : Int, 0 ≤ j → j < xs.length → cellsAt h' ⟨b, off + j.toNat * k, none⟩ (enc (xs.getD j.toNat d)) 0
theorem Row1.ext {α : Type} {h h' : Heap} {A : Option Addr} {enc : α → Value} {d : α} {xs : List α} {c : Nat} (r : Row1 h A enc d xs c) (E : Ext h h') : Row1 h' A enc d xs c :=
  ⟨r.len, r.cap, fun hp => let ⟨b, off, e, hc⟩ := r.open_ hp; ⟨b, off, e, fun h2 E2 => hc h2 (E.trans E2)⟩⟩
theorem RowK.ext {α : Type} {h h' : Heap} {A : Option Addr} {k : Nat} {enc : α → List Value} {d : α} {xs : List α} {c : Nat} (r : RowK h A k enc d xs c) (E : Ext h h') : RowK h' A k enc d xs c :=
  ⟨r.len, r.cap, fun hp => let ⟨b, off, e, hc⟩ := r.open_ hp; ⟨b, off, e, fun h2 E2 => hc h2 (E.trans E2)⟩⟩

/-! ### Slices of one's own -/
/-- v is a slice of n elements of sz cells each, at the beginning of block og, which is nobody else's; its cells are cs. -/
def Own (h : Heap) (t : TypeId) (sz : Nat) (v : Value) (n : Nat) (cs : List Value) : Option Nat → Prop
  | none => v = .slice none 0 0 ∧ n = 0 ∧ cs = []
  | some g => ∃ cap arr, v = .slice (some ⟨g, 0, none⟩) n cap ∧ Blk h g arr t ∧ cs.length = n * sz ∧ arr.toList.take (n * sz) = cs ∧ arr.size = cap * sz ∧ n ≤ cap ∧ cap ≤ 9223372036854775807
theorem Own.ext {h h' : Heap} {t : TypeId} {sz : Nat} {v : Value} {n : Nat} {cs : List Value} {og : Option Nat} (o : Own h t sz v n cs og) (E : Ext h h') : Own h' t sz v n cs og := by
  cases og with
  | none => exact o
  | some g => obtain ⟨cap, arr, e, hb, r⟩ := o; exact ⟨cap, arr, e, hb.ext E, r⟩
theorem Own.mod {h h' : Heap} {t : TypeId} {sz : Nat} {v : Value} {n : Nat} {cs : List Value} {og og' : Option Nat} (o : Own h t sz v n cs og) (M : Mod og' h h') (hn : og = none ∨ og ≠ og') : Own h' t sz v n cs og := by
  cases og with
  | none => exact o
  | some g =>
    obtain ⟨cap, arr, e, hb, r⟩ := o
    exact ⟨cap, arr, e, M.blk hb (hn.resolve_left (by simp)), r⟩
theorem Own.lt {h : Heap} {t : TypeId} {sz : Nat} {v : Value} {n : Nat} {cs : List Value} {og : Option Nat} (o : Own h t sz v n cs og) {g : Nat} (e : og = some g) : g < h.size := by
  subst e; obtain ⟨_, _, _, hb, _⟩ := o; exact hb.lt
theorem Own.nil (h : Heap) (t : TypeId) (sz : Nat) : Own h t sz (.slice none 0 0) 0 [] none := ⟨rfl, rfl, rfl⟩
theorem Own.of_blk {h : Heap} {t : TypeId} {sz : Nat} {g n : Nat} {cs : Array Value} (hb : Blk h g cs t) (hs : cs.size = n * sz) (hn : n ≤ 9223372036854775807 := by omega) : Own h t sz (.slice (some ⟨g, 0, none⟩) n n) n cs.toList (some g) :=
  ⟨n, cs, rfl, hb, by simpa using hs, by rw [List.take_of_length_le (by simp [hs])], hs, Nat.le_refl _, hn⟩
/-- Its shape. -/
theorem Own.slice {h : Heap} {t : TypeId} {sz : Nat} {v : Value} {n : Nat} {cs : List Value} {og : Option Nat} (o : Own h t sz v n cs og) : ∃ A c, v = .slice A n c := by
  cases og with
  | none => obtain ⟨rfl, rfl, _⟩ := o; exact ⟨none, 0, rfl⟩
  | some g => obtain ⟨cap, arr, rfl, _⟩ := o; exact ⟨_, cap, rfl⟩
/-- A cell of it. -/
theorem Own.cell {h : Heap} {t : TypeId} {sz : Nat} {v : Value} {n : Nat} {cs : List Value} {g : Nat} (o : Own h t sz v n cs (some g)) {i : Nat} {u : Value} (hi : cs[i]? = some u) : cellH h ⟨g, i, none⟩ = some u := by
  obtain ⟨cap, arr, _, hb, hl, ht, hs, hn, hcm⟩ := o
  refine hb.at (Ext.refl h) i ?_
  rw [← ht, List.getElem?_take] at hi
  split at hi
  · simpa using hi
  · cases hi
theorem Own.cells {h : Heap} {t : TypeId} {sz : Nat} {v : Value} {n : Nat} {cs : List Value} {g : Nat} (o : Own h t sz v n cs (some g)) : ∀ (l : List Value) (off i : Nat), (∀ j, j < l.length → cs[off + i + j]? = l[j]?) → cellsAt h ⟨g, off, none⟩ l i
  | [], _, _, _ => trivial
  | u :: l, off, i, hc => by
    refine ⟨?_, Own.cells o l off (i + 1) fun j hj => ?_⟩
    · rw [addr_add]
      have := hc 0 (by simp)
      exact o.cell (by simpa using this)
    · have := hc (j + 1) (by simpa using hj)
      rw [show off + (i + 1) + j = off + i + (j + 1) from by omega]
      simpa using this
theorem getElem?_flatMap {α β : Type} {f : α → List β} {k : Nat} (hk : ∀ x, (f x).length = k) : ∀ (xs : List α) (j i : Nat) (x : α), xs[j]? = some x → i < k → (xs.flatMap f)[j * k + i]? = (f x)[i]?
  | [], j, i, x, hx, _ => by simp at hx
  | y :: ys, 0, i, x, hx, hi => by
    simp only [List.getElem?_cons_zero, Option.some.injEq] at hx
    subst hx
    rw [List.flatMap_cons, List.getElem?_append_left (by rw [hk]; omega)]
    simp
  | y :: ys, j + 1, i, x, hx, hi => by
    rw [List.flatMap_cons, List.getElem?_append_right (by rw [hk, Nat.add_mul]; omega), hk]
    rw [show (j + 1) * k + i - k = j * k + i from by rw [Nat.add_mul]; omega]
    exact getElem?_flatMap hk ys j i x (by simpa using hx) hi
/-- What is one's own is read as any row. -/
theorem Own.rowK {α : Type} {h : Heap} {t : TypeId} {k : Nat} {v : Value} {xs : List α} {enc : α → List Value} {d : α} {og : Option Nat} (o : Own h t k v xs.length (xs.flatMap enc) og) (hk : ∀ x, (enc x).length = k) (hl : xs.length ≤ 140737488351232) :
    ∃ A c, v = .slice A xs.length c ∧ RowK h A k enc d xs c := by
  cases og with
  | none =>
    obtain ⟨rfl, hn, _⟩ := o
    rw [hn]
    exact ⟨none, 0, rfl, hl, by omega, fun hp => by omega⟩
  | some g =>
    have o' := o
    obtain ⟨cap, arr, rfl, hb, hl2, ht, hs, hn, hcm⟩ := o
    refine ⟨_, cap, rfl, hl, hn, fun _ => ⟨g, 0, rfl, fun h' E j hj hjn => ?_⟩⟩
    refine (o'.ext E).cells _ _ 0 fun i hi => ?_
    have hjx : xs[j.toNat]? = some (xs.getD j.toNat d) := by
      rw [List.getD_eq_getElem?_getD, List.getElem?_eq_getElem (by omega)]; rfl
    have := getElem?_flatMap hk xs j.toNat i _ hjx (by rw [hk] at hi; exact hi)
    rw [← this]
    simp
theorem flatMap_single {α β : Type} (f : α → β) (xs : List α) : xs.flatMap (fun x => [f x]) = xs.map f := by
  induction xs with
  | nil => rfl
  | cons x xs ih => simp [List.flatMap_cons, ih]
theorem Own.row1 {α : Type} {h : Heap} {t : TypeId} {v : Value} {xs : List α} {enc : α → Value} {d : α} {og : Option Nat} (o : Own h t 1 v xs.length (xs.map enc) og) (hl : xs.length ≤ 140737488351232) :
    ∃ A c, v = .slice A xs.length c ∧ Row1 h A enc d xs c := by
  cases og with
  | none =>
    obtain ⟨rfl, hn, _⟩ := o
    rw [hn]
    exact ⟨none, 0, rfl, hl, by omega, fun hp => by omega⟩
  | some g =>
    have o' := o
    obtain ⟨cap, arr, rfl, hb, hl2, ht, hs, hn, hcm⟩ := o
    refine ⟨_, cap, rfl, hl, hn, fun _ => ⟨g, 0, rfl, fun h' E j hj hjn => ?_⟩⟩
    rw [Nat.zero_add]
    refine (o'.ext E).cell ?_
    rw [List.getElem?_map, List.getElem?_eq_getElem (by omega), List.getD_eq_getElem?_getD, List.getElem?_eq_getElem (by omega)]
    rfl

/-! ### New blocks -/
def newBlk (P : Program) (ρ : Operand → Value) (o : Oper) : Option (Array Value × TypeId × (Nat → Value)) :=
  match o.op with
  | .box t x => some ((ρ x).cells, t, fun g => .pointer (some ⟨g, 0, none⟩))
  | .alloc t => (P.info? t).bind fun i => i.zero.map fun z => (z.cells, t, fun g => .pointer (some ⟨g, 0, none⟩))
  | .buildSlice t len parts => match P.underlying t with
    | some (.slice e) => (P.info? e).bind fun i =>
      if len = 0 ∧ parts.toList = [] then some (#[], e, fun g => .slice (some ⟨g, 0, none⟩) 0 0) else
      if len * P.cellsOf e = 0 ∨ len * P.cellsOf e > 2 ^ 24 then none else
      i.zero.bind fun z => (Instr.fill (fun j => some (j * P.cellsOf e, P.cellsOf e)) ((Array.range (len * P.cellsOf e)).map (z.cells[· % z.cells.size]!)) (parts.map fun (j, x) => (j, ρ x)).toList).map fun cells =>
        (cells, e, fun g => .slice (some ⟨g, 0, none⟩) len len)
    | _ => none
  | _ => none
section
variable {P : Program} {f : FuncId} {n : Nat} {k k1 : List Item} {s : Env} {h : Heap} {w0 : Base} {R R1 : Value → Heap → Prop}
theorem run_zero {t : TypeId} {i : TypeInfo} {z : Value} {w : World} (hi : P.info? t = some i) (hz : i.zero = some z) : (zeroValue t).run P w = .ok z w := by
  simp [zeroValue, typeInfo, hi, hz]
theorem newBlk_ok {ρ : Operand → Value} {o : Oper} {cs : Array Value} {t : TypeId} {mk : Nat → Value} (hq : newBlk P ρ o = some (cs, t, mk)) (w : World) :
    (execOp ρ o).run P w = .ok (.value (mk w.heap.size)) { w with heap := w.heap.push (.cells cs t (0, 0)) } := by
  unfold newBlk at hq
  obtain ⟨dst, op, type, pos, after, guard⟩ := o
  simp only at hq
  split at hq
  · simp only [Option.some.injEq, Prod.mk.injEq] at hq
    obtain ⟨rfl, rfl, rfl⟩ := hq
    simp [execOp, Instr.box, newVar, newRow, newObj, Sem.run]
  · simp only [Option.bind_eq_some_iff, Option.map_eq_some_iff, Prod.mk.injEq] at hq
    obtain ⟨i, hi, z, hz, rfl, rfl, rfl⟩ := hq
    simp only [execOp, Instr.alloc, Sem.run_bind, run_zero hi hz, Result.andThen]
    simp [newVar, newRow, newObj, Sem.run]
  · rename_i t' len parts
    split at hq
    · rename_i e he
      simp only [Option.bind_eq_some_iff] at hq
      obtain ⟨i, hi, hq⟩ := hq
      split at hq
      · rename_i h0
        obtain ⟨rfl, hp0⟩ := h0
        simp only [Option.some.injEq, Prod.mk.injEq] at hq
        obtain ⟨rfl, rfl, rfl⟩ := hq
        have hr0 : Array.range 0 = #[] := Array.eq_empty_of_size_eq_zero (by simp)
        have hp1 : parts = #[] := by cases parts; simpa using hp0
        subst hp1
        simp [execOp, Instr.buildSlice, run_underlying he, Result.andThen, run_sizeOf_eq hi, hr0, Instr.fill, newRow, newObj, Sem.run]
      split at hq
      · cases hq
      · rename_i hn
        simp only [Option.bind_eq_some_iff, Option.map_eq_some_iff, Prod.mk.injEq] at hq
        obtain ⟨z, hz, cells, hf, rfl, rfl, rfl⟩ := hq
        have h1 : ¬ len * P.cellsOf e > 2 ^ 24 := fun hh => hn (.inr hh)
        have h2 : ¬ len * P.cellsOf e = 0 := fun hh => hn (.inl hh)
        simp only [execOp, Instr.buildSlice, Sem.run_bind, run_underlying he, Result.andThen, run_sizeOf_eq hi, if_neg h1, if_neg h2, run_zero hi hz, Sem.run_pure, hf]
        simp [newRow, newObj, Sem.run]
    · cases hq
  · cases hq
theorem ext_push (h : Heap) (o : Obj) : Ext h (h.push o) := ⟨by simp, fun b hb => by rw [Array.getElem?_push]; rw [if_neg (by omega)]⟩
theorem blk_push (h : Heap) (cs : Array Value) (t : TypeId) : Blk (h.push (.cells cs t (0, 0))) h.size cs t := by unfold Blk; simp
theorem OpK.new {o : Oper} {cs : Array Value} {t : TypeId} {mk : Nat → Value} {K : Env → Heap → Prop} (hc : newBlk P (evD n s) o = some (cs, t, mk))
    (hr : ∀ g h', g = h.size → Ext h h' → Blk h' g cs t → K (putO s o.dst (mk g)) h') : OpK P n s h w0 o K := fun a w ha hwh h0 => by
  simp only [Oper.wp, eval_eq ha, newBlk_ok hc, Oper.upon_value]
  subst hwh
  exact ⟨_, _, ha.put o.dst _, rfl, h0.heap _, hr _ _ rfl (ext_push _ _) (blk_push _ _ _)⟩
/-- A new block. -/
theorem Run.new (cs : Array Value) (t : TypeId) (mk : Nat → Value) (dst : Option Nat) (k1 : List Item)
    (he : ((nextOp n s k).bind fun x => (newBlk P (evD n s) x.1).map fun c => (c.1, c.2.1, c.2.2, x.1.dst, x.2)) = some (cs, t, mk, dst, k1))
    (hr : ∀ g h', g = h.size → Ext h h' → Blk h' g cs t → Run P f n k1 (putO s dst (mk g)) h' w0 R) : Run P f n k s h w0 R := by
  simp only [Option.bind_eq_some_iff, Option.map_eq_some_iff, Prod.mk.injEq] at he
  obtain ⟨⟨o, k2⟩, hn, ⟨cs', t', mk'⟩, hc, rfl, rfl, rfl, rfl, rfl⟩ := he
  obtain ⟨ops, i, rest, k', rfl, rfl, ho, hw⟩ := nextOp_ok hn
  exact Run.op ho hw (OpK.new hc hr)

/-! ### A made slice -/
def makeOf (P : Program) (ρ : Operand → Value) (o : Oper) : Option (Int × Value × TypeId × Nat) :=
  match o.op with
  | .makeSlice t l c => match P.underlying t, ρ l, ρ c with
    | some (.slice e), .int .i64 a, .int .i64 b => (P.info? e).bind fun i => i.zero.bind fun z =>
      if P.cellsOf e = 1 ∧ z.cells.size = 1 then some (a, z.cells[0]!, e, i.bytes) else none
    | _, _, _ => none
  | _ => none
theorem run_askRoom (b : Nat) (w : World) : (askRoom b).run P w = .ok () w := by
  unfold askRoom
  split <;> simp [mark, Sem.run]
theorem made_cells (m : Nat) (z : Array Value) (hz : z.size = 1) : ((Array.range m).map (z[· % z.size]!)) = Array.replicate m z[0]! := by
  apply Array.ext
  · simp
  · intro i h1 h2
    simp [hz, Nat.mod_one]
theorem OpK.make {o : Oper} {a : Int} {z : Value} {e : TypeId} {bytes : Nat} {K : Env → Heap → Prop} (hm : makeOf P (evD n s) o = some (a, z, e, bytes))
    (hc : (match o.op with | .makeSlice _ l c => evD n s c | _ => undef) = .int .i64 a) (h0 : 0 ≤ a) (hb : bytes * a ≤ 281474976710656) (ha64 : a ≤ 9223372036854775807)
    (hr : ∀ g h', g = h.size → Ext h h' → Blk h' g (Array.replicate a.toNat z) e → K (putO s o.dst (.slice (some ⟨g, 0, none⟩) a.toNat a.toNat)) h') : OpK P n s h w0 o K := fun ac w ha hwh hs0 => by
  obtain ⟨dst, op, type, p, after, guard⟩ := o
  unfold makeOf at hm
  simp only at hm
  split at hm
  · rename_i t l c
    simp only at hc
    split at hm
    · rename_i e2 a2 b2 hu hl hcc
      simp only [Option.bind_eq_some_iff] at hm
      obtain ⟨inf, hi, zv, hz, hm⟩ := hm
      split at hm
      · rename_i hsz
        simp only [Option.some.injEq, Prod.mk.injEq] at hm
        obtain ⟨rfl, rfl, rfl, rfl⟩ := hm
        simp only at h0 hb ha64 hr hc
        have hbb : b2 = a2 := by rw [hcc] at hc; injection hc
        subst hbb
        have hwr : IntKind.i64.wrap b2 = b2 := fits_wrap (h := h) ⟨by omega, ha64⟩
        have ht : (decide (b2 < 0) || decide ((inf.bytes : Int) * b2 > 2 ^ 48)) = false := by
          simp; exact ⟨h0, by omega⟩
        have hrun : (execOp (evD n s) { dst := dst, op := .makeSlice t l c, type := type, pos := p, after := after, guard := guard }).run P w =
            .ok (.value (.slice (some ⟨w.heap.size, 0, none⟩) b2.toNat b2.toNat)) { w with heap := w.heap.push (.cells (Array.replicate b2.toNat zv.cells[0]!) e2 (0, 0)) } := by
          simp only [execOp, Instr.makeSlice, hl, hcc, Sem.run_bind, run_underlying hu, Result.andThen, asInt, asIntOf, Sem.run_pure, hwr, run_typeInfo _ hi]
          rw [if_neg (by simp [ht]; omega)]
          simp only [Sem.run_bind, run_askRoom, Result.andThen, run_sizeOf_eq hi, hsz.1, Nat.mul_one, run_zero hi hz]
          by_cases hz0 : b2.toNat = 0
          · simp only [if_pos hz0, Sem.run_bind, Result.andThen, Sem.run_pure]
            rw [hz0]
            have hr0 : Array.range 0 = #[] := Array.eq_empty_of_size_eq_zero (by simp)
            simp [newRow, newObj, Sem.run, hr0]
          · simp only [if_neg hz0, Sem.run_bind, run_zero hi hz, Result.andThen, Sem.run_pure, made_cells _ _ hsz.2]
            simp [newRow, newObj, Sem.run]
        simp only [Oper.wp, eval_eq ha, hrun, Oper.upon_value]
        subst hwh
        exact ⟨_, _, ha.put dst _, rfl, hs0.heap _, hr _ _ rfl (ext_push _ _) (blk_push _ _ _)⟩
      · cases hm
    · cases hm
  · cases hm
theorem Run.make (a : Int) (z : Value) (e : TypeId) (bytes : Nat) (dst : Option Nat) (k1 : List Item)
    (he : ((nextOp n s k).bind fun x => (makeOf P (evD n s) x.1).map fun c => (c.1, c.2.1, c.2.2.1, c.2.2.2, x.1.dst, x.2)) = some (a, z, e, bytes, dst, k1))
    (hc : (nextOp n s k).map (fun x => match x.1.op with | .makeSlice _ l c => evD n s c | _ => undef) = some (.int .i64 a))
    (h0 : 0 ≤ a) (hb : bytes * a ≤ 281474976710656) (ha64 : a ≤ 9223372036854775807)
    (hr : ∀ g h', g = h.size → Ext h h' → Blk h' g (Array.replicate a.toNat z) e → Run P f n k1 (putO s dst (.slice (some ⟨g, 0, none⟩) a.toNat a.toNat)) h' w0 R) : Run P f n k s h w0 R := by
  simp only [Option.bind_eq_some_iff, Option.map_eq_some_iff, Prod.mk.injEq] at he
  obtain ⟨⟨o, k2⟩, hn, ⟨a', z', e', b'⟩, hm, rfl, rfl, rfl, rfl, rfl, rfl⟩ := he
  rw [hn] at hc
  simp only [Option.map_some, Option.some.injEq] at hc
  obtain ⟨ops, i, rest, k', rfl, rfl, ho, hw⟩ := nextOp_ok hn
  exact Run.op ho hw (OpK.make hm hc h0 hb ha64 hr)
end
/-! ### Stores -/
section
variable {P : Program} {f : FuncId} {n : Nat} {k k1 : List Item} {s : Env} {h : Heap} {w0 : Base} {R R1 : Value → Heap → Prop}
/-- A value of one cell. -/
def one : Value → Bool
  | .agg _ => false
  | .tuple _ => false
  | _ => true
def setAt (cs : Array Value) (off : Nat) : List Value → Array Value
  | [] => cs
  | v :: r => setAt (cs.setIfInBounds off v) (off + 1) r
def storeOf (P : Program) (ρ : Operand → Value) (o : Oper) : Option (Addr × List Value) :=
  match o.op with
  | .store t a x => match ρ a with
    | .pointer (some ad) => if (P.info? t).isSome ∧ (ρ x).cells.size = P.cellsOf t then some (ad, (ρ x).cells.toList) else none
    | _ => none
  | _ => none
theorem setAt_size (cs : Array Value) : ∀ (l : List Value) (off : Nat), (setAt cs off l).size = cs.size
  | [], _ => rfl
  | v :: r, off => by
    have : ∀ (l : List Value) (cs : Array Value) (off : Nat), (setAt cs off l).size = cs.size := by
      intro l
      induction l with
      | nil => intro cs off; rfl
      | cons v r ih => intro cs off; simp [setAt, ih]
    exact this _ _ _
theorem store_run {g : Nat} {t : TypeId} : ∀ (vs : List Value) (cs : Array Value) (w : World) (off i : Nat), Blk w.heap g cs t → off + i + vs.length ≤ cs.size → (∀ v ∈ vs, one v = true) →
    ∃ w', (storeCells ⟨g, off, none⟩ vs i).run P w = .ok () w' ∧ Same1 w w' ∧ Blk w'.heap g (setAt cs (off + i) vs) t ∧ w'.heap.size = w.heap.size ∧ ∀ b, b ≠ g → w'.heap[b]? = w.heap[b]?
  | [], cs, w, off, i, hg, hl, ho => ⟨w, by simp [storeCells], Same1.refl w, hg, rfl, fun _ _ => rfl⟩
  | v :: r, cs, w, off, i, hg, hl, ho => by
    have hv := ho v (by simp)
    have hlt : off + i < cs.size := by simp at hl; omega
    have hg' := hg
    unfold Blk at hg'
    have hc : w.cell? ⟨g, off + i, none⟩ = some cs[off + i] := by
      simp [World.cell?, hg', hlt]
    have hfz : w.frozen? ⟨g, off + i, none⟩ = false := by
      simp [World.frozen?, hg']
    have hst : (store ⟨g, off + i, none⟩ v).run P w = .ok () (w.setCell ⟨g, off + i, none⟩ v) := by
      unfold store
      cases v with
      | agg a => simp [one] at hv
      | tuple a => simp [one] at hv
      | _ => simp [Sem.run, hc, hfz]
    have hb : Blk (w.setCell ⟨g, off + i, none⟩ v).heap g (cs.setIfInBounds (off + i) v) t := by
      unfold Blk World.setCell
      simp [Array.getElem?_modify, hg']
    have hk : ∀ b, b ≠ g → (w.setCell ⟨g, off + i, none⟩ v).heap[b]? = w.heap[b]? := by
      intro b hbn
      unfold World.setCell
      simp [Array.getElem?_modify, Ne.symm hbn]
    obtain ⟨w', h1, h2, h3, h4, h5⟩ := store_run r _ (w.setCell ⟨g, off + i, none⟩ v) off (i + 1) hb (by simp at hl ⊢; omega) (fun u hu => ho u (by simp [hu]))
    refine ⟨w', ?_, ⟨h2.os, h2.tape, h2.output, h2.drawn⟩, ?_, ?_, fun b hbn => (h5 b hbn).trans (hk b hbn)⟩
    · simp only [storeCells, addr_add, Sem.run_bind, hst, Result.andThen, h1]
    · rw [show off + (i + 1) = off + i + 1 from by omega] at h3
      exact h3
    · rw [h4]; simp [World.setCell]
theorem OpK.store {o : Oper} {g off : Nat} {vs : List Value} {cs : Array Value} {t : TypeId} {K : Env → Heap → Prop} (hc : storeOf P (evD n s) o = some (⟨g, off, none⟩, vs)) (hd : o.dst = none)
    (hg : Blk h g cs t) (hl : off + vs.length ≤ cs.size) (hone : vs.all one = true)
    (hr : ∀ h', Mod (some g) h h' → h'.size = h.size → Blk h' g (setAt cs off vs) t → K s h') : OpK P n s h w0 o K := fun a w ha hwh h0 => by
  obtain ⟨dst, op, type, p, after, guard⟩ := o
  simp only at hd
  subst hd
  unfold storeOf at hc
  simp only at hc
  split at hc
  · rename_i t' x y
    split at hc
    · rename_i ad' had
      split at hc
      · rename_i hsz
        simp only [Option.some.injEq, Prod.mk.injEq] at hc
        obtain ⟨rfl, rfl⟩ := hc
        obtain ⟨inf, hi⟩ := Option.isSome_iff_exists.1 hsz.1
        subst hwh
        obtain ⟨w', h1, h2, h3, h4, h5⟩ := store_run (P := P) _ cs w off 0 hg hl (List.all_eq_true.1 hone)
        have hrun : (execOp (evD n s) { dst := none, op := .store t' x y, type := type, pos := p, after := after, guard := guard }).run P w = .ok .skip w' := by
          simp only [execOp, had, Instr.storeAt, Instr.sureAddr, storeVar, Sem.run_bind, Sem.run_pure, Result.andThen, run_sizeOf_eq hi]
          rw [if_neg (by simp [hsz.2]), h1]
        simp only [Oper.wp, eval_eq ha, hrun, Oper.upon_skip]
        exact ⟨s, _, ha, rfl, h0.trans h2, hr _ ⟨by omega, fun b _ hb => h5 b (fun e => hb (by rw [e]))⟩ h4 h3⟩
      · cases hc
    · cases hc
  · cases hc
theorem Run.store (g off : Nat) (vs : List Value) (k1 : List Item) {cs : Array Value} {t : TypeId}
    (he : ((nextOp n s k).bind fun x => (storeOf P (evD n s) x.1).map fun c => (c.1, c.2, x.1.dst, x.2)) = some (⟨g, off, none⟩, vs, none, k1))
    (hg : Blk h g cs t) (hl : off + vs.length ≤ cs.size) (hone : vs.all one = true)
    (hr : ∀ h', Mod (some g) h h' → h'.size = h.size → Blk h' g (setAt cs off vs) t → Run P f n k1 s h' w0 R) : Run P f n k s h w0 R := by
  simp only [Option.bind_eq_some_iff, Option.map_eq_some_iff, Prod.mk.injEq] at he
  obtain ⟨⟨o, k2⟩, hn, ⟨ad, vs'⟩, hc, rfl, rfl, hd, rfl⟩ := he
  obtain ⟨ops, i, rest, k', rfl, rfl, ho, hw⟩ := nextOp_ok hn
  exact Run.op ho hw (OpK.store hc hd hg hl hone hr)
end

/-! ### append -/
theorem growBy_le (m : Nat) : ∀ (r c : Nat), Builtin.growBy m r c ≤ Nat.max c (m + (m + 768) / 4)
  | 0, c => Nat.le_max_left _ _
  | r + 1, c => by
    unfold Builtin.growBy
    split
    · exact Nat.le_max_left _ _
    · rename_i hc
      refine Nat.le_trans (growBy_le m r _) ?_
      have : c + (c + 768) / 4 ≤ m + (m + 768) / 4 := by omega
      exact Nat.max_le.2 ⟨Nat.le_trans this (Nat.le_max_right _ _), Nat.le_max_right _ _⟩
theorem nextslicecap_le {m c : Nat} (hc : c < m) : Builtin.nextslicecap m c ≤ 2 * m + 400 := by
  unfold Builtin.nextslicecap
  split
  · omega
  · split
    · omega
    · refine Nat.le_trans (growBy_le m 4 c) (Nat.max_le.2 ⟨by omega, by omega⟩)

/-- What is appended: m elements, whose cells are xs. -/
def Src (P : Program) (h : Heap) (x : Value) (sz m : Nat) (xs : List Value) : Prop :=
  ∀ w : World, w.heap = h → (Builtin.lenOf x).run P w = .ok m w ∧ (Builtin.firstCells sz m x).run P w = .ok xs.toArray w
theorem Src.row {P : Program} {h : Heap} {ad : Addr} {sz m c : Nat} {xs : List Value} (hc : cellsAt h ad xs 0) (hl : xs.length = m * sz) : Src P h (.slice (some ad) m c) sz m xs := fun w hw => by
  subst hw
  refine ⟨by simp [Builtin.lenOf], ?_⟩
  have := loadCells_ok (P := P) (w := w) (a := ad) xs 0 #[] hc
  simp only [Builtin.firstCells, loadCells, ← hl, this]
  simp
theorem Src.nil {P : Program} {h : Heap} {sz c : Nat} : Src P h (.slice none 0 c) sz 0 [] := fun w hw => by
  simp [Builtin.lenOf, Builtin.firstCells]

def isIntD : TypeDesc → Bool
  | .int _ => true
  | _ => false
def appendOf (P : Program) (ρ : Operand → Value) (o : Oper) : Option (Value × Value × TypeId) :=
  match o.op with
  | .call { callee := .builtin .append, args, argTypes } => match args.toList.map ρ, argTypes.toList with
    | [sv, xv], [st, xt] => match P.underlying st, P.underlying xt with
      | some (.slice e), some d => if isIntD d then none else some (sv, xv, e)
      | _, _ => none
    | _, _ => none
  | _ => none

theorem zeroCells_size (z : Array Value) (n : Nat) : (Builtin.zeroCells z n).size = n * z.size := by simp [Builtin.zeroCells]

section
variable {P : Program} {f : FuncId} {n : Nat} {k k1 : List Item} {s : Env} {h : Heap} {w0 : Base} {R R1 : Value → Heap → Prop}

theorem setAt_take (arr : Array Value) : ∀ (xs : List Value) (i : Nat), i + xs.length ≤ arr.size → (setAt arr i xs).toList.take (i + xs.length) = arr.toList.take i ++ xs := by
  intro xs
  induction xs generalizing arr with
  | nil => intro i hi; simp [setAt]
  | cons v r ih =>
    intro i hi
    simp only [setAt, List.length_cons] at *
    have h1 := ih (arr.setIfInBounds i v) (i + 1) (by simp; omega)
    rw [show i + (r.length + 1) = i + 1 + r.length from by omega, h1]
    have hlt : i < arr.size := by omega
    have h2 : (arr.setIfInBounds i v).toList.take (i + 1) = arr.toList.take i ++ [v] := by
      rw [Array.toList_setIfInBounds, List.take_set]
      rw [List.take_succ_eq_append_getElem (by simpa using hlt)]
      rw [List.set_append_right _ _ (by simp; omega)]
      simp [List.length_take]
      rw [show i - min i arr.size = 0 from by omega]
      simp
    rw [h2]
    simp

def appIn (sz l m : Nat) (base : Option Addr) (cap : Nat) (xv : Value) : Sem Value := do
  let new ← Builtin.firstCells sz m xv
  if let some a := base then storeCells (a.add (l * sz)) new.toList
  pure (.slice base (l + m) cap)
theorem append_in {e : TypeId} {sz l m cap : Nat} {base : Option Addr} {xv : Value} {st xt : TypeId} {d : TypeDesc} (ty : TypeId) (w : World)
    (hu : P.underlying st = some (.slice e)) (hxu : P.underlying xt = some d) (hd : isIntD d = false) (hso : (sizeOf e).run P w = .ok sz w) (hlen : (Builtin.lenOf xv).run P w = .ok m w) {nw : Array Value} (hfirst : (Builtin.firstCells sz m xv).run P w = .ok nw w) (hc : l + m ≤ cap) :
    (Builtin.append_ #[st, xt] ty #[.slice base l cap, xv]).run P w = (appIn sz l m base cap xv).run P w := by
  unfold Builtin.append_ appIn
  simp only [List.getElem?_toArray, List.getElem?_cons_zero, List.getElem?_cons_succ, Sem.run_bind, run_underlying hu, Result.andThen, hso, run_underlying hxu, Sem.run_pure]
  cases d <;> simp [isIntD] at hd <;> cases base <;> simp [hlen, hc, hfirst]
def appOut (e : TypeId) (sz l m : Nat) (base : Option Addr) (cap : Nat) (xv : Value) : Sem Value := do
  let newCap ← choose (.appendCap (l + m) cap e)
  askRoom (newCap * (← typeInfo e).bytes)
  let old ← Builtin.firstCells sz l (.slice base l cap)
  let new ← Builtin.firstCells sz m xv
  let rest := Builtin.zeroCells (← zeroValue e).cells (newCap - (l + m))
  pure (.slice (some (← newRow e (old ++ new ++ rest))) (l + m) newCap)
theorem append_out {e : TypeId} {inf : TypeInfo} {sz l m cap : Nat} {base : Option Addr} {xv : Value} {st xt : TypeId} {d : TypeDesc} (ty : TypeId) (w : World)
    (hu : P.underlying st = some (.slice e)) (hxu : P.underlying xt = some d) (hd : isIntD d = false) (hi : P.info? e = some inf) (hso : (sizeOf e).run P w = .ok sz w) (hlen : (Builtin.lenOf xv).run P w = .ok m w) (hc : ¬ l + m ≤ cap)
    (hb0 : 0 < inf.bytes) (hb : (2 * (l + m) + 400) * inf.bytes ≤ 281474976710656) :
    (Builtin.append_ #[st, xt] ty #[.slice base l cap, xv]).run P w = (appOut e sz l m base cap xv).run P w := by
  have h1 : ¬ Builtin.nextslicecap (l + m) cap * inf.bytes > 2 ^ 48 := by
    have := nextslicecap_le (m := l + m) (c := cap) (by omega)
    have := Nat.mul_le_mul_right inf.bytes this
    omega
  have h2 : inf.bytes ≠ 0 := by omega
  unfold Builtin.append_ appOut
  simp only [List.getElem?_toArray, List.getElem?_cons_zero, List.getElem?_cons_succ, Sem.run_bind, run_underlying hu, Result.andThen, hso, run_underlying hxu, Sem.run_pure]
  cases d <;> simp [isIntD] at hd <;> simp only [Sem.run_bind, hlen, Result.andThen, Sem.run_pure, Bool.false_eq_true, if_false, if_neg hc, run_typeInfo w hi, h2, false_or, and_false, h1, Bool.not_false, if_true]

theorem append_run {sv xv : Value} {e : TypeId} {inf : TypeInfo} {z : Value} {m : Nat} {xs cs : List Value} {l : Nat} {og : Option Nat} {st xt : TypeId} {d : TypeDesc} (ty : TypeId) (w : World)
    (hu : P.underlying st = some (.slice e)) (hxu : P.underlying xt = some d) (hd : isIntD d = false) (hi : P.info? e = some inf) (hz : inf.zero = some z)
    (hzs : z.cells.size = inf.size) (hb0 : 0 < inf.bytes) (hown : Own w.heap e inf.size sv l cs og) (hsrc : Src P w.heap xv inf.size m xs) (hxl : xs.length = m * inf.size) (hone : xs.all one = true)
    (hb : (2 * (l + m) + 400) * inf.bytes ≤ 281474976710656) :
    ∃ v w' og', (Builtin.append_ #[st, xt] ty #[sv, xv]).run P w = .ok v w' ∧ Same1 w w' ∧ Own w'.heap e inf.size v (l + m) (cs ++ xs) og' ∧ Mod og w.heap w'.heap ∧ (og' = og ∨ og' = some w.heap.size) := by
  obtain ⟨hlen, hfirst⟩ := hsrc w rfl
  have hcell : P.cellsOf e = inf.size := by simp [Program.cellsOf, hi]
  have hso : (sizeOf e).run P w = .ok inf.size w := by rw [run_sizeOf_eq hi, hcell]
  obtain ⟨A, cap, rfl⟩ := hown.slice
  by_cases hc : l + m ≤ cap
  · rw [append_in ty w hu hxu hd hso hlen hfirst hc]
    cases og with
    | none =>
      obtain ⟨hsv, rfl, rfl⟩ := hown
      injection hsv with h1 h2 h3
      subst h1 h3
      have hm : m = 0 := by omega
      subst hm
      have hx0 : xs = [] := List.eq_nil_of_length_eq_zero (by simpa using hxl)
      subst hx0
      refine ⟨.slice none 0 0, w, none, ?_, Same1.refl w, Own.nil _ _ _, (Ext.refl _).mod _, .inl rfl⟩
      simp [appIn, hfirst]
    | some g =>
      obtain ⟨cap', arr, hsv, hg, hl, ht, hs, hn, hcm⟩ := hown
      injection hsv with h1 h2 h3
      subst h1 h3
      obtain ⟨w', r1, r2, r3, r4, r5⟩ := store_run (P := P) xs arr w (l * inf.size) 0 hg (by rw [hs, hxl, Nat.add_zero, ← Nat.add_mul]; exact Nat.mul_le_mul_right _ hc) (List.all_eq_true.1 hone)
      refine ⟨.slice (some ⟨g, 0, none⟩) (l + m) cap, w', some g, ?_, r2, ?_, ⟨by omega, fun b _ hb => r5 b (fun e => hb (by rw [e]))⟩, .inl rfl⟩
      · simp only [appIn, Sem.run_bind, hfirst, Result.andThen, addr_add, Nat.zero_add, r1, Sem.run_pure]
      · refine ⟨cap, _, rfl, r3, by rw [List.length_append, hl, hxl, Nat.add_mul], ?_, by rw [setAt_size, hs], hc, hcm⟩
        rw [Nat.add_mul, ← hxl, Nat.add_zero, setAt_take arr xs (l * inf.size) (by rw [hs, hxl, ← Nat.add_mul]; exact Nat.mul_le_mul_right _ hc), ht]
  · rw [append_out ty w hu hxu hd hi hso hlen hc hb0 hb]
    obtain ⟨nc, hnc, hncm, hch⟩ : ∃ nc, l + m ≤ nc ∧ nc ≤ 9223372036854775807 ∧ (choose (.appendCap (l + m) cap e)).run P w = .ok nc { w with drawn := w.drawn + 1 } := by
      refine ⟨(Question.appendCap (l + m) cap e).cut (w.tape w.drawn (.appendCap (l + m) cap e)), by simp [Question.cut], ?_, by simp [choose, Sem.run, Question.forced]⟩
      have h1 : (2 * (l + m) + 400) * 1 ≤ (2 * (l + m) + 400) * inf.bytes := Nat.mul_le_mul_left _ hb0
      have hlt := Nat.mod_lt (w.tape w.drawn (.appendCap (l + m) cap e)) (show 0 < 2 ^ 63 - (l + m) by omega)
      simp only [Question.cut]
      omega
    have hfirst2 := (hsrc { w with drawn := w.drawn + 1 } rfl).2
    have hold : (Builtin.firstCells inf.size l (.slice A l cap)).run P { w with drawn := w.drawn + 1 } = .ok cs.toArray { w with drawn := w.drawn + 1 } := by
      cases og with
      | none =>
        obtain ⟨hsv, rfl, rfl⟩ := hown
        injection hsv with h1 h2 h3
        subst h1
        simp [Builtin.firstCells]
      | some g =>
        have ho' := hown
        obtain ⟨cap', arr, hsv, hg, hl, ht, hs, hn, hcm⟩ := hown
        injection hsv with h1 h2 h3
        subst h1
        have hcs : cellsAt ({ w with drawn := w.drawn + 1 } : World).heap ⟨g, 0, none⟩ cs 0 := ho'.cells cs 0 0 (fun j hj => by simp)
        have := loadCells_ok (P := P) cs 0 #[] hcs
        simp only [Builtin.firstCells, loadCells, ← hl, this]
        simp
    have hzr : (zeroValue e).run P { w with drawn := w.drawn + 1 } = .ok z { w with drawn := w.drawn + 1 } := run_zero hi hz
    refine ⟨.slice (some ⟨w.heap.size, 0, none⟩) (l + m) nc, { w with drawn := w.drawn + 1, heap := w.heap.push (.cells (cs.toArray ++ xs.toArray ++ Builtin.zeroCells z.cells (nc - (l + m))) e (0, 0)) }, some w.heap.size, ?_, ⟨rfl, rfl, rfl, Nat.le_succ _⟩, ?_, (ext_push _ _).mod _, .inr rfl⟩
    · simp only [appOut, Sem.run_bind, hch, Result.andThen, run_typeInfo _ hi, run_askRoom, hold, hfirst2, hzr]
      simp [newRow, newObj, Sem.run]
      exact ⟨rfl, rfl, rfl⟩
    · have hcl : cs.length = l * inf.size := by
        cases og with
        | none => obtain ⟨_, rfl, rfl⟩ := hown; simp
        | some g => obtain ⟨_, _, _, _, hl, _⟩ := hown; exact hl
      refine ⟨nc, _, rfl, blk_push _ _ _, by rw [List.length_append, hcl, hxl, Nat.add_mul], ?_, ?_, hnc, hncm⟩
      · rw [Array.toList_append, List.take_append_of_le_length]
        · rw [List.take_of_length_le]
          · simp
          · simp [hcl, hxl, Nat.add_mul]
        · simp [hcl, hxl, Nat.add_mul]
      · simp only [Array.size_append, List.size_toArray, zeroCells_size, hzs, hcl, hxl]
        rw [← Nat.add_mul, ← Nat.add_mul]
        congr 1
        omega

theorem OpK.append {o : Oper} {sv xv : Value} {e : TypeId} {l m : Nat} {cs xs : List Value} {og : Option Nat} {sz bytes : Nat} {K : Env → Heap → Prop} (hc : appendOf P (evD n s) o = some (sv, xv, e))
    (hinf : ((P.info? e).bind fun i => i.zero.map fun z => (i.size, i.bytes, decide (z.cells.size = i.size))) = some (sz, bytes, true)) (hb0 : 0 < bytes)
    (hown : Own h e sz sv l cs og) (hsrc : Src P h xv sz m xs) (hxl : xs.length = m * sz) (hone : xs.all one = true) (hb : (2 * (l + m) + 400) * bytes ≤ 281474976710656)
    (hr : ∀ A c h' og', Own h' e sz (.slice A (l + m) c) (l + m) (cs ++ xs) og' → Mod og h h' → (og' = og ∨ og' = some h.size) → K (putO s o.dst (.slice A (l + m) c)) h') : OpK P n s h w0 o K := fun a w ha hwh h0 => by
  simp only [Option.bind_eq_some_iff, Option.map_eq_some_iff, Prod.mk.injEq] at hinf
  obtain ⟨inf, hi, z, hz, rfl, rfl, hzs⟩ := hinf
  obtain ⟨dst, op, type, p, after, guard⟩ := o
  unfold appendOf at hc
  simp only at hc
  split at hc
  · rename_i args argTypes
    split at hc
    · rename_i sv2 xv2 st xt hargs hts
      split at hc
      · rename_i e2 d hu hxu
        split at hc
        · cases hc
        · rename_i hd
          simp only [Option.some.injEq, Prod.mk.injEq] at hc
          obtain ⟨rfl, rfl, rfl⟩ := hc
          have hd' : isIntD d = false := by simpa using hd
          subst hwh
          obtain ⟨v, w', og', r1, r2, r3, r4, r5⟩ := append_run (P := P) type w hu hxu hd' hi hz (of_decide_eq_true hzs) hb0 hown hsrc hxl hone hb
          have ha1 : args.map (evD n s) = #[sv2, xv2] := by
            apply Array.ext'; simpa using hargs
          have ha2 : argTypes = #[st, xt] := by
            apply Array.ext'; simpa using hts
          simp only [Oper.wp, eval_eq ha]
          have hrun : (execOp (evD n s) { dst := dst, op := .call { callee := .builtin .append, args := args, argTypes := argTypes }, type := type, pos := p, after := after, guard := guard }).run P w = .ok (.value v) w' := by
            simp only [execOp, resolve, Sem.run_bind, Sem.run_pure, Result.andThen, invoke, builtin, ha1, ha2, r1]
          rw [hrun, Oper.upon_value]
          obtain ⟨A, c, rfl⟩ := r3.slice
          exact ⟨_, _, ha.put dst _, rfl, h0.trans r2, hr A c _ og' r3 r4 r5⟩
      · cases hc
    · cases hc
  · cases hc
/-- An append to a slice of one's own. -/
theorem Run.append (sv xv : Value) (e : TypeId) (dst : Option Nat) (k1 : List Item) {l m : Nat} {cs xs : List Value} {og : Option Nat} (sz bytes : Nat)
    (he : ((nextOp n s k).bind fun x => (appendOf P (evD n s) x.1).map fun c => (c.1, c.2.1, c.2.2, x.1.dst, x.2)) = some (sv, xv, e, dst, k1))
    (hinf : ((P.info? e).bind fun i => i.zero.map fun z => (i.size, i.bytes, decide (z.cells.size = i.size))) = some (sz, bytes, true)) (hb0 : 0 < bytes)
    (hown : Own h e sz sv l cs og) (hsrc : Src P h xv sz m xs) (hxl : xs.length = m * sz) (hone : xs.all one = true) (hb : (2 * (l + m) + 400) * bytes ≤ 281474976710656)
    (hr : ∀ A c h' og', Own h' e sz (.slice A (l + m) c) (l + m) (cs ++ xs) og' → Mod og h h' → (og' = og ∨ og' = some h.size) → Run P f n k1 (putO s dst (.slice A (l + m) c)) h' w0 R) : Run P f n k s h w0 R := by
  simp only [Option.bind_eq_some_iff, Option.map_eq_some_iff, Prod.mk.injEq] at he
  obtain ⟨⟨o, k2⟩, hn, ⟨sv', xv', e'⟩, hc, rfl, rfl, rfl, rfl, rfl⟩ := he
  obtain ⟨ops, i, rest, k', rfl, rfl, ho, hw⟩ := nextOp_ok hn
  exact Run.op ho hw (OpK.append hc hinf hb0 hown hsrc hxl hone hb hr)
end
end Go.Vc
