/- The engine: symbolic evaluation of the model's code, proved sound once; each function's walk then is a chain of its rules. -/
import Derived.Deep.Quiet
import Derived.OrdersHeld
import Derived.KernelRfl
import Derived.Below
import Derived.Shelf.Abstract
import Derived.Laws.StructEq
import Derived.Laws.Tables
set_option linter.unusedVariables false
set_option linter.unusedSimpArgs false
namespace Go.Vc

abbrev Env := Nat → Value
abbrev Heap := Array Obj

/-- A world, and whether the draws behind it are counted. -/
abbrev Base := World × Bool
/-- The world but for its heap is the same; the draws grow. -/
structure Same1 (w w' : World) : Prop where
  os : w'.os = w.os
  tape : w'.tape = w.tape
  output : w'.output = w.output
  drawn : w.drawn ≤ w'.drawn
/-- The world but for its heap and its count of draws is the same. -/
structure Same0 (w0 : Base) (w' : World) : Prop where
  os : w'.os = w0.1.os
  tape : w'.tape = w0.1.tape
  output : w'.output = w0.1.output
  drawn : w0.2 = true → w0.1.drawn ≤ w'.drawn
theorem Same1.refl (w : World) : Same1 w w := ⟨rfl, rfl, rfl, Nat.le_refl _⟩
theorem Same0.refl (w : World) (d : Bool) : Same0 (w, d) w := ⟨rfl, rfl, rfl, fun _ => Nat.le_refl _⟩
theorem Same0.trans {a : Base} {b c : World} (h : Same0 a b) (k : Same1 b c) : Same0 a c := ⟨k.os.trans h.os, k.tape.trans h.tape, k.output.trans h.output, fun e => Nat.le_trans (h.drawn e) k.drawn⟩
theorem Same0.call {a : Base} {b c : World} (h : Same0 a b) (k : Same0 (b, a.2) c) : Same0 a c := ⟨k.os.trans h.os, k.tape.trans h.tape, k.output.trans h.output, fun e => Nat.le_trans (h.drawn e) (k.drawn e)⟩
theorem Same0.heap {a : Base} {b : World} (h : Same0 a b) (x : Array Obj) : Same0 a { b with heap := x } := ⟨h.os, h.tape, h.output, h.drawn⟩
theorem Same0.drew {a : Base} {b : World} (h : Same0 a b) : Same0 a { b with drawn := b.drawn + 1 } := ⟨h.os, h.tape, h.output, fun e => Nat.le_succ_of_le (h.drawn e)⟩

/-- The bare frame of a function. -/
def bf (f : FuncId) : Frame := { (default : Frame) with fn := f, kind := .normal }

/-- The state fits what is known of the slots. -/
structure Fits (n : Nat) (s : Env) (a : Act) : Prop where
  defers : a.defers = []
  size : a.tmps.size = n
  at_ : ∀ t, t < n → a.tmps[t]? = some (s t)

def put (s : Env) (d : Nat) (v : Value) : Env := fun t => if t = d then v else s t
def putO (s : Env) (d : Option Nat) (v : Value) : Env := match d with | some d => put s d v | none => s

theorem Fits.put {n : Nat} {s : Env} {a : Act} (h : Fits n s a) (d : Option Nat) (v : Value) : Fits n (putO s d v) (a.put d v) := by
  cases d with
  | none => exact h
  | some d =>
    refine ⟨h.defers, by simp [Act.put, h.size], fun t ht => ?_⟩
    simp only [Act.put, putO, Vc.put]
    by_cases e : t = d
    · subst e; simp [h.size, ht]
    · rw [if_neg e, Array.getElem?_setIfInBounds_ne (Ne.symm e)]
      exact h.at_ t ht

/-- From these items on, with these slots and this heap, the function comes to its end and R holds of what it returns and the heap. -/
def Run (P : Program) (f : FuncId) (n : Nat) (k : List Item) (s : Env) (h : Heap) (w0 : Base) (R : Value → Heap → Prop) : Prop :=
  ∀ (a : Act) (w : World), Fits n s a → w.heap = h → Same0 w0 w → ∀ cs, ∃ v w' fr, R v w'.heap ∧ Same0 w0 w' ∧
    Steps P (lone ((bf f).at a k) cs w) (lone fr cs w') ∧ fr.fn = f ∧ fr.leaving P w' (.returned v)

/-- A function's contract, on heaps (d: the draws grow). -/
def CtB (d : Bool) (P : Program) (f : FuncId) (args : Array Value) (h : Heap) (R : Value → Heap → Prop) : Prop :=
  ∀ w, w.heap = h → Calls P f args w fun e w' => ∃ v, e = .returned v ∧ Same0 (w, d) w' ∧ R v w'.heap
abbrev Ct := CtB false

theorem fits_world (w : World) : ({ w with drawn := w.drawn + 1 } : World).heap = w.heap := rfl
section
variable {P : Program} {f : FuncId} {n : Nat} {k k' : List Item} {s : Env} {h : Heap} {w0 : Base} {R : Value → Heap → Prop}

theorem Run.step (hs : ∀ (a : Act) (w : World) cs, Fits n s a → w.heap = h → Same0 w0 w → step P (lone ((bf f).at a k) cs w) = .next (lone ((bf f).at a k') cs w))
    (hr : Run P f n k' s h w0 R) : Run P f n k s h w0 R := fun a w ha hw h0 cs =>
  let ⟨v, w', fr, r, s0, st, hf, hl⟩ := hr a w ha hw h0 cs
  ⟨v, w', fr, r, s0, .head (hs a w cs ha hw h0) st, hf, hl⟩

theorem Run.mono {R' : Value → Heap → Prop} (hr : Run P f n k s h w0 R) (hm : ∀ v h, R v h → R' v h) : Run P f n k s h w0 R' := fun a w ha hw h0 cs =>
  let ⟨v, w', fr, r, s0, st, hf, hl⟩ := hr a w ha hw h0 cs
  ⟨v, w', fr, hm _ _ r, s0, st, hf, hl⟩

theorem Run.env {s' : Env} (he : ∀ t, t < n → s t = s' t) (hr : Run P f n k s' h w0 R) : Run P f n k s h w0 R := fun a w ha hw h0 cs =>
  hr a w ⟨ha.defers, ha.size, fun t ht => by rw [ha.at_ t ht, he t ht]⟩ hw h0 cs

theorem CtB.mono {d : Bool} {args : Array Value} {R' : Value → Heap → Prop} (hr : CtB d P f args h R) (hm : ∀ v h, R v h → R' v h) : CtB d P f args h R' := fun w hw =>
  (hr w hw).mono fun e w' ⟨v, he, hs, hv⟩ => ⟨v, he, hs, hm _ _ hv⟩

def argEnv (args : List Value) : Env := fun t => args.getD t undef

theorem Ct.enter {d : Bool} {fn : Func} {c : Code} {args : List Value} (hf : P.funcs[f]? = some fn) (hb : fn.body = some c) (hn : fn.ntmps = n) (hl : args.length ≤ n)
    (hr : ∀ w, w.heap = h → Run P f n [.code c] (argEnv args) h (w, d) R) : CtB d P f args.toArray h R := by
  intro w hw cs
  have henter : Frame.enter P f args.toArray .normal = (bf f).at { tmps := args.toArray ++ Array.replicate (fn.ntmps - args.toArray.size) undef, defers := [] } [.code c] := by
    simp [Frame.enter, Frame.at, hf, hb, bf]
  obtain ⟨v, w', fr, r, s0, st, hff, hle⟩ := hr w hw { tmps := args.toArray ++ Array.replicate (fn.ntmps - args.toArray.size) undef, defers := [] } w
    ⟨rfl, by simp [hn]; omega, fun t ht => by
      simp only [argEnv, List.getD_eq_getElem?_getD]
      by_cases e : t < args.length
      · rw [Array.getElem?_append_left (by simpa using e)]; simp [e]
      · rw [Array.getElem?_append_right (by simpa using Nat.le_of_not_lt e), List.getElem?_eq_none (Nat.le_of_not_lt e), Array.getElem?_replicate]
        simp [hn]; omega⟩ hw (Same0.refl w d) cs
  exact ⟨.returned v, w', fr, ⟨v, rfl, s0, r⟩, by rw [henter]; exact st, hff, hle⟩

end

/-! ### Evaluating operations -/
/-- A value is reckoned before it is used. -/
def force {β : Type} (v : Value) (f : Value → β) : β :=
  match v with
  | .bool b => f (.bool b)
  | .int k n => f (.int k n)
  | .float k b => f (.float k b)
  | .complex k a b => f (.complex k a b)
  | .string s => f (.string s)
  | .pointer a => f (.pointer a)
  | .slice a l c => f (.slice a l c)
  | .map r => f (.map r)
  | .chan r => f (.chan r)
  | .func g a b => f (.func g a b)
  | .nilFunc => f .nilFunc
  | .iface t v => f (.iface t v)
  | .nilIface => f .nilIface
  | .agg cs => f (.agg cs)
  | .tuple vs => f (.tuple vs)
theorem force_eq {β : Type} (v : Value) (f : Value → β) : force v f = f v := by cases v <;> rfl
/-- What an operand is, by what is known of the slots. -/
def evD (n : Nat) (s : Env) : Operand → Value
  | .tmp t => if t < n then s t else undef
  | .const v => v
  | .global g => .pointer (some ⟨g, 0, none⟩)
  | .func f => .func (.func f) #[] #[]
theorem eval_eq {n : Nat} {s : Env} {a : Act} (ha : Fits n s a) : a.eval = evD n s := by
  funext x
  cases x with
  | tmp t =>
    simp only [Act.eval, evD]
    by_cases e : t < n
    · rw [if_pos e, Array.getD_eq_getD_getElem?, ha.at_ t e]; rfl
    · have hs := ha.size
      have h1 : a.tmps[t]? = none := Array.getElem?_eq_none (by rw [hs]; exact Nat.le_of_not_lt e)
      rw [if_neg e, Array.getD_eq_getD_getElem?, h1]; rfl
  | const v => rfl
  | global g => rfl
  | func f => rfl

def cellH (h : Heap) (a : Addr) : Option Value :=
  match h[a.block]? with
  | some (.cells c _ _) => if a.spot.isSome then none else c[a.off]?
  | _ => none
theorem cellH_lt {h : Heap} {a : Addr} {v : Value} (hc : cellH h a = some v) : a.block < h.size := by
  unfold cellH at hc
  split at hc
  · rename_i hh; exact (Array.getElem?_eq_some_iff.1 hh).1
  · cases hc
theorem cellH_eq (w : World) (a : Addr) : w.cell? a = cellH w.heap a := rfl
def cellsAt (h : Heap) (a : Addr) : List Value → Nat → Prop
  | [], _ => True
  | v :: r, i => cellH h (a.add i) = some v ∧ cellsAt h a r (i + 1)

/-- What lay in the heap lies there still. -/
structure Ext (h h' : Heap) : Prop where
  size : h.size ≤ h'.size
  keep : ∀ b, b < h.size → h'[b]? = h[b]?
theorem Ext.refl (h : Heap) : Ext h h := ⟨Nat.le_refl _, fun _ _ => rfl⟩
theorem Ext.trans {a b c : Heap} (h : Ext a b) (k : Ext b c) : Ext a c := ⟨Nat.le_trans h.size k.size, fun i hi => (k.keep i (Nat.lt_of_lt_of_le hi h.size)).trans (h.keep i hi)⟩
abbrev HP := Heap → Prop
/-- All of them hold (as one conjunction). -/
def AllO (h : Heap) : List HP → Prop
  | [] => True
  | p :: r => p h ∧ AllO h r
theorem AllO.append {h : Heap} : ∀ {l m : List HP}, AllO h (l ++ m) → AllO h l ∧ AllO h m
  | [], _, hh => ⟨trivial, hh⟩
  | _ :: _, _, ⟨hp, hr⟩ => let ⟨a, b⟩ := AllO.append hr; ⟨⟨hp, a⟩, b⟩

/-- What the one who walks says on the way: a test on a written-out truth; a test on another, and which way; a loaded value; a value that an operation is shown to give. -/
inductive Orc where
  | lit
  | dec (b : Bool)
  | val (v : Value)
  | raw (v : Value)
  | say (v : Value)
  | draw
  | off

def fitsI64 (x : Int) : HP := fun _ => -9223372036854775808 ≤ x ∧ x ≤ 9223372036854775807

def aggB (P : Program) (t : TypeId) : Bool := match P.underlying t with | some (.struct _) | some (.array _ _) => true | _ => false

/-- Whether two structs of plain fields are the same. -/
def eqFs (P : Program) (xs ys : Array Value) : List Field → Option Bool
  | [] => some true
  | f :: fs =>
    if f.name = "_" then none else
    match P.underlying f.type, xs[f.offset]?, ys[f.offset]? with
    | some (.int _), some (.int k a), some (.int k' b) => if k = k' then (eqFs P xs ys fs).map fun r => (a == b) && r else none
    | some .string, some (.string a), some (.string b) => (eqFs P xs ys fs).map fun r => (a.toList == b.toList) && r
    | some .bool, some (.bool a), some (.bool b) => (eqFs P xs ys fs).map fun r => (a == b) && r
    | _, _, _ => none
def qbin (P : Program) (op : BinOp) (t : TypeId) : Value → Value → Option (Value × List HP)
  | .int k x, .int k' y =>
    if k = k' then
      match op with
      | .add => if k = .i64 then some (.int k (x + y), [fitsI64 (x + y)]) else some (.int k (k.wrap (x + y)), [])
      | .sub => if k = .i64 then some (.int k (x - y), [fitsI64 (x - y)]) else some (.int k (k.wrap (x - y)), [])
      | .mul => if k = .i64 then some (.int k (x * y), [fitsI64 (x * y)]) else some (.int k (k.wrap (x * y)), [])
      | .quo => if k = .i64 then some (.int k (x / y), [fun _ => 0 ≤ x ∧ 1 ≤ y ∧ x ≤ 9223372036854775807]) else none
      | .rem => if k = .i64 then some (.int k (x % y), [fun _ => 0 ≤ x ∧ 1 ≤ y]) else none
      | .eql => some (.bool (x == y), [])
      | .neq => some (.bool (x != y), [])
      | .lss => some (.bool (x < y), [])
      | .leq => some (.bool (x ≤ y), [])
      | .gtr => some (.bool (x > y), [])
      | .geq => some (.bool (x ≥ y), [])
      | _ => none
    else none
  | .string x, .string y =>
    match op with
    | .eql => some (.bool (x.toList == y.toList), [])
    | .neq => some (.bool !(x.toList == y.toList), [])
    | .lss => some (.bool (Op.bytesLess x.toList y.toList), [])
    | .gtr => some (.bool !(Op.bytesLess x.toList y.toList || x.toList == y.toList), [])
    | .geq => some (.bool !(Op.bytesLess x.toList y.toList), [])
    | .leq => some (.bool (Op.bytesLess x.toList y.toList || x.toList == y.toList), [])
    | _ => none
  | .bool x, .bool y =>
    match P.underlying t with
    | some .bool =>
      match op with
      | .eql => some (.bool (x == y), [])
      | .neq => some (.bool !(x == y), [])
      | _ => none
    | _ => none
  | .agg xs, .agg ys =>
    match P.underlying t with
    | some (.struct fs) => if P.stoodInHeld t || P.eqGuardType P.depth t then none else
      match op with
      | .eql => (eqFs P xs ys fs.toList).map fun b => (.bool b, [])
      | .neq => (eqFs P xs ys fs.toList).map fun b => (.bool !b, [])
      | _ => none
    | _ => none
  | _, _ => none

/-- A value out of cells. -/
def qpart (P : Program) (t : TypeId) (cs : Array Value) (off : Nat) : Option Value :=
  if (P.underlying t).isNone then none else
  if aggB P t then some (.agg (cs.extract off (off + P.cellsOf t))) else cs[off]?

def qload (P : Program) (t : TypeId) (a : Addr) (v : Value) : Option (List HP) :=
  if (P.underlying t).isNone then none else
  if aggB P t then
    match v with
    | .agg cs => if cs.size = P.cellsOf t then some [fun h => cellsAt h a cs.toList 0] else none
    | _ => none
  else some [fun h => cellH h a = some v]

/-- An action that only reads gives a value. -/
def Says (P : Program) (act : Sem Value) (v : Value) : HP := fun h => ∀ w : World, w.heap = h → act.run P w = .ok v w
/-- The action of an operation whose value is said. -/
def sayOf (ρ : Operand → Value) (o : Oper) : Option (Sem Value) :=
  match o.op with
  | .lookup t x k ok => some (Instr.lookup t (ρ x) (ρ k) ok)
  | .slice t x lo hi mx => some (Instr.sliceAt t (ρ x) (lo.map ρ) (hi.map ρ) (mx.map ρ))
  | .convert a b x => some (convert a b (ρ x))
  | .unOp u _ x => some (Op.unary u (ρ x))
  | .binOp u t x y _ => some (do eqGuard u t x y (ρ x) (ρ y); binOp u t (ρ x) (ρ y))
  | .index t x i => some (Instr.index t (ρ x) (ρ i))
  | .build t parts => some (Instr.build t (parts.map fun (j, x) => (j, ρ x)))
  | .call { callee := .builtin .len, args, argTypes } => some (Builtin.len_ argTypes o.type (args.map ρ))
  | _ => none
theorem sayOf_ok {P : Program} {ρ : Operand → Value} {o : Oper} {act : Sem Value} {v : Value} {w : World} (hq : sayOf ρ o = some act) (hr : act.run P w = .ok v w) : (execOp ρ o).run P w = .ok (.value v) w := by
  obtain ⟨dst, op, type, pos, after, guard⟩ := o
  unfold sayOf at hq
  simp only at hq
  split at hq <;> first | (cases hq; done) | (simp only [Option.some.injEq] at hq; subst hq; simp only [execOp, resolve, invoke, builtin, Sem.run_bind, Sem.run_pure, Result.andThen, hr])
/-- One operation that only reads: its value, and what must hold. -/
def qopN (P : Program) (ρ : Operand → Value) (o : Oper) (orc : List Orc) : Option (Value × List HP × List Orc) :=
  match orc with
  | .raw v :: r => some (v, [fun h => ∀ w : World, w.heap = h → (execOp ρ o).run P w = .ok (.value v) w], r)
  | orc =>
  match o.op with
  | .move x | .assign x => some (ρ x, [], orc)
  | .pick c a b => match ρ c with | .bool true => some (ρ a, [], orc) | .bool false => some (ρ b, [], orc) | _ => none
  | .binOp op t x y _ => (qbin P op t (ρ x) (ρ y)).map fun r => (r.1, r.2, orc)
  | .unOp .not _ x => match ρ x with | .bool b => some (.bool !b, [], orc) | _ => none
  | .extract t i => match ρ t with | .tuple vs => (vs[i]?).map fun v => (v, [], orc) | _ => none
  | .field t x i => match P.underlying t, ρ x with
    | some (.struct fs), .agg cs => (fs[i]?).bind fun f => (qpart P f.type cs f.offset).map fun v => (v, [], orc)
    | _, _ => none
  | .index t x i => match P.underlying t, ρ x, ρ i with
    | some (.array len e), .agg cs, .int _ j => if 0 ≤ j ∧ j < len ∧ (P.info? e).isSome then (qpart P e cs (j.toNat * P.cellsOf e)).map fun v => (v, [], orc) else none
    | _, _, _ => none
  | .makeFunc fn first captured => some (.func fn (first.map ρ) (captured.map ρ), [], orc)
  | .build t parts => (P.built t (parts.map fun (j, x) => (j, ρ x)).toList).map fun cs => (.agg cs, [], orc)
  | .fieldAddr t x i => match P.underlying t, ρ x with
    | some (.struct fs), .pointer (some a) => (fs[i]?).bind fun f => if P.cellsOf f.type = 0 ∨ (P.info? f.type).isNone then none else some (.pointer (some (a.add f.offset)), [], orc)
    | _, _ => none
  | .indexAddr t x i => match P.underlying t, ρ x, ρ i with
    | some (.slice e), .slice (some ⟨b, off, none⟩) len _, .int _ j =>
      if (P.info? e).isNone then none else
      some (.pointer (some ⟨b, off + (if P.cellsOf e = 1 then j.toNat else j.toNat * P.cellsOf e), none⟩), [fun _ => 0 ≤ j ∧ j < len], orc)
    | some (.array len e), .pointer (some ⟨b, off, none⟩), .int _ j =>
      if (P.info? e).isNone then none else
      some (.pointer (some ⟨b, off + (if P.cellsOf e = 1 then j.toNat else j.toNat * P.cellsOf e), none⟩), [fun _ => 0 ≤ j ∧ j < len], orc)
    | _, _, _ => none
  | .load t a => match orc, ρ a with
    | .val v :: r, .pointer (some a) => (qload P t a v).map fun l => (v, l, r)
    | _, _ => none
  | .nilCheck x => match ρ x with
    | .pointer (some a) => some (.pointer (some a), [], orc)
    | .func (.func g) u c => some (.func (.func g) u c, [], orc)
    | _ => none
  | .call { callee := .builtin .len, args, argTypes } => match args[0]?, argTypes[0]? with
    | some x, some t => match P.underlying t, ρ x with
      | some (.slice _), .slice _ m _ => some (.int .i64 m, [], orc)
      | some .string, .string s => some (.int .i64 s.size, [], orc)
      | _, _ => none
    | _, _ => none
  | .call { callee := .builtin .cap, args, argTypes } => match args[0]?, argTypes[0]? with
    | some x, some t => match P.underlying t, ρ x with
      | some (.slice _), .slice _ _ c => some (.int .i64 c, [], orc)
      | _, _ => none
    | _, _ => none
  | .call { callee := .builtin .min, args, argTypes } => match args.toList.map ρ with
    | [.int k x, .int k' y] => if k = k' then some (.int k (if y < x then y else x), [], orc) else none
    | _ => none
  | .call { callee := .builtin .max, args, argTypes } => match args.toList.map ρ with
    | [.int k x, .int k' y] => if k = k' then some (.int k (if y > x then y else x), [], orc) else none
    | _ => none
  | _ => none

section
variable {P : Program} {w : World} {h : Heap}

theorem fits_wrap {x : Int} (hx : fitsI64 x h) : IntKind.i64.wrap x = x := by
  unfold fitsI64 at hx
  unfold IntKind.wrap
  simp [IntKind.signed, IntKind.bits]
  omega

theorem run_isAgg_eq {t : TypeId} {d : TypeDesc} (hd : P.underlying t = some d) : (isAgg t).run P w = .ok (aggB P t) w := by
  unfold aggB
  rw [hd]
  cases d <;> simp [isAgg, run_underlying hd]

theorem run_sizeOf_eq {t : TypeId} {i : TypeInfo} (hi : P.info? t = some i) : (sizeOf t).run P w = .ok (P.cellsOf t) w := by
  simp [sizeOf, typeInfo, hi, Program.cellsOf]

theorem info_of_underlying {t : TypeId} {d : TypeDesc} (hd : P.underlying t = some d) : ∃ i, P.info? t = some i := by
  unfold Program.underlying at hd
  cases hh : P.info? t with
  | none => simp [hh] at hd
  | some i => exact ⟨i, rfl⟩

theorem equalIn_bool {t : TypeId} (hu : P.underlying t = some .bool) (a b : Bool) (d : Nat) : (Op.equalIn (d + 1) t (.bool a) (.bool b)).run P w = .ok (a == b) w := by
  simp only [Op.equalIn, Sem.run_bind, run_underlying hu, Result.andThen, Sem.run_pure]
theorem equal_bool {t : TypeId} (hu : P.underlying t = some .bool) (a b : Bool) : (Op.equal t (.bool a) (.bool b)).run P w = .ok (a == b) w := equalIn_bool hu a b 9999

theorem part_plain {t : TypeId} {cs : Array Value} {off : Nat} {v : Value} {d : TypeDesc} (hd : P.underlying t = some d) (ha : aggB P t = false) (hc : cs[off]? = some v) : (part t cs off).run P w = .ok v w := by
  unfold part
  simp only [Sem.run_bind, run_isAgg_eq hd, Result.andThen, ha, Bool.false_eq_true, if_false, hc, Sem.run_pure]
theorem eqFs_ok (d : Nat) (xs ys : Array Value) : ∀ (fs : List Field) (b : Bool), eqFs P xs ys fs = some b → (Op.eqFields (d + 1) xs ys fs).run P w = .ok b w
  | [], b, hq => by
    simp only [eqFs, Option.some.injEq] at hq
    subst hq
    simp [Op.eqFields]
  | f :: fs, b, hq => by
    have ih := eqFs_ok d xs ys fs
    unfold eqFs at hq
    split at hq
    · cases hq
    · rename_i hn
      simp only [Op.eqFields, if_pos hn, Sem.run_bind]
      split at hq
      · rename_i k0 k a k' b' hu hx hy
        split at hq
        · rename_i hk
          subst hk
          simp only [Option.map_eq_some_iff] at hq
          obtain ⟨r, hr, rfl⟩ := hq
          have ha : aggB P f.type = false := by simp [aggB, hu]
          simp only [part_plain hu ha hx, part_plain hu ha hy, Result.andThen, run_equalIn_int w d f.type _ _ _ _ hu]
          cases hab : (a == b') <;> simp [ih r hr]
        · cases hq
      · rename_i a b' hu hx hy
        simp only [Option.map_eq_some_iff] at hq
        obtain ⟨r, hr, rfl⟩ := hq
        have ha : aggB P f.type = false := by simp [aggB, hu]
        simp only [part_plain hu ha hx, part_plain hu ha hy, Result.andThen, run_equalIn_string w d f.type _ _ hu]
        cases hab : (a.toList == b'.toList) <;> simp [ih r hr]
      · rename_i a b' hu hx hy
        simp only [Option.map_eq_some_iff] at hq
        obtain ⟨r, hr, rfl⟩ := hq
        have ha : aggB P f.type = false := by simp [aggB, hu]
        simp only [part_plain hu ha hx, part_plain hu ha hy, Result.andThen, run_equalIn_bool' w d f.type _ _ hu]
        cases hab : (a == b') <;> simp [ih r hr]
      · cases hq

theorem qbin_ok {op : BinOp} {t : TypeId} {a b v : Value} {l : List HP} (hq : qbin P op t a b = some (v, l)) (hw : w.heap = h) (ho : AllO h l) :
    (binOp op t a b).run P w = .ok v w := by
  unfold qbin at hq
  split at hq
  · rename_i k x k' y
    split at hq
    · rename_i hk
      subst hk
      cases op <;> simp only [Option.some.injEq, Prod.mk.injEq, reduceCtorEq] at hq <;> try (split at hq)
      all_goals try (simp only [Option.some.injEq, Prod.mk.injEq, reduceCtorEq] at hq)
      all_goals try (obtain ⟨rfl, rfl⟩ := hq)
      all_goals try subst_vars
      all_goals simp [binOp, Op.intArith, Op.intCmp, Op.intDiv]
      all_goals try exact fits_wrap ho.1
      · obtain ⟨h0, h1, h2⟩ := ho.1
        rw [if_neg (by omega), Int.tdiv_eq_ediv_of_nonneg h0, fits_wrap (h := w.heap)]
        have a1 : 0 ≤ x / y := Int.ediv_nonneg h0 (by omega)
        have a2 : x / y ≤ x := Int.ediv_le_self _ h0
        exact ⟨by omega, by omega⟩
      · obtain ⟨h0, h1⟩ := ho.1
        rw [if_neg (by omega), Int.tmod_eq_emod_of_nonneg h0]
    · cases hq
  · rename_i x y
    cases op <;> simp only [Option.some.injEq, Prod.mk.injEq, reduceCtorEq] at hq <;> obtain ⟨rfl, rfl⟩ := hq <;> simp [binOp, Op.stringOp]
  · rename_i x y
    split at hq
    · rename_i hu
      cases op <;> simp only [Option.some.injEq, Prod.mk.injEq, reduceCtorEq] at hq <;> obtain ⟨rfl, rfl⟩ := hq <;>
        simp only [binOp, Sem.run_bind, equal_bool hu, Result.andThen, Sem.run_pure]
    · cases hq
  · rename_i xs ys
    split at hq
    · rename_i fs hu
      split at hq
      · cases hq
      · rename_i hg
        simp only [Bool.or_eq_true, not_or, Bool.not_eq_true] at hg
        have hf : P.fieldsOf t = fs := by simp [Program.fieldsOf, hu]
        have hS : P.underlying t = some (.struct (P.fieldsOf t)) := by rw [hf, hu]
        have key : ∀ b, eqFs P xs ys fs.toList = some b → (Op.equalIn 10000 t (.agg xs) (.agg ys)).run P w = .ok b w := fun b hb => by
          rw [show (10000 : Nat) = 9999 + 1 from rfl, run_equalIn_agg w 9999 t _ _ hS hg.1, hf]
          exact eqFs_ok 9998 xs ys _ b hb
        split at hq
        · simp only [Option.map_eq_some_iff, Prod.mk.injEq] at hq
          obtain ⟨b, hb, rfl, rfl⟩ := hq
          rw [run_eql_struct, key b hb]; rfl
        · simp only [Option.map_eq_some_iff, Prod.mk.injEq] at hq
          obtain ⟨b, hb, rfl, rfl⟩ := hq
          rw [run_neq_struct, key b hb]; rfl
        · cases hq
    · cases hq
  · cases hq

theorem eqGuard_ok {op : BinOp} {t : TypeId} {x y : Operand} {a b v : Value} {l : List HP} (hq : qbin P op t a b = some (v, l)) : (eqGuard op t x y a b).run P w = .ok () w := by
  unfold qbin at hq
  split at hq
  · cases op <;> simp [eqGuard]
  · cases op <;> simp [eqGuard]
  · cases op <;> simp [eqGuard]
  · split at hq
    · split at hq
      · cases hq
      · rename_i hg
        simp only [Bool.or_eq_true, not_or, Bool.not_eq_true] at hg
        exact run_eqGuard_agg w op t x y _ _ hg.2
    · cases hq
  · cases hq

theorem qpart_ok {t : TypeId} {cs : Array Value} {off : Nat} {v : Value} (hq : qpart P t cs off = some v) : (part t cs off).run P w = .ok v w := by
  unfold qpart at hq
  split at hq
  · cases hq
  rename_i hn
  obtain ⟨d, hd⟩ : ∃ d, P.underlying t = some d := by cases hu : P.underlying t with | none => simp [hu] at hn | some d => exact ⟨d, rfl⟩
  obtain ⟨i, hi⟩ := info_of_underlying hd
  unfold part
  simp only [Sem.run_bind, run_isAgg_eq hd, Result.andThen]
  split at hq
  · rename_i ha
    rw [if_pos ha]
    simp only [Option.some.injEq] at hq
    subst hq
    simp [run_sizeOf_eq hi]
  · rename_i ha
    rw [if_neg ha, hq]
    simp
theorem load_ok {a : Addr} {v : Value} (hc : cellH w.heap a = some v) : (load a).run P w = .ok v w := by
  rw [← cellH_eq] at hc
  simp [load, Sem.run, hc]
theorem loadCells_ok {a : Addr} : ∀ (l : List Value) (i : Nat) (acc : Array Value), cellsAt w.heap a l i → (loadCellsFrom a i l.length acc).run P w = .ok (acc ++ l.toArray) w
  | [], i, acc, _ => by simp [loadCellsFrom]
  | v :: l, i, acc, hc => by
    simp only [loadCellsFrom, List.length_cons, Sem.run_bind, load_ok hc.1, Result.andThen]
    rw [loadCells_ok l (i + 1) (acc.push v) hc.2]
    simp
theorem qload_ok {t : TypeId} {a : Addr} {v : Value} {l : List HP} (hq : qload P t a v = some l) (hw : w.heap = h) (ho : AllO h l) : (Instr.loadAt t (.pointer (some a))).run P w = .ok v w := by
  subst hw
  unfold qload at hq
  split at hq
  · cases hq
  rename_i hn
  obtain ⟨d, hd⟩ : ∃ d, P.underlying t = some d := by cases hu : P.underlying t with | none => simp [hu] at hn | some d => exact ⟨d, rfl⟩
  obtain ⟨i, hi⟩ := info_of_underlying hd
  unfold Instr.loadAt loadVar
  simp only [Instr.sureAddr, Sem.run_bind, run_isAgg_eq hd, Sem.run_pure, Result.andThen]
  split at hq
  · rename_i ha
    rw [if_pos ha]
    split at hq
    · rename_i cs
      split at hq
      · rename_i hs
        simp only [Option.some.injEq] at hq
        subst hq
        have h1 := loadCells_ok (P := P) (w := w) (a := a) cs.toList 0 #[] ho.1
        simp only [Sem.run_bind, run_sizeOf_eq hi, Result.andThen, loadCells]
        rw [← hs, ← Array.length_toList, h1]
        simp
      · cases hq
    · cases hq
  · rename_i ha
    rw [if_neg ha]
    simp only [Option.some.injEq] at hq
    subst hq
    exact load_ok ho.1

theorem addr_add (b off m : Nat) : (⟨b, off, none⟩ : Addr).add m = ⟨b, off + m, none⟩ := by
  unfold Addr.add
  split
  · rename_i e; subst e; rfl
  · rfl

theorem info_some {e : TypeId} (hn : ¬ (P.info? e).isNone = true) : ∃ i, P.info? e = some i := by
  cases hu : P.info? e with | none => simp [hu] at hn | some d => exact ⟨d, rfl⟩

set_option maxHeartbeats 1000000 in
theorem qopN_ok {ρ : Operand → Value} {o : Oper} {orc orc' : List Orc} {v : Value} {l : List HP} (hq : qopN P ρ o orc = some (v, l, orc')) (hw : w.heap = h) (ho : AllO h l) :
    (execOp ρ o).run P w = .ok (.value v) w := by
  unfold qopN at hq
  split at hq
  · simp only [Option.some.injEq, Prod.mk.injEq] at hq
    obtain ⟨rfl, rfl, _⟩ := hq
    exact ho.1 w hw
  · obtain ⟨dst, op, type, pos, after, guard⟩ := o
    simp only at hq
    split at hq
    · simp only [Option.some.injEq, Prod.mk.injEq] at hq; obtain ⟨rfl, rfl, _⟩ := hq; simp [execOp]
    · simp only [Option.some.injEq, Prod.mk.injEq] at hq; obtain ⟨rfl, rfl, _⟩ := hq; simp [execOp]
    · rename_i c a b
      split at hq
      · rename_i hc; simp only [Option.some.injEq, Prod.mk.injEq] at hq; obtain ⟨rfl, rfl, _⟩ := hq; simp [execOp, hc, asBool]
      · rename_i hc; simp only [Option.some.injEq, Prod.mk.injEq] at hq; obtain ⟨rfl, rfl, _⟩ := hq; simp [execOp, hc, asBool]
      · cases hq
    · rename_i op t x y _
      simp only [Option.map_eq_some_iff, Prod.mk.injEq] at hq
      obtain ⟨⟨v1, l1⟩, h1, rfl, rfl, _⟩ := hq
      simp only [execOp, Sem.run_bind, eqGuard_ok h1, qbin_ok h1 hw ho, Result.andThen, Sem.run_pure]
    · rename_i x
      split at hq
      · rename_i b hb; simp only [Option.some.injEq, Prod.mk.injEq] at hq; obtain ⟨rfl, rfl, _⟩ := hq; simp [execOp, hb, Op.unary]
      · cases hq
    · rename_i t i
      split at hq
      · rename_i vs hvs
        simp only [Option.map_eq_some_iff, Prod.mk.injEq] at hq
        obtain ⟨u, hu, rfl, rfl, _⟩ := hq
        simp [execOp, hvs, Instr.extract, hu]
      · cases hq
    · rename_i t x i
      split at hq
      · rename_i fs cs hfs hcs
        simp only [Option.bind_eq_some_iff, Option.map_eq_some_iff, Prod.mk.injEq] at hq
        obtain ⟨f, hf, u, hu, rfl, rfl, _⟩ := hq
        simp only [execOp, hcs, Instr.field, Sem.run_bind, run_underlying hfs, Result.andThen, hf, asAgg, Sem.run_pure, qpart_ok hu]
      · cases hq
    · rename_i t x i
      split at hq
      · rename_i len e cs k j ht hx hi
        split at hq
        · rename_i hj
          obtain ⟨i, hi2⟩ := info_some (P := P) (e := e) (by intro hc; have h3 := hj.2.2; cases hu : P.info? e with | none => simp [hu] at h3 | some d => simp [hu] at hc)
          simp only [Option.map_eq_some_iff, Prod.mk.injEq] at hq
          obtain ⟨u, hu, rfl, rfl, _⟩ := hq
          simp only [execOp, hx, hi, Instr.index, Sem.run_bind, run_underlying ht, Result.andThen, asIntOf, Sem.run_pure]
          rw [if_pos ⟨hj.1, hj.2.1⟩]
          simp only [Sem.run_bind, run_sizeOf_eq hi2, Result.andThen, qpart_ok hu]
        · cases hq
      · cases hq
    · simp only [Option.some.injEq, Prod.mk.injEq] at hq; obtain ⟨rfl, rfl, _⟩ := hq; simp [execOp, Instr.makeFunc]
    · simp only [Option.map_eq_some_iff, Prod.mk.injEq] at hq
      obtain ⟨cs, hcs, rfl, rfl, _⟩ := hq
      simp only [execOp, Sem.run_bind, run_build w _ _ cs hcs, Result.andThen, Sem.run_pure]
    · rename_i t x i
      split at hq
      · rename_i fs a hfs hx
        simp only [Option.bind_eq_some_iff] at hq
        obtain ⟨f, hf, hq⟩ := hq
        split at hq
        · cases hq
        · rename_i hn
          have hn1 : ¬ P.cellsOf f.type = 0 := fun e => hn (.inl e)
          obtain ⟨i, hi⟩ := info_some (P := P) (e := f.type) (fun e => hn (.inr e))
          simp only [Option.some.injEq, Prod.mk.injEq] at hq; obtain ⟨rfl, rfl, _⟩ := hq
          simp only [execOp, hx, Instr.fieldAt, Sem.run_bind, run_underlying hfs, Result.andThen, hf, Instr.sureAddr, Sem.run_pure, fieldPlace, run_sizeOf_eq hi, if_neg hn1]
      · cases hq
    · rename_i t x i
      split at hq
      · rename_i e b off len cap k j ht hx hi
        split at hq
        · cases hq
        · rename_i hn
          obtain ⟨i, hi2⟩ := info_some hn
          simp only [Option.some.injEq, Prod.mk.injEq] at hq; obtain ⟨rfl, rfl, _⟩ := hq
          simp only [execOp, hx, hi, Instr.indexAt, Sem.run_bind, run_underlying ht, Result.andThen, asIntOf, Sem.run_pure]
          rw [if_pos ho.1]
          simp only [Sem.run_bind, run_sizeOf_eq hi2, Result.andThen, Sem.run_pure, addr_add]
          split
          · rename_i e1; rw [e1, Nat.mul_one]
          · rfl
      · rename_i len e b off k j ht hx hi
        split at hq
        · cases hq
        · rename_i hn
          obtain ⟨i, hi2⟩ := info_some hn
          simp only [Option.some.injEq, Prod.mk.injEq] at hq; obtain ⟨rfl, rfl, _⟩ := hq
          simp only [execOp, hx, hi, Instr.indexAt, Sem.run_bind, run_underlying ht, Result.andThen, asIntOf, Sem.run_pure, Instr.sureAddr]
          rw [if_pos ho.1]
          simp only [Sem.run_bind, run_sizeOf_eq hi2, Result.andThen, Sem.run_pure, addr_add]
          split
          · rename_i e1; rw [e1, Nat.mul_one]
          · rfl
      · cases hq
    · rename_i t a
      split at hq
      · rename_i v0 r0 ad ha hnr
        simp only [Option.map_eq_some_iff, Prod.mk.injEq] at hq
        obtain ⟨u, hu, rfl, rfl, _⟩ := hq
        simp only [execOp, ha, Sem.run_bind, qload_ok hu hw ho, Result.andThen, Sem.run_pure]
      · cases hq
    · rename_i x
      split at hq
      · rename_i a ha; simp only [Option.some.injEq, Prod.mk.injEq] at hq; obtain ⟨rfl, rfl, _⟩ := hq; simp [execOp, ha]
      · rename_i g u c ha; simp only [Option.some.injEq, Prod.mk.injEq] at hq; obtain ⟨rfl, rfl, _⟩ := hq; simp [execOp, ha]
      · cases hq
    · rename_i args argTypes
      split at hq
      · rename_i x t hx ht
        split at hq
        · rename_i e a m c hu hv
          simp only [Option.some.injEq, Prod.mk.injEq] at hq; obtain ⟨rfl, rfl, _⟩ := hq
          simp [execOp, resolve, invoke, builtin, Builtin.len_, hx, ht, run_underlying hu, hv, goInt]
        · rename_i str hu hv
          simp only [Option.some.injEq, Prod.mk.injEq] at hq; obtain ⟨rfl, rfl, _⟩ := hq
          simp [execOp, resolve, invoke, builtin, Builtin.len_, hx, ht, run_underlying hu, hv, goInt]
        · cases hq
      · cases hq
    · rename_i args argTypes
      split at hq
      · rename_i x t hx ht
        split at hq
        · rename_i e a m c hu hv
          simp only [Option.some.injEq, Prod.mk.injEq] at hq; obtain ⟨rfl, rfl, _⟩ := hq
          simp [execOp, resolve, invoke, builtin, Builtin.cap_, hx, ht, run_underlying hu, hv, goInt]
        · cases hq
      · cases hq
    · rename_i args argTypes
      split at hq
      · rename_i k x k' y hv
        split at hq
        · rename_i hk; subst hk
          simp only [Option.some.injEq, Prod.mk.injEq] at hq; obtain ⟨rfl, rfl, _⟩ := hq
          simp [execOp, resolve, invoke, builtin, Builtin.min_, hv, Builtin.min2]
        · cases hq
      · cases hq
    · rename_i args argTypes
      split at hq
      · rename_i k x k' y hv
        split at hq
        · rename_i hk; subst hk
          simp only [Option.some.injEq, Prod.mk.injEq] at hq; obtain ⟨rfl, rfl, _⟩ := hq
          simp [execOp, resolve, invoke, builtin, Builtin.max_, hv, Builtin.max2]
        · cases hq
      · cases hq
    · cases hq
/-- One operation that only reads, or one whose value is said. -/
def qop (P : Program) (ρ : Operand → Value) (o : Oper) (orc : List Orc) : Option (Value × List HP × List Orc) :=
  match qopN P ρ o orc with
  | some r => some r
  | none => match orc with
    | .say v :: r => match sayOf ρ o with
      | some act => some (v, [Says P act v], r)
      | none => none
    | _ => none
theorem qop_ok {ρ : Operand → Value} {o : Oper} {orc orc' : List Orc} {v : Value} {l : List HP} (hq : qop P ρ o orc = some (v, l, orc')) (hw : w.heap = h) (ho : AllO h l) :
    (execOp ρ o).run P w = .ok (.value v) w := by
  unfold qop at hq
  split at hq
  · rename_i r hr
    simp only [Option.some.injEq] at hq
    subst hq
    exact qopN_ok hr hw ho
  · split at hq
    · split at hq
      · rename_i act hact
        simp only [Option.some.injEq, Prod.mk.injEq] at hq
        obtain ⟨rfl, rfl, _⟩ := hq
        exact sayOf_ok hact (ho.1 w hw)
      · cases hq
    · cases hq
end

/-! ### One operation of a region that stands in the text's order -/
section
variable {P : Program} {f : FuncId} {n : Nat} {k k' : List Item} {s : Env} {h : Heap} {w0 : Base} {R : Value → Heap → Prop}

/-- A step of one operation: it is run, and what stands behind it goes on. -/
theorem op_arrives {ops : Array Oper} {i : Nat} {rest : List Nat} {o : Oper} {b : Frame} {a : Act} {cs : List Frame} {w : World} {next : Act → World → Prop}
    (ho : ops[i]? = some o) (hg : Region.wanted o (yielded ops a.tmps) = true) (hh : o.wp P a w next (fun _ _ _ => False)) :
    ∃ a' w', next a' w' ∧ Steps P (lone (b.at a (.inRegion ops (i :: rest) :: k)) cs w) (lone (b.at a' (.inRegion ops rest :: k)) cs w') := by
  simp only [Oper.wp, Oper.upon] at hh
  have hg := stepG_op (P := P) (b := b) (k := k) (cs := cs) (w := w) (rest := rest) ho hg
  have hfin : ∀ v, (b.at a (.inRegion ops (i :: rest) :: k)).finish v = b.at (a.put o.dst v) (.inRegion ops rest :: k) := by
    intro v; rw [Frame.finish_at, ho]; rfl
  split at hh
  · rename_i v w' hr
    refine ⟨_, _, hh, .one (step_lone_go ?_)⟩
    rw [hg, ← hfin]; simp [stepG.apply, hr]
  · rename_i w' hr
    refine ⟨_, _, hh, .one (step_lone_go ?_)⟩
    rw [hg, ← hfin]; simp [stepG.apply, hr]
  · rename_i d w' hr
    refine ⟨_, _, hh, .one (step_lone_go ?_)⟩
    have : ({ b.at a (.inRegion ops (i :: rest) :: k) with defers := d :: a.defers } : Frame).finish undef =
        b.at ({ a with defers := d :: a.defers }.put o.dst undef) (.inRegion ops rest :: k) := by
      have := Frame.finish_at b { a with defers := d :: a.defers } ops i rest k undef
      rw [ho] at this; exact this
    rw [hg]; simp only [stepG.apply, Sem.runT_eq, hr, GStep.bare_after]
    exact congrArg (fun fr => GStep.go { frame := fr, callers := cs, status := .running, dying := none } w') this
  · rename_i f args w' hr
    obtain ⟨e, w'', fr, hR, hsteps, _, hleave⟩ := hh (b.at a (.inRegion ops (i :: rest) :: k) :: cs)
    have henter : step P (lone (b.at a (.inRegion ops (i :: rest) :: k)) cs w) =
        .next (lone (Frame.enter P f args .normal) (b.at a (.inRegion ops (i :: rest) :: k) :: cs) w') :=
      step_lone_go (by rw [hg]; simp [stepG.apply, hr, Frame.at])
    cases e with
    | returned v =>
      refine ⟨_, _, hR, .head henter (hsteps.trans (.one ?_))⟩
      rw [← hfin]; exact step_leave_returned hleave
    | panicked chain => exact hR.elim
    | outgrown => obtain ⟨_, _, hq⟩ := hR; exact hq.elim
  · rename_i row args w' hr
    obtain ⟨v, w'', hR, hsteps⟩ := hh (b.at a (.inRegion ops (i :: rest) :: k)) cs
    have henter : step P (lone (b.at a (.inRegion ops (i :: rest) :: k)) cs w) =
        .next (lone (Frame.ofRow P row args .normal) (b.at a (.inRegion ops (i :: rest) :: k) :: cs) w') :=
      step_lone_go (by rw [hg]; simp [stepG.apply, hr, Frame.at])
    refine ⟨_, _, hR, .head henter ?_⟩
    rw [← hfin]; exact hsteps
  · exact hh.elim
  · exact hh.elim

/-- What a guard says, by what is known of the slots. -/
def yieldedE (n : Nat) (s : Env) (ops : Array Oper) (j : Nat) : Option Bool :=
  match (ops[j]?).bind (·.dst) with
  | some d => if d < n then (match s d with | .bool b => some b | _ => none) else none
  | none => none
theorem yielded_eq {a : Act} {ops : Array Oper} (ha : Fits n s a) : yielded ops a.tmps = yieldedE n s ops := by
  funext j
  unfold yielded yieldedE
  cases (ops[j]?).bind (·.dst) with
  | none => rfl
  | some d =>
    simp only [Option.bind_some]
    by_cases e : d < n
    · rw [if_pos e, ha.at_ d e]; cases s d <;> rfl
    · have hs := ha.size
      rw [if_neg e, Array.getElem?_eq_none (by rw [hs]; exact Nat.le_of_not_lt e)]

theorem Run.op {ops : Array Oper} {i : Nat} {rest : List Nat} {o : Oper} (ho : ops[i]? = some o) (hg : Region.wanted o (yieldedE n s ops) = true)
    (hh : ∀ (a : Act) (w : World), Fits n s a → w.heap = h → Same0 w0 w → o.wp P a w (fun a' w' => ∃ s' h', Fits n s' a' ∧ w'.heap = h' ∧ Same0 w0 w' ∧ Run P f n (.inRegion ops rest :: k) s' h' w0 R) (fun _ _ _ => False)) :
    Run P f n (.inRegion ops (i :: rest) :: k) s h w0 R := by
  intro a w ha hw h0 cs
  obtain ⟨a', w', ⟨s', h', ha', hw', h0', hr⟩, st⟩ := op_arrives (P := P) (k := k) (rest := rest) (b := bf f) (cs := cs) ho (by rw [yielded_eq ha]; exact hg) (hh a w ha hw h0)
  obtain ⟨v, w'', fr, r, s0, st', hf, hl⟩ := hr a' w' ha' hw' h0' cs
  exact ⟨v, w'', fr, r, s0, st.trans st', hf, hl⟩

/-- What one operation does: behind it K holds of the slots and the heap. -/
def OpK (P : Program) (n : Nat) (s : Env) (h : Heap) (w0 : Base) (o : Oper) (K : Env → Heap → Prop) : Prop :=
  ∀ (a : Act) (w : World), Fits n s a → w.heap = h → Same0 w0 w → o.wp P a w (fun a' w' => ∃ s' h', Fits n s' a' ∧ w'.heap = h' ∧ Same0 w0 w' ∧ K s' h') (fun _ _ _ => False)

theorem Run.skip_op {ops : Array Oper} {i : Nat} {rest : List Nat} {o : Oper} (ho : ops[i]? = some o) (hg : Region.wanted o (yieldedE n s ops) = false)
    (hr : Run P f n (.inRegion ops rest :: k) (putO s o.dst undef) h w0 R) : Run P f n (.inRegion ops (i :: rest) :: k) s h w0 R := by
  intro a w ha hw h0 cs
  obtain ⟨v, w', fr, r, s0, st, hf, hl⟩ := hr _ w (ha.put o.dst undef) hw h0 cs
  refine ⟨v, w', fr, r, s0, .head ?_ st, hf, hl⟩
  have := step_op_skip (P := P) (b := bf f) (a := a) (k := k) (cs := cs) (w := w) (ops := ops) (i := i) (rest := rest) (by rw [ho, yielded_eq ha]; simpa using hg)
  rw [this, ho]; rfl

/-- An operation that gives a value and leaves the world. -/
theorem Run.op_value {ops : Array Oper} {i : Nat} {rest : List Nat} {o : Oper} {v : Value} (ho : ops[i]? = some o) (hg : Region.wanted o (yieldedE n s ops) = true)
    (hh : ∀ w : World, w.heap = h → (execOp (evD n s) o).run P w = .ok (.value v) w)
    (hr : Run P f n (.inRegion ops rest :: k) (putO s o.dst v) h w0 R) : Run P f n (.inRegion ops (i :: rest) :: k) s h w0 R :=
  Run.op ho hg fun a w ha hw h0 => by
    simp only [Oper.wp, eval_eq ha, hh w hw, Oper.upon_value]
    exact ⟨_, _, ha.put o.dst v, hw, h0, hr⟩

/-- A function that is entered by a call. -/
def entersB (P : Program) (g : FuncId) : Bool := match P.funcs[g]? with | some fn => (fn.name == "runtime.NumGoroutine") == false && fn.body.isSome | none => false
theorem entersB_ok {g : FuncId} (hg : entersB P g = true) (args : Array Value) (w : World) : (callFunc g args).run P w = .ok (.enter g args) w := by
  unfold entersB at hg
  split at hg
  · rename_i fn hf
    simp only [Bool.and_eq_true, beq_iff_eq] at hg
    have h1 : fn.name ≠ "runtime.NumGoroutine" := by have := hg.1; simpa using this
    obtain ⟨c, hc⟩ := Option.isSome_iff_exists.1 hg.2
    simp [callFunc, hf, h1, hc]
  · cases hg

/-- Which function an operation calls, and with what. -/
def callOf (P : Program) (ρ : Operand → Value) (o : Oper) : Option (FuncId × Array Value) :=
  match o.op with
  | .call { callee := .value x, args, .. } => match ρ x with
    | .func (.func g) first captured => if entersB P g then some (g, first ++ args.map ρ ++ captured) else none
    | _ => none
  | _ => none
theorem callOf_ok {ρ : Operand → Value} {o : Oper} {g : FuncId} {args : Array Value} (hc : callOf P ρ o = some (g, args)) (w : World) : (execOp ρ o).run P w = .ok (.enter g args) w := by
  unfold callOf at hc
  obtain ⟨dst, op, type, pos, after, guard⟩ := o
  simp only at hc
  split at hc
  · rename_i x args' _
    split at hc
    · rename_i g' first captured hx
      split at hc
      · rename_i hg
        simp only [Option.some.injEq, Prod.mk.injEq] at hc
        obtain ⟨rfl, rfl⟩ := hc
        simp [execOp, resolve, Deferred.ofValue, hx, invoke, entersB_ok hg]
      · cases hc
    · cases hc
  · cases hc

theorem OpK.call {o : Oper} {g : FuncId} {args : Array Value} {R1 : Value → Heap → Prop} {K : Env → Heap → Prop}
    (hc : callOf P (evD n s) o = some (g, args)) (hf : CtB w0.2 P g args h R1) (hr : ∀ v h', R1 v h' → K (putO s o.dst v) h') : OpK P n s h w0 o K := fun a w ha hw h0 => by
  simp only [Oper.wp, eval_eq ha, callOf_ok hc, Oper.upon_enter]
  refine (hf w hw).mono fun e w' he => ?_
  obtain ⟨v, rfl, hs, hv⟩ := he
  exact ⟨_, _, ha.put o.dst v, rfl, h0.call hs, hr v _ hv⟩
theorem Run.op_call {ops : Array Oper} {i : Nat} {rest : List Nat} {o : Oper} {g : FuncId} {args : Array Value} {R1 : Value → Heap → Prop} (ho : ops[i]? = some o) (hg : Region.wanted o (yieldedE n s ops) = true)
    (hc : callOf P (evD n s) o = some (g, args)) (hf : CtB w0.2 P g args h R1)
    (hr : ∀ v h', R1 v h' → Run P f n (.inRegion ops rest :: k) (putO s o.dst v) h' w0 R) : Run P f n (.inRegion ops (i :: rest) :: k) s h w0 R :=
  Run.op ho hg (OpK.call hc hf hr)
end

/-! ### Many steps at once -/
/-- A slot's truth: written out, or said. -/
def truth (v : Value) : List Orc → Option (Bool × List HP × List Orc)
  | .lit :: r => match v with | .bool b => some (b, [], r) | _ => none
  | .dec d :: r => match v with | .bool e => some (d, [fun _ => e = d], r) | _ => none
  | _ => none
/-- What is known behind a decision. -/
def putB (n : Nat) (s : Env) (c : Operand) (b : Bool) : Env := match c with | .tmp t => if t < n then put s t (.bool b) else s | _ => s

theorem truth_ok {v : Value} {orc r : List Orc} {b : Bool} {l : List HP} {h : Heap} (ht : truth v orc = some (b, l, r)) (ho : AllO h l) : v = .bool b := by
  unfold truth at ht
  split at ht
  · split at ht
    · simp only [Option.some.injEq, Prod.mk.injEq] at ht; rw [ht.1]
    · cases ht
  · split at ht
    · simp only [Option.some.injEq, Prod.mk.injEq] at ht
      obtain ⟨rfl, rfl, _⟩ := ht
      rw [ho.1]
    · cases ht
  · cases ht
theorem putB_ok {n : Nat} {s : Env} {c : Operand} {b : Bool} (hc : evD n s c = .bool b) : putB n s c b = s := by
  unfold putB
  split
  · rename_i t
    split
    · rename_i ht
      funext u
      unfold put
      split
      · rename_i hu
        simp only [evD, if_pos ht] at hc
        rw [hu, hc]
      · rfl
    · rfl
  · rfl

/-- An operation that only reads, or a call whose answer is said and that leaves the heap. -/
def qcall (P : Program) (d : Bool) (ρ : Operand → Value) (o : Oper) (orc : List Orc) : Option (Value × List HP × List Orc) :=
  match callOf P ρ o with
  | some (g, args) => match orc with
    | .val v :: r => some (v, [fun h => CtB d P g args h (fun v' h' => v' = v ∧ h' = h)], r)
    | _ => none
  | none => none

/-- The guard of an operation: is it run? with the slots behind that, what must hold, and what is said next. -/
def guardE (n : Nat) (s : Env) (ops : Array Oper) (o : Oper) (orc : List Orc) : Option (Bool × Env × List HP × List Orc) :=
  match o.guard with
  | none => some (true, s, [], orc)
  | some (j, want) =>
    match (ops[j]?).bind (·.dst) with
    | some d => if d < n then
        (match orc with
        | .off :: r => (match s d with | .tuple _ => some (false, s, [], r) | _ => none)
        | orc => match truth (s d) orc with
          | some (true, l, r) => some (want, put s d (.bool true), l, r)
          | some (false, l, r) => some (!want, put s d (.bool false), l, r)
          | none => none) else none
    | none => none
theorem guardE_ok {n : Nat} {s s' : Env} {ops : Array Oper} {o : Oper} {orc orc' : List Orc} {b : Bool} {l : List HP} {h : Heap}
    (hg : guardE n s ops o orc = some (b, s', l, orc')) (ho : AllO h l) : s' = s ∧ Region.wanted o (yieldedE n s ops) = b := by
  unfold guardE at hg
  unfold Region.wanted yieldedE
  split at hg
  · rename_i hn
    simp only [Option.some.injEq, Prod.mk.injEq] at hg
    obtain ⟨rfl, rfl, _, _⟩ := hg
    exact ⟨rfl, by rw [hn]⟩
  · rename_i j want hj
    split at hg
    · rename_i d hd
      split at hg
      · rename_i hdn
        split at hg
        · split at hg
          · rename_i vs hv
            simp only [Option.some.injEq, Prod.mk.injEq] at hg
            obtain ⟨rfl, rfl, _, _⟩ := hg
            refine ⟨rfl, ?_⟩
            rw [hj]
            simp only [hd, if_pos hdn, hv]
            rfl
          · cases hg
        have fin : ∀ (b1 : Bool) (l1 : List HP) (r1 : List Orc) (orc : List Orc), truth (s d) orc = some (b1, l1, r1) → AllO h l1 → put s d (.bool b1) = s ∧ Region.wanted o (yieldedE n s ops) = (b1 == want) := by
          intro b1 l1 r1 orc ht ho
          have hv := truth_ok ht ho
          refine ⟨?_, ?_⟩
          · have := putB_ok (n := n) (s := s) (c := .tmp d) (b := b1) (by simp only [evD, if_pos hdn]; exact hv)
            simpa only [putB, if_pos hdn] using this
          · unfold Region.wanted yieldedE
            rw [hj]
            simp only [hd, if_pos hdn, hv]
            cases b1 <;> cases want <;> rfl
        unfold Region.wanted yieldedE at fin
        split at hg
        · rename_i l1 r1 ht
          simp only [Option.some.injEq, Prod.mk.injEq] at hg
          obtain ⟨rfl, rfl, rfl, _⟩ := hg
          obtain ⟨f1, f2⟩ := fin _ _ _ _ ht ho
          exact ⟨f1, f2.trans (by cases want <;> rfl)⟩
        · rename_i l1 r1 ht
          simp only [Option.some.injEq, Prod.mk.injEq] at hg
          obtain ⟨rfl, rfl, rfl, _⟩ := hg
          obtain ⟨f1, f2⟩ := fin _ _ _ _ ht ho
          exact ⟨f1, f2.trans (by cases want <;> rfl)⟩
        · cases hg
      · cases hg
    · cases hg

/-- .. or a call whose answer is said and that lays new blocks alone. -/
def qcallE (P : Program) (d : Bool) (ρ : Operand → Value) (o : Oper) (orc : List Orc) : Option (Value × List HP × List Orc) :=
  match callOf P ρ o with
  | some (g, args) => match orc with
    | .val v :: r => some (v, [fun h => CtB d P g args h (fun v' h' => v' = v ∧ Ext h h')], r)
    | _ => none
  | none => none
def qdrawE (P : Program) (d : Bool) (n : Nat) (ops : Array Oper) : List Oper → Env → List Orc → Option (Env × List HP × List Orc)
  | [], s, orc => some (s, [], orc)
  | o :: rest, s, orc =>
    match guardE n s ops o orc with
    | some (true, s1, l1, orc1) =>
      match (match qop P (evD n s1) o orc1 with | some r => some r | none => qcallE P d (evD n s1) o orc1) with
      | some (v, l2, orc2) => force v fun v => match qdrawE P d n ops rest (putO s1 o.dst v) orc2 with
        | some (s3, l3, orc3) => some (s3, l1 ++ (l2 ++ l3), orc3)
        | none => none
      | none => none
    | some (false, s1, l1, orc1) => match qdrawE P d n ops rest (putO s1 o.dst undef) orc1 with
      | some (s3, l3, orc3) => some (s3, l1 ++ l3, orc3)
      | none => none
    | none => none

/-- The operations of a region whose order is open, in the text's order, all of them reading or calls that leave the heap. -/
def qdraw (P : Program) (d : Bool) (n : Nat) (ops : Array Oper) : List Oper → Env → List Orc → Option (Env × List HP × List Orc)
  | [], s, orc => some (s, [], orc)
  | o :: rest, s, orc =>
    match guardE n s ops o orc with
    | some (true, s1, l1, orc1) =>
      match (match qop P (evD n s1) o orc1 with | some r => some r | none => qcall P d (evD n s1) o orc1) with
      | some (v, l2, orc2) => force v fun v => match qdraw P d n ops rest (putO s1 o.dst v) orc2 with
        | some (s3, l3, orc3) => some (s3, l1 ++ (l2 ++ l3), orc3)
        | none => none
      | none => none
    | some (false, s1, l1, orc1) => match qdraw P d n ops rest (putO s1 o.dst undef) orc1 with
      | some (s3, l3, orc3) => some (s3, l1 ++ l3, orc3)
      | none => none
    | none => none

/-- The text's order may be taken for every order (shown once for each region). -/
structure LexOk (ops : Array Oper) : Prop where
  ok : Region.lexB .any ops = true
/-- One step, if it is one that needs nobody: the items and slots behind it, and what must hold. -/
def step1 (P : Program) (d : Bool) (n : Nat) : List Item → Env → List Orc → Option (List Item × Env × List HP × List Orc)
  | .code .skip :: k, s, orc => some (k, s, [], orc)
  | .inBlock _ :: k, s, orc => some (k, s, [], orc)
  | .code (.seq a b) :: k, s, orc => some (.code a :: .code b :: k, s, [], orc)
  | .code (.block id c) :: k, s, orc => some (.code c :: .inBlock id :: k, s, [], orc)
  | .code (.exit id) :: k, s, orc => (exitTo id k).map fun k' => (k', s, [], orc)
  | .code (.loop c) :: k, s, orc => some (.code c :: .inLoop c :: k, s, [], orc)
  | .inLoop c :: k, s, orc => some (.code c :: .inLoop c :: k, s, [], orc)
  | .code (.cond c t e) :: k, s, orc => match truth (evD n s c) orc with
    | some (true, l, r) => some (.code t :: k, putB n s c true, l, r)
    | some (false, l, r) => some (.code e :: k, putB n s c false, l, r)
    | none => none
  | .code (.region _ ops false) :: k, s, orc => some (.inRegion ops (List.range ops.size) :: k, s, [], orc)
  | .code (.region _ ops true) :: k, s, orc => match orc with
    | .draw :: orc => if P.follows .mixedOrders then (match qdraw P d n ops ops.toList s orc with
      | some (s3, l3, orc3) => some (k, s3, (fun _ => LexOk ops) :: l3, orc3)
      | none => none) else none
    | _ => none
  | .inRegion _ [] :: k, s, orc => some (k, s, [], orc)
  | .inRegion ops (i :: rest) :: k, s, orc =>
    match ops[i]? with
    | some o =>
      match guardE n s ops o orc with
      | some (true, s1, l1, orc1) =>
        match (match qop P (evD n s1) o orc1 with | some r => some r | none => qcall P d (evD n s1) o orc1) with
        | some (v, l2, orc2) => force v fun v => some (.inRegion ops rest :: k, putO s1 o.dst v, l1 ++ l2, orc2)
        | none => none
      | some (false, s1, l1, orc1) => some (.inRegion ops rest :: k, putO s1 o.dst undef, l1, orc1)
      | none => none
    | none => none
  | _, _, _ => none

def adv (P : Program) (d : Bool) (n : Nat) : Nat → List Item → Env → List Orc → List Item × Env × List HP
  | 0, k, s, _ => (k, s, [])
  | fuel + 1, k, s, orc =>
    match step1 P d n k s orc with
    | some (k', s', l, orc') => match adv P d n fuel k' s' orc' with | (k2, s2, l2) => (k2, s2, l ++ l2)
    | none => (k, s, [])

section
variable {P : Program} {f : FuncId} {n : Nat} {k k' : List Item} {s s' : Env} {h : Heap} {w0 : Base} {R : Value → Heap → Prop} {l : List HP} {orc orc' : List Orc}

theorem qcall_ok {d : Bool} {ρ : Operand → Value} {o : Oper} {v : Value} (hq : qcall P d ρ o orc = some (v, l, orc')) :
    ∃ g args, callOf P ρ o = some (g, args) ∧ (AllO h l → CtB d P g args h (fun v' h' => v' = v ∧ h' = h)) := by
  unfold qcall at hq
  split at hq
  · rename_i g args hc
    split at hq
    · simp only [Option.some.injEq, Prod.mk.injEq] at hq
      obtain ⟨rfl, rfl, _⟩ := hq
      exact ⟨g, args, hc, fun ho => ho.1⟩
    · cases hq
  · cases hq

theorem quietAt_ok {a : Act} {w : World} {o : Oper} {v : Value} (ha : Fits n s a) (hw : w.heap = h) (h0 : Same0 w0 w)
    (hq : (match qop P (evD n s) o orc with | some r => some r | none => qcall P w0.2 (evD n s) o orc) = some (v, l, orc')) (ho : AllO h l) :
    o.quietAt P a (fun w' => w'.heap = h ∧ Same0 w0 w') w v := by
  unfold Oper.quietAt
  rw [eval_eq ha]
  split at hq
  · rename_i r hr
    simp only [Option.some.injEq] at hq
    subst hq
    rw [qop_ok hr hw ho]
    exact ⟨rfl, rfl⟩
  · obtain ⟨g, args, hc, hf⟩ := qcall_ok (h := h) hq
    rw [callOf_ok hc]
    refine ⟨rfl, (hf ho w hw).mono fun e w' he => ?_⟩
    obtain ⟨v', rfl, hs, rfl, hh⟩ := he
    exact ⟨rfl, hh, h0.call hs⟩

theorem qdraw_ok {ops : Array Oper} {Q : Act → Prop} : ∀ (os : List Oper) (s : Env) (orc : List Orc) (a : Act) (l : List HP), Fits n s a → qdraw P w0.2 n ops os s orc = some (s', l, orc') → AllO h l →
    (∀ a', Fits n s' a' → Q a') → wpQuiet P ops (fun w' => w'.heap = h ∧ Same0 w0 w') Q os a
  | [], s, orc, a, l, ha, hq, ho, hQ => by
    simp only [qdraw, Option.some.injEq, Prod.mk.injEq] at hq
    obtain ⟨rfl, _, _⟩ := hq
    exact hQ a ha
  | o :: os, s, orc, a, l, ha, hq, ho, hQ => by
    have ih := fun (s : Env) (orc : List Orc) (a : Act) (l : List HP) => qdraw_ok (ops := ops) (Q := Q) os s orc a l
    unfold qdraw at hq
    simp only [wpQuiet]
    rw [yielded_eq ha]
    split at hq
    · rename_i s1 l1 orc1 hg
      split at hq
      · rename_i v l2 orc2 hv
        rw [force_eq] at hq
        split at hq
        rotate_left
        · cases hq
        rename_i s3 l3 orc3 hr
        simp only [Option.some.injEq, Prod.mk.injEq] at hq
        obtain ⟨rfl, rfl, rfl⟩ := hq
        obtain ⟨ho1, ho23⟩ := AllO.append ho
        obtain ⟨ho2, ho3⟩ := AllO.append ho23
        obtain ⟨rfl, hgt⟩ := guardE_ok hg ho1
        rw [hgt, if_pos rfl]
        exact ⟨v, fun w hw => quietAt_ok ha hw.1 hw.2 hv ho2, ih _ _ _ _ (ha.put o.dst v) hr ho3 hQ⟩
      · cases hq
    · rename_i s1 l1 orc1 hg
      split at hq
      rotate_left
      · cases hq
      rename_i s3 l3 orc3 hr
      simp only [Option.some.injEq, Prod.mk.injEq] at hq
      obtain ⟨rfl, rfl, rfl⟩ := hq
      obtain ⟨ho1, ho3⟩ := AllO.append ho
      obtain ⟨rfl, hgt⟩ := guardE_ok hg ho1
      rw [hgt, if_neg (by simp)]
      exact ih _ _ _ _ (ha.put o.dst undef) hr ho3 hQ
    · cases hq

/-- A piece of code that comes to its end: what stands behind it goes on. -/
theorem Run.of_wp {c : Code} (hh : ∀ (a : Act) (w : World), Fits n s a → w.heap = h → Same0 w0 w →
      c.wp P (fun e a' w' => e = .normal ∧ ∃ s' h', Fits n s' a' ∧ w'.heap = h' ∧ Same0 w0 w' ∧ Run P f n k s' h' w0 R) a w) : Run P f n (.code c :: k) s h w0 R := by
  intro a w ha hw h0 cs
  obtain ⟨e, a', w', ⟨rfl, s', h', ha', hw', h0', hr⟩, st⟩ := hh a w ha hw h0 (bf f) k cs
  obtain ⟨v, w'', fr, r, s0, st', hf, hl⟩ := hr a' w' ha' hw' h0' cs
  exact ⟨v, w'', fr, r, s0, Steps.trans st st', hf, hl⟩

theorem step1_ok (hq : step1 P w0.2 n k s orc = some (k', s', l, orc')) (ho : AllO h l) (hr : Run P f n k' s' h w0 R) : Run P f n k s h w0 R := by
  unfold step1 at hq
  split at hq
  · simp only [Option.some.injEq, Prod.mk.injEq] at hq
    obtain ⟨rfl, rfl, _, _⟩ := hq
    exact hr.step fun a w cs _ _ _ => step_skip
  · simp only [Option.some.injEq, Prod.mk.injEq] at hq
    obtain ⟨rfl, rfl, _, _⟩ := hq
    exact hr.step fun a w cs _ _ _ => step_inBlock
  · simp only [Option.some.injEq, Prod.mk.injEq] at hq
    obtain ⟨rfl, rfl, _, _⟩ := hq
    exact hr.step fun a w cs _ _ _ => step_seq
  · simp only [Option.some.injEq, Prod.mk.injEq] at hq
    obtain ⟨rfl, rfl, _, _⟩ := hq
    exact hr.step fun a w cs _ _ _ => step_block
  · simp only [Option.map_eq_some_iff, Prod.mk.injEq] at hq
    obtain ⟨k2, hk, rfl, rfl, _, _⟩ := hq
    exact hr.step fun a w cs _ _ _ => step_exit hk
  · simp only [Option.some.injEq, Prod.mk.injEq] at hq
    obtain ⟨rfl, rfl, _, _⟩ := hq
    exact hr.step fun a w cs _ _ _ => step_loop
  · simp only [Option.some.injEq, Prod.mk.injEq] at hq
    obtain ⟨rfl, rfl, _, _⟩ := hq
    exact hr.step fun a w cs _ _ _ => step_inLoop
  · rename_i c t e k
    split at hq
    · rename_i l1 r1 ht
      simp only [Option.some.injEq, Prod.mk.injEq] at hq
      obtain ⟨rfl, rfl, rfl, _⟩ := hq
      have hv := truth_ok ht ho
      rw [putB_ok hv] at hr
      exact hr.step fun a w cs ha _ _ => step_cond (t := true) (by rw [eval_eq ha]; exact hv)
    · rename_i l1 r1 ht
      simp only [Option.some.injEq, Prod.mk.injEq] at hq
      obtain ⟨rfl, rfl, rfl, _⟩ := hq
      have hv := truth_ok ht ho
      rw [putB_ok hv] at hr
      exact hr.step fun a w cs ha _ _ => step_cond (t := false) (by rw [eval_eq ha]; exact hv)
    · cases hq
  · simp only [Option.some.injEq, Prod.mk.injEq] at hq
    obtain ⟨rfl, rfl, _, _⟩ := hq
    exact hr.step fun a w cs _ _ _ => step_region
  · rename_i id ops k
    split at hq
    · rename_i orc
      split at hq
      · rename_i hB
        split at hq
        rotate_left
        · cases hq
        rename_i s3 l3 orc3 hd
        simp only [Option.some.injEq, Prod.mk.injEq] at hq
        obtain ⟨rfl, rfl, rfl, _⟩ := hq
        refine Run.of_wp fun a w ha hw h0 => ?_
        refine wp_region_quiet (C := fun w' => w'.heap = h ∧ Same0 w0 w') hB ho.1.ok ⟨hw, h0.drew⟩ ?_
        exact qdraw_ok _ _ _ _ _ ha hd ho.2 fun a' ha' w' hw' => ⟨rfl, _, _, ha', hw'.1, hw'.2, hr⟩
      · cases hq
    · cases hq
  · simp only [Option.some.injEq, Prod.mk.injEq] at hq
    obtain ⟨rfl, rfl, _, _⟩ := hq
    exact hr.step fun a w cs _ _ _ => step_region_end
  · rename_i ops i rest k
    split at hq
    · rename_i o hoo
      split at hq
      · rename_i s1 l1 orc1 hg
        split at hq
        · rename_i v l2 orc2 hv
          rw [force_eq] at hq
          simp only [Option.some.injEq, Prod.mk.injEq] at hq
          obtain ⟨rfl, rfl, rfl, _⟩ := hq
          obtain ⟨ho1, ho2⟩ := AllO.append ho
          obtain ⟨rfl, hgt⟩ := guardE_ok hg ho1
          split at hv
          · rename_i r hqr
            simp only [Option.some.injEq] at hv
            subst hv
            exact Run.op_value hoo hgt (fun w hw => qop_ok hqr hw ho2) hr
          · obtain ⟨g, args, hc, hf⟩ := qcall_ok (h := h) hv
            refine Run.op_call hoo hgt hc (hf ho2) ?_
            rintro v' h' ⟨rfl, rfl⟩
            exact hr
        · cases hq
      · rename_i s1 l1 orc1 hg
        simp only [Option.some.injEq, Prod.mk.injEq] at hq
        obtain ⟨rfl, rfl, rfl, _⟩ := hq
        obtain ⟨rfl, hgt⟩ := guardE_ok hg ho
        exact Run.skip_op hoo hgt hr
      · cases hq
    · cases hq
  · cases hq

theorem adv_ok : ∀ (fuel : Nat) (k : List Item) (s : Env) (orc : List Orc), AllO h (adv P w0.2 n fuel k s orc).2.2 → Run P f n (adv P w0.2 n fuel k s orc).1 (adv P w0.2 n fuel k s orc).2.1 h w0 R → Run P f n k s h w0 R
  | 0, k, s, orc, _, hr => hr
  | fuel + 1, k, s, orc, ho, hr => by
    unfold adv at ho hr
    split at ho
    · rename_i k' s' l orc' hs
      simp only [hs] at hr
      obtain ⟨ho1, ho2⟩ := AllO.append ho
      exact step1_ok hs ho1 (adv_ok fuel k' s' orc' ho2 hr)
    · rename_i hs
      simp only [hs] at hr
      exact hr
end

/-! ### The rules that a walk uses -/
/-- Slots that are known, over others that are not. -/
def kn : List (Nat × Value) → Env → Env
  | [], f => f
  | (t, v) :: r, f => put (kn r f) t v
def conjO (h : Heap) : List HP → Prop
  | [] => True
  | [p] => p h
  | p :: r => p h ∧ conjO h r
theorem conjO_all {h : Heap} : ∀ {l : List HP}, conjO h l → AllO h l
  | [], _ => trivial
  | [p], hp => ⟨hp, trivial⟩
  | p :: q :: r, ⟨hp, hr⟩ => ⟨hp, conjO_all (l := q :: r) hr⟩

/-- Where a walk stands: the items at a place of a body. Steps of the path: 0, 1: the parts of a sequence; 2: into a block; 3: into a loop's body; 4, 5: the ways of a test; 7: at a loop, to go round again; 8, i: in a region, at operation i. -/
def pos : List Nat → Code → List Item → List Item
  | [], c, k => .code c :: k
  | 0 :: p, .seq a b, k => pos p a (.code b :: k)
  | 1 :: p, .seq _ b, k => pos p b k
  | 2 :: p, .block id c, k => pos p c (.inBlock id :: k)
  | 3 :: p, .loop c, k => pos p c (.inLoop c :: k)
  | 7 :: _, .loop c, k => .inLoop c :: k
  | 4 :: p, .cond _ a _, k => pos p a k
  | 5 :: p, .cond _ _ a, k => pos p a k
  | [8, i], .region _ ops _, k => .inRegion ops ((List.range ops.size).drop i) :: k
  | _, _, _ => []
/-- The operations of a region that stands first. -/
def opsAt : List Item → Array Oper
  | .code (.region _ ops _) :: _ => ops
  | _ => #[]
/-- A place in a function's body. -/
def at_ (fn : Func) (p : List Nat) : List Item := match fn.body with | some c => pos p c [] | none => []

section
variable {P : Program} {f : FuncId} {n : Nat} {k k' : List Item} {s s' : Env} {h : Heap} {w0 : Base} {R : Value → Heap → Prop} {orc orc' : List Orc}

theorem kn_self : ∀ (l : List (Nat × Value)) (s : Env), (l.map Prod.fst).map s = l.map Prod.snd → kn l s = s
  | [], _, _ => rfl
  | (t, v) :: r, s, h => by
    simp only [List.map_cons, List.cons.injEq] at h
    simp only [kn, kn_self r s h.2]
    funext u
    unfold put
    split
    · rename_i e; rw [e, h.1]
    · rfl

/-- On to another place: l1: the slots of which something is known there. -/
theorem Run.adv (fuel : Nat) (orc : List Orc) (k1 : List Item) (l1 : List (Nat × Value)) (Q : Prop)
    (he : (match Vc.adv P w0.2 n fuel k s orc with | (k2, s2, l2) => (k2, (l1.map Prod.fst).map s2, conjO h l2)) = (k1, l1.map Prod.snd, Q)) (hq : Q)
    (hr : ∀ s', Run P f n k1 (kn l1 s') h w0 R) : Run P f n k s h w0 R := by
  refine adv_ok fuel k s orc ?_ ?_
  · simp only [Prod.mk.injEq] at he
    exact conjO_all (he.2.2 ▸ hq)
  · simp only [Prod.mk.injEq] at he
    have := hr (Vc.adv P w0.2 n fuel k s orc).2.1
    rw [kn_self _ _ he.2.1] at this
    rw [he.1]
    exact this

/-- What is known may be forgotten, or told otherwise. -/
theorem Run.known (l1 : List (Nat × Value)) (he : (l1.map Prod.fst).map s = l1.map Prod.snd) (hr : ∀ s', Run P f n k (kn l1 s') h w0 R) : Run P f n k s h w0 R := by
  have := hr s
  rwa [kn_self _ _ he] at this

def loopPts : List Item → Option (List Item × List Item)
  | .code (.loop c) :: k => some (.code c :: .inLoop c :: k, .inLoop c :: k)
  | _ => none
theorem Run.loop {ι : Type} (k1 k2 : List Item) (L : ι → List (Nat × Value)) (J : ι → Heap → Prop) (μ : ι → Nat) (x0 : ι) {f0 : Env} (hk : loopPts k = some (k1, k2))
    (hs : s = kn (L x0) f0) (h0 : J x0 h)
    (round : ∀ x f0 h, J x h → (∀ x' f1 h', J x' h' → μ x' < μ x → Run P f n k2 (kn (L x') f1) h' w0 R) → Run P f n k1 (kn (L x) f0) h w0 R) :
    Run P f n k s h w0 R := by
  subst hs
  unfold loopPts at hk
  split at hk
  · rename_i c k'
    simp only [Option.some.injEq, Prod.mk.injEq] at hk
    obtain ⟨rfl, rfl⟩ := hk
    have key : ∀ m x f0 h, μ x = m → J x h → Run P f n (.code c :: .inLoop c :: k') (kn (L x) f0) h w0 R := by
      intro m
      induction m using Nat.strongRecOn with
      | _ m ih =>
        intro x f0 h hm hJ
        exact round x f0 h hJ fun x' f1 h' hJ' hlt => (ih (μ x') (hm ▸ hlt) x' f1 h' rfl hJ').step fun a w cs _ _ _ => step_inLoop
    exact (key _ x0 f0 h rfl h0).step fun a w cs _ _ _ => step_loop
  · cases hk

/-- What a function's results are, by what is known of the slots; of those in memory it is said. -/
def resQ (P : Program) (n : Nat) (s : Env) : List ResultVar → List Value → Option (List Value × List HP)
  | [], _ => some ([], [])
  | .tmp t :: r, vs => (resQ P n s r vs).map fun x => (evD n s (.tmp t) :: x.1, x.2)
  | .cell a t :: r, v :: vs => match evD n s (.tmp a) with
    | .pointer (some ad) => (qload P t ad v).bind fun l => (resQ P n s r vs).map fun x => (v :: x.1, l ++ x.2)
    | _ => none
  | .cell _ _ :: _, [] => none
def ret1 (vs : List Value) : Value := match vs with | [v] => v | _ => .tuple vs.toArray

def resF (a : Act) : ResultVar → Sem Value
  | .tmp t => pure (a.tmps.getD t undef)
  | .cell ad t => do loadVar t (← asAddr (a.tmps.getD ad undef))
theorem results_eq (fn : Func) (a : Act) : results fn a.tmps = (do let vs ← fn.results.mapM (resF a); pure (if h : vs.size = 1 then vs[0] else .tuple vs)) := rfl
theorem results_ok {a : Act} {w : World} (ha : Fits n s a) (hw : w.heap = h) : ∀ (rs : List ResultVar) (vs us : List Value) (l : List HP), resQ P n s rs vs = some (us, l) → AllO h l →
    (rs.mapM (resF a)).run P w = .ok us w
  | [], vs, us, l, hq, ho => by
    simp only [resQ, Option.some.injEq, Prod.mk.injEq] at hq
    obtain ⟨rfl, _⟩ := hq
    simp
  | .tmp t :: rs, vs, us, l, hq, ho => by
    simp only [resQ, Option.map_eq_some_iff, Prod.mk.injEq] at hq
    obtain ⟨⟨us1, l1⟩, hq, rfl, rfl⟩ := hq
    have he : a.tmps.getD t undef = evD n s (.tmp t) := by rw [← eval_eq ha]; rfl
    rw [List.mapM_cons]
    simp only [resF, Sem.run_bind, Sem.run_pure, Result.andThen, he, results_ok ha hw rs vs us1 l1 hq ho]
  | .cell ad t :: rs, v :: vs, us, l, hq, ho => by
    unfold resQ at hq
    split at hq
    · rename_i a1 h1
      simp only [Option.bind_eq_some_iff, Option.map_eq_some_iff, Prod.mk.injEq] at hq
      obtain ⟨l1, hl, ⟨us1, l2⟩, hq, rfl, rfl⟩ := hq
      obtain ⟨ho1, ho2⟩ := AllO.append ho
      have he : a.tmps.getD ad undef = .pointer (some a1) := by rw [← h1, ← eval_eq ha]; rfl
      have := qload_ok (P := P) hl hw ho1
      simp only [Instr.loadAt, Instr.sureAddr, Sem.run_bind, Sem.run_pure, Result.andThen] at this
      have hA : (asAddr (.pointer (some a1))).run P w = .ok a1 w := rfl
      rw [List.mapM_cons]
      simp only [resF, Sem.run_bind, Sem.run_pure, Result.andThen, he, hA, this, results_ok ha hw rs vs us1 l2 hq ho2]
    · cases hq
  | .cell ad t :: rs, [], us, l, hq, ho => by simp [resQ] at hq

/-- The end of a function. -/
theorem Run.ret {fn : Func} (vs : List Value) (u : Value) (Q : Prop) (hf : P.funcs[f]? = some fn) (hk : (match k with | [] => true | .code .ret :: _ => true | _ => false) = true)
    (he : (match resQ P n s fn.results.toList vs with | some (us, l) => (ret1 us, conjO h l) | none => (undef, False)) = (u, Q)) (hq : Q) (hR : R u h) : Run P f n k s h w0 R := by
  intro a w ha hw h0 cs
  have hres : (results fn a.tmps).run P w = .ok u w := by
    split at he
    · rename_i us l hq1
      simp only [Prod.mk.injEq] at he
      have := results_ok ha hw _ _ _ _ hq1 (conjO_all (he.2 ▸ hq))
      have hl : fn.results = fn.results.toList.toArray := by simp
      rw [results_eq, hl, List.mapM_toArray]
      simp only [Sem.run_bind, map_eq_pure_bind, this, Result.andThen, Sem.run_pure]
      rw [← he.1]
      congr 1
      match us with
      | [] => rfl
      | [v] => rfl
      | _ :: _ :: _ => rfl
    · simp only [Prod.mk.injEq] at he
      exact absurd (he.2 ▸ hq) id
  cases k with
  | nil => exact ⟨u, w, _, hw ▸ hR, h0, .one step_end, rfl, rfl, ha.defers, rfl, fn, hf, hres⟩
  | cons x k =>
    cases x with
    | code c =>
      cases c <;> first
        | (simp at hk; done)
        | exact ⟨u, w, _, hw ▸ hR, h0, .one step_ret, rfl, rfl, ha.defers, rfl, fn, hf, hres⟩
    | _ => simp at hk
end

/-! ### A region of open order whose calls lay new blocks -/
section
variable {P : Program} {f : FuncId} {n : Nat} {k k1 : List Item} {s s' : Env} {h : Heap} {w0 : Base} {R : Value → Heap → Prop} {l : List HP} {orc orc' : List Orc}
theorem qcallE_ok {d : Bool} {ρ : Operand → Value} {o : Oper} {v : Value} (hq : qcallE P d ρ o orc = some (v, l, orc')) :
    ∃ g args, callOf P ρ o = some (g, args) ∧ (∀ H, AllO H l → CtB d P g args H (fun v' h' => v' = v ∧ Ext H h')) := by
  unfold qcallE at hq
  split at hq
  · rename_i g args hc
    split at hq
    · simp only [Option.some.injEq, Prod.mk.injEq] at hq
      obtain ⟨rfl, rfl, _⟩ := hq
      exact ⟨g, args, hc, fun H ho => ho.1⟩
    · cases hq
  · cases hq
theorem quietAtE_ok {a : Act} {w : World} {o : Oper} {v : Value} (ha : Fits n s a) (hw : Ext h w.heap) (h0 : Same0 w0 w)
    (hq : (match qop P (evD n s) o orc with | some r => some r | none => qcallE P w0.2 (evD n s) o orc) = some (v, l, orc')) (ho : AllO w.heap l) :
    o.quietAt P a (fun w' => Ext h w'.heap ∧ Same0 w0 w') w v := by
  unfold Oper.quietAt
  rw [eval_eq ha]
  split at hq
  · rename_i r hr
    simp only [Option.some.injEq] at hq
    subst hq
    rw [qop_ok hr rfl ho]
    exact ⟨rfl, rfl⟩
  · obtain ⟨g, args, hc, hf⟩ := qcallE_ok hq
    rw [callOf_ok hc]
    refine ⟨rfl, (hf _ ho w rfl).mono fun e w' he => ?_⟩
    obtain ⟨v', rfl, hs, rfl, hh⟩ := he
    exact ⟨rfl, hw.trans hh, h0.call hs⟩
theorem qdrawE_ok {ops : Array Oper} {Q : Act → Prop} : ∀ (os : List Oper) (s : Env) (orc : List Orc) (a : Act) (l : List HP), Fits n s a → qdrawE P w0.2 n ops os s orc = some (s', l, orc') → (∀ H, Ext h H → AllO H l) →
    (∀ a', Fits n s' a' → Q a') → wpQuiet P ops (fun w' => Ext h w'.heap ∧ Same0 w0 w') Q os a
  | [], s, orc, a, l, ha, hq, ho, hQ => by
    simp only [qdrawE, Option.some.injEq, Prod.mk.injEq] at hq
    obtain ⟨rfl, _, _⟩ := hq
    exact hQ a ha
  | o :: os, s, orc, a, l, ha, hq, ho, hQ => by
    have ih := fun (s : Env) (orc : List Orc) (a : Act) (l : List HP) => qdrawE_ok (ops := ops) (Q := Q) os s orc a l
    unfold qdrawE at hq
    simp only [wpQuiet]
    rw [yielded_eq ha]
    split at hq
    · rename_i s1 l1 orc1 hg
      split at hq
      · rename_i v l2 orc2 hv
        rw [force_eq] at hq
        split at hq
        rotate_left
        · cases hq
        rename_i s3 l3 orc3 hr
        simp only [Option.some.injEq, Prod.mk.injEq] at hq
        obtain ⟨rfl, rfl, rfl⟩ := hq
        have ho1 := (AllO.append (ho h (Ext.refl h))).1
        obtain ⟨rfl, hgt⟩ := guardE_ok hg ho1
        rw [hgt, if_pos rfl]
        exact ⟨v, fun w hw => quietAtE_ok ha hw.1 hw.2 hv (AllO.append (AllO.append (ho _ hw.1)).2).1, ih _ _ _ _ (ha.put o.dst v) hr (fun H hH => (AllO.append (AllO.append (ho H hH)).2).2) hQ⟩
      · cases hq
    · rename_i s1 l1 orc1 hg
      split at hq
      rotate_left
      · cases hq
      rename_i s3 l3 orc3 hr
      simp only [Option.some.injEq, Prod.mk.injEq] at hq
      obtain ⟨rfl, rfl, rfl⟩ := hq
      have ho1 := (AllO.append (ho h (Ext.refl h))).1
      obtain ⟨rfl, hgt⟩ := guardE_ok hg ho1
      rw [hgt, if_neg (by simp)]
      exact ih _ _ _ _ (ha.put o.dst undef) hr (fun H hH => (AllO.append (ho H hH)).2) hQ
    · cases hq
def drawE (P : Program) (d : Bool) (n : Nat) (k : List Item) (s : Env) (orc : List Orc) : Option (List Item × Env × List HP) :=
  match k with
  | .code (.region _ ops true) :: k => if P.follows .mixedOrders then (match qdrawE P d n ops ops.toList s orc with
      | some (s3, l3, _) => some (k, s3, (fun _ => LexOk ops) :: l3)
      | none => none) else none
  | _ => none
theorem Run.drawE (orc : List Orc) (k1 : List Item) (l1 : List (Nat × Value)) (Q : Heap → Prop)
    (he : (match Vc.drawE P w0.2 n k s orc with | some (k2, s2, l2) => some (k2, (l1.map Prod.fst).map s2, fun H => conjO H l2) | none => none) = some (k1, l1.map Prod.snd, Q)) (hq : ∀ H, Ext h H → Q H)
    (hr : ∀ H s', Ext h H → Run P f n k1 (kn l1 s') H w0 R) : Run P f n k s h w0 R := by
  split at he
  rotate_left
  · cases he
  rename_i k2 s2 l2 hd
  simp only [Option.some.injEq, Prod.mk.injEq] at he
  obtain ⟨rfl, h2, h3⟩ := he
  unfold Vc.drawE at hd
  split at hd
  · rename_i id ops k3
    split at hd
    · rename_i hB
      split at hd
      rotate_left
      · cases hd
      rename_i s4 l4 orc4 hd'
      simp only [Option.some.injEq, Prod.mk.injEq] at hd
      obtain ⟨rfl, rfl, rfl⟩ := hd
      have hd := hd'
      refine Run.of_wp fun a w ha hw h0 => ?_
      have hall := fun H hH => conjO_all (by have := hq H hH; rw [← h3] at this; exact this)
      refine wp_region_quiet (C := fun w' => Ext h w'.heap ∧ Same0 w0 w') hB (hall h (Ext.refl h)).1.ok ⟨by rw [fits_world, hw]; exact Ext.refl h, h0.drew⟩ ?_
      refine qdrawE_ok _ _ _ _ _ ha hd (fun H hH => (hall H hH).2) fun a' ha' w' hw' => ⟨rfl, _, _, ha', rfl, hw'.2, ?_⟩
      have := hr w'.heap s4 hw'.1
      rwa [kn_self _ _ h2] at this
    · cases hd
  · cases hd
end

/-! ### Operations that do more than read -/
def nextOp (n : Nat) (s : Env) : List Item → Option (Oper × List Item)
  | .inRegion ops (i :: rest) :: k => match ops[i]? with
    | some o => if Region.wanted o (yieldedE n s ops) = true then some (o, .inRegion ops rest :: k) else none
    | none => none
  | _ => none
section
variable {P : Program} {f : FuncId} {n : Nat} {k k1 : List Item} {s : Env} {h : Heap} {w0 : Base} {R R1 : Value → Heap → Prop}
theorem nextOp_ok {o : Oper} (hn : nextOp n s k = some (o, k1)) : ∃ ops i rest k', k = .inRegion ops (i :: rest) :: k' ∧ k1 = .inRegion ops rest :: k' ∧ ops[i]? = some o ∧ Region.wanted o (yieldedE n s ops) = true := by
  unfold nextOp at hn
  split at hn
  · rename_i ops i rest k'
    split at hn
    · rename_i o' ho
      split at hn
      · rename_i hw
        simp only [Option.some.injEq, Prod.mk.injEq] at hn
        obtain ⟨rfl, rfl⟩ := hn
        exact ⟨ops, i, rest, k', rfl, rfl, ho, hw⟩
      · cases hn
    · cases hn
  · cases hn
/-- A call, by the callee's contract. -/
theorem Run.call (g : FuncId) (args : Array Value) (dst : Option Nat) (k1 : List Item)
    (he : ((nextOp n s k).bind fun x => (callOf P (evD n s) x.1).map fun c => (c.1, c.2, x.1.dst, x.2)) = some (g, args, dst, k1)) (hf : CtB w0.2 P g args h R1)
    (hr : ∀ v h', R1 v h' → Run P f n k1 (putO s dst v) h' w0 R) : Run P f n k s h w0 R := by
  simp only [Option.bind_eq_some_iff, Option.map_eq_some_iff, Prod.mk.injEq] at he
  obtain ⟨⟨o, k2⟩, hn, ⟨g', args'⟩, hc, rfl, rfl, rfl, rfl⟩ := he
  obtain ⟨ops, i, rest, k', rfl, rfl, ho, hw⟩ := nextOp_ok hn
  exact Run.op_call ho hw hc hf hr
end

theorem bnt {b : Bool} (h : b = false) : (!b) = true := by rw [h]; rfl
theorem bnf {b : Bool} (h : b = true) : (!b) = false := by rw [h]; rfl
/-- Whether something holds. -/
noncomputable def tv (p : Prop) : Bool := @decide p (Classical.propDecidable p)
theorem tv_yes {p : Prop} (h : p) : tv p = true := @decide_eq_true p (Classical.propDecidable p) h
theorem tv_no {p : Prop} (h : ¬ p) : tv p = false := @decide_eq_false p (Classical.propDecidable p) h
theorem tv_iff {p : Prop} : tv p = true ↔ p := @decide_eq_true_iff p (Classical.propDecidable p)
end Go.Vc
