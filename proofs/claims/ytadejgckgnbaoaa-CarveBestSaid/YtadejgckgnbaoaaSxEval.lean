/- The evaluator over one operation, and over a region in the order of the text. -/
import Derived.Test.YtadejgckgnbaoaaSxBase
namespace Go.Sx

inductive TK where
  | int (k : IntKind)
  | bool
  | string
  | struct (fs : List (Nat × Nat × Bool))
  | array (n e : Nat)
  | slice (e : Nat)
  | map (k v : Nat)
  | other

structure TI where
  size : Nat
  bytes : Nat
  agg : Bool
  zero : List Value
  kind : TK

abbrev Tab := List (Nat × TI)

def TK.ok (P : Program) : TK → TypeDesc → Prop
  | .int k, d => d = .int k
  | .bool, d => d = .bool
  | .string, d => d = .string
  | .struct fs, d => ∃ fields, d = .struct fields ∧ fs.length = fields.size ∧ ∀ j : Nat, ∀ f, fields[j]? = some f → ∃ i u, P.info? f.type = some i ∧ P.underlying f.type = some u ∧
      fs[j]? = some (f.offset, i.size, (u matches .struct _ | .array _ _)) ∧ 0 < i.size
  | .array n e, d => d = .array n e
  | .slice e, d => d = .slice e
  | .map k v, d => d = .map k v
  | .other, d => (d matches .pointer _ | .func ..) = true

def _root_.Go.Value.isAgg : Value → Bool
  | .agg _ => true
  | _ => false

structure TI.ok (P : Program) (t : TypeId) (i : TI) : Prop where
  info : ∃ info z, P.info? t = some info ∧ info.size = i.size ∧ info.bytes = i.bytes ∧ info.zero = some z ∧ z.cells.toList = i.zero
  kind : ∃ d, P.underlying t = some d ∧ TK.ok P i.kind d ∧ i.agg = (d matches .struct _ | .array _ _)
  ones : ∀ c ∈ i.zero, c.oneCell' = true
  zlen : i.zero.length = i.size
  zagg : ∀ info z, P.info? t = some info → info.zero = some z → z.isAgg = i.agg

def Tab.ok (P : Program) (tt : Tab) : Prop := ∀ t i, tt.lookup t = some i → TI.ok P t i

/-- What the text tells of an operation whose outcome is not reckoned by looking. -/
inductive Hint where
  | no
  | own
  | cells (xs : List D)
  | vals (vs : List V)
  | list (n : Nat) (xs : List D)
  | call (args : List D) (r : V)
  | listT (n : Nat) (xs : List D)
  | hcall (ids : List (Nat × Bool)) (r : V) (H' : List O)
  | res (r : Nat)
  | kvs (l : List (D × D))
  | look (x : D) (b : Bool)
  | isT (h : Hint)
  | isF

abbrev vi (n : Int) : V := .d (.v (.int .i64 n))
abbrev vb (b : Bool) : V := .d (.v (.bool b))

def constV (v : Value) : V := if v.oneCell' then .d (.v v) else .top

def getV (T : St) : Operand → V
  | .tmp t => (T.lookup t).getD .top
  | .const v => constV v
  | .func f => .fn (.func f) [] []
  | .global _ => .top

/-- For a guarded operation: what holds where the guard does. -/
def V.bare : V → V
  | .when _ x => x
  | x => x
def V.cond : V → List Bool
  | .when b _ => [b]
  | _ => []

def takeN {α : Type} : Nat → List α → Option (List α)
  | 0, _ => some []
  | _ + 1, [] => none
  | n + 1, x :: xs => (takeN n xs).map (x :: ·)

def allD : List V → Option (List D)
  | [] => some []
  | .d x :: vs => (allD vs).map (x :: ·)
  | _ :: _ => none

/-- The cells of a value. -/
def V.cells : V → Option (List V)
  | .agg cs => some cs
  | .d (.agg ds) => some (ds.map .d)
  | .top => none
  | .when _ _ => none
  | .tup _ => none
  | x => some [x]

def mkAgg (vs : List V) : V :=
  match allD vs with
  | some ds => .d (.agg ds)
  | none => .agg vs

def mkVal (agg : Bool) (vs : List V) : Option V :=
  if agg then some (mkAgg vs) else match vs with
    | [x] => some x
    | _ => none
def mkD (agg : Bool) (ds : List D) : Option D :=
  if agg then some (.agg ds) else match ds with
    | [x] => some x
    | _ => none

/-- Index i of a row of n elements of e cells each: it is there, and holds 'ec'. -/
def IdxOk (cells : List D) (e n : Nat) (i : Int) (ec : List D) : Prop := 0 ≤ i ∧ i < n ∧ (cells.drop (i.toNat * e)).take e = ec ∧ ec.length = e

def LoadOk (xs : List V) (off s : Nat) (vs : List V) : Prop := (xs.drop off).take s = vs ∧ vs.length = s

def SliceOk (cells : List D) (e n : Nat) (lo hi : Int) (m : Nat) (out : List D) : Prop :=
  0 ≤ lo ∧ lo ≤ hi ∧ hi ≤ n ∧ m = (hi - lo).toNat ∧ out = (cells.drop (lo.toNat * e)).take (m * e)

def binInt (op : BinOp) (k : IntKind) (a b : Int) : Option (V × List Prop) :=
  match op with
  | .add => some (.d (.v (.int k (k.wrap (a + b)))), [])
  | .sub => some (.d (.v (.int k (k.wrap (a - b)))), [])
  | .mul => some (.d (.v (.int k (k.wrap (a * b)))), [])
  | .quo => some (.d (.v (.int k (k.wrap (a.tdiv b)))), [b ≠ 0])
  | .rem => some (.d (.v (.int k (a.tmod b))), [b ≠ 0])
  | .eql => some (vb (a == b), [])
  | .neq => some (vb (a != b), [])
  | .lss => some (vb (decide (a < b)), [])
  | .leq => some (vb (decide (a ≤ b)), [])
  | .gtr => some (vb (decide (a > b)), [])
  | .geq => some (vb (decide (a ≥ b)), [])
  | _ => none

def maxI (k : IntKind) : Int → List V → Option V
  | x, [] => some (.d (.v (.int k x)))
  | x, .d (.v (.int _ y)) :: vs => maxI k (if y > x then y else x) vs
  | _, _ => none
def minI (k : IntKind) : Int → List V → Option V
  | x, [] => some (.d (.v (.int k x)))
  | x, .d (.v (.int _ y)) :: vs => minI k (if y < x then y else x) vs
  | _, _ => none

def IntKind.same : IntKind → IntKind → Bool
  | .i8, .i8 | .i16, .i16 | .i32, .i32 | .i64, .i64 | .u8, .u8 | .u16, .u16 | .u32, .u32 | .u64, .u64 => true
  | _, _ => false

/-- Written parts of a struct: the cells from each part's offset on. -/
def putAt {α : Type} : List α → Nat → List α → List α
  | xs, _, [] => xs
  | xs, n, y :: ys => putAt (xs.set n y) (n + 1) ys

def buildFrom (place : Nat → Option (Nat × Nat)) (get : Operand → V) : List V → List (Nat × Operand) → Option (List V)
  | xs, [] => some xs
  | xs, (i, o) :: ps =>
    match place i, (get o).cells with
    | some (off, s), some vs => if vs.length == s && Nat.ble (off + s) xs.length then buildFrom place get (putAt xs off vs) ps else none
    | _, _ => none

/-- The parts of a slice's literal, each in its order. -/
def buildRow (e : Nat) (get : Operand → V) : Nat → List (Nat × Operand) → Option (List V)
  | _, [] => some []
  | k, (i, o) :: ps =>
    match (get o).cells with
    | some vs => if vs.length == e && i == k then (buildRow e get (k + 1) ps).map (vs ++ ·) else none
    | none => none

/-- An argument of a call that only reads: data as they are, or a row of one's own, lent. -/
def argOk (H : List O) : V → D → Prop
  | .d x, y => x = y
  | .sl e' id off n, .list false e m ds => e' = e ∧ m = n ∧ ds.length = n * e ∧ ∃ xs, rowAt H id = some xs ∧ (xs.drop off).take (n * e) = ds.map .d ∧ off + n * e ≤ xs.length
  | _, _ => False
def argsOk (H : List O) : List V → List D → Prop
  | [], [] => True
  | v :: vs, d :: ds => argOk H v d ∧ argsOk H vs ds
  | _, _ => False

def D.flat : D → Bool
  | .v _ => true
  | _ => false
def V.flat : V → Bool
  | .d (.v _) => true
  | .d (.agg ds) => ds.all D.flat
  | _ => false
def flatR : V → Bool
  | .tup vs => vs.all V.flat
  | x => x.flat

/-- What a call that only reads, from data to data, comes to: in whatever memory the arguments read so, the result does, and nothing that was there has turned. -/
structure Grow (Z : Nat → Prop) (w : World) (Z' : Nat → Prop) (w' : World) : Prop where
  os : w'.os = w.os
  tape : w'.tape = w.tape
  output : w'.output = w.output
  size : w.heap.size ≤ w'.heap.size
  heap : ∀ b, b < w.heap.size → w'.heap[b]? = w.heap[b]?
  zs : ∀ b, Z b → Z' b
  znew : ∀ b, Z' b → Z b ∨ (w.heap.size ≤ b ∧ b < w'.heap.size)

def FnOk (P : Program) (f : FuncId) : Prop := ∃ fn, P.funcs[f]? = some fn ∧ (fn.name == "runtime.NumGoroutine") = false ∧ fn.body.isNone = false

structure PCall (P : Program) (f : FuncId) (args : List D) (r : V) : Prop where
  ok : FnOk P f
  run : ∀ (Z : Nat → Prop) (w : World) (cs : Array Value), (∀ b, Z b → b < w.heap.size) → cs.size = args.length →
    (∀ (j : Nat) x c, args[j]? = some x → cs[j]? = some c → RD Z w x c) →
    Calls P f cs w (fun e w' => ∃ c Z', e = .returned c ∧ Grow Z w Z' w' ∧ RV [] Z' w' r c)

def evPick : V → V → V → Option (V × List Prop)
  | .d (.v (.bool c)), .when g (.d (.v (.bool x))), .d (.v (.bool y)) => some (vb (cond c x y), [c = true → g = true])
  | .d (.v (.bool c)), .d (.v (.bool x)), .when g (.d (.v (.bool y))) => some (vb (cond c x y), [c = false → g = true])
  | .d (.v (.bool c)), .d (.v (.bool x)), .d (.v (.bool y)) => some (vb (cond c x y), [])
  | _, _, _ => none

def evLoad (i : TI) (h : Hint) (H : List O) : V → Option (V × List Prop)
  | .ref id off =>
    match rowAt H id, h with
    | some xs, .vals vs => (mkVal i.agg vs).map fun v => (v, [LoadOk xs off i.size vs])
    | some xs, _ => ((takeN i.size (xs.drop off)).bind (mkVal i.agg)).map fun v => (v, [])
    | _, _ => none
  | .rop cells => ((takeN i.size cells).bind (mkD i.agg)).map fun x => (.d x, [])
  | _ => none

def evFieldAddr (i : TI) (f : Nat) : V → Option (V × List Prop)
  | .ref id off =>
    match i.kind with
    | .struct fs => (fs[f]?).map fun p => (.ref id (off + p.1), [])
    | _ => none
  | .rop cells =>
    match i.kind with
    | .struct fs => (fs[f]?).map fun p => (.rop (cells.drop p.1), [])
    | _ => none
  | _ => none

def evField (i : TI) (f : Nat) : V → Option (V × List Prop)
  | .d (.agg ds) =>
    match i.kind with
    | .struct fs => (fs[f]?).bind fun p => ((takeN p.2.1 (ds.drop p.1)).bind (mkD p.2.2)).map fun x => (.d x, [])
    | _ => none
  | .agg vs =>
    match i.kind with
    | .struct fs => (fs[f]?).bind fun p => ((takeN p.2.1 (vs.drop p.1)).bind (mkVal p.2.2)).map fun x => (x, [])
    | _ => none
  | _ => none

def evIndexAddr (tt : Tab) (i : TI) (h : Hint) : V → V → Option (V × List Prop)
  | .d (.list _ e n cells), .d (.v (.int _ k)) =>
    match i.kind, h with
    | .slice t, .cells ec => (tt.lookup t).bind fun it => if it.size == e then some (.rop ec, [IdxOk cells e n k ec]) else none
    | _, _ => none
  | .sl e id off n, .d (.v (.int _ k)) =>
    match i.kind with
    | .slice t => (tt.lookup t).bind fun it => if it.size == e then some (.ref id (off + k.toNat * it.size), [0 ≤ k ∧ k < (n : Int)]) else none
    | _ => none
  | .ref id off, .d (.v (.int _ k)) =>
    match i.kind with
    | .array n t => (tt.lookup t).map fun it => (.ref id (off + k.toNat * it.size), [0 ≤ k ∧ k < (n : Int)])
    | _ => none
  | .rop cells, .d (.v (.int _ k)) =>
    match i.kind, h with
    | .array n t, .cells ec => (tt.lookup t).map fun it => (.rop ec, [IdxOk cells it.size n k ec])
    | _, _ => none
  | _, _ => none

def evIndex (tt : Tab) (i : TI) (h : Hint) : V → V → Option (V × List Prop)
  | .d (.agg cells), .d (.v (.int _ k)) =>
    match i.kind, h with
    | .array n t, .cells ec => (tt.lookup t).bind fun it => (mkD it.agg ec).map fun x => (.d x, [IdxOk cells it.size n k ec])
    | _, _ => none
  | _, _ => none

def boundI : Option V → Int → Option Int
  | none, n => some n
  | some (.d (.v (.int _ k))), _ => some k
  | _, _ => none

def evSlice (tt : Tab) (i : TI) (h : Hint) (H : List O) (lo hi : Option V) : V → Option (V × List Prop)
  | .d (.list _ e n cells) =>
    match i.kind, h, boundI lo 0, boundI hi n with
    | .slice t, .list m out, some l, some u => (tt.lookup t).bind fun it => if it.size == e then some (.d (.list false e m out), [SliceOk cells e n l u m out]) else none
    | _, _, _, _ => none
  | .sl e id off n =>
    match i.kind, boundI lo 0, boundI hi n with
    | .slice t, some l, some u => (tt.lookup t).bind fun it => if it.size == e then some (.sl e id (off + l.toNat * it.size) (u - l).toNat, [0 ≤ l ∧ l ≤ u ∧ u ≤ n ∧ (l = 0 ∨ l < n)]) else none
    | _, _, _ => none
  | .ref id off =>
    match i.kind with
    | .array n t =>
      match boundI lo 0, boundI hi n, rowAt H id with
      | some l, some u, some xs => (tt.lookup t).map fun it => (.sl it.size id (off + l.toNat * it.size) (u - l).toNat, [0 ≤ l ∧ l ≤ u ∧ u ≤ n ∧ (l = 0 ∨ l < n) ∧ off + n * it.size ≤ xs.length ∧ n ≤ 9223372036854775807])
      | _, _, _ => none
    | _ => none
  | _ => none

def evLen (H : List O) : V → Option (V × List Prop)
  | .d (.list _ _ n _) => some (vi n, [])
  | .sl _ _ _ n => some (vi n, [])
  | .d (.v (.slice none 0 0)) => some (vi 0, [])
  | .d (.v (.string s)) => some (vi s.size, [])
  | .mp id =>
    match H[id]? with
    | some (.map kvs) => some (vi kvs.length, [])
    | _ => none
  | _ => none

def evBuild (i : TI) (get : Operand → V) (parts : List (Nat × Operand)) (size : Nat → Option Nat) : Option (V × List Prop) :=
  match i.kind with
  | .struct fs => (buildFrom (fun j => (fs[j]?).map fun p => (p.1, p.2.1)) get (i.zero.map fun z => .d (.v z)) parts).map fun vs => (mkAgg vs, [])
  | .array _ t => (size t).bind fun s => (buildFrom (fun j => some (j * s, s)) get (i.zero.map fun z => .d (.v z)) parts).map fun vs => (mkAgg vs, [])
  | _ => none

/-- A datum that was built, told less of. -/
def laxH : Hint → V × List Prop → Option (V × List Prop)
  | .cells ys, (.d (.agg xs), ps) => some (.d (.agg ys), LeDs xs ys :: ps)
  | .cells _, _ => none
  | _, q => some q

def evBuildRow (tt : Tab) (i : TI) (get : Operand → V) (len : Nat) (parts : List (Nat × Operand)) : Option (Nat × List V) :=
  match i.kind with
  | .slice t => (tt.lookup t).bind fun it => if parts.length == len && Nat.ble (len * it.size) 16777216 then (buildRow it.size get 0 parts).map fun vs => (it.size, vs) else none
  | _ => none

def evConvert (i : TI) : V → Option (V × List Prop)
  | .d (.v (.int _ n)) =>
    match i.kind with
    | .int k => some (.d (.v (.int k (k.wrap n))), [])
    | _ => none
  | _ => none

def evBin (op : BinOp) : V → V → Option (V × List Prop)
  | .d (.v (.int k a)), .d (.v (.int k' b)) => if IntKind.same k k' then binInt op k a b else none
  | _, _ => none

/-- Two one-cell data of one plain kind: are they equal? -/
def scal : D → D → Option Bool
  | .v (.int k a), .v (.int k' b) => if IntKind.same k k' then some (a == b) else none
  | .v (.bool a), .v (.bool b) => some (a == b)
  | .v (.string a), .v (.string b) => some (a == b)
  | _, _ => none
def eqL : List D → List D → Option Bool
  | [], [] => some true
  | [x], [y] => scal x y
  | x :: xs, y :: ys =>
    match scal x y, eqL xs ys with
    | some a, some b => some (a && b)
    | _, _ => none
  | _, _ => none
def eqD : D → D → Option Bool
  | .agg xs, .agg ys => eqL xs ys
  | x, y => scal x y

/-- A type of one plain cell, and a datum of it. -/
def scalB (P : Program) (t : TypeId) (x : D) : Bool :=
  match P.underlying t, x with
  | some (.int _), .v (.int _ _) => true
  | some .bool, .v (.bool _) => true
  | some .string, .v (.string _) => true
  | _, _ => false
def eqFieldsB (P : Program) : List Field → Nat → List D → Bool
  | [], _, [] => true
  | f :: fs, k, x :: xs => f.name != "_" && Nat.beq f.offset k && scalB P f.type x && eqFieldsB P fs (k + 1) xs
  | _, _, _ => false
/-- Values of the type are compared cell by cell. -/
def eqB (P : Program) (t : TypeId) (x : D) : Bool :=
  match x with
  | .agg xs =>
    !P.stoodInHeld t && !P.eqGuardType P.depth t &&
    (match P.underlying t with
     | some (.struct fs) => eqFieldsB P fs.toList 0 xs
     | some (.array n e) => Nat.beq (P.cellsOf e) 1 && (P.info? e).isSome && Nat.beq xs.length n && xs.all (scalB P e)
     | _ => false)
  | x => scalB P t x

/-- What stands at a key, and at which place. -/
def lookD (k : D) : List (D × D) → Nat → Option (Option (Nat × D))
  | [], _ => some none
  | q :: qs, i =>
    match eqD k q.1 with
    | some true => some (some (i, q.2))
    | some false => lookD k qs (i + 1)
    | none => none
def setD (k v : D) : List (D × D) → Option (List (D × D))
  | [] => some [(k, v)]
  | q :: qs =>
    match eqD k q.1 with
    | some true => some ((k, v) :: qs)
    | some false => (setD k v qs).map (q :: ·)
    | none => none
/-- A look-up finds x; or nothing, and x is the zero value. -/
def LookOk (kvs : List (D × D)) (k z x : D) (b : Bool) : Prop := ∃ r, lookD k kvs 0 = some r ∧ r.map (·.2) = (if b then some x else none) ∧ (b = false → x = z)

def evEq (P : Program) (op : BinOp) (t : TypeId) : V → V → Option (V × List Prop)
  | .d x, .d y =>
    match op with
    | .eql => if eqB P t x then (eqD x y).map fun r => (vb r, []) else none
    | .neq => if eqB P t x then (eqD x y).map fun r => (vb (!r), []) else none
    | _ => none
  | _, _ => none
def evBin2 (P : Program) (op : BinOp) (t : TypeId) (x y : V) : Option (V × List Prop) :=
  match evBin op x y with
  | some q => some q
  | none => evEq P op t x y

/-- A look-up in a map of one's own. -/
def evLook (P : Program) (tt : Tab) (i : TI) (h : Hint) (H : List O) (ok : Bool) : V → V → Option (V × List Prop)
  | .mp id, .d kd =>
    match H[id]?, i.kind, h with
    | some (.map kvs), .map kt et, .look x b =>
      (tt.lookup et).bind fun ie => (mkD ie.agg (ie.zero.map .v)).bind fun z =>
        if eqB P kt kd then some (if ok then .tup [.d x, vb b] else .d x, [LookOk kvs kd z x b]) else none
    | _, _, _ => none
  | _, _ => none

def evUn (op : UnOp) : V → Option (V × List Prop)
  | .d (.v (.bool b)) =>
    match op with
    | .not => some (vb (!b), [])
    | _ => none
  | .d (.v (.int k n)) =>
    match op with
    | .neg => some (.d (.v (.int k (k.wrap (0 - n)))), [])
    | _ => none
  | _ => none

def evCall (P : Program) (h : Hint) (H : List O) (f : V) (args : List V) : Option (V × List Prop) :=
  match f, h with
  | .fn (.func f) [] [], .call ds r =>
    match allD args with
    | some ds' => some (r, [PCall P f ds' r])
    | none => if flatR r then some (r, [argsOk H args ds, PCall P f ds r]) else none
  | .fn (.func f) first cap, .call _ r =>
    match allD (first ++ args ++ cap) with
    | some ds' => some (r, [PCall P f ds' r])
    | none => none
  | _, _ => none

def lenKind : TK → V → Bool
  | .slice _, .d (.list ..) => true
  | .slice _, .sl .. => true
  | .slice _, .d (.v (.slice ..)) => true
  | .string, .d (.v (.string _)) => true
  | .map _ _, .mp _ => true
  | _, _ => false

/-- What an append leaves: 'out' is what was there and what comes behind it. -/
def AppendOk (xs : List V) (n m k e bytes : Nat) (src out : List D) : Prop :=
  k = n + m ∧ xs.length = n * e ∧ src.length = m * e ∧ (n + m) * bytes ≤ 140737488355328 ∧ n + m ≤ 9223372036854775807 ∧ out.map .d = xs ++ src.map .d

def srcOf (e : Nat) : V → Option (Nat × List D)
  | .d (.list _ e' m cells) => if e' == e then some (m, cells) else none
  | .d (.v (.slice none 0 0)) => some (0, [])
  | _ => none

/-- An append to a row that was just made, which has no room. -/
def evAppendT (tt : Tab) (i : TI) (h : Hint) : V → V → Option (V × List Prop)
  | .d (.list true e n cells), x =>
    match i.kind, h, srcOf e x with
    | .slice t, .listT k out, some (m, src) =>
      (tt.lookup t).bind fun it => if it.size == e && Nat.blt 0 e then some (.d (.list false e k out), [AppendOk (cells.map .d) n m k e it.bytes src out]) else none
    | _, _, _ => none
  | _, _ => none

def evLenC (tt : Tab) (H : List O) (get : Operand → V) : List Operand → List TypeId → Option (V × List Prop)
  | [x], t :: _ => (tt.lookup t).bind fun i => if lenKind i.kind (get x) then evLen H (get x) else none
  | _, _ => none
def evAppC (tt : Tab) (h : Hint) (get : Operand → V) : List Operand → List TypeId → Option (V × List Prop)
  | [s, x], [t, t'] => if t == t' then (tt.lookup t).bind fun i => evAppendT tt i h (get s) (get x) else none
  | _, _ => none

/-- An operation that neither writes what is one's own nor makes anything of one's own. -/
def evPure (P : Program) (tt : Tab) (o : Oper) (h : Hint) (get : Operand → V) (H : List O) : Option (V × List Prop) :=
  match o.op with
  | .move x | .assign x => some (get x, [])
  | .pick c a b => evPick (get c) (get a) (get b)
  | .load t a => (tt.lookup t).bind fun i => evLoad i h H (get a)
  | .fieldAddr s x f => (tt.lookup s).bind fun i => evFieldAddr i f (get x)
  | .field s x f => (tt.lookup s).bind fun i => evField i f (get x)
  | .indexAddr t x k => (tt.lookup t).bind fun i => evIndexAddr tt i h (get x) (get k)
  | .index t x k => (tt.lookup t).bind fun i => evIndex tt i h (get x) (get k)
  | .slice t x lo hi none => (tt.lookup t).bind fun i => evSlice tt i h H (lo.map get) (hi.map get) (get x)
  | .extract t k =>
    match get t with
    | .tup vs => (vs[k]?).map fun v => (v, [])
    | _ => none
  | .build t parts => (tt.lookup t).bind fun i => (evBuild i get parts.toList fun e => (tt.lookup e).map (·.size)).bind (laxH h)
  | .buildSlice t len parts =>
    match h with
    | .own => none
    | .cells _ => (tt.lookup t).bind fun i => (evBuildRow tt i get len parts.toList).bind fun (e, vs) => (allD vs).map fun ds => (.d (.list true e len ds), [])
    | _ => (tt.lookup t).bind fun i => (evBuildRow tt i get len parts.toList).bind fun (e, vs) => (allD vs).map fun ds => (.d (.list false e len ds), [])
  | .binOp op t x y _ => evBin2 P op t (get x) (get y)
  | .lookup t x k ok => (tt.lookup t).bind fun i => evLook P tt i h H ok (get x) (get k)
  | .unOp op _ x => evUn op (get x)
  | .convert s t x => (tt.lookup s).bind fun _ => (tt.lookup t).bind fun i => evConvert i (get x)
  | .nilCheck x =>
    match get x with
    | .ref id off => some (.ref id off, [])
    | .rop cells => some (.rop cells, [])
    | _ => none
  | .makeFunc g first captured => some (.fn g (first.toList.map get) (captured.toList.map get), [])
  | .call c =>
    match c.callee with
    | .builtin .len => evLenC tt H get c.args.toList c.argTypes.toList
    | .builtin .max => match c.args.toList.map get with
      | .d (.v (.int k x)) :: vs => (maxI k x vs).map fun v => (v, [])
      | _ => none
    | .builtin .min => match c.args.toList.map get with
      | .d (.v (.int k x)) :: vs => (minI k x vs).map fun v => (v, [])
      | _ => none
    | .builtin .append => evAppC tt h get c.args.toList c.argTypes.toList
    | .value f => evCall P h H (get f) (c.args.toList.map get)
    | _ => none
  | _ => none

end Go.Sx
