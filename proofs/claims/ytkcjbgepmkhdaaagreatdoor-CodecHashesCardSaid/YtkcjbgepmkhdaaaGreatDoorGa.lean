/- The ghost semantics of code and what its operations do on the machine; no condition. -/
import GoSem.Step
import Derived.AtR
import Derived.Laws.Sem
import Derived.Laws.World
import Derived.Laws.Strings
import Derived.Lib.IndexBytes
import Derived.Laws.StructEq
set_option linter.unusedSimpArgs false
set_option linter.unusedVariables false
/- The ghost semantics: values, heap, operations, code; a deterministic reading of the model's own code, without world and tape. -/
namespace Gh
open Go

inductive GVal where
  | undef
  | bool (b : Bool)
  | int (k : IntKind) (n : Int)
  | str (s : List UInt8)
  | ptr (a : Option (Nat × Nat))
  | slice (a : Option (Nat × Nat)) (len cap : Nat) (op : Option Nat)
  | map (r : Option Nat)
  | func (fn : Fn) (first captured : List GVal)
  | nilFunc
  | iface (t : TypeId) (v : GVal)
  | nilIface
  | agg (cs : List GVal)
  | tuple (vs : List GVal)
  deriving Inhabited

/-! Lists, for the kernel: plain recursors. -/
section lists
variable {α : Type}
noncomputable def lget (d : α) (t : List α) (i : Nat) : α :=
  List.rec (motive := fun _ => Nat → α) (fun _ => d) (fun x _ ih i => Nat.rec (motive := fun _ => α) x (fun j _ => ih j) i) t i
noncomputable def lset (t : List α) (i : Nat) (v : α) : List α :=
  List.rec (motive := fun _ => Nat → List α) (fun _ => []) (fun x xs ih i => Nat.rec (motive := fun _ => List α) (v :: xs) (fun j _ => x :: ih j) i) t i
theorem lget_eq (d : α) (t : List α) (i : Nat) : lget d t i = t.getD i d := by
  induction t generalizing i with
  | nil => rfl
  | cons x xs ih =>
    cases i with
    | zero => rfl
    | succ i => exact (ih i).trans (by simp)
theorem lset_eq (t : List α) (i : Nat) (v : α) : lset t i v = t.set i v := by
  induction t generalizing i with
  | nil => rfl
  | cons x xs ih =>
    cases i with
    | zero => rfl
    | succ i => exact congrArg (x :: ·) (ih i)
end lists

mutual
noncomputable def GVal.beq : GVal → GVal → Bool
  | .undef, .undef => true
  | .bool a, .bool b => a == b
  | .int k a, .int l b => decide (k = l) && decide (a = b)
  | .str a, .str b => decide (a = b)
  | .ptr a, .ptr b => decide (a = b)
  | .slice a n c o, .slice b m d p => decide (a = b) && decide (n = m) && decide (c = d) && decide (o = p)
  | .map a, .map b => decide (a = b)
  | .func f a c, .func g b d => decide (f = g) && GVal.beqs a b && GVal.beqs c d
  | .nilFunc, .nilFunc => true
  | .iface t a, .iface u b => decide (t = u) && GVal.beq a b
  | .nilIface, .nilIface => true
  | .agg a, .agg b => GVal.beqs a b
  | .tuple a, .tuple b => GVal.beqs a b
  | _, _ => false
noncomputable def GVal.beqs : List GVal → List GVal → Bool
  | [], [] => true
  | x :: xs, y :: ys => GVal.beq x y && GVal.beqs xs ys
  | _, _ => false
end

noncomputable def GVal.cells : GVal → List GVal
  | .agg cs => cs
  | v => [v]

/-- A value that is told: not 'undef'. -/
noncomputable def GVal.told : GVal → Bool
  | .undef => false
  | _ => true

/-- A value of one cell. -/
noncomputable def GVal.isCell : GVal → Bool
  | .undef | .agg _ | .tuple _ => false
  | _ => true
noncomputable def allCell : List GVal → Bool
  | [] => true
  | v :: vs => v.isCell && allCell vs

inductive CM where
  | rw | ro | sb
  deriving DecidableEq

inductive GObj where
  | dead
  | cells (cs : List GVal) (mode : CM)
  | map (es : List (GVal × GVal)) (ro : Bool)
  | siter (s : List UInt8) (pos : Nat)
  | loop (st : LoopState) (pending : Option Code) (tmps : List GVal) (params : Array Tmp) (assign body : Code)
  deriving Inhabited

abbrev GHeap := List GObj

/-! Kinds: what an opaque value is read as. -/
inductive Kd where
  | int (k : IntKind) | bool | str | ptr | slice | map | func | other
  | agg (l : List Kd)
  | tup (l : List Kd)

mutual
noncomputable def Kd.fits : Kd → GVal → Bool
  | .int k, .int l _ => decide (k = l)
  | .bool, .bool _ => true
  | .str, .str _ => true
  | .ptr, .ptr _ => true
  | .slice, .slice .. => true
  | .map, .map _ => true
  | .func, _ => true
  | .other, _ => true
  | .agg l, .agg vs => Kd.fitss l vs
  | .tup l, .tuple vs => Kd.fitss l vs
  | _, _ => false
noncomputable def Kd.fitss : List Kd → List GVal → Bool
  | [], [] => true
  | k :: ks, v :: vs => Kd.fits k v && Kd.fitss ks vs
  | _, _ => false
end

mutual
/-- There is a value of this kind with Q. -/
noncomputable def Kd.ex : Kd → (GVal → Prop) → Prop
  | .int k, Q => ∃ n, Q (.int k n)
  | .bool, Q => ∃ b, Q (.bool b)
  | .str, Q => ∃ s, Q (.str s)
  | .ptr, Q => ∃ a, Q (.ptr a)
  | .slice, Q => ∃ a n c o, Q (.slice a n c o)
  | .map, Q => ∃ r, Q (.map r)
  | .func, Q => ∃ v, Q v
  | .other, Q => ∃ v, Q v
  | .agg l, Q => Kd.exs l fun vs => Q (.agg vs)
  | .tup l, Q => Kd.exs l fun vs => Q (.tuple vs)
noncomputable def Kd.exs : List Kd → (List GVal → Prop) → Prop
  | [], Q => Q []
  | k :: ks, Q => Kd.ex k fun v => Kd.exs ks fun vs => Q (v :: vs)
end

inductive GM (X : Type) where
  | ret (x : X)
  | fail
  | req (c : Prop) (d : Decidable c) (k : GM X)
  | dst (kd : Kd) (o : Option GVal) (k : GVal → GM X)
  | eff (kd : Kd) (o : Option (GVal × GHeap)) (k : GVal → GHeap → GM X)
  | sto (o : Option GHeap) (k : GHeap → GM X)

namespace GM
variable {X : Type}
noncomputable def opt : GM X → Option X
  | ret x => some x
  | fail => none
  | req c d k => @ite _ c d k.opt none
  | dst kd o k => match o with
    | some v => if kd.fits v then (k v).opt else none
    | none => none
  | eff kd o k => match o with
    | some (v, h) => if kd.fits v then (k v h).opt else none
    | none => none
  | sto o k => match o with
    | some h => (k h).opt
    | none => none
noncomputable def wp : GM X → (X → Prop) → Prop
  | ret x, Q => Q x
  | fail, _ => False
  | req c _ k, Q => c ∧ k.wp Q
  | dst kd o k, Q => kd.ex fun v => o = some v ∧ (k v).wp Q
  | eff kd o k, Q => kd.ex fun v => ∃ h, o = some (v, h) ∧ (k v h).wp Q
  | sto o k, Q => ∃ h, o = some h ∧ (k h).wp Q
end GM

/-! The program's types, as options. -/
section types
variable (P : Program)
noncomputable def tsize (t : TypeId) : Option Nat := (P.info? t).map (·.size)
noncomputable def tbytes (t : TypeId) : Option Nat := (P.info? t).map (·.bytes)
noncomputable def tagg (t : TypeId) : Option Bool :=
  match P.underlying t with
  | some (.struct _) => some true
  | some (.array _ _) => some true
  | some _ => some false
  | none => none
noncomputable def tcells : Nat → TypeId → List Kd
  | 0, _ => [.other]
  | d + 1, t => match P.underlying t with
    | some (.struct fs) => fs.toList.flatMap fun f => tcells d f.type
    | some (.array n e) => (List.replicate n (tcells d e)).flatten
    | some .bool => [.bool]
    | some (.int k) => [.int k]
    | some .string => [.str]
    | some (.pointer _) => [.ptr]
    | some (.slice _) => [.slice]
    | some (.map _ _) => [.map]
    | some (.func _ _ _) => [.func]
    | _ => [.other]
noncomputable def tkind1 (t : TypeId) : Kd :=
  match P.underlying t with
  | some (.struct _) | some (.array _ _) =>
    if (tcells P 20 t).length ≤ 24 then .agg (tcells P 20 t) else .other
  | some .bool => .bool
  | some (.int k) => .int k
  | some .string => .str
  | some (.pointer _) => .ptr
  | some (.slice _) => .slice
  | some (.map _ _) => .map
  | some (.func _ _ _) => .func
  | _ => .other
noncomputable def tkind (t : TypeId) : Kd :=
  match P.underlying t with
  | some (.tuple ts) => .tup (ts.toList.map (tkind1 P))
  | _ => tkind1 P t
end types

noncomputable def ofCell : Value → Option GVal
  | .bool b => some (.bool b)
  | .int k n => some (.int k n)
  | .string s => some (.str s.data.toList)
  | .pointer none => some (.ptr none)
  | .slice none l c => some (.slice none l c none)
  | .map none => some (.map none)
  | .nilFunc => some .nilFunc
  | .nilIface => some .nilIface
  | .func (.func f) a c => if a.size = 0 ∧ c.size = 0 then some (.func (.func f) [] []) else none
  | _ => none
noncomputable def ofCells : List Value → Option (List GVal)
  | [] => some []
  | v :: vs => match ofCell v, ofCells vs with
    | some a, some l => some (a :: l)
    | _, _ => none
noncomputable def ofValue : Value → Option GVal
  | .agg cs => (ofCells cs.toList).map .agg
  | v => ofCell v
noncomputable def tzero (P : Program) (t : TypeId) : Option GVal := ((P.info? t).bind (·.zero)).bind ofValue

/-! The heap. -/
noncomputable def gload (h : GHeap) (id off : Nat) : Option GVal :=
  match h[id]? with
  | some (.cells cs _) => cs[off]?
  | _ => none
noncomputable def gloads (h : GHeap) (id off n : Nat) : Option (List GVal) :=
  match h[id]? with
  | some (.cells cs _) => if off + n ≤ cs.length then some ((cs.drop off).take n) else none
  | _ => none
noncomputable def setMany (cs : List GVal) (off : Nat) : List GVal → List GVal
  | [] => cs
  | v :: vs => setMany (cs.set off v) (off + 1) vs
noncomputable def gstore (h : GHeap) (id off : Nat) (vs : List GVal) : Option GHeap :=
  match h[id]? with
  | some (.cells cs mode) => if mode ≠ .ro ∧ off + vs.length ≤ cs.length ∧ allCell vs = true then some (h.set id (.cells (setMany cs off vs) mode)) else none
  | _ => none
noncomputable def zeros (n : Nat) (z : List GVal) : List GVal :=
  match z with
  | [v] => List.replicate n v
  | z => (List.replicate n z).flatten

/-- May an address in this block be compared with one in another? -/
noncomputable def plainBlock (h : GHeap) (id : Nat) : Bool :=
  match h[id]? with
  | some (.cells _ .rw) => true
  | _ => false

noncomputable def gpart (P : Program) (t : TypeId) (cs : List GVal) (off : Nat) : Option GVal :=
  match tagg P t with
  | some true => (tsize P t).map fun n => .agg ((cs.drop off).take n)
  | some false => cs[off]?
  | none => none

noncomputable def andO : Option Bool → Option Bool → Option Bool
  | some a, some b => some (a && b)
  | _, _ => none

noncomputable def geqIn (P : Program) (h : GHeap) : Nat → TypeId → GVal → GVal → Option Bool
  | 0, _, _, _ => none
  | d + 1, t, x, y =>
    match P.underlying t, x, y with
    | some .bool, .bool a, .bool b => some (a == b)
    | some (.int _), .int k a, .int l b => if k = l then some (a == b) else none
    | some .string, .str a, .str b => some (a == b)
    | some (.pointer _), .ptr none, .ptr b => some b.isNone
    | some (.pointer _), .ptr (some _), .ptr none => some false
    | some (.pointer e), .ptr (some a), .ptr (some b) =>
      if tsize P e = some 0 ∨ tsize P e = none then none
      else if a.1 = b.1 then some (decide (a.2 = b.2))
      else if plainBlock h a.1 && plainBlock h b.1 then some false else none
    | some (.slice _), .slice none _ _ _, .slice b _ _ _ => some b.isNone
    | some (.slice _), .slice (some _) _ _ _, .slice none _ _ _ => some false
    | some (.map _ _), .map none, .map b => some b.isNone
    | some (.map _ _), .map (some _), .map none => some false
    | some (.func _ _ _), .nilFunc, .nilFunc => some true
    | some (.func _ _ _), .nilFunc, .func _ _ _ => some false
    | some (.func _ _ _), .func _ _ _, .nilFunc => some false
    | some (.struct fs), .agg xs, .agg ys =>
      if P.stoodInHeld t then none else
      fs.toList.foldr (fun f acc => if f.name = "_" then acc else
        match gpart P f.type xs f.offset, gpart P f.type ys f.offset with
        | some a, some b => andO (geqIn P h d f.type a b) acc
        | _, _ => none) (some true)
    | some (.array n e), .agg xs, .agg ys =>
      match tsize P e with
      | some s =>
        (List.range' 0 n).foldr (fun i acc =>
          match gpart P e xs (i * s), gpart P e ys (i * s) with
          | some a, some b => andO (geqIn P h d e a b) acc
          | _, _ => none) (some true)
      | none => none
    | _, _, _ => none
noncomputable def geq (P : Program) (h : GHeap) (t : TypeId) (x y : GVal) : Option Bool := geqIn P h 100 t x y

/-- '==' and '!=' between parts that are nil interface values: the model's guard stays away. -/
noncomputable def eqFree (P : Program) (t : TypeId) : GVal → GVal → Bool
  | .nilIface, .nilIface => false
  | .agg _, .agg _ => !P.eqGuardType P.depth t
  | _, _ => true

/-! Integers, strings. -/
noncomputable def gbits (op : BinOp) (k : IntKind) (x y : Int) : Option Int :=
  match op with
  | .and => some (k.wrap (BitVec.ofInt k.bits x &&& BitVec.ofInt k.bits y).toNat)
  | .or => some (k.wrap (BitVec.ofInt k.bits x ||| BitVec.ofInt k.bits y).toNat)
  | .xor => some (k.wrap (BitVec.ofInt k.bits x ^^^ BitVec.ofInt k.bits y).toNat)
  | .andNot => some (k.wrap (BitVec.ofInt k.bits x &&& ~~~ BitVec.ofInt k.bits y).toNat)
  | _ => none

noncomputable def gintOp (op : BinOp) (k : IntKind) (x y : Int) : GM GVal :=
  match op with
  | .add => .ret (.int k (k.wrap (x + y)))
  | .sub => .ret (.int k (k.wrap (x - y)))
  | .mul => .ret (.int k (k.wrap (x * y)))
  | .quo => .req (y ≠ 0) inferInstance (.ret (.int k (k.wrap (x.tdiv y))))
  | .rem => .req (y ≠ 0) inferInstance (.ret (.int k (x.tmod y)))
  | .eql => .ret (.bool (x == y))
  | .neq => .ret (.bool (x != y))
  | .lss => .ret (.bool (decide (x < y)))
  | .leq => .ret (.bool (decide (x ≤ y)))
  | .gtr => .ret (.bool (decide (x > y)))
  | .geq => .ret (.bool (decide (x ≥ y)))
  | op => match gbits op k x y with
    | some n => .ret (.int k n)
    | none => .fail

noncomputable def gstrOp (op : BinOp) (x y : List UInt8) : GM GVal :=
  match op with
  | .add => .req (x.length + y.length ≤ 9223372036854775807) inferInstance (.ret (.str (x ++ y)))
  | .eql => .ret (.bool (x == y))
  | .neq => .ret (.bool (!(x == y)))
  | .lss => .ret (.bool (Op.bytesLess x y))
  | .leq => .ret (.bool (Op.bytesLess x y || x == y))
  | .gtr => .ret (.bool !(Op.bytesLess x y || x == y))
  | .geq => .ret (.bool !(Op.bytesLess x y))
  | _ => .fail

noncomputable def gbinOp (P : Program) (h : GHeap) (op : BinOp) (t : TypeId) (x y : GVal) : GM GVal :=
  match op, x, y with
  | .shl, .int k a, .int _ b => .req (0 ≤ b) inferInstance (.ret (.int k (k.wrap (a * 2 ^ (min b.toNat k.bits)))))
  | .shr, .int k a, .int _ b => .req (0 ≤ b) inferInstance (.ret (.int k (a.fdiv (2 ^ (min b.toNat k.bits)))))
  | op, .int k a, .int l b => .req (k = l) inferInstance (gintOp op k a b)
  | op, .str a, .str b => gstrOp op a b
  | .eql, x, y => if eqFree P t x y then .dst .bool ((geq P h t x y).map .bool) .ret else .fail
  | .neq, x, y => if eqFree P t x y then .dst .bool ((geq P h t x y).map fun b => .bool (!b)) .ret else .fail
  | _, _, _ => .fail

noncomputable def gunOp (op : UnOp) (x : GVal) : GM GVal :=
  match op, x with
  | .neg, .int k n => .ret (.int k (k.wrap (0 - n)))
  | .xor, .int k n => match gbits .xor k (if k.signed then -1 else k.max) n with
    | some r => .ret (.int k r)
    | none => .fail
  | .not, .bool b => .ret (.bool !b)
  | _, _ => .fail

/-! Building. -/
noncomputable def gfill (place : Nat → Option (Nat × Nat)) (cells : List GVal) : List (Nat × GVal) → Option (List GVal)
  | [] => some cells
  | (i, v) :: rest =>
    match place i with
    | none => none
    | some (off, size) =>
      if v.cells.length ≠ size ∨ off + v.cells.length > cells.length then none
      else gfill place (setMany cells off v.cells) rest
noncomputable def gplaces (P : Program) : List Field → Option (List (Nat × Nat))
  | [] => some []
  | f :: fs => match tsize P f.type, gplaces P fs with
    | some s, some l => some ((f.offset, s) :: l)
    | _, _ => none
noncomputable def allTold : List GVal → Bool
  | [] => true
  | v :: vs => v.told && allTold vs

/-! Slices. -/
noncomputable def asIO : Option GVal → Int → Option Int
  | none, d => some d
  | some (.int _ n), _ => some n
  | _, _ => none
/-- The bounds (low, high, max) of a slice expression over len, cap. -/
noncomputable def gbounds (len cap : Nat) (low high max : Option GVal) : Option (Option (Int × Int × Int)) :=
  match max, high with
  | some _, none => some none
  | _, _ =>
  match asIO low 0, asIO max cap with
  | some l, some m =>
    match asIO high len with
    | some h => some (some (l, h, m))
    | none => none
  | _, _ => none

noncomputable def gslice (P : Program) (t : TypeId) (x : GVal) (low high max : Option GVal) : GM GVal :=
  match P.underlying t, x with
  | some .string, .str s =>
    match gbounds s.length s.length low high max with
    | some (some (l, h, _)) =>
      if max.isSome then .fail else
      .req (0 ≤ l ∧ l ≤ h ∧ h ≤ s.length) inferInstance (.ret (.str ((s.drop l.toNat).take (h.toNat - l.toNat))))
    | _ => .fail
  | some (.slice e), .slice a len cap op =>
    match tsize P e, gbounds len cap low high max with
    | some size, some (some (l, h, m)) =>
      .req (0 ≤ l ∧ l ≤ h ∧ h ≤ m ∧ m ≤ cap ∧ (op = none ∨ op = some size)) inferInstance
        (.ret (.slice (a.map fun p => (p.1, p.2 + l.toNat * size)) (h.toNat - l.toNat) (m.toNat - l.toNat) (if max.isSome then none else op)))
    | _, _ => .fail
  | some (.array n e), .ptr (some p) =>
    match tsize P e, gbounds n n low high max with
    | some size, some (some (l, h, m)) =>
      .req (0 ≤ l ∧ l ≤ h ∧ h ≤ m ∧ m ≤ n) inferInstance
        (.ret (.slice (some (p.1, p.2 + l.toNat * size)) (h.toNat - l.toNat) (m.toNat - l.toNat) none))
    | _, _ => .fail
  | _, _ => .fail

/-- The cells of n elements of a source of append or copy. -/
noncomputable def gsrc (h : GHeap) (size n : Nat) : GVal → Option (List GVal)
  | .slice (some (id, off)) _ cap _ => if n * size = 0 then some [] else if 0 < cap then gloads h id off (n * size) else none
  | .slice none _ _ _ => if n * size = 0 then some [] else none
  | .str s => if size = 1 ∧ n ≤ s.length then some ((s.take n).map fun b => .int .u8 b.toNat) else none
  | _ => none
noncomputable def glenOf : GVal → Option Nat
  | .slice _ n _ _ => some n
  | .str s => some s.length
  | _ => none

noncomputable def gappend (h : GHeap) (size bytes : Nat) (s x : GVal) : Option (GVal × GHeap) :=
  match s, glenOf x with
  | .slice a sLen sCap op, some n =>
    if n = 0 ∧ sLen ≤ sCap then some (s, h) else
    match gsrc h size n x with
    | none => none
    | some new =>
      if sLen + n ≤ sCap then
        match a with
        | some (id, off) => (gstore h id (off + sLen * size) new).map fun h' => (.slice a (sLen + n) sCap op, h')
        | none => none
      else if (sLen + n) * (bytes + 1) ≤ 70368744177664 ∧ sLen ≤ sCap then
        match gsrc h size sLen s, op, a with
        | some old, none, _ => some (.slice (some (h.length, 0)) (sLen + n) (sLen + n) (some size), h ++ [.cells (old ++ new) .rw])
        | some old, some sz, some (id, _) =>
          if sz = size then
            match h[id]? with
            | some (.cells _ mode) =>
              if mode ≠ .ro ∧ allCell new = true then some (.slice (some (h.length, 0)) (sLen + n) (sLen + n) (some size), h.set id .dead ++ [.cells (old ++ new) mode]) else none
            | _ => none
          else none
        | _, _, _ => none
      else none
  | _, _ => none

/-- append(nil, make([]T, n)...). -/
noncomputable def gmakeApp (h : GHeap) (size bytes : Nat) (z : GVal) (s x : GVal) : Option (GVal × GHeap) :=
  match s, x with
  | .slice none 0 0 none, .int .i64 n =>
    if 0 ≤ n ∧ n.toNat * (bytes + 1) ≤ 70368744177664 then
      (if n = 0 then none else some (.slice (some (h.length, 0)) n.toNat n.toNat (some size), h ++ [.cells (zeros n.toNat z.cells) .rw]))
    else none
  | _, _ => none

noncomputable def gcopy (h : GHeap) (size : Nat) (d s : GVal) : Option (GVal × GHeap) :=
  match d, glenOf s with
  | .slice a dLen dCap _, some m =>
    match gsrc h size (Nat.min m dLen) s with
    | none => none
    | some cells =>
      match a with
      | some (id, off) =>
        if cells.length = 0 then some (.int .i64 (Nat.min m dLen : Nat), h)
        else if 0 < dCap then (gstore h id off cells).map fun h' => (.int .i64 (Nat.min m dLen : Nat), h')
        else none
      | none => some (.int .i64 (Nat.min m dLen : Nat), h)
  | _, _ => none

/-! Maps. -/
noncomputable def keyEqs : List GVal → List GVal → Option Bool
  | [], [] => some true
  | .int k a :: xs, .int l b :: ys => if k = l then andO (some (a == b)) (keyEqs xs ys) else none
  | _, _ => none
noncomputable def allInts : List GVal → Bool
  | [] => true
  | .int _ _ :: xs => allInts xs
  | _ => false
noncomputable def keyEq : GVal → GVal → Option Bool
  | .agg xs, .agg ys => keyEqs xs ys
  | .int k a, .int l b => if k = l then some (a == b) else none
  | .str a, .str b => some (a == b)
  | .bool a, .bool b => some (a == b)
  | _, _ => none
/-- Is this type one whose keys are plain? -/
noncomputable def plainKey (P : Program) (t : TypeId) : Bool :=
  match P.underlying t with
  | some (.int _) | some .string | some .bool => true
  | _ => false
noncomputable def keyFits (P : Program) (t : TypeId) (k : GVal) : Bool :=
  match P.underlying t, k with
  | some (.int _), .int _ _ => true
  | some .string, .str _ => true
  | some .bool, .bool _ => true
  | some (.array n e), .agg cs => (match P.underlying e with
    | some (.int _) => decide (cs.length = n) && (allInts cs && decide (tsize P e = some 1))
    | _ => false)
  | _, _ => false
noncomputable def gfind (k : GVal) : List (GVal × GVal) → Nat → Option (Option (Nat × GVal))
  | [], _ => some none
  | (q, v) :: es, i => match keyEq k q with
    | some true => some (some (i, v))
    | some false => gfind k es (i + 1)
    | none => none
noncomputable def gentries (h : GHeap) : GVal → Option (List (GVal × GVal))
  | .map none => some []
  | .map (some r) => match h[r]? with
    | some (.map es _) => some es
    | _ => none
  | _ => none
noncomputable def glookup (P : Program) (h : GHeap) (t : TypeId) (x k : GVal) (ok : Bool) : Option GVal :=
  match P.underlying t with
  | some (.map key elem) =>
    if keyFits P key k then
      match gentries h x with
      | none => none
      | some es =>
        match gfind k es 0, tzero P elem with
        | some (some (_, v)), _ => some (if ok then .tuple [v, .bool true] else v)
        | some none, some z => some (if ok then .tuple [z, .bool false] else z)
        | _, _ => none
    else none
  | _ => none
noncomputable def gmapSet (P : Program) (h : GHeap) (t : TypeId) (x k v : GVal) : Option GHeap :=
  match P.underlying t, x with
  | some (.map key _), .map (some r) =>
    if keyFits P key k && v.told then
      match h[r]? with
      | some (.map es false) =>
        match gfind k es 0 with
        | some (some (i, _)) => some (h.set r (.map (es.set i (k, v)) false))
        | some none => some (h.set r (.map (es ++ [(k, v)]) false))
        | none => none
      | _ => none
    else none
  | _, _ => none
noncomputable def gdelete (P : Program) (h : GHeap) (t : TypeId) (x k : GVal) : Option GHeap :=
  match P.underlying t, x with
  | some (.map key _), .map none => if keyFits P key k then some h else none
  | some (.map key _), .map (some r) =>
    if keyFits P key k then
      match h[r]? with
      | some (.map es false) =>
        match gfind k es 0 with
        | some (some (i, _)) => some (h.set r (.map (es.eraseIdx i) false))
        | some none => some h
        | none => none
      | _ => none
    else none
  | _, _ => none
noncomputable def gclear (P : Program) (h : GHeap) (t : TypeId) (x : GVal) : Option GHeap :=
  match P.underlying t, x with
  | _, .map none => some h
  | _, .slice none _ _ _ => some h
  | some (.map _ _), .map (some r) =>
    match h[r]? with
    | some (.map _ false) => some (h.set r (.map [] false))
    | _ => none
  | some (.slice e), .slice (some (id, off)) n cap _ =>
    if n = 0 then some h else
    match tzero P e with
    | some z => if 0 < cap then gstore h id off (zeros n z.cells) else none
    | none => none
  | _, _ => none

/-! One operation that calls nothing. -/
section op
variable (P : Program) (gl : Nat → Option Nat)

noncomputable def gev (t : List GVal) : Operand → GVal
  | .tmp i => lget .undef t i
  | .const v => (ofValue v).getD .undef
  | .global g => match gl g with
    | some id => .ptr (some (id, 0))
    | none => .undef
  | .func f => .func (.func f) [] []

noncomputable def gfieldAddr (s : TypeId) (x : GVal) (f : Nat) : GM GVal :=
  match P.underlying s, x with
  | some (.struct fields), .ptr (some (id, off)) =>
    match fields[f]? with
    | some fd => match tsize P fd.type with
      | some (_ + 1) => .ret (.ptr (some (id, off + fd.offset)))
      | _ => .fail
    | none => .fail
  | _, _ => .fail

noncomputable def gindexAddr (t : TypeId) (x i : GVal) : GM GVal :=
  match P.underlying t, x, i with
  | some (.array n e), .ptr (some (id, off)), .int _ i =>
    match tsize P e with
    | some s => .req (0 ≤ i ∧ i < n) inferInstance (.ret (.ptr (some (id, off + i.toNat * s))))
    | none => .fail
  | some (.slice e), .slice a len cap _, .int _ i =>
    match tsize P e with
    | some s => .req (0 ≤ i ∧ i < len ∧ len ≤ cap) inferInstance (.dst .ptr (a.map fun p => .ptr (some (p.1, p.2 + i.toNat * s))) .ret)
    | none => .fail
  | _, _, _ => .fail

noncomputable def gindex (t : TypeId) (x i : GVal) : GM GVal :=
  match P.underlying t, x, i with
  | some (.array n e), .agg cs, .int _ i =>
    match tsize P e with
    | some s => .req (0 ≤ i ∧ i < n) inferInstance (.dst (tkind P e) (gpart P e cs (i.toNat * s)) .ret)
    | none => .fail
  | some .string, .str s, .int _ i =>
    .req (0 ≤ i ∧ i < s.length) inferInstance (.ret (.int .u8 ((s.getD i.toNat 0).toNat : Int)))
  | _, _, _ => .fail

noncomputable def gfield (t : TypeId) (x : GVal) (f : Nat) : GM GVal :=
  match P.underlying t, x with
  | some (.struct fields), .agg cs =>
    match fields[f]? with
    | some fd => match gpart P fd.type cs fd.offset with
      | some v => .ret v
      | none => .fail
    | none => .fail
  | _, _ => .fail

/-- A slice seen as an array. -/
noncomputable def gtoArray (ty : TypeId) (x : GVal) : GM GVal :=
  match P.underlying ty, x with
  | some (.array n _), .slice (some (id, off)) len cap _ => .req (n ≤ len ∧ 0 < cap) inferInstance (.ret (.ptr (some (id, off))))
  | _, _ => .fail
/-- Bytes of a literal: the place behind them is shut. -/
noncomputable def gmark (h : GHeap) (id : Nat) : Option GHeap :=
  match h[id]? with
  | some (.cells cs mode) => if mode = .ro then none else some (h.set id (.cells cs .sb))
  | _ => none

noncomputable def toBytes : List GVal → Option (List UInt8)
  | [] => some []
  | .int .u8 n :: xs => (toBytes xs).map fun l => UInt8.ofNat n.toNat :: l
  | _ => none
noncomputable def gbytes (h : GHeap) (a : Option (Nat × Nat)) (len cap : Nat) : Option (List UInt8) :=
  match a with
  | none => some []
  | some (id, off) => if len = 0 then some [] else if 0 < cap then (gloads h id off len).bind toBytes else none
noncomputable def gconvert (h : GHeap) (src dst : TypeId) (x : GVal) : GM (GVal × GHeap) :=
  match P.underlying src with
  | some (.slice e0) =>
    match P.underlying e0, P.underlying dst, x with
    | some (.int .u8), some (.slice e), .slice (some (id, off)) len cap op =>
      match P.underlying e with
      | some (.int .u8) => if src = dst then .sto (gmark h id) fun h' => .ret (.slice (some (id, off)) len cap op, h') else .fail
      | _ => .fail
    | some (.int .u8), some .string, .slice a len cap _ => .dst .str ((gbytes h a len cap).map .str) fun v => .ret (v, h)
    | _, _, _ => .fail
  | some _ =>
    match P.underlying dst, x with
    | some (.int k), .int _ n => .ret (.int k (k.wrap n), h)
    | some .string, .int _ n => .ret (.str (Utf8.encode n).data.toList, h)
    | some .string, .str s => .ret (.str s, h)
    | some (.slice e), .str s =>
      match P.underlying e with
      | some (.int .u8) => .ret (.slice (some (h.length, 0)) s.length s.length (some 1), h ++ [.cells (s.map fun b => .int .u8 b.toNat) .sb])
      | _ => .fail
    | _, _ => .fail
  | none => .fail

/-- The type of an operation's argument, of a builtin call. -/
noncomputable def gbuiltin (h : GHeap) (b : Builtin) (ats : Array TypeId) (args : List GVal) : GM (GVal × GHeap) :=
  match b, ats[0]?, args with
  | .len, some t, [x] =>
    match P.underlying t, x with
    | some .string, .str s => .ret (.int .i64 s.length, h)
    | some (.array n _), _ => .ret (.int .i64 n, h)
    | some (.slice _), .slice _ n _ _ => .ret (.int .i64 n, h)
    | some (.map _ _), x => .dst (.int .i64) ((gentries h x).map fun es => .int .i64 es.length) fun v => .ret (v, h)
    | some (.pointer a), _ => match P.underlying a with
      | some (.array n _) => .ret (.int .i64 n, h)
      | _ => .fail
    | _, _ => .fail
  | .cap, some t, [x] =>
    match P.underlying t, x with
    | some (.slice _), .slice _ _ c none => .ret (.int .i64 c, h)
    | some (.array n _), _ => .ret (.int .i64 n, h)
    | _, _ => .fail
  | .append, some t, [s, x] =>
    match P.underlying t, ats[1]? with
    | some (.slice e), some u =>
      match P.underlying u with
      | some (.int _) => match tsize P e, tbytes P e, tzero P e with
        | some size, some bytes, some z => if z.cells.length = size ∧ 0 < size then .eff .slice (gmakeApp h size bytes z s x) fun v h' => .ret (v, h') else .fail
        | _, _, _ => .fail
      | some _ => match tsize P e, tbytes P e, tzero P e with
        | some size, some bytes, some z => if z.cells.length = size then .eff .slice (gappend h size bytes s x) fun v h' => .ret (v, h') else .fail
        | _, _, _ => .fail
      | none => .fail
    | _, _ => .fail
  | .copy, some t, [d, s] =>
    match P.underlying t with
    | some (.slice e) => match tsize P e with
      | some size => .eff (.int .i64) (gcopy h size d s) fun v h' => .ret (v, h')
      | none => .fail
    | _ => .fail
  | .delete, some t, [x, k] => .sto (gdelete P h t x k) fun h' => .ret (.tuple [], h')
  | .clear, some t, [x] => match P.underlying t with
    | some _ => .sto (gclear P h t x) fun h' => .ret (.tuple [], h')
    | none => .fail
  | .max, some _, [.int k x, .int l y] => .req (k = l) inferInstance (.ret (.int k (if y > x then y else x), h))
  | .min, some _, [.int k x, .int l y] => .req (k = l) inferInstance (.ret (.int k (if y < x then y else x), h))
  | .max, some _, [.int k x, .int l y, .int j z] => .req (k = l ∧ k = j) inferInstance
      (.ret (.int k (if z > (if y > x then y else x) then z else (if y > x then y else x)), h))
  | .min, some _, [.int k x, .int l y, .int j z] => .req (k = l ∧ k = j) inferInstance
      (.ret (.int k (if z < (if y < x then y else x) then z else (if y < x then y else x)), h))
  | _, _, _ => .fail

noncomputable def GM.map {X Y : Type} (f : X → Y) : GM X → GM Y
  | .ret x => .ret (f x)
  | .fail => .fail
  | .req c d k => .req c d (GM.map f k)
  | .dst kd o k => .dst kd o fun v => GM.map f (k v)
  | .eff kd o k => .eff kd o fun v h => GM.map f (k v h)
  | .sto o k => .sto o fun h => GM.map f (k h)

noncomputable def optV (ev : Operand → GVal) (o : Option Operand) : Option GVal := o.map ev

noncomputable def gop (ev : Operand → GVal) (o : Oper) (h : GHeap) : GM (GVal × GHeap) :=
  let pure (m : GM GVal) : GM (GVal × GHeap) := GM.map (fun v => (v, h)) m
  match o.op with
  | .move x | .assign x => .ret (ev x, h)
  | .pick c a b => match ev c with
    | .bool t => .ret (if t then ev a else ev b, h)
    | _ => .fail
  | .alloc e => match tzero P e with
    | some z => .ret (.ptr (some (h.length, 0)), h ++ [.cells z.cells .rw])
    | none => .fail
  | .box _ x => if (ev x).told then .ret (.ptr (some (h.length, 0)), h ++ [.cells (ev x).cells .rw]) else .fail
  | .build t parts =>
    let ps := parts.toList.map fun (i, x) => (i, ev x)
    if allTold (ps.map (·.2)) then
      match tzero P t, P.underlying t with
      | some z, some (.struct fields) =>
        match gplaces P fields.toList with
        | some pl => match gfill (fun i => pl[i]?) z.cells ps with
          | some cs => .ret (.agg cs, h)
          | none => .fail
        | none => .fail
      | some z, some (.array _ e) =>
        match tsize P e with
        | some s => match gfill (fun i => some (i * s, s)) z.cells ps with
          | some cs => .ret (.agg cs, h)
          | none => .fail
        | none => .fail
      | _, _ => .fail
    else .fail
  | .buildSlice t len parts =>
    let ps := parts.toList.map fun (i, x) => (i, ev x)
    if allTold (ps.map (·.2)) then
      match P.underlying t with
      | some (.slice e) =>
        match tsize P e, tzero P e with
        | some s, some z =>
          if len * s ≤ 16777216 ∧ z.cells.length = s then
            match gfill (fun i => some (i * s, s)) (zeros len z.cells) ps with
            | some cs => .ret (.slice (some (h.length, 0)) len len none, h ++ [.cells cs .rw])
            | none => .fail
          else .fail
        | _, _ => .fail
      | _ => .fail
    else .fail
  | .load t a => match ev a, tagg P t with
    | .ptr (some (id, off)), some false => .dst (tkind P t) (gload h id off) fun v => .ret (v, h)
    | .ptr (some (id, off)), some true => match tsize P t with
      | some n => .dst (tkind P t) ((gloads h id off n).map .agg) fun v => .ret (v, h)
      | none => .fail
    | _, _ => .fail
  | .store t a x => match ev a with
    | .ptr (some (id, off)) =>
      if (ev x).told ∧ tsize P t = some (ev x).cells.length then .sto (gstore h id off (ev x).cells) fun h' => .ret (.tuple [], h') else .fail
    | _ => .fail
  | .nilCheck x => match ev x with
    | .ptr (some a) => .ret (.ptr (some a), h)
    | .func (.func f) a c => .ret (.func (.func f) a c, h)
    | .slice a n c o => .ret (.slice a n c o, h)
    | .map r => .ret (.map r, h)
    | _ => .fail
  | .binOp op t x y _ => pure (gbinOp P h op t (ev x) (ev y))
  | .unOp op _ x => pure (gunOp op (ev x))
  | .convert s d x => gconvert P h s d (ev x)
  | .sliceToArrayPointer ty x => pure (gtoArray P ty (ev x))
  | .makeFunc (.func f) first captured =>
    if allTold (first.toList.map ev) && allTold (captured.toList.map ev) then .ret (.func (.func f) (first.toList.map ev) (captured.toList.map ev), h) else .fail
  | .makeMap _ none => .ret (.map (some h.length), h ++ [.map [] false])
  | .makeMap t (some x) => match P.underlying t, ev x with
    | some (.map _ _), .int _ _ => .ret (.map (some h.length), h ++ [.map [] false])
    | _, _ => .fail
  | .makeSlice t l c => match P.underlying t, ev l, ev c with
    | some (.slice e), .int _ l, .int _ c =>
      match tsize P e, tbytes P e, tzero P e with
      | some s, some bytes, some z =>
        if z.cells.length = s then
          .req (0 ≤ l ∧ l ≤ c ∧ c ≤ 9223372036854775807 ∧ (bytes : Int) * c ≤ 70368744177664) inferInstance
            (.ret (.slice (some (h.length, 0)) l.toNat c.toNat none, h ++ [.cells (zeros c.toNat z.cells) .rw]))
        else .fail
      | _, _, _ => .fail
    | _, _, _ => .fail
  | .slice t x lo hi mx => pure (gslice P t (ev x) (optV ev lo) (optV ev hi) (optV ev mx))
  | .fieldAddr s x f => pure (gfieldAddr P s (ev x) f)
  | .field t x f => pure (gfield P t (ev x) f)
  | .indexAddr t x i => pure (gindexAddr P t (ev x) (ev i))
  | .index t x i => pure (gindex P t (ev x) (ev i))
  | .lookup t x k ok => .dst (match ok, P.underlying t with
      | true, some (.map _ e) => .tup [tkind P e, .bool]
      | false, some (.map _ e) => tkind P e
      | _, _ => .other) (glookup P h t (ev x) (ev k) ok) fun v => .ret (v, h)
  | .mapUpdate t m k v => .sto (gmapSet P h t (ev m) (ev k) (ev v)) fun h' => .ret (.tuple [], h')
  | .range t x => match P.underlying t, ev x with
    | some .string, .str s => .ret (.ptr (some (h.length, 0)), h ++ [.siter s 0])
    | _, _ => .fail
  | .extract x i => match ev x with
    | .tuple vs => match vs[i]? with
      | some v => .ret (v, h)
      | none => .fail
    | _ => .fail
  | .call c => match c.callee with
    | .builtin b => gbuiltin P h b c.argTypes (c.args.toList.map ev)
    | _ => .fail
  | _ => .fail

/-- The step of an iterator over a string. -/
noncomputable def gnext (h : GHeap) (x : GVal) : Option (GVal × GHeap) :=
  match x with
  | .ptr (some (id, 0)) => match h[id]? with
    | some (.siter s pos) =>
      if pos < s.length then
        let cw := Utf8.decode ⟨s.toArray⟩ pos
        some (.tuple [.bool true, .int .i64 pos, .int .i32 cw.1], h.set id (.siter s (pos + cw.2)))
      else some (.tuple [.bool false], h)
    | _ => none
  | _ => none
end op

/-! The operations' bodies, one by one (for the kernel: small texts). -/
section bodies
variable (P : Program)
noncomputable def gopPick (c a b : GVal) (h : GHeap) : GM (GVal × GHeap) := match c with
  | .bool t => .ret (if t then a else b, h)
  | _ => .fail
noncomputable def gopAlloc (e : TypeId) (h : GHeap) : GM (GVal × GHeap) := match tzero P e with
  | some z => .ret (.ptr (some (h.length, 0)), h ++ [.cells z.cells .rw])
  | none => .fail
noncomputable def gopBox (x : GVal) (h : GHeap) : GM (GVal × GHeap) := if x.told then .ret (.ptr (some (h.length, 0)), h ++ [.cells x.cells .rw]) else .fail
noncomputable def gopBuild (t : TypeId) (ps : List (Nat × GVal)) (h : GHeap) : GM (GVal × GHeap) :=
    if allTold (ps.map (·.2)) then
      match tzero P t, P.underlying t with
      | some z, some (.struct fields) =>
        match gplaces P fields.toList with
        | some pl => match gfill (fun i => pl[i]?) z.cells ps with
          | some cs => .ret (.agg cs, h)
          | none => .fail
        | none => .fail
      | some z, some (.array _ e) =>
        match tsize P e with
        | some s => match gfill (fun i => some (i * s, s)) z.cells ps with
          | some cs => .ret (.agg cs, h)
          | none => .fail
        | none => .fail
      | _, _ => .fail
    else .fail
noncomputable def gopBuildSlice (t : TypeId) (len : Nat) (ps : List (Nat × GVal)) (h : GHeap) : GM (GVal × GHeap) :=
    if allTold (ps.map (·.2)) then
      match P.underlying t with
      | some (.slice e) =>
        match tsize P e, tzero P e with
        | some s, some z =>
          if len * s ≤ 16777216 ∧ z.cells.length = s then
            match gfill (fun i => some (i * s, s)) (zeros len z.cells) ps with
            | some cs => .ret (.slice (some (h.length, 0)) len len none, h ++ [.cells cs .rw])
            | none => .fail
          else .fail
        | _, _ => .fail
      | _ => .fail
    else .fail
noncomputable def gopLoad (t : TypeId) (a : GVal) (h : GHeap) : GM (GVal × GHeap) := match a, tagg P t with
    | .ptr (some (id, off)), some false => .dst (tkind P t) (gload h id off) fun v => .ret (v, h)
    | .ptr (some (id, off)), some true => match tsize P t with
      | some n => .dst (tkind P t) ((gloads h id off n).map .agg) fun v => .ret (v, h)
      | none => .fail
    | _, _ => .fail
noncomputable def gopStore (t : TypeId) (a x : GVal) (h : GHeap) : GM (GVal × GHeap) := match a with
    | .ptr (some (id, off)) =>
      if x.told ∧ tsize P t = some x.cells.length then .sto (gstore h id off x.cells) fun h' => .ret (.tuple [], h') else .fail
    | _ => .fail
noncomputable def gopNilCheck (x : GVal) (h : GHeap) : GM (GVal × GHeap) := match x with
    | .ptr (some a) => .ret (.ptr (some a), h)
    | .func (.func f) a c => .ret (.func (.func f) a c, h)
    | .slice a n c o => .ret (.slice a n c o, h)
    | .map r => .ret (.map r, h)
    | _ => .fail
noncomputable def gopFunc (fn : Fn) (first captured : List GVal) (h : GHeap) : GM (GVal × GHeap) := match fn with
  | .func f => if allTold first && allTold captured then .ret (.func (.func f) first captured, h) else .fail
  | _ => .fail
noncomputable def gopMakeMap (t : TypeId) (r : Option GVal) (h : GHeap) : GM (GVal × GHeap) := match r with
  | none => .ret (.map (some h.length), h ++ [.map [] false])
  | some x => match P.underlying t, x with
    | some (.map _ _), .int _ _ => .ret (.map (some h.length), h ++ [.map [] false])
    | _, _ => .fail
noncomputable def gopMakeSlice (t : TypeId) (l c : GVal) (h : GHeap) : GM (GVal × GHeap) := match P.underlying t, l, c with
    | some (.slice e), .int _ l, .int _ c =>
      match tsize P e, tbytes P e, tzero P e with
      | some s, some bytes, some z =>
        if z.cells.length = s then
          .req (0 ≤ l ∧ l ≤ c ∧ c ≤ 9223372036854775807 ∧ (bytes : Int) * c ≤ 70368744177664) inferInstance
            (.ret (.slice (some (h.length, 0)) l.toNat c.toNat none, h ++ [.cells (zeros c.toNat z.cells) .rw]))
        else .fail
      | _, _, _ => .fail
    | _, _, _ => .fail
noncomputable def gopLookup (t : TypeId) (x k : GVal) (ok : Bool) (h : GHeap) : GM (GVal × GHeap) := .dst (match ok, P.underlying t with
      | true, some (.map _ e) => .tup [tkind P e, .bool]
      | false, some (.map _ e) => tkind P e
      | _, _ => .other) (glookup P h t x k ok) fun v => .ret (v, h)
noncomputable def gopRange (t : TypeId) (x : GVal) (h : GHeap) : GM (GVal × GHeap) := match P.underlying t, x with
    | some .string, .str s => .ret (.ptr (some (h.length, 0)), h ++ [.siter s 0])
    | _, _ => .fail
noncomputable def gopExtract (x : GVal) (i : Nat) (h : GHeap) : GM (GVal × GHeap) := match x with
    | .tuple vs => match vs[i]? with
      | some v => .ret (v, h)
      | none => .fail
    | _ => .fail

noncomputable def gbinOther (h : GHeap) (op : BinOp) (t : TypeId) (x y : GVal) : GM GVal :=
  match op with
  | .eql => if eqFree P t x y then .dst .bool ((geq P h t x y).map .bool) .ret else .fail
  | .neq => if eqFree P t x y then .dst .bool ((geq P h t x y).map fun b => .bool (!b)) .ret else .fail
  | _ => .fail
noncomputable def gbinII (op : BinOp) (k : IntKind) (a : Int) (l : IntKind) (b : Int) : GM GVal :=
  match op with
  | .shl => .req (0 ≤ b) inferInstance (.ret (.int k (k.wrap (a * 2 ^ (min b.toNat k.bits)))))
  | .shr => .req (0 ≤ b) inferInstance (.ret (.int k (a.fdiv (2 ^ (min b.toNat k.bits)))))
  | op => .req (k = l) inferInstance (gintOp op k a b)
noncomputable def gbinInt (h : GHeap) (op : BinOp) (t : TypeId) (k : IntKind) (a : Int) (y : GVal) : GM GVal :=
  match y with
  | .int l b => gbinII op k a l b
  | y => gbinOther P h op t (.int k a) y
noncomputable def gbinStr (h : GHeap) (op : BinOp) (t : TypeId) (a : List UInt8) (y : GVal) : GM GVal :=
  match y with
  | .str b => gstrOp op a b
  | y => gbinOther P h op t (.str a) y
noncomputable def gbinOpF (h : GHeap) (op : BinOp) (t : TypeId) (x y : GVal) : GM GVal :=
  match x with
  | .int k a => gbinInt P h op t k a y
  | .str a => gbinStr P h op t a y
  | x => gbinOther P h op t x y
theorem gbinOpF_eq (h : GHeap) (op : BinOp) (t : TypeId) (x y : GVal) : gbinOpF P h op t x y = gbinOp P h op t x y := by
  cases x <;> cases y <;> first | rfl | (cases op <;> rfl)

noncomputable def gopLen (h : GHeap) (t : TypeId) (x : GVal) : GM (GVal × GHeap) :=
    match P.underlying t, x with
    | some .string, .str s => .ret (.int .i64 s.length, h)
    | some (.array n _), _ => .ret (.int .i64 n, h)
    | some (.slice _), .slice _ n _ _ => .ret (.int .i64 n, h)
    | some (.map _ _), x => .dst (.int .i64) ((gentries h x).map fun es => .int .i64 es.length) fun v => .ret (v, h)
    | some (.pointer a), _ => match P.underlying a with
      | some (.array n _) => .ret (.int .i64 n, h)
      | _ => .fail
    | _, _ => .fail
noncomputable def gopAppend (h : GHeap) (t : TypeId) (u : Option TypeId) (s x : GVal) : GM (GVal × GHeap) :=
    match P.underlying t, u with
    | some (.slice e), some u =>
      match P.underlying u with
      | some (.int _) => match tsize P e, tbytes P e, tzero P e with
        | some size, some bytes, some z => if z.cells.length = size ∧ 0 < size then .eff .slice (gmakeApp h size bytes z s x) fun v h' => .ret (v, h') else .fail
        | _, _, _ => .fail
      | some _ => match tsize P e, tbytes P e, tzero P e with
        | some size, some bytes, some z => if z.cells.length = size then .eff .slice (gappend h size bytes s x) fun v h' => .ret (v, h') else .fail
        | _, _, _ => .fail
      | none => .fail
    | _, _ => .fail
noncomputable def gbuiltinF (h : GHeap) (b : Builtin) (ats : Array TypeId) (args : List GVal) : GM (GVal × GHeap) :=
  match b with
  | .len => match ats[0]?, args with
    | some t, [x] => gopLen P h t x
    | _, _ => .fail
  | .append => match ats[0]?, args with
    | some t, [s, x] => gopAppend P h t ats[1]? s x
    | _, _ => .fail
  | b => gbuiltin P h b ats args
theorem gbuiltinF_eq (h : GHeap) (b : Builtin) (ats : Array TypeId) (args : List GVal) : gbuiltinF P h b ats args = gbuiltin P h b ats args := by
  cases b with
  | len =>
    simp only [gbuiltinF, gbuiltin]
    cases ats[0]? with
    | none => rfl
    | some t =>
      cases args with
      | nil => rfl
      | cons x l => cases l <;> rfl
  | append =>
    simp only [gbuiltinF, gbuiltin]
    cases ats[0]? with
    | none => rfl
    | some t =>
      cases args with
      | nil => rfl
      | cons x l =>
        cases l with
        | nil => rfl
        | cons y l => cases l <;> rfl
  | _ => rfl
end bodies

/-! Code, into any answer. -/
structure Alg (A : Type) where
  fail : A
  gm : GM (GVal × GHeap) → (GVal → GHeap → A) → A
  nxt : Option (GVal × GHeap) → (GVal → GHeap → A) → A
  req : (c : Prop) → Decidable c → A → A
  call : FuncId → List GVal → GHeap → (GVal → GHeap → A) → A
  round : Nat → List GVal → GHeap → (GVal → GHeap → A) → A
  loop : (Nat → A) → A

structure Kont (A : Type) where
  nrm : List GVal → GHeap → A
  ext : Nat → List GVal → GHeap → A
  ret : List GVal → GHeap → A

noncomputable def gput (t : List GVal) (d : Option Tmp) (v : GVal) : List GVal :=
  match d with
  | some d => lset t d v
  | none => t

inductive Want where
  | yes | no | open_

noncomputable def gwant (ops : Array Oper) (t : List GVal) (o : Oper) : Want :=
  match o.guard with
  | none => .yes
  | some (j, want) => match ((ops[j]?).bind (·.dst)).map fun d => lget .undef t d with
    | some (.bool b) => if b = want then .yes else .no
    | some (.tuple []) => .no
    | _ => .open_

section code
variable {A : Type} (alg : Alg A) (P : Program) (gl : Nat → Option Nat)

noncomputable def callable (f : FuncId) : Bool :=
  match P.funcs[f]? with
  | some fn => fn.body.isSome && !(fn.name == "runtime.NumGoroutine")
  | none => false

noncomputable def isLoop (h : GHeap) (l : Nat) : Bool :=
  match h[l]? with
  | some (.loop ..) => true
  | _ => false
/-- A call of a function value. -/
noncomputable def gcallV (f : GVal) (args : List GVal) (h : GHeap) (k : GVal → GHeap → A) : A :=
  if allTold args then
    match f with
    | .func (.func g) first captured => if callable P g then alg.call g (first ++ args ++ captured) h k else alg.fail
    | .func (.yield l) [] [] => alg.req (isLoop h l = true) inferInstance (alg.round l args h k)
    | _ => alg.fail
  else alg.fail

noncomputable def goneS (t : List GVal) (o : Oper) (h : GHeap) (k : GVal → GHeap → A) : A :=
  match o.op with
  | .call { callee := .value f, args, .. } => gcallV alg P (gev gl t f) (args.toList.map (gev gl t)) h k
  | .next x true => alg.nxt (gnext h (gev gl t x)) k
  | _ => alg.gm (gop P (gev gl t) o h) k

noncomputable def gnextOp (t : List GVal) (h : GHeap) (x : Operand) (s : Bool) (k : GVal → GHeap → A) : A :=
  match s with
  | true => alg.nxt (gnext h (gev gl t x)) k
  | false => alg.gm .fail k
noncomputable def gcallOp (t : List GVal) (h : GHeap) (c : Call) (k : GVal → GHeap → A) : A :=
  match c.callee with
  | .value f => gcallV alg P (gev gl t f) (c.args.toList.map (gev gl t)) h k
  | .builtin b => alg.gm (gbuiltinF P h b c.argTypes (c.args.toList.map (gev gl t))) k
  | _ => alg.gm .fail k
/-- One operation. -/
noncomputable def gone (t : List GVal) (o : Oper) (h : GHeap) (k : GVal → GHeap → A) : A :=
  Op.casesOn (motive := fun _ => A) o.op
    (fun x => alg.gm (.ret (gev gl t x, h)) k)
    (fun x => alg.gm (.ret (gev gl t x, h)) k)
    (fun c a b => alg.gm (gopPick (gev gl t c) (gev gl t a) (gev gl t b) h) k)
    (fun e => alg.gm (gopAlloc P e h) k)
    (fun _ x => alg.gm (gopBox (gev gl t x) h) k)
    (fun ty parts => alg.gm (gopBuild P ty (parts.toList.map fun (i, x) => (i, gev gl t x)) h) k)
    (fun ty len parts => alg.gm (gopBuildSlice P ty len (parts.toList.map fun (i, x) => (i, gev gl t x)) h) k)
    (fun _ _ _ _ => alg.gm .fail k)
    (fun ty a => alg.gm (gopLoad P ty (gev gl t a) h) k)
    (fun ty a x => alg.gm (gopStore P ty (gev gl t a) (gev gl t x) h) k)
    (fun _ => alg.gm .fail k)
    (fun _ => alg.gm .fail k)
    (fun x => alg.gm (gopNilCheck (gev gl t x) h) k)
    (fun op ty x y _ => alg.gm (GM.map (fun v => (v, h)) (gbinOpF P h op ty (gev gl t x) (gev gl t y))) k)
    (fun op _ x => alg.gm (GM.map (fun v => (v, h)) (gunOp op (gev gl t x))) k)
    (fun s d x => alg.gm (gconvert P h s d (gev gl t x)) k)
    (fun ty x => alg.gm (GM.map (fun v => (v, h)) (gtoArray P ty (gev gl t x))) k)
    (fun _ _ => alg.gm .fail k)
    (fun fn first captured => alg.gm (gopFunc fn (first.toList.map (gev gl t)) (captured.toList.map (gev gl t)) h) k)
    (fun ty r => alg.gm (gopMakeMap P ty (optV (gev gl t) r) h) k)
    (fun _ _ => alg.gm .fail k)
    (fun ty l c => alg.gm (gopMakeSlice P ty (gev gl t l) (gev gl t c) h) k)
    (fun ty x lo hi mx => alg.gm (GM.map (fun v => (v, h)) (gslice P ty (gev gl t x) (optV (gev gl t) lo) (optV (gev gl t) hi) (optV (gev gl t) mx))) k)
    (fun s x f => alg.gm (GM.map (fun v => (v, h)) (gfieldAddr P s (gev gl t x) f)) k)
    (fun ty x f => alg.gm (GM.map (fun v => (v, h)) (gfield P ty (gev gl t x) f)) k)
    (fun ty x i => alg.gm (GM.map (fun v => (v, h)) (gindexAddr P ty (gev gl t x) (gev gl t i))) k)
    (fun ty x i => alg.gm (GM.map (fun v => (v, h)) (gindex P ty (gev gl t x) (gev gl t i))) k)
    (fun ty x key ok => alg.gm (gopLookup P ty (gev gl t x) (gev gl t key) ok h) k)
    (fun ty m key v => alg.gm (.sto (gmapSet P h ty (gev gl t m) (gev gl t key) (gev gl t v)) fun h' => .ret (.tuple [], h')) k)
    (fun _ _ _ => alg.gm .fail k)
    (fun _ _ _ _ => alg.gm .fail k)
    (fun ty x => alg.gm (gopRange P ty (gev gl t x) h) k)
    (fun x s => gnextOp alg gl t h x s k)
    (fun _ => alg.gm .fail k)
    (fun _ _ _ _ => alg.gm .fail k)
    (fun x i => alg.gm (gopExtract (gev gl t x) i h) k)
    (fun c => gcallOp alg P gl t h c k)
    (fun _ => alg.gm .fail k)
    (fun _ => alg.gm .fail k)
    (fun _ => alg.gm .fail k)
    (fun _ _ => alg.gm .fail k)
    (fun _ _ _ => alg.gm .fail k)
    (fun _ _ => alg.gm .fail k)
theorem gone_eq (t : List GVal) (o : Oper) (h : GHeap) (k : GVal → GHeap → A) : gone alg P gl t o h k = goneS alg P gl t o h k := by
  obtain ⟨dst, op, ty, pos, aft, gd⟩ := o
  cases op with
  | binOp op ty x y t2 =>
    show alg.gm (GM.map (fun v => (v, h)) (gbinOpF P h op ty (gev gl t x) (gev gl t y))) k = _
    rw [gbinOpF_eq]; rfl
  | next x s => cases s <;> rfl
  | makeFunc fn first captured => cases fn <;> rfl
  | makeMap ty r => cases r <;> rfl
  | call c =>
    obtain ⟨callee, args, ats⟩ := c
    cases callee with
    | builtin b =>
      show alg.gm (gbuiltinF P h b ats (args.toList.map (gev gl t))) k = _
      rw [gbuiltinF_eq]; rfl
    | _ => rfl
  | _ => rfl

/-- A region in the order of its text. -/
noncomputable def gops (ops : Array Oper) : List Oper → List GVal → GHeap → (List GVal → GHeap → A) → A
  | [], t, h, k => k t h
  | o :: os, t, h, k =>
    match gwant ops t o with
    | .yes => gone alg P gl t o h fun v h' => gops ops os (gput t o.dst v) h' k
    | .no => gops ops os (gput t o.dst (.tuple [])) h k
    | .open_ => alg.fail
end code
end Gh

/- The ghost semantics of regions that draw their order, of code and of functions; the evaluator. -/
namespace Gh
open Go

mutual
theorem GVal.beq_self : (a : GVal) → GVal.beq a a = true
  | .undef => rfl
  | .bool a => by simp [GVal.beq]
  | .int k a => by simp [GVal.beq]
  | .str a => by simp [GVal.beq]
  | .ptr a => by simp [GVal.beq]
  | .slice a n c o => by simp [GVal.beq]
  | .map a => by simp [GVal.beq]
  | .func f a c => by simp [GVal.beq, GVal.beqs_self a, GVal.beqs_self c]
  | .nilFunc => rfl
  | .iface t a => by simp [GVal.beq, GVal.beq_self a]
  | .nilIface => rfl
  | .agg a => by simp [GVal.beq, GVal.beqs_self a]
  | .tuple a => by simp [GVal.beq, GVal.beqs_self a]
theorem GVal.beqs_self : (a : List GVal) → GVal.beqs a a = true
  | [] => rfl
  | x :: xs => by simp [GVal.beqs, GVal.beq_self x, GVal.beqs_self xs]
end
mutual
theorem GVal.eq_of_beq : (a b : GVal) → GVal.beq a b = true → a = b
  | .undef, b => by cases b <;> simp [GVal.beq]
  | .bool a, b => by cases b <;> simp [GVal.beq]
  | .int k a, b => by cases b <;> simp [GVal.beq]
  | .str a, b => by cases b <;> simp [GVal.beq]
  | .ptr a, b => by cases b <;> simp [GVal.beq]
  | .slice a n c o, b => by cases b <;> simp [GVal.beq]; intro h1 h2 h3 h4; exact ⟨h1, h2, h3, h4⟩
  | .map a, b => by cases b <;> simp [GVal.beq]
  | .func f a c, b => by
    cases b <;> simp [GVal.beq]
    rename_i g b d
    intro h1 h2 h3
    exact ⟨h1, GVal.eq_of_beqs a b h2, GVal.eq_of_beqs c d h3⟩
  | .nilFunc, b => by cases b <;> simp [GVal.beq]
  | .iface t a, b => by
    cases b <;> simp [GVal.beq]
    rename_i u b
    intro h1 h2
    exact ⟨h1, GVal.eq_of_beq a b h2⟩
  | .nilIface, b => by cases b <;> simp [GVal.beq]
  | .agg a, b => by
    cases b <;> simp [GVal.beq]
    rename_i b
    exact GVal.eq_of_beqs a b
  | .tuple a, b => by
    cases b <;> simp [GVal.beq]
    rename_i b
    exact GVal.eq_of_beqs a b
theorem GVal.eq_of_beqs : (a b : List GVal) → GVal.beqs a b = true → a = b
  | [], b => by cases b <;> simp [GVal.beqs]
  | x :: xs, b => by
    cases b with
    | nil => simp [GVal.beqs]
    | cons y ys =>
      simp only [GVal.beqs, Bool.and_eq_true]
      intro h
      rw [GVal.eq_of_beq x y h.1, GVal.eq_of_beqs xs ys h.2]
end
noncomputable instance : DecidableEq GVal := fun a b =>
  if h : GVal.beq a b = true then isTrue (GVal.eq_of_beq a b h) else isFalse fun e => h (e ▸ GVal.beq_self a)

/-! Regions that draw. -/
inductive OC where
  | pure | alloc | read | eff
  deriving DecidableEq

section
variable (P : Program)
noncomputable def opClass (o : Oper) : OC :=
  match o.op with
  | .move _ | .assign _ | .pick _ _ _ | .build _ _ | .nilCheck _ | .sliceToArrayPointer _ _ | .unOp _ _ _ | .makeFunc _ _ _ | .slice _ _ _ _ _ | .fieldAddr _ _ _ | .field _ _ _ | .indexAddr _ _ _ | .index _ _ _ | .extract _ _ => .pure
  | .binOp op t _ _ _ =>
    match op with
    | .eql | .neq => (match P.underlying t with
      | some (.int _) | some .string | some .bool | some (.slice _) | some (.map _ _) | some (.func _ _ _) => .pure
      | _ => .read)
    | _ => .pure
  | .convert s d _ => match P.underlying s with
    | some (.slice _) => .eff
    | _ => (match P.underlying d with
      | some (.slice _) => .alloc
      | _ => .pure)
  | .alloc _ | .box _ _ | .buildSlice _ _ _ | .makeMap _ _ | .makeSlice _ _ _ | .range _ _ => .alloc
  | .load _ _ | .lookup _ _ _ _ => .read
  | .call { callee := .builtin b, argTypes, .. } =>
    match b with
    | .len => (match (argTypes[0]?).bind P.underlying with
      | some (.map _ _) => .read
      | some .string | some (.slice _) | some (.array _ _) | some (.pointer _) => .pure
      | _ => .eff)
    | .cap | .max | .min => .pure
    | _ => .eff
  | _ => .eff

/-- What an operation before i has to have behind it: a number of bits. -/
noncomputable def befs (ops : Array Oper) : Array Nat := Region.before ops
noncomputable def bef (ops : Array Oper) (i j : Nat) : Bool := ((befs ops).getD j 0).testBit i

/-- The temporaries that an operation reads. -/
noncomputable def readsT (ops : Array Oper) (o : Oper) : List Tmp :=
  (o.op.operands.toList.filterMap fun | .tmp t => some t | _ => none) ++
  (match o.guard with
   | some (j, _) => ((ops[j]?).bind (·.dst)).toList
   | none => [])
noncomputable def clash (ops : Array Oper) (a b : Oper) : Bool :=
  (match a.dst with
   | some d => (readsT ops b).contains d || b.dst == some d
   | none => false) ||
  (match b.dst with
   | some d => (readsT ops a).contains d
   | none => false)
noncomputable def isEff (o : Oper) : Bool := opClass P o == .eff
noncomputable def isRead (o : Oper) : Bool := opClass P o == .read
/-- What is asked of a pair: a before b in the text. -/
noncomputable def pairOk (ops : Array Oper) (a : Oper) (i : Nat) (b : Oper) (j : Nat) : Bool :=
  (a.dst == none || a.dst != b.dst) &&
  (bef ops i j || (!(isEff P a && isEff P b) && !clash ops a b)) &&
  (!isRead P a || (match b.dst with
    | some d => !(readsT ops a).contains d
    | none => true))
noncomputable def oneOk (ops : Array Oper) (a : Oper) (i : Nat) : Bool :=
  (a.after.all fun e => !Region.binds .any e || decide (e.on < i)) &&
  (match a.dst with
   | some d => !(readsT ops a).contains d
   | none => true)
noncomputable def effAt (ops : Array Oper) (i : Nat) : Bool :=
  match ops[i]? with
  | some o => isEff P o
  | none => false

/-- How many operations with an effect stand before this one. -/
noncomputable def effDeps (ops : Array Oper) (j : Nat) : Nat :=
  (ops.toList.zipIdx.filter fun (a, i) => isEff P a && bef ops i j).length
noncomputable def effs (ops : Array Oper) : List Nat := (ops.toList.zipIdx.filter fun (a, _) => isEff P a).map (·.2)
noncomputable def batch (ops : Array Oper) (c : Nat) : List Nat :=
  (ops.toList.zipIdx.filter fun (a, i) => !isEff P a && decide (effDeps P ops i = c)).map (·.2)
/-- The order in which the ghost takes a region's operations: each as early as the effects let it. -/
noncomputable def dorderFrom (ops : Array Oper) : List Nat → Nat → List Nat
  | [], c => batch P ops c
  | e :: es, c => batch P ops c ++ e :: dorderFrom ops es (c + 1)
noncomputable def dorder (ops : Array Oper) : List Nat := dorderFrom P ops (effs P ops) 0

/-- Is the order one in which all that stands before an operation is taken before it, and each as early as the effects let it? -/
noncomputable def dok (ops : Array Oper) : List Nat → List Nat → Bool
  | done, [] => (List.range ops.size).all fun j => done.contains j
  | done, i :: l =>
    decide (i < ops.size) && !done.contains i && (List.range ops.size).all (fun j => !bef ops j i || done.contains j) && l.all (fun j => !bef ops j i) &&
    (!effAt P ops i || l.all fun j => if effAt P ops j then bef ops i j else (i :: l).any fun e => effAt P ops e && bef ops e j) &&
    dok ops (i :: done) l
noncomputable def drawOk (ops : Array Oper) : Bool :=
  (ops.toList.zipIdx.all fun (a, i) =>
    oneOk ops a i && ops.toList.zipIdx.all fun (b, j) => !(decide (i < j)) || pairOk P ops a i b j) &&
  dok P ops [] (dorder P ops)
noncomputable def inRange (ops : Array Oper) (t : List GVal) : Bool :=
  ops.toList.all fun o => match o.dst with
    | some d => decide (d < t.length)
    | none => true

variable (gl : Nat → Option Nat)

/-- A read that was taken gives the same in this heap. -/
noncomputable def rdSame (t : List GVal) (o : Oper) (h : GHeap) : Prop :=
  match o.op, o.dst with
  | .load ty a, some d =>
    match gev gl t a, tagg P ty, tsize P ty with
    | .ptr (some (id, off)), some false, _ => gload h id off = some (t.getD d .undef)
    | .ptr (some (id, off)), some true, some n => (gloads h id off n).map .agg = some (t.getD d .undef)
    | _, _, _ => False
  | .lookup ty x k ok, some d => glookup P h ty (gev gl t x) (gev gl t k) ok = some (t.getD d .undef)
  | .binOp .eql ty x y _, some d => (geq P h ty (gev gl t x) (gev gl t y)).map .bool = some (t.getD d .undef)
  | .binOp .neq ty x y _, some d => ((geq P h ty (gev gl t x) (gev gl t y)).map fun b => .bool (!b)) = some (t.getD d .undef)
  | .call { callee := .builtin _, args, .. }, some d =>
    (match args.toList.map (gev gl t) with
     | [x] => (gentries h x).map fun es => .int .i64 (es.length : Int)
     | _ => none) = some (t.getD d .undef)
  | _, _ => False
noncomputable instance (t : List GVal) (o : Oper) (h : GHeap) : Decidable (rdSame P gl t o h) := by
  unfold rdSame
  split <;> try infer_instance
  split <;> infer_instance

/-- All reads among these numbers. -/
noncomputable def rdAll (ops : Array Oper) (t : List GVal) (h : GHeap) : List Nat → Prop
  | [] => True
  | i :: is => (match ops[i]? with
    | some o => rdSame P gl t o h
    | none => True) ∧ rdAll ops t h is
noncomputable instance rdAllDec (ops : Array Oper) (t : List GVal) (h : GHeap) : (l : List Nat) → Decidable (rdAll P gl ops t h l)
  | [] => isTrue trivial
  | i :: is => by
    unfold rdAll
    have := rdAllDec ops t h is
    cases ops[i]? <;> infer_instance

variable {A : Type} (alg : Alg A)
/-- 'rs': the reads that were taken so far, and may be taken late. -/
noncomputable def gdr (ops : Array Oper) : List Nat → List Nat → List GVal → GHeap → (List GVal → GHeap → A) → A
  | [], _, t, h, k => k t h
  | i :: l, rs, t, h, k =>
    match ops[i]? with
    | none => alg.fail
    | some o =>
      match gwant ops t o with
      | .no => gdr ops l rs (gput t o.dst (.tuple [])) h k
      | .open_ => alg.fail
      | .yes =>
        match opClass P o with
        | .eff => gone alg P gl t o h fun v h' =>
            match rs.filter fun r => !bef ops r i with
            | [] => gdr ops l rs (gput t o.dst v) h' k
            | rs' => alg.req (rdAll P gl ops t h' rs') inferInstance (gdr ops l rs (gput t o.dst v) h' k)
        | .read => gone alg P gl t o h fun v h' => gdr ops l (rs ++ [i]) (gput t o.dst v) h' k
        | _ => gone alg P gl t o h fun v h' => gdr ops l rs (gput t o.dst v) h' k

noncomputable def gloop (f : Kont A → List GVal → GHeap → A) (K : Kont A) : Nat → List GVal → GHeap → A
  | 0, _, _ => alg.fail
  | n + 1, t, h => f { K with nrm := gloop f K n } t h

/-- The end of a range over a function. -/
noncomputable def gendLoop (K : Kont A) (l : Nat) (t : List GVal) (h : GHeap) : A :=
  match h[l]? with
  | some (.loop st pending tm ps as_ bd) =>
    if st = .busy then alg.fail else
    let h' := h.set l (.loop .exhausted pending tm ps as_ bd)
    match pending with
    | none => K.nrm t h'
    | some .ret => K.ret t h'
    | some (.exit id) => K.ext id t h'
    | some _ => alg.fail
  | _ => alg.fail

/-- 'cur': the loop whose round this is. -/
noncomputable def gcode (cur : Option Nat) : Code → Kont A → List GVal → GHeap → A
  | .skip, K, t, h => K.nrm t h
  | .region _ ops draw, K, t, h =>
    if draw then (if drawOk P ops && inRange ops t then gdr P gl alg ops (dorder P ops) [] t h K.nrm else alg.fail)
    else gops alg P gl ops ops.toList t h K.nrm
  | .seq a b, K, t, h => gcode cur a { K with nrm := fun t h => gcode cur b K t h } t h
  | .cond c a b, K, t, h =>
    match gev gl t c with
    | .bool v => if v = true then gcode cur a K t h else gcode cur b K t h
    | _ => alg.fail
  | .block id b, K, t, h => gcode cur b { K with ext := fun i t h => if i = id then K.nrm t h else K.ext i t h } t h
  | .loop b, K, t, h => alg.loop fun n => gloop alg (fun K t h => gcode cur b K t h) K n t h
  | .rangeFunc f ps as_ bd, K, t, h =>
    match (match cur with
      | some l => isLoop h l
      | none => true) with
    | true =>
      match gev gl t f with
      | .func (.func g) first captured =>
        if callable P g then alg.call g (first ++ [.func (.yield h.length) [] []] ++ captured) (h ++ [.loop .ready none t ps as_ bd]) fun _ h' => gendLoop alg K h.length t h'
        else alg.fail
      | _ => alg.fail
    | false => alg.fail
  | .exit id, K, t, h => K.ext id t h
  | .scope b, K, t, h => gcode cur b K t h
  | .label _, K, t, h => K.nrm t h
  | .goto _, _, _, _ => alg.fail
  | .ret, K, t, h => K.ret t h
  | .refuse _, _, _, _ => alg.fail

noncomputable def gres (t : List GVal) (h : GHeap) : List ResultVar → Option (List GVal)
  | [] => some []
  | .tmp i :: rs => (gres t h rs).map fun l => t.getD i .undef :: l
  | .cell a ty :: rs =>
    match t.getD a .undef, tagg P ty, tsize P ty, gres t h rs with
    | .ptr (some (id, off)), some false, _, some l => (gload h id off).map fun v => v :: l
    | .ptr (some (id, off)), some true, some n, some l => (gloads h id off n).map fun v => .agg v :: l
    | _, _, _, _ => none
noncomputable def gresV (l : List GVal) : GVal :=
  match l with
  | [v] => v
  | l => .tuple l
noncomputable def gresKd (fn : Func) : Kd :=
  match fn.resultTypes.toList with
  | [t] => tkind1 P t
  | l => .tup (l.map (tkind1 P))

/-- A function's body, and what it hands back. -/
noncomputable def gresults (fn : Func) (k : GVal → GHeap → A) (t : List GVal) (h : GHeap) : A :=
  alg.gm (match gres P t h fn.results.toList with
    | some l => .ret (gresV l, h)
    | none => .fail) k
noncomputable def gstart (fn : Func) (args : List GVal) : List GVal := args ++ List.replicate (fn.ntmps - args.length) .undef
noncomputable def gfunc (fn : Func) (c : Code) (args : List GVal) (h : GHeap) (k : GVal → GHeap → A) : A :=
  gcode P gl alg none c
    { nrm := gresults P alg fn k, ext := fun _ _ _ => alg.fail, ret := gresults P alg fn k } (gstart fn args) h

/-- A round of a loop over a function. -/
noncomputable def gendRound (l : Nat) (jump : Option Code) (k : GVal → GHeap → A) (h : GHeap) : A :=
  match h[l]? with
  | some (.loop _ _ tm ps as_ bd) => k (.bool jump.isNone) (h.set l (.loop (if jump.isNone then .ready else .done) jump tm ps as_ bd))
  | _ => alg.fail
noncomputable def gsets (t : List GVal) : List Tmp → List GVal → List GVal
  | d :: ds, v :: vs => gsets (t.set d v) ds vs
  | _, _ => t
noncomputable def ground (l : Nat) (args : List GVal) (h : GHeap) (k : GVal → GHeap → A) : A :=
  match h[l]? with
  | some (.loop .ready _ tm ps as_ bd) =>
    if args.length = ps.size then
      gcode P gl alg (some l) as_
        { nrm := fun t h => match h[l]? with
            | some (.loop .ready pd tm' ps' as' bd') =>
              gcode P gl alg (some l) bd
                { nrm := fun _ h => gendRound alg l none k h
                  ext := fun id _ h => gendRound alg l (some (.exit id)) k h
                  ret := fun _ h => gendRound alg l (some .ret) k h } t (h.set l (.loop .busy pd tm' ps' as' bd'))
            | _ => alg.fail
          ext := fun _ _ _ => alg.fail
          ret := fun _ _ => alg.fail } (gsets tm ps.toList args) h
    else alg.fail
  | _ => alg.fail
end

/-! The evaluator. -/
section
variable (P : Program) (gl : Nat → Option Nat)
abbrev Ans := Option (GVal × GHeap)
noncomputable def optAlg (loops : Nat) (call : FuncId → List GVal → GHeap → Ans) (round : Nat → List GVal → GHeap → Ans) : Alg Ans where
  fail := none
  gm g k := match g.opt with
    | some (v, h) => k v h
    | none => none
  nxt o k := match o with
    | some (v, h) => k v h
    | none => none
  req c d a := @ite _ c d a none
  call f args h k := match call f args h with
    | some (r, h') => k r h'
    | none => none
  round l args h k := match round l args h with
    | some (r, h') => k r h'
    | none => none
  loop f := f loops

/-- A call, to a depth; 'n' bounds the rounds too. -/
noncomputable def gcall (loops : Nat) : Nat → FuncId → List GVal → GHeap → Ans
  | 0, _, _, _ => none
  | n + 1, f, args, h =>
    match P.funcs[f]? with
    | some fn => match fn.body with
      | some c => gfunc P gl (optAlg loops (gcall loops n) (groundO n)) fn c args h fun r h => some (r, h)
      | none => none
    | none => none
where
  groundO : Nat → Nat → List GVal → GHeap → Ans
  | 0, _, _, _ => none
  | n + 1, l, args, h => ground P gl (optAlg loops (gcall loops n) (groundO n)) l args h fun r h => some (r, h)
end
end Gh

/- How a ghost state stands for a state of the model: values, objects, heaps; what a step may change. -/
namespace Gh
open Go

structure Loc where
  block : Nat
  base : Nat
  size : Nat
  deriving DecidableEq

abbrev Mp := Nat → Option Loc

def FnR (m : Mp) : Fn → Fn → Prop
  | .func f, g => g = .func f
  | .yield l, g => ∃ L, m l = some L ∧ g = .yield L.block
  | _, _ => False

/-- What is known of a capacity: told exactly, or at least (and what lies behind is there). -/
def capR (op : Option Nat) (cap c o size : Nat) : Prop :=
  match op with
  | none => c = cap
  | some sz => cap ≤ c ∧ o + c * sz ≤ size
theorem capR.le {op : Option Nat} {cap c o size : Nat} (h : capR op cap c o size) : cap ≤ c := by
  cases op with
  | none => exact Nat.le_of_eq h.symm
  | some sz => exact h.1

mutual
def VR (m : Mp) : GVal → Value → Prop
  | .undef, _ => True
  | .bool b, v => v = .bool b
  | .int k n, v => v = .int k n
  | .str l, v => v = .string ⟨l.toArray⟩
  | .ptr none, v => v = .pointer none
  | .ptr (some (id, off)), v => ∃ L, m id = some L ∧ v = .pointer (some ⟨L.block, L.base + off, none⟩)
  | .slice none len cap op, v => v = .slice none len cap ∧ op = none
  | .slice (some (id, off)) len cap op, v =>
    ∃ L c o, m id = some L ∧ v = .slice (some ⟨L.block, o, none⟩) len c ∧ (0 < cap → o = L.base + off) ∧ capR op cap c o L.size
  | .map none, v => v = .map none
  | .map (some id), v => ∃ L, m id = some L ∧ v = .map (some L.block)
  | .func fn f c, v => ∃ fn' f' c', v = .func fn' (List.toArray f') (List.toArray c') ∧ FnR m fn fn' ∧ VRs m f f' ∧ VRs m c c'
  | .nilFunc, v => v = .nilFunc
  | .iface t g, v => ∃ v', v = .iface t v' ∧ VR m g v'
  | .nilIface, v => v = .nilIface
  | .agg l, v => ∃ c, v = .agg (List.toArray c) ∧ VRs m l c
  | .tuple l, v => ∃ c, v = .tuple (List.toArray c) ∧ VRs m l c
def VRs (m : Mp) : List GVal → List Value → Prop
  | [], l => l = []
  | x :: xs, l => ∃ y ys, l = y :: ys ∧ VR m x y ∧ VRs m xs ys
end

/-- 'm'' tells no less than m. -/
def MLe (m m' : Mp) : Prop := ∀ id L, m id = some L → m' id = some L
theorem MLe.refl (m : Mp) : MLe m m := fun _ _ h => h
theorem MLe.trans {a b c : Mp} (h : MLe a b) (h' : MLe b c) : MLe a c := fun id L x => h' id L (h id L x)

theorem FnR.mono {m m' : Mp} (hm : MLe m m') {f g : Fn} (h : FnR m f g) : FnR m' f g := by
  cases f <;> simp only [FnR] at h ⊢
  · exact h
  · obtain ⟨L, h1, h2⟩ := h; exact ⟨L, hm _ _ h1, h2⟩

mutual
theorem VR.mono {m m' : Mp} (hm : MLe m m') : (g : GVal) → (v : Value) → VR m g v → VR m' g v
  | .undef, _, _ => trivial
  | .bool _, _, h => h
  | .int _ _, _, h => h
  | .str _, _, h => h
  | .ptr none, _, h => h
  | .ptr (some (_, _)), _, ⟨L, h1, h2⟩ => ⟨L, hm _ _ h1, h2⟩
  | .slice none _ _ _, _, h => h
  | .slice (some (_, _)) _ _ _, _, ⟨L, c, o, h1, h2⟩ => ⟨L, c, o, hm _ _ h1, h2⟩
  | .map none, _, h => h
  | .map (some _), _, ⟨L, h1, h2⟩ => ⟨L, hm _ _ h1, h2⟩
  | .func _ f c, _, ⟨fn', f', c', h1, h2, h3, h4⟩ => ⟨fn', f', c', h1, h2.mono hm, VRs.mono hm f f' h3, VRs.mono hm c c' h4⟩
  | .nilFunc, _, h => h
  | .iface _ g, _, ⟨v', h1, h2⟩ => ⟨v', h1, VR.mono hm g v' h2⟩
  | .nilIface, _, h => h
  | .agg l, _, ⟨c, h1, h2⟩ => ⟨c, h1, VRs.mono hm l c h2⟩
  | .tuple l, _, ⟨c, h1, h2⟩ => ⟨c, h1, VRs.mono hm l c h2⟩
theorem VRs.mono {m m' : Mp} (hm : MLe m m') : (g : List GVal) → (v : List Value) → VRs m g v → VRs m' g v
  | [], _, h => h
  | x :: xs, _, ⟨y, ys, h1, h2, h3⟩ => ⟨y, ys, h1, VR.mono hm x y h2, VRs.mono hm xs ys h3⟩
end

theorem VRs_nil {m : Mp} {l : List Value} : VRs m [] l ↔ l = [] := Iff.rfl
theorem VRs_cons {m : Mp} {x : GVal} {xs : List GVal} {l : List Value} : VRs m (x :: xs) l ↔ ∃ y ys, l = y :: ys ∧ VR m x y ∧ VRs m xs ys := Iff.rfl
theorem VRs_cons' {m : Mp} {x : GVal} {xs : List GVal} {y : Value} {ys : List Value} : VRs m (x :: xs) (y :: ys) ↔ VR m x y ∧ VRs m xs ys := by
  rw [VRs_cons]
  constructor
  · rintro ⟨_, _, h, h1, h2⟩; cases h; exact ⟨h1, h2⟩
  · rintro ⟨h1, h2⟩; exact ⟨_, _, rfl, h1, h2⟩
theorem VRs.length {m : Mp} : {g : List GVal} → {v : List Value} → VRs m g v → v.length = g.length
  | [], _, h => by cases h; rfl
  | _ :: xs, _, ⟨_, _, h1, _, h3⟩ => by cases h1; simp [VRs.length h3]
theorem VRs.get {m : Mp} : {g : List GVal} → {v : List Value} → VRs m g v → ∀ {i : Nat} {x : GVal}, g[i]? = some x → ∃ y, v[i]? = some y ∧ VR m x y
  | [], _, _, i, x, hx => by simp at hx
  | a :: as', _, ⟨b, bs, h1, h2, h3⟩, i, x, hx => by
    cases h1
    cases i with
    | zero => simp at hx; cases hx; exact ⟨b, rfl, h2⟩
    | succ i => simp at hx ⊢; exact VRs.get h3 hx
theorem VRs_of {m : Mp} : {g : List GVal} → {v : List Value} → v.length = g.length → (∀ (i : Nat) (x : GVal) (y : Value), g[i]? = some x → v[i]? = some y → VR m x y) → VRs m g v
  | [], v, h, _ => by simpa [VRs] using h
  | a :: as', [], h, _ => by simp at h
  | a :: as', b :: bs, h, hh => by
    refine VRs_cons'.2 ⟨hh 0 a b rfl rfl, VRs_of (by simpa using h) fun i x y hx hy => hh (i + 1) x y (by simpa using hx) (by simpa using hy)⟩
theorem VRs_append {m : Mp} {a b : List GVal} {c d : List Value} (h : VRs m a c) (h' : VRs m b d) : VRs m (a ++ b) (c ++ d) := by
  induction a generalizing c with
  | nil => cases h; exact h'
  | cons x xs ih =>
    obtain ⟨y, ys, rfl, h1, h2⟩ := h
    exact ⟨y, ys ++ d, rfl, h1, ih h2⟩
theorem VRs_take {m : Mp} {a : List GVal} {c : List Value} (n : Nat) (h : VRs m a c) : VRs m (a.take n) (c.take n) := by
  induction a generalizing c n with
  | nil => cases h; simp [VRs]
  | cons x xs ih =>
    obtain ⟨y, ys, rfl, h1, h2⟩ := h
    cases n with
    | zero => simp [VRs]
    | succ n => exact ⟨y, ys.take n, rfl, h1, ih n h2⟩
theorem VRs_drop {m : Mp} {a : List GVal} {c : List Value} (n : Nat) (h : VRs m a c) : VRs m (a.drop n) (c.drop n) := by
  induction a generalizing c n with
  | nil => cases h; simp [VRs]
  | cons x xs ih =>
    obtain ⟨y, ys, rfl, h1, h2⟩ := h
    cases n with
    | zero => exact ⟨y, ys, rfl, h1, h2⟩
    | succ n => exact ih n h2
theorem VRs_set {m : Mp} {a : List GVal} {c : List Value} (n : Nat) {x : GVal} {y : Value} (h : VRs m a c) (hx : VR m x y) : VRs m (a.set n x) (c.set n y) := by
  induction a generalizing c n with
  | nil => cases h; simp [VRs]
  | cons z zs ih =>
    obtain ⟨y', ys, rfl, h1, h2⟩ := h
    cases n with
    | zero => exact ⟨y, ys, rfl, hx, h2⟩
    | succ n => exact ⟨y', ys.set n y, rfl, h1, ih n h2⟩
theorem VRs_replicate {m : Mp} {x : GVal} {y : Value} (n : Nat) (hx : VR m x y) : VRs m (List.replicate n x) (List.replicate n y) := by
  induction n with
  | zero => rfl
  | succ n ih => exact ⟨y, _, rfl, hx, ih⟩

/-! Objects. -/
def modeOk (mode : CM) (fr : Nat × Nat) (n : Nat) : Prop :=
  match mode with
  | .rw => fr.1 = fr.2
  | .sb => fr.1 = fr.2 ∨ n ≤ fr.1
  | .ro => True

def ERel (m : Mp) : List (GVal × GVal) → List MapEntry → Prop
  | [], l => l = []
  | (k, v) :: es, l => ∃ e rest, l = e :: rest ∧ VR m k e.key ∧ VR m v e.val ∧ ERel m es rest

def ORel (m : Mp) (L : Loc) : GObj → Obj → Prop
  | .dead, _ => True
  | .cells cs mode, o => ∃ c elem fr, o = .cells c elem fr ∧ c.size = L.size ∧ L.base + cs.length ≤ c.size ∧
      (∀ (i : Nat) (g : GVal), cs[i]? = some g → ∃ v, c[L.base + i]? = some v ∧ VR m g v) ∧ modeOk mode fr c.size
  | .map es _, o => ∃ es' clock, o = .map es' clock ∧ ERel m es es'.toList
  | .siter s pos, o => o = .stringIter ⟨s.toArray⟩ pos ∧ L.base = 0
  | .loop st pd tm ps as_ bd, o => ∃ l : Go.Loop, o = .loop l ∧ l.state = st ∧ l.pending = pd ∧ VRs m tm l.tmps.toList ∧ l.params = ps ∧ l.assign = as_ ∧ l.body = bd

theorem ERel.mono {m m' : Mp} (hm : MLe m m') : {g : List (GVal × GVal)} → {v : List MapEntry} → ERel m g v → ERel m' g v
  | [], _, h => h
  | (_, _) :: _, _, ⟨e, rest, h1, h2, h3, h4⟩ => ⟨e, rest, h1, VR.mono hm _ _ h2, VR.mono hm _ _ h3, ERel.mono hm h4⟩
theorem ORel.mono {m m' : Mp} (hm : MLe m m') {L : Loc} {g : GObj} {o : Obj} (h : ORel m L g o) : ORel m' L g o := by
  cases g with
  | dead => trivial
  | cells cs mode =>
    obtain ⟨c, e, fr, h1, h2, h3, h4, h5⟩ := h
    exact ⟨c, e, fr, h1, h2, h3, fun i g hg => let ⟨v, a, b⟩ := h4 i g hg; ⟨v, a, VR.mono hm _ _ b⟩, h5⟩
  | map es ro => obtain ⟨es', cl, h1, h2⟩ := h; exact ⟨es', cl, h1, h2.mono hm⟩
  | siter s pos => exact h
  | loop st pd tm ps as_ bd => obtain ⟨l, h1, h2, h3, h4, h5⟩ := h; exact ⟨l, h1, h2, h3, VRs.mono hm _ _ h4, h5⟩

def GObj.wr : GObj → Bool
  | .dead => false
  | .cells _ mode => mode != .ro
  | .map _ ro => !ro
  | _ => true
def GObj.live : GObj → Bool
  | .dead => false
  | _ => true
theorem GObj.live_of_wr {o : GObj} (h : o.wr = true) : o.live = true := by cases o <;> simp_all [GObj.wr, GObj.live]

structure Rep (gl : Nat → Option Nat) (m : Mp) (h : GHeap) (w : World) : Prop where
  dom : ∀ id L, m id = some L → id < h.length
  here : ∀ id L, m id = some L → L.block < w.heap.size
  rel : ∀ id L o, m id = some L → h[id]? = some o → ∃ o', w.heap[L.block]? = some o' ∧ ORel m L o o'
  inj : ∀ i j L L' a b, m i = some L → m j = some L' → h[i]? = some a → h[j]? = some b → a.wr = true → b.live = true → L.block = L'.block → i = j
  glob : ∀ g id, gl g = some id → ∃ L, m id = some L ∧ L.block = g ∧ L.base = 0

structure Ext (m : Mp) (h : GHeap) (w : World) (m' : Mp) (h' : GHeap) (w' : World) : Prop where
  size : w.heap.size ≤ w'.heap.size
  os : w'.os = w.os
  out : w'.output = w.output
  len : h.length ≤ h'.length
  mext : ∀ id, id < h.length → m' id = m id
  new : ∀ (id : Nat) (L : Loc), m' id = some L → id < h.length ∨ w.heap.size ≤ L.block ∨ ∃ (i : Nat) (Li : Loc) (o : GObj), m i = some Li ∧ h[i]? = some o ∧ o.wr = true ∧ Li.block = L.block
  keep : ∀ b : Nat, b < w.heap.size → (∀ (i : Nat) (L : Loc) (o : GObj), m i = some L → h[i]? = some o → o.wr = true → L.block ≠ b) → w'.heap[b]? = w.heap[b]?
  stay : ∀ (id : Nat) (o : GObj), h[id]? = some o → o.wr = false → h'[id]? = some o
  virt : ∀ id : Nat, id < h.length → m id = none → h'[id]? = h[id]?

theorem Ext.refl (m : Mp) (h : GHeap) (w : World) (hd : ∀ id L, m id = some L → id < h.length) : Ext m h w m h w where
  size := Nat.le_refl _
  os := rfl
  out := rfl
  len := Nat.le_refl _
  mext := fun _ _ => rfl
  new := fun id L hL => .inl (hd id L hL)
  keep := fun _ _ _ => rfl
  stay := fun _ _ h _ => h
  virt := fun _ _ _ => rfl
theorem Ext.mle {m : Mp} {h : GHeap} {w : World} {m' : Mp} {h' : GHeap} {w' : World} (e : Ext m h w m' h' w') (hd : ∀ id L, m id = some L → id < h.length) : MLe m m' :=
  fun id L hL => by rw [e.mext id (hd id L hL)]; exact hL

theorem Ext.trans {m₀ m₁ m₂ : Mp} {h₀ h₁ h₂ : GHeap} {w₀ w₁ w₂ : World} (a : Ext m₀ h₀ w₀ m₁ h₁ w₁) (b : Ext m₁ h₁ w₁ m₂ h₂ w₂) : Ext m₀ h₀ w₀ m₂ h₂ w₂ := by
  -- what may be written in the middle state, told by the first state
  have mid : ∀ (i : Nat) (L : Loc) (o : GObj), m₁ i = some L → h₁[i]? = some o → o.wr = true →
      w₀.heap.size ≤ L.block ∨ ∃ i' L' o', m₀ i' = some L' ∧ h₀[i']? = some o' ∧ o'.wr = true ∧ L'.block = L.block := by
    intro i L o hm ho hw
    rcases a.new i L hm with hi | hi | hi
    · have hi' := hi
      rw [a.mext i hi] at hm
      obtain ⟨o₀, ho₀⟩ : ∃ o₀, h₀[i]? = some o₀ := ⟨h₀[i], List.getElem?_eq_getElem hi⟩
      refine .inr ⟨i, L, o₀, hm, ho₀, ?_, rfl⟩
      cases hw₀ : o₀.wr with
      | true => rfl
      | false =>
        have := a.stay i o₀ ho₀ hw₀
        rw [this] at ho; cases ho; rw [hw₀] at hw; exact hw
    · exact .inl hi
    · exact .inr hi
  refine ⟨Nat.le_trans a.size b.size, b.os.trans a.os, b.out.trans a.out, Nat.le_trans a.len b.len, ?_, ?_, ?_, ?_, ?_⟩
  · intro id hid
    rw [b.mext id (Nat.lt_of_lt_of_le hid a.len), a.mext id hid]
  · intro id L hL
    rcases b.new id L hL with hi | hi | ⟨i, Li, o, h1, h2, h3, h4⟩
    · rw [b.mext id hi] at hL
      exact a.new id L hL
    · exact .inr (.inl (Nat.le_trans a.size hi))
    · rcases mid i Li o h1 h2 h3 with hh | ⟨i', L', o', g1, g2, g3, g4⟩
      · exact .inr (.inl (h4 ▸ hh))
      · exact .inr (.inr ⟨i', L', o', g1, g2, g3, g4.trans h4⟩)
  · intro bl hb hno
    rw [b.keep bl (Nat.lt_of_lt_of_le hb a.size) ?_, a.keep bl hb hno]
    intro i L o h1 h2 h3 h4
    rcases mid i L o h1 h2 h3 with hh | ⟨i', L', o', g1, g2, g3, g4⟩
    · omega
    · exact hno i' L' o' g1 g2 g3 (g4.trans h4)
  · intro id o h1 h2
    exact b.stay id o (a.stay id o h1 h2) h2
  · intro id hid hn
    rw [b.virt id (Nat.lt_of_lt_of_le hid a.len) (by rw [a.mext id hid]; exact hn), a.virt id hid hn]

/-! What the model's little words come to. -/
section run
variable {P : Program} {w : World}
theorem run_underlying {t : TypeId} {d : TypeDesc} (h : P.underlying t = some d) : (Go.underlying t).run P w = .ok d w := by
  simp [Go.underlying, h]
theorem run_typeInfo {t : TypeId} {i : TypeInfo} (h : P.info? t = some i) : (Go.typeInfo t).run P w = .ok i w := by
  simp [Go.typeInfo, h]
theorem run_sizeOf {t : TypeId} {n : Nat} (h : tsize P t = some n) : (Go.sizeOf t).run P w = .ok n w := by
  simp only [tsize, Option.map_eq_some_iff] at h
  obtain ⟨i, hi, rfl⟩ := h
  simp [Go.sizeOf, run_typeInfo hi]
theorem run_bytes {t : TypeId} {n : Nat} (h : tbytes P t = some n) : ∃ i, P.info? t = some i ∧ i.bytes = n := by
  simpa only [tbytes, Option.map_eq_some_iff] using h
theorem run_isAgg {t : TypeId} {b : Bool} (h : tagg P t = some b) : (Go.isAgg t).run P w = .ok b w := by
  unfold tagg at h
  split at h <;> simp at h <;> subst h <;> rename_i hu
  · simp [Go.isAgg, run_underlying hu]
  · simp [Go.isAgg, run_underlying hu]
  · rename_i d h1 h2
    simp only [Go.isAgg, Sem.run_bind, run_underlying hu, Result.andThen_ok]
    rfl
theorem ofCell_VR {m : Mp} {v : Value} {g : GVal} (h : ofCell v = some g) : VR m g v := by
  unfold ofCell at h
  split at h <;> simp at h <;> try (subst h; simp [VR])
  · obtain ⟨⟨h1, h2⟩, rfl⟩ := h
    subst h1; subst h2
    exact ⟨.func _, [], [], rfl, rfl, rfl, rfl⟩
theorem ofCells_VRs {m : Mp} : {vs : List Value} → {gs : List GVal} → ofCells vs = some gs → VRs m gs vs
  | [], gs, h => by simp [ofCells] at h; subst h; rfl
  | v :: vs, gs, h => by
    unfold ofCells at h
    split at h
    · rename_i a l h1 h2
      simp at h; subst h
      exact ⟨v, vs, rfl, ofCell_VR h1, ofCells_VRs h2⟩
    · simp at h
theorem ofValue_VR {m : Mp} {v : Value} {g : GVal} (h : ofValue v = some g) : VR m g v := by
  unfold ofValue at h
  split at h
  · simp only [Option.map_eq_some_iff] at h
    obtain ⟨l, hl, rfl⟩ := h
    exact ⟨_, by simp, ofCells_VRs hl⟩
  · exact ofCell_VR h
theorem ofCell_isCell {v : Value} {g : GVal} (h : ofCell v = some g) : g.isCell = true := by
  unfold ofCell at h
  split at h <;> simp at h <;> first | (subst h; rfl) | (obtain ⟨_, rfl⟩ := h; rfl)
theorem ofCells_allCell : {vs : List Value} → {gs : List GVal} → ofCells vs = some gs → allCell gs = true
  | [], gs, h => by simp [ofCells] at h; subst h; rfl
  | v :: vs, gs, h => by
    unfold ofCells at h
    split at h
    · rename_i a l h1 h2
      simp at h; subst h
      simp [allCell, ofCell_isCell h1, ofCells_allCell h2]
    · simp at h
theorem ofValue_cells {v : Value} {g : GVal} (h : ofValue v = some g) : g.told = true ∧ allCell g.cells = true := by
  unfold ofValue at h
  split at h
  · simp only [Option.map_eq_some_iff] at h
    obtain ⟨l, hl, rfl⟩ := h
    exact ⟨rfl, ofCells_allCell hl⟩
  · have := ofCell_isCell h
    cases g <;> simp_all [GVal.isCell, GVal.told, GVal.cells, allCell]
theorem run_zero {t : TypeId} {g : GVal} (h : tzero P t = some g) :
    g.told = true ∧ allCell g.cells = true ∧ ∃ v, (∀ w, (Go.zeroValue t).run P w = .ok v w) ∧ ∀ m, VR m g v := by
  unfold tzero at h
  cases hi : P.info? t with
  | none => simp [hi] at h
  | some i =>
    cases hz : i.zero with
    | none => simp [hi, hz] at h
    | some v =>
      simp [hi, hz] at h
      exact ⟨(ofValue_cells h).1, (ofValue_cells h).2, v, fun w => by simp [Go.zeroValue, run_typeInfo hi, hz], fun m => ofValue_VR h⟩
theorem VR.cells {m : Mp} {g : GVal} {v : Value} (h : VR m g v) (hg : g.told = true) : VRs m g.cells v.cells.toList := by
  cases g with
  | undef => simp [GVal.told] at hg
  | agg l => obtain ⟨c, rfl, hc⟩ := h; simpa [GVal.cells, Value.cells] using hc
  | iface t g => obtain ⟨v', rfl, hv⟩ := h; exact ⟨_, [], rfl, ⟨_, rfl, hv⟩, rfl⟩
  | tuple l => obtain ⟨c, rfl, hc⟩ := h; exact ⟨_, [], rfl, ⟨c, rfl, hc⟩, rfl⟩
  | func fn f c => obtain ⟨fn', f', c', rfl, hv⟩ := h; exact ⟨_, [], rfl, ⟨fn', f', c', rfl, hv⟩, rfl⟩
  | bool b => cases h; exact ⟨_, [], rfl, rfl, rfl⟩
  | int k n => cases h; exact ⟨_, [], rfl, rfl, rfl⟩
  | str s => cases h; exact ⟨_, [], rfl, rfl, rfl⟩
  | nilFunc => cases h; exact ⟨_, [], rfl, rfl, rfl⟩
  | nilIface => cases h; exact ⟨_, [], rfl, rfl, rfl⟩
  | ptr a =>
    cases a with
    | none => cases h; exact ⟨_, [], rfl, rfl, rfl⟩
    | some a => obtain ⟨L, h1, rfl⟩ := h; exact ⟨_, [], rfl, ⟨L, h1, rfl⟩, rfl⟩
  | map a =>
    cases a with
    | none => cases h; exact ⟨_, [], rfl, rfl, rfl⟩
    | some a => obtain ⟨L, h1, rfl⟩ := h; exact ⟨_, [], rfl, ⟨L, h1, rfl⟩, rfl⟩
  | slice a len cap op =>
    cases a with
    | none => obtain ⟨rfl, h2⟩ := h; exact ⟨_, [], rfl, ⟨rfl, h2⟩, rfl⟩
    | some a => obtain ⟨L, c, o, h1, rfl, h3⟩ := h; exact ⟨_, [], rfl, ⟨L, c, o, h1, rfl, h3⟩, rfl⟩
theorem VR.oneCell {m : Mp} {g : GVal} {v : Value} (h : VR m g v) (hg : g.isCell = true) : v.oneCell' = true := by
  have hc : g.cells = [g] := by cases g <;> simp_all [GVal.isCell, GVal.cells]
  cases g with
  | undef => simp [GVal.isCell] at hg
  | agg l => simp [GVal.isCell] at hg
  | tuple l => simp [GVal.isCell] at hg
  | iface t g => obtain ⟨v', rfl, hv⟩ := h; rfl
  | func fn f c => obtain ⟨fn', f', c', rfl, hv⟩ := h; rfl
  | ptr a =>
    cases a with
    | none => cases h; rfl
    | some a => obtain ⟨L, h1, rfl⟩ := h; rfl
  | map a =>
    cases a with
    | none => cases h; rfl
    | some a => obtain ⟨L, h1, rfl⟩ := h; rfl
  | slice a len cap op =>
    cases a with
    | none => obtain ⟨rfl, h2⟩ := h; rfl
    | some a => obtain ⟨L, c, o, h1, rfl, h3⟩ := h; rfl
  | _ => cases h; rfl
end run

/-! Loading. -/
theorem Addr.add_none (b o i : Nat) : (Addr.mk b o none).add i = ⟨b, o + i, none⟩ := by
  unfold Addr.add; split
  · rename_i h; subst h; rfl
  · rfl
section mem
variable {P : Program} {gl : Nat → Option Nat} {m : Mp} {h : GHeap} {w : World}
theorem Rep.cells (R : Rep gl m h w) {id : Nat} {L : Loc} {cs : List GVal} {mode : CM} (hm : m id = some L) (ho : h[id]? = some (.cells cs mode)) :
    ∃ c elem fr, w.heap[L.block]? = some (.cells c elem fr) ∧ c.size = L.size ∧ L.base + cs.length ≤ c.size ∧
      (∀ (i : Nat) (g : GVal), cs[i]? = some g → ∃ v, c[L.base + i]? = some v ∧ VR m g v) ∧ modeOk mode fr c.size := by
  obtain ⟨o', h1, c, e, fr, rfl, h2, h3, h4, h5⟩ := R.rel id L _ hm ho
  exact ⟨c, e, fr, h1, h2, h3, h4, h5⟩
theorem gload_cell (R : Rep gl m h w) {id off : Nat} {L : Loc} {g : GVal} (hm : m id = some L) (hl : gload h id off = some g) :
    ∃ v, w.cell? ⟨L.block, L.base + off, none⟩ = some v ∧ VR m g v := by
  unfold gload at hl
  split at hl
  · rename_i cs mode ho
    obtain ⟨c, e, fr, h1, h2, h3, h4, h5⟩ := R.cells hm ho
    obtain ⟨v, h6, h7⟩ := h4 off g hl
    exact ⟨v, by simp [World.cell?, h1, h6], h7⟩
  · simp at hl
theorem run_load_cell {P : Program} {w : World} {a : Addr} {v : Value} (h : w.cell? a = some v) : (Go.load a).run P w = .ok v w := by
  rw [run_load, h]
theorem run_loadCellsFrom {P : Program} {w : World} {b o : Nat} : ∀ (vs : List Value) (i : Nat) (acc : Array Value),
    (∀ (j : Nat) (v : Value), vs[j]? = some v → w.cell? ⟨b, o + i + j, none⟩ = some v) →
    (Go.loadCellsFrom ⟨b, o, none⟩ i vs.length acc).run P w = .ok (acc ++ vs.toArray) w := by
  intro vs
  induction vs with
  | nil => intro i acc _; simp [Go.loadCellsFrom]
  | cons v vs ih =>
    intro i acc hh
    have h0 := hh 0 v rfl
    simp only [List.length_cons, Go.loadCellsFrom, Sem.run_bind, Addr.add_none]
    rw [run_load_cell (by simpa using h0), Result.andThen_ok, ih (i + 1) (acc.push v) (fun j v' hj => by
      have := hh (j + 1) v' (by simpa using hj)
      rw [show o + (i + 1) + j = o + i + (j + 1) from by omega]; exact this)]
    congr 1
    apply Array.ext'
    simp
theorem run_loadCells {P : Program} {w : World} {b o n : Nat} {vs : List Value} (hn : vs.length = n)
    (h : ∀ (j : Nat) (v : Value), vs[j]? = some v → w.cell? ⟨b, o + j, none⟩ = some v) :
    (Go.loadCells ⟨b, o, none⟩ n).run P w = .ok vs.toArray w := by
  subst hn
  rw [Go.loadCells, run_loadCellsFrom vs 0 #[] (by simpa using h)]
  simp
theorem gloads_cells (R : Rep gl m h w) {id off n : Nat} {L : Loc} {gs : List GVal} (hm : m id = some L) (hl : gloads h id off n = some gs) :
    ∃ vs, (∀ w' : World, w'.heap = w.heap → (Go.loadCells ⟨L.block, L.base + off, none⟩ n).run P w' = .ok vs.toArray w') ∧ VRs m gs vs ∧ vs.length = n := by
  unfold gloads at hl
  split at hl
  · rename_i cs mode ho
    split at hl
    · rename_i hle
      simp at hl; subst hl
      obtain ⟨c, e, fr, h1, h2, h3, h4, h5⟩ := R.cells hm ho
      have hv : ∀ i, i < n → ∃ v, c[L.base + (off + i)]? = some v ∧ ∀ g, cs[off + i]? = some g → VR m g v := by
        intro i hi
        obtain ⟨v, h6, h7⟩ := h4 (off + i) _ (List.getElem?_eq_getElem (by omega))
        exact ⟨v, h6, fun g hg => by rw [List.getElem?_eq_getElem (by omega)] at hg; cases hg; exact h7⟩
      let vs := (List.range n).map fun i => c.getD (L.base + (off + i)) undef
      have hlen : vs.length = n := by simp [vs]
      refine ⟨vs, fun w' hw' => run_loadCells hlen ?_, VRs_of (by simp [vs]; omega) ?_, hlen⟩
      · intro j v hj
        have hjn : j < n := by
          rcases Nat.lt_or_ge j n with hh | hh
          · exact hh
          · rw [List.getElem?_eq_none (by omega)] at hj; cases hj
        obtain ⟨v', h6, _⟩ := hv j hjn
        simp [vs, hjn] at hj
        rw [show L.base + off + j = L.base + (off + j) from by omega]
        rw [h6] at hj; simp at hj
        simp [World.cell?, hw', h1, h6, hj]
      · intro i x y hx hy
        have hin : i < n := by
          rcases Nat.lt_or_ge i n with hh | hh
          · exact hh
          · rw [List.getElem?_eq_none (by omega)] at hy; cases hy
        obtain ⟨v', h6, h7⟩ := hv i hin
        simp [vs, hin, h6] at hy
        subst hy
        rw [List.getElem?_take_of_lt hin, List.getElem?_drop] at hx
        exact h7 x hx
    · simp at hl
  · simp at hl
end mem
end Gh

/- The operations that touch no memory: the model does what the ghost does. -/
namespace Gh
open Go

theorem GM.opt_map {X Y : Type} (f : X → Y) (g : GM X) : (GM.map f g).opt = g.opt.map f := by
  induction g with
  | ret x => rfl
  | fail => rfl
  | req c d k ih => simp only [GM.map, GM.opt, ih]; split <;> rfl
  | dst kd o k ih => cases o <;> simp only [GM.map, GM.opt, ih] <;> first | rfl | (split <;> rfl)
  | eff kd o k ih => cases o <;> simp only [GM.map, GM.opt, ih] <;> first | rfl | (split <;> rfl)
  | sto o k ih => cases o <;> simp only [GM.map, GM.opt, ih] <;> rfl

def OpRuns (P : Program) (ρ : Operand → Value) (o : Oper) (w : World) (v : Value) (w' : World) : Prop :=
  (execOp ρ o).run P w = .ok (.value v) w' ∨ ((execOp ρ o).run P w = .ok .skip w' ∧ v = undef)

def EvR (m : Mp) (ev : Operand → GVal) (ρ : Operand → Value) : Prop := ∀ x, VR m (ev x) (ρ x)

/-- What a small word of the model comes to, in every world, without touching it. -/
def Still (P : Program) (s : Sem Value) (v : Value) : Prop := ∀ w, s.run P w = .ok v w

section
variable {P : Program} {m : Mp}

/-! Integers and strings. -/
theorem gbits_sound {op : BinOp} {k : IntKind} {x y n : Int} (h : gbits op k x y = some n) : Still P (Op.intBits op k x y) (.int k n) := by
  intro w
  cases op <;> simp [gbits] at h <;> subst h <;> simp [Op.intBits]

theorem gintOp_sound {op : BinOp} {t : TypeId} {k : IntKind} {x y : Int} {g : GVal} (hop : op ≠ .shl) (hop' : op ≠ .shr) (h : (gintOp op k x y).opt = some g) :
    ∃ v, VR m g v ∧ Still P (binOp op t (.int k x) (.int k y)) v := by
  cases op <;> simp [gintOp, GM.opt, gbits] at h hop hop' <;>
    first
    | (subst h; exact ⟨_, rfl, fun w => by simp [binOp, Op.intArith, Op.intCmp, Op.intBits]⟩)
    | (obtain ⟨h0, rfl⟩ := h; exact ⟨_, rfl, fun w => by simp [binOp, Op.intDiv, h0]⟩)

theorem toList_mk (l : List UInt8) : (ByteArray.mk l.toArray).toList = l := by rw [ByteArray.toList_eq]
theorem size_mk (l : List UInt8) : (ByteArray.mk l.toArray).size = l.length := by simp [ByteArray.size]
theorem append_mk (a b : List UInt8) : ByteArray.mk a.toArray ++ ByteArray.mk b.toArray = ByteArray.mk (a ++ b).toArray := by
  apply ByteArray.ext
  simp

theorem gstrOp_sound {op : BinOp} {t : TypeId} {x y : List UInt8} {g : GVal} (h : (gstrOp op x y).opt = some g) :
    ∃ v, VR m g v ∧ Still P (binOp op t (.string ⟨x.toArray⟩) (.string ⟨y.toArray⟩)) v := by
  by_cases hop : op = .add
  · subst hop
    simp only [gstrOp, GM.opt] at h
    split at h
    · rename_i h0
      cases h
      refine ⟨_, rfl, fun w => ?_⟩
      have h1 : ¬ ((x.length + y.length : Nat) : Int) > IntKind.i64.max := by
        have : IntKind.i64.max = 9223372036854775807 := by decide
        rw [this]; omega
      simp only [binOp, Op.stringOp, size_mk, h1, if_false, append_mk]
      rfl
    · cases h
  · cases op <;> simp only [gstrOp, GM.opt, Option.some.injEq, reduceCtorEq, not_true_eq_false] at h hop <;>
      (subst h; exact ⟨_, rfl, fun w => by simp only [binOp, Op.stringOp, toList_mk]; rfl⟩)

theorem gunOp_sound {op : UnOp} {x g : GVal} {v : Value} (hv : VR m x v) (h : (gunOp op x).opt = some g) : ∃ v', VR m g v' ∧ Still P (Op.unary op v) v' := by
  unfold gunOp at h
  split at h
  · cases hv; cases h
    exact ⟨_, rfl, fun w => rfl⟩
  · cases hv
    split at h
    · rename_i r hb
      cases h
      exact ⟨_, rfl, fun w => gbits_sound hb w⟩
    · cases h
  · cases hv; cases h
    exact ⟨_, rfl, fun w => rfl⟩
  · cases h

/-! Building. -/
theorem setMany_VRs {m : Mp} : ∀ (vs : List GVal) (us : List Value) (cs : List GVal) (ds : List Value) (off : Nat), VRs m vs us → VRs m cs ds →
    ∀ j, VRs m (setMany cs (off + j) vs) (((us.zipIdx j).foldl (fun (ds : Array Value) (x : Value × Nat) => ds.setIfInBounds (off + x.2) x.1) ds.toArray).toList) := by
  intro vs
  induction vs with
  | nil => intro us cs ds off h hc j; cases h; simpa [setMany] using hc
  | cons v vs ih =>
    intro us cs ds off h hc j
    obtain ⟨u, us, rfl, h1, h2⟩ := h
    simp only [setMany, List.zipIdx_cons, List.foldl_cons]
    have := ih us (cs.set (off + j) v) (ds.set (off + j) u) off h2 (VRs_set _ hc h1) (j + 1)
    rw [show off + j + 1 = off + (j + 1) from by omega]
    simpa using this

theorem setMany_length : ∀ (vs : List GVal) (cs : List GVal) (off : Nat), (setMany cs off vs).length = cs.length := by
  intro vs
  induction vs with
  | nil => intro cs off; rfl
  | cons v vs ih => intro cs off; simp [setMany, ih]

theorem gfill_sound {m : Mp} (place : Nat → Option (Nat × Nat)) (place' : Nat → Option (Nat × Nat)) : ∀ (ps : List (Nat × GVal)) (qs : List (Nat × Value)) (cs cs' : List GVal) (ds : Array Value),
    allTold (ps.map (·.2)) = true → ps.map (·.1) = qs.map (·.1) → VRs m (ps.map (·.2)) (qs.map (·.2)) → VRs m cs ds.toList → (∀ i x, place i = some x → place' i = some x) → gfill place cs ps = some cs' →
    ∃ ds', Instr.fill place' ds qs = some ds' ∧ VRs m cs' ds'.toList := by
  intro ps
  induction ps with
  | nil =>
    intro qs cs cs' ds _ h1 _ hc hp h
    simp [gfill] at h; subst h
    have : qs = [] := by simpa using h1.symm
    subst this
    exact ⟨ds, rfl, hc⟩
  | cons p ps ih =>
    intro qs cs cs' ds ht h1 h2 hc hp h
    obtain ⟨i, v⟩ := p
    cases qs with
    | nil => simp at h1
    | cons q qs =>
      obtain ⟨j, u⟩ := q
      simp only [List.map_cons, List.cons.injEq] at h1 h2
      obtain ⟨rfl, h1⟩ := h1
      obtain ⟨h3, h4⟩ := VRs_cons'.1 h2
      simp only [List.map_cons, allTold, Bool.and_eq_true] at ht
      have hcl := h3.cells ht.1
      have hlen := hcl.length
      have hdl := hc.length
      simp only [gfill] at h
      cases hpl : place i with
      | none => simp [hpl] at h
      | some x =>
        obtain ⟨off, size⟩ := x
        simp only [hpl] at h
        split at h
        · cases h
        · rename_i hno
          have hsz : u.cells.size = v.cells.length := by simpa using hlen
          have hds : ds.size = cs.length := by simpa using hdl
          obtain ⟨ds', g1, g2⟩ := ih qs _ cs' (u.cells.zipIdx.foldl (fun cs (c, j) => cs.setIfInBounds (off + j) c) ds) ht.2 h1 h4
            (by
              have := setMany_VRs v.cells u.cells.toList cs ds.toList off hcl hc 0
              rw [← Array.foldl_toList, Array.toList_zipIdx]
              simpa using this) hp h
          refine ⟨ds', ?_, g2⟩
          simp only [Instr.fill, hp _ _ hpl]
          rw [if_neg ?_]
          · exact g1
          · simp only [hsz, hds]
            simp only [not_or, Decidable.not_not, Nat.not_lt, Bool.or_eq_true, decide_eq_true_eq, gt_iff_lt] at hno ⊢
            exact hno
end
end Gh

/- The operations that touch no memory, second part: structs, slices, indexes, comparisons. -/
namespace Gh
open Go
section
variable {P : Program} {m : Mp}

theorem run_places (w : World) : ∀ (fs : List Field) (pl : List (Nat × Nat)), gplaces P fs = some pl →
    ((fs.mapM fun f => (do pure (f.offset, ← sizeOf f.type) : Sem (Nat × Nat)))).run P w = .ok pl w := by
  intro fs
  induction fs with
  | nil => intro pl h; simp [gplaces] at h; subst h; rfl
  | cons f fs ih =>
    intro pl h
    unfold gplaces at h
    split at h
    · rename_i s l h1 h2
      cases h
      rw [List.mapM_cons]
      simp only [Sem.run_bind, run_sizeOf h1, Result.andThen_ok, Sem.run_pure, ih _ h2]
    · cases h

theorem gpart_sound {t : TypeId} {cs : List GVal} {ds : List Value} {off : Nat} {g : GVal} (hc : VRs m cs ds) (h : gpart P t cs off = some g) :
    ∃ v, VR m g v ∧ Still P (part t ds.toArray off) v := by
  unfold gpart at h
  split at h
  · rename_i ha
    simp only [Option.map_eq_some_iff] at h
    obtain ⟨n, hn, rfl⟩ := h
    refine ⟨.agg ((ds.drop off).take n).toArray, ⟨_, rfl, VRs_take n (VRs_drop off hc)⟩, fun w => ?_⟩
    simp only [part, Sem.run_bind, run_isAgg ha, Result.andThen_ok, if_true, run_sizeOf hn]
    simp only [Sem.run_pure]
    congr 2
    apply Array.ext'
    simp [List.extract_eq_take_drop]
  · rename_i ha
    obtain ⟨v, h1, h2⟩ := hc.get h
    refine ⟨v, h2, fun w => ?_⟩
    simp only [part, Sem.run_bind, run_isAgg ha, Result.andThen_ok]
    simp [h1]
  · cases h

theorem build_sound {t : TypeId} {ps : List (Nat × GVal)} {qs : List (Nat × Value)} {h h' : GHeap} {g : GVal}
    (ht : allTold (ps.map (·.2)) = true) (h1 : ps.map (·.1) = qs.map (·.1)) (h2 : VRs m (ps.map (·.2)) (qs.map (·.2)))
    (hg : (match tzero P t, P.underlying t with
      | some z, some (.struct fields) =>
        match gplaces P fields.toList with
        | some pl => match gfill (fun i => pl[i]?) z.cells ps with
          | some cs => GM.ret (GVal.agg cs, h)
          | none => GM.fail
        | none => GM.fail
      | some z, some (.array _ e) =>
        match tsize P e with
        | some s => match gfill (fun i => some (i * s, s)) z.cells ps with
          | some cs => GM.ret (GVal.agg cs, h)
          | none => GM.fail
        | none => GM.fail
      | _, _ => GM.fail).opt = some (g, h')) :
    h' = h ∧ ∃ v, VR m g v ∧ Still P (Instr.build t qs.toArray) v := by
  split at hg
  · rename_i z fields hz hu
    obtain ⟨hzt, _, zv, hzrun, hzr⟩ := run_zero hz
    split at hg
    · rename_i pl hpl
      split at hg
      · rename_i cs hf
        cases hg
        obtain ⟨ds', hf', hds⟩ := gfill_sound (fun i => pl[i]?) (fun i => pl.toArray[i]?) ps qs z.cells cs zv.cells ht h1 h2 ((hzr m).cells hzt) (fun i x hx => by simpa using hx) hf
        refine ⟨rfl, .agg ds', ⟨ds'.toList, by simp, hds⟩, fun w => ?_⟩
        simp only [Instr.build, Sem.run_bind, hzrun, Result.andThen_ok, run_underlying hu]
        have hm : (fields.mapM fun f => (do pure (f.offset, ← sizeOf f.type) : Sem (Nat × Nat))).run P w = .ok pl.toArray w := by
          have := run_places w fields.toList pl hpl
          rw [Array.mapM_eq_mapM_toList]
          simp only [Sem.run_map, this, Result.andThen_ok]
        rw [hm, Result.andThen_ok]
        simp only [hf']
        rfl
      · cases hg
    · cases hg
  · rename_i z n e hz hu
    obtain ⟨hzt, _, zv, hzrun, hzr⟩ := run_zero hz
    split at hg
    · rename_i s hs
      split at hg
      · rename_i cs hf
        cases hg
        obtain ⟨ds', hf', hds⟩ := gfill_sound (fun i => some (i * s, s)) (fun i => some (i * s, s)) ps qs z.cells cs zv.cells ht h1 h2 ((hzr m).cells hzt) (fun i x hx => hx) hf
        refine ⟨rfl, .agg ds', ⟨ds'.toList, by simp, hds⟩, fun w => ?_⟩
        simp only [Instr.build, Sem.run_bind, hzrun, Result.andThen_ok, run_underlying hu, run_sizeOf hs, hf']
        rfl
      · cases hg
    · cases hg
  · cases hg

/-! Fields and elements. -/
theorem fieldAddr_sound {s : TypeId} {x g : GVal} {v : Value} {f : Nat} (hv : VR m x v) (h : (gfieldAddr P s x f).opt = some g) :
    ∃ v', VR m g v' ∧ Still P (Instr.fieldAt s v f) v' := by
  unfold gfieldAddr at h
  split at h
  · rename_i fields id off hu
    obtain ⟨L, hL, rfl⟩ := hv
    split at h
    · rename_i fd hfd
      split at h
      · rename_i n hs
        cases h
        refine ⟨_, ⟨L, hL, rfl⟩, fun w => ?_⟩
        simp only [Instr.fieldAt, Sem.run_bind, run_underlying hu, Result.andThen_ok, hfd, Instr.sureAddr, Sem.run_pure, fieldPlace, run_sizeOf hs]
        simp only [Nat.succ_ne_zero, if_false, Sem.run_pure, Result.andThen_ok, Addr.add_none, Nat.add_assoc]
      · cases h
    · cases h
  · cases h

theorem field_sound {t : TypeId} {x g : GVal} {v : Value} {f : Nat} (hv : VR m x v) (h : (gfield P t x f).opt = some g) :
    ∃ v', VR m g v' ∧ Still P (Instr.field t v f) v' := by
  unfold gfield at h
  split at h
  · rename_i fields cs hu
    obtain ⟨c, rfl, hc⟩ := hv
    split at h
    · rename_i fd hfd
      split at h
      · rename_i v hp
        cases h
        obtain ⟨v', h1, h2⟩ := gpart_sound hc hp
        refine ⟨v', h1, fun w => ?_⟩
        simp only [Instr.field, Sem.run_bind, run_underlying hu, Result.andThen_ok, hfd, asAgg, Sem.run_pure, h2 w]
      · cases h
    · cases h
  · cases h

theorem req_opt {X : Type} {c : Prop} {d : Decidable c} {k : GM X} {x : X} (h : (GM.req c d k).opt = some x) : c ∧ k.opt = some x := by
  simp only [GM.opt] at h
  split at h
  · exact ⟨‹_›, h⟩
  · cases h
theorem dst_opt {X : Type} {kd : Kd} {o : Option GVal} {k : GVal → GM X} {x : X} (h : (GM.dst kd o k).opt = some x) : ∃ v, o = some v ∧ (k v).opt = some x := by
  cases o with
  | none => simp [GM.opt] at h
  | some v =>
    simp only [GM.opt] at h
    split at h
    · exact ⟨v, rfl, h⟩
    · cases h

theorem indexAddr_sound {t : TypeId} {x i g : GVal} {v u : Value} (hv : VR m x v) (hi : VR m i u) (h : (gindexAddr P t x i).opt = some g) :
    ∃ v', VR m g v' ∧ Still P (Instr.indexAt t v u) v' := by
  unfold gindexAddr at h
  split at h
  · rename_i n e id off k i hu
    obtain ⟨L, hL, rfl⟩ := hv
    cases hi
    split at h
    · rename_i s hs
      obtain ⟨⟨h0, h1⟩, h⟩ := req_opt h
      cases h
      refine ⟨_, ⟨L, hL, rfl⟩, fun w => ?_⟩
      simp only [Instr.indexAt, asIntOf, Sem.run_bind, Sem.run_pure, Result.andThen_ok, run_underlying hu, Instr.sureAddr]
      rw [if_pos ⟨h0, h1⟩]
      simp only [Sem.run_bind, run_sizeOf hs, Result.andThen_ok, Sem.run_pure, Addr.add_none, Nat.add_assoc]
    · cases h
  · rename_i e a len cap op k i hu
    cases hi
    split at h
    · rename_i s hs
      obtain ⟨⟨h0, h1, h2⟩, h⟩ := req_opt h
      obtain ⟨g', hg', h⟩ := dst_opt h
      cases h
      cases a with
      | none => cases hg'
      | some p =>
      obtain ⟨id, off⟩ := p
      cases hg'
      have : ∃ L c, m id = some L ∧ v = .slice (some ⟨L.block, L.base + off, none⟩) len c := by
        obtain ⟨L, c, o, hL, rfl, ho, _⟩ := hv
        exact ⟨L, c, hL, by rw [ho (by omega)]⟩
      obtain ⟨L, c, hL, rfl⟩ := this
      refine ⟨_, ⟨L, hL, rfl⟩, fun w => ?_⟩
      simp only [Instr.indexAt, asIntOf, Sem.run_bind, Sem.run_pure, Result.andThen_ok, run_underlying hu]
      rw [if_pos ⟨h0, h1⟩]
      simp only [Sem.run_bind, run_sizeOf hs, Result.andThen_ok, Sem.run_pure, Addr.add_none, Nat.add_assoc]
    · cases h
  · cases h

theorem index_sound {t : TypeId} {x i g : GVal} {v u : Value} (hv : VR m x v) (hi : VR m i u) (h : (gindex P t x i).opt = some g) :
    ∃ v', VR m g v' ∧ Still P (Instr.index t v u) v' := by
  unfold gindex at h
  split at h
  · rename_i n e cs k i hu
    obtain ⟨c, rfl, hc⟩ := hv
    cases hi
    split at h
    · rename_i s hs
      obtain ⟨⟨h0, h1⟩, h⟩ := req_opt h
      obtain ⟨p, hp, h⟩ := dst_opt h
      cases h
      obtain ⟨v', h2, h3⟩ := gpart_sound hc hp
      refine ⟨v', h2, fun w => ?_⟩
      simp only [Instr.index, asIntOf, Sem.run_bind, Sem.run_pure, Result.andThen_ok, run_underlying hu]
      rw [if_pos ⟨h0, h1⟩]
      simp only [Sem.run_bind, run_sizeOf hs, Result.andThen_ok, h3 w]
    · cases h
  · rename_i s k i hu
    cases hv; cases hi
    obtain ⟨⟨h0, h1⟩, h⟩ := req_opt h
    cases h
    have hlt : i.toNat < s.length := by omega
    refine ⟨_, rfl, fun w => ?_⟩
    simp only [Instr.index, asIntOf, Sem.run_bind, Sem.run_pure, Result.andThen_ok, run_underlying hu]
    rw [if_pos h0]
    have : (ByteArray.mk s.toArray)[i.toNat]? = some s[i.toNat] := by
      rw [getElem?_pos _ _ (by simpa [ByteArray.size] using hlt)]
      simp [ByteArray.getElem_eq_getElem_data]
    rw [this]
    simp [List.getD_eq_getElem?_getD, hlt]
  · cases h

theorem extract_sound {x : GVal} {v : Value} {i : Nat} {vs : List GVal} {g : GVal} (hv : VR m x v) (hx : x = .tuple vs) (h : vs[i]? = some g) :
    ∃ v', VR m g v' ∧ Still P (Instr.extract v i) v' := by
  subst hx
  obtain ⟨c, rfl, hc⟩ := hv
  obtain ⟨v', h1, h2⟩ := hc.get h
  exact ⟨v', h2, fun w => by simp [Instr.extract, h1]⟩

/-! Slices. -/
def optR (m : Mp) : Option GVal → Option Value → Prop
  | none, none => True
  | some g, some v => VR m g v
  | _, _ => False

theorem sliceBound_run {k : IntKind} {n : Int} {y : Nat} {code : BoundsCode} {w : World} (h : 0 ≤ n ∧ n ≤ (y : Int)) :
    (Instr.sliceBound (.int k n) y code).run P w = .ok n.toNat w := by
  simp only [Instr.sliceBound, asIntOf, Sem.run_bind, Sem.run_pure, Result.andThen_ok]
  rw [if_pos h]
  rfl

theorem gbounds_sound {isSlice : Bool} {len cap cap' : Nat} {lo hi mx : Option GVal} {lo' hi' mx' : Option Value} {l h mm : Int}
    (r1 : optR m lo lo') (r2 : optR m hi hi') (r3 : optR m mx mx') (hb : gbounds len cap lo hi mx = some (some (l, h, mm)))
    (h0 : 0 ≤ l) (h1 : l ≤ h) (h2 : h ≤ mm) (h3 : mm ≤ cap) (hc : cap ≤ cap') (w : World) :
    (Instr.sliceBounds isSlice len cap' lo' hi' mx').run P w = .ok (l.toNat, h.toNat, (if mx.isSome then mm.toNat else cap')) w := by
  have gI : ∀ (o : Option GVal) (d e : Int), asIO o d = some e → (o = none ∧ e = d) ∨ ∃ k, o = some (.int k e) := by
    intro o d e he
    cases o with
    | none => simp [asIO] at he; exact .inl ⟨rfl, he.symm⟩
    | some g => cases g <;> simp [asIO] at he; subst he; exact .inr ⟨_, rfl⟩
  unfold gbounds at hb
  split at hb
  · cases hb
  · rename_i hno
    split at hb
    · rename_i l1 m1 e1 e2
      split at hb
      · rename_i h1' e3
        simp only [Option.some.injEq, Prod.mk.injEq] at hb
        obtain ⟨rfl, rfl, rfl⟩ := hb
        rcases gI mx _ _ e2 with ⟨rfl, rfl⟩ | ⟨k3, rfl⟩
        · -- no max
          have : mx' = none := by cases mx' <;> simp_all [optR]
          subst this
          rcases gI hi _ _ e3 with ⟨rfl, rfl⟩ | ⟨k2, rfl⟩
          · have : hi' = none := by cases hi' <;> simp_all [optR]
            subst this
            rcases gI lo _ _ e1 with ⟨rfl, rfl⟩ | ⟨k1, rfl⟩
            · have : lo' = none := by cases lo' <;> simp_all [optR]
              subst this
              simp [Instr.sliceBounds]
            · cases lo' with
              | none => simp [optR] at r1
              | some v =>
                cases r1
                simp only [Instr.sliceBounds, Sem.run_bind, Sem.run_pure, Result.andThen_ok]
                rw [sliceBound_run ⟨h0, h1⟩]
                simp
          · cases hi' with
            | none => simp [optR] at r2
            | some v =>
              cases r2
              rcases gI lo _ _ e1 with ⟨rfl, rfl⟩ | ⟨k1, rfl⟩
              · have : lo' = none := by cases lo' <;> simp_all [optR]
                subst this
                simp only [Instr.sliceBounds, Sem.run_bind, Sem.run_pure, Result.andThen_ok]
                rw [sliceBound_run (by omega)]
                simp
              · cases lo' with
                | none => simp [optR] at r1
                | some v =>
                  cases r1
                  simp only [Instr.sliceBounds, Sem.run_bind, Sem.run_pure, Result.andThen_ok]
                  rw [sliceBound_run (by omega)]
                  simp only [Result.andThen_ok]
                  rw [sliceBound_run (by omega)]
                  simp
        · cases mx' with
          | none => simp [optR] at r3
          | some v3 =>
            cases r3
            rcases gI hi _ _ e3 with ⟨rfl, rfl⟩ | ⟨k2, rfl⟩
            · simp at hno
            · cases hi' with
              | none => simp [optR] at r2
              | some v =>
                cases r2
                rcases gI lo _ _ e1 with ⟨rfl, rfl⟩ | ⟨k1, rfl⟩
                · have : lo' = none := by cases lo' <;> simp_all [optR]
                  subst this
                  simp only [Instr.sliceBounds, Sem.run_bind, Sem.run_pure, Result.andThen_ok]
                  rw [sliceBound_run (by omega)]
                  simp only [Result.andThen_ok]
                  rw [sliceBound_run (by omega)]
                  simp
                · cases lo' with
                  | none => simp [optR] at r1
                  | some v =>
                    cases r1
                    simp only [Instr.sliceBounds, Sem.run_bind, Sem.run_pure, Result.andThen_ok]
                    rw [sliceBound_run (by omega)]
                    simp only [Result.andThen_ok]
                    rw [sliceBound_run (by omega)]
                    simp only [Result.andThen_ok]
                    rw [sliceBound_run (by omega)]
                    simp
      · cases hb
    · cases hb
end
end Gh

/- Slice expressions, comparisons, conversions; all operations of the class 'pure'. -/
namespace Gh
open Go
section
variable {P : Program} {m : Mp}

theorem extract_mk (s : List UInt8) (l h : Nat) : (ByteArray.mk s.toArray).extract l h = ByteArray.mk ((s.drop l).take (h - l)).toArray := by
  apply ByteArray.ext
  apply Array.ext'
  simp [ByteArray.data_extract, List.extract_eq_take_drop]

theorem gbounds_nomax {len cap : Nat} {lo hi : Option GVal} {l h mm : Int} (hb : gbounds len cap lo hi none = some (some (l, h, mm))) : mm = cap := by
  unfold gbounds at hb
  split at hb
  · cases hb
  · split at hb
    · rename_i l1 m1 e1 e2
      split at hb
      · simp only [Option.some.injEq, Prod.mk.injEq] at hb
        simp only [asIO, Option.some.injEq] at e2
        omega
      · cases hb
    · cases hb

theorem slice_sound {t : TypeId} {x g : GVal} {v : Value} {lo hi mx : Option GVal} {lo' hi' mx' : Option Value}
    (hv : VR m x v) (r1 : optR m lo lo') (r2 : optR m hi hi') (r3 : optR m mx mx') (h : (gslice P t x lo hi mx).opt = some g) :
    ∃ v', VR m g v' ∧ Still P (Instr.sliceAt t v lo' hi' mx') v' := by
  unfold gslice at h
  split at h
  · rename_i s hu
    cases hv
    split at h
    · rename_i l hh mm hb
      split at h
      · cases h
      · rename_i hm
        obtain ⟨⟨h0, h1, h2⟩, h⟩ := req_opt h
        cases h
        have hmx : mx = none := by cases mx <;> simp_all
        subst hmx
        have hmx' : mx' = none := by cases mx' <;> simp_all [optR]
        subst hmx'
        have hmm := gbounds_nomax hb
        refine ⟨_, rfl, fun w => ?_⟩
        have hlen : (ByteArray.mk s.toArray).size = s.length := by simp [ByteArray.size]
        simp only [Instr.sliceAt, Sem.run_bind, run_underlying hu, Result.andThen_ok, Instr.slice]
        simp only [Option.isSome_none, Bool.false_eq_true, if_false, Sem.run_bind, hlen]
        rw [gbounds_sound (isSlice := false) r1 r2 (mx := none) (mx' := none) trivial hb h0 h1 (by omega) (by omega) (Nat.le_refl _) w]
        simp [extract_mk]
    · cases h
  · rename_i e a len cap op hu
    split at h
    · rename_i size l hh mm hs hb
      obtain ⟨⟨h0, h1, h2, h3, h4⟩, h⟩ := req_opt h
      cases h
      cases a with
      | none =>
        obtain ⟨rfl, rfl⟩ := hv
        have hrun := gbounds_sound (P := P) (isSlice := true) r1 r2 r3 hb h0 h1 h2 h3 (Nat.le_refl _)
        have hm2 : (if mx.isSome then mm.toNat else cap) = mm.toNat := by
          cases mx with
          | some _ => rfl
          | none => have := gbounds_nomax hb; simp; omega
        rw [hm2] at hrun
        refine ⟨.slice none (hh.toNat - l.toNat) (mm.toNat - l.toNat), ⟨rfl, by simp⟩, fun w => ?_⟩
        simp only [Instr.sliceAt, Sem.run_bind, run_underlying hu, Result.andThen_ok, Instr.slice, hrun w, run_sizeOf hs]
        simp
      | some p =>
        obtain ⟨id, off⟩ := p
        obtain ⟨L, c, o, hL, rfl, ho, hc⟩ := hv
        have hrun := gbounds_sound (P := P) (isSlice := true) r1 r2 r3 hb h0 h1 h2 h3 hc.le
        refine ⟨.slice (some ⟨L.block, if (if mx.isSome then mm.toNat else c) = l.toNat then o else o + l.toNat * size, none⟩) (hh.toNat - l.toNat) ((if mx.isSome then mm.toNat else c) - l.toNat), ⟨L, _, _, hL, rfl, ?_, ?_⟩, fun w => ?_⟩
        · intro hpos
          rw [if_neg ?_, ho (by omega)]
          · omega
          · cases mx with
            | some _ => simp only [Option.isSome_some, if_true]; omega
            | none => have := gbounds_nomax hb; have := hc.le; simp only [Option.isSome_none, Bool.false_eq_true, if_false]; omega
        · cases mx with
          | some _ => simp [capR]
          | none =>
            have hmm := gbounds_nomax hb
            simp only [Option.isSome_none, Bool.false_eq_true, if_false]
            cases op with
            | none => simp only [capR] at hc ⊢; omega
            | some sz =>
              have hsz : sz = size := by simpa using h4
              subst hsz
              simp only [capR] at hc ⊢
              refine ⟨by omega, ?_⟩
              by_cases hcl : c = l.toNat
              · rw [if_pos hcl]; subst hcl; simp; omega
              · rw [if_neg hcl]
                have : l.toNat * sz + (c - l.toNat) * sz = c * sz := by
                  rw [← Nat.add_mul]; congr 1; omega
                omega
        · simp only [Instr.sliceAt, Sem.run_bind, run_underlying hu, Result.andThen_ok, Instr.slice, hrun w, run_sizeOf hs]
          generalize (if mx.isSome = true then mm.toNat else c) = M
          by_cases hM : M = l.toNat
          · simp only [hM, if_true, Sem.run_pure]
          · simp only [hM, if_false, Option.map_some, Addr.add_none, Sem.run_pure]
    · cases h
  · rename_i n e p hu
    split at h
    · rename_i size l hh mm hs hb
      obtain ⟨⟨h0, h1, h2, h3⟩, h⟩ := req_opt h
      cases h
      obtain ⟨L, hL, rfl⟩ := hv
      have hrun := gbounds_sound (P := P) (isSlice := false) r1 r2 r3 hb h0 h1 h2 h3 (Nat.le_refl _)
      have hm2 : (if mx.isSome then mm.toNat else n) = mm.toNat := by
        cases mx with
        | some _ => rfl
        | none => have := gbounds_nomax hb; simp; omega
      rw [hm2] at hrun
      refine ⟨.slice (some ⟨L.block, if mm.toNat = l.toNat then L.base + p.2 else L.base + p.2 + l.toNat * size, none⟩) (hh.toNat - l.toNat) (mm.toNat - l.toNat), ⟨L, _, _, hL, rfl, ?_, by simp [capR]⟩, fun w => ?_⟩
      · intro hpos; rw [if_neg (by omega)]; omega
      · simp only [Instr.sliceAt, Sem.run_bind, run_underlying hu, Result.andThen_ok, Instr.sureAddr, Sem.run_pure, hrun w, run_sizeOf hs]
        split
        · rfl
        · simp only [Addr.add_none]
    · cases h
  · cases h

/-! Comparison. -/
theorem frozen_rw {w : World} {b off : Nat} {c : Array Value} {e : TypeId} {fr : Nat × Nat} (hb : w.heap[b]? = some (.cells c e fr)) (hf : fr.2 ≤ fr.1) :
    w.frozen? ⟨b, off, none⟩ = false := by
  obtain ⟨lo, hi⟩ := fr
  simp only [World.frozen?, hb]
  simp only at hf
  by_cases h1 : lo ≤ off
  · have : ¬ off < hi := by omega
    simp [this]
  · simp [h1]
theorem shape_cells {w : World} {b : Nat} {c : Array Value} {e : TypeId} {fr : Nat × Nat} (hb : w.heap[b]? = some (.cells c e fr)) :
    w.shape? b = some (e, c.size) := by simp [World.shape?, hb]
theorem sameAddr_same {w : World} {b o o' : Nat} : (sameAddr ⟨b, o, none⟩ ⟨b, o', none⟩).run P w = .ok (decide (o = o')) w := by
  simp only [sameAddr, beq_self_eq_true, if_true, Sem.run_pure]
  congr 1
  rw [Bool.eq_iff_iff]; simp
theorem sameAddr_other {w : World} {b b' o o' : Nat} {c c' : Array Value} {e e' : TypeId} {fr fr' : Nat × Nat} (hne : b ≠ b')
    (hb : w.heap[b]? = some (.cells c e fr)) (hf : fr.2 ≤ fr.1) (hb' : w.heap[b']? = some (.cells c' e' fr')) (hf' : fr'.2 ≤ fr'.1) :
    (sameAddr ⟨b, o, none⟩ ⟨b', o', none⟩).run P w = .ok false w := by
  have h0 : (b == b') = false := by simpa using hne
  simp only [sameAddr, h0, Bool.false_eq_true, if_false, Sem.run_bind, run_frozen, Result.andThen_ok, frozen_rw hb hf, Bool.false_and, Sem.run_pure, noView, viewAt, run_shape, shape_cells hb, shape_cells hb',
    Option.isSome_some, if_true, Option.isSome_none, mayBeOne, stringish, frozen_rw hb' hf', Bool.false_or]

theorem geqIn_sound {gl : Nat → Option Nat} {h : GHeap} {w : World} (R : Rep gl m h w) : ∀ (d d' : Nat) (t : TypeId) (x y : GVal) (u v : Value) (r : Bool), d ≤ d' → VR m x u → VR m y v →
    geqIn P h d t x y = some r → (Op.equalIn d' t u v).run P w = .ok r w := by
  intro d
  induction d with
  | zero => intro d' t x y u v r _ _ _ hg; simp [geqIn] at hg
  | succ d ih =>
    intro d' t x y u v r hd hx hy hg
    obtain ⟨d', rfl⟩ : ∃ e, d' = e + 1 := ⟨d' - 1, by omega⟩
    unfold geqIn at hg
    split at hg
    · rename_i a b hu
      cases hx; cases hy; cases hg
      simp [Op.equalIn, run_underlying hu]
    · rename_i k' k a l b hu
      cases hx; cases hy
      split at hg <;> cases hg
      rename_i hkl
      subst hkl
      simp [Op.equalIn, run_underlying hu]
    · rename_i a b hu
      cases hx; cases hy; cases hg
      rw [run_equalIn_string _ _ _ _ _ hu, toList_mk, toList_mk]
    · rename_i e b hu
      cases hx; cases hg
      cases b with
      | none => cases hy; simp [Op.equalIn, run_underlying hu]
      | some b => obtain ⟨L, hL, rfl⟩ := hy; simp [Op.equalIn, run_underlying hu]
    · rename_i e a hu
      obtain ⟨L, hL, rfl⟩ := hx; cases hy; cases hg
      simp [Op.equalIn, run_underlying hu]
    · rename_i e a b hu
      obtain ⟨L, hL, rfl⟩ := hx
      obtain ⟨L', hL', rfl⟩ := hy
      split at hg
      · cases hg
      · rename_i hsz
        obtain ⟨n, hn⟩ : ∃ n, tsize P e = some n := by
          cases hh : tsize P e with
          | none => simp [hh] at hsz
          | some n => exact ⟨n, rfl⟩
        have hn0 : n ≠ 0 := by intro h0; subst h0; simp [hn] at hsz
        have hstep : (Op.equalIn (d' + 1) t (.pointer (some ⟨L.block, L.base + a.2, none⟩)) (.pointer (some ⟨L'.block, L'.base + b.2, none⟩))).run P w =
            (sameAddr ⟨L.block, L.base + a.2, none⟩ ⟨L'.block, L'.base + b.2, none⟩).run P w := by
          simp only [Op.equalIn, Sem.run_bind, run_underlying hu, Result.andThen_ok, run_sizeOf hn]
          rw [if_pos hn0]
        rw [hstep]
        split at hg
        · rename_i hab
          cases hg
          rw [hab] at hL
          rw [hL] at hL'
          cases hL'
          rw [sameAddr_same]
          congr 1
          rw [Bool.eq_iff_iff]; simp
        · rename_i hab
          split at hg
          · rename_i hpl
            cases hg
            simp only [Bool.and_eq_true] at hpl
            have get : ∀ id, plainBlock h id = true → ∃ cs, h[id]? = some (.cells cs .rw) := by
              intro id hp
              unfold plainBlock at hp
              split at hp
              · rename_i cs hc; exact ⟨cs, hc⟩
              · cases hp
            obtain ⟨cs, hcs⟩ := get _ hpl.1
            obtain ⟨cs', hcs'⟩ := get _ hpl.2
            obtain ⟨c, e1, fr, g1, _, _, _, g2⟩ := R.cells hL hcs
            obtain ⟨c', e1', fr', g1', _, _, _, g2'⟩ := R.cells hL' hcs'
            exact sameAddr_other (fun hbb => hab (R.inj _ _ _ _ _ _ hL hL' hcs hcs' rfl rfl hbb)) g1 (Nat.le_of_eq (Eq.symm g2)) g1' (Nat.le_of_eq (Eq.symm g2'))
          · cases hg
    · rename_i e n c o b n' c' o' hu
      obtain ⟨rfl, rfl⟩ := hx
      cases hg
      cases b with
      | none => obtain ⟨rfl, rfl⟩ := hy; simp [Op.equalIn, run_underlying hu]
      | some b => obtain ⟨L, c, o, hL, rfl, _⟩ := hy; simp [Op.equalIn, run_underlying hu]
    · rename_i e a n c o n' c' o' hu
      obtain ⟨L, c, o, hL, rfl, _⟩ := hx
      obtain ⟨rfl, rfl⟩ := hy
      cases hg
      simp [Op.equalIn, run_underlying hu]
    · rename_i k e b hu
      cases hx; cases hg
      cases b with
      | none => cases hy; simp [Op.equalIn, run_underlying hu]
      | some b => obtain ⟨L, hL, rfl⟩ := hy; simp [Op.equalIn, run_underlying hu]
    · rename_i k e a hu
      obtain ⟨L, hL, rfl⟩ := hx; cases hy; cases hg
      simp [Op.equalIn, run_underlying hu]
    · rename_i hu
      cases hx; cases hy; cases hg
      simp [Op.equalIn, run_underlying hu]
    · rename_i hu
      cases hx; obtain ⟨_, _, _, rfl, _⟩ := hy; cases hg
      simp [Op.equalIn, run_underlying hu]
    · rename_i hu
      obtain ⟨_, _, _, rfl, _⟩ := hx; cases hy; cases hg
      simp [Op.equalIn, run_underlying hu]
    · rename_i fs xs ys hu
      obtain ⟨us, rfl, hus⟩ := hx
      obtain ⟨vs, rfl, hvs⟩ := hy
      split at hg
      · cases hg
      · rename_i hst
        have hfo : P.fieldsOf t = fs := by simp [Program.fieldsOf, hu]
        rw [run_equalIn_struct w d' t _ _ (by rw [hfo]; exact hu) (by simpa using hst), hfo]
        have hu' := hu
        clear hu hfo hst
        revert r
        induction fs.toList with
        | nil => intro r hg; simp at hg; subst hg; rfl
        | cons f fs ihf =>
          intro r hg
          simp only [List.foldr_cons] at hg
          simp only [Op.eqFields]
          split at hg
          · rename_i hname
            rw [if_neg (by simpa using hname)]
            exact ihf r hg
          · rename_i hname
            rw [if_pos (by simpa using hname)]
            split at hg
            · rename_i a b ha hb
              obtain ⟨a', ha1, ha2⟩ := gpart_sound hus ha
              obtain ⟨b', hb1, hb2⟩ := gpart_sound hvs hb
              unfold andO at hg
              split at hg
              · rename_i r1 r2 h1 h2
                cases hg
                have e1 := ih d' f.type a b a' b' r1 (by omega) ha1 hb1 h1
                simp only [Sem.run_bind, ha2 w, hb2 w, Result.andThen_ok, e1]
                cases r1 with
                | false => simp
                | true => simpa using ihf r2 h2
              · cases hg
            · cases hg
    · rename_i n e xs ys hu
      obtain ⟨us, rfl, hus⟩ := hx
      obtain ⟨vs, rfl, hvs⟩ := hy
      split at hg
      · rename_i s hs
        simp only [Op.equalIn, Sem.run_bind, run_underlying hu, Result.andThen_ok, run_sizeOf hs]
        simp only [Std.Legacy.Range.forIn_eq_forIn_range', Std.Legacy.Range.size, Nat.sub_zero, Nat.add_sub_cancel, Nat.div_one]
        clear hu
        revert r
        generalize List.range' 0 n = l
        induction l with
        | nil => intro r hg; simp at hg; subst hg; simp
        | cons i l ihl =>
          intro r hg
          simp only [List.foldr_cons] at hg
          split at hg
          · rename_i a b ha hb
            obtain ⟨a', ha1, ha2⟩ := gpart_sound hus ha
            obtain ⟨b', hb1, hb2⟩ := gpart_sound hvs hb
            unfold andO at hg
            split at hg
            · rename_i r1 r2 h1 h2
              cases hg
              have e1 := ih d' e a b a' b' r1 (by omega) ha1 hb1 h1
              simp only [List.forIn_cons, Sem.run_bind, ha2 w, hb2 w, Result.andThen_ok, e1]
              cases r1 with
              | false => simp
              | true => simpa using ihl r2 h2
            · cases hg
          · cases hg
      · cases hg
    · cases hg
end
end Gh

/- All operations of the classes 'pure' and 'read'. -/
namespace Gh
open Go

def GVal.tag : GVal → Nat
  | .undef => 0 | .bool _ => 1 | .int _ _ => 2 | .str _ => 3 | .ptr _ => 4 | .slice .. => 5 | .map _ => 6 | .func .. => 7 | .nilFunc => 8 | .iface .. => 9 | .nilIface => 10 | .agg _ => 11 | .tuple _ => 12
def vtag : Value → Nat
  | .bool _ => 1 | .int _ _ => 2 | .string _ => 3 | .pointer _ => 4 | .slice .. => 5 | .map _ => 6 | .func .. => 7 | .nilFunc => 8 | .iface .. => 9 | .nilIface => 10 | .agg _ => 11 | .tuple _ => 12 | _ => 13
theorem VR.tag {m : Mp} {g : GVal} {v : Value} (h : VR m g v) : g = .undef ∨ g.tag = vtag v := by
  cases g with
  | undef => exact .inl rfl
  | ptr a => cases a with
    | none => cases h; exact .inr rfl
    | some a => obtain ⟨L, _, rfl⟩ := h; exact .inr rfl
  | slice a n c o => cases a with
    | none => obtain ⟨rfl, _⟩ := h; exact .inr rfl
    | some a => obtain ⟨L, _, _, _, rfl, _⟩ := h; exact .inr rfl
  | map a => cases a with
    | none => cases h; exact .inr rfl
    | some a => obtain ⟨L, _, rfl⟩ := h; exact .inr rfl
  | func => obtain ⟨_, _, _, rfl, _⟩ := h; exact .inr rfl
  | iface => obtain ⟨_, rfl, _⟩ := h; exact .inr rfl
  | agg => obtain ⟨_, rfl, _⟩ := h; exact .inr rfl
  | tuple => obtain ⟨_, rfl, _⟩ := h; exact .inr rfl
  | _ => cases h; exact .inr rfl

section
variable {P : Program} {m : Mp}

theorem eqGuard_free {op : BinOp} (h1 : op ≠ .eql) (h2 : op ≠ .neq) (t : TypeId) (x y : Operand) (u v : Value) (w : World) : (eqGuard op t x y u v).run P w = .ok () w := by
  cases op <;> first | exact absurd rfl h1 | exact absurd rfl h2 | rfl
theorem eqGuard_ok {op : BinOp} {t : TypeId} {x y : Operand} {a b : GVal} {u v : Value} (hx : VR m a u) (hy : VR m b v) (ha : a ≠ .undef) (hb : b ≠ .undef) (he : eqFree P t a b = true) (w : World) :
    (eqGuard op t x y u v).run P w = .ok () w := by
  have ta := hx.tag.resolve_left ha
  have tb := hy.tag.resolve_left hb
  by_cases h1 : op ≠ .eql ∧ op ≠ .neq
  · exact eqGuard_free h1.1 h1.2 _ _ _ _ _ _
  · have h2 : op = .eql ∨ op = .neq := by
      by_cases h3 : op = .eql
      · exact .inl h3
      · by_cases h4 : op = .neq
        · exact .inr h4
        · exact absurd ⟨h3, h4⟩ h1
    rcases h2 with rfl | rfl <;> unfold eqGuard <;> dsimp only <;> rw [if_neg (by simp)] <;> split
    · cases a <;> simp [GVal.tag, vtag] at ta
      cases b <;> simp [GVal.tag, vtag] at tb
      simp [eqFree] at he
    · cases a <;> simp [GVal.tag, vtag] at ta
      cases b <;> simp [GVal.tag, vtag] at tb
      simp [eqFree] at he
      simp [he]
    · rfl
    · cases a <;> simp [GVal.tag, vtag] at ta
      cases b <;> simp [GVal.tag, vtag] at tb
      simp [eqFree] at he
    · cases a <;> simp [GVal.tag, vtag] at ta
      cases b <;> simp [GVal.tag, vtag] at tb
      simp [eqFree] at he
      simp [he]
    · rfl
theorem geqIn_told {h : GHeap} {d : Nat} {t : TypeId} {a b : GVal} {r : Bool} (hg : geqIn P h d t a b = some r) : a ≠ .undef ∧ b ≠ .undef := by
  cases d with
  | zero => simp [geqIn] at hg
  | succ d =>
    constructor
    · rintro rfl
      unfold geqIn at hg
      split at hg <;> simp_all
    · rintro rfl
      unfold geqIn at hg
      split at hg <;> simp_all

theorem eqFree_int (t : TypeId) (k l : IntKind) (a b : Int) : eqFree P t (.int k a) (.int l b) = true := rfl

/-- The comparison at a type that needs no memory. -/
theorem geqEasyIn {h : GHeap} {d d' : Nat} {t : TypeId} {a b : GVal} {u v : Value} {r : Bool} (hx : VR m a u) (hy : VR m b v)
    (hc : (match P.underlying t with
      | some (.int _) | some .string | some .bool | some (.slice _) | some (.map _ _) | some (.func _ _ _) => true
      | _ => false) = true) (hg : geqIn P h (d + 1) t a b = some r) (w : World) : (Op.equalIn (d' + 1) t u v).run P w = .ok r w := by
  unfold geqIn at hg
  split at hg
  · rename_i a b hu
    cases hx; cases hy; cases hg
    simp [Op.equalIn, run_underlying hu]
  · rename_i k' k a l b hu
    cases hx; cases hy
    split at hg <;> cases hg
    rename_i hkl
    subst hkl
    simp [Op.equalIn, run_underlying hu]
  · rename_i a b hu
    cases hx; cases hy; cases hg
    rw [run_equalIn_string _ _ _ _ _ hu, toList_mk, toList_mk]
  · rename_i hu; rw [hu] at hc; cases hc
  · rename_i hu; rw [hu] at hc; cases hc
  · rename_i hu; rw [hu] at hc; cases hc
  · rename_i e n c o b n' c' o' hu
    obtain ⟨rfl, rfl⟩ := hx
    cases hg
    cases b with
    | none => obtain ⟨rfl, rfl⟩ := hy; simp [Op.equalIn, run_underlying hu]
    | some b => obtain ⟨L, c, o, hL, rfl, _⟩ := hy; simp [Op.equalIn, run_underlying hu]
  · rename_i e a n c o n' c' o' hu
    obtain ⟨L, c, o, hL, rfl, _⟩ := hx
    obtain ⟨rfl, rfl⟩ := hy
    cases hg
    simp [Op.equalIn, run_underlying hu]
  · rename_i k e b hu
    cases hx; cases hg
    cases b with
    | none => cases hy; simp [Op.equalIn, run_underlying hu]
    | some b => obtain ⟨L, hL, rfl⟩ := hy; simp [Op.equalIn, run_underlying hu]
  · rename_i k e a hu
    obtain ⟨L, hL, rfl⟩ := hx; cases hy; cases hg
    simp [Op.equalIn, run_underlying hu]
  · rename_i hu
    cases hx; cases hy; cases hg
    simp [Op.equalIn, run_underlying hu]
  · rename_i hu
    cases hx; obtain ⟨_, _, _, rfl, _⟩ := hy; cases hg
    simp [Op.equalIn, run_underlying hu]
  · rename_i hu
    obtain ⟨_, _, _, rfl, _⟩ := hx; cases hy; cases hg
    simp [Op.equalIn, run_underlying hu]
  · rename_i hu; rw [hu] at hc; cases hc
  · rename_i hu; rw [hu] at hc; cases hc
  · cases hg

theorem geqEasy {h : GHeap} {t : TypeId} {a b : GVal} {u v : Value} {r : Bool} (hx : VR m a u) (hy : VR m b v)
    (hc : (match P.underlying t with
      | some (.int _) | some .string | some .bool | some (.slice _) | some (.map _ _) | some (.func _ _ _) => true
      | _ => false) = true) (hg : geq P h t a b = some r) (w : World) : (Op.equal t u v).run P w = .ok r w :=
  geqEasyIn (d := 99) (d' := 9999) hx hy hc hg w

theorem binOp_eql_form {t : TypeId} {u v : Value} (h1 : ¬ (vtag u = 2 ∧ vtag v = 2)) (h2 : ¬ (vtag u = 3 ∧ vtag v = 3)) (h3 : vtag u ≠ 13) :
    binOp .eql t u v = (do pure (.bool (← Op.equal t u v)) : Sem Value) ∧ binOp .neq t u v = (do pure (.bool (!(← Op.equal t u v))) : Sem Value) := by
  constructor
  · unfold binOp
    split <;> first | rfl | (exfalso; simp_all [vtag]; done)
  · unfold binOp
    split <;> first | rfl | (exfalso; simp_all [vtag]; done)
theorem GVal.tag_int {g : GVal} (h : g.tag = 2) : ∃ k n, g = .int k n := by
  cases g <;> simp [GVal.tag] at h
  exact ⟨_, _, rfl⟩
theorem GVal.tag_str {g : GVal} (h : g.tag = 3) : ∃ s, g = .str s := by
  cases g <;> simp [GVal.tag] at h
  exact ⟨_, rfl⟩
theorem GVal.tag_le (g : GVal) : g.tag ≤ 12 := by cases g <;> simp [GVal.tag]
/-- '==' on what is no pair of integers or strings is Op.equal. -/
theorem binOp_eql' {t : TypeId} {a b : GVal} {u v : Value} {r : Bool} {w : World} (hx : VR m a u) (hy : VR m b v) (ha : a ≠ .undef) (hb : b ≠ .undef)
    (n1 : ∀ k x l y, a = .int k x → b = .int l y → False) (n2 : ∀ x y, a = .str x → b = .str y → False) (he : (Op.equal t u v).run P w = .ok r w) :
    (binOp .eql t u v).run P w = .ok (.bool r) w ∧ (binOp .neq t u v).run P w = .ok (.bool !r) w := by
  have ta := hx.tag.resolve_left ha
  have tb := hy.tag.resolve_left hb
  obtain ⟨e1, e2⟩ := binOp_eql_form (t := t) (u := u) (v := v)
    (fun ⟨h1, h2⟩ => by obtain ⟨k, x, e⟩ := GVal.tag_int (ta.trans h1); obtain ⟨l, y, f⟩ := GVal.tag_int (tb.trans h2); exact n1 _ _ _ _ e f)
    (fun ⟨h1, h2⟩ => by obtain ⟨x, e⟩ := GVal.tag_str (ta.trans h1); obtain ⟨y, f⟩ := GVal.tag_str (tb.trans h2); exact n2 _ _ e f)
    (fun h => by have := GVal.tag_le a; omega)
  rw [e1, e2]
  constructor <;> simp [he]

/-- binOp, but for '==' and '!=' that look at memory. -/
theorem binOp_still {h : GHeap} {op : BinOp} {t : TypeId} {x y : Operand} {a b g : GVal} {u v : Value} (hx : VR m a u) (hy : VR m b v)
    (hc : (op ≠ .eql ∧ op ≠ .neq) ∨ (match P.underlying t with
      | some (.int _) | some .string | some .bool | some (.slice _) | some (.map _ _) | some (.func _ _ _) => true
      | _ => false) = true)
    (hg : (gbinOp P h op t a b).opt = some g) :
    ∃ r, VR m g r ∧ Still P (do eqGuard op t x y u v; binOp op t u v) r := by
  have key : ∀ r, VR m g r → Still P (binOp op t u v) r → (∀ w, (eqGuard op t x y u v).run P w = .ok () w) →
      ∃ r, VR m g r ∧ Still P (do eqGuard op t x y u v; binOp op t u v) r := by
    intro r h1 h2 h3
    exact ⟨r, h1, fun w => by simp only [Sem.run_bind, h3 w, Result.andThen_ok, h2 w]⟩
  unfold gbinOp at hg
  split at hg
  · rename_i k a' yk b'
    cases hx; cases hy
    obtain ⟨h0, hg⟩ := req_opt hg
    cases hg
    refine key _ rfl (fun w => ?_) (eqGuard_free (by simp) (by simp) _ _ _ _ _)
    simp only [binOp, Op.shift]
    rw [if_neg (by omega)]
    rfl
  · rename_i k a' yk b'
    cases hx; cases hy
    obtain ⟨h0, hg⟩ := req_opt hg
    cases hg
    refine key _ rfl (fun w => ?_) (eqGuard_free (by simp) (by simp) _ _ _ _ _)
    simp only [binOp, Op.shift]
    rw [if_neg (by omega)]
    rfl
  · rename_i op' k a' l b' n1 n2
    cases hx; cases hy
    obtain ⟨h0, hq⟩ := req_opt hg
    cases h0
    obtain ⟨r, h1, h2⟩ := gintOp_sound (m := m) (P := P) (t := t) n1 n2 hq
    exact key r h1 h2 (eqGuard_ok (m := m) (a := .int k a') (b := .int k b') rfl rfl (by simp) (by simp) rfl)
  · cases hx; cases hy
    obtain ⟨r, h1, h2⟩ := gstrOp_sound (m := m) (P := P) (t := t) hg
    exact key r h1 h2 (eqGuard_ok (m := m) (a := .str _) (b := .str _) rfl rfl (by simp) (by simp) rfl)
  · rename_i n1 n2
    have hc := hc.resolve_left (by simp)
    split at hg
    · rename_i hf
      obtain ⟨r, hr, hq⟩ := dst_opt hg
      cases hq
      simp only [Option.map_eq_some_iff] at hr
      obtain ⟨bb, hq, rfl⟩ := hr
      have hto := geqIn_told hq
      refine key _ rfl (fun w => ?_) (eqGuard_ok hx hy hto.1 hto.2 hf)
      have he := geqEasy hx hy hc hq w
      exact (binOp_eql' hx hy hto.1 hto.2 (fun k a l b e1 e2 => n1 k a l b e1 e2) (fun a b e1 e2 => n2 a b e1 e2) he).1
    · cases hg
  · rename_i n1 n2
    have hc := hc.resolve_left (by simp)
    split at hg
    · rename_i hf
      obtain ⟨r, hr, hq⟩ := dst_opt hg
      cases hq
      simp only [Option.map_eq_some_iff] at hr
      obtain ⟨bb, hq, rfl⟩ := hr
      have hto := geqIn_told hq
      refine key _ rfl (fun w => ?_) (eqGuard_ok hx hy hto.1 hto.2 hf)
      have he := geqEasy hx hy hc hq w
      exact (binOp_eql' hx hy hto.1 hto.2 (fun k a l b e1 e2 => n1 k a l b e1 e2) (fun a b e1 e2 => n2 a b e1 e2) he).2
    · cases hg
  · cases hg
end
end Gh

/- All operations of the classes 'pure' and 'read'. -/
namespace Gh
open Go
section
variable {P : Program} {m : Mp}

theorem runs_v {ρ : Operand → Value} {o : Oper} {s : Sem Value} {w w' : World} {v : Value} (he : execOp ρ o = (do pure (Next.value (← s)) : Sem Next)) (hs : s.run P w = .ok v w') : OpRuns P ρ o w v w' :=
  .inl (by rw [he]; simp [hs])
theorem runs_u {ρ : Operand → Value} {o : Oper} {s : Sem Unit} {w w' : World} (he : execOp ρ o = (do s; pure Next.skip : Sem Next)) (hs : s.run P w = .ok () w') : OpRuns P ρ o w undef w' :=
  .inr ⟨by rw [he]; simp [hs], rfl⟩

theorem args_of {ev : Operand → GVal} {ρ : Operand → Value} (hev : EvR m ev ρ) : ∀ (l : List Operand), VRs m (l.map ev) (l.map ρ)
  | [] => rfl
  | x :: xs => ⟨_, _, rfl, hev x, args_of hev xs⟩

theorem pure_opt {X : Type} {h h' : GHeap} {g : X} {k : GM X} (hg : (GM.map (fun v => (v, h)) k).opt = some (g, h')) : h' = h ∧ k.opt = some g := by
  rw [GM.opt_map] at hg
  simp only [Option.map_eq_some_iff, Prod.mk.injEq] at hg
  obtain ⟨a, h1, rfl, rfl⟩ := hg
  exact ⟨rfl, h1⟩
theorem optV_R {ev : Operand → GVal} {ρ : Operand → Value} (hev : EvR m ev ρ) (o : Option Operand) : optR m (optV ev o) (o.map ρ) := by
  cases o with
  | none => trivial
  | some x => exact hev x

theorem args1 {ev : Operand → GVal} {l : Array Operand} {x : GVal} (h : l.toList.map ev = [x]) : ∃ a, l = #[a] ∧ ev a = x := by
  rcases hl : l.toList with _ | ⟨a, _ | ⟨b, r⟩⟩
  · rw [hl] at h; cases h
  · rw [hl] at h; cases h; exact ⟨a, by rw [← Array.toList_inj, hl], rfl⟩
  · rw [hl] at h; cases h
theorem args2 {ev : Operand → GVal} {l : Array Operand} {x y : GVal} (h : l.toList.map ev = [x, y]) : ∃ a b, l = #[a, b] ∧ ev a = x ∧ ev b = y := by
  rcases hl : l.toList with _ | ⟨a, _ | ⟨b, _ | ⟨c, r⟩⟩⟩
  · rw [hl] at h; cases h
  · rw [hl] at h; cases h
  · rw [hl] at h; cases h; exact ⟨a, b, by rw [← Array.toList_inj, hl], rfl, rfl⟩
  · rw [hl] at h; cases h
theorem args3 {ev : Operand → GVal} {l : Array Operand} {x y z : GVal} (h : l.toList.map ev = [x, y, z]) : ∃ a b c, l = #[a, b, c] ∧ ev a = x ∧ ev b = y ∧ ev c = z := by
  rcases hl : l.toList with _ | ⟨a, _ | ⟨b, _ | ⟨c, _ | ⟨d, r⟩⟩⟩⟩
  · rw [hl] at h; cases h
  · rw [hl] at h; cases h
  · rw [hl] at h; cases h
  · rw [hl] at h; cases h; exact ⟨a, b, c, by rw [← Array.toList_inj, hl], rfl, rfl, rfl⟩
  · rw [hl] at h; cases h

def noMem (P : Program) (b : Builtin) (ats : Array TypeId) : Bool :=
  match b with
  | .len => (match (ats[0]?).bind P.underlying with
    | some .string | some (.slice _) | some (.array _ _) | some (.pointer _) => true
    | _ => false)
  | .cap | .max | .min => true
  | _ => false

/-- The builtins that look at no memory. -/
theorem builtin_pure {ρ : Operand → Value} {ev : Operand → GVal} (hev : EvR m ev ρ) {h h' : GHeap} {g : GVal} {b : Builtin} {args : Array Operand} {ats : Array TypeId} {ty : TypeId}
    (hc : noMem P b ats = true) (hg : (gbuiltin P h b ats (args.toList.map ev)).opt = some (g, h')) :
    h' = h ∧ ∃ v, VR m g v ∧ ∀ w, ∀ consts, (builtin b ats ty consts (args.map ρ)).run P w = .ok (.value v) w := by
  unfold gbuiltin at hg
  split at hg
  · rename_i t x ht hx
    obtain ⟨a, rfl, ha⟩ := args1 hx
    have hva := hev a
    rw [ha] at hva
    split at hg
    · rename_i s hu
      simp only [VR] at hva
      cases hg
      exact ⟨rfl, _, rfl, fun w consts => by simp [builtin, Builtin.len_, ht, run_underlying hu, goInt, hva, size_mk]⟩
    · rename_i n e hu
      cases hg
      refine ⟨rfl, _, rfl, fun w consts => ?_⟩
      simp only [builtin, Builtin.len_, ht, List.map_toArray, List.map_cons, List.map_nil, List.getElem?_toArray, List.getElem?_cons_zero, Sem.run_bind, run_underlying hu, Result.andThen_ok]
      cases ρ a <;> rfl
    · rename_i e ad n c op hu
      cases hg
      refine ⟨rfl, _, rfl, fun w consts => ?_⟩
      have : ∃ ad' c', ρ a = .slice ad' n c' := by
        cases ad with
        | none => exact ⟨_, _, hva.1⟩
        | some p => obtain ⟨L, c', o, _, e, _⟩ := hva; exact ⟨_, _, e⟩
      obtain ⟨ad', c', e⟩ := this
      simp [builtin, Builtin.len_, ht, run_underlying hu, goInt, e]
    · rename_i k e hu
      simp [noMem, ht, hu] at hc
    · rename_i ar hu
      split at hg
      · rename_i n e hu2
        cases hg
        refine ⟨rfl, _, rfl, fun w consts => ?_⟩
        simp only [builtin, Builtin.len_, ht, List.map_toArray, List.map_cons, List.map_nil, List.getElem?_toArray, List.getElem?_cons_zero, Sem.run_bind, run_underlying hu, Result.andThen_ok]
        cases ρ a <;> simp [run_underlying hu2, goInt]
      · cases hg
    · cases hg
  · rename_i t x ht hx
    obtain ⟨a, rfl, ha⟩ := args1 hx
    have hva := hev a
    rw [ha] at hva
    split at hg
    · rename_i e ad n c hu
      cases hg
      refine ⟨rfl, _, rfl, fun w consts => ?_⟩
      have : ∃ ad', ρ a = .slice ad' n c := by
        cases ad with
        | none => exact ⟨_, hva.1⟩
        | some p => obtain ⟨L, c', o, _, e, _, hcap⟩ := hva; simp only [capR] at hcap; subst hcap; exact ⟨_, e⟩
      obtain ⟨ad', e⟩ := this
      simp [builtin, Builtin.cap_, ht, run_underlying hu, goInt, e]
    · rename_i n e hu
      cases hg
      refine ⟨rfl, _, rfl, fun w consts => ?_⟩
      simp only [builtin, Builtin.cap_, ht, List.map_toArray, List.map_cons, List.map_nil, List.getElem?_toArray, List.getElem?_cons_zero, Sem.run_bind, run_underlying hu, Result.andThen_ok]
      cases ρ a <;> rfl
    · cases hg
  · simp [noMem] at hc
  · simp [noMem] at hc
  · simp [noMem] at hc
  · simp [noMem] at hc
  · rename_i k x l y ht hx
    obtain ⟨a, b, rfl, ha, hb⟩ := args2 hx
    obtain ⟨hk, hg2⟩ := req_opt hg
    cases hk; cases hg2
    have hva := hev a; have hvb := hev b
    rw [ha] at hva; rw [hb] at hvb
    simp only [VR] at hva hvb
    exact ⟨rfl, _, rfl, fun w consts => by simp [builtin, Builtin.max_, Builtin.max2, hva, hvb]⟩
  · rename_i k x l y ht hx
    obtain ⟨a, b, rfl, ha, hb⟩ := args2 hx
    obtain ⟨hk, hg2⟩ := req_opt hg
    cases hk; cases hg2
    have hva := hev a; have hvb := hev b
    rw [ha] at hva; rw [hb] at hvb
    simp only [VR] at hva hvb
    exact ⟨rfl, _, rfl, fun w consts => by simp [builtin, Builtin.min_, Builtin.min2, hva, hvb]⟩
  · rename_i k x l y j z ht hx
    obtain ⟨a, b, c, rfl, ha, hb, hc'⟩ := args3 hx
    obtain ⟨⟨hk, hk'⟩, hg2⟩ := req_opt hg
    cases hk; cases hk'; cases hg2
    have hva := hev a; have hvb := hev b; have hvc := hev c
    rw [ha] at hva; rw [hb] at hvb; rw [hc'] at hvc
    simp only [VR] at hva hvb hvc
    exact ⟨rfl, _, rfl, fun w consts => by simp [builtin, Builtin.max_, Builtin.max2, hva, hvb, hvc]⟩
  · rename_i k x l y j z ht hx
    obtain ⟨a, b, c, rfl, ha, hb, hc'⟩ := args3 hx
    obtain ⟨⟨hk, hk'⟩, hg2⟩ := req_opt hg
    cases hk; cases hk'; cases hg2
    have hva := hev a; have hvb := hev b; have hvc := hev c
    rw [ha] at hva; rw [hb] at hvb; rw [hc'] at hvc
    simp only [VR] at hva hvb hvc
    exact ⟨rfl, _, rfl, fun w consts => by simp [builtin, Builtin.min_, Builtin.min2, hva, hvb, hvc]⟩
  · cases hg

theorem pure_sound {ρ : Operand → Value} {ev : Operand → GVal} (hev : EvR m ev ρ) {o : Oper} {h h' : GHeap} {g : GVal} (hc : opClass P o = .pure) (hg : (gop P ev o h).opt = some (g, h')) :
    h' = h ∧ ∃ v, VR m g v ∧ ∀ w, OpRuns P ρ o w v w := by
  obtain ⟨dst, op, ty, pos, aft, gd⟩ := o
  cases op with
  | move x => cases hg; exact ⟨rfl, _, hev x, fun w => .inl rfl⟩
  | assign x => cases hg; exact ⟨rfl, _, hev x, fun w => .inl rfl⟩
  | pick c a b =>
    simp only [gop] at hg
    split at hg
    · rename_i t ht
      cases hg
      have hvc := hev c
      rw [ht] at hvc
      cases t with
      | true => exact ⟨rfl, _, hev a, fun w => .inl (by simp only [VR] at hvc; simp only [execOp, hvc]; rfl)⟩
      | false => exact ⟨rfl, _, hev b, fun w => .inl (by simp only [VR] at hvc; simp only [execOp, hvc]; rfl)⟩
    · cases hg
  | build t parts =>
    simp only [gop] at hg
    split at hg
    · rename_i ht
      have h1 : (parts.toList.map fun (i, x) => (i, ev x)).map (·.1) = (parts.toList.map fun (i, x) => (i, ρ x)).map (·.1) := by simp
      have h2 : VRs m ((parts.toList.map fun (i, x) => (i, ev x)).map (·.2)) ((parts.toList.map fun (i, x) => (i, ρ x)).map (·.2)) := by
        have := args_of hev (parts.toList.map (·.2))
        rw [List.map_map, List.map_map] at this
        rw [List.map_map, List.map_map]
        exact this
      obtain ⟨rfl, v, h3, h4⟩ := build_sound ht h1 h2 hg
      exact ⟨rfl, v, h3, fun w => runs_v (s := Instr.build t (parts.map fun (i, x) => (i, ρ x))) rfl (by
        have := h4 w
        have e : (parts.toList.map fun (i, x) => (i, ρ x)).toArray = parts.map fun (i, x) => (i, ρ x) := by
          apply Array.ext'; simp
        rw [e] at this; exact this)⟩
    · cases hg
  | sliceToArrayPointer ty' x =>
    simp only [gop] at hg
    obtain ⟨rfl, hg⟩ := pure_opt hg
    have hx := hev x
    unfold gtoArray at hg
    split at hg
    · rename_i n e id off len cap op hu hxe
      obtain ⟨⟨h1, h2⟩, hh⟩ := req_opt hg
      cases hh
      rw [hxe] at hx
      obtain ⟨L, c, o, hL, e1, k1, k2⟩ := hx
      obtain rfl := k1 h2
      refine ⟨rfl, _, ⟨L, hL, rfl⟩, fun w => runs_v (s := Instr.arrayAt ty' (ρ x)) rfl ?_⟩
      rw [e1]
      simp only [Instr.arrayAt, Sem.run_bind, run_underlying hu, Result.andThen_ok]
      rw [if_neg (by omega)]
      rfl
    · cases hg
  | nilCheck x =>
    simp only [gop] at hg
    have hx := hev x
    split at hg
    · rename_i a hxe
      rw [hxe] at hx
      cases hg
      obtain ⟨L, hL, e⟩ := hx
      exact ⟨rfl, _, ⟨L, hL, e⟩, fun w => .inl (by simp only [execOp]; rw [e]; rfl)⟩
    · rename_i f a c hxe
      rw [hxe] at hx
      cases hg
      obtain ⟨fn', f', c', e, e2, e3⟩ := hx
      cases e2
      exact ⟨rfl, _, ⟨_, f', c', e, rfl, e3⟩, fun w => .inl (by simp only [execOp]; rw [e]; rfl)⟩
    · rename_i a n c o hxe
      rw [hxe] at hx
      cases hg
      refine ⟨rfl, _, hx, fun w => .inl ?_⟩
      cases a with
      | none => obtain ⟨e, _⟩ := hx; simp only [execOp]; rw [e]; rfl
      | some a => obtain ⟨L, _, _, _, e, _⟩ := hx; simp only [execOp]; rw [e]; rfl
    · rename_i r hxe
      rw [hxe] at hx
      cases hg
      refine ⟨rfl, _, hx, fun w => .inl ?_⟩
      cases r with
      | none => simp only [VR] at hx; simp only [execOp]; rw [hx]; rfl
      | some a => obtain ⟨L, _, e⟩ := hx; simp only [execOp]; rw [e]; rfl
    · cases hg
  | unOp op t x =>
    obtain ⟨rfl, hg2⟩ := pure_opt hg
    obtain ⟨v, h1, h2⟩ := gunOp_sound (P := P) (hev x) hg2
    exact ⟨rfl, v, h1, fun w => runs_v rfl (h2 w)⟩
  | makeFunc fn first captured =>
    cases fn with
    | func f =>
      simp only [gop] at hg
      split at hg
      · cases hg
        refine ⟨rfl, _, ⟨.func f, first.toList.map ρ, captured.toList.map ρ, rfl, rfl, args_of hev _, args_of hev _⟩, fun w => .inl ?_⟩
        have e : ∀ a : Array Operand, (a.toList.map ρ).toArray = a.map ρ := fun a => by apply Array.ext'; simp
        simp [execOp, Instr.makeFunc, e]
      · cases hg
    | _ => simp [gop, GM.opt] at hg
  | slice t x lo hi mx =>
    obtain ⟨rfl, hg2⟩ := pure_opt hg
    obtain ⟨v, h1, h2⟩ := slice_sound (P := P) (hev x) (optV_R hev lo) (optV_R hev hi) (optV_R hev mx) hg2
    exact ⟨rfl, v, h1, fun w => runs_v rfl (h2 w)⟩
  | fieldAddr s x f =>
    obtain ⟨rfl, hg2⟩ := pure_opt hg
    obtain ⟨v, h1, h2⟩ := fieldAddr_sound (P := P) (hev x) hg2
    exact ⟨rfl, v, h1, fun w => runs_v rfl (h2 w)⟩
  | field t x f =>
    obtain ⟨rfl, hg2⟩ := pure_opt hg
    obtain ⟨v, h1, h2⟩ := field_sound (P := P) (hev x) hg2
    exact ⟨rfl, v, h1, fun w => runs_v rfl (h2 w)⟩
  | indexAddr t x i =>
    obtain ⟨rfl, hg2⟩ := pure_opt hg
    obtain ⟨v, h1, h2⟩ := indexAddr_sound (P := P) (hev x) (hev i) hg2
    exact ⟨rfl, v, h1, fun w => runs_v rfl (h2 w)⟩
  | index t x i =>
    obtain ⟨rfl, hg2⟩ := pure_opt hg
    obtain ⟨v, h1, h2⟩ := index_sound (P := P) (hev x) (hev i) hg2
    exact ⟨rfl, v, h1, fun w => runs_v rfl (h2 w)⟩
  | extract x i =>
    simp only [gop] at hg
    split at hg
    · rename_i vs hx
      split at hg
      · rename_i v hv
        cases hg
        obtain ⟨v', h1, h2⟩ := extract_sound (P := P) (hev x) hx hv
        exact ⟨rfl, v', h1, fun w => runs_v rfl (h2 w)⟩
      · cases hg
    · cases hg
  | binOp op t x y t2 =>
    obtain ⟨rfl, hg2⟩ := pure_opt hg
    have hcc : (op ≠ .eql ∧ op ≠ .neq) ∨ (match P.underlying t with
      | some (.int _) | some .string | some .bool | some (.slice _) | some (.map _ _) | some (.func _ _ _) => true
      | _ => false) = true := by
      by_cases h1 : op = .eql
      · right; subst h1
        simp only [opClass] at hc
        split at hc <;> first | rfl | (rename_i hh; rw [hh]; done) | (rename_i hh; rw [hh]; rfl) | cases hc
      · by_cases h2 : op = .neq
        · right; subst h2
          simp only [opClass] at hc
          split at hc <;> first | rfl | (rename_i hh; rw [hh]; done) | (rename_i hh; rw [hh]; rfl) | cases hc
        · exact .inl ⟨h1, h2⟩
    obtain ⟨v, h1, h2⟩ := binOp_still (P := P) (x := x) (y := y) (hev x) (hev y) hcc hg2
    exact ⟨rfl, v, h1, fun w => runs_v rfl (h2 w)⟩
  | convert s d x =>
    simp only [gop, gconvert] at hg
    split at hg
    · rename_i e0 h1
      simp [opClass, h1] at hc
    · rename_i ds hns h1
      split at hg
      · rename_i k k' n h2 hx
        cases hg
        have hx' := hev x
        rw [hx] at hx'
        refine ⟨rfl, _, rfl, fun w => runs_v (s := convert s d (ρ x)) rfl ?_⟩
        simp only [VR] at hx'
        rw [hx']
        simp [convert, run_underlying h1, run_underlying h2, Conv.intToInt]
      · rename_i k' n h2 hx
        cases hg
        have hx' := hev x
        rw [hx] at hx'
        refine ⟨rfl, _, rfl, fun w => runs_v (s := convert s d (ρ x)) rfl ?_⟩
        simp only [VR] at hx'
        rw [hx']
        simp only [convert, Sem.run_bind, run_underlying h1, run_underlying h2, Result.andThen_ok, Array.toArray_toList]
        cases ds <;> rfl
      · rename_i s' h2 hx
        cases hg
        have hx' := hev x
        rw [hx] at hx'
        refine ⟨rfl, _, rfl, fun w => runs_v (s := convert s d (ρ x)) rfl ?_⟩
        simp only [VR] at hx'
        rw [hx']
        simp only [convert, Sem.run_bind, run_underlying h1, run_underlying h2, Result.andThen_ok]
        cases ds <;> rfl
      · rename_i e s' h2 hx
        exfalso
        simp only [opClass, h1, h2] at hc
        split at hc
        · cases hc
        · cases hc
      · cases hg
    · cases hg
  | call c =>
    obtain ⟨callee, args, ats⟩ := c
    cases callee with
    | builtin b =>
      have hn : noMem P b ats = true := by
        cases b <;> simp only [opClass, reduceCtorEq] at hc <;> try rfl
        simp only [noMem]
        split at hc <;> first | rfl | (rename_i hh; rw [hh]; done) | (rename_i hh; rw [hh]; rfl) | cases hc
      obtain ⟨rfl, v, h1, h2⟩ := builtin_pure (P := P) hev (ty := ty) hn hg
      refine ⟨rfl, v, h1, fun w => .inl ?_⟩
      simp only [execOp, resolve, Sem.run_bind, Sem.run_pure, Result.andThen_ok, invoke]
      exact h2 w _
    | _ => simp [opClass] at hc
  | _ => simp [opClass] at hc
end
end Gh

/- All operations of the classes 'read' and 'alloc'. -/
namespace Gh
open Go
section
variable {P : Program} {gl : Nat → Option Nat} {m : Mp} {h : GHeap} {w : World}

theorem keyEq_sound {t : TypeId} {d : TypeDesc} {a b : GVal} {u v : Value} {r : Bool} (hd : P.underlying t = some d) (hk : keyFits P t a = true) (hna : ∀ n e, d ≠ .array n e) (ha : VR m a u) (hb : VR m b v) (hq : keyEq a b = some r) :
    Instr.sameNow d u v = some r := by
  unfold keyFits at hk
  rw [hd] at hk
  unfold keyEq at hq
  split at hq
  · cases d <;> simp at hk
    exact absurd rfl (hna _ _)
  · cases ha; cases hb
    split at hq <;> cases hq
    rename_i hkl
    subst hkl
    cases d <;> simp at hk
    simp [Instr.sameNow]
  · cases ha; cases hb; cases hq
    rename_i x y
    cases d <;> simp at hk
    simp only [Instr.sameNow]
    congr 1
    rw [beq_toListBytes, toList_mk, toList_mk]
  · cases ha; cases hb; cases hq
    cases d <;> simp at hk
    simp [Instr.sameNow]
  · cases hq

theorem gfind_sound {t : TypeId} {d : TypeDesc} {k : GVal} {u : Value} (hd : P.underlying t = some d) (hk : keyFits P t k = true) (hna : ∀ n e, d ≠ .array n e) (hu : VR m k u) : ∀ (es : List (GVal × GVal)) (es' : List MapEntry) (i : Nat) (r : Option (Nat × GVal)),
    ERel m es es' → gfind k es i = some r → ∃ r', Instr.findNow d u es' i = some r' ∧ (match r with
      | none => r' = none
      | some (j, v) => ∃ v', r' = some (j, v') ∧ VR m v v') := by
  intro es
  induction es with
  | nil => intro es' i r he hr; simp [gfind] at hr; subst hr; cases he; exact ⟨none, rfl, rfl⟩
  | cons e es ih =>
    obtain ⟨q, v⟩ := e
    intro es' i r he hr
    obtain ⟨e', rest, rfl, h1, h2, h3⟩ := he
    simp only [gfind] at hr
    split at hr
    · rename_i hq
      cases hr
      refine ⟨_, by simp only [Instr.findNow, keyEq_sound hd hk hna hu h1 hq], _, rfl, h2⟩
    · rename_i hq
      obtain ⟨r', g1, g2⟩ := ih rest (i + 1) r h3 hr
      refine ⟨r', ?_, g2⟩
      simp only [Instr.findNow, keyEq_sound hd hk hna hu h1 hq]
      exact g1
    · cases hr

theorem keyEqs_cons {x y : GVal} {xs ys : List GVal} {r : Bool} (h : keyEqs (x :: xs) (y :: ys) = some r) : ∃ k a b r', x = .int k a ∧ y = .int k b ∧ keyEqs xs ys = some r' ∧ r = (a == b && r') := by
  cases x <;> cases y <;> simp only [keyEqs, reduceCtorEq] at h
  rename_i k a l b
  split at h
  · rename_i hkl
    cases hq : keyEqs xs ys with
    | none => rw [hq] at h; cases h
    | some r' =>
      rw [hq] at h
      cases h
      exact ⟨k, a, b, r', rfl, by rw [hkl], rfl, rfl⟩
  · cases h
theorem keyEqs_len : ∀ (xs ys : List GVal) (r : Bool), keyEqs xs ys = some r → xs.length = ys.length := by
  intro xs
  induction xs with
  | nil =>
    intro ys r h
    cases ys with
    | nil => rfl
    | cons y ys => simp [keyEqs] at h
  | cons x xs ih =>
    intro ys r h
    cases ys with
    | nil => cases x <;> simp [keyEqs] at h
    | cons y ys =>
      obtain ⟨_, _, _, r', _, _, h', _⟩ := keyEqs_cons h
      simp [ih ys r' h']
theorem tagg_int {e : TypeId} {k : IntKind} (he : P.underlying e = some (.int k)) : tagg P e = some false := by
  unfold tagg; rw [he]
theorem geqIn_key {t e : TypeId} {n : Nat} {k0 : IntKind} {xs ys : List GVal} {r : Bool} (h : GHeap) (d : Nat) (hu : P.underlying t = some (.array n e)) (he : P.underlying e = some (.int k0)) (hs : tsize P e = some 1)
    (hl : xs.length = n) (hq : keyEqs xs ys = some r) : geqIn P h (d + 2) t (.agg xs) (.agg ys) = some r := by
  have hl2 := keyEqs_len _ _ _ hq
  have key : ∀ (m i : Nat) (r : Bool), i + m = n → keyEqs (xs.drop i) (ys.drop i) = some r →
      (List.range' i m).foldr (fun i acc =>
          match gpart P e xs (i * 1), gpart P e ys (i * 1) with
          | some a, some b => andO (geqIn P h (d + 1) e a b) acc
          | _, _ => none) (some true) = some r := by
    intro m
    induction m with
    | zero =>
      intro i r hi hq
      rw [List.drop_eq_nil_of_le (by omega), List.drop_eq_nil_of_le (by omega)] at hq
      simpa [keyEqs] using hq
    | succ m ih =>
      intro i r hi hq
      have h1 : i < xs.length := by omega
      have h2 : i < ys.length := by omega
      rw [List.drop_eq_getElem_cons h1, List.drop_eq_getElem_cons h2] at hq
      obtain ⟨k, a, b, r', ha, hb, hq', rfl⟩ := keyEqs_cons hq
      rw [List.range'_succ, List.foldr_cons, ih (i + 1) r' (by omega) hq']
      have ga : gpart P e xs (i * 1) = some (.int k a) := by unfold gpart; rw [tagg_int he]; simp [List.getElem?_eq_getElem h1, ha]
      have gb : gpart P e ys (i * 1) = some (.int k b) := by unfold gpart; rw [tagg_int he]; simp [List.getElem?_eq_getElem h2, hb]
      rw [ga, gb]
      have : geqIn P h (d + 1) e (.int k a) (.int k b) = some (a == b) := by unfold geqIn; rw [he]; simp
      simp [this, andO]
  have := key n 0 r (by omega) (by simpa using hq)
  unfold geqIn
  rw [hu]
  simp only [hs]
  exact this

theorem keyFits_array {t e : TypeId} {n : Nat} {k : GVal} (hu : P.underlying t = some (.array n e)) (hk : keyFits P t k = true) : ∃ xs k0, k = .agg xs ∧ P.underlying e = some (.int k0) ∧ xs.length = n ∧ allInts xs = true ∧ tsize P e = some 1 := by
  unfold keyFits at hk
  rw [hu] at hk
  cases k <;> simp only [Bool.false_eq_true] at hk
  rename_i xs
  split at hk
  · rename_i k0 he
    simp only [Bool.and_eq_true, decide_eq_true_eq] at hk
    exact ⟨xs, k0, rfl, he, hk.1, hk.2.1, hk.2.2⟩
  · cases hk

theorem afind_sound (R : Rep gl m h w) {t e : TypeId} {n : Nat} {k : GVal} {u : Value} (hu : P.underlying t = some (.array n e)) (hk : keyFits P t k = true) (hv : VR m k u) : ∀ (es : List (GVal × GVal)) (es' : List MapEntry) (i : Nat) (r : Option (Nat × GVal)),
    ERel m es es' → gfind k es i = some r → ∃ r', (Instr.findAsking t u es' i).run P w = .ok r' w ∧ (match r with
      | none => r' = none
      | some (j, v) => ∃ v', r' = some (j, v') ∧ VR m v v') := by
  obtain ⟨xs, k0, rfl, he, hl, hai, hs⟩ := keyFits_array hu hk
  have ask : ∀ {q : GVal} {qv : Value} {r : Bool}, VR m q qv → keyEq (.agg xs) q = some r → (Op.equal t u qv).run P w = .ok r w := by
    intro q qv r hq hr
    cases q <;> simp only [keyEq, reduceCtorEq] at hr
    exact geqIn_sound R (0 + 2) Op.maxDepth t _ _ _ _ r (by decide) hv hq (geqIn_key h 0 hu he hs hl hr)
  intro es
  induction es with
  | nil => intro es' i r he hr; simp [gfind] at hr; subst hr; cases he; exact ⟨none, rfl, rfl⟩
  | cons e es ih =>
    obtain ⟨q, v⟩ := e
    intro es' i r he hr
    obtain ⟨e', rest, rfl, h1, h2, h3⟩ := he
    simp only [gfind] at hr
    split at hr
    · rename_i hq
      cases hr
      refine ⟨some (i, e'.val), ?_, _, rfl, h2⟩
      simp only [Instr.findAsking, Sem.run_bind, ask h1 hq, Result.andThen_ok, if_true, Sem.run_pure]
    · rename_i hq
      obtain ⟨r', g1, g2⟩ := ih rest (i + 1) r h3 hr
      refine ⟨r', ?_, g2⟩
      simp only [Instr.findAsking, Sem.run_bind, ask h1 hq, Result.andThen_ok, Bool.false_eq_true, if_false]
      exact g1
    · cases hr

theorem findKey_run {t : TypeId} {d : TypeDesc} {u : Value} {es : List MapEntry} {r : Option (Nat × Value)} (hd : P.underlying t = some d) (hf : Instr.findNow d u es 0 = some r) (w : World) :
    (Instr.findKey t u es).run P w = .ok r w := by
  simp only [Instr.findKey, Sem.run_bind, run_underlying hd, Result.andThen_ok, hf]
  rfl
theorem keyFits_desc {t : TypeId} {k : GVal} (hk : keyFits P t k = true) : ∃ d, P.underlying t = some d := by
  unfold keyFits at hk
  cases hu : P.underlying t with
  | none => rw [hu] at hk; cases hk
  | some d => exact ⟨d, rfl⟩
theorem findKey_sound (R : Rep gl m h w) {t : TypeId} {k : GVal} {u : Value} (hk : keyFits P t k = true) (hu : VR m k u) {es : List (GVal × GVal)} {es' : List MapEntry} {r : Option (Nat × GVal)}
    (he : ERel m es es') : gfind k es 0 = some r → ∃ r', (Instr.findKey t u es').run P w = .ok r' w ∧ (match r with
      | none => r' = none
      | some (j, v) => ∃ v', r' = some (j, v') ∧ VR m v v') := by
  intro hr
  obtain ⟨d, hd⟩ := keyFits_desc hk
  by_cases hna : ∃ n e, d = .array n e
  · obtain ⟨n, e, rfl⟩ := hna
    obtain ⟨r', g1, g2⟩ := afind_sound R hd hk hu es es' 0 r he hr
    refine ⟨r', ?_, g2⟩
    simp only [Instr.findKey, Sem.run_bind, run_underlying hd, Result.andThen_ok]
    cases es' with
    | nil =>
      simp only [Instr.findNow]
      simpa [Instr.findAsking] using g1
    | cons e' es' =>
      have : Instr.findNow (.array n e) u (e' :: es') 0 = none := by
        have hsn : Instr.sameNow (.array n e) u e'.key = none := by unfold Instr.sameNow; split <;> simp_all
        simp only [Instr.findNow, hsn]
      rw [this]
      exact g1
  · obtain ⟨r', g1, g2⟩ := gfind_sound hd hk (fun n e h => hna ⟨n, e, h⟩) hu es es' 0 r he hr
    exact ⟨r', findKey_run hd g1 w, g2⟩

theorem checkKey_ok {t : TypeId} {k : GVal} {u : Value} (hk : keyFits P t k = true) (hu : VR m k u) (e : Bool) (w : World) : (Instr.checkKey e 10000 t u).run P w = .ok () w := by
  have : (10000 : Nat) = 9998 + 1 + 1 := rfl
  rw [this]
  generalize 9998 = n
  have hk0 := hk
  unfold keyFits at hk
  split at hk
  · rename_i k' k2 n2 hd; cases hu; simp only [Instr.checkKey, Sem.run_bind, run_underlying hd, Result.andThen_ok]; rfl
  · rename_i s hd; cases hu; simp only [Instr.checkKey, Sem.run_bind, run_underlying hd, Result.andThen_ok]; rfl
  · rename_i b hd; cases hu; simp only [Instr.checkKey, Sem.run_bind, run_underlying hd, Result.andThen_ok]; rfl
  · rename_i len elem cs hd
    obtain ⟨xs, k0, hxs, he, hl, hai, hs⟩ := keyFits_array hd hk0
    cases hxs
    obtain ⟨us, rfl, hus⟩ := hu
    rw [show n + 1 + 1 = (n + 1) + 1 from rfl]
    unfold Instr.checkKey
    simp only [Sem.run_bind, run_underlying hd, Result.andThen_ok]
    have step : ∀ i, i < len → ∃ x, (part elem us.toArray (i * 1)).run P w = .ok x w ∧ (Instr.checkKey e (n + 1) elem x).run P w = .ok () w := by
      intro i hi
      have : gpart P elem cs (i * 1) = some cs[i] := by unfold gpart; rw [tagg_int he]; simp
      obtain ⟨v, h1, h2⟩ := gpart_sound hus this
      refine ⟨v, h2 w, ?_⟩
      unfold Instr.checkKey
      simp only [Sem.run_bind, run_underlying he, Result.andThen_ok]
      rfl
    simp only [Std.Legacy.Range.forIn_eq_forIn_range', Std.Legacy.Range.size, Nat.sub_zero, Nat.add_sub_cancel, Nat.div_one]
    have go : ∀ (m i : Nat), i + m = len → (forIn (List.range' i m) PUnit.unit (fun i _ => do
        Instr.checkKey e (n + 1) elem (← part elem us.toArray (i * (← sizeOf elem)))
        pure (ForInStep.yield PUnit.unit)) : Sem PUnit).run P w = .ok PUnit.unit w := by
      intro m
      induction m with
      | zero => intro i _; simp
      | succ m ih =>
        intro i hi
        obtain ⟨x, h1, h2⟩ := step i (by omega)
        rw [List.range'_succ]
        simp only [List.forIn_cons, Sem.run_bind, run_sizeOf hs, Result.andThen_ok, h1, h2, Sem.run_pure]
        exact ih (i + 1) (by omega)
    have := go len 0 (by omega)
    first
    | (rw [this]; rfl)
    | (simp only [bind_pure_comp] at this ⊢; rw [this]; rfl)
    | (simp at this ⊢; rw [this]; rfl)
  · cases hk

theorem Rep.map (R : Rep gl m h w) {id : Nat} {L : Loc} {es : List (GVal × GVal)} {ro : Bool} (hm : m id = some L) (ho : h[id]? = some (.map es ro)) :
    ∃ es' clock, w.heap[L.block]? = some (.map es' clock) ∧ ERel m es es'.toList := by
  obtain ⟨o', h1, es', cl, rfl, h2⟩ := R.rel id L _ hm ho
  exact ⟨es', cl, h1, h2⟩
theorem run_getMap {P : Program} {b : Nat} {es : Array MapEntry} {clock : Nat} (hb : w.heap[b]? = some (.map es clock)) : (getObj b).run P w = .ok (.map es clock) w := by
  simp [getObj, Sem.run, hb]

theorem entries_sound (R : Rep gl m h w) {x : GVal} {u : Value} {es : List (GVal × GVal)} (hx : VR m x u) (he : gentries h x = some es) :
    (∃ es' : Array MapEntry, ERel m es es'.toList ∧ ((u = .map none ∧ es' = #[]) ∨ ∃ b clock, u = .map (some b) ∧ w.heap[b]? = some (.map es' clock))) := by
  unfold gentries at he
  split at he
  · cases hx; cases he; exact ⟨#[], rfl, .inl ⟨rfl, rfl⟩⟩
  · obtain ⟨L, hL, rfl⟩ := hx
    split at he
    · rename_i es1 ro ho
      cases he
      obtain ⟨es', cl, g1, g2⟩ := R.map hL ho
      exact ⟨es', g2, .inr ⟨_, cl, rfl, g1⟩⟩
    · cases he
  · cases he

theorem lookup_sound (R : Rep gl m h w) {t : TypeId} {x k g : GVal} {u v : Value} {ok : Bool} (hx : VR m x u) (hk : VR m k v) (hg : glookup P h t x k ok = some g) :
    ∃ r, VR m g r ∧ (Instr.lookup t u v ok).run P w = .ok r w := by
  unfold glookup at hg
  split at hg
  · rename_i key elem hu
    split at hg
    · rename_i hkf
      split at hg
      · cases hg
      · rename_i es hes
        obtain ⟨es', h1, h2⟩ := entries_sound R hx hes
        have hget : (Instr.lookup t u v ok).run P w = (((do
            Instr.checkKey es'.isEmpty 10000 key v
            let (v, ok') ← match ← Instr.findKey key v es'.toList with
              | some (_, v) => pure (v, true)
              | none => pure (← zeroValue elem, false)
            pure (if ok then .tuple #[v, .bool ok'] else v)) : Sem Value)).run P w := by
          rcases h2 with ⟨rfl, rfl⟩ | ⟨b, cl, rfl, hb⟩
          · simp only [Instr.lookup, Sem.run_bind, run_underlying hu, Result.andThen_ok]
            rfl
          · simp only [Instr.lookup, Sem.run_bind, run_underlying hu, Result.andThen_ok, run_getMap hb]
            rfl
        rw [hget]
        simp only [Sem.run_bind, checkKey_ok hkf hk, Result.andThen_ok]
        split at hg
        · rename_i i v0 hf
          cases hg
          obtain ⟨r', g1, v', rfl, g3⟩ := findKey_sound R hkf hk h1 hf
          rw [g1]
          cases ok
          · exact ⟨v', g3, by simp⟩
          · exact ⟨.tuple #[v', .bool true], ⟨[v', .bool true], rfl, ⟨_, _, rfl, g3, ⟨_, [], rfl, rfl, rfl⟩⟩⟩, by simp⟩
        · rename_i z hf hz
          cases hg
          obtain ⟨r', g1, rfl⟩ := findKey_sound R hkf hk h1 hf
          obtain ⟨_, _, zv, hzrun, hzr⟩ := run_zero hz
          rw [g1]
          cases ok
          · exact ⟨zv, hzr m, by simp [hzrun w]⟩
          · exact ⟨.tuple #[zv, .bool false], ⟨[zv, .bool false], rfl, ⟨_, _, rfl, hzr m, ⟨_, [], rfl, rfl, rfl⟩⟩⟩, by simp [hzrun w]⟩
        · cases hg
    · cases hg
  · cases hg

theorem load_sound (R : Rep gl m h w) {t : TypeId} {a : GVal} {u : Value} {id off : Nat} {g : GVal} (ha : VR m a u) (hae : a = .ptr (some (id, off)))
    (hg : (tagg P t = some false ∧ gload h id off = some g) ∨ (tagg P t = some true ∧ ∃ n, tsize P t = some n ∧ (gloads h id off n).map .agg = some g)) :
    ∃ v, VR m g v ∧ (Instr.loadAt t u).run P w = .ok v w := by
  subst hae
  obtain ⟨L, hL, rfl⟩ := ha
  rcases hg with ⟨h1, h2⟩ | ⟨h1, n, h2, h3⟩
  · obtain ⟨v, g1, g2⟩ := gload_cell R hL h2
    refine ⟨v, g2, ?_⟩
    simp only [Instr.loadAt, Instr.sureAddr, Sem.run_bind, Sem.run_pure, Result.andThen_ok, loadVar, run_isAgg h1, Bool.false_eq_true, if_false, run_load_cell g1]
  · simp only [Option.map_eq_some_iff] at h3
    obtain ⟨l, hl, rfl⟩ := h3
    obtain ⟨vs, g1, g2, _⟩ := gloads_cells (P := P) R hL hl
    refine ⟨.agg vs.toArray, ⟨vs, rfl, g2⟩, ?_⟩
    simp only [Instr.loadAt, Instr.sureAddr, Sem.run_bind, Sem.run_pure, Result.andThen_ok, loadVar, run_isAgg h1, if_true, run_sizeOf h2, g1 w rfl]

theorem load_gop {ev : Operand → GVal} {o : Oper} {t : TypeId} {a : Operand} {g : GVal} {h' : GHeap} (ho : o.op = .load t a) (hg : (gop P ev o h).opt = some (g, h')) :
    h' = h ∧ ∃ id off, ev a = .ptr (some (id, off)) ∧ ((tagg P t = some false ∧ gload h id off = some g) ∨ (tagg P t = some true ∧ ∃ n, tsize P t = some n ∧ (gloads h id off n).map .agg = some g)) := by
  unfold gop at hg
  rw [ho] at hg
  dsimp only at hg
  split at hg
  · rename_i id off h1 h2
    obtain ⟨v, h3, h4⟩ := dst_opt hg
    cases h4
    exact ⟨rfl, id, off, h1, .inl ⟨h2, h3⟩⟩
  · rename_i id off h1 h2
    split at hg
    · rename_i n hn
      obtain ⟨v, h3, h4⟩ := dst_opt hg
      cases h4
      exact ⟨rfl, id, off, h1, .inr ⟨h2, n, hn, h3⟩⟩
    · cases hg
  · cases hg

/-- '==' and '!=' that may look at memory. -/
theorem binOp_any (R : Rep gl m h w) {op : BinOp} {t : TypeId} {x y : Operand} {a b g : GVal} {u v : Value} (hx : VR m a u) (hy : VR m b v)
    (hg : (gbinOp P h op t a b).opt = some g) :
    ∃ r, VR m g r ∧ (do eqGuard op t x y u v; binOp op t u v : Sem Value).run P w = .ok r w := by
  by_cases hop : op = .eql ∨ op = .neq
  · by_cases hi : ∃ k i l j, a = .int k i ∧ b = .int l j
    · obtain ⟨k, i, l, j, rfl, rfl⟩ := hi
      cases hx; cases hy
      have hq : (GM.req (k = l) inferInstance (gintOp op k i j)).opt = some g := by
        rcases hop with rfl | rfl <;> exact hg
      obtain ⟨h0, hq1⟩ := req_opt hq
      cases h0
      have ho1 : op ≠ .shl := by rcases hop with rfl | rfl <;> simp
      have ho2 : op ≠ .shr := by rcases hop with rfl | rfl <;> simp
      obtain ⟨r, h1, h2⟩ := gintOp_sound (m := m) (P := P) (t := t) ho1 ho2 hq1
      exact ⟨r, h1, by simp only [Sem.run_bind, eqGuard_ok (m := m) (a := .int k i) (b := .int k j) (u := .int k i) (v := .int k j) rfl rfl (by simp) (by simp) rfl, Result.andThen_ok, h2 w]⟩
    · by_cases hs : ∃ i j, a = .str i ∧ b = .str j
      · obtain ⟨i, j, rfl, rfl⟩ := hs
        cases hx; cases hy
        have hq : (gstrOp op i j).opt = some g := by
          rcases hop with rfl | rfl <;> exact hg
        obtain ⟨r, h1, h2⟩ := gstrOp_sound (m := m) (P := P) (t := t) hq
        exact ⟨r, h1, by simp only [Sem.run_bind, eqGuard_ok (m := m) (a := .str i) (b := .str j) (u := .string ⟨i.toArray⟩) (v := .string ⟨j.toArray⟩) rfl rfl (by simp) (by simp) rfl, Result.andThen_ok, h2 w]⟩
      · have n1 : ∀ k x l y, a = .int k x → b = .int l y → False := fun k x l y e f => hi ⟨k, x, l, y, e, f⟩
        have n2 : ∀ x y, a = .str x → b = .str y → False := fun x y e f => hs ⟨x, y, e, f⟩
        rcases hop with rfl | rfl
        · have hq : (if eqFree P t a b then GM.dst .bool ((geq P h t a b).map .bool) .ret else GM.fail).opt = some g := by
            unfold gbinOp at hg
            split at hg
            all_goals first | exact hg | exact (n1 _ _ _ _ rfl rfl).elim | exact (n2 _ _ rfl rfl).elim | (exfalso; simp_all; done)
          split at hq
          · rename_i hf
            obtain ⟨r, hr, hq1⟩ := dst_opt hq
            cases hq1
            simp only [Option.map_eq_some_iff] at hr
            obtain ⟨bb, hq2, rfl⟩ := hr
            have hto := geqIn_told hq2
            have he : (Op.equal t u v).run P w = .ok bb w := geqIn_sound R 100 10000 t a b u v bb (by omega) hx hy hq2
            exact ⟨_, rfl, by simp only [Sem.run_bind, eqGuard_ok hx hy hto.1 hto.2 hf, Result.andThen_ok, (binOp_eql' hx hy hto.1 hto.2 n1 n2 he).1]⟩
          · cases hq
        · have hq : (if eqFree P t a b then GM.dst .bool ((geq P h t a b).map fun b => .bool (!b)) .ret else GM.fail).opt = some g := by
            unfold gbinOp at hg
            split at hg
            all_goals first | exact hg | exact (n1 _ _ _ _ rfl rfl).elim | exact (n2 _ _ rfl rfl).elim | (exfalso; simp_all; done)
          split at hq
          · rename_i hf
            obtain ⟨r, hr, hq1⟩ := dst_opt hq
            cases hq1
            simp only [Option.map_eq_some_iff] at hr
            obtain ⟨bb, hq2, rfl⟩ := hr
            have hto := geqIn_told hq2
            have he : (Op.equal t u v).run P w = .ok bb w := geqIn_sound R 100 10000 t a b u v bb (by omega) hx hy hq2
            exact ⟨_, rfl, by simp only [Sem.run_bind, eqGuard_ok hx hy hto.1 hto.2 hf, Result.andThen_ok, (binOp_eql' hx hy hto.1 hto.2 n1 n2 he).2]⟩
          · cases hq
  · have hop' : op ≠ .eql ∧ op ≠ .neq := ⟨fun e => hop (.inl e), fun e => hop (.inr e)⟩
    obtain ⟨r, h1, h2⟩ := binOp_still (P := P) (x := x) (y := y) hx hy (.inl hop') hg
    exact ⟨r, h1, h2 w⟩

theorem ERel.length {m : Mp} : {g : List (GVal × GVal)} → {v : List MapEntry} → ERel m g v → v.length = g.length
  | [], _, h => by cases h; rfl
  | (_, _) :: _, _, ⟨_, _, h1, _, _, h4⟩ => by cases h1; simp [ERel.length h4]

theorem maplen_sound (R : Rep gl m h w) {t k e : TypeId} {x : GVal} {u : Value} {es : List (GVal × GVal)} {ats : Array TypeId} {ty : TypeId} (ht : ats[0]? = some t) (hu : P.underlying t = some (.map k e)) (hx : VR m x u) (he : gentries h x = some es) :
    (Builtin.len_ ats ty #[u]).run P w = .ok (.int .i64 es.length) w := by
  obtain ⟨es', h1, h2⟩ := entries_sound R hx he
  have hlen := h1.length
  rcases h2 with ⟨rfl, rfl⟩ | ⟨b, cl, rfl, hb⟩
  · simp only [Builtin.len_, ht, List.getElem?_toArray, List.getElem?_cons_zero, Sem.run_bind, run_underlying hu, Result.andThen_ok]
    have : es.length = 0 := by simpa using hlen.symm
    rw [this]; rfl
  · simp only [Builtin.len_, ht, List.getElem?_toArray, List.getElem?_cons_zero, Sem.run_bind, run_underlying hu, Result.andThen_ok, run_getMap hb]
    have hlen' : es'.size = es.length := by simpa using hlen
    simp [goInt, hlen']

theorem read_sound (R : Rep gl m h w) {ρ : Operand → Value} {ev : Operand → GVal} (hev : EvR m ev ρ) {o : Oper} {h' : GHeap} {g : GVal} (hc : opClass P o = .read) (hg : (gop P ev o h).opt = some (g, h')) :
    h' = h ∧ ∃ v, VR m g v ∧ OpRuns P ρ o w v w := by
  obtain ⟨dst, op, ty, pos, aft, gd⟩ := o
  cases op with
  | load t a =>
    obtain ⟨rfl, id, off, h1, h2⟩ := load_gop rfl hg
    obtain ⟨v, h3, h4⟩ := load_sound R (hev a) h1 h2
    exact ⟨rfl, v, h3, runs_v rfl h4⟩
  | lookup t x k ok =>
    simp only [gop] at hg
    obtain ⟨v, hv, h2⟩ := dst_opt hg
    cases h2
    obtain ⟨r, h3, h4⟩ := lookup_sound R (hev x) (hev k) hv
    exact ⟨rfl, r, h3, runs_v rfl h4⟩
  | binOp op t x y t2 =>
    obtain ⟨rfl, hg2⟩ := pure_opt hg
    obtain ⟨r, h1, h2⟩ := binOp_any R (x := x) (y := y) (hev x) (hev y) hg2
    exact ⟨rfl, r, h1, runs_v rfl h2⟩
  | call c =>
    obtain ⟨callee, args, ats⟩ := c
    cases callee with
    | builtin b =>
      have hb : b = .len ∧ ∃ t k e, ats[0]? = some t ∧ P.underlying t = some (.map k e) := by
        cases b <;> simp only [opClass, reduceCtorEq] at hc
        refine ⟨rfl, ?_⟩
        split at hc
        · rename_i k e hh
          simp only [Option.bind_eq_some_iff] at hh
          obtain ⟨t, h1, h2⟩ := hh
          exact ⟨t, k, e, h1, h2⟩
        all_goals cases hc
      obtain ⟨rfl, t, k, e, ht, hu⟩ := hb
      have hx : ∃ x, args.toList.map ev = [x] ∧ (GM.dst (.int .i64) ((gentries h x).map fun es => GVal.int .i64 es.length) fun v => GM.ret (v, h)).opt = some (g, h') := by
        simp only [gop, gbuiltin] at hg
        split at hg
        · rename_i t' x _ ht' hx
          rw [ht] at ht'; cases ht'
          rw [hu] at hg
          exact ⟨x, hx, hg⟩
        all_goals first | (exfalso; simp_all; done) | (cases hg; done)
      obtain ⟨x, hx, hg1⟩ := hx
      obtain ⟨a, rfl, ha⟩ := args1 hx
      obtain ⟨v, hv, hg2⟩ := dst_opt hg1
      cases hg2
      simp only [Option.map_eq_some_iff] at hv
      obtain ⟨es, hes, rfl⟩ := hv
      have hva := hev a
      rw [ha] at hva
      refine ⟨rfl, _, rfl, .inl ?_⟩
      have := maplen_sound R (P := P) (ty := ty) ht hu hva hes
      simp only [execOp, resolve, Sem.run_bind, Sem.run_pure, Result.andThen_ok, invoke, builtin]
      rw [show (#[a].map ρ) = #[ρ a] from by simp, this]
      rfl
    | _ => simp [opClass] at hc
  | convert s d x => (simp only [opClass] at hc; split at hc; cases hc; (split at hc <;> cases hc))
  | _ => simp [opClass] at hc
end
end Gh

