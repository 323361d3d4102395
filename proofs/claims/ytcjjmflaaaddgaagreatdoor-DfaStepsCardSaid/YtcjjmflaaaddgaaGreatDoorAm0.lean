/-
  An abstract machine for closed calls, part 0: what it evaluates, the model's call comes to.
-/
import Derived.Calls
import Derived.Orders
import Derived.LoopN
import Derived.Below
import Derived.KernelRfl
import Derived.Laws.Cells
import Derived.Laws.Tables
import Derived.Lib.Strings
import Derived.Laws.StructEq
import Derived.IntWalk
import Derived.Lib.UnsafeStr
import Derived.Lib.Builder
import Derived.Laws.BytesArg
/-
  An abstract machine for closed calls: values whose addresses are numbers of objects, objects whose first cells are known.
-/
namespace Go.Proofs.YtcjjmflaaaddgaaGreatDoor.Am
open Go

/-- A value, with numbers of objects in the place of blocks; a text as its bytes' numbers. A slice's last two parts: 0 where its capacity is known, else the cells of an element; the capacity (or the least that it can be). -/
inductive AV where
  | bool (b : Bool)
  | int (k : IntKind) (n : Int)
  | str (s : List Nat)
  | nilPtr
  | ptr (id off : Nat)
  | nilSlice
  | slice (id off len ex cap : Nat)
  | nilMap
  | map (id : Nat)
  | func (f : FuncId) (first captured : List AV)
  | nilFunc
  | iface (t : TypeId) (v : AV)
  | nilIface
  | agg (cs : List AV)
  | tuple (vs : List AV)
  deriving Inhabited

def AV.undef : AV := .tuple []
def AV.cells : AV → List AV
  | .agg cs => cs
  | v => [v]
def AV.one : AV → Bool
  | .agg _ | .tuple _ => false
  | _ => true

/-- An object. len: how many cells; lo, hi: those that a string shares; whole: there are no more cells than these. -/
inductive AO where
  | cells (c : List AV) (len : Nat) (elem : TypeId) (lo hi : Nat) (whole : Bool)
  | map (es : List (AV × AV × Nat)) (clock : Nat)
  | iter (s : List Nat) (pos : Nat)
  | dead
  deriving Inhabited

inductive Trie (α : Type) where
  | leaf
  | node (l : Trie α) (v : Option α) (r : Trie α)
  deriving Inhabited

/-! Lists and tries by the recursors themselves: the kernel reckons with them. -/
section
variable {α : Type}
noncomputable def Trie.get (t : Trie α) : Nat → Option α :=
  Trie.rec (motive := fun _ => Nat → Option α) (fun _ => none)
    (fun _ v _ gl gr n => cond (Nat.beq n 0) v (cond (Nat.beq (n % 2) 1) (gl (n / 2)) (gr ((n - 2) / 2)))) t
def Trie.left (t : Trie α) : Trie α := Trie.casesOn t .leaf (fun l _ _ => l)
def Trie.right (t : Trie α) : Trie α := Trie.casesOn t .leaf (fun _ _ r => r)
def Trie.here (t : Trie α) : Option α := Trie.casesOn t none (fun _ v _ => v)
noncomputable def Trie.set (k : Nat) : Trie α → Nat → α → Trie α :=
  Nat.rec (motive := fun _ => Trie α → Nat → α → Trie α) (fun t _ _ => t)
    (fun _ ih t n x => cond (Nat.beq n 0) (.node t.left (some x) t.right)
      (cond (Nat.beq (n % 2) 1) (.node (ih t.left (n / 2) x) t.here t.right) (.node t.left t.here (ih t.right ((n - 2) / 2) x)))) k
noncomputable def ldrop (n : Nat) : List α → List α :=
  Nat.rec (motive := fun _ => List α → List α) (fun l => l) (fun _ ih l => List.casesOn l [] (fun _ t => ih t)) n
noncomputable def ltake (n : Nat) : List α → List α :=
  Nat.rec (motive := fun _ => List α → List α) (fun _ => []) (fun _ ih l => List.casesOn l [] (fun a t => a :: ih t)) n
noncomputable def llen (l : List α) : Nat := List.rec (motive := fun _ => Nat) 0 (fun _ _ n => n + 1) l
noncomputable def lapp (l m : List α) : List α := List.rec (motive := fun _ => List α) m (fun a _ r => a :: r) l
noncomputable def lall (p : α → Bool) (l : List α) : Bool := List.rec (motive := fun _ => Bool) true (fun a _ r => cond (p a) r false) l
noncomputable def lget (n : Nat) (l : List α) : Option α := List.casesOn (ldrop n l) none (fun a _ => some a)
noncomputable def lset (n : Nat) (x : α) : List α → List α :=
  Nat.rec (motive := fun _ => List α → List α) (fun l => List.casesOn l [] (fun _ t => x :: t)) (fun _ ih l => List.casesOn l [] (fun a t => a :: ih t)) n
noncomputable def lerase (n : Nat) : List α → List α :=
  Nat.rec (motive := fun _ => List α → List α) (fun l => List.casesOn l [] (fun _ t => t)) (fun _ ih l => List.casesOn l [] (fun a t => a :: ih t)) n
end
noncomputable def leq (l : List Nat) : List Nat → Bool :=
  List.rec (motive := fun _ => List Nat → Bool) (fun m => List.casesOn m true (fun _ _ => false)) (fun a _ ih m => List.casesOn m false (fun b r => cond (Nat.beq a b) (ih r) false)) l
/-- Of two texts the first one is less. -/
noncomputable def llt (l : List Nat) : List Nat → Bool :=
  List.rec (motive := fun _ => List Nat → Bool) (fun m => List.casesOn m false (fun _ _ => true)) (fun a _ ih m => List.casesOn m false (fun b r => cond (Nat.beq a b) (ih r) (Nat.ble (a + 1) b))) l

/-- What is read or written: of an object the keys from lo on and below hi: 0 is all but its cells, i + 1 its cell i. -/
structure Acc where
  id : Nat
  lo : Nat
  hi : Nat
structure AS where
  heap : Trie AO
  next : Nat
  reads : List Acc
  writes : List Acc
  deriving Inhabited

inductive Rs (α : Type) where
  | ok (a : α) (s : AS)
  | err (why : List Nat)

def SM (α : Type) : Type := AS → Rs α
def SM.fail {α : Type} (n : Nat) : SM α := fun _ => .err [n]
def SM.bind {α β : Type} (m : SM α) (f : α → SM β) : SM β := fun s =>
  match m s with
  | .ok a t => f a t
  | .err e => .err e
instance : Monad SM where
  pure a := fun s => .ok a s
  bind := SM.bind
def SM.lift {α : Type} (n : Nat) : Option α → SM α
  | some a => pure a
  | none => SM.fail n
def SM.check (n : Nat) (b : Bool) : SM Unit := fun s => cond b (.ok () s) (.err [n])
/-- Where it fails is said. -/
def SM.mark {α : Type} (n : Nat) (m : SM α) : SM α := fun s =>
  match m s with
  | .ok a t => .ok a t
  | .err e => .err (n :: e)

def cap30 : Nat := 1073741824
/-- From here on objects are the call's own; below: package-level variables, never written. -/
def own0 : Nat := 64
def ownB (id : Nat) : Bool := Nat.ble own0 id && Nat.ble id 1073741823

noncomputable def getO (id : Nat) : SM AO := fun s =>
  match s.heap.get id with
  | some o => .ok o ⟨s.heap, s.next, ⟨id, 0, cap30⟩ :: s.reads, s.writes⟩
  | none => .err [1]
noncomputable def putO (id : Nat) (o : AO) : SM Unit := fun s =>
  cond (ownB id) (.ok () ⟨s.heap.set 32 id o, s.next, s.reads, ⟨id, 0, cap30⟩ :: s.writes⟩) (.err [2])
noncomputable def newO (o : AO) : SM Nat := fun s =>
  cond (ownB s.next) (.ok s.next ⟨s.heap.set 32 s.next o, s.next + 1, s.reads, ⟨s.next, 0, cap30⟩ :: s.writes⟩) (.err [3])
/-- Of a row of cells: some of them, and what else it has. -/
structure Cells where
  c : List AV
  len : Nat
  e : TypeId
  lo : Nat
  hi : Nat
  whole : Bool
noncomputable def readR (id off n : Nat) : SM Cells := fun s =>
  match s.heap.get id with
  | some (.cells c len e lo hi w) => cond (Nat.ble (off + n) len) (.ok ⟨ltake n (ldrop off c), len, e, lo, hi, w⟩ ⟨s.heap, s.next, ⟨id, 0, 1⟩ :: ⟨id, off + 1, off + n + 1⟩ :: s.reads, s.writes⟩) (.err [21])
  | _ => .err [20]
/-- Where cells are written over. -/
noncomputable def splice (c : List AV) (off : Nat) (vs : List AV) : List AV := lapp (ltake off c) (lapp vs (ldrop (off + llen vs) c))
noncomputable def writeR (id off : Nat) (vs : List AV) : SM Unit := fun s =>
  match s.heap.get id with
  | some (.cells c len e lo hi w) =>
    cond (ownB id && Nat.ble (off + llen vs) len && lall AV.one vs && (Nat.ble hi lo || Nat.ble hi off || Nat.ble (off + llen vs) lo))
      (.ok () ⟨s.heap.set 32 id (.cells (splice c off vs) len e lo hi w), s.next, ⟨id, 0, 1⟩ :: s.reads, ⟨id, off + 1, off + llen vs + 1⟩ :: s.writes⟩)
      (.err [22])
  | _ => .err [20]
/-- Cells from off on are shared by a string from now on. -/
noncomputable def freezeR (id off n : Nat) : SM Unit := fun s =>
  match s.heap.get id with
  | some (.cells c len e lo hi w) =>
    cond (ownB id && Nat.ble (off + n) len)
      (.ok () ⟨s.heap.set 32 id (cond (Nat.beq lo hi) (.cells c len e off (off + n) w) (.cells c len e (min lo off) (max hi (off + n)) w)), s.next, ⟨id, 0, 1⟩ :: s.reads, ⟨id, 0, 1⟩ :: s.writes⟩)
      (.err [28])
  | _ => .err [20]
/-- What is read and written meanwhile is told, too. -/
def isolate {α : Type} (m : SM α) : SM (α × List Acc × List Acc) := fun s =>
  match m ⟨s.heap, s.next, [], []⟩ with
  | .ok a t => .ok (a, t.reads, t.writes) ⟨t.heap, t.next, t.reads ++ s.reads, t.writes ++ s.writes⟩
  | .err e => .err e

/-! Numbers. -/
def intLt (x y : Int) : Bool :=
  match x, y with
  | .ofNat a, .ofNat b => Nat.ble (a + 1) b
  | .ofNat _, .negSucc _ => false
  | .negSucc _, .ofNat _ => true
  | .negSucc a, .negSucc b => Nat.ble (b + 1) a
def intEq (x y : Int) : Bool :=
  match x, y with
  | .ofNat a, .ofNat b => Nat.beq a b
  | .negSucc a, .negSucc b => Nat.beq a b
  | _, _ => false
/-- What fits is not turned. -/
def wrapA (k : IntKind) (n : Int) : Int :=
  match k, n with
  | .i64, .ofNat m => cond (Nat.ble m 4611686018427387904) n (k.wrap n)
  | k, n => k.wrap n
def kindEq (j k : IntKind) : Bool :=
  match j, k with
  | .i64, .i64 | .i32, .i32 | .i16, .i16 | .i8, .i8 | .u64, .u64 | .u32, .u32 | .u16, .u16 | .u8, .u8 => true
  | _, _ => false
/-- 0 ≤ i < n. -/
def inB (i : Int) (n : Nat) : Option Nat :=
  match i with
  | .ofNat m => cond (Nat.ble (m + 1) n) (some m) none
  | .negSucc _ => none
/-- 0 ≤ i ≤ n. -/
def upB (i : Int) (n : Nat) : Option Nat :=
  match i with
  | .ofNat m => cond (Nat.ble m n) (some m) none
  | .negSucc _ => none

/-! Constants. -/
def ofScalar : Value → Option AV
  | .bool b => some (.bool b)
  | .int k n => some (.int k n)
  | .string s => some (.str (s.data.toList.map UInt8.toNat))
  | .pointer none => some .nilPtr
  | .slice none 0 0 => some .nilSlice
  | .map none => some .nilMap
  | .nilFunc => some .nilFunc
  | .nilIface => some .nilIface
  | _ => none
def ofScalars : List Value → Option (List AV)
  | [] => some []
  | v :: r =>
    match ofScalar v, ofScalars r with
    | some a, some l => some (a :: l)
    | _, _ => none
def ofConst : Value → Option AV
  | .agg cs =>
    match ofScalars cs.toList with
    | some l => some (.agg l)
    | none => none
  | .tuple cs =>
    match ofScalars cs.toList with
    | some l => some (.tuple l)
    | none => none
  | v => ofScalar v
def orUndef : Option AV → AV
  | some v => v
  | none => .undef
noncomputable def eval (tmps : Trie AV) : Operand → Option AV
  | .tmp t => some (orUndef (tmps.get t))
  | .const v => ofConst v
  | .global g => cond (Nat.ble (g + 1) own0) (some (.ptr g 0)) none
  | .func f => some (.func f [] [])
def evalParts (ρ : Operand → Option AV) : List (Nat × Operand) → Option (List (Nat × AV))
  | [] => some []
  | (i, x) :: r =>
    match ρ x, evalParts ρ r with
    | some v, some l => some ((i, v) :: l)
    | _, _ => none
def evalAll (ρ : Operand → Option AV) : List Operand → Option (List AV)
  | [] => some []
  | x :: r =>
    match ρ x, evalAll ρ r with
    | some v, some l => some (v :: l)
    | _, _ => none

section
variable (P : Program)
/-! Types: what stands here hangs on the program alone. -/
/-- How many cells a struct or an array has. -/
def aggSize (t : TypeId) : Option (Option Nat) :=
  match P.underlying t, P.info? t with
  | some (.struct _), some i => some (some i.size)
  | some (.array _ _), some i => some (some i.size)
  | some _, some _ => some none
  | _, _ => none
def sizeOf? (t : TypeId) : Option Nat :=
  match P.info? t with
  | some i => some i.size
  | none => none
def zeroOf? (t : TypeId) : Option AV :=
  match P.info? t with
  | some i =>
    match i.zero with
    | some v => ofConst v
    | none => none
  | none => none
/-- A slice's element type, its cells, its bytes. -/
def elemOf? (t : TypeId) : Option (TypeId × Nat × Nat) :=
  match P.underlying t with
  | some (.slice e) =>
    match P.info? e with
    | some i => some (e, i.size, i.bytes)
    | none => none
  | _ => none
/-- A struct's field: its place, its cells, is it itself a struct or an array. -/
def fieldOf? (t : TypeId) (f : Nat) : Option (TypeId × Nat) :=
  match P.underlying t with
  | some (.struct fs) =>
    match fs[f]? with
    | some fd => some (fd.type, fd.offset)
    | none => none
  | _ => none
/-- What an index means: of an array so long, or of a slice; the element's type and cells. -/
def rowOf? (t : TypeId) : Option (Option Nat × TypeId × Nat) :=
  match P.underlying t with
  | some (.array n e) =>
    match P.info? e with
    | some i => some (some n, e, i.size)
    | none => none
  | some (.slice e) =>
    match P.info? e with
    | some i => some (none, e, i.size)
    | none => none
  | _ => none

noncomputable def readCells (id off n : Nat) : SM (List AV) := do pure (← readR id off n).c
noncomputable def loadV (t : TypeId) (id off : Nat) : SM AV := do
  match ← SM.lift 10 (aggSize P t) with
  | some n => do pure (.agg (← readCells id off n))
  | none => do
    match ← readCells id off 1 with
    | [v] => pure v
    | _ => SM.fail 23
noncomputable def storeV (t : TypeId) (id off : Nat) (v : AV) : SM Unit := do
  let n ← SM.lift 11 (sizeOf? P t)
  SM.check 24 (Nat.beq (llen v.cells) n)
  writeR id off v.cells
/-- A part of a value in hand. -/
noncomputable def partOf? (t : TypeId) (cs : List AV) (off : Nat) : Option AV :=
  match aggSize P t with
  | some (some n) => some (.agg (ltake n (ldrop off cs)))
  | some none => lget off cs
  | none => none
noncomputable def newCells (elem : TypeId) (vs : List AV) : SM Nat := do
  SM.check 26 (lall AV.one vs)
  newO (.cells vs (llen vs) elem 0 0 true)
noncomputable def newGrown (elem : TypeId) (vs : List AV) (lo hi : Nat) : SM Nat := do
  SM.check 27 (lall AV.one vs)
  newO (.cells vs (llen vs) elem lo hi false)

noncomputable def fillC (place : Nat → Option (Nat × Nat)) (cells : List AV) : List (Nat × AV) → Option (List AV)
  | [] => some cells
  | (i, v) :: rest =>
    match place i with
    | none => none
    | some (off, size) => cond (Nat.beq (llen v.cells) size && Nat.ble (off + size) (llen cells)) (fillC place (splice cells off v.cells) rest) none
def placesOf : List Field → Option (List (Nat × Nat))
  | [] => some []
  | f :: r =>
    match P.info? f.type, placesOf r with
    | some i, some l => some ((f.offset, i.size) :: l)
    | _, _ => none
/-- Where parts of a struct or an array lie. -/
def buildPlaces (t : TypeId) : Option (Nat → Option (Nat × Nat)) :=
  match P.underlying t with
  | some (.struct fields) =>
    match placesOf P fields.toList with
    | some l => some (l[·]?)
    | none => none
  | some (.array _ elem) =>
    match P.info? elem with
    | some i => some fun j => some (j * i.size, i.size)
    | none => none
  | _ => none
noncomputable def buildA (t : TypeId) (parts : List (Nat × AV)) : SM AV := do
  let zero ← SM.lift 30 (zeroOf? P t)
  let pl ← SM.lift 31 (buildPlaces P t)
  let cs ← SM.lift 32 (fillC pl zero.cells parts)
  pure (.agg cs)
/-- The zero of n elements. -/
noncomputable def zerosOf (n : Nat) (z : List AV) : List AV := Nat.rec [] (fun _ r => lapp z r) n
noncomputable def buildSliceA (t : TypeId) (len : Nat) (parts : List (Nat × AV)) : SM AV := do
  let (elem, size, _) ← SM.lift 33 (elemOf? P t)
  let zero ← SM.lift 34 (zeroOf? P elem)
  SM.check 35 (Nat.beq (llen zero.cells) size && Nat.ble 1 size && Nat.ble (len * size) 65536)
  let cs ← SM.lift 36 (fillC (fun j => some (j * size, size)) (zerosOf len zero.cells) parts)
  let id ← newCells elem cs
  pure (.slice id 0 len 0 len)

/-- 0 ≤ i ≤ y, as a number; d, if none is given. -/
def optBound (v : Option AV) (y d : Nat) : Option Nat :=
  match v with
  | some (.int _ i) => upB i y
  | some _ => none
  | none => some d
/-- lo, hi, max of a slice expression. -/
def boundsA (len cap : Nat) (lo hi mx : Option AV) : Option (Nat × Nat × Nat) :=
  match optBound mx cap cap with
  | none => none
  | some m =>
    match hi, mx with
    | none, some _ => none
    | hi, _ =>
      match optBound hi m len with
      | none => none
      | some h =>
        match optBound lo h 0 with
        | none => none
        | some l => some (l, h, m)
noncomputable def sliceA (t : TypeId) (x : AV) (lo hi mx : Option AV) : SM AV := do
  match ← SM.lift 40 (P.underlying t), x with
  | .string, .str s =>
    match mx with
    | some _ => SM.fail 43
    | none => do
      let (l, h, _) ← SM.lift 41 (boundsA (llen s) (llen s) lo hi none)
      pure (.str (ltake (h - l) (ldrop l s)))
  | .slice elem, .nilSlice => do
    let _ ← SM.lift 46 (sizeOf? P elem)
    let (l, h, m) ← SM.lift 41 (boundsA 0 0 lo hi mx)
    SM.check 44 (Nat.beq l 0 && Nat.beq h 0 && Nat.beq m 0)
    pure .nilSlice
  | .slice elem, .slice id off len ex cap => do
    let size ← SM.lift 46 (sizeOf? P elem)
    let (l, h, m) ← SM.lift 41 (boundsA len cap lo hi mx)
    -- where the capacity is not known, the place of an empty rest is not known either
    let ex' := cond mx.isSome 0 ex
    SM.check 47 (Nat.beq ex 0 || Nat.beq ex size)
    pure (.slice id (cond (Nat.beq ex' 0 && Nat.beq m l) off (off + l * size)) (h - l) ex' (m - l))
  | .array n elem, .ptr id off => do
    let size ← SM.lift 46 (sizeOf? P elem)
    let (l, h, m) ← SM.lift 41 (boundsA n n lo hi mx)
    pure (.slice id (cond (Nat.beq m l) off (off + l * size)) (h - l) 0 (m - l))
  | _, _ => SM.fail 45
def fieldAddrA (t : TypeId) (x : AV) (f : Nat) : SM AV := do
  let (ft, o) ← SM.lift 46 (fieldOf? P t f)
  let size ← SM.lift 47 (sizeOf? P ft)
  SM.check 48 (!Nat.beq size 0)
  match x with
  | .ptr id off => pure (.ptr id (off + o))
  | _ => SM.fail 49
noncomputable def fieldA (t : TypeId) (x : AV) (f : Nat) : SM AV := do
  let (ft, o) ← SM.lift 46 (fieldOf? P t f)
  match x with
  | .agg cs => SM.lift 50 (partOf? P ft cs o)
  | _ => SM.fail 51
def indexAddrA (t : TypeId) (x ix : AV) : SM AV := do
  let (n, _, size) ← SM.lift 52 (rowOf? P t)
  match n, x, ix with
  | some n, .ptr id off, .int _ i => do
    let j ← SM.lift 53 (inB i n)
    pure (.ptr id (off + j * size))
  | none, .slice id off len _ _, .int _ i => do
    let j ← SM.lift 53 (inB i len)
    pure (.ptr id (off + j * size))
  | _, _, _ => SM.fail 54
noncomputable def indexA (t : TypeId) (x ix : AV) : SM AV := do
  match ← SM.lift 55 (P.underlying t), x, ix with
  | .array n elem, .agg cs, .int _ i => do
    let size ← SM.lift 56 (sizeOf? P elem)
    let j ← SM.lift 53 (inB i n)
    SM.lift 57 (partOf? P elem cs (j * size))
  | .string, .str s, .int _ (.ofNat i) => do
    let b ← SM.lift 58 (lget i s)
    pure (.int .u8 b)
  | _, _, _ => SM.fail 59

/-! Equality. -/
/-- Of a struct's fields, one by one. -/
noncomputable def eqFields : List Field → List AV → List AV → Option Bool
  | [], _, _ => some true
  | f :: r, xs, ys =>
    cond (f.name == "_") none <|
    match P.underlying f.type, lget f.offset xs, lget f.offset ys with
    | some .bool, some (.bool a), some (.bool b) => cond (a == b) (eqFields r xs ys) (some false)
    | some (.int _), some (.int k a), some (.int j b) => cond (kindEq k j) (cond (intEq a b) (eqFields r xs ys) (some false)) none
    | some .string, some (.str a), some (.str b) => cond (leq a b) (eqFields r xs ys) (some false)
    | _, _, _ => none
def plainStruct (t : TypeId) : Option (List Field) :=
  match P.underlying t with
  | some (.struct fs) => cond (P.stoodInHeld t || P.eqGuardType P.depth t) none (some fs.toList)
  | _ => none
noncomputable def eqA (t : TypeId) (x y : AV) : Option Bool :=
  match P.underlying t, x, y with
  | some .bool, .bool a, .bool b => some (a == b)
  | some (.pointer _), .nilPtr, .nilPtr => some true
  | some (.pointer _), .nilPtr, .ptr _ _ => some false
  | some (.pointer _), .ptr _ _, .nilPtr => some false
  | some (.pointer e), .ptr i a, .ptr j b =>
    match sizeOf? P e with
    | some n => cond (!Nat.beq n 0 && Nat.beq i j) (some (Nat.beq a b)) none
    | none => none
  | some (.slice _), .nilSlice, .nilSlice => some true
  | some (.slice _), .nilSlice, .slice .. => some false
  | some (.slice _), .slice .., .nilSlice => some false
  | some (.map _ _), .nilMap, .nilMap => some true
  | some (.map _ _), .nilMap, .map _ => some false
  | some (.map _ _), .map _, .nilMap => some false
  | some (.func ..), .nilFunc, .nilFunc => some true
  | some (.func ..), .nilFunc, .func .. => some false
  | some (.func ..), .func .., .nilFunc => some false
  | some (.interface _), .nilIface, .iface _ _ => some false
  | some (.interface _), .iface _ _, .nilIface => some false
  | some (.struct _), .agg xs, .agg ys =>
    match plainStruct P t with
    | some fs => eqFields P fs xs ys
    | none => none
  | _, _, _ => none

def smallLen : Nat := 16777216
noncomputable def strOp (op : BinOp) (a b : List Nat) : Option AV :=
  match op with
  | .add => cond (Nat.ble (llen a + llen b) smallLen) (some (.str (lapp a b))) none
  | .eql => some (.bool (leq a b))
  | .neq => some (.bool (!leq a b))
  | .lss => some (.bool (llt a b))
  | .leq => some (.bool (llt a b || leq a b))
  | .gtr => some (.bool (!(llt a b || leq a b)))
  | .geq => some (.bool (!llt a b))
  | _ => none
def intOp (op : BinOp) (k : IntKind) (x y : Int) : Option AV :=
  match op with
  | .add => some (.int k (wrapA k (x + y)))
  | .sub => some (.int k (wrapA k (x - y)))
  | .mul => some (.int k (wrapA k (x * y)))
  | .quo => cond (intEq y 0) none (some (.int k (wrapA k (x.tdiv y))))
  | .rem => cond (intEq y 0) none (some (.int k (x.tmod y)))
  | .and => some (.int k (k.wrap ((BitVec.ofInt k.bits x &&& BitVec.ofInt k.bits y).toNat)))
  | .or => some (.int k (k.wrap ((BitVec.ofInt k.bits x ||| BitVec.ofInt k.bits y).toNat)))
  | .xor => some (.int k (k.wrap ((BitVec.ofInt k.bits x ^^^ BitVec.ofInt k.bits y).toNat)))
  | .andNot => some (.int k (k.wrap ((BitVec.ofInt k.bits x &&& ~~~(BitVec.ofInt k.bits y)).toNat)))
  | .eql => some (.bool (intEq x y))
  | .neq => some (.bool (!intEq x y))
  | .lss => some (.bool (intLt x y))
  | .leq => some (.bool (!intLt y x))
  | .gtr => some (.bool (intLt y x))
  | .geq => some (.bool (!intLt x y))
  | _ => none
def shiftOp (op : BinOp) (k : IntKind) (x y : Int) : Option AV :=
  match op, y with
  | .shl, .ofNat n => some (.int k (k.wrap (x * 2 ^ (min n k.bits))))
  | .shr, .ofNat n => some (.int k (x.fdiv (2 ^ (min n k.bits))))
  | _, _ => none
def isConstB : Operand → Bool
  | .const _ => true
  | _ => false
def isIface (t : TypeId) : Bool :=
  match P.underlying t with
  | some (.interface _) => true
  | _ => false
noncomputable def binOpA (op : BinOp) (t : TypeId) (x y : Operand) (a b : AV) : Option AV :=
  match a, b with
  | .int k m, .int j n =>
    match op with
    | .shl => shiftOp .shl k m n
    | .shr => shiftOp .shr k m n
    | op => cond (kindEq k j) (intOp op k m n) none
  | .str m, .str n => strOp op m n
  | .nilIface, .nilIface =>
    cond ((isConstB x || isConstB y) && isIface P t)
      (match op with
      | .eql => some (.bool true)
      | .neq => some (.bool false)
      | _ => none) none
  | a, b =>
    match op, eqA P t a b with
    | .eql, some r => some (.bool r)
    | .neq, some r => some (.bool (!r))
    | _, _ => none
def unOpA (op : UnOp) (x : AV) : Option AV :=
  match op, x with
  | .neg, .int k n => some (.int k (k.wrap (0 - n)))
  | .xor, .int k n => intOp .xor k (if k.signed then -1 else k.max) n
  | .not, .bool b => some (.bool !b)
  | _, _ => none

/-! Maps: keys are numbers, bools, texts, or structs of them. -/
noncomputable def keyFields : List Field → List AV → Bool
  | [], _ => true
  | f :: r, cs =>
    cond (f.name == "_") false <|
    match P.underlying f.type, lget f.offset cs with
    | some (.int _), some (.int _ _) => keyFields r cs
    | some .string, some (.str _) => keyFields r cs
    | some .bool, some (.bool _) => keyFields r cs
    | _, _ => false
noncomputable def keyOk (t : TypeId) (k : AV) : Bool :=
  match P.underlying t, k with
  | some (.int _), .int _ _ => true
  | some .string, .str _ => true
  | some .bool, .bool _ => true
  | some (.struct _), .agg cs =>
    match plainStruct P t with
    | some fs => keyFields P fs cs
    | none => false
  | _, _ => false
noncomputable def eqKey (t : TypeId) (x y : AV) : Option Bool :=
  match P.underlying t, x, y with
  | some (.int _), .int k a, .int j b => cond (kindEq k j) (some (intEq a b)) none
  | some .string, .str a, .str b => some (leq a b)
  | some .bool, .bool a, .bool b => some (a == b)
  | some (.struct _), .agg xs, .agg ys =>
    match plainStruct P t with
    | some fs => eqFields P fs xs ys
    | none => none
  | _, _, _ => none
noncomputable def findK (t : TypeId) (k : AV) : List (AV × AV × Nat) → Nat → Option (Option (Nat × AV × AV × Nat))
  | [], _ => some none
  | e :: r, i =>
    match eqKey P t k e.1 with
    | some true => some (some (i, e))
    | some false => findK t k r (i + 1)
    | none => none
noncomputable def sameKey : AV → AV → Bool
  | .bool a, .bool b => a == b
  | .int j a, .int k b => kindEq j k && intEq a b
  | .str a, .str b => leq a b
  | _, _ => false
noncomputable def sameKeys : List AV → List AV → Bool
  | [], [] => true
  | a :: r, b :: s => sameKey a b && sameKeys r s
  | _, _ => false
noncomputable def sameKeyV (a b : AV) : Bool :=
  match a, b with
  | .agg a, .agg b => sameKeys a b
  | a, b => sameKey a b
def mapOf? (t : TypeId) : Option (TypeId × TypeId) :=
  match P.underlying t with
  | some (.map k e) => some (k, e)
  | _ => none
noncomputable def mapO (id : Nat) : SM (List (AV × AV × Nat) × Nat) := do
  match ← getO id with
  | .map es c => pure (es, c)
  | _ => SM.fail 90
noncomputable def entriesA (m : AV) : SM (List (AV × AV × Nat)) :=
  match m with
  | .nilMap => pure []
  | .map id => do pure (← mapO id).1
  | _ => SM.fail 91
noncomputable def lookupA (t : TypeId) (m k : AV) (ok : Bool) : SM AV := do
  let (key, elem) ← SM.lift 92 (mapOf? P t)
  let es ← entriesA m
  SM.check 93 (keyOk P key k)
  match ← SM.lift 94 (findK P key k es 0) with
  | some (_, e) => pure (cond ok (.tuple [e.2.1, .bool true]) e.2.1)
  | none => do
    let z ← SM.lift 95 (zeroOf? P elem)
    pure (cond ok (.tuple [z, .bool false]) z)
noncomputable def mapUpdateA (t : TypeId) (m k v : AV) : SM AV := do
  let (key, _) ← SM.lift 92 (mapOf? P t)
  match m with
  | .map id => do
    let (es, clock) ← mapO id
    SM.check 93 (keyOk P key k)
    match ← SM.lift 94 (findK P key k es 0) with
    | some (i, e) => do
      SM.check 96 (sameKeyV e.1 k)
      putO id (.map (lset i (k, v, e.2.2) es) clock)
      pure .undef
    | none => do
      putO id (.map (lapp es [(k, v, clock)]) (clock + 1))
      pure .undef
  | _ => SM.fail 97
noncomputable def deleteA (t : TypeId) (m k : AV) : SM AV := do
  let (key, _) ← SM.lift 92 (mapOf? P t)
  match m with
  | .map id => do
    let (es, clock) ← mapO id
    SM.check 93 (keyOk P key k)
    match ← SM.lift 94 (findK P key k es 0) with
    | some (i, _) => do
      putO id (.map (lerase i es) clock)
      pure .undef
    | none => do
      putO id (.map es clock)
      pure .undef
  | _ => SM.fail 98

/-! append, copy, make, conversions. -/
/-- What is appended: n elements' cells. -/
noncomputable def sourceA (size : Nat) (x : AV) : SM (Nat × List AV) :=
  match x with
  | .nilSlice => pure (0, [])
  | .slice id off len _ _ => do pure (len, ← readCells id off (len * size))
  | .str s => cond (Nat.beq size 1) (pure (llen s, s.map fun (b : Nat) => .int .u8 b)) (SM.fail 108)
  | _ => SM.fail 100
/-- append's two types: the element's type, cells, bytes; the second one is no number. -/
noncomputable def appendOf? (argTypes : Array TypeId) : Option (TypeId × Nat) :=
  match argTypes[0]?, argTypes[1]? with
  | some s, some x =>
    match elemOf? P s, P.underlying x with
    | _, some (.int _) => none
    | some (e, size, bytes), some _ =>
      match zeroOf? P e with
      | some z => cond (Nat.ble 1 size && Nat.ble 1 bytes && Nat.ble bytes 65536 && Nat.beq (llen z.cells) size) (some (e, size)) none
      | none => none
    | _, _ => none
  | _, _ => none
noncomputable def appendA (argTypes : Array TypeId) (s x : AV) : SM AV := do
  let (elem, size) ← SM.lift 101 (appendOf? P argTypes)
  let (n, new) ← sourceA size x
  match s with
  | .nilSlice =>
    cond (Nat.beq n 0) (pure .nilSlice) (do
      SM.check 102 (Nat.ble n smallLen)
      let id ← newGrown elem new 0 0
      pure (.slice id 0 n size n))
  | .slice id off len ex cap => do
    SM.check 103 (Nat.ble (len + n) smallLen)
    cond (Nat.ble (len + n) cap) (do
        writeR id (off + len * size) new
        pure (.slice id off (len + n) ex cap))
      (cond (Nat.beq n 0) (pure (.slice id off len ex cap)) (do
        let b ← readR id off (len * size)
        SM.check 104 (Nat.beq b.e elem && ownB id)
        cond (Nat.beq ex 0) (do
            let id' ← newGrown elem (lapp b.c new) 0 0
            pure (.slice id' 0 (len + n) size (len + n)))
          (do
            SM.check 105 (Nat.beq ex size && (Nat.ble b.hi b.lo || Nat.beq off 0 && Nat.ble b.hi (len * size)))
            putO id .dead
            let id' ← newGrown elem (lapp b.c new) (b.lo - off) (b.hi - off)
            pure (.slice id' 0 (len + n) size (len + n)))))
  | _ => SM.fail 106
noncomputable def lenA (t : TypeId) (x : AV) : SM AV := do
  match ← SM.lift 110 (P.underlying t), x with
  | .string, .str s => pure (.int .i64 (llen s))
  | .slice _, .nilSlice => pure (.int .i64 0)
  | .slice _, .slice _ _ n _ _ => pure (.int .i64 n)
  | .map _ _, .nilMap => pure (.int .i64 0)
  | .map _ _, .map id => do pure (.int .i64 (llen (← mapO id).1))
  | .array n _, _ => pure (.int .i64 n)
  | _, _ => SM.fail 111
def capA (t : TypeId) (x : AV) : SM AV := do
  match ← SM.lift 110 (P.underlying t), x with
  | .slice _, .nilSlice => pure (.int .i64 0)
  | .slice _, .slice _ _ _ 0 c => pure (.int .i64 c)
  | _, _ => SM.fail 112
noncomputable def copyA (t : TypeId) (d x : AV) : SM AV := do
  let (_, size, _) ← SM.lift 113 (elemOf? P t)
  let (n, cs) ← sourceA size x
  match d with
  | .nilSlice => pure (.int .i64 0)
  | .slice id off len _ _ => do
    writeR id off (ltake (min n len * size) cs)
    pure (.int .i64 (min n len : Nat))
  | _ => SM.fail 114
def minmaxA (isMax : Bool) : AV → List AV → Option AV
  | v, [] => some v
  | .int k x, .int _ y :: r => minmaxA isMax (.int k (cond isMax (cond (intLt x y) y x) (cond (intLt y x) y x))) r
  | _, _ => none
noncomputable def makeSliceA (t : TypeId) (len cap : AV) : SM AV := do
  let (elem, size, bytes) ← SM.lift 115 (elemOf? P t)
  let z ← SM.lift 116 (zeroOf? P elem)
  match len, cap with
  | .int _ (.ofNat l), .int _ (.ofNat c) => do
    SM.check 117 (Nat.ble l c && Nat.ble c 65536 && Nat.ble bytes 65536 && Nat.ble 1 size && Nat.beq (llen z.cells) size)
    let id ← newCells elem (zerosOf c z.cells)
    pure (.slice id 0 l 0 c)
  | _, _ => SM.fail 118
/-- Cells that are bytes, as their numbers. -/
def bytesOfA : List AV → Option (List Nat)
  | [] => some []
  | .int .u8 (.ofNat n) :: r =>
    match bytesOfA r with
    | some l => cond (Nat.ble n 255) (some (n :: l)) none
    | none => none
  | _ => none
noncomputable def convertA (src dst : TypeId) (x : AV) : SM AV := do
  match ← SM.lift 119 (P.underlying src), ← SM.lift 119 (P.underlying dst), x with
  | .pointer _, .unsafePointer, .nilPtr => pure .nilPtr
  | .pointer t, .unsafePointer, .ptr id off => do
    let n ← SM.lift 120 (sizeOf? P t)
    let _ ← readR id off 1
    SM.check 121 (!Nat.beq n 0 && ownB id)
    pure (.ptr id off)
  | .unsafePointer, .pointer _, .nilPtr => pure .nilPtr
  | .unsafePointer, .pointer u, .ptr id off => do
    let b ← readR id off 1
    let _ ← SM.lift 120 (sizeOf? P u)
    SM.check 122 (b.whole && ownB id && liesAt P P.depth b.e (b.len / P.cellsOf b.e) off u 1)
    pure (.ptr id off)
  | _, .int k, .int _ n => pure (.int k (wrapA k n))
  | _, .string, .str s => pure (.str s)
  | _, .string, .int _ n => pure (.str ((Utf8.encode n).data.toList.map UInt8.toNat))
  | .slice e, .string, .nilSlice => do
    match ← SM.lift 123 (P.underlying e) with
    | .int .u8 => pure (.str [])
    | _ => SM.fail 124
  | .slice e, .string, .slice id off len _ _ => do
    match ← SM.lift 123 (P.underlying e) with
    | .int .u8 => do pure (.str (← SM.lift 125 (bytesOfA (← readCells id off len))))
    | _ => SM.fail 124
  | _, _, _ => SM.fail 126
/-- unsafe.String and unsafe.SliceData, of bytes. -/
def sliceDataA (x : AV) : SM AV :=
  match x with
  | .nilSlice => pure .nilPtr
  | .slice id off _ _ cap => cond (Nat.beq cap 0) (SM.fail 128) (pure (.ptr id off))
  | _ => SM.fail 129
noncomputable def unsafeStringA (pt : TypeId) (x n : AV) : SM AV := do
  match x, n with
  | .nilPtr, .int _ (.ofNat n) => do
    SM.check 130 (Nat.beq n 0)
    pure (.str [])
  | .ptr id off, .int _ (.ofNat n) =>
    cond (Nat.beq n 0) (pure (.str [])) (do
      match ← SM.lift 131 (P.underlying pt) with
      | .pointer u => do
        let b ← readR id off n
        SM.check 132 (Nat.beq (P.cellsOf b.e) 1 && Nat.beq (P.underlyingId b.e) (P.underlyingId u) && ownB id && Nat.ble n smallLen)
        let s ← SM.lift 133 (bytesOfA b.c)
        freezeR id off n
        pure (.str s)
      | _ => SM.fail 134)
  | _, _ => SM.fail 135
def typeAssertA (x : AV) (asserted : TypeId) (ok : Bool) : SM AV := do
  match ← SM.lift 136 (P.underlying asserted), x with
  | .interface _, _ => SM.fail 137
  | _, .nilIface => do
    SM.check 138 ok
    let z ← SM.lift 139 (zeroOf? P asserted)
    pure (.tuple [z, .bool false])
  | _, .iface t v =>
    cond (Nat.beq t asserted) (pure (cond ok (.tuple [v, .bool true]) v)) (do
      SM.check 138 ok
      let z ← SM.lift 139 (zeroOf? P asserted)
      pure (.tuple [z, .bool false]))
  | _, _ => SM.fail 140
end
end Go.Proofs.YtcjjmflaaaddgaaGreatDoor.Am
/-
  The abstract machine's evaluation of code: operations, regions (a region that draws its order is evaluated in the text's order, and what its operations read and wrote is compared), calls.
-/
namespace Go.Proofs.YtcjjmflaaaddgaaGreatDoor.Am
open Go

inductive AX where
  | normal
  | exit (id : Nat)
  | ret
/-- size: how many temporaries there are. -/
structure St where
  tmps : Trie AV
  size : Nat
  defers : List (FuncId × List AV)

def ev (ρ : Operand → Option AV) (x : Operand) : SM AV := SM.lift 200 (ρ x)
def evO (ρ : Operand → Option AV) : Option Operand → SM (Option AV)
  | none => pure none
  | some x => do pure (some (← ev ρ x))

section
variable (P : Program)
noncomputable def builtinA (b : Builtin) (argTypes : Array TypeId) (args : List AV) : SM AV :=
  match b, args with
  | .append, [s, x] => appendA P argTypes s x
  | .len, [x] => do lenA P (← SM.lift 201 argTypes[0]?) x
  | .cap, [x] => do capA P (← SM.lift 201 argTypes[0]?) x
  | .copy, [d, x] => do copyA P (← SM.lift 201 argTypes[0]?) d x
  | .delete, [m, k] => do deleteA P (← SM.lift 201 argTypes[0]?) m k
  | .unsafeSliceData, [x] => sliceDataA x
  | .unsafeString, [x, n] => do unsafeStringA P (← SM.lift 201 argTypes[0]?) x n
  | .max, x :: r => SM.lift 202 (minmaxA true x r)
  | .min, x :: r => SM.lift 202 (minmaxA false x r)
  | _, _ => SM.fail 203
noncomputable def opA (call : FuncId → List AV → SM AV) (ρ : Operand → Option AV) (o : Op) : SM AV :=
  match o with
  | .move x => ev ρ x
  | .assign x => ev ρ x
  | .pick c a b => do
    match ← ev ρ c with
    | .bool v => cond v (ev ρ a) (ev ρ b)
    | _ => SM.fail 204
  | .alloc elem => do
    let z ← SM.lift 205 (zeroOf? P elem)
    pure (.ptr (← newCells elem z.cells) 0)
  | .box elem x => do
    let v ← ev ρ x
    pure (.ptr (← newCells elem v.cells) 0)
  | .build t parts => do buildA P t (← SM.lift 206 (evalParts ρ parts.toList))
  | .buildSlice t n parts => do buildSliceA P t n (← SM.lift 206 (evalParts ρ parts.toList))
  | .load t a => do
    match ← ev ρ a with
    | .ptr id off => loadV P t id off
    | _ => SM.fail 207
  | .store t a x => do
    match ← ev ρ a with
    | .ptr id off => do
      storeV P t id off (← ev ρ x)
      pure .undef
    | _ => SM.fail 208
  | .nilCheck x => do
    match ← ev ρ x with
    | .ptr i j => pure (.ptr i j)
    | .func f a b => pure (.func f a b)
    | _ => SM.fail 209
  | .binOp op t x y _ => do SM.lift 210 (binOpA P op t x y (← ev ρ x) (← ev ρ y))
  | .unOp op _ x => do SM.lift 211 (unOpA op (← ev ρ x))
  | .convert src dst x => do convertA P src dst (← ev ρ x)
  | .makeInterface t x => do
    match ← SM.lift 212 (P.underlying t) with
    | .interface _ => SM.fail 213
    | _ => do pure (.iface t (← ev ρ x))
  | .makeFunc (.func f) first cap => do
    let a ← SM.lift 214 (evalAll ρ first.toList)
    let c ← SM.lift 214 (evalAll ρ cap.toList)
    pure (.func f a c)
  | .makeMap _ none => do pure (.map (← newO (.map [] 0)))
  | .makeSlice t l c => do makeSliceA P t (← ev ρ l) (← ev ρ c)
  | .slice t x lo hi mx => do sliceA P t (← ev ρ x) (← evO ρ lo) (← evO ρ hi) (← evO ρ mx)
  | .fieldAddr t x f => do fieldAddrA P t (← ev ρ x) f
  | .field t x f => do fieldA P t (← ev ρ x) f
  | .indexAddr t x i => do indexAddrA P t (← ev ρ x) (← ev ρ i)
  | .index t x i => do indexA P t (← ev ρ x) (← ev ρ i)
  | .lookup t m k ok => do lookupA P t (← ev ρ m) (← ev ρ k) ok
  | .mapUpdate t m k v => do mapUpdateA P t (← ev ρ m) (← ev ρ k) (← ev ρ v)
  | .insert t m k v => do mapUpdateA P t (← ev ρ m) (← ev ρ k) (← ev ρ v)
  | .typeAssert x _ t ok => do typeAssertA P (← ev ρ x) t ok
  | .extract t i => do
    match ← ev ρ t with
    | .tuple vs => SM.lift 215 (lget i vs)
    | _ => SM.fail 216
  | .call c => do
    match c.callee with
    | .builtin b => do builtinA P b c.argTypes (← SM.lift 217 (evalAll ρ c.args.toList))
    | .value f => do
      match ← ev ρ f with
      | .func g first cap => do call g (lapp first (lapp (← SM.lift 217 (evalAll ρ c.args.toList)) cap))
      | _ => SM.fail 218
    | _ => SM.fail 219
  | _ => SM.fail 220

noncomputable def yieldedA (ops : Array Oper) (tmps : Trie AV) (j : Nat) : Option Bool :=
  match (ops[j]?).bind (·.dst) with
  | some d =>
    match tmps.get d with
    | some (.bool b) => some b
    | _ => none
  | none => none
noncomputable def putA (st : St) (d : Option Tmp) (v : AV) : SM St :=
  match d with
  | some d => cond (Nat.ble (d + 1) st.size) (pure ⟨st.tmps.set 16 d v, st.size, st.defers⟩) (SM.fail 221)
  | none => pure st
/-- One operation of a region. -/
noncomputable def stepA (call : FuncId → List AV → SM AV) (ops : Array Oper) (o : Oper) (st : St) : SM St :=
  cond (Region.wanted o (yieldedA ops st.tmps))
    (match o.op with
    | .defer c =>
      match c.callee with
      | .value f => do
        match ← ev (eval st.tmps) f with
        | .func g first cap => do
          let args ← SM.lift 222 (evalAll (eval st.tmps) c.args.toList)
          putA ⟨st.tmps, st.size, (g, lapp first (lapp args cap)) :: st.defers⟩ o.dst .undef
        | _ => SM.fail 223
      | _ => SM.fail 224
    | op => do
      let v ← opA P call (eval st.tmps) op
      putA st o.dst v)
    (putA st o.dst .undef)
noncomputable def opsA (call : FuncId → List AV → SM AV) (ops : Array Oper) : List Nat → St → SM St
  | [], st => pure st
  | i :: rest, st =>
    match ops[i]? with
    | none => SM.fail 225
    | some o => do
      let st' ← stepA P call ops o st
      opsA call ops rest st'

/-! Regions that draw. -/
/-- All that stand ahead of each operation, as bits; edges lead back. -/
def aheadOf (ops : List Oper) : List Nat → List Nat
  | acc => ops.foldl (init := acc) fun acc o => acc ++ [o.after.toList.foldl (init := 0) fun s e => if Region.binds .any e then s ||| 2 ^ e.on ||| acc.getD e.on 0 else s]
def edgesBack (ops : List Oper) : Bool := (List.range ops.length).all fun i => (ops.getD i default).after.toList.all fun e => !Region.binds .any e || decide (e.on < i)
/-- Pairs i < j of operations of which none stands ahead of the other. -/
def loosePairs (ops : List Oper) : List (Nat × Nat) :=
  let b := aheadOf ops []
  (List.range ops.length).flatMap fun j => ((List.range j).filter fun i => !(b.getD j 0).testBit i).map fun i => (i, j)
def looseOk (ops : Array Oper) (l : List (Nat × Nat)) : Bool := l.all fun (i, j) =>
  match ops[i]?, ops[j]? with
  | some x, some y => x.apart ops y
  | _, _ => false
def noDefer (ops : Array Oper) : Bool := ops.toList.all fun o => match o.op with
  | .defer _ | .select _ _ => false
  | _ => true
/-- What of a region doesn't hang on the state. -/
def staticOk (ops : Array Oper) : Bool := edgesBack ops.toList && looseOk ops (loosePairs ops.toList) && noDefer ops
def looseOf (ops : List Oper) (i : Nat) : List Nat := ((loosePairs ops).filterMap fun (a, b) => if a = i then some b else if b = i then some a else none)
/-- No key of both; a hi of cap30 has no end. -/
def Acc.apart (a b : Acc) : Bool := !Nat.beq a.id b.id || (Nat.ble a.hi b.lo && Nat.ble (a.hi + 1) cap30) || (Nat.ble b.hi a.lo && Nat.ble (b.hi + 1) cap30)
noncomputable def disjoint (a b : List Acc) : Bool := lall (fun x => lall x.apart b) a
/-- What an operation wrote, none that stands loose of it read or wrote. -/
noncomputable def logsFrom (ops : List Oper) (all : List (List Acc × List Acc)) : Nat → List (List Acc × List Acc) → Bool
  | _, [] => true
  | i, (_, []) :: r => logsFrom ops all (i + 1) r
  | i, (_, w) :: r => (looseOf ops i).all (fun j => match lget j all with | some (rj, wj) => disjoint w rj && disjoint w wj | none => false) && logsFrom ops all (i + 1) r
/-- The operations in the text's order, with what each read and wrote. -/
noncomputable def opsLog (call : FuncId → List AV → SM AV) (ops : Array Oper) : List Nat → St → SM (St × List (List Acc × List Acc))
  | [], st => pure (st, [])
  | i :: rest, st =>
    match ops[i]? with
    | none => SM.fail 230
    | some o => do
      let (st', r, w) ← isolate (stepA P call ops o st)
      let (st'', l) ← opsLog call ops rest st'
      pure (st'', (r, w) :: l)
noncomputable def drawA (call : FuncId → List AV → SM AV) (ops : Array Oper) (st : St) : SM St := do
  SM.check 231 (staticOk ops)
  let (st', l) ← opsLog P call ops (List.range ops.size) st
  SM.check 232 (logsFrom ops.toList l 0 l)
  pure st'

structure Ex where
  code : Code → St → SM (AX × St)
  call : FuncId → List AV → SM AV

noncomputable def resultsA : List ResultVar → Trie AV → SM (List AV)
  | [], _ => pure []
  | .tmp t :: r, tmps => do
    let l ← resultsA r tmps
    pure (orUndef (tmps.get t) :: l)
  | .cell a t :: r, tmps => do
    match orUndef (tmps.get a) with
    | .ptr id off => do
      let v ← loadV P t id off
      let l ← resultsA r tmps
      pure (v :: l)
    | _ => SM.fail 240
def oneOrTuple : List AV → AV
  | [v] => v
  | l => .tuple l

/-- What is known of some functions: their answer without a look at their code; and deferred ones that do nothing where nothing panics. -/
structure Known where
  sums : FuncId → Option (List AV → SM AV)
  idle : FuncId → Bool

noncomputable def argsT : List AV → Nat → Trie AV → Trie AV
  | [], _, t => t
  | v :: r, i, t => argsT r (i + 1) (t.set 16 i v)
/-- A function's code, temporaries and results, if it can be called. -/
def bodyOf? (f : FuncId) : Option (Code × Nat × List ResultVar) :=
  match P.funcs[f]? with
  | none => none
  | some fn =>
    match fn.body with
    | none => none
    | some c => cond (fn.name == "runtime.NumGoroutine" || !Nat.ble fn.ntmps 65535) none (some (c, fn.ntmps, fn.results.toList))
noncomputable def codeStep (ih : Ex) (c : Code) (st : St) : SM (AX × St) :=
  match c with
  | .skip => pure (.normal, st)
  | .label _ => pure (.normal, st)
  | .region _ ops d => do
    let st' ← cond d (drawA P ih.call ops st) (opsA P ih.call ops (List.range ops.size) st)
    pure (.normal, st')
  | .seq a b => do
    let (x, st') ← ih.code a st
    match x with
    | .normal => ih.code b st'
    | x => pure (x, st')
  | .cond c a b => do
    match ← ev (eval st.tmps) c with
    | .bool v => cond v (ih.code a st) (ih.code b st)
    | _ => SM.fail 250
  | .block id c => do
    let (x, st') ← ih.code c st
    match x with
    | .exit id' => cond (Nat.beq id' id) (pure (.normal, st')) (pure (.exit id', st'))
    | x => pure (x, st')
  | .loop c => do
    let (x, st') ← ih.code c st
    match x with
    | .normal => ih.code (.loop c) st'
    | x => pure (x, st')
  | .exit id => pure (.exit id, st)
  | .ret => pure (.ret, st)
  | _ => SM.fail 251
noncomputable def callStep (K : Known) (ih : Ex) (f : FuncId) (args : List AV) : SM AV := SM.mark (10000 + f) <|
  match K.sums f with
  | some g => g args
  | none => do
    let (c, n, rs) ← SM.lift 252 (bodyOf? P f)
    SM.check 253 (Nat.ble (llen args) n)
    let (x, st) ← ih.code c ⟨argsT args 0 .leaf, n, []⟩
    match x with
    | .exit _ => SM.fail 255
    | _ => do
      SM.check 256 (st.defers.all fun d => K.idle d.1)
      let l ← resultsA P rs st.tmps
      pure (oneOrTuple l)
noncomputable def Ex.run (K : Known) (n : Nat) : Ex :=
  Nat.rec (motive := fun _ => Ex) ⟨fun _ _ => SM.fail 260, fun _ _ => SM.fail 261⟩ (fun _ ih => ⟨codeStep P ih, callStep P K ih⟩) n
end

/-- Of functions without a body: internal/abi.NoEscape, internal/bytealg.IndexByteString. -/
def noEscapeA : List AV → SM AV
  | [x] => pure x
  | _ => SM.fail 270
def indexByteFrom (c : Nat) : List Nat → Nat → Option Nat
  | [], _ => none
  | b :: r, i => cond (Nat.beq b c) (some i) (indexByteFrom c r (i + 1))
def AS.init (h : Trie AO) : AS := ⟨h, own0, [], []⟩
def Rs.isTrue : Rs AV → Bool
  | .ok (.bool true) _ => true
  | _ => false
end Go.Proofs.YtcjjmflaaaddgaaGreatDoor.Am
/-
  The abstract machine's values and objects against the model's: the relation, and its plain laws.
-/
namespace Go.Proofs.YtcjjmflaaaddgaaGreatDoor.Am
open Go Go.RowKit

section
variable {α : Type}
@[simp] theorem ldrop_eq (n : Nat) (l : List α) : ldrop n l = l.drop n := by
  induction n generalizing l with
  | zero => rfl
  | succ n ih => cases l with
    | nil => rfl
    | cons a t => exact ih t
@[simp] theorem ltake_eq (n : Nat) (l : List α) : ltake n l = l.take n := by
  induction n generalizing l with
  | zero => rw [List.take_zero]; rfl
  | succ n ih => cases l with
    | nil => rfl
    | cons a t => exact congrArg (a :: ·) (ih t)
@[simp] theorem llen_eq (l : List α) : llen l = l.length := by
  induction l with
  | nil => rfl
  | cons a t ih => exact congrArg (· + 1) ih
@[simp] theorem lapp_eq (l m : List α) : lapp l m = l ++ m := by
  induction l with
  | nil => rfl
  | cons a t ih => exact congrArg (a :: ·) ih
@[simp] theorem lall_eq (p : α → Bool) (l : List α) : lall p l = l.all p := by
  induction l with
  | nil => rfl
  | cons a t ih =>
    show cond (p a) (lall p t) false = _
    rw [ih, List.all_cons]; cases p a <;> rfl
@[simp] theorem lget_eq (n : Nat) (l : List α) : lget n l = l[n]? := by
  unfold lget
  rw [ldrop_eq]
  have h : l[n]? = (l.drop n)[0]? := by simp
  rw [h]
  cases l.drop n <;> rfl
@[simp] theorem lset_eq (n : Nat) (x : α) (l : List α) : lset n x l = l.set n x := by
  induction n generalizing l with
  | zero => cases l <;> rfl
  | succ n ih => cases l with
    | nil => rfl
    | cons a t => exact congrArg (a :: ·) (ih t)
@[simp] theorem lerase_eq (n : Nat) (l : List α) : lerase n l = l.eraseIdx n := by
  induction n generalizing l with
  | zero => cases l <;> rfl
  | succ n ih => cases l with
    | nil => rfl
    | cons a t => exact congrArg (a :: ·) (ih t)
theorem beq_nat (a b : Nat) : Nat.beq a b = decide (a = b) := by
  by_cases h : a = b
  · subst h; simp
  · rw [decide_eq_false h]; exact Bool.eq_false_iff.2 fun hh => h (Nat.eq_of_beq_eq_true hh)
theorem ble_nat (a b : Nat) : Nat.ble a b = decide (a ≤ b) := by
  by_cases h : a ≤ b
  · rw [decide_eq_true h]; exact Nat.ble_eq ▸ h
  · rw [decide_eq_false h]; exact Bool.eq_false_iff.2 fun hh => h (Nat.ble_eq ▸ hh)
theorem Trie.get_parts (t : Trie α) (m : Nat) : t.get m = if m = 0 then t.here else if m % 2 = 1 then t.left.get (m / 2) else t.right.get ((m - 2) / 2) := by
  cases t with
  | leaf => simp [Trie.get, Trie.here, Trie.left, Trie.right]
  | node l v r =>
    show cond (Nat.beq m 0) v (cond (Nat.beq (m % 2) 1) (l.get (m / 2)) (r.get ((m - 2) / 2))) = _
    rw [beq_nat, beq_nat]
    by_cases h : m = 0
    · simp [h, Trie.here]
    · by_cases h2 : m % 2 = 1 <;> simp [h, h2, Trie.left, Trie.right]
theorem Trie.set_succ (k : Nat) (t : Trie α) (n : Nat) (x : α) : Trie.set (k + 1) t n x = if n = 0 then .node t.left (some x) t.right else if n % 2 = 1 then .node (Trie.set k t.left (n / 2) x) t.here t.right else .node t.left t.here (Trie.set k t.right ((n - 2) / 2) x) := by
  show cond (Nat.beq n 0) _ (cond (Nat.beq (n % 2) 1) _ _) = _
  rw [beq_nat, beq_nat]
  by_cases h : n = 0
  · simp [h]
  · by_cases h2 : n % 2 = 1 <;> simp [h, h2] <;> rfl
theorem Trie.get_set (k : Nat) (t : Trie α) (n : Nat) (x : α) (m : Nat) (h : n + 1 < 2 ^ k) : (Trie.set k t n x).get m = if m = n then some x else t.get m := by
  induction k generalizing t n m with
  | zero => simp at h
  | succ k ih =>
    rw [Trie.set_succ]
    have h2 : 2 ^ (k + 1) = 2 * 2 ^ k := by rw [Nat.pow_succ, Nat.mul_comm]
    by_cases hn : n = 0
    · subst hn
      rw [if_pos rfl, Trie.get_parts (.node _ _ _), Trie.get_parts t]
      by_cases hm : m = 0 <;> simp [hm, Trie.here, Trie.left, Trie.right]
    · rw [if_neg hn]
      by_cases ho : n % 2 = 1
      · rw [if_pos ho, Trie.get_parts (.node _ _ _), Trie.get_parts t m]
        by_cases hm : m = 0
        · rw [if_pos hm, if_pos hm, if_neg (by omega)]; rfl
        · rw [if_neg hm, if_neg hm]
          by_cases hmo : m % 2 = 1
          · rw [if_pos hmo, if_pos hmo]
            show (Trie.set k t.left (n / 2) x).get (m / 2) = _
            rw [ih _ _ _ (by omega)]
            by_cases e : m = n
            · rw [if_pos e, if_pos (by omega)]
            · rw [if_neg e, if_neg (by omega)]
          · rw [if_neg hmo, if_neg hmo, if_neg (by omega)]; rfl
      · rw [if_neg ho, Trie.get_parts (.node _ _ _), Trie.get_parts t m]
        by_cases hm : m = 0
        · rw [if_pos hm, if_pos hm, if_neg (by omega)]; rfl
        · rw [if_neg hm, if_neg hm]
          by_cases hmo : m % 2 = 1
          · rw [if_pos hmo, if_pos hmo, if_neg (by omega)]; rfl
          · rw [if_neg hmo, if_neg hmo]
            show (Trie.set k t.right ((n - 2) / 2) x).get ((m - 2) / 2) = _
            rw [ih _ _ _ (by omega)]
            by_cases e : m = n
            · rw [if_pos e, if_pos (by omega)]
            · rw [if_neg e, if_neg (by omega)]
end
theorem leq_eq (l m : List Nat) : leq l m = decide (l = m) := by
  induction l generalizing m with
  | nil => cases m <;> simp [leq]
  | cons a t ih =>
    cases m with
    | nil => simp [leq]
    | cons b r =>
      show cond (Nat.beq a b) (leq t r) false = _
      rw [beq_nat, ih]
      by_cases h : a = b <;> simp [h]
theorem map_toNat_inj {l m : List UInt8} (h : l.map UInt8.toNat = m.map UInt8.toNat) : l = m := by
  induction l generalizing m with
  | nil => cases m <;> simp_all
  | cons a t ih =>
    cases m with
    | nil => simp at h
    | cons b r =>
      simp only [List.map_cons, List.cons.injEq] at h
      rw [UInt8.toNat_inj.1 h.1, ih h.2]
theorem llt_eq (l m : List UInt8) : llt (l.map UInt8.toNat) (m.map UInt8.toNat) = Op.bytesLess l m := by
  induction l generalizing m with
  | nil => cases m <;> rfl
  | cons a t ih =>
    cases m with
    | nil => rfl
    | cons b r =>
      show cond (Nat.beq a.toNat b.toNat) (llt (t.map _) (r.map _)) (Nat.ble (a.toNat + 1) b.toNat) = (a < b || (a == b && Op.bytesLess t r))
      rw [beq_nat, ble_nat, ih]
      have h1 : decide (a < b) = decide (a.toNat < b.toNat) := by simp [UInt8.lt_iff_toNat_lt]
      have h2 : (a == b) = decide (a.toNat = b.toNat) := by
        by_cases e : a = b
        · simp [e]
        · have : ¬ a.toNat = b.toNat := fun h => e (UInt8.toNat_inj.1 h)
          simp [e, this]
      rw [h1, h2]
      by_cases e : a.toNat = b.toNat
      · simp [e]
      · simp [e]; rfl

/-! The relation. -/
/-- Of a number: its block and where it begins there; of a block: so many cells it has at least. -/
structure Rho where
  f : Nat → Option (Nat × Nat)
  sz : Nat → Nat
instance : CoeFun Rho fun _ => Nat → Option (Nat × Nat) := ⟨Rho.f⟩
mutual
inductive VRel (ρ : Rho) : AV → Value → Prop where
  | bool (b : Bool) : VRel ρ (.bool b) (.bool b)
  | int (k : IntKind) (n : Int) : VRel ρ (.int k n) (.int k n)
  | str (s : ByteArray) : VRel ρ (.str (s.data.toList.map UInt8.toNat)) (.string s)
  | nilPtr : VRel ρ .nilPtr (.pointer none)
  | ptr (id off b base : Nat) (h : ρ id = some (b, base)) : VRel ρ (.ptr id off) (.pointer (some ⟨b, base + off, none⟩))
  | nilSlice : VRel ρ .nilSlice (.slice none 0 0)
  | sliceX (id off len cap b base : Nat) (h : ρ id = some (b, base)) (hl : len ≤ cap) : VRel ρ (.slice id off len 0 cap) (.slice (some ⟨b, base + off, none⟩) len cap)
  | sliceA (id off len z cap b base c : Nat) (h : ρ id = some (b, base)) (hc : cap ≤ c) (hl : len ≤ c) (hz : 0 < z) (hs : base + off + c * z ≤ ρ.sz b) : VRel ρ (.slice id off len z cap) (.slice (some ⟨b, base + off, none⟩) len c)
  | sliceE (id off ex : Nat) (a : Addr) : VRel ρ (.slice id off 0 ex 0) (.slice (some a) 0 0)
  | nilMap : VRel ρ .nilMap (.map none)
  | map (id b : Nat) (h : ρ id = some (b, 0)) : VRel ρ (.map id) (.map (some b))
  | func (f : FuncId) (a c : List AV) (x y : Array Value) (h : VRels ρ a x.toList) (h' : VRels ρ c y.toList) : VRel ρ (.func f a c) (.func (.func f) x y)
  | nilFunc : VRel ρ .nilFunc .nilFunc
  | iface (t : TypeId) (v : AV) (u : Value) (h : VRel ρ v u) : VRel ρ (.iface t v) (.iface t u)
  | nilIface : VRel ρ .nilIface .nilIface
  | agg (cs : List AV) (us : Array Value) (h : VRels ρ cs us.toList) : VRel ρ (.agg cs) (.agg us)
  | tuple (cs : List AV) (us : Array Value) (h : VRels ρ cs us.toList) : VRel ρ (.tuple cs) (.tuple us)
inductive VRels (ρ : Rho) : List AV → List Value → Prop where
  | nil : VRels ρ [] []
  | cons (v : AV) (u : Value) (l : List AV) (m : List Value) (h : VRel ρ v u) (h' : VRels ρ l m) : VRels ρ (v :: l) (u :: m)
end
def Rho.le (ρ ρ' : Rho) : Prop := (∀ id p, ρ id = some p → ρ' id = some p) ∧ ∀ b, ρ.sz b ≤ ρ'.sz b
theorem Rho.le.refl (ρ : Rho) : ρ.le ρ := ⟨fun _ _ h => h, fun _ => Nat.le_refl _⟩
theorem Rho.le.trans {a b c : Rho} (h : a.le b) (k : b.le c) : a.le c := ⟨fun id p e => k.1 id p (h.1 id p e), fun b => Nat.le_trans (h.2 b) (k.2 b)⟩
mutual
theorem VRel.mono {ρ ρ' : Rho} (hle : ρ.le ρ') : ∀ {v : AV} {u : Value}, VRel ρ v u → VRel ρ' v u
  | _, _, .bool b => .bool b
  | _, _, .int k n => .int k n
  | _, _, .str s => .str s
  | _, _, .nilPtr => .nilPtr
  | _, _, .ptr id off b base h => .ptr id off b base (hle.1 _ _ h)
  | _, _, .nilSlice => .nilSlice
  | _, _, .sliceX id off len cap b base h hl => .sliceX id off len cap b base (hle.1 _ _ h) hl
  | _, _, .sliceA id off len z cap b base c h hc hl hz hs => .sliceA id off len z cap b base c (hle.1 _ _ h) hc hl hz (Nat.le_trans hs (hle.2 b))
  | _, _, .sliceE id off ex a => .sliceE id off ex a
  | _, _, .nilMap => .nilMap
  | _, _, .map id b h => .map id b (hle.1 _ _ h)
  | _, _, .func f a c x y h h' => .func f a c x y (VRels.mono hle h) (VRels.mono hle h')
  | _, _, .nilFunc => .nilFunc
  | _, _, .iface t v u h => .iface t v u (VRel.mono hle h)
  | _, _, .nilIface => .nilIface
  | _, _, .agg cs us h => .agg cs us (VRels.mono hle h)
  | _, _, .tuple cs us h => .tuple cs us (VRels.mono hle h)
theorem VRels.mono {ρ ρ' : Rho} (hle : ρ.le ρ') : ∀ {l : List AV} {m : List Value}, VRels ρ l m → VRels ρ' l m
  | _, _, .nil => .nil
  | _, _, .cons v u l m h h' => .cons v u l m (VRel.mono hle h) (VRels.mono hle h')
end
section
variable {ρ : Rho}
theorem VRels.length {l : List AV} {m : List Value} (h : VRels ρ l m) : l.length = m.length := by
  induction l generalizing m with
  | nil => cases h; rfl
  | cons v l ih => cases h with | cons _ u _ m _ h' => simp [ih h']
theorem VRels.get {l : List AV} {m : List Value} (h : VRels ρ l m) (i : Nat) (v : AV) (hv : l[i]? = some v) : ∃ u, m[i]? = some u ∧ VRel ρ v u := by
  induction l generalizing m i with
  | nil => simp at hv
  | cons w l ih =>
    cases h with
    | cons _ u _ m h1 h' =>
      cases i with
      | zero => simp only [List.getElem?_cons_zero, Option.some.injEq] at hv; subst hv; exact ⟨u, rfl, h1⟩
      | succ i => simpa using ih h' i (by simpa using hv)
theorem VRels.of_get {l : List AV} {m : List Value} (hl : l.length = m.length) (h : ∀ (i : Nat) (v : AV) (u : Value), l[i]? = some v → m[i]? = some u → VRel ρ v u) : VRels ρ l m := by
  induction l generalizing m with
  | nil => cases m with
    | nil => exact .nil
    | cons => simp at hl
  | cons v l ih => cases m with
    | nil => simp at hl
    | cons u m => exact .cons _ _ _ _ (h 0 v u rfl rfl) (ih (by simpa using hl) fun i a b ha hb => h (i + 1) a b (by simpa using ha) (by simpa using hb))
theorem VRels.drop {l : List AV} {m : List Value} (h : VRels ρ l m) (n : Nat) : VRels ρ (l.drop n) (m.drop n) := by
  induction n generalizing l m with
  | zero => simpa using h
  | succ n ih => cases h with
    | nil => simpa using VRels.nil
    | cons v u l m h1 h' => simpa using ih h'
theorem VRels.take {l : List AV} {m : List Value} (h : VRels ρ l m) (n : Nat) : VRels ρ (l.take n) (m.take n) := by
  induction n generalizing l m with
  | zero => simpa using VRels.nil
  | succ n ih => cases h with
    | nil => simpa using VRels.nil
    | cons v u l m h1 h' => simpa using VRels.cons _ _ _ _ h1 (ih h')
theorem VRels.append {l l' : List AV} {m m' : List Value} (h : VRels ρ l m) (k : VRels ρ l' m') : VRels ρ (l ++ l') (m ++ m') := by
  induction l generalizing m with
  | nil => cases h; exact k
  | cons v l ih => cases h with | cons _ u _ m h1 h' => exact .cons _ _ _ _ h1 (ih h')
theorem VRel.cells {v : AV} {u : Value} (h : VRel ρ v u) : VRels ρ v.cells u.cells.toList := by
  cases h <;> first
    | exact .cons _ _ _ _ (by constructor <;> assumption) .nil
    | assumption
theorem VRel.one {v : AV} {u : Value} (h : VRel ρ v u) (h1 : v.one = true) : u.oneCell' = true := by
  cases h <;> first | rfl | (simp [AV.one] at h1)
theorem VRel.undef : VRel ρ .undef undef := .tuple [] #[] .nil
theorem ofScalar_rel {v : Value} {a : AV} (h : ofScalar v = some a) : VRel ρ a v := by
  unfold ofScalar at h
  split at h <;> first | (cases h; constructor) | (simp at h)
theorem ofScalars_rel {l : List Value} {as : List AV} (h : ofScalars l = some as) : VRels ρ as l := by
  induction l generalizing as with
  | nil => cases h; exact .nil
  | cons v r ih =>
    unfold ofScalars at h
    split at h
    · cases h; rename_i h1 h2; exact .cons _ _ _ _ (ofScalar_rel h1) (ih h2)
    · cases h
theorem ofConst_rel {v : Value} {a : AV} (h : ofConst v = some a) : VRel ρ a v := by
  unfold ofConst at h
  split at h
  · split at h
    · cases h; rename_i h1; exact .agg _ _ (ofScalars_rel h1)
    · cases h
  · split at h
    · cases h; rename_i h1; exact .tuple _ _ (ofScalars_rel h1)
    · cases h
  · exact ofScalar_rel h
end
end Go.Proofs.YtcjjmflaaaddgaaGreatDoor.Am
/-
  The abstract machine's heap against the model's world: reading, writing, making objects.
-/
set_option linter.unusedSimpArgs false
set_option linter.unusedVariables false
namespace Go.Proofs.YtcjjmflaaaddgaaGreatDoor.Am
open Go Go.RowKit

def ERel (ρ : Rho) (e : AV × AV × Nat) (m : MapEntry) : Prop := VRel ρ e.1 m.key ∧ VRel ρ e.2.1 m.val ∧ e.2.2 = m.born
def ERels (ρ : Rho) (es : List (AV × AV × Nat)) (ms : List MapEntry) : Prop := es.length = ms.length ∧ ∀ (i : Nat) e m, es[i]? = some e → ms[i]? = some m → ERel ρ e m
/-- A row of cells, in the block b from base on. -/
structure Row (ρ : Rho) (w : World) (b base : Nat) (c : List AV) (len : Nat) (elem : TypeId) (lo hi : Nat) (whole : Bool) : Prop where
  block : ∃ C fr, w.heap[b]? = some (.cells C elem fr) ∧ base + c.length ≤ C.size ∧ (∀ (i : Nat) v, c[i]? = some v → ∃ u, C[base + i]? = some u ∧ VRel ρ v u) ∧
    fr.1 ≤ fr.2 ∧ (fr.1 = fr.2 ∨ (base + lo ≤ fr.1 ∧ fr.2 ≤ base + hi)) ∧ (whole = true → base = 0 ∧ C.size = c.length)
  len : len = c.length
  one : ∀ v ∈ c, v.one = true
def ORel (ρ : Rho) (w : World) (b base : Nat) : AO → Prop
  | .cells c len elem lo hi whole => Row ρ w b base c len elem lo hi whole
  | .map es clock => base = 0 ∧ ∃ ms, w.heap[b]? = some (.map ms clock) ∧ ERels ρ es ms.toList
  | .iter s pos => base = 0 ∧ ∃ z : ByteArray, w.heap[b]? = some (.stringIter z pos) ∧ s = z.data.toList.map UInt8.toNat
  | .dead => True
/-- A package-level variable: it is only read. -/
def GRel (ρ : Rho) (w : World) (g : Nat) : AO → Prop
  | .cells c len _ _ _ _ => len = c.length ∧ (∀ v ∈ c, v.one = true) ∧ ∀ (i : Nat) v, c[i]? = some v → ∃ u, w.cell? ⟨g, i, none⟩ = some u ∧ VRel ρ v u
  | _ => False
def AO.live : AO → Bool
  | .dead => false
  | _ => true
structure WRel (B : Nat) (ρ : Rho) (h : Trie AO) (w : World) : Prop where
  size : B ≤ w.heap.size
  glob : ∀ id, id < own0 → ρ id = some (id, 0)
  globs : ∀ id o, id < own0 → h.get id = some o → id < B ∧ GRel ρ w id o
  lt : ∀ id b base, own0 ≤ id → ρ id = some (b, base) → B ≤ b ∧ b < w.heap.size
  obj : ∀ id o, own0 ≤ id → h.get id = some o → o.live = true → ∃ b base, ρ id = some (b, base) ∧ ORel ρ w b base o
  apart : ∀ id id' o o' b k b' k', own0 ≤ id → own0 ≤ id' → id ≠ id' → h.get id = some o → h.get id' = some o' → o.live = true → o'.live = true → ρ id = some (b, k) → ρ id' = some (b', k') → b ≠ b'
  room : ∀ b, (w.heap.size ≤ b → ρ.sz b = 0) ∧ ∀ C e fr, w.heap[b]? = some (.cells C e fr) → ρ.sz b ≤ C.size

theorem Addr.add_plain (b o i : Nat) : (⟨b, o, none⟩ : Addr).add i = ⟨b, o + i, none⟩ := by unfold Addr.add; split <;> simp_all
theorem cell_block {w : World} {b : Nat} {C : Array Value} {e : TypeId} {fr : Nat × Nat} (h : w.heap[b]? = some (.cells C e fr)) (i : Nat) : w.cell? ⟨b, i, none⟩ = C[i]? := by simp [World.cell?, h]
theorem frozen_block {w : World} {b : Nat} {C : Array Value} {e : TypeId} {fr : Nat × Nat} (h : w.heap[b]? = some (.cells C e fr)) (i : Nat) : w.frozen? ⟨b, i, none⟩ = (decide (fr.1 ≤ i) && decide (i < fr.2)) := by simp [World.frozen?, h]
theorem lt_of_block {w : World} {b : Nat} {o : Obj} (h : w.heap[b]? = some o) : b < w.heap.size := (Array.getElem?_eq_some_iff.1 h).1

theorem ERels.mono {ρ ρ' : Rho} (hle : ρ.le ρ') {es : List (AV × AV × Nat)} {ms : List MapEntry} (h : ERels ρ es ms) : ERels ρ' es ms :=
  ⟨h.1, fun i e m he hm => let r := h.2 i e m he hm; ⟨r.1.mono hle, r.2.1.mono hle, r.2.2⟩⟩
/-- Where a block reads as it did, and what is known of numbers has grown. -/
theorem ORel.keep {ρ ρ' : Rho} (hle : ρ.le ρ') {w w' : World} {b base : Nat} (hb : w'.heap[b]? = w.heap[b]?) {o : AO} (h : ORel ρ w b base o) : ORel ρ' w' b base o := by
  cases o with
  | cells c len elem lo hi whole =>
    obtain ⟨⟨C, fr, h1, h0, h2, h3⟩, h4, h5⟩ := h
    exact ⟨⟨C, fr, hb.trans h1, h0, fun i v hv => let ⟨u, hu, hr⟩ := h2 i v hv; ⟨u, hu, hr.mono hle⟩, h3⟩, h4, h5⟩
  | map es clock => obtain ⟨h0, ms, h1, h2⟩ := h; exact ⟨h0, ms, hb.trans h1, h2.mono hle⟩
  | iter s pos => obtain ⟨h0, z, h1, h2⟩ := h; exact ⟨h0, z, hb.trans h1, h2⟩
  | dead => trivial
theorem GRel.keep {ρ ρ' : Rho} (hle : ρ.le ρ') {w w' : World} {g : Nat} (hb : w'.heap[g]? = w.heap[g]?) {o : AO} (h : GRel ρ w g o) : GRel ρ' w' g o := by
  cases o with
  | cells c len elem lo hi whole =>
    obtain ⟨h1, h2, h3⟩ := h
    refine ⟨h1, h2, fun i v hv => ?_⟩
    obtain ⟨u, hu, hr⟩ := h3 i v hv
    exact ⟨u, by rw [← hu]; simp [World.cell?, hb], hr.mono hle⟩
  | map => exact h
  | iter => exact h
  | dead => exact h
/-- Of the world no block but b turned; the object id, which lies there, has. -/
theorem WRel.update {B : Nat} {ρ : Rho} {h h' : Trie AO} {w w' : World} (hw : WRel B ρ h w) {id b base : Nat} {o o' : AO} (hid : own0 ≤ id) (hget : h.get id = some o) (hlive : o.live = true)
    (hρ : ρ id = some (b, base)) (hh : ∀ m, h'.get m = if m = id then some o' else h.get m) (hs : w'.heap.size = w.heap.size) (hk : ∀ k, k ≠ b → w'.heap[k]? = w.heap[k]?)
    (ho : o'.live = true → ORel ρ w' b base o') (hroom : ∀ C e fr, w'.heap[b]? = some (.cells C e fr) → ρ.sz b ≤ C.size) : WRel B ρ h' w' := by
  have hlb := hw.lt id b base hid hρ
  refine ⟨hs ▸ hw.size, hw.glob, ?_, ?_, ?_, ?_, fun k => ⟨fun q => (hw.room k).1 (by omega), fun C e fr q => ?_⟩⟩
  · intro i x hi hx
    rw [hh, if_neg (by omega)] at hx
    obtain ⟨g1, g2⟩ := hw.globs i x hi hx
    exact ⟨g1, g2.keep (Rho.le.refl _) (hk i (by omega))⟩
  · intro i c k hi hr; have := hw.lt i c k hi hr; omega
  · intro i x hi hx hl
    rw [hh] at hx
    by_cases e : i = id
    · subst e; rw [if_pos rfl] at hx; cases hx; exact ⟨b, base, hρ, ho hl⟩
    · rw [if_neg e] at hx
      obtain ⟨c, k, hc, hr⟩ := hw.obj i x hi hx hl
      exact ⟨c, k, hc, hr.keep (Rho.le.refl _) (hk c (hw.apart i id x o c k b base hi hid e hx hget hl hlive hc hρ))⟩
  · intro i j x y c k c' k' hi hj hne hx hy hlx hly hc hc'
    rw [hh] at hx hy
    by_cases e : i = id
    · subst e
      rw [if_neg (fun q => hne q.symm)] at hy
      exact hw.apart i j o y c k c' k' hi hj hne hget hy hlive hly hc hc'
    · rw [if_neg e] at hx
      by_cases e' : j = id
      · subst e'; exact hw.apart i j x o c k c' k' hi hj hne hx hget hlx hlive hc hc'
      · rw [if_neg e'] at hy; exact hw.apart i j x y c k c' k' hi hj hne hx hy hlx hly hc hc'
  · by_cases e' : k = b
    · subst e'; exact hroom C e fr q
    · exact (hw.room k).2 C e fr (hk k e' ▸ q)
def Rho.addS (ρ : Rho) (id b base n : Nat) : Rho := ⟨fun i => if i = id then some (b, base) else ρ i, fun c => if c = b then n else ρ.sz c⟩
def Rho.add (ρ : Rho) (id b base : Nat) : Rho := ρ.addS id b base (ρ.sz b)
theorem Rho.le_addS (ρ : Rho) {id b n : Nat} (base : Nat) (h : ρ id = none) (hn : ρ.sz b ≤ n) : ρ.le (ρ.addS id b base n) := by
  refine ⟨fun i p hp => ?_, fun c => ?_⟩
  · show (if i = id then some (b, base) else ρ i) = _
    by_cases e : i = id
    · subst e; rw [h] at hp; cases hp
    · rw [if_neg e]; exact hp
  · show _ ≤ if c = b then n else ρ.sz c
    by_cases e : c = b
    · subst e; rw [if_pos rfl]; exact hn
    · rw [if_neg e]; exact Nat.le_refl _
theorem Rho.le_add (ρ : Rho) {id : Nat} (b base : Nat) (h : ρ id = none) : ρ.le (ρ.add id b base) := ρ.le_addS base h (Nat.le_refl _)
theorem Rho.addS_at (ρ : Rho) (id b base n i : Nat) : (ρ.addS id b base n) i = if i = id then some (b, base) else ρ i := rfl
theorem Rho.add_at (ρ : Rho) (id b base i : Nat) : (ρ.add id b base) i = if i = id then some (b, base) else ρ i := rfl
theorem Rho.addS_sz (ρ : Rho) (id b base n c : Nat) : (ρ.addS id b base n).sz c = if c = b then n else ρ.sz c := rfl
/-- A new object, in a block that no living object has (a new one). -/
theorem WRel.new {B : Nat} {ρ : Rho} {h h' : Trie AO} {w w' : World} (hw : WRel B ρ h w) {id b base n : Nat} {o : AO} (hid : own0 ≤ id) (hnone : ρ id = none)
    (hh : ∀ m, h'.get m = if m = id then some o else h.get m) (hs : w.heap.size ≤ w'.heap.size) (hB : B ≤ b) (hb : b < w'.heap.size)
    (hfree : ∀ i x c k, own0 ≤ i → i ≠ id → h.get i = some x → x.live = true → ρ i = some (c, k) → c ≠ b) (hk : ∀ k, k ≠ b → k < w.heap.size → w'.heap[k]? = w.heap[k]?)
    (ho : ORel (ρ.addS id b base n) w' b base o) (hn : ρ.sz b ≤ n) (hroom : ∀ C e fr, w'.heap[b]? = some (.cells C e fr) → n ≤ C.size) : WRel B (ρ.addS id b base n) h' w' := by
  have hle := ρ.le_addS base hnone hn
  refine ⟨Nat.le_trans hw.size hs, ?_, ?_, ?_, ?_, ?_, fun k => ⟨fun q => ?_, fun C e fr q => ?_⟩⟩
  · intro i hi; rw [Rho.addS_at]; rw [if_neg (by omega)]; exact hw.glob i hi
  · intro i x hi hx
    rw [hh, if_neg (by omega)] at hx
    obtain ⟨g1, g2⟩ := hw.globs i x hi hx
    exact ⟨g1, g2.keep hle (hk i (by omega) (by have := hw.size; omega))⟩
  · intro i c k hi hr
    rw [Rho.addS_at] at hr
    by_cases e : i = id
    · rw [if_pos e] at hr; cases hr; exact ⟨hB, hb⟩
    · rw [if_neg e] at hr; have := hw.lt i c k hi hr; omega
  · intro i x hi hx hl
    rw [hh] at hx
    by_cases e : i = id
    · subst e; rw [if_pos rfl] at hx; cases hx; exact ⟨b, base, by simp [Rho.addS_at], ho⟩
    · rw [if_neg e] at hx
      obtain ⟨c, k, hc, hr⟩ := hw.obj i x hi hx hl
      exact ⟨c, k, hle.1 _ _ hc, hr.keep hle (hk c (hfree i x c k hi e hx hl hc) (hw.lt i c k hi hc).2)⟩
  · intro i j x y c k c' k' hi hj hne hx hy hlx hly hc hc'
    rw [hh] at hx hy
    rw [Rho.addS_at] at hc hc'
    by_cases e : i = id
    · subst e
      rw [if_pos rfl] at hc; cases hc
      rw [if_neg (fun q => hne q.symm)] at hy hc'
      exact fun q => hfree j y c' k' hj (fun q => hne q.symm) hy hly hc' q.symm
    · rw [if_neg e] at hx hc
      by_cases e' : j = id
      · subst e'; rw [if_pos rfl] at hc'; cases hc'; exact hfree i x c k hi e hx hlx hc
      · rw [if_neg e'] at hy hc'; exact hw.apart i j x y c k c' k' hi hj hne hx hy hlx hly hc hc'
  · rw [Rho.addS_sz, if_neg (by omega)]; exact (hw.room k).1 (by omega)
  · rw [Rho.addS_sz]
    by_cases e' : k = b
    · subst e'; rw [if_pos rfl]; exact hroom C e fr q
    · rw [if_neg e']
      by_cases e2 : k < w.heap.size
      · exact (hw.room k).2 C e fr (hk k e' e2 ▸ q)
      · rw [(hw.room k).1 (by omega)]; exact Nat.zero_le _
/-- What is asked of objects alone. -/
theorem WRel.congr {B : Nat} {ρ : Rho} {h h' : Trie AO} {w : World} (hw : WRel B ρ h w) (hh : ∀ m, h'.get m = h.get m) : WRel B ρ h' w :=
  ⟨hw.size, hw.glob, fun i x hi hx => hw.globs i x hi (hh i ▸ hx), hw.lt, fun i x hi hx hl => hw.obj i x hi (hh i ▸ hx) hl,
    fun i j x y b k b' k' hi hj hne hx hy => hw.apart i j x y b k b' k' hi hj hne (hh i ▸ hx) (hh j ▸ hy), hw.room⟩
/-- Draws turn no block. -/
theorem WRel.heap {B : Nat} {ρ : Rho} {h : Trie AO} {w w' : World} (hw : WRel B ρ h w) (e : w'.heap = w.heap) : WRel B ρ h w' :=
  ⟨e ▸ hw.size, hw.glob, fun i x hi hx => ⟨(hw.globs i x hi hx).1, (hw.globs i x hi hx).2.keep (Rho.le.refl _) (by rw [e])⟩, fun i b k hi hr => e ▸ hw.lt i b k hi hr,
    fun i x hi hx hl => let ⟨b, k, hb, hr⟩ := hw.obj i x hi hx hl; ⟨b, k, hb, hr.keep (Rho.le.refl _) (by rw [e])⟩, hw.apart, e ▸ hw.room⟩
/-- New blocks, nothing else: what another one does. -/
theorem WRel.grown {B : Nat} {ρ : Rho} {h : Trie AO} {w w' : World} (hw : WRel B ρ h w) (hs : w.heap.size ≤ w'.heap.size) (hk : ∀ k, k < w.heap.size → w'.heap[k]? = w.heap[k]?) : WRel B ρ h w' :=
  ⟨Nat.le_trans hw.size hs, hw.glob, fun i x hi hx => let g := hw.globs i x hi hx; ⟨g.1, g.2.keep (Rho.le.refl _) (hk i (by have := hw.size; omega))⟩,
    fun i b k hi hr => by have := hw.lt i b k hi hr; omega,
    fun i x hi hx hl => let ⟨b, k, hb, hr⟩ := hw.obj i x hi hx hl; ⟨b, k, hb, hr.keep (Rho.le.refl _) (hk b (hw.lt i b k hi hb).2)⟩, hw.apart,
    fun b => ⟨fun q => (hw.room b).1 (by omega), fun C e fr q => (Nat.lt_or_ge b w.heap.size).elim (fun h => (hw.room b).2 C e fr (hk b h ▸ q)) fun h => by rw [(hw.room b).1 h]; exact Nat.zero_le _⟩⟩

/-! Behind a call. lo, hi: the numbers that came. -/
structure Post (B : Nat) (ρ : Rho) (lo hi : Nat) (h' : Trie AO) (w w' : World) (ρ' : Rho) : Prop where
  ext : ρ.le ρ'
  new : ∀ id, ρ id = none → ρ' id ≠ none → lo ≤ id ∧ id < hi
  rel : WRel B ρ' h' w'
  below : Below B w w'
def Fresh (ρ : Rho) (lo hi : Nat) : Prop := ∀ id, lo ≤ id → id < hi → ρ id = none
theorem Post.same {B : Nat} {ρ : Rho} {lo hi : Nat} {h' : Trie AO} {w : World} (h : WRel B ρ h' w) : Post B ρ lo hi h' w w ρ := ⟨Rho.le.refl _, fun _ h1 h2 => absurd h1 h2, h, Below.refl _ _⟩
theorem Post.trans {B : Nat} {ρ ρ' ρ'' : Rho} {lo mid hi : Nat} {h' h'' : Trie AO} {w w' w'' : World} (a : Post B ρ lo mid h' w w' ρ') (b : Post B ρ' mid hi h'' w' w'' ρ'') (h1 : lo ≤ mid) (h2 : mid ≤ hi) : Post B ρ lo hi h'' w w'' ρ'' := by
  refine ⟨a.ext.trans b.ext, fun id h0 h => ?_, b.rel, a.below.trans b.below⟩
  cases e : ρ' id with
  | none => have := b.new id e h; omega
  | some p => have := a.new id h0 (by simp [e]); omega
theorem Fresh.later {B : Nat} {ρ ρ' : Rho} {lo mid hi : Nat} {h' : Trie AO} {w w' : World} (a : Post B ρ lo mid h' w w' ρ') (hf : Fresh ρ lo hi) (h1 : lo ≤ mid) : Fresh ρ' mid hi := by
  intro id hlo hhi
  cases e : ρ' id with
  | none => rfl
  | some p => have := a.new id (hf id (by omega) hhi) (by simp [e]); omega
theorem Fresh.sub {ρ : Rho} {lo hi lo' hi' : Nat} (h : Fresh ρ lo hi) (h1 : lo ≤ lo') (h2 : hi' ≤ hi) : Fresh ρ lo' hi' := fun id a b => h id (by omega) (by omega)

/-! The primitives. -/
theorem own_of {id : Nat} (h : ownB id = true) : own0 ≤ id ∧ id + 1 < 2 ^ 32 := by
  unfold ownB at h
  rw [ble_nat, ble_nat, Bool.and_eq_true, decide_eq_true_eq, decide_eq_true_eq] at h
  exact ⟨h.1, by omega⟩
section
variable {B : Nat} {ρ : Rho} {w : World} {s t : AS}
theorem readR_ok {id off n : Nat} {x : Cells} (h : readR id off n s = .ok x t) (hw : WRel B ρ s.heap w) :
    ∃ b base c, ρ id = some (b, base) ∧ s.heap.get id = some (.cells c x.len x.e x.lo x.hi x.whole) ∧ x.len = c.length ∧ off + n ≤ c.length ∧ x.c = (c.drop off).take n ∧
      (∀ (i : Nat) v, c[i]? = some v → v.one = true ∧ ∃ u, w.cell? ⟨b, base + i, none⟩ = some u ∧ VRel ρ v u) ∧ t.heap = s.heap ∧ t.next = s.next := by
  unfold readR at h
  split at h
  · rename_i c len e lo hi wh hget
    rw [ble_nat] at h
    by_cases hle : off + n ≤ len
    · rw [decide_eq_true hle, cond_true] at h
      injection h with h1 h2
      subst h1; subst h2
      by_cases hid : id < own0
      · obtain ⟨_, g1, g2, g3⟩ := hw.globs id _ hid hget
        refine ⟨id, 0, c, hw.glob id hid, hget, g1, by omega, by simp, fun i v hv => ⟨g2 v (List.mem_of_getElem? hv), ?_⟩, rfl, rfl⟩
        simpa using g3 i v hv
      · obtain ⟨b, base, hb, ⟨C, fr, k1, _, k2, k3⟩, k4, k5⟩ := hw.obj id _ (by omega) hget rfl
        refine ⟨b, base, c, hb, hget, k4, by omega, by simp, fun i v hv => ⟨k5 v (List.mem_of_getElem? hv), ?_⟩, rfl, rfl⟩
        obtain ⟨u, hu, hr⟩ := k2 i v hv
        exact ⟨u, by rw [cell_block k1]; exact hu, hr⟩
    · rw [decide_eq_false hle] at h; cases h
  · cases h
/-- The cells that were read, as values. -/
theorem readR_vals {id off n : Nat} {x : Cells} (h : readR id off n s = .ok x t) (hw : WRel B ρ s.heap w) {b base : Nat} (hb : ρ id = some (b, base)) :
    ∃ us : List Value, us.length = n ∧ VRels ρ x.c us ∧ (∀ (j : Nat) u, us[j]? = some u → w.cell? ((⟨b, base + off, none⟩ : Addr).add j) = some u) ∧ (∀ v ∈ x.c, v.one = true) := by
  obtain ⟨b', base', c, hb', hget, hlen, hle, hx, hc, _, _⟩ := readR_ok h hw
  rw [hb] at hb'; cases hb'
  have hn : x.c.length = n := by rw [hx]; simp; omega
  have key : ∀ j, j < n → ∃ u, w.cell? ((⟨b, base + off, none⟩ : Addr).add j) = some u ∧ ∀ v, x.c[j]? = some v → VRel ρ v u := by
    intro j hj
    have hv : x.c[j]? = some x.c[j] := List.getElem?_eq_getElem (by omega)
    have hv' : c[off + j]? = some x.c[j] := by rw [← hv, hx]; simp [hj]
    obtain ⟨_, u, hu, hr⟩ := hc (off + j) _ hv'
    refine ⟨u, by rw [Addr.add_plain]; rw [← hu]; congr 1; simp; omega, fun v e => ?_⟩
    rw [hv] at e; cases e; exact hr
  refine ⟨(List.range n).map fun j => (w.cell? ((⟨b, base + off, none⟩ : Addr).add j)).getD undef, by simp, ?_, ?_, ?_⟩
  · refine VRels.of_get (by simp [hn]) fun i v u hv hu => ?_
    have hi : i < n := by rcases Nat.lt_or_ge i n with h | h; exact h; simp [List.getElem?_eq_none (by omega : x.c.length ≤ i)] at hv
    obtain ⟨u', hu', hr⟩ := key i hi
    simp only [List.getElem?_map, List.getElem?_range hi, Option.map_some, hu', Option.getD_some, Option.some.injEq] at hu
    exact hu ▸ hr v hv
  · intro j u hu
    have hj : j < n := by rcases Nat.lt_or_ge j n with h | h; exact h; simp [List.getElem?_eq_none (by simpa using h : ((List.range n).map _).length ≤ j)] at hu
    obtain ⟨u', hu', _⟩ := key j hj
    simp only [List.getElem?_map, List.getElem?_range hj, Option.map_some, hu', Option.getD_some, Option.some.injEq] at hu
    rw [hu', hu]
  · intro v hv
    rw [hx] at hv
    obtain ⟨i, hi⟩ := List.mem_iff_getElem?.1 (List.mem_of_mem_drop (List.mem_of_mem_take hv))
    exact (hc i v hi).1
end
end Go.Proofs.YtcjjmflaaaddgaaGreatDoor.Am
/-
  The abstract machine's writing against the model's stores.
-/
set_option linter.unusedSimpArgs false
set_option linter.unusedVariables false
namespace Go.Proofs.YtcjjmflaaaddgaaGreatDoor.Am
open Go Go.RowKit

/-- A row of stores into one block. -/
theorem run_storeCells {P : Program} {b : Nat} {e : TypeId} {fr : Nat × Nat} : ∀ (us : List Value) (off i : Nat) (w : World) (C : Array Value), w.heap[b]? = some (.cells C e fr) →
    off + i + us.length ≤ C.size → (∀ u ∈ us, u.oneCell' = true) → (fr.2 ≤ off + i ∨ off + i + us.length ≤ fr.1 ∨ fr.2 ≤ fr.1) →
    ∃ w' C', (storeCells ⟨b, off, none⟩ us i).run P w = .ok () w' ∧ w'.heap[b]? = some (.cells C' e fr) ∧ C'.size = C.size ∧
      (∀ j, C'[j]? = if off + i ≤ j ∧ j < off + i + us.length then us[j - (off + i)]? else C[j]?) ∧ (∀ k, k ≠ b → w'.heap[k]? = w.heap[k]?) ∧ w'.heap.size = w.heap.size ∧ Below b w w'
  | [], off, i, w, C, hb, _, _, _ => ⟨w, C, rfl, hb, rfl, fun j => by rw [if_neg (by simp only [List.length_nil]; omega)], fun _ _ => rfl, rfl, Below.refl _ _⟩
  | u :: us, off, i, w, C, hb, hle, h1, hfr => by
    have hlt : off + i < C.size := by simp only [List.length_cons] at hle; omega
    have hcell : w.cell? ⟨b, off + i, none⟩ = some C[off + i] := by rw [cell_block hb]; exact Array.getElem?_eq_getElem hlt
    have hfz : w.frozen? ⟨b, off + i, none⟩ = false := by
      rw [frozen_block hb]; simp only [List.length_cons] at hle hfr
      rcases hfr with h | h | h
      · have : ¬ off + i < fr.2 := by omega
        simp [this]
      · have : ¬ fr.1 ≤ off + i := by omega
        simp [this]
      · by_cases q : fr.1 ≤ off + i
        · have : ¬ off + i < fr.2 := by omega
          simp [this]
        · simp [q]
    have hb1 : (w.setCell ⟨b, off + i, none⟩ u).heap[b]? = some (.cells (C.setIfInBounds (off + i) u) e fr) := by
      simp only [World.setCell, Array.getElem?_modify, if_true, hb, Option.map_some]; rfl
    obtain ⟨w', C', r1, r2, r3, r4, r5, r6, r7⟩ := run_storeCells us off (i + 1) (w.setCell ⟨b, off + i, none⟩ u) _ hb1 (by simp only [Array.size_setIfInBounds, List.length_cons] at hle ⊢; omega)
      (fun x hx => h1 x (List.mem_cons_of_mem _ hx)) (by simp only [List.length_cons] at hfr; omega)
    refine ⟨w', C', ?_, r2, by simpa using r3, ?_, ?_, by simpa using r6, ?_⟩
    · simp only [storeCells, Sem.run_bind, Addr.add_plain]
      rw [run_store P w _ u _ (h1 u List.mem_cons_self), hcell]
      simp only [hfz, Result.andThen, Bool.false_eq_true, if_false]
      exact r1
    · intro j
      rw [r4 j]
      simp only [List.length_cons]
      by_cases q : off + (i + 1) ≤ j ∧ j < off + (i + 1) + us.length
      · rw [if_pos q, if_pos (by omega), show j - (off + i) = (j - (off + (i + 1))) + 1 by omega, List.getElem?_cons_succ]
      · rw [if_neg q]
        by_cases q2 : off + i = j
        · subst q2
          rw [if_pos (by omega)]; simp [hlt]
        · rw [if_neg (by omega), Array.getElem?_setIfInBounds_ne (by omega)]
    · intro k hk
      rw [r5 k hk]
      exact Below.heap_setCell _ _ _ _ hk
    · exact ((Below.refl b w).setCell (p := ⟨b, off + i, none⟩) (Nat.le_refl b) u).trans r7
section
variable {B : Nat} {ρ : Rho} {w : World} {s t : AS} {P : Program}
theorem splice_get (c : List AV) (off : Nat) (vs : List AV) (h : off + vs.length ≤ c.length) (j : Nat) : (splice c off vs)[j]? = if off ≤ j ∧ j < off + vs.length then vs[j - off]? else c[j]? := by
  unfold splice
  simp only [lapp_eq, ltake_eq, ldrop_eq, llen_eq]
  have ht : (c.take off).length = off := by simp; omega
  by_cases h1 : j < off
  · rw [List.getElem?_append_left (by omega), if_neg (by omega)]; simp [h1]
  · rw [List.getElem?_append_right (by omega), ht]
    by_cases h2 : j < off + vs.length
    · rw [List.getElem?_append_left (by omega), if_pos (by omega)]
    · rw [List.getElem?_append_right (by omega), if_neg (by omega), List.getElem?_drop]; congr 1; omega
theorem splice_length (c : List AV) (off : Nat) (vs : List AV) (h : off + vs.length ≤ c.length) : (splice c off vs).length = c.length := by
  unfold splice; simp; omega
theorem writeR_ok {id off : Nat} {vs : List AV} {us : List Value} (h : writeR id off vs s = .ok () t) (hw : WRel B ρ s.heap w) (hv : VRels ρ vs us) {b base : Nat} (hρ : ρ id = some (b, base)) :
    ∃ w', (storeCells ⟨b, base + off, none⟩ us).run P w = .ok () w' ∧ WRel B ρ t.heap w' ∧ Below B w w' ∧ t.next = s.next := by
  unfold writeR at h
  split at h
  · rename_i c len e lo hi wh hget
    generalize hc : (ownB id && Nat.ble (off + llen vs) len && lall AV.one vs && (Nat.ble hi lo || Nat.ble hi off || Nat.ble (off + llen vs) lo)) = q at h
    cases q with
    | false => cases h
    | true =>
      rw [cond_true] at h
      injection h with _ h2
      simp only [ble_nat, llen_eq, lall_eq, Bool.and_eq_true, Bool.or_eq_true, decide_eq_true_eq] at hc
      obtain ⟨⟨⟨hown, hle⟩, hone⟩, hfz⟩ := hc
      obtain ⟨hid, hid2⟩ := own_of hown
      obtain ⟨b', base', hb', ⟨C, fr, k1, k0, k2, k3, k4, k5⟩, k6, k7⟩ := hw.obj id _ hid hget rfl
      rw [hρ] at hb'; cases hb'
      have hul : us.length = vs.length := hv.length.symm
      have hone' : ∀ u ∈ us, u.oneCell' = true := by
        intro u hu
        obtain ⟨j, hj⟩ := List.mem_iff_getElem?.1 hu
        have hjl : j < vs.length := by rw [← hul]; exact (List.getElem?_eq_some_iff.1 hj).1
        obtain ⟨u', hu', hr⟩ := hv.get j vs[j] (List.getElem?_eq_getElem hjl)
        rw [hj] at hu'; cases hu'
        exact hr.one (by simpa using List.all_eq_true.1 hone vs[j] (List.getElem_mem hjl))
      obtain ⟨w', C', r1, r2, r3, r4, r5, r6, r7⟩ := run_storeCells (P := P) us (base + off) 0 w C k1 (by omega) hone' (by omega)
      refine ⟨w', r1, ?_, r7.mono (hw.lt id b base hid hρ).1, by rw [← h2]⟩
      rw [← h2]
      refine hw.update hid hget rfl hρ (o' := .cells (splice c off vs) len e lo hi wh) (fun m => Trie.get_set 32 _ _ _ m hid2) r6 r5 (fun _ => ⟨⟨C', fr, r2, ?_, ?_, k3, k4, ?_⟩, ?_, ?_⟩) (fun C2 e2 fr2 q => by rw [r2] at q; cases q; rw [r3]; exact (hw.room b).2 _ _ _ k1)
      · rw [splice_length _ _ _ (by omega), r3]; exact k0
      · intro i v hi
        rw [splice_get _ _ _ (by omega)] at hi
        rw [r4]
        by_cases q : off ≤ i ∧ i < off + vs.length
        · rw [if_pos q] at hi
          rw [if_pos (by omega)]
          obtain ⟨u, hu, hr⟩ := hv.get _ v hi
          exact ⟨u, by rw [← hu]; congr 1; omega, hr⟩
        · rw [if_neg q] at hi
          rw [if_neg (by omega)]
          exact k2 i v hi
      · intro q; rw [splice_length _ _ _ (by omega), r3]; exact k5 q
      · rw [splice_length _ _ _ (by omega)]; exact k6
      · intro v hv'
        obtain ⟨i, hi⟩ := List.mem_iff_getElem?.1 hv'
        rw [splice_get _ _ _ (by omega)] at hi
        by_cases q : off ≤ i ∧ i < off + vs.length
        · rw [if_pos q] at hi; exact List.all_eq_true.1 hone v (List.mem_of_getElem? hi)
        · rw [if_neg q] at hi; exact k7 v (List.mem_of_getElem? hi)
  · cases h
/-- A new row of cells: a new block, or the rest of one whose object is no more. -/
theorem newO_ok {o : AO} {id : Nat} (h : newO o s = .ok id t) : id = s.next ∧ t.next = s.next + 1 ∧ own0 ≤ id ∧ ∀ m, t.heap.get m = if m = id then some o else s.heap.get m := by
  unfold newO at h
  cases hc : ownB s.next with
  | false => rw [hc] at h; cases h
  | true =>
    rw [hc, cond_true] at h
    injection h with h1 h2
    obtain ⟨h3, h4⟩ := own_of hc
    subst h1; subst h2
    exact ⟨rfl, rfl, h3, fun m => Trie.get_set 32 _ _ _ m h4⟩
theorem heap_new (w : World) (O : Obj) : (w.alloc O).heap[w.heap.size]? = some O := heap_alloc_new w O
/-- A block is laid. -/
theorem new_allocS {o : AO} {id : Nat} (h : newO o s = .ok id t) (hw : WRel B ρ s.heap w) (hf : Fresh ρ s.next t.next) (O : Obj) (n : Nat)
    (ho : ∀ ρ', ρ.le ρ' → ORel ρ' (w.alloc O) w.heap.size 0 o) (hn : ∀ C e fr, O = .cells C e fr → n ≤ C.size) :
    Post B ρ s.next t.next t.heap w (w.alloc O) (ρ.addS id w.heap.size 0 n) ∧ (ρ.addS id w.heap.size 0 n) id = some (w.heap.size, 0) ∧ t.next = s.next + 1 ∧ own0 ≤ id := by
  obtain ⟨h1, h2, h3, h4⟩ := newO_ok h
  have hnone : ρ id = none := hf id (by omega) (by omega)
  have hn0 : ρ.sz w.heap.size ≤ n := by rw [(hw.room _).1 (Nat.le_refl _)]; exact Nat.zero_le _
  refine ⟨⟨ρ.le_addS _ hnone hn0, fun i h0 h => ?_, ?_, (Below.refl B w).alloc hw.size O⟩, by simp [Rho.addS_at], h2, h3⟩
  · rw [Rho.addS_at] at h
    by_cases e : i = id
    · omega
    · rw [if_neg e] at h; exact absurd h0 h
  · refine hw.new h3 hnone h4 (by simp) hw.size (by simp) (fun i x c k hi _ _ _ hc => ?_) (fun k hk _ => Below.heap_alloc _ _ _ (by omega)) (ho _ (ρ.le_addS _ hnone hn0)) hn0
      (fun C e fr q => hn C e fr (by rw [heap_new] at q; exact Option.some.inj q))
    have := (hw.lt i c k hi hc).2; omega
theorem new_alloc {o : AO} {id : Nat} (h : newO o s = .ok id t) (hw : WRel B ρ s.heap w) (hf : Fresh ρ s.next t.next) (O : Obj)
    (ho : ∀ ρ', ρ.le ρ' → ORel ρ' (w.alloc O) w.heap.size 0 o) :
    Post B ρ s.next t.next t.heap w (w.alloc O) (ρ.add id w.heap.size 0) ∧ (ρ.add id w.heap.size 0) id = some (w.heap.size, 0) ∧ t.next = s.next + 1 ∧ own0 ≤ id :=
  new_allocS h hw hf O _ ho fun _ _ _ _ => by rw [(hw.room _).1 (Nat.le_refl _)]; exact Nat.zero_le _
theorem newCells_ok {elem : TypeId} {vs : List AV} {us : Array Value} {id : Nat} (h : newCells elem vs s = .ok id t) (hw : WRel B ρ s.heap w) (hf : Fresh ρ s.next t.next) (hv : VRels ρ vs us.toList) :
    Post B ρ s.next t.next t.heap w (w.alloc (.cells us elem)) (ρ.add id w.heap.size 0) ∧ (ρ.add id w.heap.size 0) id = some (w.heap.size, 0) ∧ t.next = s.next + 1 ∧ own0 ≤ id := by
  unfold newCells at h
  show _ ∧ _
  have h0 : lall AV.one vs = true ∧ newO (.cells vs (llen vs) elem 0 0 true) s = .ok id t := by
    revert h
    show SM.bind (SM.check 26 (lall AV.one vs)) (fun _ => newO _) s = _ → _
    unfold SM.bind SM.check
    cases lall AV.one vs with
    | false => intro h; cases h
    | true => intro h; exact ⟨rfl, h⟩
  obtain ⟨hone, hn⟩ := h0
  rw [lall_eq, List.all_eq_true] at hone
  refine new_alloc hn hw hf _ fun ρ' hle => ⟨⟨us, (0, 0), heap_new _ _, ?_, fun i v hi => ?_, Nat.le_refl _, .inl rfl, fun _ => ⟨rfl, ?_⟩⟩, by simp, hone⟩
  · have := hv.length; simp at this ⊢; omega
  · obtain ⟨u, hu, hr⟩ := hv.get i v hi
    exact ⟨u, by simpa using hu, hr.mono hle⟩
  · have := hv.length; simp at this ⊢; omega
end
end Go.Proofs.YtcjjmflaaaddgaaGreatDoor.Am
/-
  The abstract machine's operations against the model's: reading and writing variables, parts, building.
-/
set_option linter.unusedSimpArgs false
set_option linter.unusedVariables false
namespace Go.Proofs.YtcjjmflaaaddgaaGreatDoor.Am
open Go Go.RowKit

section
variable {α β : Type} {s u : AS}
theorem bind_ok {m : SM α} {f : α → SM β} {b : β} : (m >>= f) s = .ok b u ↔ ∃ a t, m s = .ok a t ∧ f a t = .ok b u := by
  show SM.bind m f s = _ ↔ _
  unfold SM.bind
  cases h : m s with
  | ok a t => exact ⟨fun e => ⟨a, t, rfl, e⟩, fun ⟨a', t', e, e'⟩ => by cases e; exact e'⟩
  | err e => exact ⟨fun e => (by cases e), fun ⟨a', t', e, e'⟩ => by cases e⟩
theorem pure_ok {a b : α} : (pure a : SM α) s = .ok b u ↔ a = b ∧ s = u := by
  show Rs.ok a s = .ok b u ↔ _
  exact ⟨fun e => by cases e; exact ⟨rfl, rfl⟩, fun ⟨e, e'⟩ => by rw [e, e']⟩
theorem lift_ok {n : Nat} {o : Option α} {b : α} : SM.lift n o s = .ok b u ↔ o = some b ∧ s = u := by
  cases o with
  | none => exact ⟨fun e => (by cases e), fun ⟨e, _⟩ => by cases e⟩
  | some a => exact pure_ok.trans ⟨fun ⟨e, e'⟩ => ⟨by rw [e], e'⟩, fun ⟨e, e'⟩ => ⟨by cases e; rfl, e'⟩⟩
theorem check_ok {n : Nat} {b : Bool} {x : Unit} : SM.check n b s = .ok x u ↔ b = true ∧ s = u := by
  cases b with
  | false => exact ⟨fun e => (by cases e), fun ⟨e, _⟩ => by cases e⟩
  | true => exact ⟨fun e => by cases e; exact ⟨rfl, rfl⟩, fun ⟨_, e⟩ => by rw [e]; rfl⟩
theorem fail_ok {n : Nat} {b : α} : (SM.fail n : SM α) s = .ok b u ↔ False := ⟨fun e => (by cases e), fun e => e.elim⟩
end

section
variable {B : Nat} {ρ : Rho} {w : World} {s t : AS} {P : Program}
theorem sizeOf?_run {ty : TypeId} {n : Nat} (h : sizeOf? P ty = some n) : (Go.sizeOf ty).run P w = .ok n w ∧ ∃ i, P.info? ty = some i ∧ i.size = n := by
  unfold sizeOf? at h
  cases hi : P.info? ty with
  | none => rw [hi] at h; cases h
  | some i =>
    rw [hi] at h; cases h
    exact ⟨by simp [Go.sizeOf, typeInfo, hi], i, rfl, rfl⟩
theorem aggSize_run {ty : TypeId} {o : Option Nat} (h : aggSize P ty = some o) : (isAgg ty).run P w = .ok o.isSome w ∧ ∀ n, o = some n → (Go.sizeOf ty).run P w = .ok n w := by
  unfold aggSize at h
  cases hu : P.underlying ty with
  | none => rw [hu] at h; cases P.info? ty <;> cases h
  | some d =>
    cases hi : P.info? ty with
    | none => rw [hu, hi] at h; cases d <;> cases h
    | some i =>
      rw [hu, hi] at h
      cases d <;> cases h <;> simp [isAgg, underlying, hu, Go.sizeOf, typeInfo, hi]
theorem loadV_ok {ty : TypeId} {id off : Nat} {v : AV} (h : loadV P ty id off s = .ok v t) (hw : WRel B ρ s.heap w) {b base : Nat} (hb : ρ id = some (b, base)) :
    t.heap = s.heap ∧ t.next = s.next ∧ ∃ u, (loadVar ty ⟨b, base + off, none⟩).run P w = .ok u w ∧ VRel ρ v u := by
  unfold loadV at h
  obtain ⟨o, s1, h1, h⟩ := bind_ok.1 h
  obtain ⟨q1, rfl⟩ := lift_ok.1 h1
  obtain ⟨ha, hs⟩ := aggSize_run (w := w) q1
  cases o with
  | some n =>
    obtain ⟨l, s2, h2, k⟩ := bind_ok.1 h
    obtain ⟨rfl, rfl⟩ := pure_ok.1 k
    obtain ⟨x, s3, h3, k3⟩ := bind_ok.1 h2
    obtain ⟨rfl, rfl⟩ := pure_ok.1 k3
    obtain ⟨_, _, _, _, _, _, _, _, _, e1, e2⟩ := readR_ok h3 hw
    obtain ⟨us, hl, hv, hc, _⟩ := readR_vals h3 hw hb
    refine ⟨e1, e2, .agg us.toArray, ?_, .agg _ _ (by simpa using hv)⟩
    have := run_loadCells_list (P := P) w ⟨b, base + off, none⟩ us hc
    simp only [loadVar, Sem.run_bind, ha, Option.isSome_some, Result.andThen_ok, if_true, hs n rfl, Sem.run_pure]
    rw [← hl, this]; rfl
  | none =>
    obtain ⟨l, s2, h2, h⟩ := bind_ok.1 h
    obtain ⟨x, s3, h3, k3⟩ := bind_ok.1 h2
    obtain ⟨rfl, rfl⟩ := pure_ok.1 k3
    obtain ⟨_, _, _, _, _, _, _, _, _, e1, e2⟩ := readR_ok h3 hw
    obtain ⟨us, hl, hv, hc, _⟩ := readR_vals h3 hw hb
    cases hz : x.c with
    | nil => rw [hz] at h; exact (fail_ok.1 h).elim
    | cons z r =>
      cases r with
      | cons z' r' => rw [hz] at h; exact (fail_ok.1 h).elim
      | nil =>
        rw [hz] at h hv
        obtain ⟨rfl, rfl⟩ := pure_ok.1 h
        cases hv with
        | cons _ u _ m h1 h' =>
          refine ⟨e1, e2, u, ?_, h1⟩
          have := hc 0 u rfl
          rw [Addr.add_plain] at this
          simp only [loadVar, Sem.run_bind, ha, Option.isSome_none, Result.andThen_ok, Bool.false_eq_true, if_false, run_load]
          rw [show base + off + 0 = base + off from rfl] at this
          rw [this]
theorem storeV_ok {ty : TypeId} {id off : Nat} {v : AV} {u : Value} (h : storeV P ty id off v s = .ok () t) (hw : WRel B ρ s.heap w) {b base : Nat} (hb : ρ id = some (b, base)) (hv : VRel ρ v u) :
    t.next = s.next ∧ ∃ w', (storeVar ty ⟨b, base + off, none⟩ u).run P w = .ok () w' ∧ WRel B ρ t.heap w' ∧ Below B w w' := by
  unfold storeV at h
  obtain ⟨n, s1, h1, h⟩ := bind_ok.1 h
  obtain ⟨q1, rfl⟩ := lift_ok.1 h1
  obtain ⟨_, s2, h2, h⟩ := bind_ok.1 h
  obtain ⟨q2, rfl⟩ := check_ok.1 h2
  obtain ⟨w', r1, r2, r3, r4⟩ := writeR_ok (P := P) h hw hv.cells hb
  refine ⟨r4, w', ?_, r2, r3⟩
  have hl := hv.cells.length
  rw [beq_nat, llen_eq, decide_eq_true_eq] at q2
  have : u.cells.size = n := by simpa using hl.symm.trans q2
  simp only [storeVar, Sem.run_bind, (sizeOf?_run (w := w) q1).1, Result.andThen_ok, this, ne_eq, not_true_eq_false, if_false]
  exact r1
theorem partOf?_ok {ty : TypeId} {cs : List AV} {us : Array Value} {off : Nat} {v : AV} (h : partOf? P ty cs off = some v) (hv : VRels ρ cs us.toList) : ∃ u, (part ty us off).run P w = .ok u w ∧ VRel ρ v u := by
  unfold partOf? at h
  split at h
  · rename_i n hn
    obtain ⟨ha, hs⟩ := aggSize_run (w := w) hn
    cases h
    refine ⟨.agg (us.extract off (off + n)), ?_, .agg _ _ ?_⟩
    · simp [part, ha, hs n rfl]
    · have := (hv.drop off).take n
      simp only [ltake_eq, ldrop_eq, Array.toList_extract, List.extract_eq_take_drop]
      rw [show off + n - off = n by omega]
      exact this
  · rename_i hn
    obtain ⟨ha, _⟩ := aggSize_run (w := w) hn
    rw [lget_eq] at h
    obtain ⟨u, hu, hr⟩ := hv.get off v h
    refine ⟨u, ?_, hr⟩
    have : us[off]? = some u := by simpa using hu
    simp [part, ha, this]
  · cases h
theorem zeroOf?_run {ty : TypeId} {z : AV} (h : zeroOf? P ty = some z) : ∃ u, (zeroValue ty).run P w = .ok u w ∧ VRel ρ z u := by
  unfold zeroOf? at h
  cases hi : P.info? ty with
  | none => rw [hi] at h; cases h
  | some i =>
    rw [hi] at h
    cases hz : i.zero with
    | none => simp [hz] at h
    | some u =>
      simp only [hz] at h
      exact ⟨u, by simp [zeroValue, typeInfo, hi, hz], ofConst_rel h⟩
theorem newVar_ok {ty : TypeId} {v : AV} {u : Value} {id : Nat} (h : newCells ty v.cells s = .ok id t) (hw : WRel B ρ s.heap w) (hf : Fresh ρ s.next t.next) (hv : VRel ρ v u) :
    ∃ ρ' w', (newVar ty u).run P w = .ok ⟨w.heap.size, 0, none⟩ w' ∧ VRel ρ' (.ptr id 0) (.pointer (some ⟨w.heap.size, 0, none⟩)) ∧ Post B ρ s.next t.next t.heap w w' ρ' := by
  obtain ⟨r1, r2, _, _⟩ := newCells_ok (us := u.cells) h hw hf hv.cells
  refine ⟨_, _, ?_, .ptr id 0 _ 0 r2, r1⟩
  simp [newVar, newRow]
end
end Go.Proofs.YtcjjmflaaaddgaaGreatDoor.Am
/-
  The abstract machine's operations against the model's: building, slicing, indexing.
-/
set_option linter.unusedSimpArgs false
set_option linter.unusedVariables false
namespace Go.Proofs.YtcjjmflaaaddgaaGreatDoor.Am
open Go Go.RowKit

section
variable {B : Nat} {ρ : Rho} {w : World} {s t : AS} {P : Program}
theorem run_underlying' {ty : TypeId} {d : TypeDesc} (h : P.underlying ty = some d) : (underlying ty).run P w = .ok d w := by simp [underlying, h]
theorem run_info' {ty : TypeId} {i : TypeInfo} (h : P.info? ty = some i) : (typeInfo ty).run P w = .ok i w := by simp [typeInfo, h]

/-! Parts laid into cells. -/
theorem foldl_set (off : Nat) : ∀ (l : List Value) (k : Nat) (cells : Array Value), off + k + l.length ≤ cells.size →
    ((l.zipIdx k).foldl (fun cs (x : Value × Nat) => cs.setIfInBounds (off + x.2) x.1) cells).size = cells.size ∧
    ∀ j, ((l.zipIdx k).foldl (fun cs (x : Value × Nat) => cs.setIfInBounds (off + x.2) x.1) cells)[j]? = if off + k ≤ j ∧ j < off + k + l.length then l[j - (off + k)]? else cells[j]?
  | [], k, cells, _ => ⟨rfl, fun j => by rw [if_neg (by simp only [List.length_nil]; omega)]; rfl⟩
  | v :: l, k, cells, h => by
    simp only [List.length_cons] at h
    obtain ⟨h1, h2⟩ := foldl_set off l (k + 1) (cells.setIfInBounds (off + k) v) (by rw [Array.size_setIfInBounds]; omega)
    simp only [List.zipIdx_cons, List.foldl_cons]
    refine ⟨by rw [h1]; simp, fun j => ?_⟩
    rw [h2 j]
    simp only [List.length_cons]
    by_cases q : off + (k + 1) ≤ j ∧ j < off + (k + 1) + l.length
    · rw [if_pos q, if_pos (by omega), show j - (off + k) = (j - (off + (k + 1))) + 1 by omega, List.getElem?_cons_succ]
    · rw [if_neg q]
      by_cases q2 : off + k = j
      · subst q2; rw [if_pos (by omega), Array.getElem?_setIfInBounds_self_of_lt (by omega), Nat.sub_self]; rfl
      · rw [if_neg (by omega), Array.getElem?_setIfInBounds_ne (by omega)]
theorem fillC_ok {place : Nat → Option (Nat × Nat)} : ∀ {parts : List (Nat × AV)} {ps : List (Nat × Value)} {cells r : List AV} {us : Array Value}, fillC place cells parts = some r → VRels ρ cells us.toList →
    parts.length = ps.length → (∀ (i : Nat) a b, parts[i]? = some a → ps[i]? = some b → a.1 = b.1 ∧ VRel ρ a.2 b.2) → ∃ u', Instr.fill place us ps = some u' ∧ VRels ρ r u'.toList
  | [], ps, cells, r, us, h, hv, hl, _ => by
    cases ps with
    | nil => cases h; exact ⟨us, rfl, hv⟩
    | cons => simp at hl
  | (i, v) :: rest, [], _, _, _, _, _, hl, _ => by simp at hl
  | (i, v) :: rest, (i', u) :: ps, cells, r, us, h, hv, hl, hp => by
    obtain ⟨rfl, hr⟩ := hp 0 _ _ rfl rfl
    unfold fillC at h
    cases hpl : place i with
    | none => rw [hpl] at h; cases h
    | some p =>
      obtain ⟨off, size⟩ := p
      rw [hpl] at h
      simp only [beq_nat, ble_nat, llen_eq] at h
      by_cases hc : v.cells.length = size ∧ off + size ≤ cells.length
      · simp only [hc.1, decide_true, hc.2, Bool.and_self, cond_true] at h
        have hlc := hr.cells.length
        have hus := hv.length
        have hsz : u.cells.size = size := by simp at hlc; omega
        have husz : us.size = cells.length := by simpa using hus.symm
        obtain ⟨f1, f2⟩ := foldl_set off u.cells.toList 0 us (by simp; omega)
        have key : VRels ρ (splice cells off v.cells) ((u.cells.zipIdx.foldl (fun cs (x : Value × Nat) => cs.setIfInBounds (off + x.2) x.1) us)).toList := by
          have e : u.cells.zipIdx.foldl (fun cs (x : Value × Nat) => cs.setIfInBounds (off + x.2) x.1) us = (u.cells.toList.zipIdx 0).foldl (fun cs (x : Value × Nat) => cs.setIfInBounds (off + x.2) x.1) us := by
            rw [← Array.foldl_toList, Array.toList_zipIdx]
          rw [e]
          refine VRels.of_get (by rw [splice_length _ _ _ (by omega)]; simp only [Array.length_toList]; omega) fun j a b ha hb => ?_
          rw [splice_get _ _ _ (by omega)] at ha
          rw [Array.getElem?_toList, f2 j] at hb
          simp only [Array.length_toList] at hb
          by_cases q : off ≤ j ∧ j < off + v.cells.length
          · rw [if_pos q] at ha
            rw [if_pos (by omega)] at hb
            obtain ⟨x, hx, hrx⟩ := hr.cells.get _ a ha
            have : x = b := by rw [show j - (off + 0) = j - off by omega, hx] at hb; exact Option.some.inj hb
            exact this ▸ hrx
          · rw [if_neg q] at ha
            rw [if_neg (by omega)] at hb
            obtain ⟨x, hx, hrx⟩ := hv.get _ a ha
            have : x = b := by rw [Array.getElem?_toList, hb] at hx; exact (Option.some.inj hx).symm
            exact this ▸ hrx
        obtain ⟨u', g1, g2⟩ := fillC_ok h key (by simpa using hl) (fun k a b ha hb => hp (k + 1) a b (by simpa using ha) (by simpa using hb))
        refine ⟨u', ?_, g2⟩
        unfold Instr.fill
        rw [hpl]
        simp only
        rw [if_neg (by simp; omega)]
        exact g1
      · have : (decide (v.cells.length = size) && decide (off + size ≤ cells.length)) = false := by
          rw [Bool.eq_false_iff]; simp only [ne_eq, Bool.and_eq_true, decide_eq_true_eq]; exact hc
        rw [this] at h; cases h
theorem placesOf_run : ∀ (fs : List Field) (l : List (Nat × Nat)), placesOf P fs = some l → (fs.mapM fun f => (do pure (f.offset, ← Go.sizeOf f.type) : Sem (Nat × Nat))).run P w = .ok l w
  | [], l, h => by cases h; rfl
  | f :: r, l, h => by
    unfold placesOf at h
    cases hi : P.info? f.type with
    | none => rw [hi] at h; cases h
    | some i =>
      cases hr : placesOf P r with
      | none => rw [hi, hr] at h; cases h
      | some m =>
        rw [hi, hr] at h
        cases h
        simp only [List.mapM_cons, Sem.run_bind, Go.sizeOf, run_info' hi, Result.andThen_ok, Sem.run_pure]
        have := placesOf_run r m hr
        simp only [Go.sizeOf] at this
        rw [this]; rfl
theorem build_ok {ty : TypeId} {parts : List (Nat × AV)} {ps : Array (Nat × Value)} {v : AV} (h : buildA P ty parts s = .ok v t) (hl : parts.length = ps.size)
    (hp : ∀ (i : Nat) a b, parts[i]? = some a → ps.toList[i]? = some b → a.1 = b.1 ∧ VRel ρ a.2 b.2) : t = s ∧ ∃ u, (Instr.build ty ps).run P w = .ok u w ∧ VRel ρ v u := by
  unfold buildA at h
  obtain ⟨z, s1, h1, h⟩ := bind_ok.1 h
  obtain ⟨q1, rfl⟩ := lift_ok.1 h1
  obtain ⟨pl, s2, h2, h⟩ := bind_ok.1 h
  obtain ⟨q2, rfl⟩ := lift_ok.1 h2
  obtain ⟨cs, s3, h3, h⟩ := bind_ok.1 h
  obtain ⟨q3, rfl⟩ := lift_ok.1 h3
  obtain ⟨rfl, rfl⟩ := pure_ok.1 h
  refine ⟨rfl, ?_⟩
  obtain ⟨zu, hz, hzr⟩ := zeroOf?_run (ρ := ρ) (w := w) q1
  obtain ⟨u', f1, f2⟩ := fillC_ok q3 hzr.cells (ps := ps.toList) (by simpa using hl) hp
  refine ⟨.agg u', ?_, .agg _ _ f2⟩
  unfold buildPlaces at q2
  cases hu : P.underlying ty with
  | none => rw [hu] at q2; cases q2
  | some d =>
    rw [hu] at q2
    cases d with
    | struct fields =>
      simp only at q2
      cases hpl : placesOf P fields.toList with
      | none => rw [hpl] at q2; cases q2
      | some l =>
        rw [hpl] at q2
        cases q2
        have hm := placesOf_run (w := w) _ _ hpl
        simp only [Instr.build, Sem.run_bind, hz, Result.andThen_ok, run_underlying' hu]
        rw [Array.mapM_eq_mapM_toList]
        simp only [Sem.run_map, hm, Result.andThen_ok]
        have e : (fun (i : Nat) => l.toArray[i]?) = (fun (i : Nat) => l[i]?) := by funext i; simp
        simp only [e, f1, Sem.run_pure]
    | array n e =>
      simp only at q2
      cases hi : P.info? e with
      | none => rw [hi] at q2; cases q2
      | some i =>
        rw [hi] at q2
        cases q2
        simp only [Instr.build, Sem.run_bind, hz, Result.andThen_ok, run_underlying' hu, Go.sizeOf, run_info' hi, Sem.run_pure, f1]
    | _ => cases q2
theorem elemOf?_run {ty e : TypeId} {size bytes : Nat} (h : elemOf? P ty = some (e, size, bytes)) : P.underlying ty = some (.slice e) ∧ ∃ i, P.info? e = some i ∧ i.size = size ∧ i.bytes = bytes := by
  unfold elemOf? at h
  split at h
  · rename_i e' hu
    split at h
    · rename_i i hi; cases h; exact ⟨hu, i, hi, rfl, rfl⟩
    · cases h
  · cases h
theorem zerosOf_length (n : Nat) (z : List AV) : (zerosOf n z).length = n * z.length := by
  induction n with
  | zero => rw [Nat.zero_mul]; rfl
  | succ n ih => show (lapp z (zerosOf n z)).length = _; rw [lapp_eq, List.length_append, ih, Nat.succ_mul]; omega
theorem zerosOf_get (n : Nat) (z : List AV) (j : Nat) (hj : j < n * z.length) : (zerosOf n z)[j]? = z[j % z.length]? := by
  induction n generalizing j with
  | zero => omega
  | succ n ih =>
    show (lapp z (zerosOf n z))[j]? = _
    rw [lapp_eq]
    by_cases h : j < z.length
    · rw [List.getElem?_append_left h, Nat.mod_eq_of_lt h]
    · rw [List.getElem?_append_right (by omega), ih _ (by rw [Nat.succ_mul] at hj; omega)]
      congr 1
      exact (Nat.mod_eq_sub_mod (by omega)).symm
/-- Zeros, again and again. -/
theorem zeros_rel {z : List AV} {us : Array Value} (hv : VRels ρ z us.toList) (n size : Nat) (hs : z.length = size) (h0 : 0 < size) : VRels ρ (zerosOf n z) ((Array.range (n * size)).map (us[· % us.size]!)).toList := by
  have hl : us.size = size := by have := hv.length; simp at this; omega
  refine VRels.of_get (by rw [zerosOf_length]; simp [hs]) fun j a b ha hb => ?_
  have hj : j < n * size := by
    rcases Nat.lt_or_ge j (n * size) with h | h
    · exact h
    · rw [List.getElem?_eq_none (by rw [zerosOf_length, hs]; exact h)] at ha; cases ha
  rw [zerosOf_get n z j (by rw [hs]; exact hj)] at ha
  obtain ⟨u, hu, hr⟩ := hv.get _ a ha
  have hm : j % size < us.size := by rw [hl]; exact Nat.mod_lt _ h0
  simp only [Array.toList_map, Array.toList_range, List.getElem?_map, List.getElem?_range hj, Option.map_some, Option.some.injEq] at hb
  rw [hl] at hb
  have : us[j % size]! = us[j % size] := by simp [hm]
  rw [this] at hb
  rw [hs] at hu
  have e2 : us[j % size]? = some u := by simpa using hu
  rw [Array.getElem?_eq_getElem hm] at e2
  cases e2; exact hb ▸ hr
theorem buildSlice_ok {ty : TypeId} {len : Nat} {parts : List (Nat × AV)} {ps : Array (Nat × Value)} {v : AV} (h : buildSliceA P ty len parts s = .ok v t) (hl : parts.length = ps.size)
    (hp : ∀ (i : Nat) a b, parts[i]? = some a → ps.toList[i]? = some b → a.1 = b.1 ∧ VRel ρ a.2 b.2) (hw : WRel B ρ s.heap w) (hf : Fresh ρ s.next t.next) :
    ∃ ρ' w' u, (Instr.buildSlice ty len ps).run P w = .ok u w' ∧ VRel ρ' v u ∧ Post B ρ s.next t.next t.heap w w' ρ' := by
  unfold buildSliceA at h
  obtain ⟨⟨elem, size, bytes⟩, s1, h1, h⟩ := bind_ok.1 h
  obtain ⟨q1, rfl⟩ := lift_ok.1 h1
  obtain ⟨z, s2, h2, h⟩ := bind_ok.1 h
  obtain ⟨q2, rfl⟩ := lift_ok.1 h2
  obtain ⟨_, s3, h3, h⟩ := bind_ok.1 h
  obtain ⟨q3, rfl⟩ := check_ok.1 h3
  obtain ⟨cs, s4, h4, h⟩ := bind_ok.1 h
  obtain ⟨q4, rfl⟩ := lift_ok.1 h4
  obtain ⟨id, s5, h5, h⟩ := bind_ok.1 h
  obtain ⟨rfl, rfl⟩ := pure_ok.1 h
  simp only [beq_nat, ble_nat, llen_eq, Bool.and_eq_true, decide_eq_true_eq] at q3
  obtain ⟨hu, i, hi, hsz, hby⟩ := elemOf?_run q1
  obtain ⟨zu, hz, hzr⟩ := zeroOf?_run (ρ := ρ) (w := w) q2
  obtain ⟨u', f1, f2⟩ := fillC_ok q4 (zeros_rel hzr.cells len size q3.1.1 (by omega)) (ps := ps.toList) (by simpa using hl) hp
  obtain ⟨r1, r2, _, _⟩ := newCells_ok h5 hw hf f2
  refine ⟨_, _, .slice (some ⟨w.heap.size, 0, none⟩) len len, ?_, .sliceX _ 0 len len _ 0 r2 (Nat.le_refl _), r1⟩
  simp only [Instr.buildSlice, Sem.run_bind, run_underlying' hu, Result.andThen_ok, Go.sizeOf, run_info' hi, hsz, Sem.run_pure]
  rw [if_neg (by have := q3.2; simp; omega)]
  by_cases h0 : len * size = 0
  · have e : ((Array.range (len * size)).map fun x => (#[] : Array Value)[x % (#[] : Array Value).size]!) = (Array.range (len * size)).map (zu.cells[· % zu.cells.size]!) := by rw [h0]; simp
    rw [if_pos h0]
    simp only [Sem.run_pure, Result.andThen_ok, e, f1, newRow, Sem.run_bind, run_newObj]
    rfl
  · rw [if_neg h0]
    simp only [Sem.run_bind, hz, Sem.run_pure, Result.andThen_ok, f1, newRow, run_newObj]
    rfl
end
end Go.Proofs.YtcjjmflaaaddgaaGreatDoor.Am
/-
  The abstract machine's operations against the model's: slicing, places of fields and elements, equality, numbers and texts.
-/
set_option linter.unusedSimpArgs false
set_option linter.unusedVariables false
namespace Go.Proofs.YtcjjmflaaaddgaaGreatDoor.Am
open Go Go.RowKit

section
variable {B : Nat} {ρ : Rho} {w : World} {s t : AS} {P : Program}
def ORelV (ρ : Rho) : Option AV → Option Value → Prop
  | none, none => True
  | some v, some u => VRel ρ v u
  | _, _ => False
theorem upB_spec {i : Int} {n j : Nat} (h : upB i n = some j) : 0 ≤ i ∧ i ≤ n ∧ i.toNat = j := by
  unfold upB at h
  cases i with
  | negSucc m => cases h
  | ofNat z =>
    simp only [ble_nat] at h
    by_cases q : z ≤ n
    · rw [decide_eq_true q, cond_true] at h; cases h; exact ⟨Int.natCast_nonneg _, Int.ofNat_le.2 q, rfl⟩
    · rw [decide_eq_false q] at h; cases h
theorem inB_spec {i : Int} {n j : Nat} (h : inB i n = some j) : 0 ≤ i ∧ i < n ∧ i.toNat = j := by
  unfold inB at h
  cases i with
  | negSucc m => cases h
  | ofNat z =>
    simp only [ble_nat] at h
    by_cases q : z + 1 ≤ n
    · rw [decide_eq_true q, cond_true] at h; cases h; exact ⟨Int.natCast_nonneg _, Int.ofNat_lt.2 q, rfl⟩
    · rw [decide_eq_false q] at h; cases h
theorem optBound_some {v : AV} {u : Value} {y d j : Nat} (h : optBound (some v) y d = some j) (hr : VRel ρ v u) (c : Nat) (hc : y ≤ c) (code : BoundsCode) : (Instr.sliceBound u c code).run P w = .ok j w ∧ j ≤ y := by
  unfold optBound at h
  split at h
  · rename_i k i e
    cases e
    cases hr
    obtain ⟨h1, h2, h3⟩ := upB_spec h
    refine ⟨?_, by omega⟩
    simp only [Instr.sliceBound, asIntOf, Sem.run_bind, Sem.run_pure, Result.andThen_ok]
    rw [if_pos ⟨h1, by omega⟩, h3]; rfl
  · cases h
  · rename_i e; cases e
theorem optBound_ok {o : Option AV} {o' : Option Value} {y d j : Nat} (h : optBound o y d = some j) (hr : ORelV ρ o o') :
    (o = none ∧ o' = none ∧ j = d) ∨ ∃ v u, o = some v ∧ o' = some u ∧ j ≤ y ∧ ∀ c, y ≤ c → ∀ code, (Instr.sliceBound u c code).run P w = .ok j w := by
  cases o with
  | none =>
    cases o' with
    | none => cases h; exact .inl ⟨rfl, rfl, rfl⟩
    | some _ => exact hr.elim
  | some v =>
    cases o' with
    | none => exact hr.elim
    | some u => exact .inr ⟨v, u, rfl, rfl, (optBound_some (P := P) (w := w) h hr y (Nat.le_refl _) .index).2, fun c hc code => (optBound_some (P := P) (w := w) h hr c hc code).1⟩
theorem bounds_ok {len cap c l h m : Nat} {lo hi mx : Option AV} {lo' hi' mx' : Option Value} (hb : boundsA len cap lo hi mx = some (l, h, m)) (hlo : ORelV ρ lo lo') (hhi : ORelV ρ hi hi') (hmx : ORelV ρ mx mx') (hc : cap ≤ c) (hlen : len ≤ c) (b : Bool) :
    ∃ m', (Instr.sliceBounds b len c lo' hi' mx').run P w = .ok (l, h, m') w ∧ l ≤ h ∧ m ≤ m' ∧ h ≤ m' ∧ (mx.isSome = true → m = m') ∧ (mx = none → m = cap ∧ m' = c) := by
  unfold boundsA at hb
  cases hm : optBound mx cap cap with
  | none => rw [hm] at hb; cases hb
  | some m0 =>
    rw [hm] at hb
    simp only at hb
    rcases optBound_ok (P := P) (w := w) hm hmx with ⟨rfl, rfl, rfl⟩ | ⟨z, z', rfl, rfl, hz, hzr⟩
    · have hb2 : (match optBound hi m0 len with | none => none | some h => match optBound lo h 0 with | none => none | some l => some (l, h, m0)) = some (l, h, m) := by
        revert hb; cases hi <;> exact id
      clear hb
      cases hh : optBound hi m0 len with
      | none => rw [hh] at hb2; cases hb2
      | some h0 =>
        rw [hh] at hb2
        simp only at hb2
        cases hl : optBound lo h0 0 with
        | none => rw [hl] at hb2; cases hb2
        | some l0 =>
          rw [hl] at hb2
          cases hb2
          rcases optBound_ok (P := P) (w := w) hh hhi with ⟨rfl, rfl, rfl⟩ | ⟨y, y', rfl, rfl, hy, hyr⟩ <;>
          rcases optBound_ok (P := P) (w := w) hl hlo with ⟨rfl, rfl, rfl⟩ | ⟨x, x', rfl, rfl, hx, hxr⟩
          · exact ⟨c, by simp only [Instr.sliceBounds, Sem.run_bind, Sem.run_pure, Result.andThen_ok], Nat.zero_le _, hc, hlen, fun h => (by cases h), fun _ => ⟨rfl, rfl⟩⟩
          · exact ⟨c, by simp only [Instr.sliceBounds, Sem.run_bind, Sem.run_pure, Result.andThen_ok, hxr _ (Nat.le_refl _)], hx, hc, hlen, fun h => (by cases h), fun _ => ⟨rfl, rfl⟩⟩
          · exact ⟨c, by simp only [Instr.sliceBounds, Sem.run_bind, Sem.run_pure, Result.andThen_ok, hyr _ hc], Nat.zero_le _, hc, by omega, fun h => (by cases h), fun _ => ⟨rfl, rfl⟩⟩
          · exact ⟨c, by simp only [Instr.sliceBounds, Sem.run_bind, Sem.run_pure, Result.andThen_ok, hyr _ hc, hxr _ (Nat.le_refl _)], hx, hc, by omega, fun h => (by cases h), fun _ => ⟨rfl, rfl⟩⟩
    · cases hi with
      | none => cases hb
      | some v =>
        simp only at hb
        cases hh : optBound (some v) m0 len with
        | none => rw [hh] at hb; cases hb
        | some h0 =>
          rw [hh] at hb
          simp only at hb
          cases hl : optBound lo h0 0 with
          | none => rw [hl] at hb; cases hb
          | some l0 =>
            rw [hl] at hb
            cases hb
            rcases optBound_ok (P := P) (w := w) hh hhi with ⟨e, _, _⟩ | ⟨y, y', _, rfl, hy, hyr⟩
            · cases e
            · rcases optBound_ok (P := P) (w := w) hl hlo with ⟨rfl, rfl, rfl⟩ | ⟨x, x', rfl, rfl, hx, hxr⟩
              · exact ⟨m, by simp only [Instr.sliceBounds, Sem.run_bind, Sem.run_pure, Result.andThen_ok, hzr _ hc, hyr _ (Nat.le_refl _)], Nat.zero_le _, Nat.le_refl _, hy, fun _ => rfl, fun h => (by cases h)⟩
              · exact ⟨m, by simp only [Instr.sliceBounds, Sem.run_bind, Sem.run_pure, Result.andThen_ok, hzr _ hc, hyr _ (Nat.le_refl _), hxr _ (Nat.le_refl _)], hx, Nat.le_refl _, hy, fun _ => rfl, fun h => (by cases h)⟩
theorem slice_ok {ty : TypeId} {x : AV} {x' : Value} {lo hi mx : Option AV} {lo' hi' mx' : Option Value} {v : AV} (h : sliceA P ty x lo hi mx s = .ok v t) (hx : VRel ρ x x')
    (hlo : ORelV ρ lo lo') (hhi : ORelV ρ hi hi') (hmx : ORelV ρ mx mx') : t = s ∧ ∃ u, (Instr.sliceAt ty x' lo' hi' mx').run P w = .ok u w ∧ VRel ρ v u := by
  unfold sliceA at h
  obtain ⟨d, s1, h1, h⟩ := bind_ok.1 h
  obtain ⟨hu, rfl⟩ := lift_ok.1 h1
  clear h1
  split at h
  · cases mx with
    | some _ => exact (fail_ok.1 h).elim
    | none =>
      cases mx' with
      | some _ => exact hmx.elim
      | none =>
        obtain ⟨⟨l, hh, m⟩, s2, h2, h⟩ := bind_ok.1 h
        obtain ⟨q2, rfl⟩ := lift_ok.1 h2
        obtain ⟨rfl, rfl⟩ := pure_ok.1 h
        refine ⟨rfl, ?_⟩
        cases hx with
        | str z =>
          rw [llen_eq, List.length_map] at q2
          have hz : z.data.toList.length = z.size := by rw [Array.length_toList]; rfl
          rw [hz] at q2
          obtain ⟨m', r1, r2, _, r4, _, r6⟩ := bounds_ok (P := P) (w := w) (c := z.size) (mx' := none) q2 hlo hhi trivial (Nat.le_refl _) (Nat.le_refl _) false
          refine ⟨.string (z.extract l hh), ?_, ?_⟩
          · simp only [Instr.sliceAt, Sem.run_bind, run_underlying' hu, Result.andThen_ok, Instr.slice, Option.isSome_none, Bool.false_eq_true, if_false, r1, Sem.run_pure]
          · have e : ltake (hh - l) (ldrop l (z.data.toList.map UInt8.toNat)) = (z.extract l hh).data.toList.map UInt8.toNat := by
              rw [ltake_eq, ldrop_eq, ← List.map_drop, ← List.map_take, Lib.extract_data]
            rw [e]; exact .str _
  · obtain ⟨size, s2, h2, h⟩ := bind_ok.1 h
    obtain ⟨q2, rfl⟩ := lift_ok.1 h2
    obtain ⟨⟨l, hh, m⟩, s3, h3, h⟩ := bind_ok.1 h
    obtain ⟨q3, rfl⟩ := lift_ok.1 h3
    obtain ⟨_, s4, h4, h⟩ := bind_ok.1 h
    obtain ⟨q4, rfl⟩ := check_ok.1 h4
    obtain ⟨rfl, rfl⟩ := pure_ok.1 h
    refine ⟨rfl, ?_⟩
    cases hx
    simp only [beq_nat, Bool.and_eq_true, decide_eq_true_eq] at q4
    obtain ⟨⟨rfl, rfl⟩, rfl⟩ := q4
    obtain ⟨m', r1, r2, r3, _, r5, r6⟩ := bounds_ok (P := P) (w := w) (c := 0) q3 hlo hhi hmx (Nat.le_refl _) (Nat.le_refl _) true
    have hm' : m' = 0 := by
      cases mx with
      | none => exact (r6 rfl).2
      | some _ => exact (r5 rfl).symm
    subst hm'
    refine ⟨.slice none 0 0, ?_, .nilSlice⟩
    simp only [Instr.sliceAt, Sem.run_bind, run_underlying' hu, Result.andThen_ok, Instr.slice, r1, (sizeOf?_run (w := w) q2).1, Sem.run_pure]
    rfl
  · rename_i elem0 id0 off0 len0 ex0 cap0 _
    obtain ⟨size, s2, h2, h⟩ := bind_ok.1 h
    obtain ⟨q2, rfl⟩ := lift_ok.1 h2
    obtain ⟨⟨l, hh, m⟩, s3, h3, h⟩ := bind_ok.1 h
    obtain ⟨q3, rfl⟩ := lift_ok.1 h3
    obtain ⟨_, s4, h4, h⟩ := bind_ok.1 h
    obtain ⟨q4, rfl⟩ := check_ok.1 h4
    simp only [beq_nat, Bool.or_eq_true, decide_eq_true_eq] at q4
    obtain ⟨rfl, rfl⟩ := pure_ok.1 h
    refine ⟨rfl, ?_⟩
    have hrun : ∀ (a : Addr) (c m' : Nat) (len : Nat), (Instr.sliceBounds true len c lo' hi' mx').run P w = .ok (l, hh, m') w →
        (Instr.sliceAt ty (.slice (some a) len c) lo' hi' mx').run P w = .ok (.slice (some (if m' = l then a else a.add (l * size))) (hh - l) (m' - l)) w := by
      intro a c m' len e
      simp only [Instr.sliceAt, Sem.run_bind, run_underlying' hu, Result.andThen_ok, Instr.slice, e, (sizeOf?_run (w := w) q2).1, Sem.run_pure]
      split <;> rfl
    cases hx with
    | sliceX id off len cap b base hb hl =>
      obtain ⟨m', r1, r2, r3, r4, r5, r6⟩ := bounds_ok (P := P) (w := w) q3 hlo hhi hmx (Nat.le_refl _) hl true
      have hm' : m' = m := by
        cases mx with
        | none => rw [(r6 rfl).1, (r6 rfl).2]
        | some _ => exact (r5 rfl).symm
      subst hm'
      refine ⟨_, hrun _ _ _ _ r1, ?_⟩
      have e0 : (cond mx.isSome 0 0 : Nat) = 0 := by cases mx.isSome <;> rfl
      rw [e0]
      by_cases q : m' = l
      · subst q
        have e1 : hh - m' = 0 := by omega
        simp only [beq_nat, decide_true, Bool.and_true, cond_true, if_true, e1, Nat.sub_self]
        exact .sliceE _ _ _ _
      · simp only [beq_nat, q, decide_false, Bool.and_false, cond_false, if_false, Addr.add_plain]
        rw [Nat.add_assoc]
        exact .sliceX _ _ _ _ _ _ hb (by omega)
    | sliceA id off len _ cap b base c hb hc hl hz hs =>
      obtain ⟨m', r1, r2, r3, r4, r5, r6⟩ := bounds_ok (P := P) (w := w) q3 hlo hhi hmx hc hl true
      refine ⟨_, hrun _ _ _ _ r1, ?_⟩
      have hzs : ex0 = size := by omega
      subst hzs
      by_cases q : m' = l
      · subst q
        have e1 : hh - m' = 0 := by omega
        have e2 : m - m' = 0 := by omega
        simp only [if_true, e1, Nat.sub_self, e2]
        exact .sliceE _ _ _ _
      · simp only [q, if_false, Addr.add_plain]
        cases mx with
        | none =>
          have hz0 : Nat.beq ex0 0 = false := by rw [beq_nat]; exact decide_eq_false (by omega)
          simp only [Option.isSome_none, cond_false, hz0, Bool.false_and]
          rw [Nat.add_assoc]
          refine .sliceA _ _ _ _ _ _ _ _ hb (by omega) (by omega) hz ?_
          have hmc : m' = c := (r6 rfl).2
          rw [hmc] at r3 ⊢
          have : base + (off0 + l * ex0) + (c - l) * ex0 = base + off0 + c * ex0 := by
            have e : c = l + (c - l) := by omega
            conv => rhs; rw [e, Nat.add_mul]
            omega
          omega
        | some _ =>
          have e := r5 rfl
          subst e
          simp only [Option.isSome_some, cond_true, beq_nat, q, decide_true, decide_false, Bool.and_false, cond_false]
          rw [Nat.add_assoc]
          exact .sliceX _ _ _ _ _ _ hb (by omega)
    | sliceE id off ex a =>
      obtain ⟨m', r1, r2, r3, r4, r5, r6⟩ := bounds_ok (P := P) (w := w) (c := 0) q3 hlo hhi hmx (Nat.le_refl _) (Nat.le_refl _) true
      have hm' : m' = 0 := by
        cases mx with
        | none => exact (r6 rfl).2
        | some _ =>
          have := r5 rfl
          have h0 : m ≤ 0 := by
            unfold boundsA at q3
            cases hm : optBound (some ‹AV›) 0 0 with
            | none => rw [hm] at q3; cases q3
            | some m0 =>
              have hle : m0 ≤ 0 := by
                rcases optBound_ok (P := P) (w := w) hm hmx with ⟨e, _, _⟩ | ⟨_, _, _, _, hz, _⟩
                · cases e
                · exact hz
              rw [hm] at q3
              simp only at q3
              cases hi with
              | none => cases q3
              | some y =>
                simp only at q3
                cases hh' : optBound (some y) m0 0 with
                | none => rw [hh'] at q3; cases q3
                | some h0 =>
                  rw [hh'] at q3
                  simp only at q3
                  cases hl' : optBound lo h0 0 with
                  | none => rw [hl'] at q3; cases q3
                  | some l0 => rw [hl'] at q3; cases q3; exact hle
          omega
      subst hm'
      refine ⟨_, hrun _ _ _ _ r1, ?_⟩
      have e1 : l = 0 := by omega
      have e2 : hh = 0 := by omega
      have e3 : m = 0 := by omega
      subst e1; subst e2; subst e3
      simp only [if_true, Nat.sub_self]
      exact .sliceE _ _ _ _
  · rename_i n elem id off _
    obtain ⟨size, s2, h2, h⟩ := bind_ok.1 h
    obtain ⟨q2, rfl⟩ := lift_ok.1 h2
    obtain ⟨⟨l, hh, m⟩, s3, h3, h⟩ := bind_ok.1 h
    obtain ⟨q3, rfl⟩ := lift_ok.1 h3
    obtain ⟨rfl, rfl⟩ := pure_ok.1 h
    refine ⟨rfl, ?_⟩
    cases hx with
    | ptr _ _ b base hb =>
      obtain ⟨m', r1, r2, r3, r4, r5, r6⟩ := bounds_ok (P := P) (w := w) q3 hlo hhi hmx (Nat.le_refl _) (Nat.le_refl _) false
      have hm' : m' = m := by
        cases mx with
        | none => rw [(r6 rfl).1, (r6 rfl).2]
        | some _ => exact (r5 rfl).symm
      subst hm'
      refine ⟨.slice (some (if m' = l then ⟨b, base + off, none⟩ else (⟨b, base + off, none⟩ : Addr).add (l * size))) (hh - l) (m' - l), ?_, ?_⟩
      · simp only [Instr.sliceAt, Sem.run_bind, run_underlying' hu, Result.andThen_ok, Instr.sureAddr, r1, (sizeOf?_run (w := w) q2).1, Sem.run_pure]
      · by_cases q : m' = l
        · subst q
          have e1 : hh - m' = 0 := by omega
          simp only [if_true, e1, Nat.sub_self]
          exact .sliceE _ _ _ _
        · simp only [beq_nat, q, decide_false, cond_false, if_false, Addr.add_plain]
          rw [Nat.add_assoc]
          exact .sliceX _ _ _ _ _ _ hb (by omega)
  · exact (fail_ok.1 h).elim
end
end Go.Proofs.YtcjjmflaaaddgaaGreatDoor.Am
/-
  The abstract machine's operations against the model's: places of fields and elements, equality, numbers and texts.
-/
set_option linter.unusedSimpArgs false
set_option linter.unusedVariables false
namespace Go.Proofs.YtcjjmflaaaddgaaGreatDoor.Am
open Go Go.RowKit

theorem kindEq_eq (j k : IntKind) : kindEq j k = decide (j = k) := by cases j <;> cases k <;> rfl
theorem intEq_eq (x y : Int) : intEq x y = decide (x = y) := by
  cases x <;> cases y <;> simp only [intEq, beq_nat] <;> first
    | (congr 1; exact propext ⟨fun h => by rw [h], fun h => by injection h⟩)
    | (symm; rw [decide_eq_false]; intro h; cases h)
theorem intLt_eq (x y : Int) : intLt x y = decide (x < y) := by
  cases x with
  | ofNat a =>
    cases y with
    | ofNat b => simp only [intLt, ble_nat]; congr 1; exact propext ⟨fun h => Int.ofNat_lt.2 h, fun h => Int.ofNat_lt.1 h⟩
    | negSucc b => simp only [intLt]; symm; rw [decide_eq_false]; have := Int.negSucc_lt_zero b; have := Int.natCast_nonneg a; intro h; simp only [Int.ofNat_eq_natCast] at h; omega
  | negSucc a =>
    cases y with
    | ofNat b => simp only [intLt]; symm; rw [decide_eq_true_eq]; have := Int.negSucc_lt_zero a; have := Int.natCast_nonneg b; simp only [Int.ofNat_eq_natCast]; omega
    | negSucc b => simp only [intLt, ble_nat]; congr 1; exact propext ⟨fun h => by rw [Int.negSucc_eq, Int.negSucc_eq]; omega, fun h => by rw [Int.negSucc_eq, Int.negSucc_eq] at h; omega⟩
theorem wrapA_eq (k : IntKind) (n : Int) : wrapA k n = k.wrap n := by
  unfold wrapA
  split
  · rename_i m
    rw [ble_nat]
    by_cases h : m ≤ 4611686018427387904
    · rw [decide_eq_true h, cond_true]
      exact (Go.IntWalk.i64_in _ (by simp only [Int.ofNat_eq_natCast]; omega)).symm
    · rw [decide_eq_false h]; rfl
  · rfl

section
variable {B : Nat} {ρ : Rho} {w : World} {s t : AS} {P : Program}
theorem fieldOf?_run {ty : TypeId} {f : Nat} {ft : TypeId} {o : Nat} (h : fieldOf? P ty f = some (ft, o)) : ∃ fs fd, P.underlying ty = some (.struct fs) ∧ fs[f]? = some fd ∧ fd.type = ft ∧ fd.offset = o := by
  unfold fieldOf? at h
  split at h
  · rename_i fs hu
    split at h
    · rename_i fd hf; cases h; exact ⟨fs, fd, hu, hf, rfl, rfl⟩
    · cases h
  · cases h
theorem fieldAddr_ok {ty : TypeId} {x : AV} {x' : Value} {f : Nat} {v : AV} (h : fieldAddrA P ty x f s = .ok v t) (hx : VRel ρ x x') : t = s ∧ ∃ u, (Instr.fieldAt ty x' f).run P w = .ok u w ∧ VRel ρ v u := by
  unfold fieldAddrA at h
  obtain ⟨⟨ft, o⟩, s1, h1, k1⟩ := bind_ok.1 h
  obtain ⟨q1, rfl⟩ := lift_ok.1 h1
  obtain ⟨size, s2, h2, k2⟩ := bind_ok.1 k1
  obtain ⟨q2, rfl⟩ := lift_ok.1 h2
  obtain ⟨_, s3, h3, k3⟩ := bind_ok.1 k2
  obtain ⟨q3, rfl⟩ := check_ok.1 h3
  obtain ⟨fs, fd, hu, hf, rfl, rfl⟩ := fieldOf?_run q1
  rw [beq_nat, Bool.not_eq_true', decide_eq_false_iff_not] at q3
  cases hx with
  | ptr id off b base hb =>
    obtain ⟨rfl, rfl⟩ := pure_ok.1 k3
    refine ⟨rfl, _, ?_, .ptr id (off + fd.offset) b base hb⟩
    simp only [Instr.fieldAt, Sem.run_bind, run_underlying' hu, Result.andThen_ok, hf, Instr.sureAddr, Sem.run_pure, fieldPlace, (sizeOf?_run (w := w) q2).1, q3, if_false, Addr.add_plain]
    rw [Nat.add_assoc]
  | _ => exact (fail_ok.1 k3).elim
theorem field_ok {ty : TypeId} {x : AV} {x' : Value} {f : Nat} {v : AV} (h : fieldA P ty x f s = .ok v t) (hx : VRel ρ x x') : t = s ∧ ∃ u, (Instr.field ty x' f).run P w = .ok u w ∧ VRel ρ v u := by
  unfold fieldA at h
  obtain ⟨⟨ft, o⟩, s1, h1, k1⟩ := bind_ok.1 h
  obtain ⟨q1, rfl⟩ := lift_ok.1 h1
  obtain ⟨fs, fd, hu, hf, rfl, rfl⟩ := fieldOf?_run q1
  cases hx with
  | agg cs us hv =>
    obtain ⟨q2, rfl⟩ := lift_ok.1 k1
    obtain ⟨u, r1, r2⟩ := partOf?_ok (w := w) q2 hv
    refine ⟨rfl, u, ?_, r2⟩
    simp only [Instr.field, Sem.run_bind, run_underlying' hu, Result.andThen_ok, hf, asAgg, Sem.run_pure, r1]
  | _ => exact (fail_ok.1 k1).elim
theorem rowOf?_run {ty : TypeId} {n : Option Nat} {e : TypeId} {size : Nat} (h : rowOf? P ty = some (n, e, size)) : (Go.sizeOf e).run P w = .ok size w ∧ (match n with | some n => P.underlying ty = some (.array n e) | none => P.underlying ty = some (.slice e)) := by
  unfold rowOf? at h
  split at h
  · rename_i m e' hu
    split at h
    · rename_i i hi; cases h; exact ⟨by simp [Go.sizeOf, run_info' hi], hu⟩
    · cases h
  · rename_i e' hu
    split at h
    · rename_i i hi; cases h; exact ⟨by simp [Go.sizeOf, run_info' hi], hu⟩
    · cases h
  · cases h
theorem indexAddr_ok {ty : TypeId} {x ix : AV} {x' ix' : Value} {v : AV} (h : indexAddrA P ty x ix s = .ok v t) (hx : VRel ρ x x') (hi : VRel ρ ix ix') : t = s ∧ ∃ u, (Instr.indexAt ty x' ix').run P w = .ok u w ∧ VRel ρ v u := by
  unfold indexAddrA at h
  obtain ⟨⟨n, e, size⟩, s1, h1, k1⟩ := bind_ok.1 h
  obtain ⟨q1, rfl⟩ := lift_ok.1 h1
  obtain ⟨hs, hu⟩ := rowOf?_run (w := w) q1
  simp only at k1
  split at k1
  · obtain ⟨j, s2, h2, k2⟩ := bind_ok.1 k1
    obtain ⟨q2, rfl⟩ := lift_ok.1 h2
    obtain ⟨rfl, rfl⟩ := pure_ok.1 k2
    obtain ⟨i1, i2, i3⟩ := inB_spec q2
    cases hx with
    | ptr id off b base hb =>
      cases hi
      refine ⟨rfl, _, ?_, .ptr _ _ b base hb⟩
      simp only [Instr.indexAt, Sem.run_bind, asIntOf, Sem.run_pure, Result.andThen_ok, run_underlying' hu, Instr.sureAddr]
      rw [if_pos ⟨i1, i2⟩]
      simp only [Sem.run_bind, hs, Result.andThen_ok, Sem.run_pure, Addr.add_plain, i3]
      rw [Nat.add_assoc]
  · obtain ⟨j, s2, h2, k2⟩ := bind_ok.1 k1
    obtain ⟨q2, rfl⟩ := lift_ok.1 h2
    obtain ⟨rfl, rfl⟩ := pure_ok.1 k2
    obtain ⟨i1, i2, i3⟩ := inB_spec q2
    cases hi
    cases hx with
    | sliceX id off len cap b base hb hl =>
      refine ⟨rfl, _, ?_, .ptr _ _ b base hb⟩
      simp only [Instr.indexAt, Sem.run_bind, asIntOf, Sem.run_pure, Result.andThen_ok, run_underlying' hu]
      rw [if_pos ⟨i1, i2⟩]
      simp only [Sem.run_bind, hs, Result.andThen_ok, Sem.run_pure, Addr.add_plain, i3]
      rw [Nat.add_assoc]
    | sliceA id off len z cap b base c hb hc hl hz hsz =>
      refine ⟨rfl, _, ?_, .ptr _ _ b base hb⟩
      simp only [Instr.indexAt, Sem.run_bind, asIntOf, Sem.run_pure, Result.andThen_ok, run_underlying' hu]
      rw [if_pos ⟨i1, i2⟩]
      simp only [Sem.run_bind, hs, Result.andThen_ok, Sem.run_pure, Addr.add_plain, i3]
      rw [Nat.add_assoc]
    | sliceE id off ex a => omega
  · exact (fail_ok.1 k1).elim
theorem index_ok {ty : TypeId} {x ix : AV} {x' ix' : Value} {v : AV} (h : indexA P ty x ix s = .ok v t) (hx : VRel ρ x x') (hi : VRel ρ ix ix') : t = s ∧ ∃ u, (Instr.index ty x' ix').run P w = .ok u w ∧ VRel ρ v u := by
  unfold indexA at h
  obtain ⟨d, s1, h1, k1⟩ := bind_ok.1 h
  obtain ⟨hu, rfl⟩ := lift_ok.1 h1
  split at k1
  · obtain ⟨size, s2, h2, k2⟩ := bind_ok.1 k1
    obtain ⟨q2, rfl⟩ := lift_ok.1 h2
    obtain ⟨j, s3, h3, k3⟩ := bind_ok.1 k2
    obtain ⟨q3, rfl⟩ := lift_ok.1 h3
    obtain ⟨q4, rfl⟩ := lift_ok.1 k3
    obtain ⟨i1, i2, i3⟩ := inB_spec q3
    cases hi
    cases hx with
    | agg cs us hv =>
      obtain ⟨u, r1, r2⟩ := partOf?_ok (w := w) q4 hv
      refine ⟨rfl, u, ?_, r2⟩
      simp only [Instr.index, Sem.run_bind, asIntOf, Sem.run_pure, Result.andThen_ok, run_underlying' hu]
      rw [if_pos ⟨i1, i2⟩]
      simp only [Sem.run_bind, (sizeOf?_run (w := w) q2).1, Result.andThen_ok, i3, r1]
  · obtain ⟨b, s2, h2, k2⟩ := bind_ok.1 k1
    obtain ⟨q2, rfl⟩ := lift_ok.1 h2
    obtain ⟨rfl, rfl⟩ := pure_ok.1 k2
    cases hi
    cases hx with
    | str z =>
      rename_i i
      rw [lget_eq, List.getElem?_map, Option.map_eq_some_iff] at q2
      obtain ⟨c, hc, rfl⟩ := q2
      refine ⟨rfl, .int .u8 c.toNat, ?_, .int _ _⟩
      have hz : z[i]? = some c := by
        have h0 : z.data[i]? = some c := by simpa using hc
        have hlt : i < z.size := (Array.getElem?_eq_some_iff.1 h0).1
        have h1 : z[i] = c := by
          have := (Array.getElem?_eq_some_iff.1 h0).2
          exact this
        rw [getElem?_pos z i hlt, h1]
      simp only [Instr.index, Sem.run_bind, asIntOf, Sem.run_pure, Result.andThen_ok, run_underlying' hu]
      have h0 : (0 : Int) ≤ Int.ofNat i := Int.natCast_nonneg i
      rw [if_pos h0]
      have h3 : (Int.ofNat i).toNat = i := rfl
      rw [h3, hz]
      rfl
  · exact (fail_ok.1 k1).elim

/-! Equality. -/
theorem bytes_eq (a b : ByteArray) : (a.toList == b.toList) = leq (a.data.toList.map UInt8.toNat) (b.data.toList.map UInt8.toNat) := by
  rw [leq_eq, ByteArray.toList_eq, ByteArray.toList_eq]
  by_cases h : a.data.toList = b.data.toList
  · simp [h]
  · have : ¬ a.data.toList.map UInt8.toNat = b.data.toList.map UInt8.toNat := fun e => h (map_toNat_inj e)
    rw [decide_eq_false this]
    exact beq_eq_false_iff_ne.2 h
theorem bytes_lt (a b : ByteArray) : Op.bytesLess a.toList b.toList = llt (a.data.toList.map UInt8.toNat) (b.data.toList.map UInt8.toNat) := by
  rw [llt_eq, ByteArray.toList_eq, ByteArray.toList_eq]
theorem part_scalar {ty : TypeId} {us : Array Value} {o : Nat} {u : Value} (hu : us[o]? = some u) (ha : (isAgg ty).run P w = .ok false w) : (part ty us o).run P w = .ok u w := by
  simp [part, ha, hu]
theorem eqFields_ok (d : Nat) : ∀ {fs : List Field} {xs ys : List AV} {us vs : Array Value} {r : Bool}, eqFields P fs xs ys = some r → VRels ρ xs us.toList → VRels ρ ys vs.toList → (Op.eqFields (d + 1) us vs fs).run P w = .ok r w
  | [], _, _, _, _, r, h, _, _ => by cases h; rfl
  | f :: fs, xs, ys, us, vs, r, h, hx, hy => by
    unfold eqFields at h
    cases hn : (f.name == "_") with
    | true => rw [hn] at h; cases h
    | false =>
      rw [hn, cond_false] at h
      have hn' : f.name ≠ "_" := by simpa using hn
      simp only [lget_eq] at h
      split at h
      · rename_i a b hu ha hb
        obtain ⟨ua, e1, r1⟩ := hx.get _ _ ha
        obtain ⟨ub, e2, r2⟩ := hy.get _ _ hb
        cases r1; cases r2
        have hag : (isAgg f.type).run P w = .ok false w := by simp [isAgg, run_underlying' hu]
        unfold Op.eqFields
        rw [if_pos hn']
        simp only [Sem.run_bind, part_scalar (by simpa using e1) hag, part_scalar (by simpa using e2) hag, Result.andThen_ok, run_equalIn_bool' w d f.type a b hu]
        cases hab : (a == b) with
        | true => rw [hab, cond_true] at h; simp only [Bool.not_true, Bool.false_eq_true, if_false]; exact eqFields_ok d h hx hy
        | false => rw [hab, cond_false] at h; cases h; simp
      · rename_i k' k a j b hu ha hb
        obtain ⟨ua, e1, r1⟩ := hx.get _ _ ha
        obtain ⟨ub, e2, r2⟩ := hy.get _ _ hb
        cases r1; cases r2
        rw [kindEq_eq] at h
        by_cases hk : k = j
        · subst hk
          rw [decide_eq_true rfl, cond_true, intEq_eq] at h
          have hag : (isAgg f.type).run P w = .ok false w := by simp [isAgg, run_underlying' hu]
          unfold Op.eqFields
          rw [if_pos hn']
          simp only [Sem.run_bind, part_scalar (by simpa using e1) hag, part_scalar (by simpa using e2) hag, Result.andThen_ok, run_equalIn_int w d f.type k k' a b hu]
          by_cases hab : a = b
          · rw [decide_eq_true hab, cond_true] at h
            have : (a == b) = true := by simpa using hab
            simp only [this, Bool.not_true, Bool.false_eq_true, if_false]; exact eqFields_ok d h hx hy
          · rw [decide_eq_false hab, cond_false] at h; cases h
            have : (a == b) = false := by simpa using hab
            simp [this]
        · rw [decide_eq_false hk] at h; cases h
      · rename_i a b hu ha hb
        obtain ⟨ua, e1, r1⟩ := hx.get _ _ ha
        obtain ⟨ub, e2, r2⟩ := hy.get _ _ hb
        cases r1 with
        | str za =>
          cases r2 with
          | str zb =>
            have hag : (isAgg f.type).run P w = .ok false w := by simp [isAgg, run_underlying' hu]
            unfold Op.eqFields
            rw [if_pos hn']
            simp only [Sem.run_bind, part_scalar (by simpa using e1) hag, part_scalar (by simpa using e2) hag, Result.andThen_ok, run_equalIn_string w d f.type za zb hu, bytes_eq]
            cases hab : leq (za.data.toList.map UInt8.toNat) (zb.data.toList.map UInt8.toNat) with
            | true => rw [hab, cond_true] at h; simp only [Bool.not_true, Bool.false_eq_true, if_false]; exact eqFields_ok d h hx hy
            | false => rw [hab, cond_false] at h; cases h; simp
      · cases h
theorem plainStruct_run {ty : TypeId} {fs : List Field} (h : plainStruct P ty = some fs) : P.underlying ty = some (.struct (P.fieldsOf ty)) ∧ fs = (P.fieldsOf ty).toList ∧ P.stoodInHeld ty = false ∧ P.eqGuardType P.depth ty = false := by
  unfold plainStruct at h
  split at h
  · rename_i fs' hu
    cases hc : (P.stoodInHeld ty || P.eqGuardType P.depth ty) with
    | true => rw [hc] at h; cases h
    | false =>
      rw [hc] at h
      cases h
      rw [Bool.or_eq_false_iff] at hc
      have e : P.fieldsOf ty = fs' := by simp [Program.fieldsOf, hu]
      exact ⟨by rw [e]; exact hu, by rw [e], hc.1, hc.2⟩
  · cases h
end
end Go.Proofs.YtcjjmflaaaddgaaGreatDoor.Am
/-
  The abstract machine's operations against the model's: equality of values, binary and unary operators, maps.
-/
set_option linter.unusedSimpArgs false
set_option linter.unusedVariables false
namespace Go.Proofs.YtcjjmflaaaddgaaGreatDoor.Am
open Go Go.RowKit

section
variable {B : Nat} {ρ : Rho} {w : World} {s t : AS} {P : Program}
/-- The shapes that are compared. -/
inductive EqShape : Value → Value → Prop where
  | bool (a b : Bool) : EqShape (.bool a) (.bool b)
  | ptr (a b : Option Addr) : EqShape (.pointer a) (.pointer b)
  | slice (a b : Option Addr) (l c m d : Nat) : EqShape (.slice a l c) (.slice b m d)
  | map (a b : Option Nat) : EqShape (.map a) (.map b)
  | nf : EqShape .nilFunc .nilFunc
  | f1 (f : Fn) (a b : Array Value) : EqShape .nilFunc (.func f a b)
  | f2 (f : Fn) (a b : Array Value) : EqShape (.func f a b) .nilFunc
  | i1 (t : TypeId) (v : Value) : EqShape .nilIface (.iface t v)
  | i2 (t : TypeId) (v : Value) : EqShape (.iface t v) .nilIface
  | agg (a b : Array Value) : EqShape (.agg a) (.agg b)
theorem eqA_shape {ty : TypeId} {x y : AV} {u v : Value} {r : Bool} (h : eqA P ty x y = some r) (hx : VRel ρ x u) (hy : VRel ρ y v) : EqShape u v ∧ ((∃ a b, u = .agg a ∧ v = .agg b) → P.eqGuardType P.depth ty = false) := by
  unfold eqA at h
  split at h
  all_goals first
    | (cases h; done)
    | (split at h
       · rename_i fl hfl
         cases hx with
         | agg _ us hxs => cases hy with
           | agg _ vs hys => exact ⟨.agg _ _, fun _ => (plainStruct_run hfl).2.2.2⟩
       · cases h)
    | (cases hx <;> cases hy <;> exact ⟨by constructor, fun ⟨_, _, e, _⟩ => nomatch e⟩)
theorem eqShape_bin {ty : TypeId} {u v : Value} {r : Bool} (h : EqShape u v) (he : (Op.equal ty u v).run P w = .ok r w) : (binOp .eql ty u v).run P w = .ok (.bool r) w ∧ (binOp .neq ty u v).run P w = .ok (.bool (!r)) w := by
  cases h <;> exact ⟨by simp only [binOp, Sem.run_bind, he, Result.andThen_ok, Sem.run_pure], by simp only [binOp, Sem.run_bind, he, Result.andThen_ok, Sem.run_pure]⟩
theorem eqShape_guard {ty : TypeId} {u v : Value} (h : EqShape u v) (ha : (∃ a b, u = .agg a ∧ v = .agg b) → P.eqGuardType P.depth ty = false) (op : BinOp) (x y : Operand) : (eqGuard op ty x y u v).run P w = .ok () w := by
  cases h with
  | agg a b => exact run_eqGuard_agg w op ty x y a b (ha ⟨a, b, rfl, rfl⟩)
  | _ => unfold eqGuard; cases op <;> rfl
set_option maxHeartbeats 1600000 in
theorem eqA_ok {ty : TypeId} {x y : AV} {u v : Value} {r : Bool} (h : eqA P ty x y = some r) (hx : VRel ρ x u) (hy : VRel ρ y v) : (Op.equal ty u v).run P w = .ok r w := by
  have key : ∀ d, (Op.equalIn (d + 2) ty u v).run P w = .ok r w := by
    intro d
    unfold eqA at h
    split at h
    · rename_i a b hu; cases h; cases hx; cases hy; exact run_equalIn_bool' w (d + 1) ty a b hu
    · rename_i e hu; cases h; cases hx; cases hy; simp only [Op.equalIn, Sem.run_bind, run_underlying' hu, Result.andThen_ok, Sem.run_pure, Option.isNone_none, Option.isNone_some]
    · rename_i e hu; cases h; cases hx; cases hy; simp only [Op.equalIn, Sem.run_bind, run_underlying' hu, Result.andThen_ok, Sem.run_pure, Option.isNone_none, Option.isNone_some]
    · rename_i e hu; cases h; cases hx; cases hy; simp only [Op.equalIn, Sem.run_bind, run_underlying' hu, Result.andThen_ok, Sem.run_pure, Option.isNone_none, Option.isNone_some]
    · rename_i e i a j b hu
      split at h
      · rename_i n hn
        simp only [beq_nat] at h
        by_cases hc : n = 0 ∨ ¬ i = j
        · have : (!decide (n = 0) && decide (i = j)) = false := by
            rw [Bool.eq_false_iff]; simp only [ne_eq, Bool.and_eq_true, Bool.not_eq_true', decide_eq_false_iff_not, decide_eq_true_eq]; rintro ⟨h1, h2⟩; rcases hc with h | h <;> contradiction
          rw [this] at h; cases h
        · have hc1 : ¬ n = 0 := fun e => hc (.inl e)
          have hc2 : i = j := Decidable.byContradiction fun e => hc (.inr e)
          subst hc2
          simp only [decide_eq_false hc1, Bool.not_false, decide_true, Bool.and_self, cond_true, Option.some.injEq] at h
          subst h
          cases hx with
          | ptr _ _ bl base hb =>
            cases hy with
            | ptr _ _ bl' base' hb' =>
              rw [hb] at hb'; cases hb'
              simp only [Op.equalIn, Sem.run_bind, run_underlying' hu, Result.andThen_ok, (sizeOf?_run (w := w) hn).1, ne_eq, hc1, not_false_eq_true, if_true, sameAddr, beq_self_eq_true, Sem.run_pure]
              congr 1
              by_cases e : a = b
              · subst e; simp
              · have : ¬ (⟨bl, base + a, none⟩ : Addr) = ⟨bl, base + b, none⟩ := fun q => e (by injection q; omega)
                rw [decide_eq_false e]
                exact beq_eq_false_iff_ne.2 this
      · cases h
    · rename_i e hu; cases h; cases hx; cases hy; simp only [Op.equalIn, Sem.run_bind, run_underlying' hu, Result.andThen_ok, Sem.run_pure, Option.isNone_none, Option.isNone_some]
    · rename_i e hu; cases h; cases hx; cases hy <;> simp only [Op.equalIn, Sem.run_bind, run_underlying' hu, Result.andThen_ok, Sem.run_pure, Option.isNone_none, Option.isNone_some]
    · rename_i e hu; cases h; cases hy; cases hx <;> simp only [Op.equalIn, Sem.run_bind, run_underlying' hu, Result.andThen_ok, Sem.run_pure, Option.isNone_none, Option.isNone_some]
    · rename_i e hu; cases h; cases hx; cases hy; simp only [Op.equalIn, Sem.run_bind, run_underlying' hu, Result.andThen_ok, Sem.run_pure, Option.isNone_none, Option.isNone_some]
    · rename_i e hu; cases h; cases hx; cases hy; simp only [Op.equalIn, Sem.run_bind, run_underlying' hu, Result.andThen_ok, Sem.run_pure, Option.isNone_none, Option.isNone_some]
    · rename_i e hu; cases h; cases hx; cases hy; simp only [Op.equalIn, Sem.run_bind, run_underlying' hu, Result.andThen_ok, Sem.run_pure, Option.isNone_none, Option.isNone_some]
    · rename_i e hu; cases h; cases hx; cases hy; simp only [Op.equalIn, Sem.run_bind, run_underlying' hu, Result.andThen_ok, Sem.run_pure, Option.isNone_none, Option.isNone_some]
    · rename_i e hu; cases h; cases hx; cases hy; simp only [Op.equalIn, Sem.run_bind, run_underlying' hu, Result.andThen_ok, Sem.run_pure, Option.isNone_none, Option.isNone_some]
    · rename_i e hu; cases h; cases hx; cases hy; simp only [Op.equalIn, Sem.run_bind, run_underlying' hu, Result.andThen_ok, Sem.run_pure, Option.isNone_none, Option.isNone_some]
    · rename_i e hu; cases h; cases hx; cases hy; simp only [Op.equalIn, Sem.run_bind, run_underlying' hu, Result.andThen_ok, Sem.run_pure, Option.isNone_none, Option.isNone_some]
    · rename_i e hu; cases h; cases hx; cases hy; simp only [Op.equalIn, Sem.run_bind, run_underlying' hu, Result.andThen_ok, Sem.run_pure, Option.isNone_none, Option.isNone_some]
    · rename_i fs xs ys hu
      split at h
      · rename_i fl hfl
        obtain ⟨h1, h2, h3, h4⟩ := plainStruct_run hfl
        cases hx with
        | agg _ us hxs =>
          cases hy with
          | agg _ vs hys =>
            rw [run_equalIn_struct w (d + 1) ty us vs h1 h3, ← h2]
            exact eqFields_ok d h hxs hys
      · cases h
    · cases h
  exact key 9998
theorem strOp_ok {op : BinOp} {a b : ByteArray} {v : AV} (h : strOp op (a.data.toList.map UInt8.toNat) (b.data.toList.map UInt8.toNat) = some v) : ∃ u, (Op.stringOp op a b).run P w = .ok u w ∧ VRel ρ v u := by
  have hsz : ∀ z : ByteArray, z.data.toList.length = z.size := fun z => by rw [Array.length_toList]; rfl
  unfold strOp at h
  simp only [Op.stringOp, bytes_eq, bytes_lt]
  split at h <;> first
    | (cases h; exact ⟨_, rfl, .bool _⟩)
    | (cases h; done)
    | skip
  simp only [ble_nat, llen_eq, List.length_map, hsz] at h
  by_cases hc : a.size + b.size ≤ smallLen
  · rw [decide_eq_true hc, cond_true] at h
    cases h
    unfold smallLen at hc
    refine ⟨.string (a ++ b), ?_, ?_⟩
    · rw [if_neg (by simp only [IntKind.max, IntKind.signed, IntKind.bits]; omega)]; rfl
    · have e : lapp (a.data.toList.map UInt8.toNat) (b.data.toList.map UInt8.toNat) = (a ++ b).data.toList.map UInt8.toNat := by
        rw [lapp_eq, ByteArray.data_append, Array.toList_append, List.map_append]
      rw [e]; exact .str _
  · rw [decide_eq_false hc] at h; cases h
theorem intOp_ok {op : BinOp} {k : IntKind} {x y : Int} {v : AV} (t : TypeId) (h : intOp op k x y = some v) : ∃ u, (binOp op t (.int k x) (.int k y)).run P w = .ok u w ∧ VRel ρ v u := by
  unfold intOp at h
  simp only [wrapA_eq, intEq_eq, intLt_eq] at h
  split at h
  · cases h; exact ⟨_, by simp [binOp, Op.intArith], .int _ _⟩
  · cases h; exact ⟨_, by simp [binOp, Op.intArith], .int _ _⟩
  · cases h; exact ⟨_, by simp [binOp, Op.intArith], .int _ _⟩
  · by_cases hy : y = 0
    · rw [decide_eq_true hy] at h; cases h
    · rw [decide_eq_false hy, cond_false] at h; cases h; exact ⟨_, by simp [binOp, Op.intDiv, hy], .int _ _⟩
  · by_cases hy : y = 0
    · rw [decide_eq_true hy] at h; cases h
    · rw [decide_eq_false hy, cond_false] at h; cases h; exact ⟨_, by simp [binOp, Op.intDiv, hy], .int _ _⟩
  · cases h; exact ⟨_, by simp only [binOp, Op.intBits, ne_eq, not_true_eq_false, if_false, Sem.run_pure], .int _ _⟩
  · cases h; exact ⟨_, by simp only [binOp, Op.intBits, ne_eq, not_true_eq_false, if_false, Sem.run_pure], .int _ _⟩
  · cases h; exact ⟨_, by simp only [binOp, Op.intBits, ne_eq, not_true_eq_false, if_false, Sem.run_pure], .int _ _⟩
  · cases h; exact ⟨_, by simp only [binOp, Op.intBits, ne_eq, not_true_eq_false, if_false, Sem.run_pure], .int _ _⟩
  · cases h; refine ⟨_, by simp only [binOp, Op.intCmp, ne_eq, not_true_eq_false, if_false, Sem.run_pure]; rfl, ?_⟩; exact .bool _
  · cases h; refine ⟨.bool (x != y), by simp only [binOp, Op.intCmp, ne_eq, not_true_eq_false, if_false, Sem.run_pure], ?_⟩
    have : (!decide (x = y)) = (x != y) := by by_cases e : x = y <;> simp [e]
    rw [this]; exact .bool _
  · cases h; exact ⟨_, by simp only [binOp, Op.intCmp, ne_eq, not_true_eq_false, if_false, Sem.run_pure], .bool _⟩
  · cases h; refine ⟨.bool (decide (x ≤ y)), by simp only [binOp, Op.intCmp, ne_eq, not_true_eq_false, if_false, Sem.run_pure], ?_⟩
    have : (!decide (y < x)) = decide (x ≤ y) := by by_cases e : y < x <;> simp [e] <;> omega
    rw [this]; exact .bool _
  · cases h; exact ⟨.bool (decide (x > y)), by simp only [binOp, Op.intCmp, ne_eq, not_true_eq_false, if_false, Sem.run_pure], .bool _⟩
  · cases h; refine ⟨.bool (decide (x ≥ y)), by simp only [binOp, Op.intCmp, ne_eq, not_true_eq_false, if_false, Sem.run_pure], ?_⟩
    have : (!decide (x < y)) = decide (x ≥ y) := by by_cases e : x < y <;> simp [e] <;> omega
    rw [this]; exact .bool _
  · cases h
theorem binOp_ok {op : BinOp} {ty : TypeId} {x y : Operand} {a b v : AV} {u1 u2 : Value} (h : binOpA P op ty x y a b = some v) (ha : VRel ρ a u1) (hb : VRel ρ b u2) :
    ∃ u, (do eqGuard op ty x y u1 u2; binOp op ty u1 u2 : Sem Value).run P w = .ok u w ∧ VRel ρ v u := by
  unfold binOpA at h
  split at h
  · rename_i k m j n
    cases ha; cases hb
    have hg : ∀ op : BinOp, (eqGuard op ty x y (.int k m) (.int j n)).run P w = .ok () w := by intro op; cases op <;> simp [eqGuard]
    split at h
    · unfold shiftOp at h
      cases n with
      | negSucc n => cases h
      | ofNat n =>
        cases h
        refine ⟨_, ?_, .int _ _⟩
        simp only [Sem.run_bind, hg, Result.andThen_ok, binOp, Op.shift]
        rw [if_neg (by simp)]
        rfl
    · unfold shiftOp at h
      cases n with
      | negSucc n => cases h
      | ofNat n =>
        cases h
        refine ⟨_, ?_, .int _ _⟩
        simp only [Sem.run_bind, hg, Result.andThen_ok, binOp, Op.shift]
        rw [if_neg (by simp)]
        rfl
    · rw [kindEq_eq] at h
      by_cases hk : k = j
      · subst hk
        rw [decide_eq_true rfl, cond_true] at h
        obtain ⟨u, r1, r2⟩ := intOp_ok (ρ := ρ) (P := P) (w := w) ty h
        exact ⟨u, by simp only [Sem.run_bind, hg, Result.andThen_ok, r1], r2⟩
      · rw [decide_eq_false hk] at h; cases h
  · cases ha with
    | str za =>
      cases hb with
      | str zb =>
        obtain ⟨u, r1, r2⟩ := strOp_ok (ρ := ρ) (P := P) (w := w) h
        refine ⟨u, ?_, r2⟩
        have hg : (eqGuard op ty x y (.string za) (.string zb)).run P w = .ok () w := by cases op <;> simp [eqGuard]
        have hb : binOp op ty (.string za) (.string zb) = Op.stringOp op za zb := by cases op <;> rfl
        simp only [Sem.run_bind, hg, Result.andThen_ok, hb, r1]
  · cases ha; cases hb
    cases hc : ((isConstB x || isConstB y) && isIface P ty) with
    | false => rw [hc] at h; cases h
    | true =>
      rw [hc, cond_true] at h
      rw [Bool.and_eq_true] at hc
      have hg : (eqGuard op ty x y .nilIface .nilIface).run P w = .ok () w := by
        have h0 := hc.1
        cases x with
        | const c => cases op <;> simp [eqGuard]
        | tmp i =>
          cases y with
          | const c => cases op <;> simp [eqGuard]
          | _ => simp [isConstB] at h0
        | global i =>
          cases y with
          | const c => cases op <;> simp [eqGuard]
          | _ => simp [isConstB] at h0
        | func i =>
          cases y with
          | const c => cases op <;> simp [eqGuard]
          | _ => simp [isConstB] at h0
      have hif : ∃ ms, P.underlying ty = some (.interface ms) := by
        have := hc.2; unfold isIface at this; split at this
        · rename_i ms hu; exact ⟨ms, hu⟩
        · cases this
      obtain ⟨ms, hu⟩ := hif
      have he : (Op.equal ty .nilIface .nilIface).run P w = .ok true w := by
        have key : ∀ d, (Op.equalIn (d + 1) ty .nilIface .nilIface).run P w = .ok true w := by
          intro d; simp only [Op.equalIn, Sem.run_bind, run_underlying' hu, Result.andThen_ok, Sem.run_pure]
        exact key 9999
      split at h
      · cases h; exact ⟨.bool true, by simp only [Sem.run_bind, hg, Result.andThen_ok, binOp, he, Sem.run_pure], .bool _⟩
      · cases h; exact ⟨.bool false, by simp only [Sem.run_bind, hg, Result.andThen_ok, binOp, he, Sem.run_pure, Bool.not_true], .bool _⟩
      · cases h
  · rename_i n1 n2 n3
    have hop : ∃ r, eqA P ty a b = some r ∧ ((op = .eql ∧ v = .bool r) ∨ (op = .neq ∧ v = .bool (!r))) := by
      split at h
      · rename_i r hr; cases h; exact ⟨r, hr, .inl ⟨rfl, rfl⟩⟩
      · rename_i r hr; cases h; exact ⟨r, hr, .inr ⟨rfl, rfl⟩⟩
      · cases h
    obtain ⟨r, hr, hv⟩ := hop
    have he := eqA_ok (ρ := ρ) (w := w) hr ha hb
    have hbin : (binOp .eql ty u1 u2).run P w = .ok (.bool r) w ∧ (binOp .neq ty u1 u2).run P w = .ok (.bool (!r)) w := eqShape_bin (eqA_shape hr ha hb).1 he
    have hg : (eqGuard op ty x y u1 u2).run P w = .ok () w := eqShape_guard (eqA_shape hr ha hb).1 (eqA_shape hr ha hb).2 op x y
    rcases hv with ⟨rfl, rfl⟩ | ⟨rfl, rfl⟩
    · exact ⟨_, by simp only [Sem.run_bind, hg, Result.andThen_ok, hbin.1], .bool _⟩
    · exact ⟨_, by simp only [Sem.run_bind, hg, Result.andThen_ok, hbin.2], .bool _⟩
end
end Go.Proofs.YtcjjmflaaaddgaaGreatDoor.Am
/-
  The abstract machine's operations against the model's: unary operators, maps.
-/
set_option linter.unusedSimpArgs false
set_option linter.unusedVariables false
namespace Go.Proofs.YtcjjmflaaaddgaaGreatDoor.Am
open Go Go.RowKit

section
variable {B : Nat} {ρ : Rho} {w : World} {s t : AS} {P : Program}
theorem unOp_ok {op : UnOp} {a v : AV} {u1 : Value} (h : unOpA op a = some v) (ha : VRel ρ a u1) : ∃ u, (Op.unary op u1).run P w = .ok u w ∧ VRel ρ v u := by
  unfold unOpA at h
  split at h
  · cases h; cases ha; exact ⟨_, by simp only [Op.unary, Op.intArith, Sem.run_pure], .int _ _⟩
  · cases ha
    obtain ⟨u, r1, r2⟩ := intOp_ok (ρ := ρ) (P := P) (w := w) 0 h
    exact ⟨u, by simpa [Op.unary, binOp] using r1, r2⟩
  · cases h; cases ha; exact ⟨_, by simp only [Op.unary, Sem.run_pure], .bool _⟩
  · cases h

/-! Maps. -/
theorem checkKey_scalar {ty : TypeId} {u : Value} (e : Bool) (n : Nat) (h : (∃ k, P.underlying ty = some (.int k)) ∨ P.underlying ty = some .string ∨ P.underlying ty = some .bool) : (Instr.checkKey e (n + 1) ty u).run P w = .ok () w := by
  rcases h with ⟨k, hu⟩ | hu | hu <;> (unfold Instr.checkKey; simp only [Sem.run_bind, run_underlying' hu, Result.andThen_ok]; cases u <;> rfl)
theorem keyFields_run (e : Bool) (n : Nat) : ∀ {fs : List Field} {cs : List AV} {us : Array Value}, keyFields P fs cs = true → VRels ρ cs us.toList →
    (forIn fs PUnit.unit fun (f : Field) (_ : PUnit) => (do if f.name ≠ "_" then (do Instr.checkKey e (n + 1) f.type (← part f.type us f.offset); pure (ForInStep.yield PUnit.unit)) else pure (ForInStep.yield PUnit.unit) : Sem (ForInStep PUnit))).run P w = .ok PUnit.unit w
  | [], _, _, _, _ => rfl
  | f :: fs, cs, us, h, hv => by
    unfold keyFields at h
    cases hn : (f.name == "_") with
    | true => rw [hn] at h; cases h
    | false =>
      rw [hn, cond_false] at h
      have hn' : f.name ≠ "_" := by simpa using hn
      simp only [lget_eq] at h
      have key : (∃ k, P.underlying f.type = some (.int k)) ∨ P.underlying f.type = some .string ∨ P.underlying f.type = some .bool := by
        split at h
        · rename_i k _ _ hu _; exact .inl ⟨k, hu⟩
        · rename_i hu _; exact .inr (.inl hu)
        · rename_i hu _; exact .inr (.inr hu)
        · cases h
      have hsome : ∃ v, cs[f.offset]? = some v ∧ keyFields P fs cs = true := by
        split at h
        · rename_i hc; exact ⟨_, hc, h⟩
        · rename_i hc; exact ⟨_, hc, h⟩
        · rename_i hc; exact ⟨_, hc, h⟩
        · cases h
      obtain ⟨v, hc, h'⟩ := hsome
      obtain ⟨u, hu, _⟩ := hv.get _ _ hc
      have hag : (isAgg f.type).run P w = .ok false w := by rcases key with ⟨k, hu⟩ | hu | hu <;> simp [isAgg, run_underlying' hu]
      rw [List.forIn_cons]
      simp only [Sem.run_bind]
      rw [if_pos hn']
      simp only [Sem.run_bind, part_scalar (by simpa using hu) hag, Result.andThen_ok, checkKey_scalar e n key, Sem.run_pure]
      exact keyFields_run e n h' hv
theorem keyOk_run {ty : TypeId} {k : AV} {u : Value} (h : keyOk P ty k = true) (hk : VRel ρ k u) (e : Bool) : (Instr.checkKey e 10000 ty u).run P w = .ok () w := by
  have key : ∀ n, (Instr.checkKey e (n + 2) ty u).run P w = .ok () w := by
    intro n
    unfold keyOk at h
    split at h
    · rename_i k' _ _ hu; exact checkKey_scalar e (n + 1) (.inl ⟨k', hu⟩)
    · rename_i hu; exact checkKey_scalar e (n + 1) (.inr (.inl hu))
    · rename_i hu; exact checkKey_scalar e (n + 1) (.inr (.inr hu))
    · split at h
      · rename_i fl hfl
        obtain ⟨h1, h2, h3, h4⟩ := plainStruct_run hfl
        cases hk with
        | agg _ us hv =>
          have := keyFields_run (ρ := ρ) (w := w) e n (h2 ▸ h) hv
          unfold Instr.checkKey
          simp only [Sem.run_bind, run_underlying' h1, Result.andThen_ok]
          rw [← Array.forIn_toList, this]; rfl
      · cases h
    · cases h
  exact key 9998
theorem eqKey_ok {ty : TypeId} {x y : AV} {u v : Value} {r : Bool} (h : eqKey P ty x y = some r) (hx : VRel ρ x u) (hy : VRel ρ y v) : (Op.equal ty u v).run P w = .ok r w := by
  have key : ∀ d, (Op.equalIn (d + 2) ty u v).run P w = .ok r w := by
    intro d
    unfold eqKey at h
    split at h
    · rename_i k' k a j b hu
      rw [kindEq_eq] at h
      by_cases hk : k = j
      · subst hk
        rw [decide_eq_true rfl, cond_true, intEq_eq] at h
        cases h; cases hx; cases hy
        rw [run_equalIn_int w (d + 1) ty k k' a b hu]; rfl
      · rw [decide_eq_false hk] at h; cases h
    · rename_i hu
      cases h
      cases hx with
      | str za => cases hy with
        | str zb => rw [run_equalIn_string w (d + 1) ty za zb hu, bytes_eq]
    · rename_i hu; cases h; cases hx; cases hy; exact run_equalIn_bool' w (d + 1) ty _ _ hu
    · rename_i fs xs ys hu
      split at h
      · rename_i fl hfl
        obtain ⟨h1, h2, h3, h4⟩ := plainStruct_run hfl
        cases hx with
        | agg _ us hxs =>
          cases hy with
          | agg _ vs hys =>
            rw [run_equalIn_struct w (d + 1) ty us vs h1 h3, ← h2]
            exact eqFields_ok d h hxs hys
      · cases h
    · cases h
  exact key 9998
/-- What findNow tells, findAsking would tell. -/
theorem sameNow_eq {d : TypeDesc} {ty : TypeId} {u v : Value} {r : Bool} (hu : P.underlying ty = some d) (h : Instr.sameNow d u v = some r) : (Op.equal ty u v).run P w = .ok r w := by
  have key : ∀ n, (Op.equalIn (n + 1) ty u v).run P w = .ok r w := by
    intro n
    unfold Instr.sameNow at h
    split at h
    · rename_i k' k a j b
      split at h
      · rename_i hk; cases h; subst hk; exact run_equalIn_int w n ty k k' a b hu
      · cases h
    · cases h; rw [run_equalIn_string w n ty _ _ hu, beq_toListBytes]
    · cases h; exact run_equalIn_bool' w n ty _ _ hu
    · cases h
  exact key 9999
theorem findNow_ok {ty : TypeId} {d : TypeDesc} {u : Value} (hu : P.underlying ty = some d) : ∀ {es : List MapEntry} {i : Nat} {r : Option (Nat × Value)}, Instr.findNow d u es i = some r → (Instr.findAsking ty u es i).run P w = .ok r w
  | [], i, r, h => by cases h; rfl
  | e :: es, i, r, h => by
    unfold Instr.findNow at h
    unfold Instr.findAsking
    cases hs : Instr.sameNow d u e.key with
    | none => rw [hs] at h; cases h
    | some b =>
      rw [hs] at h
      simp only [Sem.run_bind, sameNow_eq (w := w) hu hs, Result.andThen_ok]
      cases b with
      | true => cases h; rfl
      | false => simp only [Bool.false_eq_true, if_false]; exact findNow_ok hu h
theorem findK_ok {ty : TypeId} {k : AV} {u : Value} (hk : VRel ρ k u) : ∀ {es : List (AV × AV × Nat)} {ms : List MapEntry} {i : Nat} {r : Option (Nat × AV × AV × Nat)}, findK P ty k es i = some r → ERels ρ es ms →
    match r with
    | none => (Instr.findAsking ty u ms i).run P w = .ok none w
    | some (j, e) => ∃ m, i ≤ j ∧ es[j - i]? = some e ∧ ms[j - i]? = some m ∧ ERel ρ e m ∧ (Instr.findAsking ty u ms i).run P w = .ok (some (j, m.val)) w
  | [], ms, i, r, h, he => by
    cases h
    have : ms = [] := by have := he.1; cases ms with | nil => rfl | cons => simp at this
    subst this; rfl
  | e :: es, [], i, r, h, he => by have := he.1; simp at this
  | e :: es, m :: ms, i, r, h, he => by
    have hem : ERel ρ e m := he.2 0 e m rfl rfl
    have he' : ERels ρ es ms := ⟨by simpa using he.1, fun i a b ha hb => he.2 (i + 1) a b (by simpa using ha) (by simpa using hb)⟩
    unfold findK at h
    split at h
    · rename_i hq
      cases h
      have := eqKey_ok (ρ := ρ) (w := w) hq hk hem.1
      refine ⟨m, Nat.le_refl _, by simp, by simp, hem, ?_⟩
      unfold Instr.findAsking
      simp only [Sem.run_bind, this, Result.andThen_ok, if_true, Sem.run_pure]
    · rename_i hq
      have := eqKey_ok (ρ := ρ) (w := w) hq hk hem.1
      have ih := findK_ok hk h he'
      cases r with
      | none =>
        simp only at ih ⊢
        unfold Instr.findAsking
        simp only [Sem.run_bind, this, Result.andThen_ok, Bool.false_eq_true, if_false]
        exact ih
      | some p =>
        obtain ⟨j, e'⟩ := p
        obtain ⟨m', h1, h2, h3, h4, h5⟩ := ih
        refine ⟨m', by omega, ?_, ?_, h4, ?_⟩
        · rw [show j - i = (j - (i + 1)) + 1 by omega]; simpa using h2
        · rw [show j - i = (j - (i + 1)) + 1 by omega]; simpa using h3
        · unfold Instr.findAsking
          simp only [Sem.run_bind, this, Result.andThen_ok, Bool.false_eq_true, if_false]
          exact h5
    · cases h
theorem findKey_of {ty : TypeId} {u : Value} {ms : List MapEntry} {r : Option (Nat × Value)} {d : TypeDesc} (hu : P.underlying ty = some d) (h : (Instr.findAsking ty u ms 0).run P w = .ok r w) : (Instr.findKey ty u ms).run P w = .ok r w := by
  simp only [Instr.findKey, Sem.run_bind, run_underlying' hu, Result.andThen_ok]
  cases hf : Instr.findNow d u ms 0 with
  | none => exact h
  | some r' =>
    have := findNow_ok (w := w) hu hf
    rw [h] at this
    cases this; rfl
theorem keyOk_under {ty : TypeId} {k : AV} (h : keyOk P ty k = true) : ∃ d, P.underlying ty = some d := by
  unfold keyOk at h
  cases hu : P.underlying ty with
  | some d => exact ⟨d, rfl⟩
  | none => rw [hu] at h; cases k <;> cases h
end
end Go.Proofs.YtcjjmflaaaddgaaGreatDoor.Am
/-
  The abstract machine's operations against the model's: maps in memory.
-/
set_option linter.unusedSimpArgs false
set_option linter.unusedVariables false
namespace Go.Proofs.YtcjjmflaaaddgaaGreatDoor.Am
open Go Go.RowKit

section
variable {B : Nat} {ρ : Rho} {w : World} {s t : AS} {P : Program}
theorem getO_ok {id : Nat} {o : AO} (h : getO id s = .ok o t) : s.heap.get id = some o ∧ t.heap = s.heap ∧ t.next = s.next := by
  unfold getO at h
  split at h
  · rename_i o' hg; injection h with h1 h2; subst h1; subst h2; exact ⟨hg, rfl, rfl⟩
  · cases h
theorem mapO_ok {id : Nat} {es : List (AV × AV × Nat)} {c : Nat} (h : mapO id s = .ok (es, c) t) : s.heap.get id = some (.map es c) ∧ t.heap = s.heap ∧ t.next = s.next := by
  unfold mapO at h
  obtain ⟨o, s1, h1, h2⟩ := bind_ok.1 h
  obtain ⟨g1, g2, g3⟩ := getO_ok h1
  cases o with
  | map es' c' =>
    obtain ⟨e, rfl⟩ := pure_ok.1 h2
    cases e
    exact ⟨g1, g2, g3⟩
  | _ => exact (fail_ok.1 h2).elim
theorem map_world {id : Nat} {es : List (AV × AV × Nat)} {c : Nat} {h : Trie AO} (hg : h.get id = some (.map es c)) (hw : WRel B ρ h w) {b : Nat} (hb : ρ id = some (b, 0)) : own0 ≤ id ∧ ∃ ms : Array MapEntry, w.heap[b]? = some (.map ms c) ∧ ERels ρ es ms.toList := by
  by_cases hid : id < own0
  · exact (hw.globs id _ hid hg).2.elim
  · obtain ⟨b', base, hb', _, ms, h1, h2⟩ := hw.obj id _ (by omega) hg rfl
    rw [hb] at hb'; cases hb'
    exact ⟨by omega, ms, h1, h2⟩
theorem run_getObj_map {b : Nat} {ms : Array MapEntry} {c : Nat} (h : w.heap[b]? = some (.map ms c)) : (getObj b).run P w = .ok (.map ms c) w := by
  simp only [getObj, Sem.run, h]
theorem run_setObj_map {b : Nat} {ms : Array MapEntry} {c : Nat} (o : Obj) (h : w.heap[b]? = some (.map ms c)) : (setObj b o).run P w = .ok () { w with heap := w.heap.setIfInBounds b o } := by
  simp only [setObj, Sem.run, h]
theorem putO_map {id : Nat} {es es' : List (AV × AV × Nat)} {c c' : Nat} {x : Unit} (h : putO id (.map es' c') s = .ok x t) (hg : s.heap.get id = some (.map es c)) (hw : WRel B ρ s.heap w) {b : Nat} (hb : ρ id = some (b, 0)) {ms' : Array MapEntry} (he : ERels ρ es' ms'.toList) :
    WRel B ρ t.heap { w with heap := w.heap.setIfInBounds b (.map ms' c') } ∧ Below B w { w with heap := w.heap.setIfInBounds b (.map ms' c') } ∧ t.next = s.next := by
  obtain ⟨hid, ms, h1, h2⟩ := map_world hg hw hb
  unfold putO at h
  cases ho : ownB id with
  | false => rw [ho] at h; cases h
  | true =>
    rw [ho, cond_true] at h
    injection h with _ h3
    obtain ⟨_, hid2⟩ := own_of ho
    have hlt := lt_of_block h1
    have hB := hw.lt id b 0 hid hb
    refine ⟨?_, ⟨rfl, rfl, rfl, by simp, fun k hk => ?_⟩, by rw [← h3]⟩
    · rw [← h3]
      refine hw.update hid hg rfl hb (fun m => Trie.get_set 32 _ _ _ m hid2) (by simp) (fun k hk => ?_) (fun _ => ⟨rfl, ms', ?_, he⟩) (fun C e fr q => by simp [Array.getElem?_setIfInBounds] at q)
      · exact Array.getElem?_setIfInBounds_ne (fun e => hk e.symm)
      · simp [hlt]
    · exact Array.getElem?_setIfInBounds_ne (by omega)
theorem mapOf?_run {ty k e : TypeId} (h : mapOf? P ty = some (k, e)) : P.underlying ty = some (.map k e) := by
  unfold mapOf? at h
  split at h
  · rename_i hu; cases h; exact hu
  · cases h
theorem lookup_ok {ty : TypeId} {m k v : AV} {m' k' : Value} {ok : Bool} (h : lookupA P ty m k ok s = .ok v t) (hm : VRel ρ m m') (hk : VRel ρ k k') (hw : WRel B ρ s.heap w) :
    t.heap = s.heap ∧ t.next = s.next ∧ ∃ u, (Instr.lookup ty m' k' ok).run P w = .ok u w ∧ VRel ρ v u := by
  unfold lookupA at h
  obtain ⟨⟨key, elem⟩, s1, h1, k1⟩ := bind_ok.1 h
  obtain ⟨q1, rfl⟩ := lift_ok.1 h1
  obtain ⟨es, s2, h2, k2⟩ := bind_ok.1 k1
  obtain ⟨_, s3, h3, k3⟩ := bind_ok.1 k2
  obtain ⟨q3, rfl⟩ := check_ok.1 h3
  obtain ⟨r, s4, h4, k4⟩ := bind_ok.1 k3
  obtain ⟨q4, rfl⟩ := lift_ok.1 h4
  have hu := mapOf?_run q1
  obtain ⟨dk, hdk⟩ := keyOk_under q3
  -- what the model's look finds
  have fin : ∀ ms : Array MapEntry, ERels ρ es ms.toList → s2 = t ∧ ∃ (f : Option (Nat × Value)) (u : Value), (Instr.findKey key k' ms.toList).run P w = .ok f w ∧ VRel ρ v u ∧
      (match f with | some (_, x) => u = if ok then .tuple #[x, .bool true] else x | none => ∃ z, (zeroValue elem).run P w = .ok z w ∧ u = if ok then .tuple #[z, .bool false] else z) := by
    intro ms hms
    have hfind := findK_ok (w := w) hk q4 hms
    cases r with
    | none =>
      obtain ⟨z, s5, h5, k5⟩ := bind_ok.1 k4
      obtain ⟨q5, rfl⟩ := lift_ok.1 h5
      obtain ⟨rfl, rfl⟩ := pure_ok.1 k5
      obtain ⟨zu, r1, r2⟩ := zeroOf?_run (ρ := ρ) (w := w) q5
      refine ⟨rfl, none, if ok then .tuple #[zu, .bool false] else zu, findKey_of hdk hfind, ?_, zu, r1, rfl⟩
      cases ok
      · exact r2
      · exact .tuple _ _ (.cons _ _ _ _ r2 (.cons _ _ _ _ (.bool _) .nil))
    | some p =>
      obtain ⟨j, e⟩ := p
      obtain ⟨rfl, rfl⟩ := pure_ok.1 k4
      obtain ⟨m, _, _, _, h4, h5⟩ := hfind
      refine ⟨rfl, some (j, m.val), if ok then .tuple #[m.val, .bool true] else m.val, findKey_of hdk h5, ?_, rfl⟩
      cases ok
      · exact h4.2.1
      · exact .tuple _ _ (.cons _ _ _ _ h4.2.1 (.cons _ _ _ _ (.bool _) .nil))
  cases m with
  | nilMap =>
    cases hm
    obtain ⟨rfl, rfl⟩ := pure_ok.1 h2
    obtain ⟨rfl, f, u, f1, f2, f3⟩ := fin #[] ⟨rfl, fun i e m he => by simp at he⟩
    refine ⟨rfl, rfl, u, ?_, f2⟩
    cases f with
    | none =>
      obtain ⟨z, f4, rfl⟩ := f3
      simp only [Instr.lookup, Sem.run_bind, run_underlying' hu, Result.andThen_ok, Sem.run_pure, keyOk_run (w := w) q3 hk, f1, f4]
    | some p =>
      obtain ⟨j, x⟩ := p
      subst f3
      simp only [Instr.lookup, Sem.run_bind, run_underlying' hu, Result.andThen_ok, Sem.run_pure, keyOk_run (w := w) q3 hk, f1]
  | map id =>
    cases hm with
    | map _ b hb =>
      obtain ⟨⟨es', c⟩, s5, h5, k5⟩ := bind_ok.1 h2
      obtain ⟨rfl, rfl⟩ := pure_ok.1 k5
      obtain ⟨g1, g2, g3⟩ := mapO_ok h5
      obtain ⟨_, ms, w1, w2⟩ := map_world g1 hw hb
      obtain ⟨rfl, f, u, f1, f2, f3⟩ := fin ms w2
      refine ⟨g2, g3, u, ?_, f2⟩
      cases f with
      | none =>
        obtain ⟨z, f4, rfl⟩ := f3
        simp only [Instr.lookup, Sem.run_bind, run_underlying' hu, Result.andThen_ok, Sem.run_pure, run_getObj_map w1, keyOk_run (w := w) q3 hk, f1, f4]
      | some p =>
        obtain ⟨j, x⟩ := p
        subst f3
        simp only [Instr.lookup, Sem.run_bind, run_underlying' hu, Result.andThen_ok, Sem.run_pure, run_getObj_map w1, keyOk_run (w := w) q3 hk, f1]
  | _ => cases h2
theorem sameKey_bits {a b : AV} {u v : Value} (h : sameKey a b = true) (ha : VRel ρ a u) (hb : VRel ρ b v) (n : Nat) : Instr.sameBits n u v = true := by
  unfold sameKey at h
  split at h
  · cases ha; cases hb; unfold Instr.sameBits; exact h
  · cases ha; cases hb
    rw [Bool.and_eq_true, kindEq_eq, intEq_eq, decide_eq_true_eq, decide_eq_true_eq] at h
    unfold Instr.sameBits; simp [h.1, h.2]
  · cases ha with
    | str za => cases hb with
      | str zb =>
        rw [leq_eq, decide_eq_true_eq] at h
        have : za = zb := by
          have e := map_toNat_inj h
          obtain ⟨⟨x⟩⟩ := za; obtain ⟨⟨y⟩⟩ := zb
          have e' : x = y := e
          rw [e']
        subst this
        unfold Instr.sameBits; rw [beq_toListBytes]; simp
  · cases h
theorem sameKeys_bits (n : Nat) : ∀ {l m : List AV} {us vs : List Value}, sameKeys l m = true → VRels ρ l us → VRels ρ m vs → us.length = vs.length ∧ (us.zip vs).all (fun (x, y) => Instr.sameBits n x y) = true
  | [], [], us, vs, _, ha, hb => by cases ha; cases hb; exact ⟨rfl, rfl⟩
  | [], _ :: _, _, _, h, _, _ => by cases h
  | _ :: _, [], _, _, h, _, _ => by cases h
  | a :: l, b :: m, us, vs, h, ha, hb => by
    unfold sameKeys at h
    rw [Bool.and_eq_true] at h
    cases ha with
    | cons _ u _ us h1 h1' =>
      cases hb with
      | cons _ v _ vs h2 h2' =>
        obtain ⟨e1, e2⟩ := sameKeys_bits n h.2 h1' h2'
        refine ⟨by simp [e1], ?_⟩
        rw [List.zip_cons_cons, List.all_cons, e2, Bool.and_true]
        exact sameKey_bits h.1 h1 h2 n
theorem sameKeyV_bits {a b : AV} {u v : Value} (h : sameKeyV a b = true) (ha : VRel ρ a u) (hb : VRel ρ b v) : Instr.sameBits 10000 u v = true := by
  unfold sameKeyV at h
  split at h
  · cases ha with
    | agg _ us h1 => cases hb with
      | agg _ vs h2 =>
        obtain ⟨e1, e2⟩ := sameKeys_bits 9999 h h1 h2
        have key : ∀ n, (us.toList.zip vs.toList).all (fun (x, y) => Instr.sameBits n x y) = true → Instr.sameBits (n + 1) (.agg us) (.agg vs) = true := by
          intro n hn
          unfold Instr.sameBits
          rw [Bool.and_eq_true]
          exact ⟨by simpa using e1, hn⟩
        exact key 9999 e2
  · exact sameKey_bits h ha hb _
theorem ERels.set {es : List (AV × AV × Nat)} {ms : Array MapEntry} (h : ERels ρ es ms.toList) (i : Nat) (f : MapEntry → MapEntry) {e : AV × AV × Nat} {m : MapEntry} (hm : ms[i]? = some m) (he : ERel ρ e (f m)) : ERels ρ (es.set i e) (ms.modify i f).toList := by
  refine ⟨by simp [h.1], fun j a b ha hb => ?_⟩
  rw [Array.getElem?_toList, Array.getElem?_modify] at hb
  by_cases q : i = j
  · subst q
    rw [if_pos rfl, hm] at hb
    cases hb
    have hlt : i < es.length := by rw [h.1]; have := (Array.getElem?_eq_some_iff.1 hm).1; simpa using this
    rw [List.getElem?_set_self hlt] at ha
    cases ha; exact he
  · rw [if_neg q] at hb
    rw [List.getElem?_set_ne q] at ha
    exact h.2 j a b ha (by simpa using hb)
theorem mapUpdate_ok {ty : TypeId} {m k v x : AV} {m' k' v' : Value} (h : mapUpdateA P ty m k v s = .ok x t) (hm : VRel ρ m m') (hk : VRel ρ k k') (hv : VRel ρ v v') (hw : WRel B ρ s.heap w) :
    x = .undef ∧ t.next = s.next ∧ ∃ w', (Instr.mapUpdate ty m' k' v').run P w = .ok () w' ∧ WRel B ρ t.heap w' ∧ Below B w w' := by
  unfold mapUpdateA at h
  obtain ⟨⟨key, elem⟩, s1, h1, k1⟩ := bind_ok.1 h
  obtain ⟨q1, rfl⟩ := lift_ok.1 h1
  have hu := mapOf?_run q1
  cases hm with
  | map id b hb =>
    obtain ⟨⟨es, c⟩, s2, h2, k2⟩ := bind_ok.1 k1
    obtain ⟨_, s3, h3, k3⟩ := bind_ok.1 k2
    obtain ⟨q3, rfl⟩ := check_ok.1 h3
    obtain ⟨r, s4, h4, k4⟩ := bind_ok.1 k3
    obtain ⟨q4, rfl⟩ := lift_ok.1 h4
    obtain ⟨g1, g2, g3⟩ := mapO_ok h2
    obtain ⟨_, ms, w1, w2⟩ := map_world g1 hw hb
    obtain ⟨dk, hdk⟩ := keyOk_under q3
    have hfind := findK_ok (w := w) hk q4 w2
    have hw2 : WRel B ρ s2.heap w := g2 ▸ hw
    have g1' : s2.heap.get id = some (.map es c) := g2 ▸ g1
    cases r with
    | none =>
      obtain ⟨_, s5, h5, k5⟩ := bind_ok.1 k4
      obtain ⟨rfl, rfl⟩ := pure_ok.1 k5
      have he : ERels ρ (lapp es [(k, v, c)]) (ms.push { key := k', val := v', born := c }).toList := by
        rw [lapp_eq]
        refine ⟨by simp [w2.1], fun i a d ha hd => ?_⟩
        rw [Array.toList_push] at hd
        by_cases q : i < es.length
        · rw [List.getElem?_append_left q] at ha
          rw [List.getElem?_append_left (by have := w2.1; omega)] at hd
          exact w2.2 i a d ha hd
        · rw [List.getElem?_append_right (by omega)] at ha
          rw [List.getElem?_append_right (by have := w2.1; omega)] at hd
          have e : ms.toList.length = es.length := w2.1.symm
          rw [e] at hd
          cases hi : i - es.length with
          | zero =>
            rw [hi] at ha hd
            simp only [List.getElem?_cons_zero, Option.some.injEq] at ha hd
            subst ha; subst hd
            exact ⟨hk, hv, rfl⟩
          | succ n => rw [hi] at ha; simp at ha
      obtain ⟨p1, p2, p3⟩ := putO_map h5 g1' hw2 hb he
      refine ⟨rfl, p3.trans g3, _, ?_, p1, p2⟩
      simp only [Instr.mapUpdate, Sem.run_bind, run_underlying' hu, Result.andThen_ok, run_getObj_map w1, keyOk_run (w := w) q3 hk, findKey_of hdk hfind, run_setObj_map _ w1]
    | some p =>
      obtain ⟨j, e⟩ := p
      obtain ⟨m, f1, f2, f3, f4, f5⟩ := hfind
      obtain ⟨_, s5, h5, k5⟩ := bind_ok.1 k4
      obtain ⟨q5, rfl⟩ := check_ok.1 h5
      obtain ⟨_, s6, h6, k6⟩ := bind_ok.1 k5
      obtain ⟨rfl, rfl⟩ := pure_ok.1 k6
      have hj : ms[j]? = some m := by simpa using f3
      have he := w2.set j (fun x => { x with key := k', val := v' }) (e := (k, v, e.2.2)) hj ⟨hk, hv, f4.2.2⟩
      rw [← lset_eq] at he
      obtain ⟨p1, p2, p3⟩ := putO_map h6 g1' hw2 hb he
      refine ⟨rfl, p3.trans g3, _, ?_, p1, p2⟩
      have hsame : (Instr.keyThatStays m.key k').run P w = .ok k' w := by
        have := sameKeyV_bits q5 f4.1 hk
        simp [Instr.keyThatStays, this]
      simp only [Instr.mapUpdate, Sem.run_bind, run_underlying' hu, Result.andThen_ok, run_getObj_map w1, keyOk_run (w := w) q3 hk, findKey_of hdk f5, hj, Option.map_some, Option.getD_some, hsame, run_setObj_map _ w1]
  | _ => exact (fail_ok.1 k1).elim
theorem delete_ok {args : Array TypeId} {ty : TypeId} {m k x : AV} {m' k' : Value} (h : deleteA P ty m k s = .ok x t) (ht : args[0]? = some ty) (hm : VRel ρ m m') (hk : VRel ρ k k') (hw : WRel B ρ s.heap w) (rt : TypeId) :
    t.next = s.next ∧ ∃ w', (Builtin.delete_ args rt #[m', k']).run P w = .ok (.tuple #[]) w' ∧ VRel ρ x (.tuple #[]) ∧ WRel B ρ t.heap w' ∧ Below B w w' := by
  unfold deleteA at h
  obtain ⟨⟨key, elem⟩, s1, h1, k1⟩ := bind_ok.1 h
  obtain ⟨q1, rfl⟩ := lift_ok.1 h1
  have hu := mapOf?_run q1
  cases hm with
  | map id b hb =>
    obtain ⟨⟨es, c⟩, s2, h2, k2⟩ := bind_ok.1 k1
    obtain ⟨_, s3, h3, k3⟩ := bind_ok.1 k2
    obtain ⟨q3, rfl⟩ := check_ok.1 h3
    obtain ⟨r, s4, h4, k4⟩ := bind_ok.1 k3
    obtain ⟨q4, rfl⟩ := lift_ok.1 h4
    obtain ⟨g1, g2, g3⟩ := mapO_ok h2
    obtain ⟨_, ms, w1, w2⟩ := map_world g1 hw hb
    obtain ⟨dk, hdk⟩ := keyOk_under q3
    have hfind := findK_ok (w := w) hk q4 w2
    have hw2 : WRel B ρ s2.heap w := g2 ▸ hw
    have g1' : s2.heap.get id = some (.map es c) := g2 ▸ g1
    cases r with
    | none =>
      obtain ⟨_, s5, h5, k5⟩ := bind_ok.1 k4
      obtain ⟨rfl, rfl⟩ := pure_ok.1 k5
      obtain ⟨p1, p2, p3⟩ := putO_map h5 g1' hw2 hb (ms' := ms) w2
      refine ⟨p3.trans g3, _, ?_, .undef, p1, p2⟩
      simp only [Builtin.delete_, ht, List.getElem?_toArray, List.getElem?_cons_zero, List.getElem?_cons_succ, Sem.run_bind, run_underlying' hu, Result.andThen_ok, run_getObj_map w1, keyOk_run (w := w) q3 hk, findKey_of hdk hfind, run_setObj_map _ w1, Sem.run_pure]
    | some p =>
      obtain ⟨j, e⟩ := p
      obtain ⟨m, f1, f2, f3, f4, f5⟩ := hfind
      obtain ⟨_, s6, h6, k6⟩ := bind_ok.1 k4
      obtain ⟨rfl, rfl⟩ := pure_ok.1 k6
      have he : ERels ρ (lerase j es) (ms.eraseIdxIfInBounds j).toList := by
        rw [lerase_eq]
        have e1 : (ms.eraseIdxIfInBounds j).toList = ms.toList.eraseIdx j := by simp
        rw [e1]
        refine ⟨by simp [List.length_eraseIdx, w2.1], fun i a d ha hd => ?_⟩
        rw [List.getElem?_eraseIdx] at ha hd
        by_cases q : i < j
        · rw [if_pos q] at ha hd; exact w2.2 _ a d ha hd
        · rw [if_neg q] at ha hd; exact w2.2 _ a d ha hd
      obtain ⟨p1, p2, p3⟩ := putO_map h6 g1' hw2 hb he
      refine ⟨p3.trans g3, _, ?_, .undef, p1, p2⟩
      simp only [Builtin.delete_, ht, List.getElem?_toArray, List.getElem?_cons_zero, List.getElem?_cons_succ, Sem.run_bind, run_underlying' hu, Result.andThen_ok, run_getObj_map w1, keyOk_run (w := w) q3 hk, findKey_of hdk f5, run_setObj_map _ w1, Sem.run_pure]
  | _ => exact (fail_ok.1 k1).elim
end
end Go.Proofs.YtcjjmflaaaddgaaGreatDoor.Am
/-
  The abstract machine's operations against the model's: len, cap, append, copy, make.
-/
set_option linter.unusedSimpArgs false
set_option linter.unusedVariables false
namespace Go.Proofs.YtcjjmflaaaddgaaGreatDoor.Am
open Go Go.RowKit

section
variable {B : Nat} {ρ : Rho} {w : World} {s t : AS} {P : Program}
theorem len_ok {ty : TypeId} {args : Array TypeId} {x v : AV} {x' : Value} (h : lenA P ty x s = .ok v t) (ht : args[0]? = some ty) (hx : VRel ρ x x') (hw : WRel B ρ s.heap w) (rt : TypeId) :
    t.heap = s.heap ∧ t.next = s.next ∧ ∃ u, (Builtin.len_ args rt #[x']).run P w = .ok u w ∧ VRel ρ v u := by
  unfold lenA at h
  obtain ⟨d, s1, h1, k1⟩ := bind_ok.1 h
  obtain ⟨hu, rfl⟩ := lift_ok.1 h1
  have g0 : (#[x'] : Array Value)[0]? = some x' := rfl
  split at k1
  · obtain ⟨rfl, rfl⟩ := pure_ok.1 k1
    cases hx with
    | str z =>
      refine ⟨rfl, rfl, .int .i64 z.size, ?_, ?_⟩
      · simp only [Builtin.len_, ht, g0, Sem.run_bind, run_underlying' hu, Result.andThen_ok, goInt, Sem.run_pure]
      · rw [llen_eq, List.length_map, Array.length_toList]; exact .int _ _
  · obtain ⟨rfl, rfl⟩ := pure_ok.1 k1
    cases hx
    exact ⟨rfl, rfl, _, by (simp only [Builtin.len_, ht, g0, Sem.run_bind, run_underlying' hu, Result.andThen_ok, goInt, Sem.run_pure]; try rfl), .int _ _⟩
  · obtain ⟨rfl, rfl⟩ := pure_ok.1 k1
    cases hx <;> exact ⟨rfl, rfl, _, by (simp only [Builtin.len_, ht, g0, Sem.run_bind, run_underlying' hu, Result.andThen_ok, goInt, Sem.run_pure]; try rfl), .int _ _⟩
  · obtain ⟨rfl, rfl⟩ := pure_ok.1 k1
    cases hx
    exact ⟨rfl, rfl, _, by (simp only [Builtin.len_, ht, g0, Sem.run_bind, run_underlying' hu, Result.andThen_ok, goInt, Sem.run_pure]; try rfl), .int _ _⟩
  · rename_i id
    obtain ⟨⟨es, c⟩, s2, h2, k2⟩ := bind_ok.1 k1
    obtain ⟨rfl, rfl⟩ := pure_ok.1 k2
    cases hx with
    | map _ b hb =>
      obtain ⟨g1, g2, g3⟩ := mapO_ok h2
      obtain ⟨_, ms, w1, w2⟩ := map_world g1 hw hb
      refine ⟨g2, g3, .int .i64 ms.size, ?_, ?_⟩
      · simp only [Builtin.len_, ht, g0, Sem.run_bind, run_underlying' hu, Result.andThen_ok, run_getObj_map w1, goInt, Sem.run_pure]
      · have : llen es = ms.size := by rw [llen_eq, w2.1, Array.length_toList]
        rw [this]; exact .int _ _
  · obtain ⟨rfl, rfl⟩ := pure_ok.1 k1
    exact ⟨rfl, rfl, _, by (simp only [Builtin.len_, ht, g0, Sem.run_bind, run_underlying' hu, Result.andThen_ok, goInt, Sem.run_pure]; try rfl), .int _ _⟩
  · exact (fail_ok.1 k1).elim
theorem cap_ok {ty : TypeId} {args : Array TypeId} {x v : AV} {x' : Value} (h : capA P ty x s = .ok v t) (ht : args[0]? = some ty) (hx : VRel ρ x x') (rt : TypeId) :
    t = s ∧ ∃ u, (Builtin.cap_ args rt #[x']).run P w = .ok u w ∧ VRel ρ v u := by
  unfold capA at h
  obtain ⟨d, s1, h1, k1⟩ := bind_ok.1 h
  obtain ⟨hu, rfl⟩ := lift_ok.1 h1
  have g0 : (#[x'] : Array Value)[0]? = some x' := rfl
  split at k1
  · obtain ⟨rfl, rfl⟩ := pure_ok.1 k1
    cases hx
    exact ⟨rfl, _, by (simp only [Builtin.cap_, ht, g0, Sem.run_bind, run_underlying' hu, Result.andThen_ok, goInt, Sem.run_pure]; try rfl), .int _ _⟩
  · obtain ⟨rfl, rfl⟩ := pure_ok.1 k1
    cases hx <;> first | omega | exact ⟨rfl, _, by (simp only [Builtin.cap_, ht, g0, Sem.run_bind, run_underlying' hu, Result.andThen_ok, goInt, Sem.run_pure]; try rfl), .int _ _⟩
  · exact (fail_ok.1 k1).elim
theorem minmax_ok (isMax : Bool) (rt : TypeId) : ∀ {l : List AV} {m : List Value} {x v : AV} {x' : Value}, minmaxA isMax x l = some v → VRel ρ x x' → VRels ρ l m →
    ∃ u, (m.foldlM (if isMax then Builtin.max2 else Builtin.min2) x').run P w = .ok u w ∧ VRel ρ v u
  | [], m, x, v, x', h, hx, hl => by
    cases hl
    have : v = x := by cases x <;> (simp only [minmaxA, Option.some.injEq] at h; exact h.symm)
    exact ⟨x', rfl, this ▸ hx⟩
  | y :: l, m, x, v, x', h, hx, hl => by
    unfold minmaxA at h
    split at h
    · rename_i e; cases e
    · rename_i k a j b r e
      cases e
      cases hl with
      | cons _ y' _ m hy hl' =>
        cases hx; cases hy
        obtain ⟨u, r1, r2⟩ := minmax_ok isMax rt h (.int _ _) hl'
        refine ⟨u, ?_, r2⟩
        rw [List.foldlM_cons]
        simp only [Sem.run_bind]
        cases isMax with
        | true =>
          simp only [if_true] at r1 ⊢
          simp only [Builtin.max2, Sem.run_pure, Result.andThen_ok]
          simp only [intLt_eq] at r1
          rw [← r1]
          by_cases q : a < b <;> simp [q]
        | false =>
          simp only [Bool.false_eq_true, if_false] at r1 ⊢
          simp only [Builtin.min2, Sem.run_pure, Result.andThen_ok]
          simp only [intLt_eq] at r1
          rw [← r1]
          by_cases q : b < a <;> simp [q]
    · cases h
theorem cell?_heap {w w2 : World} (h : w2.heap = w.heap) (a : Addr) : w2.cell? a = w.cell? a := by simp [World.cell?, h]
/-- What is appended or copied. -/
theorem source_ok {size n : Nat} {x : AV} {x' : Value} {cs : List AV} (h : sourceA size x s = .ok (n, cs) t) (hx : VRel ρ x x') (hw : WRel B ρ s.heap w) :
    t.heap = s.heap ∧ t.next = s.next ∧ (Builtin.lenOf x').run P w = .ok n w ∧ ∃ us : List Value, us.length = cs.length ∧ VRels ρ cs us ∧ (∀ w2 : World, w2.heap = w.heap → ∀ m, m ≤ n → (Builtin.firstCells size m x').run P w2 = .ok (us.take (m * size)).toArray w2) ∧ (∀ v ∈ cs, v.one = true) ∧
      cs.length = n * size := by
  unfold sourceA at h
  split at h
  · obtain ⟨e, rfl⟩ := pure_ok.1 h
    cases e; cases hx
    refine ⟨rfl, rfl, rfl, [], rfl, .nil, fun w2 hh m hm => ?_, fun v hv => by simp at hv, by simp⟩
    simp [Builtin.firstCells]
  · rename_i id off len ex cap
    obtain ⟨l, s2, h2, k2⟩ := bind_ok.1 h
    obtain ⟨e, rfl⟩ := pure_ok.1 k2
    cases e
    obtain ⟨c, s3, h3, k3⟩ := bind_ok.1 h2
    obtain ⟨rfl, rfl⟩ := pure_ok.1 k3
    cases hx with
    | sliceX _ _ _ _ b base hb hl =>
      obtain ⟨_, _, _, _, _, _, _, _, _, e1, e2⟩ := readR_ok h3 hw
      obtain ⟨us, hul, hv, hc, hone⟩ := readR_vals h3 hw hb
      refine ⟨e1, e2, rfl, us, hv.length.symm, hv, fun w2 hh m hm => ?_, hone, by rw [hv.length, hul]⟩
      show _ = Result.ok (us.take (m * size)).toArray w2
      have hml : m * size ≤ us.length := by rw [hul]; exact Nat.mul_le_mul_right _ hm
      have := run_loadCells_list (P := P) w2 ⟨b, base + off, none⟩ (us.take (m * size)) (fun j u hu => (cell?_heap hh _).trans <| hc j u (by
        rw [List.getElem?_take] at hu; split at hu; exact hu; cases hu))
      rw [List.length_take, Nat.min_eq_left hml] at this
      exact this
    | sliceA _ _ _ _ _ b base c' hb hc' hl hz hsz =>
      obtain ⟨_, _, _, _, _, _, _, _, _, e1, e2⟩ := readR_ok h3 hw
      obtain ⟨us, hul, hv, hc, hone⟩ := readR_vals h3 hw hb
      refine ⟨e1, e2, rfl, us, hv.length.symm, hv, fun w2 hh m hm => ?_, hone, by rw [hv.length, hul]⟩
      show _ = Result.ok (us.take (m * size)).toArray w2
      have hml : m * size ≤ us.length := by rw [hul]; exact Nat.mul_le_mul_right _ hm
      have := run_loadCells_list (P := P) w2 ⟨b, base + off, none⟩ (us.take (m * size)) (fun j u hu => (cell?_heap hh _).trans <| hc j u (by
        rw [List.getElem?_take] at hu; split at hu; exact hu; cases hu))
      rw [List.length_take, Nat.min_eq_left hml] at this
      exact this
    | sliceE _ _ _ a =>
      obtain ⟨b, base, _, hb, _, _, _, hx', _, e1, e2⟩ := readR_ok h3 hw
      rw [Nat.zero_mul] at hx'
      rw [hx', List.take_zero]
      refine ⟨e1, e2, rfl, [], rfl, .nil, fun w2 hh m hm => ?_, fun v hv => by simp at hv, by simp⟩
      have hm0 : m = 0 := by omega
      subst hm0
      simp [Builtin.firstCells, loadCells, loadCellsFrom]
  · rename_i str
    rw [beq_nat] at h
    by_cases hs1 : size = 1
    case neg => rw [decide_eq_false hs1] at h; cases h
    rw [decide_eq_true hs1, cond_true] at h
    subst hs1
    obtain ⟨e, rfl⟩ := pure_ok.1 h
    cases e
    cases hx with
    | str z =>
      have hz : z.data.toList.length = z.size := by rw [Array.length_toList]; rfl
      refine ⟨rfl, rfl, by rw [llen_eq, List.length_map, hz]; rfl, z.data.toList.map fun b => .int .u8 b.toNat, by simp, ?_, fun w2 hh m hm => ?_, ?_, ?_⟩
      · rw [List.map_map]
        generalize z.data.toList = l
        induction l with
        | nil => exact .nil
        | cons a l ih => exact .cons _ _ _ _ (.int _ _) ih
      · show _ = Result.ok (List.take (m * 1) _).toArray w2
        rw [Nat.mul_one, ← List.map_take]
        simp only [Builtin.firstCells, Sem.run_pure]
        congr 1
        apply Array.ext'
        rw [Array.toList_map, Lib.extract_data]
        simp
      · intro v hv; rw [List.mem_map] at hv; obtain ⟨_, _, rfl⟩ := hv; rfl
      · show _ = _ * 1; simp
  · exact (fail_ok.1 h).elim
end
end Go.Proofs.YtcjjmflaaaddgaaGreatDoor.Am
/-
  The abstract machine's append against the model's.
-/
set_option linter.unusedSimpArgs false
set_option linter.unusedVariables false
namespace Go.Proofs.YtcjjmflaaaddgaaGreatDoor.Am
open Go Go.RowKit

theorem growBy_le (n : Nat) : ∀ r c, Builtin.growBy n r c ≤ max c (2 * n + 192)
  | 0, c => by unfold Builtin.growBy; omega
  | r + 1, c => by
    unfold Builtin.growBy
    split
    · omega
    · have := growBy_le n r (c + (c + 768) / 4); omega
theorem nextcap_le (n c : Nat) (h : c < n) : Builtin.nextslicecap n c ≤ 2 * n + 192 := by
  unfold Builtin.nextslicecap
  split
  · omega
  · split
    · omega
    · have := growBy_le n 4 c; omega
section
variable {B : Nat} {ρ : Rho} {w : World} {s t : AS} {P : Program}
theorem newGrown_ok {elem : TypeId} {vs : List AV} {C : Array Value} {lo hi id : Nat} (h : newGrown elem vs lo hi s = .ok id t) (hw : WRel B ρ s.heap w) (hf : Fresh ρ s.next t.next) (hc : vs.length ≤ C.size)
    (hv : ∀ (i : Nat) v, vs[i]? = some v → ∃ u, C[i]? = some u ∧ VRel ρ v u) :
    Post B ρ s.next t.next t.heap w (w.alloc (.cells C elem)) (ρ.addS id w.heap.size 0 C.size) ∧ (ρ.addS id w.heap.size 0 C.size) id = some (w.heap.size, 0) ∧ t.next = s.next + 1 := by
  unfold newGrown at h
  obtain ⟨_, s1, h1, k1⟩ := bind_ok.1 h
  obtain ⟨q1, rfl⟩ := check_ok.1 h1
  rw [lall_eq, List.all_eq_true] at q1
  have key : ∀ ρ', ρ.le ρ' → ORel ρ' (w.alloc (.cells C elem)) w.heap.size 0 (.cells vs (llen vs) elem lo hi false) := fun ρ' hle =>
    ⟨⟨C, (0, 0), heap_new _ _, by omega, fun i v hi => let ⟨u, hu, hr⟩ := hv i v hi; ⟨u, by simpa using hu, hr.mono hle⟩, Nat.le_refl _, .inl rfl, fun e => by cases e⟩, by simp, q1⟩
  obtain ⟨r1, r2, r3, _⟩ := new_allocS k1 hw hf _ C.size key (fun C' e fr q => by cases q; exact Nat.le_refl _)
  exact ⟨r1, r2, r3⟩
/-- Both types of an append. -/
theorem appendOf?_run {ts : Array TypeId} {elem : TypeId} {size : Nat} (h : appendOf? P ts = some (elem, size)) :
    ∃ st xt d i z, ts[0]? = some st ∧ ts[1]? = some xt ∧ P.underlying st = some (.slice elem) ∧ P.underlying xt = some d ∧ (∀ k, d ≠ .int k) ∧ P.info? elem = some i ∧ i.size = size ∧ 1 ≤ size ∧ 1 ≤ i.bytes ∧ i.bytes ≤ 65536 ∧ zeroOf? P elem = some z ∧ z.cells.length = size := by
  unfold appendOf? at h
  split at h
  · rename_i st xt h0 h1
    split at h
    · cases h
    · rename_i e size' bytes d hne he hd
      split at h
      · rename_i z hz
        simp only [ble_nat, beq_nat, llen_eq] at h
        by_cases hc : ((1 ≤ size' ∧ 1 ≤ bytes) ∧ bytes ≤ 65536) ∧ z.cells.length = size'
        · have : (decide (1 ≤ size') && decide (1 ≤ bytes) && decide (bytes ≤ 65536) && decide (z.cells.length = size')) = true := by simp [hc.1.1.1, hc.1.1.2, hc.1.2, hc.2]
          rw [this, cond_true] at h
          cases h
          obtain ⟨hu, i, hi, h2, h3⟩ := elemOf?_run he
          exact ⟨st, xt, d, i, z, h0, h1, hu, hd, fun k e => hne k e, hi, h2, hc.1.1.1, by omega, by omega, hz, hc.2⟩
        · have : (decide (1 ≤ size') && decide (1 ≤ bytes) && decide (bytes ≤ 65536) && decide (z.cells.length = size')) = false := by
            rw [Bool.eq_false_iff]; simp only [ne_eq, Bool.and_eq_true, decide_eq_true_eq]; exact hc
          rw [this] at h; cases h
      · cases h
    · cases h
  · cases h
/-- What the model's append does, where there is room. -/
theorem run_append_room {ts : Array TypeId} {rt elem : TypeId} {size len c n : Nat} {base : Option Addr} {x' : Value} {us : List Value} {w' : World} (hap : appendOf? P ts = some (elem, size)) (hlen : (Builtin.lenOf x').run P w = .ok n w)
    (hcells : (Builtin.firstCells size n x').run P w = .ok us.toArray w) (hc : len + n ≤ c)
    (hst : match base with | none => w' = w | some a => (storeCells (a.add (len * size)) us).run P w = .ok () w') : (Builtin.append_ ts rt #[.slice base len c, x']).run P w = .ok (.slice base (len + n) c) w' := by
  obtain ⟨st, xt, d, i, z, h0, h1, hu, hd, hne, hi, hs, _⟩ := appendOf?_run hap
  have hz : (d matches .int _) = false := by cases d <;> first | rfl | exact absurd rfl (hne _)
  have g0 : (#[.slice base len c, x'] : Array Value)[0]? = some (.slice base len c) := rfl
  have g1 : (#[.slice base len c, x'] : Array Value)[1]? = some x' := rfl
  simp only [Builtin.append_, h0, h1, g0, g1, Sem.run_bind, run_underlying' hu, Result.andThen_ok, Go.sizeOf, run_info' hi, hs, Sem.run_pure, run_underlying' hd, hz, Bool.false_eq_true, if_false, hlen, Bool.not_false, if_true, hc, hcells]
  cases base with
  | none => simp only at hst; subst hst; rfl
  | some a => simp only at hst; simp only [Sem.run_bind, hst, Result.andThen_ok, Sem.run_pure]
theorem run_append_grow {ts : Array TypeId} {rt elem : TypeId} {size len c n : Nat} {base : Option Addr} {x' : Value} {us old : List Value} (hap : appendOf? P ts = some (elem, size)) (hlen : (Builtin.lenOf x').run P w = .ok n w)
    (hcells : ∀ w2 : World, w2.heap = w.heap → (Builtin.firstCells size n x').run P w2 = .ok us.toArray w2) (hc : c < len + n) (hn : len + n ≤ smallLen)
    (hold : ∀ w2 : World, w2.heap = w.heap → (Builtin.firstCells size len (.slice base len c)).run P w2 = .ok old.toArray w2) :
    ∃ (rest : Array Value) (cap : Nat), len + n ≤ cap ∧ rest.size = (cap - (len + n)) * size ∧ (Builtin.append_ ts rt #[.slice base len c, x']).run P w = .ok (.slice (some ⟨w.heap.size, 0, none⟩) (len + n) cap) (w.drew.alloc (.cells (old.toArray ++ us.toArray ++ rest) elem)) := by
  obtain ⟨st, xt, d, i, z, h0, h1, hu, hd, hne, hi, hs, _, hb1, hb2, hzero, hzl⟩ := appendOf?_run hap
  have hz : (d matches .int _) = false := by cases d <;> first | rfl | exact absurd rfl (hne _)
  have g0 : (#[.slice base len c, x'] : Array Value)[0]? = some (.slice base len c) := rfl
  have g1 : (#[.slice base len c, x'] : Array Value)[1]? = some x' := rfl
  unfold smallLen at hn
  have hmax : ¬ (((len + n : Nat) : Int) > IntKind.i64.max ∧ (false = true ∨ i.bytes = 0)) := fun h => by have := h.2; simp at this; omega
  have hbig : ¬ Builtin.nextslicecap (len + n) c * i.bytes > 2 ^ 48 := by
    have h1 := nextcap_le (len + n) c hc
    have h2 : Builtin.nextslicecap (len + n) c * i.bytes ≤ 40000000 * 65536 := Nat.mul_le_mul (by omega) hb2
    omega
  obtain ⟨zu, hzr, hzv⟩ := zeroOf?_run (ρ := ⟨fun _ => none, fun _ => 0⟩) (w := w.drew) hzero
  refine ⟨Builtin.zeroCells zu.cells (len + n + w.tape w.drawn (.appendCap (len + n) c elem) % (2 ^ 63 - (len + n)) - (len + n)), len + n + w.tape w.drawn (.appendCap (len + n) c elem) % (2 ^ 63 - (len + n)), Nat.le_add_right _ _, ?_, ?_⟩
  · have e : z.cells.length = zu.cells.size := by simpa using hzv.cells.length
    rw [size_zeroCells, ← e, hzl, show ∀ a b : Nat, a + b - a = b from fun a b => by omega]
  simp only [Builtin.append_, h0, h1, g0, g1, Sem.run_bind, run_underlying' hu, Result.andThen_ok, Go.sizeOf, run_info' hi, hs, Sem.run_pure, run_underlying' hd, hz, Bool.false_eq_true, if_false, hlen, Bool.not_false, if_true]
  rw [if_neg (by omega)]
  simp only [Sem.run_bind, run_info' hi, Result.andThen_ok]
  rw [if_neg (by simpa using hmax)]
  simp only [Sem.run_bind, run_info' hi, Result.andThen_ok, Sem.run_pure]
  rw [if_neg hbig]
  simp only [Sem.run_bind, run_choose, Question.forced, Question.cut, Bool.false_eq_true, if_false, Result.andThen_ok, run_info' hi, run_askRoom, World.drew_eq, hold w.drew rfl, hcells w.drew rfl, hzr, newRow, run_newObj, Sem.run_pure, World.alloc_eq, World.size_drew]
end
end Go.Proofs.YtcjjmflaaaddgaaGreatDoor.Am
/-
  The abstract machine's append against the model's: whatever the capacity.
-/
set_option linter.unusedSimpArgs false
set_option linter.unusedVariables false
namespace Go.Proofs.YtcjjmflaaaddgaaGreatDoor.Am
open Go Go.RowKit

section
variable {B : Nat} {ρ : Rho} {w : World} {s t : AS} {P : Program}
theorem size_of {old us : List Value} {rest : Array Value} {cap l n size : Nat} (hcap : l + n ≤ cap) (hr : rest.size = (cap - (l + n)) * size) (ho : old.length = l * size) (hu : us.length = n * size) : 0 + 0 + cap * size ≤ (old.toArray ++ us.toArray ++ rest).size := by
  rw [Array.size_append, Array.size_append, List.size_toArray, List.size_toArray, hr, ho, hu, ← Nat.add_mul, ← Nat.add_mul]
  apply Nat.le_of_eq
  rw [show l + n + (cap - (l + n)) = cap by omega]; omega
/-- The object is no more. -/
theorem kill_ok {id : Nat} {x : Unit} {o : AO} (h : putO id .dead s = .ok x t) (hg : s.heap.get id = some o) (hl : o.live = true) (hw : WRel B ρ s.heap w) {b base : Nat} (hb : ρ id = some (b, base)) {w' : World} (hs : w'.heap.size = w.heap.size) (hk : ∀ k, k ≠ b → w'.heap[k]? = w.heap[k]?) (hroom : ∀ C e fr, w'.heap[b]? = some (.cells C e fr) → ρ.sz b ≤ C.size) :
    WRel B ρ t.heap w' ∧ t.next = s.next ∧ own0 ≤ id ∧ ∀ m, t.heap.get m = if m = id then some .dead else s.heap.get m := by
  unfold putO at h
  cases ho : ownB id with
  | false => rw [ho] at h; cases h
  | true =>
    rw [ho, cond_true] at h
    injection h with _ h3
    obtain ⟨hid, hid2⟩ := own_of ho
    have hget : ∀ m, t.heap.get m = if m = id then some .dead else s.heap.get m := by rw [← h3]; exact fun m => Trie.get_set 32 _ _ _ m hid2
    exact ⟨hw.update hid hg hl hb hget hs hk (fun e => by cases e) hroom, by rw [← h3], hid, hget⟩
theorem append_ok {ts : Array TypeId} {rt : TypeId} {sv x v : AV} {s' x' : Value} (h : appendA P ts sv x s = .ok v t) (hs : VRel ρ sv s') (hx : VRel ρ x x') (hw : WRel B ρ s.heap w) (hf : Fresh ρ s.next t.next) :
    ∃ ρ' w' u, (Builtin.append_ ts rt #[s', x']).run P w = .ok u w' ∧ VRel ρ' v u ∧ Post B ρ s.next t.next t.heap w w' ρ' := by
  unfold appendA at h
  obtain ⟨⟨elem, size⟩, s1, h1, k1⟩ := bind_ok.1 h
  obtain ⟨hap, rfl⟩ := lift_ok.1 h1
  obtain ⟨⟨n, new⟩, s2, h2, k2⟩ := bind_ok.1 k1
  obtain ⟨e1, e2, hlen, us, hul, hus, hcells, hone, hnl⟩ := source_ok (P := P) h2 hx hw
  have hw2 : WRel B ρ s2.heap w := e1 ▸ hw
  have hper : ∀ w2 : World, w2.heap = w.heap → (Builtin.firstCells size n x').run P w2 = .ok us.toArray w2 := fun w2 hh => by
    have := hcells w2 hh n (Nat.le_refl _)
    rwa [List.take_of_length_le (by omega)] at this
  have hsz1 : 0 < size := by obtain ⟨_, _, _, _, _, _, _, _, _, _, _, _, h, _⟩ := appendOf?_run hap; exact h
  cases sv with
  | nilSlice =>
    cases hs
    simp only [beq_nat] at k2
    by_cases hn : n = 0
    · rw [decide_eq_true hn, cond_true] at k2
      obtain ⟨rfl, rfl⟩ := pure_ok.1 k2
      subst hn
      refine ⟨ρ, w, _, run_append_room hap hlen (hper w rfl) (Nat.le_refl _) rfl, .nilSlice, ?_⟩
      rw [e2]; exact Post.same hw2
    · rw [decide_eq_false hn, cond_false] at k2
      obtain ⟨_, s3, h3, k3⟩ := bind_ok.1 k2
      obtain ⟨q3, rfl⟩ := check_ok.1 h3
      obtain ⟨id, s4, h4, k4⟩ := bind_ok.1 k3
      obtain ⟨rfl, rfl⟩ := pure_ok.1 k4
      rw [ble_nat, decide_eq_true_eq] at q3
      obtain ⟨rest, cap, hcap, hcsz, hrun⟩ := run_append_grow (rt := rt) (base := none) (len := 0) (c := 0) (old := []) hap hlen hper (by omega) (by omega) (fun w2 hh => by simp [Builtin.firstCells])
      have hwd : WRel B ρ s2.heap w.drew := hw2.heap rfl
      obtain ⟨r1, r2, _⟩ := newGrown_ok (C := (([] : List Value).toArray ++ us.toArray ++ rest)) h4 hwd (by rw [e2]; exact hf) (by simp; omega) (fun i v hv => by
        obtain ⟨u, hu, hr⟩ := hus.get i v hv
        refine ⟨u, ?_, hr⟩
        have hi : i < us.length := (List.getElem?_eq_some_iff.1 hu).1
        rw [Array.getElem?_append_left (by simpa using hi)]
        simpa using hu)
      refine ⟨ρ.addS id w.drew.heap.size 0 (([] : List Value).toArray ++ us.toArray ++ rest).size, _, _, hrun, ?_, ?_⟩
      · rw [Nat.zero_add] at hcap ⊢
        refine .sliceA _ 0 n _ n _ 0 cap r2 hcap hcap hsz1 ?_
        rw [Rho.addS_sz, World.size_drew, if_pos rfl]
        exact size_of (l := 0) (by simpa using hcap) (by simpa using hcsz) (by simp) (hul.trans hnl)
      · rw [← e2]; exact ⟨r1.ext, r1.new, r1.rel, ((Below.refl B w).drew).trans r1.below⟩
  | slice id off len ex cap =>
    obtain ⟨_, s3, h3, k3⟩ := bind_ok.1 k2
    obtain ⟨q3, rfl⟩ := check_ok.1 h3
    rw [ble_nat, decide_eq_true_eq] at q3
    rw [ble_nat] at k3
    by_cases hroom : len + n ≤ cap
    · -- surely there is room
      rw [decide_eq_true hroom, cond_true] at k3
      obtain ⟨_, s4, h4, k4⟩ := bind_ok.1 k3
      obtain ⟨rfl, rfl⟩ := pure_ok.1 k4
      cases hs with
      | sliceX _ _ _ _ b base hb hl =>
        obtain ⟨w', r1, r2, r3, r4⟩ := writeR_ok (P := P) h4 hw2 hus hb
        refine ⟨ρ, w', _, run_append_room (w' := w') hap hlen (hper w rfl) hroom ?_, .sliceX _ _ _ _ _ _ hb hroom, ?_⟩
        · simp only [Addr.add_plain]; rw [Nat.add_assoc]; exact r1
        · exact ⟨Rho.le.refl _, fun _ a b => absurd a b, r2, r3⟩
      | sliceA _ _ _ _ _ b base c hb hc hl hz hs0 =>
        obtain ⟨w', r1, r2, r3, r4⟩ := writeR_ok (P := P) h4 hw2 hus hb
        refine ⟨ρ, w', _, run_append_room (w' := w') hap hlen (hper w rfl) (by omega) ?_, .sliceA _ _ _ _ _ _ _ _ hb hc (by omega) hz hs0, ?_⟩
        · simp only [Addr.add_plain]; rw [Nat.add_assoc]; exact r1
        · exact ⟨Rho.le.refl _, fun _ a b => absurd a b, r2, r3⟩
      | sliceE _ _ _ a =>
        have hn0 : n = 0 := by omega
        subst hn0
        have hnew : us = [] := by
          have : new.length = 0 := by rw [hnl, Nat.zero_mul]
          cases us with | nil => rfl | cons => simp at hul; omega
        subst hnew
        have hid : ∃ b base, ρ id = some (b, base) := by
          unfold writeR at h4
          split at h4
          · rename_i c len e lo hi wh hget
            by_cases hid : id < own0
            · exact ⟨_, _, hw2.glob id hid⟩
            · obtain ⟨b, base, hb, _⟩ := hw2.obj id _ (by omega) hget rfl; exact ⟨b, base, hb⟩
          · cases h4
        obtain ⟨b, base, hb⟩ := hid
        obtain ⟨w', r1, r2, r3, r4⟩ := writeR_ok (P := P) h4 hw2 hus hb
        have hww : w' = w := by have : (Result.ok () w : Result Unit) = .ok () w' := r1; cases this; rfl
        subst hww
        refine ⟨ρ, w', _, run_append_room (w' := w') hap hlen (hper w' rfl) (Nat.le_refl _) rfl, .sliceE _ _ _ _, ?_⟩
        exact ⟨Rho.le.refl _, fun _ a b => absurd a b, r2, r3⟩
    · rw [decide_eq_false hroom, cond_false, beq_nat] at k3
      by_cases hn : n = 0
      · -- nothing is appended
        rw [decide_eq_true hn, cond_true] at k3
        obtain ⟨rfl, rfl⟩ := pure_ok.1 k3
        subst hn
        have hnew : us = [] := by
          have : new.length = 0 := by rw [hnl, Nat.zero_mul]
          cases us with | nil => rfl | cons => simp at hul; omega
        subst hnew
        cases hs with
        | sliceX _ _ _ _ b base hb hl => omega
        | sliceE _ _ _ a => omega
        | sliceA _ _ _ _ _ b base c hb hc hl hz hs0 =>
          refine ⟨ρ, w, _, run_append_room (w' := w) hap hlen (hper w rfl) (by omega) rfl, .sliceA _ _ _ _ _ _ _ _ hb hc hl hz hs0, ?_⟩
          rw [e2]; exact Post.same hw2
      · rw [decide_eq_false hn, cond_false] at k3
        obtain ⟨bc, s4, h4, k4⟩ := bind_ok.1 k3
        obtain ⟨_, s5, h5, k5⟩ := bind_ok.1 k4
        obtain ⟨q5, rfl⟩ := check_ok.1 h5
        rw [Bool.and_eq_true, beq_nat, decide_eq_true_eq] at q5
        obtain ⟨hbe, hown⟩ := q5
        obtain ⟨hid, _⟩ := own_of hown
        obtain ⟨b, base, c0, hb, hget, hclen, hcle, hbc, hcell, f1, f2⟩ := readR_ok h4 hw2
        have hw4 : WRel B ρ s4.heap w := f1 ▸ hw2
        obtain ⟨old, hol, hold, hoc, holdone⟩ := readR_vals h4 hw2 hb
        -- the model makes a new row
        have grow : ∀ (a : Addr) (c : Nat), c < len + n → (∀ w2 : World, w2.heap = w.heap → (Builtin.firstCells size len (.slice (some a) len c)).run P w2 = .ok old.toArray w2) → ∀ (q : AS), q.next = s.next → WRel B ρ q.heap w → ∀ lo hi id', newGrown elem (lapp bc.c new) lo hi q = .ok id' t →
            ∃ ρ' w' u, (Builtin.append_ ts rt #[.slice (some a) len c, x']).run P w = .ok u w' ∧ VRel ρ' (.slice id' 0 (len + n) size (len + n)) u ∧ Post B ρ s.next t.next t.heap w w' ρ' := by
          intro a c hc hfc q hqn hwq lo hi id' hng
          obtain ⟨rest, cap', hcap, hcsz, hrun⟩ := run_append_grow (rt := rt) (base := some a) hap hlen hper hc q3 hfc
          obtain ⟨r1, r2, _⟩ := newGrown_ok (C := (old.toArray ++ us.toArray ++ rest)) hng (hwq.heap (w' := w.drew) rfl) (by rw [hqn]; exact hf) (by simp [hold.length, hus.length]) (fun i v hv => by
            rw [lapp_eq] at hv
            obtain ⟨u, hu, hr⟩ := (hold.append hus).get i v hv
            refine ⟨u, ?_, hr⟩
            have hi : i < (old ++ us).length := (List.getElem?_eq_some_iff.1 hu).1
            rw [Array.getElem?_append_left (by simpa using hi)]
            rw [List.append_toArray, List.getElem?_toArray]; exact hu)
          refine ⟨ρ.addS id' w.drew.heap.size 0 (old.toArray ++ us.toArray ++ rest).size, _, _, hrun, .sliceA _ 0 _ _ _ _ 0 cap' r2 hcap hcap hsz1 ?_, ?_⟩
          · rw [Rho.addS_sz, World.size_drew, if_pos rfl]
            exact size_of hcap hcsz hol (hul.trans hnl)
          rw [← hqn]; exact ⟨r1.ext, r1.new, r1.rel, ((Below.refl B w).drew).trans r1.below⟩
        have hfc : ∀ c (w2 : World), w2.heap = w.heap → (Builtin.firstCells size len (.slice (some ⟨b, base + off, none⟩) len c)).run P w2 = .ok old.toArray w2 := fun c w2 hh => by
          have := run_loadCells_list (P := P) w2 ⟨b, base + off, none⟩ old (fun j u hu => (cell?_heap hh _).trans (hoc j u hu))
          rw [hol] at this; exact this
        rw [beq_nat] at k5
        by_cases hex0 : ex = 0
        · rw [decide_eq_true hex0, cond_true] at k5
          obtain ⟨id', s6, h6, k6⟩ := bind_ok.1 k5
          obtain ⟨rfl, rfl⟩ := pure_ok.1 k6
          cases hs with
          | sliceA _ _ _ _ _ b' base' c hb' hc hl hz hs0 => omega
          | sliceX _ _ _ _ b' base' hb' hl =>
            rw [hb] at hb'; cases hb'
            exact grow _ cap (by omega) (hfc cap) s4 (by rw [f2, e2]) hw4 _ _ _ h6
          | sliceE _ _ _ a =>
            refine grow a 0 (by omega) (fun w2 hh => ?_) s4 (by rw [f2, e2]) hw4 _ _ _ h6
            have : old = [] := by cases old with | nil => rfl | cons => simp at hol
            subst this
            simp [Builtin.firstCells, loadCells, loadCellsFrom]
        · rw [decide_eq_false hex0, cond_false] at k5
          obtain ⟨_, s6, h6, k6⟩ := bind_ok.1 k5
          obtain ⟨q6, rfl⟩ := check_ok.1 h6
          obtain ⟨_, s7, h7, k7⟩ := bind_ok.1 k6
          obtain ⟨id', s8, h8, k8⟩ := bind_ok.1 k7
          obtain ⟨rfl, rfl⟩ := pure_ok.1 k8
          have hget4 : s4.heap.get id = some (.cells c0 bc.len bc.e bc.lo bc.hi bc.whole) := by rw [f1]; exact hget
          have hkill : WRel B ρ s7.heap w ∧ s7.next = s4.next := by
            obtain ⟨a1, a2, _, _⟩ := kill_ok h7 hget4 rfl hw4 hb (w' := w) rfl (fun _ _ => rfl) (hw4.room b).2
            exact ⟨a1, a2⟩
          cases hs with
          | sliceE _ _ _ a =>
            refine grow a 0 (by omega) (fun w2 hh => ?_) s7 (by rw [hkill.2, f2, e2]) hkill.1 _ _ _ h8
            have : old = [] := by cases old with | nil => rfl | cons => simp at hol
            subst this
            simp [Builtin.firstCells, loadCells, loadCellsFrom]
          | sliceX _ _ _ _ b' base' hb' hl => exact absurd rfl hex0
          | sliceA _ _ _ _ _ b' base' c hb' hc hl hz hs0 =>
            rw [hb] at hb'; cases hb'
            by_cases hcr : len + n ≤ c
            · -- the model writes in place: the new object is the rest of the block
              simp only [ble_nat, beq_nat, Bool.and_eq_true, Bool.or_eq_true, decide_eq_true_eq] at q6
              obtain ⟨hex, hfz⟩ := q6
              rw [hex] at hs0
              obtain ⟨b', base', hb', ⟨C, fr, k1, k0, k2, k3, k4, k5⟩, k6, k7⟩ := hw4.obj id _ hid hget4 rfl
              rw [hb] at hb'; cases hb'
              have hun : us.length = n * size := hul.trans hnl
              have hCs := (hw4.room b).2 _ _ _ k1
              have hmul : (len + n) * size ≤ c * size := Nat.mul_le_mul_right _ hcr
              have hmul2 : (len + n) * size = len * size + n * size := Nat.add_mul _ _ _
              have hone' : ∀ u ∈ us, u.oneCell' = true := by
                intro u hu
                obtain ⟨j, hj⟩ := List.mem_iff_getElem?.1 hu
                have hjl : j < new.length := by rw [← hul]; exact (List.getElem?_eq_some_iff.1 hj).1
                obtain ⟨u', hu', hr⟩ := hus.get j new[j] (List.getElem?_eq_getElem hjl)
                rw [hj] at hu'; cases hu'
                exact hr.one (hone new[j] (List.getElem_mem hjl))
              obtain ⟨w', C', r1, r2, r3, r4, r5, r6, r7⟩ := run_storeCells (P := P) us (base + off + len * size) 0 w C k1 (by omega) hone' (by omega)
              obtain ⟨a1, a2, _, a4⟩ := kill_ok h7 hget4 rfl hw4 hb (w' := w') r6 r5 (fun C2 e2 fr2 q => by rw [r2] at q; cases q; rw [r3]; exact hCs)
              unfold newGrown at h8
              obtain ⟨_, s9, h9, k9⟩ := bind_ok.1 h8
              obtain ⟨q9, rfl⟩ := check_ok.1 h9
              rw [lall_eq, List.all_eq_true] at q9
              obtain ⟨g1, g2, g3, g4⟩ := newO_ok k9
              have hs7 : s7.next = s.next := by rw [a2, f2, e2]
              have hnone : ρ id' = none := hf id' (by omega) (by omega)
              have hle := ρ.le_add b (base + off) hnone
              refine ⟨ρ.add id' b (base + off), w', _, run_append_room (w' := w') hap hlen (hper w rfl) hcr (by simp only [Addr.add_plain]; exact r1), .sliceA _ 0 _ _ _ b (base + off) c (by simp [Rho.add_at]) hcr hcr hsz1 (by have := hle.2 b; omega), ?_⟩
              refine ⟨hle, fun i h0 h => ?_, ?_, r7.mono (hw.lt id b base hid hb).1⟩
              · rw [Rho.add_at] at h
                by_cases e : i = id'
                · omega
                · rw [if_neg e] at h; exact absurd h0 h
              · refine a1.new g3 hnone g4 (Nat.le_refl _) (hw4.lt id b base hid hb).1 (by rw [r6]; exact (hw4.lt id b base hid hb).2) (fun i x c' k hi hne hx hlx hc' => ?_) (fun _ _ _ => rfl) ?_ (Nat.le_refl _) (fun C2 e2 fr2 q => by rw [r2] at q; cases q; rw [r3]; exact hCs)
                · rw [a4] at hx
                  by_cases e : i = id
                  · rw [if_pos e] at hx; cases hx; cases hlx
                  · rw [if_neg e] at hx
                    exact hw4.apart i id x _ c' k b base hi hid e hx hget4 hlx rfl hc' hb
                · have hbcl : bc.c.length = len * size := by rw [hold.length, hol]
                  refine ⟨⟨C', fr, hbe ▸ r2, ?_, ?_, k3, ?_, fun e => by cases e⟩, by simp, q9⟩
                  · rw [lapp_eq, List.length_append, hbcl, hnl, r3]; omega
                  · intro i v hv
                    rw [lapp_eq] at hv
                    rw [r4]
                    by_cases q : i < len * size
                    · rw [if_neg (by omega)]
                      rw [List.getElem?_append_left (by omega), hbc] at hv
                      have hv' : c0[off + i]? = some v := by
                        rw [List.getElem?_take, if_pos q, List.getElem?_drop] at hv; exact hv
                      obtain ⟨u, hu, hr⟩ := k2 _ _ hv'
                      exact ⟨u, by rw [← hu]; congr 1; omega, hr.mono hle⟩
                    · rw [List.getElem?_append_right (by omega), hbcl] at hv
                      have hil : i - len * size < new.length := (List.getElem?_eq_some_iff.1 hv).1
                      rw [if_pos (by omega)]
                      obtain ⟨u, hu, hr⟩ := hus.get _ v hv
                      exact ⟨u, by rw [← hu]; congr 1; omega, hr.mono hle⟩
                  · omega
            · exact grow _ c (by omega) (hfc c) s7 (by rw [hkill.2, f2, e2]) hkill.1 _ _ _ h8
  | _ => exact (fail_ok.1 k2).elim
end
end Go.Proofs.YtcjjmflaaaddgaaGreatDoor.Am
/-
  The abstract machine's copy, make, type assertion, unsafe.SliceData against the model's.
-/
set_option linter.unusedSimpArgs false
set_option linter.unusedVariables false
namespace Go.Proofs.YtcjjmflaaaddgaaGreatDoor.Am
open Go Go.RowKit

section
variable {B : Nat} {ρ : Rho} {w : World} {s t : AS} {P : Program}
/-- No cell is written. -/
theorem writeR_none {id off : Nat} (h : writeR id off [] s = .ok () t) (hw : WRel B ρ s.heap w) : WRel B ρ t.heap w ∧ t.next = s.next := by
  have hid : ∃ b base, ρ id = some (b, base) := by
    unfold writeR at h
    split at h
    · rename_i c len e lo hi wh hget
      by_cases hid : id < own0
      · exact ⟨_, _, hw.glob id hid⟩
      · obtain ⟨b, base, hb, _⟩ := hw.obj id _ (by omega) hget rfl; exact ⟨b, base, hb⟩
    · cases h
  obtain ⟨b, base, hb⟩ := hid
  obtain ⟨w', r1, r2, r3, r4⟩ := writeR_ok (P := default) h hw .nil hb
  have hww : w' = w := by have : (Result.ok () w : Result Unit) = .ok () w' := r1; cases this; rfl
  subst hww
  exact ⟨r2, r4⟩
theorem copy_ok {ty rt : TypeId} {args : Array TypeId} (ht : args[0]? = some ty) {d x v : AV} {d' x' : Value} (h : copyA P ty d x s = .ok v t) (hd : VRel ρ d d') (hx : VRel ρ x x') (hw : WRel B ρ s.heap w) :
    t.next = s.next ∧ ∃ w' u, (Builtin.copy_ args rt #[d', x']).run P w = .ok u w' ∧ VRel ρ v u ∧ WRel B ρ t.heap w' ∧ Below B w w' := by
  unfold copyA at h
  obtain ⟨⟨elem, size, bytes⟩, s1, h1, k1⟩ := bind_ok.1 h
  obtain ⟨q1, rfl⟩ := lift_ok.1 h1
  obtain ⟨⟨n, cs⟩, s2, h2, k2⟩ := bind_ok.1 k1
  obtain ⟨e1, e2, hlen, us, hul, hus, hcells, hone, hnl⟩ := source_ok (P := P) h2 hx hw
  obtain ⟨hu, i, hi, hsz, _⟩ := elemOf?_run q1
  have hw2 : WRel B ρ s2.heap w := e1 ▸ hw
  have g0 : (#[d', x'] : Array Value)[0]? = some d' := rfl
  have g1 : (#[d', x'] : Array Value)[1]? = some x' := rfl
  have hrun : ∀ (base : Option Addr) (len c : Nat) (w' : World), (match base with | none => w' = w | some a => (storeCells a (us.take (min n len * size))).run P w = .ok () w') → d' = .slice base len c →
      (Builtin.copy_ args rt #[d', x']).run P w = .ok (.int .i64 (min n len : Nat)) w' := by
    intro base len c w' hst hd'
    subst hd'
    have hc := hcells w rfl (min n len) (Nat.min_le_left _ _)
    have hm : Nat.min n len = min n len := rfl
    cases base with
    | none =>
      simp only at hst; subst hst
      simp only [Builtin.copy_, ht, g0, g1, Sem.run_bind, run_underlying' hu, Result.andThen_ok, hlen, Go.sizeOf, run_info' hi, Sem.run_pure, hsz, hm, hc, goInt]
    | some a =>
      simp only at hst
      simp only [Builtin.copy_, ht, g0, g1, Sem.run_bind, run_underlying' hu, Result.andThen_ok, hlen, Go.sizeOf, run_info' hi, Sem.run_pure, hsz, hm, hc, goInt, hst]
  cases d with
  | nilSlice =>
    obtain ⟨rfl, rfl⟩ := pure_ok.1 k2
    cases hd
    refine ⟨e2, w, _, hrun none 0 0 w rfl rfl, ?_, hw2, Below.refl _ _⟩
    rw [Nat.min_zero]; exact .int _ _
  | slice id off len ex cap =>
    obtain ⟨_, s3, h3, k3⟩ := bind_ok.1 k2
    obtain ⟨rfl, rfl⟩ := pure_ok.1 k3
    rw [ltake_eq] at h3
    have key : ∀ b base, ρ id = some (b, base) → ∃ w', (storeCells ⟨b, base + off, none⟩ (us.take (min n len * size))).run P w = .ok () w' ∧ WRel B ρ s3.heap w' ∧ Below B w w' ∧ s3.next = s2.next := fun b base hb =>
      writeR_ok (P := P) h3 hw2 (hus.take _) hb
    cases hd with
    | sliceX _ _ _ _ b base hb hl =>
      obtain ⟨w', r1, r2, r3, r4⟩ := key b base hb
      exact ⟨by rw [r4, e2], w', _, hrun _ _ _ w' r1 rfl, .int _ _, r2, r3⟩
    | sliceA _ _ _ _ _ b base c hb hc hl hz hs0 =>
      obtain ⟨w', r1, r2, r3, r4⟩ := key b base hb
      exact ⟨by rw [r4, e2], w', _, hrun _ _ _ w' r1 rfl, .int _ _, r2, r3⟩
    | sliceE _ _ _ a =>
      rw [Nat.min_zero, Nat.zero_mul, List.take_zero] at h3
      obtain ⟨r2, r4⟩ := writeR_none h3 hw2
      refine ⟨by rw [r4, e2], w, _, hrun (some a) 0 0 w ?_ rfl, .int _ _, r2, Below.refl _ _⟩
      rw [Nat.min_zero, Nat.zero_mul, List.take_zero]; rfl
  | _ => exact (fail_ok.1 k2).elim
theorem makeSlice_ok {ty : TypeId} {l c v : AV} {l' c' : Value} (h : makeSliceA P ty l c s = .ok v t) (hl : VRel ρ l l') (hc : VRel ρ c c') (hw : WRel B ρ s.heap w) (hf : Fresh ρ s.next t.next) :
    ∃ ρ' w' u, (Instr.makeSlice ty l' c').run P w = .ok u w' ∧ VRel ρ' v u ∧ Post B ρ s.next t.next t.heap w w' ρ' := by
  unfold makeSliceA at h
  obtain ⟨⟨elem, size, bytes⟩, s1, h1, h⟩ := bind_ok.1 h
  obtain ⟨q1, rfl⟩ := lift_ok.1 h1
  obtain ⟨z, s2, h2, h⟩ := bind_ok.1 h
  obtain ⟨q2, rfl⟩ := lift_ok.1 h2
  split at h
  · rename_i kl l kc c _ _
    obtain ⟨_, s3, h3, h⟩ := bind_ok.1 h
    obtain ⟨q3, rfl⟩ := check_ok.1 h3
    obtain ⟨id, s5, h5, h⟩ := bind_ok.1 h
    obtain ⟨rfl, rfl⟩ := pure_ok.1 h
    simp only [beq_nat, ble_nat, llen_eq, Bool.and_eq_true, decide_eq_true_eq] at q3
    obtain ⟨⟨⟨⟨p1, p2⟩, p3⟩, p4⟩, p5⟩ := q3
    obtain ⟨hu, i, hi, hsz, hby⟩ := elemOf?_run q1
    obtain ⟨zu, hz, hzr⟩ := zeroOf?_run (ρ := ρ) (w := w) q2
    obtain ⟨r1, r2, _, _⟩ := newCells_ok h5 hw hf (zeros_rel hzr.cells c size p5 (by omega))
    cases hl; cases hc
    refine ⟨_, _, .slice (some ⟨w.heap.size, 0, none⟩) l c, ?_, .sliceX _ 0 l c _ 0 r2 p1, r1⟩
    have wl : IntKind.i64.wrap (Int.ofNat l) = (l : Int) := Go.IntWalk.i64_in _ (by simp only [Int.ofNat_eq_natCast]; omega)
    have wc : IntKind.i64.wrap (Int.ofNat c) = (c : Int) := Go.IntWalk.i64_in _ (by simp only [Int.ofNat_eq_natCast]; omega)
    have hb1 : ¬ ((i.bytes : Int) * (c : Int) > 2 ^ 48) := by
      have : i.bytes * c ≤ 65536 * 65536 := Nat.mul_le_mul (by omega) p2
      have : ((i.bytes * c : Nat) : Int) ≤ ((65536 * 65536 : Nat) : Int) := by exact_mod_cast this
      rw [Int.natCast_mul] at this
      omega
    simp only [Instr.makeSlice, Sem.run_bind, run_underlying' hu, Result.andThen_ok, Go.sizeOf, run_info' hi, hsz, Sem.run_pure, asInt, asIntOf]
    rw [wl, wc, if_neg (by simp only [Bool.or_eq_true, decide_eq_true_eq]; omega)]
    simp only [Sem.run_bind, Sem.run_pure, Result.andThen_ok, run_askRoom, Int.toNat_natCast, run_info' hi, hsz]
    by_cases h0 : c * size = 0
    · have e : ((Array.range (c * size)).map fun x => (#[] : Array Value)[x % (#[] : Array Value).size]!) = (Array.range (c * size)).map (zu.cells[· % zu.cells.size]!) := by rw [h0]; simp
      rw [if_pos h0]
      simp only [Sem.run_pure, Result.andThen_ok, e, newRow, Sem.run_bind, run_newObj]
      rfl
    · rw [if_neg h0]
      simp only [Sem.run_bind, hz, Sem.run_pure, Result.andThen_ok, newRow, run_newObj]
      rfl
  · exact (fail_ok.1 h).elim
theorem typeAssert_ok {ty xt : TypeId} {ok : Bool} {x v : AV} {x' : Value} (h : typeAssertA P x ty ok s = .ok v t) (hx : VRel ρ x x') : t = s ∧ ∃ u, (Instr.typeAssert x' xt ty ok).run P w = .ok u w ∧ VRel ρ v u := by
  unfold typeAssertA at h
  obtain ⟨d, s1, h1, k1⟩ := bind_ok.1 h
  obtain ⟨hu, rfl⟩ := lift_ok.1 h1
  split at k1
  · exact (fail_ok.1 k1).elim
  · rename_i hd
    obtain ⟨_, s2, h2, k2⟩ := bind_ok.1 k1
    obtain ⟨rfl, rfl⟩ := check_ok.1 h2
    obtain ⟨z, s3, h3, k3⟩ := bind_ok.1 k2
    obtain ⟨q3, rfl⟩ := lift_ok.1 h3
    obtain ⟨rfl, rfl⟩ := pure_ok.1 k3
    obtain ⟨zu, hz, hzr⟩ := zeroOf?_run (ρ := ρ) (w := w) q3
    cases hx
    refine ⟨rfl, .tuple #[zu, .bool false], ?_, .tuple _ _ (.cons _ _ _ _ hzr (.cons _ _ _ _ (.bool _) .nil))⟩
    cases d <;> first | exact absurd rfl (hd _) | simp only [Instr.typeAssert, Sem.run_bind, run_underlying' hu, Result.andThen_ok, if_true, hz, Sem.run_pure]
  · rename_i ty' y hd
    cases hx with
    | iface _ _ u hv =>
      rw [beq_nat] at k1
      by_cases e : ty' = ty
      · rw [decide_eq_true e, cond_true] at k1
        obtain ⟨rfl, rfl⟩ := pure_ok.1 k1
        cases ok with
        | true =>
          refine ⟨rfl, .tuple #[u, .bool true], ?_, .tuple _ _ (.cons _ _ _ _ hv (.cons _ _ _ _ (.bool _) .nil))⟩
          cases d <;> first | exact absurd rfl (hd _) | (simp only [Instr.typeAssert, Sem.run_bind, run_underlying' hu, Result.andThen_ok, if_true, e, Sem.run_pure])
        | false =>
          refine ⟨rfl, u, ?_, hv⟩
          cases d <;> first | exact absurd rfl (hd _) | (simp only [Instr.typeAssert, Sem.run_bind, run_underlying' hu, Result.andThen_ok, if_true, e, Sem.run_pure]; rfl)
      · rw [decide_eq_false e, cond_false] at k1
        obtain ⟨_, s2, h2, k2⟩ := bind_ok.1 k1
        obtain ⟨rfl, rfl⟩ := check_ok.1 h2
        obtain ⟨z, s3, h3, k3⟩ := bind_ok.1 k2
        obtain ⟨q3, rfl⟩ := lift_ok.1 h3
        obtain ⟨rfl, rfl⟩ := pure_ok.1 k3
        obtain ⟨zu, hz, hzr⟩ := zeroOf?_run (ρ := ρ) (w := w) q3
        refine ⟨rfl, .tuple #[zu, .bool false], ?_, .tuple _ _ (.cons _ _ _ _ hzr (.cons _ _ _ _ (.bool _) .nil))⟩
        cases d <;> first | exact absurd rfl (hd _) | simp only [Instr.typeAssert, Sem.run_bind, run_underlying' hu, Result.andThen_ok, if_true, if_neg e, hz, Sem.run_pure]
  · exact (fail_ok.1 k1).elim
theorem sliceData_ok {ts : Array TypeId} {rt : TypeId} {x v : AV} {x' : Value} (h : sliceDataA x s = .ok v t) (hx : VRel ρ x x') : t = s ∧ ∃ u, (Builtin.unsafeSliceData_ ts rt #[x']).run P w = .ok u w ∧ VRel ρ v u := by
  unfold sliceDataA at h
  split at h
  · obtain ⟨rfl, rfl⟩ := pure_ok.1 h
    cases hx
    exact ⟨rfl, _, rfl, .nilPtr⟩
  · rename_i id off len ex cap
    rw [beq_nat] at h
    by_cases hc : cap = 0
    · rw [decide_eq_true hc] at h; cases h
    · rw [decide_eq_false hc, cond_false] at h
      obtain ⟨rfl, rfl⟩ := pure_ok.1 h
      cases hx with
      | sliceX _ _ _ _ b base hb hl => exact ⟨rfl, _, Lib.run_unsafeSliceData_row _ _ _ _ _ _ hc, .ptr _ _ _ _ hb⟩
      | sliceA _ _ _ _ _ b base c hb hcc hl hz hs0 => exact ⟨rfl, _, Lib.run_unsafeSliceData_row _ _ _ _ _ _ (by omega), .ptr _ _ _ _ hb⟩
      | sliceE _ _ _ a => exact absurd rfl hc
  · exact (fail_ok.1 h).elim
end
end Go.Proofs.YtcjjmflaaaddgaaGreatDoor.Am
/-
  The abstract machine's conversions and unsafe.String against the model's.
-/
set_option linter.unusedSimpArgs false
set_option linter.unusedVariables false
namespace Go.Proofs.YtcjjmflaaaddgaaGreatDoor.Am
open Go Go.RowKit

section
variable {B : Nat} {ρ : Rho} {w : World} {s t : AS} {P : Program}
theorem bytesOfA_ok : ∀ {cs : List AV} {us : List Value} {l : List Nat}, bytesOfA cs = some l → VRels ρ cs us → ∃ bs : List UInt8, l = bs.map UInt8.toNat ∧ us = bs.map fun b => .int .u8 (b.toNat : Int)
  | [], us, l, h, hv => by cases h; cases hv; exact ⟨[], rfl, rfl⟩
  | x :: r, us, l, h, hv => by
    cases hv with
    | cons _ u _ m h1 h2 =>
      unfold bytesOfA at h
      split at h
      · rename_i e; cases e
      · rename_i n r' e
        cases e
        cases hr : bytesOfA r with
        | none => rw [hr] at h; cases h
        | some l' =>
          rw [hr] at h
          simp only [ble_nat] at h
          by_cases hn : n ≤ 255
          · rw [decide_eq_true hn, cond_true] at h
            cases h
            obtain ⟨bs, e1, e2⟩ := bytesOfA_ok hr h2
            cases h1
            have hb : (UInt8.ofNat n).toNat = n := by simp; omega
            exact ⟨UInt8.ofNat n :: bs, by simp [hb, e1], by simp [hb, e2]⟩
          · rw [decide_eq_false hn] at h; cases h
      · cases h
theorem freezeR_ok {id off n : Nat} (h : freezeR id off n s = .ok () t) (hw : WRel B ρ s.heap w) {b base : Nat} (hb : ρ id = some (b, base)) (hn : n ≠ 0) :
    WRel B ρ t.heap (w.freeze ⟨b, base + off, none⟩ n) ∧ Below B w (w.freeze ⟨b, base + off, none⟩ n) ∧ t.next = s.next := by
  unfold freezeR at h
  split at h
  · rename_i c len e lo hi wh hget
    generalize hc : (ownB id && Nat.ble (off + n) len) = q at h
    cases q with
    | false => cases h
    | true =>
      rw [cond_true] at h
      injection h with _ h2
      simp only [ble_nat, Bool.and_eq_true, decide_eq_true_eq] at hc
      obtain ⟨hown, hle⟩ := hc
      obtain ⟨hid, hid2⟩ := own_of hown
      obtain ⟨b', base', hb', ⟨C, fr, k1, k0, k2, k3, k4, k5⟩, k6, k7⟩ := hw.obj id _ hid hget rfl
      rw [hb] at hb'; cases hb'
      have hfz : w.freeze ⟨b, base + off, none⟩ n = { w with heap := w.heap.modify b fun
        | .cells c elem (lo, hi) => .cells c elem (if lo == hi then (base + off, base + off + n) else (min lo (base + off), max hi (base + off + n)))
        | o => o } := by unfold World.freeze; rw [if_neg hn]; rfl
      have hkeep : ∀ k, k ≠ b → (w.freeze ⟨b, base + off, none⟩ n).heap[k]? = w.heap[k]? := fun k hk => by
        rw [hfz]; simp only [Array.getElem?_modify]; rw [if_neg (Ne.symm hk)]
      have hsz : (w.freeze ⟨b, base + off, none⟩ n).heap.size = w.heap.size := by rw [hfz]; simp
      have hnew : (w.freeze ⟨b, base + off, none⟩ n).heap[b]? = some (.cells C e (if fr.1 == fr.2 then (base + off, base + off + n) else (min fr.1 (base + off), max fr.2 (base + off + n)))) := by
        rw [hfz]; simp only [Array.getElem?_modify, if_true, k1, Option.map_some]
      refine ⟨?_, Lib.below_freeze (Below.refl B w) (hw.lt id b base hid hb).1 n, by rw [← h2]⟩
      rw [← h2]
      refine hw.update hid hget rfl hb (fun m => Trie.get_set 32 _ _ _ m hid2) hsz hkeep (fun hl => ?_) (fun C2 e2 fr2 q => by rw [hnew] at q; cases q; exact (hw.room b).2 _ _ _ k1)
      rw [beq_nat]
      by_cases q : lo = hi
      · rw [decide_eq_true q, cond_true]
        refine ⟨⟨C, _, hnew, k0, k2, ?_, ?_, k5⟩, k6, k7⟩
        · have : fr.1 = fr.2 := by omega
          simp only [this, beq_self_eq_true, if_true]; omega
        · have : fr.1 = fr.2 := by omega
          simp only [this, beq_self_eq_true, if_true]; omega
      · rw [decide_eq_false q, cond_false]
        refine ⟨⟨C, _, hnew, k0, k2, ?_, ?_, k5⟩, k6, k7⟩
        · by_cases q2 : fr.1 = fr.2
          · simp only [q2, beq_self_eq_true, if_true]; omega
          · simp only [beq_iff_eq, q2, if_false]; omega
        · by_cases q2 : fr.1 = fr.2
          · simp only [q2, beq_self_eq_true, if_true]; omega
          · simp only [beq_iff_eq, q2, if_false]; omega
  · cases h
/-- So many variables of one cell each lie there. -/
theorem liesAt_ones {e u : TypeId} {count off n : Nat} (hc : P.cellsOf e = 1) (hu : P.underlyingId e = P.underlyingId u) (hn : off + n ≤ count) : liesAt P P.depth e count off u n = true := by
  have hd : P.depth = (2 * (P.types.size + Made.depth) + 1) + 1 := rfl
  rw [hd]
  simp only [liesAt, Bool.or_eq_true]
  left
  rw [hd]
  simp [rowAt, hc, hn, sameLayout, hu, Nat.mod_one]
theorem unsafeString_def (args : Array TypeId) (rt : TypeId) (p : Option Addr) (n' : Value) : Builtin.unsafeString_ args rt #[.pointer p, n'] =
    (do
      let n ← asInt n'
      let some pt := args[0]? | stuck "unsafe.String: no argument types"
      if n < 0 then runtimePanic (.error "unsafe.String: len out of range")
      if n > IntKind.i64.max then unsupported (.unsafePointer "String: a length above the largest int")
      match p with
      | none =>
        if n = 0 then pure (.string .empty)
        else runtimePanic (.error "unsafe.String: ptr is nil and len is not zero")
      | some a =>
        if n = 0 then pure (.string .empty)
        else if ← variablesAt a (← elemOf pt) n.toNat then do
          let s ← loadBytes a .empty n.toNat
          freeze a n.toNat
          pure (.string s)
        else unsupported (.unsafePointer "String: not so many bytes at ptr")) := rfl
theorem unsafeString_ok {pt rt : TypeId} {args : Array TypeId} (ht : args[0]? = some pt) {x n v : AV} {x' n' : Value} (h : unsafeStringA P pt x n s = .ok v t) (hx : VRel ρ x x') (hn : VRel ρ n n') (hw : WRel B ρ s.heap w) :
    t.next = s.next ∧ ∃ w' u, (Builtin.unsafeString_ args rt #[x', n']).run P w = .ok u w' ∧ VRel ρ v u ∧ WRel B ρ t.heap w' ∧ Below B w w' := by
  have hmax : IntKind.i64.max = 9223372036854775807 := rfl
  have hemp : VRel ρ (.str []) (.string .empty) := .str .empty
  unfold unsafeStringA at h
  split at h
  · obtain ⟨_, s2, h2, k2⟩ := bind_ok.1 h
    obtain ⟨q2, rfl⟩ := check_ok.1 h2
    obtain ⟨rfl, rfl⟩ := pure_ok.1 k2
    rw [beq_nat, decide_eq_true_eq] at q2
    subst q2
    cases hx; cases hn
    refine ⟨rfl, w, _, ?_, hemp, hw, Below.refl _ _⟩
    rw [unsafeString_def]; simp [ht, asInt, asIntOf, hmax]
  · rename_i id off k m
    rw [beq_nat] at h
    cases hx with
    | ptr _ _ b base hb =>
    cases hn
    by_cases hm : m = 0
    · rw [decide_eq_true hm, cond_true] at h
      obtain ⟨rfl, rfl⟩ := pure_ok.1 h
      subst hm
      refine ⟨rfl, w, _, ?_, hemp, hw, Below.refl _ _⟩
      rw [unsafeString_def]; simp [ht, asInt, asIntOf, hmax]
    · rw [decide_eq_false hm, cond_false] at h
      obtain ⟨d, s2, h2, k2⟩ := bind_ok.1 h
      obtain ⟨hu, rfl⟩ := lift_ok.1 h2
      split at k2
      · rename_i u
        obtain ⟨bc, s3, h3, k3⟩ := bind_ok.1 k2
        obtain ⟨_, s4, h4, k4⟩ := bind_ok.1 k3
        obtain ⟨q4, rfl⟩ := check_ok.1 h4
        obtain ⟨l, s5, h5, k5⟩ := bind_ok.1 k4
        obtain ⟨q5, rfl⟩ := lift_ok.1 h5
        obtain ⟨_, s6, h6, k6⟩ := bind_ok.1 k5
        obtain ⟨rfl, rfl⟩ := pure_ok.1 k6
        simp only [beq_nat, ble_nat, Bool.and_eq_true, decide_eq_true_eq] at q4
        obtain ⟨⟨⟨q1, q2⟩, hown⟩, q3⟩ := q4
        obtain ⟨hid, _⟩ := own_of hown
        obtain ⟨_, _, c0, hb', hget, hclen, hcle, hbc, hcell, f1, f2⟩ := readR_ok h3 hw
        rw [hb] at hb'; cases hb'
        obtain ⟨us, hul, hus, hc, hone⟩ := readR_vals h3 hw hb
        obtain ⟨bs, e1, e2⟩ := bytesOfA_ok q5 hus
        obtain ⟨_, _, hb', ⟨C, fr, k1, k0, _, _, _, _⟩, _, _⟩ := hw.obj id _ hid hget rfl
        rw [hb] at hb'; cases hb'
        obtain ⟨r1, r2, r3⟩ := freezeR_ok h6 (f1 ▸ hw) hb hm
        have hsh : w.shape? b = some (bc.e, C.size) := by simp [World.shape?, k1]
        have hbl : bs.length = m := by rw [← hul, e2, List.length_map]
        have hlies : liesAt P P.depth bc.e (C.size / P.cellsOf bc.e) (base + off) u m = true := liesAt_ones q1 q2 (by rw [q1, Nat.div_one]; omega)
        have hlb := Lib.run_loadBytes (P := P) w bs ⟨b, base + off, none⟩ .empty (fun j y hy => hc j _ (by rw [e2, List.getElem?_map, hy]; rfl))
        rw [hbl] at hlb
        unfold smallLen at q3
        refine ⟨by rw [r3, f2], w.freeze ⟨b, base + off, none⟩ m, .string ⟨bs.toArray⟩, ?_, ?_, r1, r2⟩
        · have m1 : ¬ ((m : Int) < 0) := by omega
          have m2 : ¬ ((m : Int) > IntKind.i64.max) := by rw [hmax]; omega
          have m3 : ¬ ((m : Int) = 0) := by omega
          have hva : (variablesAt ⟨b, base + off, none⟩ u m).run P w = .ok true w := by simp [variablesAt, hsh, hlies]
          have hel : (elemOf pt).run P w = .ok u w := by simp [elemOf, run_underlying' hu]
          have hlb' : (loadBytes ⟨b, base + off, none⟩ ByteArray.empty m).run P w = .ok ⟨bs.toArray⟩ w := by rw [hlb]; simp
          rw [unsafeString_def]
          simp [ht, asInt, asIntOf, m1, m2, m3, hva, hel, hlb', hm, hmax]
          omega
        · have e : l = (ByteArray.mk bs.toArray).data.toList.map UInt8.toNat := by rw [e1]
          rw [e]; exact .str _
      · exact (fail_ok.1 k2).elim
  · exact (fail_ok.1 h).elim
theorem loadBytes_cells {bs : List UInt8} {b o : Nat} {cap : Nat} (hc : ∀ j u, (bs.map fun b => (Value.int .u8 (b.toNat : Int)))[j]? = some u → w.cell? ((⟨b, o, none⟩ : Addr).add j) = some u) :
    (Conv.bytesToString (.slice (some ⟨b, o, none⟩) bs.length cap)).run P w = .ok (.string ⟨bs.toArray⟩) w := by
  have h1 := run_loadCells_list (P := P) w ⟨b, o, none⟩ (bs.map fun b => (Value.int .u8 (b.toNat : Int))) hc
  rw [List.length_map] at h1
  have e : (bs.map fun b => (Value.int .u8 (b.toNat : Int))) = (bs.map fun b => (b.toNat : Int)).map (Value.int .u8) := by rw [List.map_map]; rfl
  rw [run_bytesToString w _ _ cap (bs.map fun b => (b.toNat : Int)) (by rw [h1, e]), foldl_push_bytes]
  congr 2
  apply ByteArray.ext
  simp only [List.map_map]
  have e2 : bs.map ((fun n : Int => UInt8.ofNat n.toNat) ∘ fun b : UInt8 => (b.toNat : Int)) = bs := by
    conv => rhs; rw [← List.map_id bs]
    exact List.map_congr_left fun b _ => by simp
  rw [e2]; simp
theorem convert_ok {src dst : TypeId} {x v : AV} {x' : Value} (h : convertA P src dst x s = .ok v t) (hx : VRel ρ x x') (hw : WRel B ρ s.heap w) :
    t.heap = s.heap ∧ t.next = s.next ∧ ∃ u, (convert src dst x').run P w = .ok u w ∧ VRel ρ v u := by
  unfold convertA at h
  obtain ⟨d1, s1, h1, k1⟩ := bind_ok.1 h
  obtain ⟨hs, rfl⟩ := lift_ok.1 h1
  obtain ⟨d2, s2, h2, k2⟩ := bind_ok.1 k1
  obtain ⟨hd, rfl⟩ := lift_ok.1 h2
  clear h h1 h2 k1
  have hshape : ∀ {id off n b base : Nat} {bc : Cells} {s' : AS}, readR id off n s = .ok bc s' → ownB id = true → ρ id = some (b, base) →
      ∃ C : Array Value, w.shape? b = some (bc.e, C.size) ∧ base + off + n ≤ C.size ∧ (bc.whole = true → base = 0 ∧ C.size = bc.len) ∧ s'.heap = s.heap ∧ s'.next = s.next := by
    intro id off n b base bc s' hr hown hb
    obtain ⟨hid, _⟩ := own_of hown
    obtain ⟨_, _, c0, hb', hget, hclen, hcle, _, _, f1, f2⟩ := readR_ok hr hw
    rw [hb] at hb'; cases hb'
    obtain ⟨_, _, hb', ⟨C, fr, k1, k0, _, _, _, k5⟩, k6, _⟩ := hw.obj id _ hid hget rfl
    rw [hb] at hb'; cases hb'
    exact ⟨C, by simp [World.shape?, k1], by omega, fun e => ⟨(k5 e).1, by rw [(k5 e).2, hclen]⟩, f1, f2⟩
  split at k2
  · -- a nil pointer
    obtain ⟨rfl, rfl⟩ := pure_ok.1 k2
    cases hx
    refine ⟨rfl, rfl, _, ?_, .nilPtr⟩
    simp only [convert, Conv.unsafePointer, Sem.run_bind, run_underlying' hs, run_underlying' hd, Result.andThen_ok, Sem.run_pure]
  · rename_i id off
    obtain ⟨n, s3, h3, k3⟩ := bind_ok.1 k2
    obtain ⟨q3, rfl⟩ := lift_ok.1 h3
    obtain ⟨bc, s4, h4, k4⟩ := bind_ok.1 k3
    obtain ⟨_, s5, h5, k5⟩ := bind_ok.1 k4
    obtain ⟨q5, rfl⟩ := check_ok.1 h5
    obtain ⟨rfl, rfl⟩ := pure_ok.1 k5
    simp only [beq_nat, Bool.and_eq_true, Bool.not_eq_true', decide_eq_false_iff_not] at q5
    cases hx with
    | ptr _ _ b base hb =>
      obtain ⟨C, r1, r2, _, r4, r5⟩ := hshape h4 q5.2 hb
      obtain ⟨_, i, hi, hsz⟩ := sizeOf?_run (w := w) q3
      exact ⟨r4, r5, _, Lib.run_to_unsafe w ⟨b, base + off, none⟩ hs hd hi (by rw [hsz]; exact q5.1) r1 (by show base + off < _; omega), .ptr _ _ _ _ hb⟩
  · obtain ⟨rfl, rfl⟩ := pure_ok.1 k2
    cases hx
    refine ⟨rfl, rfl, _, ?_, .nilPtr⟩
    simp only [convert, Conv.unsafePointer, Sem.run_bind, run_underlying' hs, run_underlying' hd, Result.andThen_ok, Sem.run_pure]
  · rename_i u id off
    obtain ⟨bc, s4, h4, k4⟩ := bind_ok.1 k2
    obtain ⟨n, s3, h3, k3⟩ := bind_ok.1 k4
    obtain ⟨q3, rfl⟩ := lift_ok.1 h3
    obtain ⟨_, s5, h5, k5⟩ := bind_ok.1 k3
    obtain ⟨q5, rfl⟩ := check_ok.1 h5
    obtain ⟨rfl, rfl⟩ := pure_ok.1 k5
    simp only [Bool.and_eq_true] at q5
    cases hx with
    | ptr _ _ b base hb =>
      obtain ⟨C, r1, r2, r3, r4, r5⟩ := hshape h4 q5.1.2 hb
      obtain ⟨rfl, r6⟩ := r3 q5.1.1
      obtain ⟨_, i, hi, hsz⟩ := sizeOf?_run (w := w) q3
      exact ⟨r4, r5, _, Lib.run_from_unsafe w ⟨b, 0 + off, none⟩ hs hd hi r1 (by rw [r6, Nat.zero_add]; exact q5.2), .ptr _ _ _ _ hb⟩
  · obtain ⟨rfl, rfl⟩ := pure_ok.1 k2
    cases hx
    refine ⟨rfl, rfl, _, ?_, .int _ _⟩
    rw [wrapA_eq]
    simp only [convert, Conv.intToInt, Sem.run_bind, run_underlying' hs, run_underlying' hd, Result.andThen_ok, Sem.run_pure]
  · obtain ⟨rfl, rfl⟩ := pure_ok.1 k2
    cases hx with
    | str z =>
      refine ⟨rfl, rfl, _, ?_, .str z⟩
      simp only [convert, Sem.run_bind, run_underlying' hs, run_underlying' hd, Result.andThen_ok, Sem.run_pure]
  · obtain ⟨rfl, rfl⟩ := pure_ok.1 k2
    cases hx
    refine ⟨rfl, rfl, _, ?_, .str _⟩
    simp only [convert, Conv.intToString, Sem.run_bind, run_underlying' hs, run_underlying' hd, Result.andThen_ok, Sem.run_pure]
  · rename_i e
    obtain ⟨d3, s3, h3, k3⟩ := bind_ok.1 k2
    obtain ⟨q3, rfl⟩ := lift_ok.1 h3
    split at k3
    · obtain ⟨rfl, rfl⟩ := pure_ok.1 k3
      cases hx
      refine ⟨rfl, rfl, .string .empty, ?_, .str .empty⟩
      rw [run_convert_bytes_string w src dst e none 0 0 hs q3 hd]
      rfl
    · exact (fail_ok.1 k3).elim
  · rename_i e id off len ex cap
    obtain ⟨d3, s3, h3, k3⟩ := bind_ok.1 k2
    obtain ⟨q3, rfl⟩ := lift_ok.1 h3
    split at k3
    · obtain ⟨cs, s4, h4, k4⟩ := bind_ok.1 k3
      obtain ⟨l, s5, h5, k5⟩ := bind_ok.1 k4
      obtain ⟨q5, rfl⟩ := lift_ok.1 h5
      obtain ⟨rfl, rfl⟩ := pure_ok.1 k5
      obtain ⟨bc, s6, h6, k6⟩ := bind_ok.1 h4
      obtain ⟨rfl, rfl⟩ := pure_ok.1 k6
      obtain ⟨_, _, _, hbb, _, _, _, hx0, _, f1, f2⟩ := readR_ok h6 hw
      have fin : ∀ b base c, ρ id = some (b, base) → ∃ u, (convert src dst (.slice (some ⟨b, base + off, none⟩) len c)).run P w = .ok u w ∧ VRel ρ (.str l) u := by
        intro b base c hb
        obtain ⟨us, hul, hus, hc, hone⟩ := readR_vals h6 hw hb
        obtain ⟨bs, e1, e2⟩ := bytesOfA_ok q5 hus
        have hbl : bs.length = len := by rw [← hul, e2, List.length_map]
        refine ⟨.string ⟨bs.toArray⟩, ?_, by rw [e1]; exact .str ⟨bs.toArray⟩⟩
        rw [run_convert_bytes_string w src dst e _ len c hs q3 hd, ← hbl]
        exact loadBytes_cells (by rw [← e2]; exact hc)
      cases hx with
      | sliceX _ _ _ _ b base hb hl => exact ⟨f1, f2, fin b base cap hb⟩
      | sliceA _ _ _ _ _ b base c hb hc hl hz hs0 => exact ⟨f1, f2, fin b base c hb⟩
      | sliceE _ _ _ a =>
        rw [List.take_zero] at hx0
        rw [hx0] at q5
        cases q5
        refine ⟨f1, f2, .string .empty, ?_, .str .empty⟩
        rw [run_convert_bytes_string w src dst e _ 0 0 hs q3 hd]
        have := run_bytesToString (P := P) w a 0 0 [] (by simp [loadCells, loadCellsFrom])
        exact this
    · exact (fail_ok.1 k3).elim
  · exact (fail_ok.1 k2).elim
end
end Go.Proofs.YtcjjmflaaaddgaaGreatDoor.Am
/-
  What a computation of the abstract machine reads and writes: elsewhere it looks at nothing and changes nothing.
-/
set_option linter.unusedSimpArgs false
set_option linter.unusedVariables false
namespace Go.Proofs.YtcjjmflaaaddgaaGreatDoor.Am
open Go Go.RowKit

inductive KV where
  | none
  | info (len : Nat) (e : TypeId) (lo hi : Nat) (w : Bool)
  | other (o : AO)
  | cell (v : Option AV)
def view : Option AO → Nat → KV
  | some (.cells _ len e lo hi w), 0 => .info len e lo hi w
  | some (.cells c _ _ _ _ _), i + 1 => .cell c[i]?
  | some o, 0 => .other o
  | _, _ => .none
theorem view_ext {a b : Option AO} (h : ∀ k, view a k = view b k) : a = b := by
  have h0 := h 0
  cases a with
  | none =>
    cases b with
    | none => rfl
    | some o => cases o <;> cases h0
  | some o =>
    cases b with
    | none => cases o <;> cases h0
    | some o' =>
      cases o <;> cases o' <;> first | rfl | (simp only [view, KV.other.injEq] at h0; exact congrArg some h0) | (cases h0; done) | skip
      rename_i c l e lo hi w c' l' e' lo' hi' w'
      simp only [view, KV.info.injEq] at h0
      obtain ⟨rfl, rfl, rfl, rfl, rfl⟩ := h0
      have hc : c = c' := by
        apply List.ext_getElem?
        intro i
        have := h (i + 1)
        simp only [view, KV.cell.injEq] at this
        exact this
      rw [hc]
def AO.ok : AO → Prop
  | .cells c len _ _ _ _ => len = c.length
  | _ => True
def OkS (h : Trie AO) : Prop := ∀ id o, h.get id = some o → o.ok
def Acc.has (a : Acc) (id k : Nat) : Prop := a.id = id ∧ a.lo ≤ k ∧ (k < a.hi ∨ (a.lo = 0 ∧ cap30 ≤ a.hi))
def hasL (l : List Acc) (id k : Nat) : Prop := ∃ a ∈ l, a.has id k
theorem hasL_append {l m : List Acc} {id k : Nat} : hasL (l ++ m) id k ↔ hasL l id k ∨ hasL m id k := by
  unfold hasL
  constructor
  · rintro ⟨a, ha, h⟩
    rcases List.mem_append.1 ha with ha | ha
    · exact .inl ⟨a, ha, h⟩
    · exact .inr ⟨a, ha, h⟩
  · rintro (⟨a, ha, h⟩ | ⟨a, ha, h⟩)
    · exact ⟨a, List.mem_append_left _ ha, h⟩
    · exact ⟨a, List.mem_append_right _ ha, h⟩
theorem hasL_nil {id k : Nat} : ¬ hasL [] id k := fun ⟨_, h, _⟩ => by cases h
theorem has_all (id k : Nat) : (⟨id, 0, cap30⟩ : Acc).has id k := ⟨rfl, Nat.zero_le _, .inr ⟨rfl, Nat.le_refl _⟩⟩
theorem Acc.apart_spec {a b : Acc} (h : a.apart b = true) {id k : Nat} (ha : a.has id k) (hb : b.has id k) : False := by
  unfold Acc.apart at h
  obtain ⟨rfl, a1, a2⟩ := ha
  obtain ⟨e, b1, b2⟩ := hb
  simp only [beq_nat, ble_nat, Bool.or_eq_true, Bool.and_eq_true, Bool.not_eq_true', decide_eq_false_iff_not, decide_eq_true_eq] at h
  omega
structure Eff (s t : AS) (dr dw : List Acc) : Prop where
  next : s.next ≤ t.next
  reads : t.reads = dr ++ s.reads
  writes : t.writes = dw ++ s.writes
  keep : ∀ id k, ¬ hasL dw id k → view (t.heap.get id) k = view (s.heap.get id) k
  ok : OkS t.heap
def Good {α : Type} (m : SM α) : Prop := ∀ s v t, OkS s.heap → m s = .ok v t → ∃ dr dw, Eff s t dr dw ∧
  ∀ s', OkS s'.heap → s'.next = s.next → (∀ id k, hasL dr id k → view (s'.heap.get id) k = view (s.heap.get id) k) →
    ∃ t', m s' = .ok v t' ∧ Eff s' t' dr dw ∧ t'.next = t.next ∧ ∀ id k, hasL dw id k → view (t'.heap.get id) k = view (t.heap.get id) k

section
variable {α β : Type}
theorem Eff.same {s : AS} (h : OkS s.heap) : Eff s s [] [] := ⟨Nat.le_refl _, rfl, rfl, fun _ _ _ => rfl, h⟩
theorem Good.still {m : SM α} (h : ∀ s v t, m s = .ok v t → s = t ∧ ∀ s', m s' = .ok v s') : Good m := fun s v t hs hm => by
  obtain ⟨rfl, h2⟩ := h s v t hm
  exact ⟨[], [], .same hs, fun s' hs' hn _ => ⟨s', h2 s', .same hs', hn, fun _ _ h => (hasL_nil h).elim⟩⟩
theorem Good.pure (a : α) : Good (Pure.pure a : SM α) := .still fun s v t h => by
  obtain ⟨rfl, rfl⟩ := pure_ok.1 h; exact ⟨rfl, fun _ => rfl⟩
theorem Good.fail (n : Nat) : Good (SM.fail n : SM α) := .still fun s v t h => (fail_ok.1 h).elim
theorem Good.lift (n : Nat) (o : Option α) : Good (SM.lift n o) := .still fun s v t h => by
  obtain ⟨rfl, rfl⟩ := lift_ok.1 h; exact ⟨rfl, fun _ => rfl⟩
theorem Good.check (n : Nat) (b : Bool) : Good (SM.check n b) := .still fun s v t h => by
  obtain ⟨rfl, rfl⟩ := check_ok.1 h; exact ⟨rfl, fun _ => rfl⟩
theorem Good.bind {m : SM α} {f : α → SM β} (hm : Good m) (hf : ∀ a, Good (f a)) : Good (m >>= f) := fun s v t hs h => by
  obtain ⟨a, s1, h1, h2⟩ := bind_ok.1 h
  obtain ⟨dr1, dw1, e1, l1⟩ := hm s a s1 hs h1
  obtain ⟨dr2, dw2, e2, l2⟩ := hf a s1 v t e1.ok h2
  have comb : ∀ {s s1 t : AS}, Eff s s1 dr1 dw1 → Eff s1 t dr2 dw2 → Eff s t (dr2 ++ dr1) (dw2 ++ dw1) := fun e1 e2 =>
    ⟨Nat.le_trans e1.next e2.next, by rw [e2.reads, e1.reads, List.append_assoc], by rw [e2.writes, e1.writes, List.append_assoc],
      fun id k hk => (e2.keep id k fun q => hk (hasL_append.2 (.inl q))).trans (e1.keep id k fun q => hk (hasL_append.2 (.inr q))), e2.ok⟩
  refine ⟨dr2 ++ dr1, dw2 ++ dw1, comb e1 e2, fun s' hs' hn hr => ?_⟩
  obtain ⟨s1', g1, g2, g3, g4⟩ := l1 s' hs' hn fun id k q => hr id k (hasL_append.2 (.inr q))
  obtain ⟨t', g5, g6, g7, g8⟩ := l2 s1' g2.ok g3 fun id k q => by
    by_cases hw : hasL dw1 id k
    · exact g4 id k hw
    · rw [g2.keep id k hw, e1.keep id k hw]; exact hr id k (hasL_append.2 (.inl q))
  refine ⟨t', bind_ok.2 ⟨a, s1', g1, g5⟩, comb g2 g6, g7, fun id k q => ?_⟩
  by_cases hw : hasL dw2 id k
  · exact g8 id k hw
  · have hw1 : hasL dw1 id k := (hasL_append.1 q).resolve_left hw
    rw [g6.keep id k hw, e2.keep id k hw]
    exact g4 id k hw1
theorem Good.cond {c : Bool} {m m' : SM α} (h : Good m) (h' : Good m') : Good (cond c m m') := by cases c <;> assumption
theorem Good.mark {n : Nat} {m : SM α} (h : Good m) : Good (SM.mark n m) := fun s v t hs hm => by
  have key : ∀ s v t, SM.mark n m s = .ok v t ↔ m s = .ok v t := fun s v t => by
    unfold SM.mark; cases m s <;> simp
  obtain ⟨dr, dw, e, l⟩ := h s v t hs ((key _ _ _).1 hm)
  exact ⟨dr, dw, e, fun s' a b c => let ⟨t', g, r⟩ := l s' a b c; ⟨t', (key _ _ _).2 g, r⟩⟩
theorem getO_good (id : Nat) : Good (getO id) := fun s v t hs h => by
  unfold getO at h
  split at h
  · rename_i o ho
    cases h
    refine ⟨[⟨id, 0, cap30⟩], [], ⟨Nat.le_refl _, rfl, rfl, fun _ _ _ => rfl, hs⟩, fun s' hs' hn hr => ?_⟩
    have e : s'.heap.get id = s.heap.get id := view_ext fun k => hr id k ⟨_, List.mem_singleton_self _, has_all id k⟩
    refine ⟨⟨s'.heap, s'.next, ⟨id, 0, cap30⟩ :: s'.reads, s'.writes⟩, ?_, ⟨Nat.le_refl _, rfl, rfl, fun _ _ _ => rfl, hs'⟩, hn, fun _ _ h => (hasL_nil h).elim⟩
    unfold getO
    rw [e, ho]
  · cases h
theorem okS_set {h h' : Trie AO} {id : Nat} {o : AO} (hs : OkS h) (ho : o.ok) (hh : ∀ m, h'.get m = if m = id then some o else h.get m) : OkS h' := fun m x hx => by
  rw [hh] at hx
  by_cases e : m = id
  · rw [if_pos e] at hx; cases hx; exact ho
  · rw [if_neg e] at hx; exact hs m x hx
/-- A computation that sets one object anew. -/
theorem set_good {m : SM α} (h : ∀ s v t, m s = .ok v t → ∃ id o, o.ok ∧ s.next ≤ t.next ∧ t.reads = s.reads ∧ t.writes = ⟨id, 0, cap30⟩ :: s.writes ∧
    (∀ k, t.heap.get k = if k = id then some o else s.heap.get k) ∧ ∀ s', s'.next = s.next → ∃ t', m s' = .ok v t' ∧ t'.next = t.next ∧ s'.next ≤ t'.next ∧ t'.reads = s'.reads ∧ t'.writes = ⟨id, 0, cap30⟩ :: s'.writes ∧
      (∀ k, t'.heap.get k = if k = id then some o else s'.heap.get k)) : Good m := fun s v t hs hm => by
  obtain ⟨id, o, ho, h1, h2, h3, h4, h5⟩ := h s v t hm
  have hkeep : ∀ {s t : AS}, (∀ k, t.heap.get k = if k = id then some o else s.heap.get k) → ∀ i k, ¬ hasL [⟨id, 0, cap30⟩] i k → view (t.heap.get i) k = view (s.heap.get i) k := fun hg i k hk => by
    rw [hg, if_neg]; rintro rfl; exact hk ⟨_, List.mem_singleton_self _, has_all _ k⟩
  refine ⟨[], [⟨id, 0, cap30⟩], ⟨h1, h2, h3, hkeep h4, okS_set hs ho h4⟩, fun s' hs' hn _ => ?_⟩
  obtain ⟨t', g1, g2, g3, g4, g5, g6⟩ := h5 s' hn
  refine ⟨t', g1, ⟨g3, g4, g5, hkeep g6, okS_set hs' ho g6⟩, g2, fun i k hk => ?_⟩
  obtain ⟨a, ha, hh⟩ := hk
  rw [List.mem_singleton] at ha; subst ha
  obtain ⟨rfl, _⟩ := hh
  rw [h4, g6, if_pos rfl, if_pos rfl]
theorem putO_good (id : Nat) {o : AO} (ho : o.ok) : Good (putO id o) := set_good fun s v t h => by
  unfold putO at h
  cases hc : ownB id with
  | false => rw [hc] at h; cases h
  | true =>
    obtain ⟨_, hid2⟩ := own_of hc
    rw [hc, cond_true] at h
    cases h
    refine ⟨id, o, ho, Nat.le_refl _, rfl, rfl, fun m => Trie.get_set 32 _ _ _ m hid2, fun s' hn => ⟨⟨s'.heap.set 32 id o, s'.next, s'.reads, ⟨id, 0, cap30⟩ :: s'.writes⟩, by unfold putO; rw [hc, cond_true], hn, Nat.le_refl _, rfl, rfl, fun m => Trie.get_set 32 _ _ _ m hid2⟩⟩
theorem newO_good {o : AO} (ho : o.ok) : Good (newO o) := set_good fun s v t h => by
  unfold newO at h
  cases hc : ownB s.next with
  | false => rw [hc] at h; cases h
  | true =>
    obtain ⟨_, hid2⟩ := own_of hc
    rw [hc, cond_true] at h
    cases h
    refine ⟨s.next, o, ho, Nat.le_succ _, rfl, rfl, fun m => Trie.get_set 32 _ _ _ m hid2, fun s' hn => ⟨⟨s'.heap.set 32 s.next o, s.next + 1, s'.reads, ⟨s.next, 0, cap30⟩ :: s'.writes⟩, by unfold newO; rw [hn, hc, cond_true], rfl, by simp only; omega, rfl, rfl, fun m => Trie.get_set 32 _ _ _ m hid2⟩⟩
theorem view_info {o : Option AO} {len : Nat} {e : TypeId} {lo hi : Nat} {w : Bool} (h : view o 0 = .info len e lo hi w) : ∃ c, o = some (.cells c len e lo hi w) := by
  cases o with
  | none => cases h
  | some o =>
    cases o <;> first | (cases h; done) | skip
    rename_i c l e' lo' hi' w'
    simp only [view, KV.info.injEq] at h
    obtain ⟨rfl, rfl, rfl, rfl, rfl⟩ := h
    exact ⟨c, rfl⟩
theorem readR_good (id off n : Nat) : Good (readR id off n) := fun s v t hs h => by
  unfold readR at h
  split at h
  · rename_i c len e lo hi wh hget
    rw [ble_nat] at h
    by_cases hle : off + n ≤ len
    · rw [decide_eq_true hle, cond_true] at h
      cases h
      refine ⟨[⟨id, 0, 1⟩, ⟨id, off + 1, off + n + 1⟩], [], ⟨Nat.le_refl _, rfl, rfl, fun _ _ _ => rfl, hs⟩, fun s' hs' hn hr => ?_⟩
      have h0 := hr id 0 ⟨_, List.mem_cons_self, rfl, Nat.le_refl _, .inl Nat.one_pos⟩
      rw [hget] at h0
      obtain ⟨c', hc'⟩ := view_info h0
      have hcc : ltake n (ldrop off c') = ltake n (ldrop off c) := by
        simp only [ltake_eq, ldrop_eq]
        apply List.ext_getElem?
        intro j
        simp only [List.getElem?_take, List.getElem?_drop]
        by_cases hj : j < n
        · rw [if_pos hj, if_pos hj]
          have := hr id (off + j + 1) ⟨_, List.mem_cons_of_mem _ (List.mem_singleton_self _), rfl, by simp only; omega, .inl (by simp only; omega)⟩
          rw [hget, hc'] at this
          simpa only [view, KV.cell.injEq] using this
        · rw [if_neg hj, if_neg hj]
      refine ⟨⟨s'.heap, s'.next, ⟨id, 0, 1⟩ :: ⟨id, off + 1, off + n + 1⟩ :: s'.reads, s'.writes⟩, ?_, ⟨Nat.le_refl _, rfl, rfl, fun _ _ _ => rfl, hs'⟩, hn, fun _ _ h => (hasL_nil h).elim⟩
      unfold readR
      rw [hc']
      simp only [ble_nat, decide_eq_true hle, cond_true, hcc]
    · rw [decide_eq_false hle] at h; cases h
  · cases h
theorem writeR_good (id off : Nat) (vs : List AV) : Good (writeR id off vs) := fun s v t hs h => by
  unfold writeR at h
  split at h
  · rename_i c len e lo hi wh hget
    generalize hc : (ownB id && Nat.ble (off + llen vs) len && lall AV.one vs && (Nat.ble hi lo || Nat.ble hi off || Nat.ble (off + llen vs) lo)) = q at h
    cases q with
    | false => cases h
    | true =>
      rw [cond_true] at h
      have hc2 := hc
      simp only [ble_nat, llen_eq, Bool.and_eq_true, decide_eq_true_eq] at hc2
      obtain ⟨⟨⟨hown, hle⟩, _⟩, _⟩ := hc2
      obtain ⟨_, hid2⟩ := own_of hown
      cases h
      have hlc : len = c.length := hs id _ hget
      have keep : ∀ {h h' : Trie AO} {c0 : List AV}, h.get id = some (.cells c0 len e lo hi wh) → len = c0.length → (∀ m, h'.get m = if m = id then some (.cells (splice c0 off vs) len e lo hi wh) else h.get m) →
          ∀ i k, ¬ hasL [⟨id, off + 1, off + llen vs + 1⟩] i k → view (h'.get i) k = view (h.get i) k := by
        intro h h' c0 h1 h2 h3 i k hk
        rw [h3]
        by_cases ei : i = id
        · subst ei
          rw [if_pos rfl, h1]
          cases k with
          | zero => rfl
          | succ j =>
            simp only [view]
            rw [splice_get _ _ _ (by omega), if_neg]
            intro q
            exact hk ⟨_, List.mem_singleton_self _, rfl, by simp only; omega, .inl (by simp only [llen_eq]; omega)⟩
        · rw [if_neg ei]
      have okk : ∀ {h h' : Trie AO} {c0 : List AV}, OkS h → len = c0.length → (∀ m, h'.get m = if m = id then some (.cells (splice c0 off vs) len e lo hi wh) else h.get m) → OkS h' := by
        intro h h' c0 h1 h2 h3
        exact okS_set h1 (by show len = _; rw [splice_length _ _ _ (by omega)]; exact h2) h3
      have g0 : ∀ (h : Trie AO) c0 (m : Nat), (h.set 32 id (.cells (splice c0 off vs) len e lo hi wh)).get m = if m = id then some (.cells (splice c0 off vs) len e lo hi wh) else h.get m := fun h c0 m => Trie.get_set 32 _ _ _ m hid2
      refine ⟨[⟨id, 0, 1⟩], [⟨id, off + 1, off + llen vs + 1⟩], ⟨Nat.le_refl _, rfl, rfl, keep hget hlc (g0 _ _), okk hs hlc (g0 _ _)⟩, fun s' hs' hn hr => ?_⟩
      have h0 := hr id 0 ⟨_, List.mem_singleton_self _, rfl, Nat.le_refl _, .inl Nat.one_pos⟩
      rw [hget] at h0
      obtain ⟨c', hc'⟩ := view_info h0
      have hlc' : len = c'.length := hs' id _ hc'
      refine ⟨⟨s'.heap.set 32 id (.cells (splice c' off vs) len e lo hi wh), s'.next, ⟨id, 0, 1⟩ :: s'.reads, ⟨id, off + 1, off + llen vs + 1⟩ :: s'.writes⟩, ?_, ⟨Nat.le_refl _, rfl, rfl, keep hc' hlc' (g0 _ _), okk hs' hlc' (g0 _ _)⟩, hn, fun i k hk => ?_⟩
      · unfold writeR; rw [hc']; simp only [hc, cond_true]
      · obtain ⟨a, ha, hh⟩ := hk
        rw [List.mem_singleton] at ha; subst ha
        obtain ⟨rfl, q1, q2⟩ := hh
        simp only at q1 q2
        simp only [g0, if_true]
        cases k with
        | zero => rfl
        | succ j =>
          simp only [view]
          rw [splice_get _ _ _ (by omega), splice_get _ _ _ (by omega)]
          by_cases q : off ≤ j ∧ j < off + vs.length
          · rw [if_pos q, if_pos q]
          · rw [if_neg q, if_neg q]
            rw [llen_eq] at q2; omega
  · cases h
theorem freezeR_good (id off n : Nat) : Good (freezeR id off n) := fun s v t hs h => by
  unfold freezeR at h
  split at h
  · rename_i c len e lo hi wh hget
    generalize hc : (ownB id && Nat.ble (off + n) len) = q at h
    cases q with
    | false => cases h
    | true =>
      rw [cond_true] at h
      have hc2 := hc
      simp only [Bool.and_eq_true] at hc2
      obtain ⟨_, hid2⟩ := own_of hc2.1
      cases h
      have hlc : len = c.length := hs id _ hget
      obtain ⟨lo', hi', hf⟩ : ∃ lo' hi', ∀ c0, (cond (Nat.beq lo hi) (AO.cells c0 len e off (off + n) wh) (.cells c0 len e (min lo off) (max hi (off + n)) wh)) = .cells c0 len e lo' hi' wh := by
        cases Nat.beq lo hi with
        | true => exact ⟨off, off + n, fun _ => rfl⟩
        | false => exact ⟨min lo off, max hi (off + n), fun _ => rfl⟩
      have g0 : ∀ (h : Trie AO) (c0 : List AV) (m : Nat), (h.set 32 id (cond (Nat.beq lo hi) (AO.cells c0 len e off (off + n) wh) (.cells c0 len e (min lo off) (max hi (off + n)) wh))).get m = if m = id then some (.cells c0 len e lo' hi' wh) else h.get m := fun h c0 m => by
        rw [hf]; exact Trie.get_set 32 _ _ _ m hid2
      have keep : ∀ {h h' : Trie AO} {c0 : List AV}, h.get id = some (.cells c0 len e lo hi wh) → (∀ m, h'.get m = if m = id then some (.cells c0 len e lo' hi' wh) else h.get m) →
          ∀ i k, ¬ hasL [⟨id, 0, 1⟩] i k → view (h'.get i) k = view (h.get i) k := by
        intro h h' c0 h1 h3 i k hk
        rw [h3]
        by_cases ei : i = id
        · subst ei
          rw [if_pos rfl, h1]
          cases k with
          | zero => exact (hk ⟨_, List.mem_singleton_self _, rfl, Nat.le_refl _, .inl Nat.one_pos⟩).elim
          | succ j => rfl
        · rw [if_neg ei]
      refine ⟨[⟨id, 0, 1⟩], [⟨id, 0, 1⟩], ⟨Nat.le_refl _, rfl, rfl, keep hget (g0 _ _), okS_set hs (by exact hlc) (g0 _ _)⟩, fun s' hs' hn hr => ?_⟩
      have h0 := hr id 0 ⟨_, List.mem_singleton_self _, rfl, Nat.le_refl _, .inl Nat.one_pos⟩
      rw [hget] at h0
      obtain ⟨c', hc'⟩ := view_info h0
      have hlc' : len = c'.length := hs' id _ hc'
      refine ⟨⟨s'.heap.set 32 id (cond (Nat.beq lo hi) (.cells c' len e off (off + n) wh) (.cells c' len e (min lo off) (max hi (off + n)) wh)), s'.next, ⟨id, 0, 1⟩ :: s'.reads, ⟨id, 0, 1⟩ :: s'.writes⟩, by
        unfold freezeR; rw [hc']; exact (congrArg (fun b => cond b _ _) hc).trans (cond_true _ _), ⟨Nat.le_refl _, rfl, rfl, keep hc' (g0 _ _), okS_set hs' (by exact hlc') (g0 _ _)⟩, hn, fun i k hk => ?_⟩
      obtain ⟨a, ha, hh⟩ := hk
      rw [List.mem_singleton] at ha; subst ha
      obtain ⟨rfl, q1, q2⟩ := hh
      have hk0 : k = 0 := by
        rcases q2 with q2 | ⟨_, q2⟩
        · exact Nat.lt_one_iff.1 q2
        · exact absurd (show cap30 ≤ 1 from q2) (by decide)
      subst hk0
      show view (Trie.get _ _) 0 = view (Trie.get _ _) 0
      rw [g0, g0, if_pos rfl, if_pos rfl]
      rfl
  · cases h
end
end Go.Proofs.YtcjjmflaaaddgaaGreatDoor.Am
/-
  Every operation of the abstract machine is good.
-/
set_option linter.unusedSimpArgs false
set_option linter.unusedVariables false
namespace Go.Proofs.YtcjjmflaaaddgaaGreatDoor.Am
open Go Go.RowKit

variable {P : Program}
theorem readCells_good (id off n : Nat) : Good (readCells id off n) := (readR_good id off n).bind fun _ => .pure _
theorem loadV_good (t : TypeId) (id off : Nat) : Good (loadV P t id off) := by
  unfold loadV
  refine (Good.lift _ _).bind fun a => ?_
  split
  · exact (readCells_good _ _ _).bind fun _ => .pure _
  · refine (readCells_good _ _ _).bind fun l => ?_
    split
    · exact .pure _
    · exact .fail _
theorem storeV_good (t : TypeId) (id off : Nat) (v : AV) : Good (storeV P t id off v) := by
  unfold storeV
  exact (Good.lift _ _).bind fun a => (Good.check _ _).bind fun _ => writeR_good _ _ _
theorem newCells_good (e : TypeId) (vs : List AV) : Good (newCells e vs) := by
  unfold newCells
  exact (Good.check _ _).bind fun _ => newO_good (by show _ = _; rw [llen_eq])
theorem newGrown_good (e : TypeId) (vs : List AV) (lo hi : Nat) : Good (newGrown e vs lo hi) := by
  unfold newGrown
  exact (Good.check _ _).bind fun _ => newO_good (by show _ = _; rw [llen_eq])
theorem buildA_good (t : TypeId) (ps : List (Nat × AV)) : Good (buildA P t ps) := by
  unfold buildA
  exact (Good.lift _ _).bind fun _ => (Good.lift _ _).bind fun _ => (Good.lift _ _).bind fun _ => .pure _
theorem buildSliceA_good (t : TypeId) (n : Nat) (ps : List (Nat × AV)) : Good (buildSliceA P t n ps) := by
  unfold buildSliceA
  exact (Good.lift _ _).bind fun _ => (Good.lift _ _).bind fun _ => (Good.check _ _).bind fun _ => (Good.lift _ _).bind fun _ => (newCells_good _ _).bind fun _ => .pure _
theorem sliceA_good (t : TypeId) (x : AV) (lo hi mx : Option AV) : Good (sliceA P t x lo hi mx) := by
  unfold sliceA
  refine (Good.lift _ _).bind fun _ => ?_
  split
  · split
    · exact .fail _
    · exact (Good.lift _ _).bind fun _ => .pure _
  · exact (Good.lift _ _).bind fun _ => (Good.lift _ _).bind fun _ => (Good.check _ _).bind fun _ => .pure _
  · exact (Good.lift _ _).bind fun _ => (Good.lift _ _).bind fun _ => (Good.check _ _).bind fun _ => .pure _
  · exact (Good.lift _ _).bind fun _ => (Good.lift _ _).bind fun _ => .pure _
  · exact .fail _
theorem fieldAddrA_good (t : TypeId) (x : AV) (f : Nat) : Good (fieldAddrA P t x f) := by
  unfold fieldAddrA
  refine (Good.lift _ _).bind fun _ => (Good.lift _ _).bind fun _ => (Good.check _ _).bind fun _ => ?_
  split <;> first | exact .pure _ | exact .fail _
theorem fieldA_good (t : TypeId) (x : AV) (f : Nat) : Good (fieldA P t x f) := by
  unfold fieldA
  repeat (first | exact .pure _ | exact .fail _ | exact .lift _ _ | exact .check _ _ | (refine Good.bind ?_ fun _ => ?_) | split)
theorem indexAddrA_good (t : TypeId) (x i : AV) : Good (indexAddrA P t x i) := by
  unfold indexAddrA
  repeat (first | exact .pure _ | exact .fail _ | exact .lift _ _ | exact .check _ _ | (refine Good.bind ?_ fun _ => ?_) | split)
theorem indexA_good (t : TypeId) (x i : AV) : Good (indexA P t x i) := by
  unfold indexA
  repeat (first | exact .pure _ | exact .fail _ | exact .lift _ _ | exact .check _ _ | (refine Good.bind ?_ fun _ => ?_) | split)
theorem mapO_good (id : Nat) : Good (mapO id) := by
  unfold mapO
  refine (getO_good id).bind fun _ => ?_
  split <;> first | exact .pure _ | exact .fail _
theorem entriesA_good (m : AV) : Good (entriesA m) := by
  unfold entriesA
  repeat (first | exact .pure _ | exact .fail _ | exact .lift _ _ | exact .check _ _ | exact mapO_good _ | (refine Good.bind ?_ fun _ => ?_) | refine Good.cond ?_ ?_ | split)
theorem lookupA_good (t : TypeId) (m k : AV) (ok : Bool) : Good (lookupA P t m k ok) := by
  unfold lookupA
  repeat (first | exact .pure _ | exact .fail _ | exact .lift _ _ | exact .check _ _ | exact mapO_good _ | exact entriesA_good _ | exact putO_good _ trivial | (refine Good.bind ?_ fun _ => ?_) | refine Good.cond ?_ ?_ | split)
theorem mapUpdateA_good (t : TypeId) (m k v : AV) : Good (mapUpdateA P t m k v) := by
  unfold mapUpdateA
  repeat (first | exact .pure _ | exact .fail _ | exact .lift _ _ | exact .check _ _ | exact mapO_good _ | exact entriesA_good _ | exact putO_good _ trivial | (refine Good.bind ?_ fun _ => ?_) | refine Good.cond ?_ ?_ | split)
theorem deleteA_good (t : TypeId) (m k : AV) : Good (deleteA P t m k) := by
  unfold deleteA
  repeat (first | exact .pure _ | exact .fail _ | exact .lift _ _ | exact .check _ _ | exact mapO_good _ | exact entriesA_good _ | exact putO_good _ trivial | (refine Good.bind ?_ fun _ => ?_) | refine Good.cond ?_ ?_ | split)
theorem sourceA_good (n : Nat) (x : AV) : Good (sourceA n x) := by
  unfold sourceA
  repeat (first | exact .pure _ | exact .fail _ | exact .lift _ _ | exact .check _ _ | exact readCells_good _ _ _ | (refine Good.bind ?_ fun _ => ?_) | refine Good.cond ?_ ?_ | split)
theorem appendA_good (ts : Array TypeId) (x y : AV) : Good (appendA P ts x y) := by
  unfold appendA
  repeat (first | exact .pure _ | exact .fail _ | exact .lift _ _ | exact .check _ _ | exact sourceA_good _ _ | exact writeR_good _ _ _ | exact readR_good _ _ _ | exact newGrown_good _ _ _ _ | exact putO_good _ trivial | (refine Good.bind ?_ fun _ => ?_) | refine Good.cond ?_ ?_ | split)
theorem lenA_good (t : TypeId) (x : AV) : Good (lenA P t x) := by
  unfold lenA
  repeat (first | exact .pure _ | exact .fail _ | exact .lift _ _ | exact .check _ _ | exact mapO_good _ | (refine Good.bind ?_ fun _ => ?_) | refine Good.cond ?_ ?_ | split)
theorem capA_good (t : TypeId) (x : AV) : Good (capA P t x) := by
  unfold capA
  repeat (first | exact .pure _ | exact .fail _ | exact .lift _ _ | exact .check _ _ | (refine Good.bind ?_ fun _ => ?_) | refine Good.cond ?_ ?_ | split)
theorem copyA_good (t : TypeId) (x y : AV) : Good (copyA P t x y) := by
  unfold copyA
  repeat (first | exact .pure _ | exact .fail _ | exact .lift _ _ | exact .check _ _ | exact sourceA_good _ _ | exact writeR_good _ _ _ | (refine Good.bind ?_ fun _ => ?_) | refine Good.cond ?_ ?_ | split)
theorem makeSliceA_good (t : TypeId) (x y : AV) : Good (makeSliceA P t x y) := by
  unfold makeSliceA
  repeat (first | exact .pure _ | exact .fail _ | exact .lift _ _ | exact .check _ _ | exact newCells_good _ _ | (refine Good.bind ?_ fun _ => ?_) | refine Good.cond ?_ ?_ | split)
theorem convertA_good (a b : TypeId) (x : AV) : Good (convertA P a b x) := by
  unfold convertA
  repeat (first | exact .pure _ | exact .fail _ | exact .lift _ _ | exact .check _ _ | exact readCells_good _ _ _ | exact readR_good _ _ _ | (refine Good.bind ?_ fun _ => ?_) | refine Good.cond ?_ ?_ | split)
theorem sliceDataA_good (x : AV) : Good (sliceDataA x) := by
  unfold sliceDataA
  repeat (first | exact .pure _ | exact .fail _ | exact .lift _ _ | exact .check _ _ | (refine Good.bind ?_ fun _ => ?_) | refine Good.cond ?_ ?_ | split)
theorem unsafeStringA_good (t : TypeId) (x n : AV) : Good (unsafeStringA P t x n) := by
  unfold unsafeStringA
  repeat (first | exact .pure _ | exact .fail _ | exact .lift _ _ | exact .check _ _ | exact readR_good _ _ _ | exact freezeR_good _ _ _ | (refine Good.bind ?_ fun _ => ?_) | refine Good.cond ?_ ?_ | split)
theorem typeAssertA_good (x : AV) (t : TypeId) (ok : Bool) : Good (typeAssertA P x t ok) := by
  unfold typeAssertA
  repeat (first | exact .pure _ | exact .fail _ | exact .lift _ _ | exact .check _ _ | (refine Good.bind ?_ fun _ => ?_) | refine Good.cond ?_ ?_ | split)
theorem ev_good (ρ : Operand → Option AV) (x : Operand) : Good (ev ρ x) := .lift _ _
theorem evO_good (ρ : Operand → Option AV) (x : Option Operand) : Good (evO ρ x) := by
  unfold evO
  split
  · exact .pure _
  · exact (ev_good _ _).bind fun _ => .pure _
theorem builtinA_good (b : Builtin) (ts : Array TypeId) (args : List AV) : Good (builtinA P b ts args) := by
  unfold builtinA
  repeat (first | exact .fail _ | exact .lift _ _ | exact appendA_good _ _ _ | exact lenA_good _ _ | exact capA_good _ _ | exact copyA_good _ _ _ | exact deleteA_good _ _ _ | exact sliceDataA_good _ | exact unsafeStringA_good _ _ _ | (refine Good.bind ?_ fun _ => ?_) | split)
theorem opA_good {call : FuncId → List AV → SM AV} (hc : ∀ f l, Good (call f l)) (ρ : Operand → Option AV) (o : Op) : Good (opA P call ρ o) := by
  unfold opA
  split
  all_goals repeat (first | exact ev_good _ _ | exact evO_good _ _ | exact .pure _ | exact .fail _ | exact .lift _ _ | exact .check _ _ | exact hc _ _ | exact newCells_good _ _ | exact newO_good trivial | exact buildA_good _ _ | exact buildSliceA_good _ _ _ | exact loadV_good _ _ _ | exact storeV_good _ _ _ _ | exact convertA_good _ _ _ | exact makeSliceA_good _ _ _ | exact sliceA_good _ _ _ _ _ | exact fieldAddrA_good _ _ _ | exact fieldA_good _ _ _ | exact indexAddrA_good _ _ _ | exact indexA_good _ _ _ | exact lookupA_good _ _ _ _ | exact mapUpdateA_good _ _ _ _ | exact typeAssertA_good _ _ _ | exact builtinA_good _ _ _ | (refine Good.bind ?_ fun _ => ?_) | refine Good.cond ?_ ?_ | split)
theorem putA_good (st : St) (d : Option Tmp) (v : AV) : Good (putA st d v) := by
  unfold putA
  repeat (first | exact .pure _ | exact .fail _ | refine Good.cond ?_ ?_ | split)
theorem stepA_good {call : FuncId → List AV → SM AV} (hc : ∀ f l, Good (call f l)) (ops : Array Oper) (o : Oper) (st : St) : Good (stepA P call ops o st) := by
  unfold stepA
  refine Good.cond ?_ (putA_good _ _ _)
  repeat (first | exact ev_good _ _ | exact .fail _ | exact .lift _ _ | exact putA_good _ _ _ | exact opA_good hc _ _ | (refine Good.bind ?_ fun _ => ?_) | split)
theorem opsA_good {call : FuncId → List AV → SM AV} (hc : ∀ f l, Good (call f l)) (ops : Array Oper) : ∀ (l : List Nat) (st : St), Good (opsA P call ops l st)
  | [], st => .pure _
  | i :: rest, st => by
    unfold opsA
    split
    · exact .fail _
    · exact (stepA_good hc _ _ _).bind fun _ => opsA_good hc ops rest _
theorem isolate_good {α : Type} {m : SM α} (h : Good m) : Good (isolate m) := fun s v t hs hm => by
  unfold isolate at hm
  cases hq : m ⟨s.heap, s.next, [], []⟩ with
  | err e => rw [hq] at hm; cases hm
  | ok a t1 =>
    rw [hq] at hm
    cases hm
    obtain ⟨dr, dw, e, l⟩ := h ⟨s.heap, s.next, [], []⟩ a t1 hs hq
    have er : t1.reads = dr := by rw [e.reads]; exact List.append_nil _
    have ew : t1.writes = dw := by rw [e.writes]; exact List.append_nil _
    refine ⟨dr, dw, ⟨e.next, by simp [er], by simp [ew], e.keep, e.ok⟩, fun s' hs' hn hr => ?_⟩
    obtain ⟨t', g1, g2, g3, g4⟩ := l ⟨s'.heap, s'.next, [], []⟩ hs' hn hr
    have er' : t'.reads = dr := by rw [g2.reads]; exact List.append_nil _
    have ew' : t'.writes = dw := by rw [g2.writes]; exact List.append_nil _
    refine ⟨⟨t'.heap, t'.next, t'.reads ++ s'.reads, t'.writes ++ s'.writes⟩, ?_, ⟨g2.next, by simp [er'], by simp [ew'], g2.keep, g2.ok⟩, g3, g4⟩
    unfold isolate
    rw [g1]
    simp only [er, ew, er', ew']
theorem opsLog_good {call : FuncId → List AV → SM AV} (hc : ∀ f l, Good (call f l)) (ops : Array Oper) : ∀ (l : List Nat) (st : St), Good (opsLog P call ops l st)
  | [], st => .pure _
  | i :: rest, st => by
    unfold opsLog
    split
    · exact .fail _
    · refine (isolate_good (stepA_good hc _ _ _)).bind fun x => ?_
      exact (opsLog_good hc ops rest _).bind fun _ => .pure _
theorem drawA_good {call : FuncId → List AV → SM AV} (hc : ∀ f l, Good (call f l)) (ops : Array Oper) (st : St) : Good (drawA P call ops st) := by
  unfold drawA
  exact (Good.check _ _).bind fun _ => (opsLog_good hc _ _ _).bind fun _ => (Good.check _ _).bind fun _ => .pure _
theorem resultsA_good : ∀ (rs : List ResultVar) (t : Trie AV), Good (resultsA P rs t)
  | [], t => .pure _
  | .tmp x :: r, t => by unfold resultsA; exact (resultsA_good r t).bind fun _ => .pure _
  | .cell a ty :: r, t => by
    unfold resultsA
    split
    · exact (loadV_good _ _ _).bind fun _ => (resultsA_good r t).bind fun _ => .pure _
    · exact .fail _
structure KnownGood (K : Known) : Prop where
  good : ∀ f g, K.sums f = some g → ∀ l, Good (g l)
theorem run_good {K : Known} (hK : KnownGood K) : ∀ n : Nat, (∀ c st, Good ((Ex.run P K n).code c st)) ∧ ∀ f l, Good ((Ex.run P K n).call f l)
  | 0 => ⟨fun _ _ => .fail _, fun _ _ => .fail _⟩
  | n + 1 => by
    obtain ⟨h1, h2⟩ := run_good hK n
    refine ⟨fun c st => ?_, fun f l => ?_⟩
    · show Good (codeStep P (Ex.run P K n) c st)
      unfold codeStep
      split
      · exact .pure _
      · exact .pure _
      · exact (Good.cond (drawA_good h2 _ _) (opsA_good h2 _ _ _)).bind fun _ => .pure _
      · refine (h1 _ _).bind fun x => ?_
        obtain ⟨x, st'⟩ := x
        cases x <;> first | exact h1 _ _ | exact .pure _
      · refine (ev_good _ _).bind fun _ => ?_
        split
        · exact Good.cond (h1 _ _) (h1 _ _)
        · exact .fail _
      · refine (h1 _ _).bind fun x => ?_
        obtain ⟨x, st'⟩ := x
        cases x <;> first | exact .pure _ | exact Good.cond (.pure _) (.pure _)
      · refine (h1 _ _).bind fun x => ?_
        obtain ⟨x, st'⟩ := x
        cases x <;> first | exact h1 _ _ | exact .pure _
      · exact .pure _
      · exact .pure _
      · exact .fail _
    · show Good (callStep P K (Ex.run P K n) f l)
      unfold callStep
      refine Good.mark ?_
      split
      · rename_i g hg; exact hK.good f g hg l
      · refine (Good.lift _ _).bind fun x => (Good.check _ _).bind fun _ => (h1 _ _).bind fun y => ?_
        obtain ⟨y, st'⟩ := y
        cases y <;> first | exact .fail _ | exact (Good.check _ _).bind fun _ => (resultsA_good _ _).bind fun _ => .pure _
end Go.Proofs.YtcjjmflaaaddgaaGreatDoor.Am
/-
  One operation of the abstract machine against the model's.
-/
set_option linter.unusedSimpArgs false
set_option linter.unusedVariables false
namespace Go.Proofs.YtcjjmflaaaddgaaGreatDoor.Am
open Go Go.RowKit

def DRel (ρ : Rho) (d : FuncId × List AV) (e : Deferred) : Prop := ∃ cap, e.target = .fn (.func d.1) cap ∧ VRels ρ d.2 (e.args ++ cap).toList
inductive DRels (ρ : Rho) : List (FuncId × List AV) → List Deferred → Prop where
  | nil : DRels ρ [] []
  | cons (d : FuncId × List AV) (e : Deferred) (l : List (FuncId × List AV)) (m : List Deferred) (h : DRel ρ d e) (h' : DRels ρ l m) : DRels ρ (d :: l) (e :: m)
structure ARel (ρ : Rho) (st : St) (a : Act) : Prop where
  size : a.tmps.size = st.size
  tmps : ∀ i, VRel ρ (orUndef (st.tmps.get i)) (a.tmps.getD i undef)
  defers : DRels ρ st.defers a.defers
  small : st.size ≤ 65535
theorem DRels.mono {ρ ρ' : Rho} (hle : ρ.le ρ') {l : List (FuncId × List AV)} {m : List Deferred} (h : DRels ρ l m) : DRels ρ' l m := by
  induction h with
  | nil => exact .nil
  | cons d e l m h _ ih => obtain ⟨cap, h1, h2⟩ := h; exact .cons _ _ _ _ ⟨cap, h1, h2.mono hle⟩ ih
theorem ARel.mono {ρ ρ' : Rho} (hle : ρ.le ρ') {st : St} {a : Act} (h : ARel ρ st a) : ARel ρ' st a := ⟨h.size, fun i => (h.tmps i).mono hle, h.defers.mono hle, h.small⟩
/-- What a call comes to: a call that is walked, or a value at once. -/
def Lands (P : Program) (f : FuncId) (us : Array Value) (w : World) (R : Value → World → Prop) : Prop :=
  ((callFunc f us).run P w = .ok (.enter f us) w ∧ Calls P f us w fun e w' => ∃ u, e = .returned u ∧ R u w') ∨ ∃ u w', (callFunc f us).run P w = .ok (.value u) w' ∧ R u w'
def CallOK (P : Program) (call : FuncId → List AV → SM AV) : Prop := ∀ (f : FuncId) (l : List AV) (s t : AS) (v : AV), OkS s.heap → call f l s = .ok v t → ∀ (B : Nat) (ρ : Rho) (w : World) (us : Array Value), VRels ρ l us.toList → WRel B ρ s.heap w → Fresh ρ s.next t.next →
  Lands P f us w fun u w' => ∃ ρ', VRel ρ' v u ∧ Post B ρ s.next t.next t.heap w w' ρ'

section
variable {B : Nat} {ρ : Rho} {w : World} {s t : AS} {P : Program} {st : St} {a : Act}
theorem eval_ok {x : Operand} {v : AV} (h : eval st.tmps x = some v) (ha : ARel ρ st a) (hw : WRel B ρ s.heap w) : VRel ρ v (a.eval x) := by
  cases x with
  | tmp i => simp only [eval, Option.some.injEq] at h; exact h ▸ ha.tmps i
  | const c => exact ofConst_rel h
  | global g =>
    simp only [eval, ble_nat] at h
    by_cases hg : g + 1 ≤ own0
    · rw [decide_eq_true hg, cond_true, Option.some.injEq] at h
      subst h
      exact .ptr g 0 g 0 (hw.glob g hg)
    · rw [decide_eq_false hg] at h; cases h
  | func f => simp only [eval, Option.some.injEq] at h; subst h; exact .func f [] [] #[] #[] .nil .nil
theorem ev_ok {x : Operand} {v : AV} (h : ev (eval st.tmps) x s = .ok v t) (ha : ARel ρ st a) (hw : WRel B ρ s.heap w) : s = t ∧ VRel ρ v (a.eval x) := by
  obtain ⟨h1, h2⟩ := lift_ok.1 h
  exact ⟨h2, eval_ok h1 ha hw⟩
theorem evO_ok {x : Option Operand} {v : Option AV} (h : evO (eval st.tmps) x s = .ok v t) (ha : ARel ρ st a) (hw : WRel B ρ s.heap w) : s = t ∧ ORelV ρ v (x.map a.eval) := by
  unfold evO at h
  split at h
  · obtain ⟨rfl, rfl⟩ := pure_ok.1 h; exact ⟨rfl, trivial⟩
  · obtain ⟨v1, s1, h1, h2⟩ := bind_ok.1 h
    obtain ⟨rfl, rfl⟩ := pure_ok.1 h2
    obtain ⟨rfl, hv⟩ := ev_ok h1 ha hw
    exact ⟨rfl, hv⟩
theorem evalAll_ok : ∀ {l : List Operand} {vs : List AV}, evalAll (eval st.tmps) l = some vs → ARel ρ st a → WRel B ρ s.heap w → VRels ρ vs (l.map a.eval)
  | [], vs, h, ha, hw => by cases h; exact .nil
  | x :: r, vs, h, ha, hw => by
    unfold evalAll at h
    split at h
    · rename_i v l' h1 h2
      cases h
      exact .cons _ _ _ _ (eval_ok h1 ha hw) (evalAll_ok h2 ha hw)
    · cases h
theorem evalParts_ok : ∀ {l : List (Nat × Operand)} {vs : List (Nat × AV)}, evalParts (eval st.tmps) l = some vs → ARel ρ st a → WRel B ρ s.heap w → vs.length = l.length ∧ ∀ (i : Nat) x y, vs[i]? = some x → (l.map fun (i, x) => (i, a.eval x))[i]? = some y → x.1 = y.1 ∧ VRel ρ x.2 y.2
  | [], vs, h, ha, hw => by cases h; exact ⟨rfl, fun i x y hx => by simp at hx⟩
  | (j, x) :: r, vs, h, ha, hw => by
    unfold evalParts at h
    split at h
    · rename_i v l' h1 h2
      cases h
      obtain ⟨e1, e2⟩ := evalParts_ok h2 ha hw
      refine ⟨by simp [e1], fun i x' y' hx hy => ?_⟩
      cases i with
      | zero =>
        simp only [List.getElem?_cons_zero, List.map_cons, Option.some.injEq] at hx hy
        subst hx; subst hy
        exact ⟨rfl, eval_ok h1 ha hw⟩
      | succ i => exact e2 i x' y' (by simpa using hx) (by simpa using hy)
    · cases h
variable {o : Oper} {next : Act → World → Prop} {Q : Exit → Act → World → Prop}
theorem upon_v {m : Sem Value} {u : Value} {w' : World} (h : m.run P w = .ok u w') (hn : next (a.put o.dst u) w') : o.upon P a next Q ((do pure (Next.value (← m)) : Sem Next).run P w) := by
  simp only [Sem.run_bind, h, Result.andThen_ok, Sem.run_pure]
  exact hn
theorem upon_u {m : Sem Unit} {w' : World} (h : m.run P w = .ok () w') (hn : next (a.put o.dst undef) w') : o.upon P a next Q ((do m; pure Next.skip : Sem Next).run P w) := by
  simp only [Sem.run_bind, h, Result.andThen_ok, Sem.run_pure]
  exact hn
theorem upon_lands {f : FuncId} {us : Array Value} {R : Value → World → Prop} (h : Lands P f us w R) (hn : ∀ u w', R u w' → next (a.put o.dst u) w') : o.upon P a next Q ((callFunc f us).run P w) := by
  rcases h with ⟨h1, h2⟩ | ⟨u, w', h1, h2⟩
  · rw [h1, Oper.upon_enter]
    refine Calls.mono h2 fun e w' he => ?_
    obtain ⟨u, rfl, hr⟩ := he
    exact hn u w' hr
  · rw [h1]; exact hn u w' h2
theorem Post.still {lo hi : Nat} {h' : Trie AO} {w' : World} (hr : WRel B ρ h' w') (hb : Below B w w') : Post B ρ lo hi h' w w' ρ := ⟨Rho.le.refl _, fun _ a b => absurd a b, hr, hb⟩
theorem builtin_ok {b : Builtin} {ts : Array TypeId} {rt : TypeId} {cs : Array Bool} {l : List AV} {us : Array Value} {v : AV} (h : builtinA P b ts l s = .ok v t) (hl : VRels ρ l us.toList) (hw : WRel B ρ s.heap w) (hf : Fresh ρ s.next t.next)
    (K : ∀ ρ' w' u, VRel ρ' v u → Post B ρ s.next t.next t.heap w w' ρ' → next (a.put o.dst u) w') : o.upon P a next Q ((builtin b ts rt cs us).run P w) := by
  have e2 : ∀ {x y : AV}, l = [x, y] → ∃ u1 u2, us = #[u1, u2] ∧ VRel ρ x u1 ∧ VRel ρ y u2 := by
    rintro x y rfl
    obtain ⟨ul⟩ := us
    cases hl with | cons _ u1 _ m h1 h2 => cases h2 with | cons _ u2 _ m h3 h4 => cases h4; exact ⟨_, _, rfl, h1, h3⟩
  have e1 : ∀ {x : AV}, l = [x] → ∃ u1, us = #[u1] ∧ VRel ρ x u1 := by
    rintro x rfl
    obtain ⟨ul⟩ := us
    cases hl with | cons _ u1 _ m h1 h2 => cases h2; exact ⟨_, rfl, h1⟩
  unfold builtinA at h
  split at h
  · obtain ⟨u1, u2, rfl, h1, h2⟩ := e2 rfl
    obtain ⟨ρ', w', u, r1, r2, r3⟩ := append_ok h h1 h2 hw hf
    exact upon_v r1 (K _ _ _ r2 r3)
  · obtain ⟨u1, rfl, h1⟩ := e1 rfl
    obtain ⟨ty, s1, g1, h⟩ := bind_ok.1 h
    obtain ⟨q1, rfl⟩ := lift_ok.1 g1
    obtain ⟨f1, f2, u, r1, r2⟩ := len_ok h q1 h1 hw rt
    exact upon_v r1 (K _ _ _ r2 (.still (f1 ▸ hw) (Below.refl _ _)))
  · obtain ⟨u1, rfl, h1⟩ := e1 rfl
    obtain ⟨ty, s1, g1, h⟩ := bind_ok.1 h
    obtain ⟨q1, rfl⟩ := lift_ok.1 g1
    obtain ⟨rfl, u, r1, r2⟩ := cap_ok (w := w) h q1 h1 rt
    exact upon_v r1 (K _ _ _ r2 (.still hw (Below.refl _ _)))
  · obtain ⟨u1, u2, rfl, h1, h2⟩ := e2 rfl
    obtain ⟨ty, s1, g1, h⟩ := bind_ok.1 h
    obtain ⟨q1, rfl⟩ := lift_ok.1 g1
    obtain ⟨f2, w', u, r1, r2, r3, r4⟩ := copy_ok (rt := rt) q1 h h1 h2 hw
    exact upon_v r1 (K _ _ _ r2 (.still r3 r4))
  · obtain ⟨u1, u2, rfl, h1, h2⟩ := e2 rfl
    obtain ⟨ty, s1, g1, h⟩ := bind_ok.1 h
    obtain ⟨q1, rfl⟩ := lift_ok.1 g1
    obtain ⟨f2, w', r1, r2, r3, r4⟩ := delete_ok h q1 h1 h2 hw rt
    exact upon_v r1 (K _ _ _ r2 (.still r3 r4))
  · obtain ⟨u1, rfl, h1⟩ := e1 rfl
    obtain ⟨rfl, u, r1, r2⟩ := sliceData_ok (P := P) (w := w) (ts := ts) (rt := rt) h h1
    exact upon_v r1 (K _ _ _ r2 (.still hw (Below.refl _ _)))
  · obtain ⟨u1, u2, rfl, h1, h2⟩ := e2 rfl
    obtain ⟨ty, s1, g1, h⟩ := bind_ok.1 h
    obtain ⟨q1, rfl⟩ := lift_ok.1 g1
    obtain ⟨f2, w', u, r1, r2, r3, r4⟩ := unsafeString_ok (rt := rt) q1 h h1 h2 hw
    exact upon_v r1 (K _ _ _ r2 (.still r3 r4))
  · obtain ⟨q1, rfl⟩ := lift_ok.1 h
    obtain ⟨ul⟩ := us
    cases hl with
    | cons _ u1 _ m h1 h2 =>
      obtain ⟨u, r1, r2⟩ := minmax_ok (P := P) (w := w) true rt q1 h1 h2
      exact upon_v (m := Builtin.max_ ts rt ⟨u1 :: m⟩) r1 (K _ _ _ r2 (.still hw (Below.refl _ _)))
  · obtain ⟨q1, rfl⟩ := lift_ok.1 h
    obtain ⟨ul⟩ := us
    cases hl with
    | cons _ u1 _ m h1 h2 =>
      obtain ⟨u, r1, r2⟩ := minmax_ok (P := P) (w := w) false rt q1 h1 h2
      exact upon_v (m := Builtin.min_ ts rt ⟨u1 :: m⟩) r1 (K _ _ _ r2 (.still hw (Below.refl _ _)))
  · exact (fail_ok.1 h).elim
end
end Go.Proofs.YtcjjmflaaaddgaaGreatDoor.Am
