import PyProof.Rows.All
import Wide.All
import OpenK.AllK
import Wide.FinOn
import HandS.ForMost
import HandS.Walk
import HandS.Wide
import HandS.IsInst
import HandS.TupAny
import HandS.TupMul
import HandS.Style
import PySem.Str
import KE.GoesMore
import HandS.Defaults
import PySem.Challenge.RW_pushdoors_k16_whole_needs_dont_turn_ways
set_option Elab.async false
set_option linter.all false
set_option maxRecDepth 100000
set_option maxHeartbeats 4000000
/-! The small language: plain data, owned trees, expressions and statements by slots, and its evaluator. No program in sight. -/
namespace PD
open PySem

/-- plain data that never changes: tuples, frozen lists, the script -/
inductive D where
  | non | bl (b : Bool) | int (i : Int) | str (s : Str)
  | tup (ds : List D) | lst (ds : List D) | scr (ns : List Int)

/-- what a slot holds: plain data, or a list of its own that may be changed in place -/
inductive T where
  | leaf (d : D) | node (ts : List T)

abbrev Env := List (Option T)

mutual
def T.frz : T → D
  | .leaf d => d
  | .node ts => .lst (T.frzs ts)
def T.frzs : List T → List D
  | [] => []
  | t :: r => T.frz t :: T.frzs r
end

/-- the items, if all are plain -/
def T.leaves : List T → Option (List D)
  | [] => some []
  | .leaf d :: r => (T.leaves r).map (d :: ·)
  | .node _ :: _ => none

/-- the items of a list -/
def T.lst? : T → Option (List D)
  | .leaf (.lst ds) => some ds
  | .node ts => T.leaves ts
  | _ => none

def T.isLeaf : T → Bool
  | .leaf _ => true
  | .node _ => false

/-- the longest list or text that is spoken of -/
def lim : Nat := 16777216

inductive Bop where
  | add | sub | mul | fdv | md | pow
inductive Cop where
  | lt | le | gt | ge | eq | ne | isn | nisn | inn | nin
inductive Bif where
  | len | abs | min | max | sum | all | tuple | list | str | int | isStr | isSeq | isLst | isInt | isBl

mutual
def D.depth : D → Nat
  | .tup ds => D.depths ds + 1
  | .lst ds => D.depths ds + 1
  | .scr _ => 1
  | _ => 0
def D.depths : List D → Nat
  | [] => 0
  | d :: r => max (D.depth d) (D.depths r)
end
mutual
/-- whether data can be compared as a whole (the script is none) -/
def D.plain : D → Bool
  | .tup ds => D.plains ds
  | .lst ds => D.plains ds
  | .scr _ => false
  | .str s => s.cps.all (· < 0x110000)
  | _ => true
def D.plains : List D → Bool
  | [] => true
  | d :: r => D.plain d && D.plains r
end
mutual
/-- == -/
def D.eqb : D → D → Bool
  | .non, .non => true
  | .bl a, .bl b => a == b
  | .int i, .int j => i == j
  | .bl a, .int j => (if a then 1 else 0) == j
  | .int i, .bl b => i == (if b then 1 else 0)
  | .str x, .str y => decide (x = y)
  | .tup xs, .tup ys => D.eqbs xs ys
  | .lst xs, .lst ys => D.eqbs xs ys
  | _, _ => false
def D.eqbs : List D → List D → Bool
  | [], [] => true
  | x :: xs, y :: ys => D.eqb x y && D.eqbs xs ys
  | _, _ => false
end

def D.flat : D → Bool
  | .non => true
  | .bl _ => true
  | .int _ => true
  | .str _ => true
  | _ => false

/-- the place of an index -/
def ixN (n : Nat) (i : Int) : Option Nat := if 0 ≤ i then (if i < n then some i.toNat else none) else if -(n : Int) ≤ i then some (i + n).toNat else none
def atI {α : Type} (xs : List α) (i : Int) : Option α := (ixN xs.length i).bind fun j => xs[j]?
def sIx (n d : Nat) : Option Int → Nat
  | none => d
  | some v => if v < 0 then (v + (n : Int)).toNat else min v.toNat n
def cut {α : Type} (xs : List α) (lo hi : Option Int) : List α := (xs.drop (sIx xs.length 0 lo)).take (sIx xs.length xs.length hi - sIx xs.length 0 lo)

def mulOk (i j : Int) : Bool := decide ((-(2 ^ 64) < i ∧ i < 2 ^ 64) ∨ (-(2 ^ 64) < j ∧ j < 2 ^ 64))

/-- an operator on values -/
def binop (op : Bop) (x y : T) : Option T :=
  match op, x, y with
  | .add, .leaf (.int i), .leaf (.int j) => some (.leaf (.int (i + j)))
  | .add, .leaf (.str a), .leaf (.str b) => if a.length + b.length ≤ lim then some (.leaf (.str (a ++ b))) else none
  | .add, .leaf (.tup a), .leaf (.tup b) => if a.length + b.length ≤ lim then some (.leaf (.tup (a ++ b))) else none
  | .add, x, y => match x.lst?, y.lst? with
    | some a, some b => if a.length + b.length ≤ lim then some (.node ((a ++ b).map T.leaf)) else none
    | _, _ => none
  | .sub, .leaf (.int i), .leaf (.int j) => some (.leaf (.int (i - j)))
  | .mul, .leaf (.int i), .leaf (.int j) => if mulOk i j then some (.leaf (.int (i * j))) else none
  | .mul, x, .leaf (.int k) => match x.lst? with
    | some a => if -(2 ^ 63) ≤ k ∧ k < 2 ^ 63 ∧ a.length * k.toNat ≤ lim then some (.node (((List.replicate k.toNat a).flatten).map T.leaf)) else none
    | none => match x with
      | .leaf (.tup a) => if a ≠ [] ∧ 2 ≤ k ∧ k ≤ 1000 ∧ a.length ≤ 1000 then some (.leaf (.tup (List.replicate k.toNat a).flatten)) else none
      | _ => none
  | .fdv, .leaf (.int i), .leaf (.int j) => if 0 < j ∧ j < 2 ^ 64 then some (.leaf (.int (i / j))) else none
  | .md, .leaf (.int i), .leaf (.int j) => if 0 < j then some (.leaf (.int (i % j))) else none
  | .pow, .leaf (.int i), .leaf (.int j) => if 0 ≤ j ∧ j ≤ 1000000 ∧ i.natAbs < 2 ^ 64 then some (.leaf (.int (i ^ j.toNat))) else none
  | _, _, _ => none

/-- x in y -/
def inn (x y : D) : Option Bool :=
  match y with
  | .str z => match x with
    | .str c => if c.cps.size = 1 then some (decide (c.cps.getD 0 0 ∈ z.cps.toList)) else none
    | _ => none
  | .tup ds => if x.flat && ds.all D.flat then some (ds.any fun y => D.eqb y x) else none
  | .lst ds => if x.flat && ds.all D.flat then some (ds.any fun y => D.eqb y x) else none
  | _ => none

def cmpop (op : Cop) (x y : T) : Option Bool :=
  match op with
  | .lt => match x, y with | .leaf (.int i), .leaf (.int j) => some (decide (i < j)) | _, _ => none
  | .le => match x, y with | .leaf (.int i), .leaf (.int j) => some (decide (i ≤ j)) | _, _ => none
  | .gt => match x, y with | .leaf (.int i), .leaf (.int j) => some (decide (j < i)) | _, _ => none
  | .ge => match x, y with | .leaf (.int i), .leaf (.int j) => some (decide (j ≤ i)) | _, _ => none
  | .eq => let a := x.frz; let b := y.frz; if a.plain && b.plain && decide (a.depth ≤ 64) && decide (b.depth ≤ 64) then some (D.eqb a b) else none
  | .ne => let a := x.frz; let b := y.frz; if a.plain && b.plain && decide (a.depth ≤ 64) && decide (b.depth ≤ 64) then some (!D.eqb a b) else none
  | .isn => match y with | .leaf .non => some (match x with | .leaf .non => true | _ => false) | _ => none
  | .nisn => match y with | .leaf .non => some (match x with | .leaf .non => false | _ => true) | _ => none
  | .inn => inn x.frz y.frz
  | .nin => (inn x.frz y.frz).map (!·)

/-- x[i] -/
def index (x : T) (i : Int) : Option T :=
  match x with
  | .leaf (.tup ds) => (atI ds i).map T.leaf
  | .leaf (.lst ds) => (atI ds i).map T.leaf
  | .leaf (.str z) => (if z.length ≤ lim then atI z.cps.toList i else none).map fun c => T.leaf (.str ⟨#[c]⟩)
  | .node ts => atI ts i
  | _ => none

/-- x[lo:hi] -/
def slice (x : T) (lo hi : Option Int) : Option T :=
  match x with
  | .leaf (.tup ds) => some (.leaf (.tup (cut ds lo hi)))
  | x => x.lst?.map fun ds => .node ((cut ds lo hi).map T.leaf)

def D.ints : List D → Option (List Int)
  | [] => some []
  | .int i :: r => (D.ints r).map (i :: ·)
  | _ :: _ => none
def D.bls : List D → Option (List Bool)
  | [] => some []
  | .bl i :: r => (D.bls r).map (i :: ·)
  | _ :: _ => none

def bfn (f : Bif) (xs : List T) : Option T :=
  match f, xs with
  | .len, [.leaf (.tup ds)] => some (.leaf (.int ds.length))
  | .len, [.leaf (.lst ds)] => some (.leaf (.int ds.length))
  | .len, [.node ts] => some (.leaf (.int ts.length))
  | .len, [.leaf (.scr ns)] => some (.leaf (.int ns.length))
  | .len, [.leaf (.str z)] => if z.length ≤ lim then some (.leaf (.int z.length)) else none
  | .abs, [.leaf (.int i)] => some (.leaf (.int (if i < 0 then -i else i)))
  | .min, [.leaf (.int i), .leaf (.int j)] => some (.leaf (.int (if j < i then j else i)))
  | .max, [.leaf (.int i), .leaf (.int j)] => some (.leaf (.int (if j > i then j else i)))
  | .sum, [x] => (x.lst?.bind D.ints).map fun ns => .leaf (.int ns.sum)
  | .all, [x] => (x.lst?.bind D.bls).map fun bs => .leaf (.bl (bs.all id))
  | .tuple, [.leaf (.tup ds)] => some (.leaf (.tup ds))
  | .tuple, [x] => x.lst?.map fun ds => .leaf (.tup ds)
  | .list, [.leaf (.scr ns)] => some (.node (ns.map fun n => .leaf (.int n)))
  | .list, [.leaf (.tup ds)] => some (.node (ds.map T.leaf))
  | .list, [x] => x.lst?.map fun ds => .node (ds.map T.leaf)
  | .str, [.leaf (.int i)] => if i.natAbs < 2 ^ 64 then some (.leaf (.str (Str.ofString (toString i)))) else none
  | .int, [.leaf (.int i)] => some (.leaf (.int i))
  | .int, [.leaf (.bl b)] => some (.leaf (.int (if b then 1 else 0)))
  | .isStr, [.leaf d] => some (.leaf (.bl (match d with | .str _ => true | _ => false)))
  | .isStr, [.node _] => some (.leaf (.bl false))
  | .isSeq, [.leaf d] => some (.leaf (.bl (match d with | .tup _ => true | .lst _ => true | .scr _ => true | _ => false)))
  | .isSeq, [.node _] => some (.leaf (.bl true))
  | .isLst, [.leaf d] => some (.leaf (.bl (match d with | .lst _ => true | .scr _ => true | _ => false)))
  | .isLst, [.node _] => some (.leaf (.bl true))
  | .isInt, [.leaf d] => some (.leaf (.bl (match d with | .int _ => true | .bl _ => true | _ => false)))
  | .isInt, [.node _] => some (.leaf (.bl false))
  | .isBl, [.leaf d] => some (.leaf (.bl (match d with | .bl _ => true | _ => false)))
  | .isBl, [.node _] => some (.leaf (.bl false))
  | _, _ => none

/-- a target -/
inductive Tg where
  | nm (i : Nat) | tp (ts : List Tg)
  deriving Inhabited

mutual
inductive ME where
  | var (i : Nat) | frz (i : Nat) | mv (i : Nat) | cst (d : D)
  | bin (op : Bop) (a b : ME) | cmp (op : Cop) (a b : ME) | chn (p q : Cop) (a b c : ME)
  | and (a b : ME) | or (a b : ME) | not (a : ME) | ife (c a b : ME)
  | idx (a i : ME) | slc (a : ME) (lo hi : MO)
  | tup (es : MEs) | lst (es : MEs) | bi (f : Bif) (es : MEs)
  | call (f : Nat) (es : MAs)
  | comp (tg : Tg) (it : MI) (c : MO) (e : ME) (own : List Nat)
  | pop0 (i : Nat)
inductive MEs where
  | nil | cons (e : ME) (es : MEs)
inductive MO where
  | none | some (e : ME)
/-- an argument: by value, or a slot that the callee may change -/
inductive MAs where
  | nil | val (e : ME) (es : MAs) | io (i : Nat) (es : MAs)
/-- what is walked -/
inductive MI where
  | tpl (e : ME) | lst (e : ME) | scr (e : ME) | chr (e : ME) | rng1 (e : ME) | rng2 (a b : ME) | enmT (e : ME) | enmL (e : ME) | zipL (a b : ME) | zipT (a b : ME)
end

/-- a slot's own list may be its value -/
def ME.path : ME → Bool
  | .var _ => true
  | .idx _ _ => true
  | _ => false
mutual
/-- whether it may change what stands: a call, a pop -/
def ME.mut : ME → Bool
  | .bin _ a b => a.mut || b.mut
  | .cmp _ a b => a.mut || b.mut
  | .chn _ _ a b c => a.mut || b.mut || c.mut
  | .and a b => a.mut || b.mut
  | .or a b => a.mut || b.mut
  | .not a => a.mut
  | .ife c a b => c.mut || a.mut || b.mut
  | .idx a i => a.mut || i.mut
  | .slc a lo hi => a.mut || lo.mut || hi.mut
  | .tup es => es.mut
  | .lst es => es.mut
  | .bi _ es => es.mut
  | .call _ _ => true
  | .comp _ _ _ _ _ => true
  | .pop0 _ => true
  | .mv _ => true
  | .frz _ => true
  | _ => false
def MEs.mut : MEs → Bool
  | .nil => false
  | .cons e es => e.mut || es.mut
def MO.mut : MO → Bool
  | .none => false
  | .some e => e.mut
end

/-- what a callee does: the answer, and the slots' trees behind it (of those parameters that it may change) -/
structure Callees where
  io : Nat → List Bool
  run : Nat → List T → Option (T × List T)

/-- an item that is walked, stored -/
def Tg.put : Nat → Tg → D → Env → Option Env
  | 0, _, _, _ => none
  | _ + 1, .nm i, d, r => some (r.set i (some (.leaf d)))
  | n + 1, .tp ts, .tup ds, r => if ts.length = ds.length then (ts.zip ds).foldlM (fun r p => Tg.put n p.1 p.2 r) r else none
  | _ + 1, .tp _, _, _ => none

def wipe (r : Env) : List Nat → Env
  | [] => r
  | i :: is => wipe (r.set i none) is
def bl? : T → Option Bool
  | .leaf (.bl b) => some b
  | _ => none
def int? : T → Option Int
  | .leaf (.int b) => some b
  | _ => none
def node? : T → Option (List T)
  | .node ts => some ts
  | _ => none
def leaf? : T → Option D
  | .leaf d => some d
  | _ => none

/-- the items of what is walked -/
def tpl? : T → Option (List D)
  | .leaf (.tup ds) => some ds
  | _ => none
/-- a list that is walked is frozen (a fresh one) -/
def lsts? : T → Option (List D)
  | .leaf (.lst ds) => some ds
  | .node ts => some (T.frzs ts)
  | _ => none
def scr? : T → Option (List Int)
  | .leaf (.scr ns) => some ns
  | _ => none
def chr? : T → Option (List D)
  | .leaf (.str z) => some (z.cps.toList.map fun c => D.str ⟨#[c]⟩)
  | _ => none
def enums : Nat → List D → List D
  | _, [] => []
  | n, d :: r => .tup [.int n, d] :: enums (n + 1) r
def rngs (lo : Int) : Nat → List D
  | 0 => []
  | n + 1 => .int lo :: rngs (lo + 1) n
def zips : List D → List D → List D
  | a :: as, b :: bs => .tup [a, b] :: zips as bs
  | _, _ => []
def rngOk (i : Int) : Bool := decide (-(2 ^ 62) ≤ i ∧ i < 2 ^ 62)

/-- the slots' trees of the in-out arguments -/
def ioTs (as : List (Sum T Nat)) (r : Env) : Option (List T) :=
  as.mapM fun a => match a with | .inl t => some t | .inr i => (r.getD i none)
def ioPut : List (Sum T Nat) → List Bool → List T → Env → Env
  | .inl _ :: as, true :: bs, _ :: ts, r => ioPut as bs ts r
  | .inr i :: as, true :: bs, t :: ts, r => ioPut as bs ts (r.set i (some t))
  | _ :: as, false :: bs, ts, r => ioPut as bs ts r
  | _, _, _, r => r
/-- a fresh list that is handed in is frozen where the callee does not change it; a slot is handed in only where it may be changed -/
def argOk : List (Sum T Nat) → List Bool → Option (List (Sum T Nat))
  | [], [] => some []
  | .inl t :: as, true :: bs => (argOk as bs).map (.inl t :: ·)
  | .inl t :: as, false :: bs => (argOk as bs).map (.inl (.leaf t.frz) :: ·)
  | .inr i :: as, true :: bs => (argOk as bs).map (.inr i :: ·)
  | _, _ => none
def ioSlots : List (Sum T Nat) → List Nat
  | [] => []
  | .inl _ :: as => ioSlots as
  | .inr i :: as => i :: ioSlots as

/-- the turns of a comprehension, over the items -/
def comps (put : D → Env → Option Env) (c : Env → Option (Bool × Env)) (e : Env → Option (T × Env)) (own : List Nat) : List D → List T → Env → Option (List T × Env)
  | [], acc, r => some (acc, r)
  | d :: ds, acc, r => do
    let r1 ← put d r
    let (k, r2) ← c r1
    if k then do
      let (x, r3) ← e r2
      if acc.length < lim then comps put c e own ds (acc ++ [x]) (wipe r3 own) else none
    else comps put c e own ds acc (wipe r2 own)

section
variable (C : Callees)
mutual
/-- an expression; looked at only (k), or with a value that is kept: plain, or a fresh list -/
def ev (k : Bool) : ME → Env → Option (T × Env)
  | .var i, r => match r.getD i none with
    | some t => if k || t.isLeaf then some (t, r) else none
    | none => none
  | .frz i, r => match r.getD i none with
    | some t => some (.leaf t.frz, r.set i (some (.leaf t.frz)))
    | none => none
  | .mv i, r => match r.getD i none with
    | some t => some (t, r.set i none)
    | none => none
  | .cst d, r => some (.leaf d, r)
  | .bin op a b, r => do
    let (x, r1) ← ev true a r
    let (y, r2) ← ev true b r1
    if b.mut && a.path && !x.isLeaf then none else
    (binop op x y).map (·, r2)
  | .cmp op a b, r => do
    let (x, r1) ← ev true a r
    let (y, r2) ← ev true b r1
    if b.mut && a.path && !x.isLeaf then none else
    (cmpop op x y).map fun k => (.leaf (.bl k), r2)
  | .chn p q a b c, r => do
    let (x, r1) ← ev false a r
    let (y, r2) ← ev false b r1
    let k ← cmpop p x y
    if k then do
      let (z, r3) ← ev false c r2
      (cmpop q y z).map fun k => (.leaf (.bl k), r3)
    else some (.leaf (.bl false), r2)
  | .and a b, r => do
    let (x, r1) ← ev false a r
    let k ← bl? x
    if k then do
      let (y, r2) ← ev false b r1
      (bl? y).map fun k => (.leaf (.bl k), r2)
    else some (.leaf (.bl false), r1)
  | .or a b, r => do
    let (x, r1) ← ev false a r
    let k ← bl? x
    if k then some (.leaf (.bl true), r1) else do
      let (y, r2) ← ev false b r1
      (bl? y).map fun k => (.leaf (.bl k), r2)
  | .not a, r => do
    let (x, r1) ← ev false a r
    (bl? x).map fun k => (.leaf (.bl (!k)), r1)
  | .ife c a b, r => do
    let (x, r1) ← ev false c r
    let k ← bl? x
    if k then ev false a r1 else ev false b r1
  | .idx a i, r => do
    let (x, r1) ← ev true a r
    let (y, r2) ← ev false i r1
    if i.mut && a.path && !x.isLeaf then none else do
    let j ← int? y
    let z ← index x j
    if k || z.isLeaf then some (z, r2) else none
  | .slc a lo hi, r => do
    let (x, r1) ← ev true a r
    if (lo.mut || hi.mut) && a.path && !x.isLeaf then none else do
    let (l, r2) ← evo lo r1
    let (h, r3) ← evo hi r2
    (slice x l h).map (·, r3)
  | .tup es, r => do
    let (xs, r1) ← evs false es r
    if xs.length ≤ lim then some (.leaf (.tup (T.frzs xs)), r1) else none
  | .lst es, r => do
    let (xs, r1) ← evs false es r
    if xs.length ≤ lim then some (.node xs, r1) else none
  | .bi f es, r => do
    let (xs, r1) ← evs true es r
    (bfn f xs).map (·, r1)
  | .call f es, r => do
    let (as, r1) ← eva es r
    let as ← argOk as (C.io f)
    if (ioSlots as).Nodup then do
      let ts ← ioTs as r1
      let (x, outs) ← C.run f ts
      some (x, ioPut as (C.io f) outs r1)
    else none
  | .comp tg it c e own, r => do
    let (ds, r1) ← evi it r
    if own.any fun i => (r1.getD i none).isSome then none else do
    let (out, r2) ← comps (Tg.put 9 tg) (evc c) (ev false e) own ds [] r1
    some (.node out, r2)
  | .pop0 i, r => match r.getD i none with
    | some (.node (.leaf d :: ts)) => some (.leaf d, r.set i (some (.node ts)))
    | _ => none
def evs (k : Bool) : MEs → Env → Option (List T × Env)
  | .nil, r => some ([], r)
  | .cons e es, r => do
    let (x, r1) ← ev k e r
    let (xs, r2) ← evs k es r1
    if k && es.mut && e.path && !x.isLeaf then none else
    some (x :: xs, r2)
def evo : MO → Env → Option (Option Int × Env)
  | .none, r => some (none, r)
  | .some e, r => do
    let (x, r1) ← ev false e r
    (int? x).map fun k => (some k, r1)
def eva : MAs → Env → Option (List (Sum T Nat) × Env)
  | .nil, r => some ([], r)
  | .val e es, r => do
    let (x, r1) ← ev false e r
    let (xs, r2) ← eva es r1
    some (.inl x :: xs, r2)
  | .io i es, r => do
    let _ ← r.getD i none
    let (xs, r2) ← eva es r
    some (.inr i :: xs, r2)
def evi : MI → Env → Option (List D × Env)
  | .tpl e, r => do
    let (x, r1) ← ev false e r
    (tpl? x).map (·, r1)
  | .lst e, r => do
    let (x, r1) ← ev false e r
    (lsts? x).map (·, r1)
  | .scr e, r => do
    let (x, r1) ← ev false e r
    (scr? x).map fun ns => (ns.map D.int, r1)
  | .chr e, r => do
    let (x, r1) ← ev false e r
    (chr? x).map (·, r1)
  | .rng1 e, r => do
    let (x, r1) ← ev false e r
    let k ← int? x
    if rngOk k then some (rngs 0 k.toNat, r1) else none
  | .rng2 a b, r => do
    let (x, r1) ← ev false a r
    let (y, r2) ← ev false b r1
    let i ← int? x
    let j ← int? y
    if rngOk i && rngOk j then some (rngs i (j - i).toNat, r2) else none
  | .enmT e, r => do
    let (x, r1) ← ev false e r
    (tpl? x).map fun ds => (enums 0 ds, r1)
  | .enmL e, r => do
    let (x, r1) ← ev false e r
    (lsts? x).map fun ds => (enums 0 ds, r1)
  | .zipL a b, r => do
    let (x, r1) ← ev false a r
    let (y, r2) ← ev false b r1
    let xs ← lsts? x
    let ys ← lsts? y
    some (zips xs ys, r2)
  | .zipT a b, r => do
    let (x, r1) ← ev false a r
    let (y, r2) ← ev false b r1
    let xs ← lsts? x
    let ys ← tpl? y
    some (zips xs ys, r2)
/-- a comprehension's test -/
def evc : MO → Env → Option (Bool × Env)
  | .none, r => some (true, r)
  | .some e, r => do
    let (x, r1) ← ev false e r
    (bl? x).map (·, r1)
end
end

/-- where a statement ends -/
inductive Fl where
  | nx (r : Env) | rt (t : T) (r : Env)

mutual
inductive MS where
  | set (i : Nat) (keep : Bool) (e : ME)
  | unp (tg : Tg) (e : ME)
  | par (is : List Nat) (es : MEs)
  | put (i : Nat) (path : MEs) (ix : ME) (e : ME)
  | aug (i : Nat) (op : Bop) (e : ME)
  | app (i : Nat) (e : ME) | ext (i : Nat) (e : ME)
  | drop (e : ME)
  | ret (e : ME)
  | ife (c : ME) (a b : MSs)
  | whl (c : ME) (b : MSs)
  | for_ (tg : Tg) (it : MI) (b : MSs)
  | stuck
inductive MSs where
  | nil | cons (s : MS) (ss : MSs)
end

/-- a place within an owned tree is given another value -/
def T.putAt : T → List Int → Int → T → Option T
  | .node ts, [], k, x => (ixN ts.length k).map fun j => .node (ts.set j x)
  | .node ts, p :: ps, k, x => do
    let j ← ixN ts.length p
    let t ← ts[j]?
    let t' ← T.putAt t ps k x
    some (.node (ts.set j t'))
  | .leaf _, _, _, _ => none

def setAll : List Nat → List T → Env → Env
  | i :: is, t :: ts, r => setAll is ts (r.set i (some t))
  | _, _, r => r

section
variable (C : Callees) (W : Nat)
/-- a while, W turns at most -/
def loopW (c : Env → Option (Bool × Env)) (b : Env → Option Fl) : Nat → Env → Option Fl
  | 0, _ => none
  | n + 1, r => do
    let (k, r1) ← c r
    if k then
      match ← b r1 with
      | .nx r2 => loopW c b n r2
      | .rt t r2 => some (.rt t r2)
    else some (.nx r1)
/-- a for, over the items -/
def loopF (g : D → Env → Option Env) (b : Env → Option Fl) : List D → Env → Option Fl
  | [], r => some (.nx r)
  | d :: ds, r => do
    let r1 ← g d r
    match ← b r1 with
    | .nx r2 => loopF g b ds r2
    | .rt t r2 => some (.rt t r2)
def ints? : List T → Option (List Int)
  | [] => some []
  | x :: xs => do
    let i ← int? x
    let is ← ints? xs
    some (i :: is)
mutual
def ex : MS → Env → Option Fl
  | .set i keep e, r => do
    let (x, r1) ← ev C false e r
    some (.nx (r1.set i (some (if keep then x else .leaf x.frz))))
  | .unp tg e, r => do
    let (x, r1) ← ev C false e r
    let d ← leaf? x
    (Tg.put 9 tg d r1).map .nx
  | .par is es, r => do
    let (xs, r1) ← evs C false es r
    if is.length != xs.length then none else
    some (.nx (setAll is xs r1))
  | .put i path ix e, r => do
    if path.mut || ix.mut then none else do
    let (x, r1) ← ev C false e r
    if !x.isLeaf then none else do
    let _ ← (r1.getD i none).bind node?
    let (ps, r2) ← evs C false path r1
    let (k, r3) ← ev C false ix r2
    let ps ← ints? ps
    let k ← int? k
    match r3.getD i none with
    | some t => do
      let t' ← T.putAt t ps k x
      some (.nx (r3.set i (some t')))
    | none => none
  | .aug i op e, r => do
    let t ← r.getD i none
    let a ← int? t
    let (y, r1) ← ev C false e r
    let b ← int? y
    match op with
    | .add => some (.nx (r1.set i (some (.leaf (.int (a + b))))))
    | .sub => some (.nx (r1.set i (some (.leaf (.int (a - b))))))
    | _ => none
  | .app i e, r => do
    let _ ← (r.getD i none).bind node?
    let (x, r1) ← ev C false e r
    let ts ← (r1.getD i none).bind node?
    if ts.length < lim then some (.nx (r1.set i (some (.node (ts ++ [x]))))) else none
  | .ext i e, r => do
    let _ ← (r.getD i none).bind node?
    let (x, r1) ← ev C false e r
    let ts ← (r1.getD i none).bind node?
    let us ← node? x
    if ts.length + us.length ≤ lim then some (.nx (r1.set i (some (.node (ts ++ us))))) else none
  | .drop e, r => do
    let (_, r1) ← ev C false e r
    some (.nx r1)
  | .ret e, r => do
    let (x, r1) ← ev C false e r
    some (.rt x r1)
  | .ife c a b, r => do
    let (x, r1) ← ev C false c r
    let k ← bl? x
    if k then exs a r1 else exs b r1
  | .whl c b, r => loopW (fun r => do
      let (x, r1) ← ev C false c r
      let k ← bl? x
      some (k, r1)) (exs b) W r
  | .for_ tg it b, r => do
    let (ds, r1) ← evi C it r
    loopF (Tg.put 9 tg) (exs b) ds r1
  | .stuck, _ => none
def exs : MSs → Env → Option Fl
  | .nil, r => some (.nx r)
  | .cons s ss, r => do
    match ← ex s r with
    | .nx r1 => exs ss r1
    | .rt t r1 => some (.rt t r1)
end
end

/-- a def: its parameters (which may be changed), how many slots, its body; or what it does, said outright -/
inductive Def where
  | code (io : List Bool) (slots : Nat) (body : MSs)
  | prim (io : List Bool) (run : List T → Option (T × List T))

def Def.io : Def → List Bool
  | .code b _ _ => b
  | .prim b _ => b
def ioIx : Nat → List Bool → List Nat
  | _, [] => []
  | n, true :: bs => n :: ioIx (n + 1) bs
  | n, false :: bs => ioIx (n + 1) bs

/-- a call, with so many calls one in another left -/
def callD (tb : Nat → Option Def) (W : Nat) : Nat → Nat → List T → Option (T × List T)
  | 0, _, _ => none
  | n + 1, f, ts => do
    match ← tb f with
    | .prim b run => if ts.length = b.length then run ts else none
    | .code b k body =>
      if ts.length = b.length then do
        let C : Callees := ⟨fun g => ((tb g).map Def.io).getD [], callD tb W n⟩
        let r : Env := ts.map some ++ List.replicate (k - ts.length) none
        match ← exs C W body r with
        | .nx r1 => do
          let outs ← (ioIx 0 b).mapM fun i => r1.getD i none
          some (.leaf .non, outs)
        | .rt t r1 => do
          let outs ← (ioIx 0 b).mapM fun i => r1.getD i none
          some (t, outs)
      else none
end PD

/-! What the small language's data mean over the layer's heaps: relations, and how they are carried along. -/
namespace PD
open PySem L2

/-- the script: a list that nobody changes -/
def ScrAt (K : PySem.W.Frag) (H : Hp) (a : Addr) (xs : List V) : Prop := (∃ o, H a = some (.frz o (.lst xs))) ∨
  ∃ (o : Obj) (its : Array Value) (n : Nat), K.lookup a = some o ∧ o.cls = .type "list" ∧ o.dict = none ∧ o.data = .seq its n ∧ its.size ≤ sizeLine ∧ Vals xs its.toList
theorem ScrAt.seq {K : PySem.W.Frag} {H : Hp} {a : Addr} {xs : List V} (h : ScrAt K H a xs) : SqL K H a xs := h.elim (fun h => .inl (.inr h)) .inr
mutual
/-- plain data at a value; O: the lists that somebody may change -/
inductive RI (K : PySem.W.Frag) (H : Hp) (O : List Addr) : V → D → Prop
  | non : RI K H O .non .non
  | bl (b : Bool) : RI K H O (.bl b) (.bl b)
  | int (i : Int) : RI K H O (.int i) (.int i)
  | str (s : Str) : RI K H O (.str s) (.str s)
  | tup {a : Addr} {vs : List V} {ds : List D} (h : SqT K H a vs) (t : RIs K H O vs ds) : RI K H O (.ref a) (.tup ds)
  | lst {a : Addr} {vs : List V} {ds : List D} (h : H a = some (.lst vs)) (n : a ∉ O) (t : RIs K H O vs ds) : RI K H O (.ref a) (.lst ds)
  | scr {a : Addr} {ns : List Int} (h : ScrAt K H a (ns.map V.int)) : RI K H O (.ref a) (.scr ns)
inductive RIs (K : PySem.W.Frag) (H : Hp) (O : List Addr) : List V → List D → Prop
  | nil : RIs K H O [] []
  | cons {v : V} {vs : List V} {d : D} {ds : List D} (h : RI K H O v d) (t : RIs K H O vs ds) : RIs K H O (v :: vs) (d :: ds)
end

mutual
/-- an owned tree at a value, the addresses of its lists -/
inductive RT (K : PySem.W.Frag) (H : Hp) (O : List Addr) : V → T → List Addr → Prop
  | leaf {v : V} {d : D} (h : RI K H O v d) : RT K H O v (.leaf d) []
  | node {a : Addr} {vs : List V} {ts : List T} {f : List Addr} (h : H a = some (.lst vs)) (q : RTs K H O vs ts f) : RT K H O (.ref a) (.node ts) (a :: f)
inductive RTs (K : PySem.W.Frag) (H : Hp) (O : List Addr) : List V → List T → List Addr → Prop
  | nil : RTs K H O [] [] []
  | cons {v : V} {vs : List V} {t : T} {ts : List T} {f g : List Addr} (h : RT K H O v t f) (q : RTs K H O vs ts g) : RTs K H O (v :: vs) (t :: ts) (f ++ g)
end

/-- the slots -/
inductive RE (K : PySem.W.Frag) (H : Hp) (O : List Addr) : St → Env → List Addr → Prop
  | nil : RE K H O [] [] []
  | emp {x : Option V} {σ : St} {r : Env} {f : List Addr} (q : RE K H O σ r f) : RE K H O (x :: σ) (none :: r) f
  | has {v : V} {t : T} {σ : St} {r : Env} {f g : List Addr} (h : RT K H O v t f) (q : RE K H O σ r g) : RE K H O (some v :: σ) (some t :: r) (f ++ g)

section
variable {K : PySem.W.Frag} {H H' : Hp} {O O' F : List Addr}

/-- an object that is no list -/
def NoLst (o : HO) : Prop := ∀ xs, o ≠ .lst xs
/-- lists outside M and all else stand as they stood -/
def Kp (M : List Addr) (H H' : Hp) : Prop := ∀ b o, H b = some o → (b ∉ M ∨ NoLst o) → H' b = some o
theorem Kp.refl (M : List Addr) (H : Hp) : Kp M H H := fun _ _ h _ => h
theorem Same.kp {M : List Addr} (h : Same H H') : Kp M H H' := fun b o e _ => h b o e
theorem Kp.mono {M N : List Addr} (h : Kp M H H') (s : ∀ b ∈ M, b ∈ N) : Kp N H H' := fun b o e q => h b o e (q.imp (fun z w => z (s b w)) id)
theorem noLst_tup {xs : List V} : NoLst (.tup xs) := fun _ h => nomatch h
theorem noLst_frz {o : Obj} {u : HO} : NoLst (.frz o u) := fun _ h => nomatch h

theorem SqT.kp {M : List Addr} {a : Addr} {vs : List V} (h : SqT K H a vs) (k : Kp M H H') : SqT K H' a vs := by
  rcases h with (h | ⟨o, h⟩) | h
  · exact .inl (.inl (k _ _ h (.inr noLst_tup)))
  · exact .inl (.inr ⟨o, k _ _ h (.inr noLst_frz)⟩)
  · exact .inr h

theorem ScrAt.kp {M : List Addr} {a : Addr} {vs : List V} (h : ScrAt K H a vs) (k : Kp M H H') : ScrAt K H' a vs := h.imp (fun ⟨o, h⟩ => ⟨o, k _ _ h (.inr noLst_frz)⟩) id

mutual
theorem RI.kp (k : Kp O H H') (n : ∀ b ∈ O', b ∈ O ∨ H b = none) : ∀ {v : V} {d : D}, RI K H O v d → RI K H' O' v d
  | _, _, .non => .non
  | _, _, .bl b => .bl b
  | _, _, .int i => .int i
  | _, _, .str s => .str s
  | _, _, .tup h t => .tup (SqT.kp h k) (RIs.kp k n t)
  | _, _, .lst h m t => .lst (k _ _ h (.inl m)) (fun z => (n _ z).elim m (fun e => by rw [h] at e; cases e)) (RIs.kp k n t)
  | _, _, .scr h => .scr (ScrAt.kp h k)
theorem RIs.kp (k : Kp O H H') (n : ∀ b ∈ O', b ∈ O ∨ H b = none) : ∀ {vs : List V} {ds : List D}, RIs K H O vs ds → RIs K H' O' vs ds
  | _, _, .nil => .nil
  | _, _, .cons h t => .cons (RI.kp k n h) (RIs.kp k n t)
end
mutual
theorem RT.kp (k : ∀ b o, H b = some o → (b ∈ F ∨ b ∉ O ∨ NoLst o) → H' b = some o) (n : ∀ b ∈ O', b ∈ O ∨ H b = none) : ∀ {v : V} {t : T} {f : List Addr}, RT K H O v t f → (∀ b ∈ f, b ∈ F) → RT K H' O' v t f
  | _, _, _, .leaf h, _ => .leaf (RI.kp (fun b o e q => k b o e (.inr q)) n h)
  | _, _, _, .node h t, s => .node (k _ _ h (.inl (s _ List.mem_cons_self))) (RTs.kp k n t fun b hb => s b (List.mem_cons_of_mem _ hb))
theorem RTs.kp (k : ∀ b o, H b = some o → (b ∈ F ∨ b ∉ O ∨ NoLst o) → H' b = some o) (n : ∀ b ∈ O', b ∈ O ∨ H b = none) : ∀ {vs : List V} {ts : List T} {f : List Addr}, RTs K H O vs ts f → (∀ b ∈ f, b ∈ F) → RTs K H' O' vs ts f
  | _, _, _, .nil, _ => .nil
  | _, _, _, .cons h t, s => .cons (RT.kp k n h fun b hb => s b (List.mem_append_left _ hb)) (RTs.kp k n t fun b hb => s b (List.mem_append_right _ hb))
end
theorem RE.kp (k : ∀ b o, H b = some o → (b ∈ F ∨ b ∉ O ∨ NoLst o) → H' b = some o) (n : ∀ b ∈ O', b ∈ O ∨ H b = none) : ∀ {σ : St} {r : Env} {f : List Addr}, RE K H O σ r f → (∀ b ∈ f, b ∈ F) → RE K H' O' σ r f
  | _, _, _, .nil, _ => .nil
  | _, _, _, .emp t, s => .emp (RE.kp k n t s)
  | _, _, _, .has h t, s => .has (RT.kp k n h fun b hb => s b (List.mem_append_left _ hb)) (RE.kp k n t fun b hb => s b (List.mem_append_right _ hb))

/-- fewer lists are spoken for -/
theorem RI.less (s : ∀ b ∈ O', b ∈ O) {v : V} {d : D} (h : RI K H O v d) : RI K H O' v d := RI.kp (Kp.refl _ _) (fun b hb => .inl (s b hb)) h
theorem RIs.less (s : ∀ b ∈ O', b ∈ O) {v : List V} {d : List D} (h : RIs K H O v d) : RIs K H O' v d := RIs.kp (Kp.refl _ _) (fun b hb => .inl (s b hb)) h
theorem RT.less (s : ∀ b ∈ O', b ∈ O) {v : V} {t : T} {f : List Addr} (h : RT K H O v t f) : RT K H O' v t f :=
  RT.kp (F := f) (fun _ _ e _ => e) (fun b hb => .inl (s b hb)) h fun _ hb => hb
theorem RTs.less (s : ∀ b ∈ O', b ∈ O) {v : List V} {t : List T} {f : List Addr} (h : RTs K H O v t f) : RTs K H O' v t f :=
  RTs.kp (F := f) (fun _ _ e _ => e) (fun b hb => .inl (s b hb)) h fun _ hb => hb
theorem RE.less (s : ∀ b ∈ O', b ∈ O) {σ : St} {r : Env} {f : List Addr} (h : RE K H O σ r f) : RE K H O' σ r f :=
  RE.kp (F := f) (fun _ _ e _ => e) (fun b hb => .inl (s b hb)) h fun _ hb => hb

mutual
/-- an owned tree is plain data, if nobody changes it any more -/
theorem RT.frz : ∀ {v : V} {t : T} {f : List Addr}, RT K H O v t f → (∀ b ∈ O', b ∈ O) → (∀ b ∈ f, b ∉ O') → RI K H O' v t.frz
  | _, _, _, .leaf h, s, _ => by rw [T.frz]; exact h.less s
  | _, _, _, .node h t, s, n => by
    rw [T.frz]
    exact .lst h (n _ List.mem_cons_self) (RTs.frz t s fun b hb => n b (List.mem_cons_of_mem _ hb))
theorem RTs.frz : ∀ {vs : List V} {ts : List T} {f : List Addr}, RTs K H O vs ts f → (∀ b ∈ O', b ∈ O) → (∀ b ∈ f, b ∉ O') → RIs K H O' vs (T.frzs ts)
  | _, _, _, .nil, _, _ => by rw [T.frzs]; exact .nil
  | _, _, _, .cons h t, s, n => by
    rw [T.frzs]
    exact .cons (RT.frz h s fun b hb => n b (List.mem_append_left _ hb)) (RTs.frz t s fun b hb => n b (List.mem_append_right _ hb))
end
mutual
/-- .. to be read at once, whoever may change it -/
theorem RT.dat : ∀ {v : V} {t : T} {f : List Addr}, RT K H O v t f → RI K H [] v t.frz := fun h => RT.frz h (fun _ z => nomatch z) (fun _ _ z => nomatch z)
end
theorem RTs.dat {v : List V} {t : List T} {f : List Addr} (h : RTs K H O v t f) : RIs K H [] v (T.frzs t) := RTs.frz h (fun _ z => nomatch z) (fun _ _ z => nomatch z)

theorem RIs.len : ∀ {vs : List V} {ds : List D}, RIs K H O vs ds → vs.length = ds.length
  | _, _, .nil => rfl
  | _, _, .cons _ t => congrArg (· + 1) (RIs.len t)
theorem RTs.len : ∀ {vs : List V} {ts : List T} {f : List Addr}, RTs K H O vs ts f → vs.length = ts.length
  | _, _, _, .nil => rfl
  | _, _, _, .cons _ t => congrArg (· + 1) (RTs.len t)
theorem RE.len : ∀ {σ : St} {r : Env} {f : List Addr}, RE K H O σ r f → σ.length = r.length
  | _, _, _, .nil => rfl
  | _, _, _, .emp t => congrArg (· + 1) (RE.len t)
  | _, _, _, .has _ t => congrArg (· + 1) (RE.len t)
theorem RIs.get : ∀ {vs : List V} {ds : List D} {i : Nat} {d : D}, RIs K H O vs ds → ds[i]? = some d → ∃ v, vs[i]? = some v ∧ RI K H O v d
  | _, _, _, _, .nil, e => by simp at e
  | _, _, 0, _, .cons h _, e => by simp at e; subst e; exact ⟨_, rfl, h⟩
  | _, _, i + 1, _, .cons _ t, e => by
    obtain ⟨v, h1, h2⟩ := RIs.get (i := i) t (by simpa using e)
    exact ⟨v, by simpa using h1, h2⟩
theorem RIs.append : ∀ {vs ws : List V} {ds es : List D}, RIs K H O vs ds → RIs K H O ws es → RIs K H O (vs ++ ws) (ds ++ es)
  | _, _, _, _, .nil, q => q
  | _, _, _, _, .cons h t, q => .cons h (RIs.append t q)
theorem RIs.take : ∀ (n : Nat) {vs : List V} {ds : List D}, RIs K H O vs ds → RIs K H O (vs.take n) (ds.take n)
  | 0, _, _, _ => by simpa using RIs.nil
  | _ + 1, _, _, .nil => .nil
  | n + 1, _, _, .cons h t => .cons h (RIs.take n t)
theorem RIs.drop : ∀ (n : Nat) {vs : List V} {ds : List D}, RIs K H O vs ds → RIs K H O (vs.drop n) (ds.drop n)
  | 0, _, _, h => h
  | _ + 1, _, _, .nil => .nil
  | n + 1, _, _, .cons _ t => RIs.drop n t
theorem RIs.rep {vs : List V} {ds : List D} (h : RIs K H O vs ds) : ∀ n : Nat, RIs K H O (List.replicate n vs).flatten (List.replicate n ds).flatten
  | 0 => .nil
  | n + 1 => by
    rw [List.replicate_succ, List.replicate_succ, List.flatten_cons, List.flatten_cons]
    exact h.append (RIs.rep h n)
theorem RTs.append : ∀ {vs ws : List V} {ts us : List T} {f g : List Addr}, RTs K H O vs ts f → RTs K H O ws us g → RTs K H O (vs ++ ws) (ts ++ us) (f ++ g)
  | _, _, _, _, _, _, .nil, q => q
  | _, _, _, _, _, _, .cons h t, q => by rw [List.append_assoc]; exact .cons h (RTs.append t q)
theorem RIs.leaves : ∀ {vs : List V} {ds : List D}, RIs K H O vs ds → RTs K H O vs (ds.map T.leaf) []
  | _, _, .nil => .nil
  | _, _, .cons h t => RTs.cons (.leaf h) (RIs.leaves t)
/-- the items, if all are plain -/
theorem RTs.leaves : ∀ {vs : List V} {ts : List T} {f : List Addr} {ds : List D}, RTs K H O vs ts f → T.leaves ts = some ds → RIs K H O vs ds ∧ f = []
  | _, _, _, _, .nil, e => by
    simp only [T.leaves, Option.some.injEq] at e
    subst e
    exact ⟨.nil, rfl⟩
  | _, _, _, ds, .cons (.leaf h) t, e => by
    simp only [T.leaves, Option.map_eq_some_iff] at e
    obtain ⟨es, e1, e2⟩ := e
    subst e2
    obtain ⟨h1, h2⟩ := RTs.leaves t e1
    subst h2
    exact ⟨.cons h h1, rfl⟩
  | _, _, _, _, .cons (.node _ _) _, e => by simp [T.leaves] at e
/-- an item, and the rest: it may be given another tree -/
theorem RTs.at : ∀ {vs : List V} {ts : List T} {f : List Addr} {i : Nat} {t : T}, RTs K H O vs ts f → ts[i]? = some t →
    ∃ v A g B, vs[i]? = some v ∧ f = A ++ g ++ B ∧ RT K H O v t g
  | _, _, _, _, _, .nil, e => by simp at e
  | _, _, _, 0, _, .cons (f := f) (g := g) h _, e => by simp at e; subst e; exact ⟨_, [], f, g, rfl, rfl, h⟩
  | _, _, _, i + 1, _, .cons (f := f) _ t, e => by
    obtain ⟨v, A, g, B, h1, h2, h3⟩ := RTs.at (i := i) t (by simpa using e)
    exact ⟨v, f ++ A, g, B, by simpa using h1, by rw [h2]; simp only [List.append_assoc], h3⟩

theorem RE.get : ∀ {σ : St} {r : Env} {f : List Addr} {i : Nat} {t : T}, RE K H O σ r f → r.getD i none = some t →
    ∃ v A g B, σ[i]? = some (some v) ∧ f = A ++ g ++ B ∧ RT K H O v t g
  | _, _, _, i, _, .nil, e => by simp at e
  | _, _, _, 0, _, .emp _, e => by simp at e
  | _, _, _, 0, _, .has (f := f) (g := g) h _, e => by simp at e; subst e; exact ⟨_, [], f, g, rfl, rfl, h⟩
  | _, _, _, i + 1, _, .emp t, e => by
    obtain ⟨v, A, g, B, h1, h2, h3⟩ := RE.get (i := i) t (by simpa using e)
    exact ⟨v, A, g, B, by simpa using h1, h2, h3⟩
  | _, _, _, i + 1, _, .has (f := f) _ t, e => by
    obtain ⟨v, A, g, B, h1, h2, h3⟩ := RE.get (i := i) t (by simpa using e)
    exact ⟨v, f ++ A, g, B, by simpa using h1, by rw [h2]; simp only [List.append_assoc], h3⟩
/-- a slot is emptied, its value kept or not; then it may be given another -/
theorem RE.clear : ∀ {σ : St} {r : Env} {f : List Addr} (i : Nat), RE K H O σ r f → ∃ A g B, f = A ++ g ++ B ∧ (r.getD i none = none → g = []) ∧
    (∀ t, r.getD i none = some t → ∃ v, σ[i]? = some (some v) ∧ RT K H O v t g) ∧
    RE K H O σ (r.set i none) (A ++ B) ∧ ∀ x, RE K H O (σ.set i x) (r.set i none) (A ++ B)
  | _, _, _, i, .nil => ⟨[], [], [], rfl, fun _ => rfl, fun _ e => by simp at e, .nil, fun _ => .nil⟩
  | _, _, f, 0, .emp t => ⟨[], [], f, rfl, fun _ => rfl, fun _ e => by simp at e, .emp t, fun _ => .emp t⟩
  | _, _, _, 0, .has (f := f) (g := g) h t => ⟨[], f, g, rfl, fun e => by simp at e, fun _ e => by simp at e; subst e; exact ⟨_, rfl, h⟩, .emp t, fun _ => .emp t⟩
  | _, _, _, i + 1, .emp t => by
    obtain ⟨A, g, B, h1, h2, h3, h4, h5⟩ := RE.clear i t
    exact ⟨A, g, B, h1, fun e => h2 (by simpa using e), fun u e => by simpa using h3 u (by simpa using e), .emp h4, fun x => .emp (h5 x)⟩
  | _, _, _, i + 1, .has (f := f) h t => by
    obtain ⟨A, g, B, h1, h2, h3, h4, h5⟩ := RE.clear i t
    refine ⟨f ++ A, g, B, by rw [h1]; simp only [List.append_assoc], fun e => h2 (by simpa using e), fun u e => by simpa using h3 u (by simpa using e), ?_, fun x => ?_⟩
    · rw [List.append_assoc]; exact .has h h4
    · rw [List.append_assoc]; exact .has h (h5 x)
/-- an empty slot is given a value -/
theorem RE.fill : ∀ {σ : St} {r : Env} {f : List Addr} {i : Nat} {v : V} {t : T} {g : List Addr}, RE K H O σ r f → r.getD i none = none → σ[i]? = some (some v) → RT K H O v t g →
    ∃ f', RE K H O σ (r.set i (some t)) f' ∧ f'.Perm (g ++ f)
  | _, _, _, i, _, _, _, .nil, _, e, _ => by simp at e
  | _, _, f, 0, _, _, g, .emp t, _, e, h => by
    simp at e
    subst e
    exact ⟨g ++ f, .has h t, List.Perm.refl _⟩
  | _, _, _, 0, _, _, _, .has _ _, n, _, _ => by simp at n
  | _, _, _, i + 1, _, _, _, .emp t, n, e, h => by
    obtain ⟨f', h1, h2⟩ := RE.fill (i := i) t (by simpa using n) (by simpa using e) h
    exact ⟨f', .emp h1, h2⟩
  | _, _, _, i + 1, _, _, g, .has (f := f) (g := f0) q t, n, e, h => by
    obtain ⟨f', h1, h2⟩ := RE.fill (i := i) t (by simpa using n) (by simpa using e) h
    refine ⟨f ++ f', .has q h1, ?_⟩
    refine (List.Perm.append_left f h2).trans ?_
    rw [← List.append_assoc, ← List.append_assoc]
    exact List.Perm.append_right f0 List.perm_append_comm
end
end PD

/-! The state of a frame (Good), a step (Stp), the readings of expressions (tE: kept, tO: an operand), of tests, lists, arguments. -/
namespace PD
open PySem L2

/-- what stays fixed through a def's run: the written part, the callees, the entry's heap, the lists it may change, the lists of others, the in-out slots' values -/
structure Fm where
  K : PySem.W.Frag
  C : Callees
  H0 : Hp
  IO : List Addr
  Z0 : List Addr
  iov : List (Nat × V)
  ioS : List Nat
  ioP : ∀ p ∈ iov, p.1 ∈ ioS

/-- from H to H': the lists at M may have changed; those at P are of M or new -/
structure Stp (M P : List Addr) (H H' : Hp) : Prop where
  kp : Kp M H H'
  dom : ∀ b, H b ≠ none → H' b ≠ none
  new : ∀ b ∈ P, b ∈ M ∨ H b = none
theorem Stp.refl (M : List Addr) (H : Hp) : Stp M M H H := ⟨Kp.refl _ _, fun _ h => h, fun _ h => .inl h⟩
theorem Stp.trans {M P N : List Addr} {H H1 H2 : Hp} (a : Stp M P H H1) (b : Stp P N H1 H2) : Stp M N H H2 where
  kp := fun x o e q => b.kp x o (a.kp x o e q) (by
    rcases q with q | q
    · refine .inl fun z => (a.new x z).elim q fun n => ?_
      rw [n] at e; cases e
    · exact .inr q)
  dom := fun x h => b.dom x (a.dom x h)
  new := fun x h => by
    rcases b.new x h with z | z
    · exact a.new x z
    · refine .inr ?_
      cases q : H x with
      | none => rfl
      | some o => exact absurd z (a.dom x (by rw [q]; exact fun w => nomatch w))
theorem Stp.sub {M P N : List Addr} {H H' : Hp} (a : Stp M P H H') (s : ∀ b ∈ N, b ∈ P) : Stp M N H H' := ⟨a.kp, a.dom, fun b h => a.new b (s b h)⟩
theorem Stp.pre {M M' P : List Addr} {H H' : Hp} (a : Stp M P H H') (s : ∀ b ∈ M, b ∈ M') : Stp M' P H H' := ⟨a.kp.mono s, a.dom, fun b h => (a.new b h).imp (s b) id⟩
theorem Stp.isNone {M P : List Addr} {H H' : Hp} (a : Stp M P H H') {b : Addr} (h : H' b = none) : H b = none := by
  cases q : H b with
  | none => rfl
  | some o => exact absurd h (a.dom b (by rw [q]; exact fun w => nomatch w))

mutual
theorem RT.dom {K : PySem.W.Frag} {H : Hp} {O : List Addr} : ∀ {v : V} {t : T} {f : List Addr}, RT K H O v t f → ∀ b ∈ f, H b ≠ none
  | _, _, _, .leaf _, _, z => nomatch z
  | _, _, _, .node h q, b, z => by
    rcases List.mem_cons.mp z with e | z
    · subst e; rw [h]; exact fun w => nomatch w
    · exact RTs.dom q b z
theorem RTs.dom {K : PySem.W.Frag} {H : Hp} {O : List Addr} : ∀ {vs : List V} {ts : List T} {f : List Addr}, RTs K H O vs ts f → ∀ b ∈ f, H b ≠ none
  | _, _, _, .nil, _, z => nomatch z
  | _, _, _, .cons h q, b, z => (List.mem_append.mp z).elim (RT.dom h b) (RTs.dom q b)
end
theorem RE.dom {K : PySem.W.Frag} {H : Hp} {O : List Addr} : ∀ {σ : St} {r : Env} {f : List Addr}, RE K H O σ r f → ∀ b ∈ f, H b ≠ none
  | _, _, _, .nil, _, z => nomatch z
  | _, _, _, .emp q, b, z => RE.dom q b z
  | _, _, _, .has h q, b, z => (List.mem_append.mp z).elim (RT.dom h b) (RE.dom q b)

/-- the state of a frame: O: the slots' own lists, Z: those of others, and of what is being reckoned -/
structure Good (G : Fm) (Z : List Addr) (σ : St) (r : Env) (H : Hp) (O : List Addr) : Prop where
  re : RE G.K H (Z ++ O) σ r O
  nd : O.Nodup
  dj : ∀ b ∈ O, b ∉ Z
  zd : ∀ b ∈ Z, H b ≠ none
  z0 : ∀ b ∈ G.Z0, b ∈ Z
  st : Stp G.IO O G.H0 H
  iv : ∀ p ∈ G.iov, σ[p.1]? = some (some p.2)

section
variable {G : Fm} {Z Z' O O' g : List Addr} {σ : St} {r : Env} {H H' : Hp}
theorem Good.less (h : Good G Z σ r H O) (s : ∀ b ∈ Z', b ∈ Z) (z : ∀ b ∈ G.Z0, b ∈ Z') : Good G Z' σ r H O :=
  ⟨h.re.less (fun b hb => by
    rcases List.mem_append.mp hb with q | q
    · exact List.mem_append_left _ (s b q)
    · exact List.mem_append_right _ q), h.nd, fun b hb q => h.dj b hb (s b q), fun b hb => h.zd b (s b hb), z, h.st, h.iv⟩
theorem Good.drop (h : Good G (g ++ Z) σ r H O) (z : ∀ b ∈ G.Z0, b ∈ Z) : Good G Z σ r H O := h.less (fun b hb => List.mem_append_right _ hb) z
theorem Good.od (h : Good G Z σ r H O) : ∀ b ∈ O, H b ≠ none := h.re.dom
/-- a new object -/
theorem Good.grow (h : Good G Z σ r H O) {p : Addr} {o : HO} (hp : H p = none) : Good G Z σ r (upd H p o) O where
  re := by
    refine h.re.kp (F := O) (fun b o e _ => ?_) (fun b hb => .inl hb) fun _ hb => hb
    rw [upd_ne (ne_of_none e hp)]; exact e
  nd := h.nd
  dj := h.dj
  zd := fun b hb => by
    by_cases q : b = p
    · subst q; rw [upd_same]; exact fun w => nomatch w
    · rw [upd_ne q]; exact h.zd b hb
  z0 := h.z0
  st := ⟨fun b o e q => by
    have w := h.st.kp b o e q
    rw [upd_ne (ne_of_none w hp)]; exact w, fun b e => by
    have w := h.st.dom b e
    by_cases q : b = p
    · subst q; rw [upd_same]; exact fun w => nomatch w
    · rw [upd_ne q]; exact w, h.st.new⟩
  iv := h.iv
/-- a new list, nobody's yet -/
theorem Good.growZ (h : Good G Z σ r H O) {p : Addr} {o : HO} (hp : H p = none) : Good G (p :: Z) σ r (upd H p o) O where
  re := by
    refine h.re.kp (F := O) (fun b o e _ => ?_) (fun b hb => ?_) fun _ hb => hb
    · rw [upd_ne (ne_of_none e hp)]; exact e
    · rcases List.mem_cons.mp hb with e | q
      · subst e; exact .inr hp
      · exact .inl q
  nd := h.nd
  dj := fun b hb q => by
    rcases List.mem_cons.mp q with e | q
    · subst e; exact h.od _ hb hp
    · exact h.dj b hb q
  zd := fun b hb => by
    by_cases q : b = p
    · subst q; rw [upd_same]; exact fun w => nomatch w
    · rw [upd_ne q]; exact h.zd b ((List.mem_cons.mp hb).resolve_left q)
  z0 := fun b hb => List.mem_cons_of_mem _ (h.z0 b hb)
  st := (h.grow (o := o) hp).st
  iv := h.iv
theorem Stp.grow {M P : List Addr} (a : Stp M P H H') {p : Addr} {o : HO} (hp : H' p = none) : Stp M P H (upd H' p o) :=
  ⟨fun b u e q => by
    have w := a.kp b u e q
    rw [upd_ne (ne_of_none w hp)]; exact w, fun b e => by
    by_cases q : b = p
    · subst q; rw [upd_same]; exact fun w => nomatch w
    · rw [upd_ne q]; exact a.dom b e, a.new⟩
theorem Stp.growP {M P : List Addr} (a : Stp M P H H') {p : Addr} {o : HO} (hp : H' p = none) : Stp M (p :: P) H (upd H' p o) :=
  ⟨(a.grow hp).kp, (a.grow (o := o) hp).dom, fun b hb => by
    rcases List.mem_cons.mp hb with e | hb
    · subst e; exact .inr (a.isNone hp)
    · exact a.new b hb⟩
theorem Same.grow (a : Same H H') {p : Addr} {o : HO} (hp : H' p = none) : Same H (upd H' p o) := fun b u e => by
  have w := a b u e
  rw [upd_ne (ne_of_none w hp)]; exact w
theorem RT.grow {K : PySem.W.Frag} {v : V} {t : T} {f : List Addr} (h : RT K H O v t f) {p : Addr} {o : HO} (hp : H p = none) : RT K (upd H p o) (p :: O) v t f :=
  h.kp (F := f) (fun b u e _ => by rw [upd_ne (ne_of_none e hp)]; exact e) (fun b hb => by
    rcases List.mem_cons.mp hb with e | q
    · subst e; exact .inr hp
    · exact .inl q) fun _ hb => hb
theorem RTs.grow {K : PySem.W.Frag} {v : List V} {t : List T} {f : List Addr} (h : RTs K H O v t f) {p : Addr} {o : HO} (hp : H p = none) : RTs K (upd H p o) (p :: O) v t f :=
  h.kp (F := f) (fun b u e _ => by rw [upd_ne (ne_of_none e hp)]; exact e) (fun b hb => by
    rcases List.mem_cons.mp hb with e | q
    · subst e; exact .inr hp
    · exact .inl q) fun _ hb => hb
theorem RI.grow {K : PySem.W.Frag} {v : V} {t : D} (h : RI K H O v t) {p : Addr} {o : HO} (hp : H p = none) : RI K (upd H p o) (p :: O) v t :=
  h.kp (fun b u e _ => by rw [upd_ne (ne_of_none e hp)]; exact e) (fun b hb => by
    rcases List.mem_cons.mp hb with e | q
    · subst e; exact .inr hp
    · exact .inl q)
theorem RIs.grow {K : PySem.W.Frag} {v : List V} {t : List D} (h : RIs K H O v t) {p : Addr} {o : HO} (hp : H p = none) : RIs K (upd H p o) (p :: O) v t :=
  h.kp (fun b u e _ => by rw [upd_ne (ne_of_none e hp)]; exact e) (fun b hb => by
    rcases List.mem_cons.mp hb with e | q
    · subst e; exact .inr hp
    · exact .inl q)

/-! ### readings -/
/-- behind an expression whose value is kept -/
def Po (G : Fm) (Z : List Addr) (σ : St) (O : List Addr) (H : Hp) (mu : Bool) (t : T) (r' : Env) (Q : VK) : Prop :=
  ∀ v H' O' f, Good G (f ++ Z) σ r' H' O' → f.Nodup → RT G.K H' (f ++ Z ++ O') v t f → Stp O (f ++ O') H H' → (mu = false → Same H H') → Q v H'
def tE (G : Fm) (m : ME) : TE := fun σ H Q => ∃ Z r O t r', Good G Z σ r H O ∧ ev G.C false m r = some (t, r') ∧ Po G Z σ O H m.mut t r' Q
/-- behind an operand: f its lists, g those of them that are new -/
def PoO (G : Fm) (Z : List Addr) (σ : St) (O : List Addr) (H : Hp) (mu path : Bool) (t : T) (r' : Env) (Q : VK) : Prop :=
  ∀ v H' O' f g, Good G (g ++ Z) σ r' H' O' → RT G.K H' (g ++ Z ++ O') v t f → (path = true ∨ (g = f ∧ f.Nodup)) → Stp O (g ++ O') H H' → (mu = false → Same H H') → Q v H'
def tO (G : Fm) (m : ME) : TE := fun σ H Q => ∃ Z r O t r', Good G Z σ r H O ∧ ev G.C true m r = some (t, r') ∧ PoO G Z σ O H m.mut m.path t r' Q

theorem pe_mono {X : Cx} {e : Expr} {t t' : TE} (h : PE X e t) (hh : ∀ σ H Q, t' σ H Q → t σ H Q) : PE X e t' := ⟨fun pins s σ H Q I ht => h.run pins s σ H Q I (hh _ _ _ ht)⟩
theorem pt_mono {X : Cx} {e : Expr} {t t' : TT} (h : PT X e t) (hh : ∀ σ H Q, t' σ H Q → t σ H Q) : PT X e t' := ⟨fun pins s σ H Q I ht => h.run pins s σ H Q I (hh _ _ _ ht)⟩
theorem pw_mono {X : Cx} {e : Expr} {t t' : TT} (h : PW X e t) (hh : ∀ σ H Q, t' σ H Q → t σ H Q) : PW X e t' := ⟨fun w pins s σ H Q I ht => h.run w pins s σ H Q I (hh _ _ _ ht)⟩
theorem pa_mono {X : Cx} {e : List Expr} {t t' : TA} (h : PA X e t) (hh : ∀ σ H Q, t' σ H Q → t σ H Q) : PA X e t' := ⟨fun w pins s σ H Q I ht => h.run w pins s σ H Q I (hh _ _ _ ht)⟩
theorem ps_mono {X : Cx} {e : Stmt} {t t' : TS} (h : PS X e t) (hh : ∀ D σ H, t' D σ H → t D σ H) : PS X e t' := ⟨fun pins s σ H D I ht => h.run pins s σ H D I (hh _ _ _ ht)⟩
theorem pss_mono {X : Cx} {e : List Stmt} {t t' : TS} (h : PSs X e t) (hh : ∀ D σ H, t' D σ H → t D σ H) : PSs X e t' := ⟨fun pins s σ H D I ht => h.run pins s σ H D I (hh _ _ _ ht)⟩
theorem pg_mono {X : Cx} {e : Expr} {t t' : TG} (h : PG X e t) (hh : ∀ v σ H Q, t' v σ H Q → t v σ H Q) : PG X e t' := ⟨fun pins s σ H v u Q I q ht => h.run pins s σ H v u Q I q (hh _ _ _ _ ht)⟩
theorem pi_mono {X : Cx} {tg e : Expr} {t t' : TI} (h : PI X tg e t) (hh : ∀ σ H Q, t' σ H Q → t σ H Q) : PI X tg e t' := ⟨fun pins s σ H Q I ht => h.run pins s σ H Q I (hh _ _ _ ht)⟩

/-- what is no name and no item is read alike -/
theorem ev_path (C : Callees) {m : ME} (h : m.path = false) (r : Env) : ev C true m r = ev C false m r := by
  cases m <;> first | rfl | (cases h) | (simp only [ev])
theorem tO_of {G : Fm} {m : ME} (h : m.path = false) {σ : St} {H : Hp} {Q : VK} (q : tO G m σ H Q) : tE G m σ H Q := by
  obtain ⟨Z, r, O, t, r', g, e, p⟩ := q
  refine ⟨Z, r, O, t, r', g, by rw [← ev_path G.C h]; exact e, fun v H' O' f g' nd rt st sm => ?_⟩
  exact p v H' O' f f g' rt (.inr ⟨rfl, nd⟩) st sm
/-- an operand that is reckoned anew -/
theorem d_op {X : Cx} {e : Expr} {G : Fm} {m : ME} (h : PE X e (tE G m)) (hp : m.path = false := by rfl) : PE X e (tO G m) := pe_mono h fun _ _ _ q => tO_of hp q

/-- an operand's lists stand still while the next is reckoned -/
theorem RT.stay {v : V} {t : T} {f g g2 : List Addr} {O2 : List Addr} {m2 : Bool} {H2 : Hp} {path : Bool} (h : RT G.K H' (g ++ Z ++ O') v t f) (hg : Good G (g ++ Z) σ r H' O') (hp : path = true ∨ (g = f ∧ f.Nodup))
    (hm : (m2 && path && !t.isLeaf) = false) (st : Stp O' (g2 ++ O2) H' H2) (sm : m2 = false → Same H' H2) : RT G.K H2 (g2 ++ (g ++ Z) ++ O2) v t f := by
  refine h.kp (F := f) (fun b o e q => ?_) (fun b hb => ?_) fun _ hb => hb
  · by_cases c : b ∈ O'
    · rcases q with q | q | q
      · -- a list of its own that is the slots': nothing changes
        rcases hp with hp | ⟨rfl, _⟩
        · cases t with
          | leaf d => cases h; cases q
          | node ts =>
            rw [hp] at hm
            have hm2 : m2 = false := by simpa [T.isLeaf] using hm
            exact sm hm2 b o e
        · exact absurd (List.mem_append_left _ q) (hg.dj b c)
      · exact absurd (List.mem_append_right _ c) q
      · exact st.kp b o e (.inr q)
    · exact st.kp b o e (.inl c)
  · rcases List.mem_append.mp hb with q | q
    · rcases List.mem_append.mp q with q | q
      · exact (st.new b (List.mem_append_left _ q)).imp (fun z => List.mem_append_right _ z) id
      · exact .inl (List.mem_append_left _ q)
    · exact (st.new b (List.mem_append_right _ q)).imp (fun z => List.mem_append_right _ z) id

/-- two operands, one behind the other -/
theorem two {a b : ME} {x y : T} {r1 r2 : Env} {R : V → V → Hp → Prop} (hg : Good G Z σ r H O) (ha : ev G.C true a r = some (x, r1)) (hb : ev G.C true b r1 = some (y, r2)) (hm : (b.mut && a.path && !x.isLeaf) = false)
    (k : ∀ v1 v2 H2 O2 f1 f2 g, Good G (g ++ Z) σ r2 H2 O2 → RT G.K H2 (g ++ Z ++ O2) v1 x f1 → RT G.K H2 (g ++ Z ++ O2) v2 y f2 → Stp O (g ++ O2) H H2 → ((a.mut || b.mut) = false → Same H H2) → R v1 v2 H2) :
    tO G a σ H fun v1 H1 => tO G b σ H1 fun v2 H2 => R v1 v2 H2 := by
  refine ⟨Z, r, O, x, r1, hg, ha, fun v1 H1 O1 f1 g1 G1 R1 p1 s1 m1 => ?_⟩
  refine ⟨g1 ++ Z, r1, O1, y, r2, G1, hb, fun v2 H2 O2 f2 g2 G2 R2 p2 s2 m2 => ?_⟩
  have e : g2 ++ (g1 ++ Z) = (g2 ++ g1) ++ Z := (List.append_assoc ..).symm
  have R1' := R1.stay G1 p1 (m2 := b.mut) hm s2 m2
  rw [e] at G2 R2 R1'
  refine k v1 v2 H2 O2 f1 f2 (g2 ++ g1) G2 R1' R2 ?_ fun q => ?_
  · have s1' : Stp O O1 H H1 := s1.sub fun b hb => List.mem_append_right _ hb
    refine ⟨(s1'.trans (s2.sub fun b hb => List.mem_append_right _ hb)).kp, fun b q => s2.dom b (s1.dom b q), fun b q => ?_⟩
    rcases List.mem_append.mp q with q | q
    · rcases List.mem_append.mp q with q | q
      · exact (s1'.trans s2).new b (List.mem_append_left _ q)
      · exact s1.new b (List.mem_append_left _ q)
    · exact (s1'.trans s2).new b (List.mem_append_right _ q)
  · rw [Bool.or_eq_false_iff] at q
    exact (m1 q.1).trans (m2 q.2)

/-! ### how a value ends an expression -/
section
variable {O2 : List Addr} {H2 : Hp} {r2 : Env} {mu : Bool} {Q : VK}
/-- plain -/
theorem fin_leaf {v : V} {d : D} (z : ∀ b ∈ G.Z0, b ∈ Z) (p : Po G Z σ O H mu (.leaf d) r2 Q) (hg : Good G (g ++ Z) σ r2 H2 O2) (st : Stp O (g ++ O2) H H2) (sm : mu = false → Same H H2) (ri : RI G.K H2 (Z ++ O2) v d) : Q v H2 :=
  p v H2 O2 [] (hg.drop z) List.nodup_nil (.leaf ri) (st.sub fun b hb => List.mem_append_right _ hb) sm
theorem sub_right {A B C : List Addr} : ∀ b ∈ A ++ B, b ∈ C ++ A ++ B := fun b hb => by
  rw [List.append_assoc]; exact List.mem_append_right _ hb
theorem fin_cpy {v : V} {d : D} (z : ∀ b ∈ G.Z0, b ∈ Z) (p : Po G Z σ O H mu (.leaf d) r2 Q) (hg : Good G (g ++ Z) σ r2 H2 O2) (st : Stp O (g ++ O2) H H2) (sm : mu = false → Same H H2) (ri : RI G.K H2 (g ++ Z ++ O2) v d) : Q v H2 :=
  fin_leaf z p hg st sm (ri.less sub_right)
/-- a new tuple -/
theorem fin_tup {vs : List V} {ds : List D} (z : ∀ b ∈ G.Z0, b ∈ Z) (p : Po G Z σ O H mu (.leaf (.tup ds)) r2 Q) (hg : Good G (g ++ Z) σ r2 H2 O2) (st : Stp O (g ++ O2) H H2) (sm : mu = false → Same H H2) (ri : RIs G.K H2 (g ++ Z ++ O2) vs ds) {a : Addr} (ha : H2 a = none) :
    Q (.ref a) (upd H2 a (.tup vs)) := by
  refine fin_leaf z p (hg.grow ha) (st.grow ha) (fun q => Same.grow (sm q) ha) (.tup (SqT.of upd_same) ?_)
  exact (ri.less sub_right).kp (fun b u e _ => by rw [upd_ne (ne_of_none e ha)]; exact e) fun b hb => .inl hb
/-- a new list: its items' own lists are new as well -/
theorem fin_lst {vs : List V} {ts : List T} {f : List Addr} (z : ∀ b ∈ G.Z0, b ∈ Z) (p : Po G Z σ O H mu (.node ts) r2 Q) (hg : Good G (g ++ Z) σ r2 H2 O2) (st : Stp O (g ++ O2) H H2) (sm : mu = false → Same H H2)
    (rt : RTs G.K H2 (g ++ Z ++ O2) vs ts f) (fg : ∀ b ∈ f, b ∈ g) (nd : f.Nodup) {a : Addr} (ha : H2 a = none) : Q (.ref a) (upd H2 a (.lst vs)) := by
  have hg' : Good G (f ++ Z) σ r2 H2 O2 := hg.less (fun b hb => by
    rcases List.mem_append.mp hb with q | q
    · exact List.mem_append_left _ (fg b q)
    · exact List.mem_append_right _ q) fun b hb => List.mem_append_right _ (z b hb)
  refine p _ _ O2 (a :: f) (hg'.growZ ha) (List.nodup_cons.mpr ⟨fun q => ?_, nd⟩) (.node upd_same ?_) ?_ fun q => Same.grow (sm q) ha
  · exact hg'.zd a (List.mem_append_left _ q) ha
  · refine RTs.grow (rt.less fun b hb => ?_) ha
    rcases List.mem_append.mp hb with q | q
    · rcases List.mem_append.mp q with q | q
      · exact List.mem_append_left _ (List.mem_append_left _ (fg b q))
      · exact List.mem_append_left _ (List.mem_append_right _ q)
    · exact List.mem_append_right _ q
  · refine Stp.growP (st.sub fun b hb => ?_) ha
    rcases List.mem_append.mp hb with q | q
    · exact List.mem_append_left _ (fg b q)
    · exact List.mem_append_right _ q
theorem fin_lst0 {vs : List V} {ds : List D} (z : ∀ b ∈ G.Z0, b ∈ Z) (p : Po G Z σ O H mu (.node (ds.map T.leaf)) r2 Q) (hg : Good G (g ++ Z) σ r2 H2 O2) (st : Stp O (g ++ O2) H H2) (sm : mu = false → Same H H2)
    (rt : RIs G.K H2 (g ++ Z ++ O2) vs ds) {a : Addr} (ha : H2 a = none) : Q (.ref a) (upd H2 a (.lst vs)) :=
  fin_lst z p hg st sm rt.leaves (fun _ q => nomatch q) List.nodup_nil ha
end
end
end PD

/-! Rules: names, constants, operators, comparisons, subscripts. -/
namespace PD
open PySem L2

section
variable {X : Cx} {G : Fm} {e : Expr} {i : Nat}

theorem getD_set_none (r : Env) (i : Nat) : (r.set i none).getD i none = none := by
  rw [List.getD_eq_getElem?_getD, List.getElem?_set]
  split
  · split <;> rfl
  · rename_i h; exact absurd rfl h

/-- a slot's own list is frozen -/
theorem Good.freeze {Z : List Addr} {σ : St} {r : Env} {H : Hp} {O : List Addr} {t : T} (h : Good G Z σ r H O) (e : r.getD i none = some t) :
    ∃ v O', σ[i]? = some (some v) ∧ Good G Z σ (r.set i (some (.leaf t.frz))) H O' ∧ RI G.K H (Z ++ O') v t.frz ∧ ∀ b ∈ O', b ∈ O := by
  obtain ⟨A, g, B, eO, _, hv, hc, _⟩ := h.re.clear i
  obtain ⟨v, hσ, rt⟩ := hv t e
  have nd := h.nd
  rw [eO] at nd
  have sub : ∀ b ∈ A ++ B, b ∈ O := fun b hb => by
    rw [eO]
    rcases List.mem_append.mp hb with q | q
    · exact List.mem_append_left _ (List.mem_append_left _ q)
    · exact List.mem_append_right _ q
  have gout : ∀ b ∈ g, b ∉ A ++ B := fun b hb q => by
    rw [List.append_assoc] at nd
    rcases List.mem_append.mp q with q | q
    · exact (List.nodup_append.mp nd).2.2 b q b (List.mem_append_left _ hb) rfl
    · exact (List.nodup_append.mp (List.nodup_append.mp nd).2.1).2.2 b hb b q rfl
  have gO : ∀ b ∈ g, b ∈ O := fun b hb => by rw [eO]; exact List.mem_append_left _ (List.mem_append_right _ hb)
  have lessW : ∀ b ∈ Z ++ (A ++ B), b ∈ Z ++ O := fun b hb => by
    rcases List.mem_append.mp hb with q | q
    · exact List.mem_append_left _ q
    · exact List.mem_append_right _ (sub b q)
  have ri : RI G.K H (Z ++ (A ++ B)) v t.frz := rt.frz lessW fun b hb q => by
    rcases List.mem_append.mp q with q | q
    · exact h.dj b (gO b hb) q
    · exact gout b hb q
  obtain ⟨f', re', pm⟩ := (hc.less lessW).fill (getD_set_none r i) hσ (.leaf ri)
  rw [List.set_set] at re'
  have mem : ∀ b, b ∈ f' ↔ b ∈ A ++ B := fun b => by simpa using pm.mem_iff (a := b)
  have lessF : ∀ b ∈ Z ++ f', b ∈ Z ++ (A ++ B) := fun b hb => by
    rcases List.mem_append.mp hb with q | q
    · exact List.mem_append_left _ q
    · exact List.mem_append_right _ ((mem b).mp q)
  refine ⟨v, f', hσ, ⟨re'.less lessF, ?_, fun b hb => h.dj b (sub b ((mem b).mp hb)), h.zd, h.z0, h.st.sub fun b hb => sub b ((mem b).mp hb), h.iv⟩, ri.less lessF, fun b hb => sub b ((mem b).mp hb)⟩
  refine pm.nodup_iff.mpr ?_
  rw [List.nil_append]
  refine List.Nodup.sublist ?_ nd
  rw [List.append_assoc]
  exact List.Sublist.append_left (List.sublist_append_right g B) A
/-- a slot's own list is taken out -/
theorem Good.move {Z : List Addr} {σ : St} {r : Env} {H : Hp} {O : List Addr} {t : T} (h : Good G Z σ r H O) (e : r.getD i none = some t) :
    ∃ v O' f, σ[i]? = some (some v) ∧ Good G (f ++ Z) σ (r.set i none) H O' ∧ RT G.K H (f ++ Z ++ O') v t f ∧ f.Nodup ∧ (∀ b ∈ f, b ∈ O) ∧ (∀ b ∈ O', b ∈ O) ∧ (∀ b ∈ O, b ∈ f ∨ b ∈ O') := by
  obtain ⟨A, g, B, eO, _, hv, hc, _⟩ := h.re.clear i
  obtain ⟨v, hσ, rt⟩ := hv t e
  have nd := h.nd
  rw [eO] at nd
  have sub : ∀ b ∈ A ++ B, b ∈ O := fun b hb => by
    rw [eO]
    rcases List.mem_append.mp hb with q | q
    · exact List.mem_append_left _ (List.mem_append_left _ q)
    · exact List.mem_append_right _ q
  have gout : ∀ b ∈ A ++ B, b ∉ g := fun b q hb => by
    rw [List.append_assoc] at nd
    rcases List.mem_append.mp q with q | q
    · exact (List.nodup_append.mp nd).2.2 b q b (List.mem_append_left _ hb) rfl
    · exact (List.nodup_append.mp (List.nodup_append.mp nd).2.1).2.2 b hb b q rfl
  have gO : ∀ b ∈ g, b ∈ O := fun b hb => by rw [eO]; exact List.mem_append_left _ (List.mem_append_right _ hb)
  have lessW : ∀ b ∈ g ++ Z ++ (A ++ B), b ∈ Z ++ O := fun b hb => by
    rcases List.mem_append.mp hb with q | q
    · rcases List.mem_append.mp q with q | q
      · exact List.mem_append_right _ (gO b q)
      · exact List.mem_append_left _ q
    · exact List.mem_append_right _ (sub b q)
  refine ⟨v, A ++ B, g, hσ, ⟨hc.less lessW, ?_, fun b hb q => ?_, fun b hb => ?_, fun b hb => List.mem_append_right _ (h.z0 b hb), h.st.sub sub, h.iv⟩, rt.less lessW, ?_, gO, sub, fun b hb => ?_⟩
  · refine List.Nodup.sublist ?_ nd
    rw [List.append_assoc]
    exact List.Sublist.append_left (List.sublist_append_right g B) A
  · rcases List.mem_append.mp q with q | q
    · exact gout b hb q
    · exact h.dj b (sub b hb) q
  · rcases List.mem_append.mp hb with q | q
    · exact h.od b (gO b q)
    · exact h.zd b q
  · rw [List.append_assoc] at nd
    exact (List.nodup_append.mp (List.nodup_append.mp nd).2.1).1
  · rw [eO] at hb
    rcases List.mem_append.mp hb with q | q
    · rcases List.mem_append.mp q with q | q
      · exact .inr (List.mem_append_left _ q)
      · exact .inl q
    · exact .inr (List.mem_append_right _ q)

/-! ### names -/
theorem d_var (h : PE X e (tVar i)) : PE X e (tE G (.var i)) := pe_mono h fun σ H Q q => by
  obtain ⟨Z, r, O, t, r', hg, ev, p⟩ := q
  simp only [PD.ev] at ev
  cases q : r.getD i none with
  | none => rw [q] at ev; cases ev
  | some t0 =>
    rw [q] at ev
    simp only [Bool.false_or] at ev
    split at ev
    · rename_i hl
      simp only [Option.some.injEq, Prod.mk.injEq] at ev
      obtain ⟨rfl, rfl⟩ := ev
      obtain ⟨v, A, g, B, hσ, eO, rt⟩ := hg.re.get q
      cases t0 with
      | node _ => cases hl
      | leaf d =>
        cases rt with
        | leaf ri => exact ⟨v, hσ, p v H O [] hg List.nodup_nil (.leaf ri) (Stp.refl _ _) fun _ => Same.refl _⟩
    · cases ev
theorem d_varO (h : PE X e (tVar i)) : PE X e (tO G (.var i)) := pe_mono h fun σ H Q q => by
  obtain ⟨Z, r, O, t, r', hg, ev, p⟩ := q
  simp only [PD.ev] at ev
  cases q : r.getD i none with
  | none => rw [q] at ev; cases ev
  | some t0 =>
    rw [q] at ev
    simp only [Bool.true_or, if_true, Option.some.injEq, Prod.mk.injEq] at ev
    obtain ⟨rfl, rfl⟩ := ev
    obtain ⟨v, A, g, B, hσ, eO, rt⟩ := hg.re.get q
    exact ⟨v, hσ, p v H O g [] hg rt (.inl rfl) (Stp.refl _ _) fun _ => Same.refl _⟩
theorem d_frz (h : PE X e (tVar i)) : PE X e (tE G (.frz i)) := pe_mono h fun σ H Q q => by
  obtain ⟨Z, r, O, t, r', hg, ev, p⟩ := q
  simp only [PD.ev] at ev
  cases q : r.getD i none with
  | none => rw [q] at ev; cases ev
  | some t0 =>
    rw [q] at ev
    simp only [Option.some.injEq, Prod.mk.injEq] at ev
    obtain ⟨rfl, rfl⟩ := ev
    obtain ⟨v, O', hσ, g', ri, sub⟩ := hg.freeze q
    exact ⟨v, hσ, p v H O' [] g' List.nodup_nil (.leaf ri) ((Stp.refl O H).sub sub) fun _ => Same.refl _⟩
theorem d_mv (h : PE X e (tVar i)) : PE X e (tE G (.mv i)) := pe_mono h fun σ H Q q => by
  obtain ⟨Z, r, O, t, r', hg, ev, p⟩ := q
  simp only [PD.ev] at ev
  cases q : r.getD i none with
  | none => rw [q] at ev; cases ev
  | some t0 =>
    rw [q] at ev
    simp only [Option.some.injEq, Prod.mk.injEq] at ev
    obtain ⟨rfl, rfl⟩ := ev
    obtain ⟨v, O', f, hσ, g', rt, nd, s1, s2, _⟩ := hg.move q
    exact ⟨v, hσ, p v H O' f g' nd rt ((Stp.refl O H).sub fun b hb => (List.mem_append.mp hb).elim (s1 b) (s2 b)) fun _ => Same.refl _⟩

/-! ### constants -/
theorem d_cst {v : V} {d : D} (h : PE X e (tC v)) (hd : ∀ H O, RI G.K H O v d) : PE X e (tE G (.cst d)) := pe_mono h fun σ H Q q => by
  obtain ⟨Z, r, O, t, r', hg, ev, p⟩ := q
  simp only [PD.ev, Option.some.injEq, Prod.mk.injEq] at ev
  obtain ⟨rfl, rfl⟩ := ev
  exact p v H O [] hg List.nodup_nil (.leaf (hd _ _)) (Stp.refl _ _) fun _ => Same.refl _
theorem d_int {k : Int} {j pos} : PE X (.Constant (.int k) j pos) (tE G (.cst (.int k))) := d_cst pe_int fun _ _ => .int k
theorem d_bl {k : Bool} {j pos} : PE X (.Constant (.bool k) j pos) (tE G (.cst (.bl k))) := d_cst pe_bl fun _ _ => .bl k
theorem d_non {j pos} : PE X (.Constant .none j pos) (tE G (.cst .non)) := d_cst pe_non fun _ _ => .non
theorem d_str {k : Str} {j pos} : PE X (.Constant (.str k) j pos) (tE G (.cst (.str k))) := d_cst pe_str fun _ _ => .str k
theorem d_gint {x : Str} {k : Int} {pos} (h : PE X (.Name x pos) (tC (.int k))) : PE X (.Name x pos) (tE G (.cst (.int k))) := d_cst h fun _ _ => .int k
theorem d_gstr {x : Str} {k : Str} {pos} (h : PE X (.Name x pos) (tC (.str k))) : PE X (.Name x pos) (tE G (.cst (.str k))) := d_cst h fun _ _ => .str k
/-- -k -/
theorem d_neg {k : Int} {j pos pos'} : PE X (.UnaryOp .USub (.Constant (.int k) j pos) pos') (tE G (.cst (.int (-k)))) :=
  d_cst (v := .int (-k)) (pe_mono (pe_un un_neg pe_int) fun σ H Q q => ⟨k, rfl, q⟩) fun _ _ => .int _
end

/-! ### how a reckoned value may end -/
/-- plain as it stands, a new tuple, a new list of plain items -/
structure Fin (K : PySem.W.Frag) (H : Hp) (W : List Addr) (z : T) (Q : VK) : Prop where
  leaf : ∀ v d, z = .leaf d → RI K H W v d → Q v H
  tup : ∀ vs ds a, z = .leaf (.tup ds) → RIs K H W vs ds → H a = none → Q (.ref a) (upd H a (.tup vs))
  lst : ∀ vs ds a, z = .node (ds.map T.leaf) → RIs K H W vs ds → H a = none → Q (.ref a) (upd H a (.lst vs))
theorem fin_of {G : Fm} {Z O g O2 : List Addr} {σ : St} {H H2 : Hp} {r2 : Env} {mu : Bool} {Q : VK} {t : T} (z : ∀ b ∈ G.Z0, b ∈ Z) (p : Po G Z σ O H mu t r2 Q) (hg : Good G (g ++ Z) σ r2 H2 O2) (st : Stp O (g ++ O2) H H2) (sm : mu = false → Same H H2) :
    Fin G.K H2 (g ++ Z ++ O2) t Q where
  leaf := fun v d e ri => by subst e; exact fin_cpy z p hg st sm ri
  tup := fun vs ds a e ri ha => by subst e; exact fin_tup z p hg st sm ri ha
  lst := fun vs ds a e ri ha => by subst e; exact fin_lst0 z p hg st sm ri ha

theorem lim_eq : lim = sizeLine := by decide
theorem RT.lst? {K : PySem.W.Frag} {H : Hp} {W : List Addr} {v : V} {x : T} {f : List Addr} {ds : List D} (h : RT K H W v x f) (e : x.lst? = some ds) : ∃ a vs, v = .ref a ∧ H a = some (.lst vs) ∧ RIs K H W vs ds := by
  cases h with
  | leaf ri =>
    cases ri with
    | lst h n t =>
      simp only [T.lst?, Option.some.injEq] at e
      subst e
      exact ⟨_, _, rfl, h, t⟩
    | _ => simp [T.lst?] at e
  | node h q =>
    simp only [T.lst?] at e
    exact ⟨_, _, rfl, h, (q.leaves e).1⟩

/-- an operator's rule fits what the language says of it -/
def OpOk (K : PySem.W.Frag) (rr : R2) (f : T → T → Option T) : Prop :=
  ∀ x y z v1 v2 f1 f2 H W (Q : VK), f x y = some z → RT K H W v1 x f1 → RT K H W v2 y f2 → Fin K H W z Q → rr v1 v2 H Q

theorem ev_bin {C : Callees} {k : Bool} {op : Bop} {a b : ME} {r r' : Env} {t : T} (e : ev C k (.bin op a b) r = some (t, r')) :
    ∃ x r1 y, ev C true a r = some (x, r1) ∧ ev C true b r1 = some (y, r') ∧ (b.mut && a.path && !x.isLeaf) = false ∧ binop op x y = some t := by
  simp only [ev, Option.bind_eq_bind, Option.bind_eq_some_iff, Prod.exists] at e
  obtain ⟨x, r1, e1, y, r2, e2, e3⟩ := e
  split at e3
  · cases e3
  · rename_i h
    simp only [Option.map_eq_some_iff, Prod.mk.injEq] at e3
    obtain ⟨z, e4, rfl, rfl⟩ := e3
    exact ⟨x, r1, y, e1, e2, by simpa using h, e4⟩
theorem ev_cmp {C : Callees} {k : Bool} {op : Cop} {a b : ME} {r r' : Env} {t : T} (e : ev C k (.cmp op a b) r = some (t, r')) :
    ∃ x r1 y c, ev C true a r = some (x, r1) ∧ ev C true b r1 = some (y, r') ∧ (b.mut && a.path && !x.isLeaf) = false ∧ cmpop op x y = some c ∧ t = .leaf (.bl c) := by
  simp only [ev, Option.bind_eq_bind, Option.bind_eq_some_iff, Prod.exists] at e
  obtain ⟨x, r1, e1, y, r2, e2, e3⟩ := e
  split at e3
  · cases e3
  · rename_i h
    simp only [Option.map_eq_some_iff, Prod.mk.injEq] at e3
    obtain ⟨z, e4, rfl, rfl⟩ := e3
    exact ⟨x, r1, y, z, e1, e2, by simpa using h, e4, rfl⟩

section
variable {X : Cx} {G : Fm} {a b : Expr} {ma mb : ME} {pos : Pos}
theorem d_bin {o : Operator} {op : Bop} {rr : R2} (ho : OpR X (binaryOp o) rr) (hk : OpOk G.K rr (binop op)) (ha : PE X a (tO G ma)) (hb : PE X b (tO G mb)) : PE X (.BinOp a o b pos) (tE G (.bin op ma mb)) :=
  pe_mono (pe_op ho ha hb) fun σ H Q q => by
    obtain ⟨Z, r, O, t, r', hg, e, p⟩ := q
    obtain ⟨x, r1, y, e1, e2, hm, e3⟩ := ev_bin e
    refine two hg e1 e2 hm fun v1 v2 H2 O2 f1 f2 g G2 R1 R2 st sm => ?_
    exact hk x y t v1 v2 f1 f2 H2 _ Q e3 R1 R2 (fin_of hg.z0 p G2 st sm)
/-- what a comparison of operands asks -/
def CmpOk (K : PySem.W.Frag) (rr : R2) (op : Cop) : Prop := OpOk K rr fun x y => (cmpop op x y).map fun c => .leaf (.bl c)
theorem i_cmp {op : Cop} {rr : R2} (hk : CmpOk G.K rr op) {σ : St} {H : Hp} {Q : VK} (q : tE G (.cmp op ma mb) σ H Q) : tOp rr (tO G ma) (tO G mb) σ H Q := by
  obtain ⟨Z, r, O, t, r', hg, e, p⟩ := q
  obtain ⟨x, r1, y, c, e1, e2, hm, e3, rfl⟩ := ev_cmp e
  refine two hg e1 e2 hm fun v1 v2 H2 O2 f1 f2 g G2 R1 R2 st sm => ?_
  exact hk x y _ v1 v2 f1 f2 H2 _ Q (by show (cmpop op x y).map _ = _; rw [e3]; rfl) R1 R2 (fin_of hg.z0 p G2 st sm)
theorem d_cmp {o : CmpOp} {op : Cop} {rr : R2} (ho : OpR X (compareOp o) rr) (hk : CmpOk G.K rr op) (ha : PE X a (tO G ma)) (hb : PE X b (tO G mb)) (hm : behindInMarks o b = false) : PE X (.Compare a [o] [b] pos) (tE G (.cmp op ma mb)) :=
  pe_mono (pe_cmpR ho ha hb hm) fun _ _ _ q => i_cmp hk q
/-- a test -/
def tT (G : Fm) (m : ME) : TT := tTest (tE G m)
theorem t_cmp {o : CmpOp} {op : Cop} {rr : R2} (ho : OpR X (compareOp o) rr) (hk : CmpOk G.K rr op) (ha : PE X a (tO G ma)) (hb : PE X b (tO G mb)) (hm : behindInMarks o b = false) : PT X (.Compare a [o] [b] pos) (tT G (.cmp op ma mb)) :=
  pt_mono (pt_cmpR ho ha hb hm) fun _ _ _ q => i_cmp hk q
end

/-! ### each operator's rule fits -/
section
variable {K : PySem.W.Frag} {X : Cx}
theorem RI.int_inv {H : Hp} {W : List Addr} {v : V} {i : Int} (h : RI K H W v (.int i)) : v = .int i := by cases h; rfl
theorem RT.int_inv {H : Hp} {W f : List Addr} {v : V} {i : Int} (h : RT K H W v (.leaf (.int i)) f) : v = .int i := by cases h with | leaf h => exact h.int_inv
theorem RT.str_inv {H : Hp} {W f : List Addr} {v : V} {i : Str} (h : RT K H W v (.leaf (.str i)) f) : v = .str i := by cases h with | leaf h => cases h; rfl
theorem RT.non_inv {H : Hp} {W f : List Addr} {v : V} (h : RT K H W v (.leaf .non) f) : v = .non := by cases h with | leaf h => cases h; rfl
theorem RT.bl_inv {H : Hp} {W f : List Addr} {v : V} {i : Bool} (h : RT K H W v (.leaf (.bl i)) f) : v = .bl i := by cases h with | leaf h => cases h; rfl
theorem RT.tup_inv {H : Hp} {W f : List Addr} {v : V} {ds : List D} (h : RT K H W v (.leaf (.tup ds)) f) : ∃ a vs, v = .ref a ∧ SqT K H a vs ∧ RIs K H W vs ds := by
  cases h with
  | leaf h => cases h with | tup h t => exact ⟨_, _, rfl, h, t⟩
theorem nil_of_len {α β : Type} {xs : List α} {ys : List β} (h : xs.length = ys.length) : xs = [] → ys = [] := fun e => by
  subst e; exact List.length_eq_zero_iff.mp h.symm

def rAddA (K : PySem.W.Frag) : R2 := fun x y H Q => rI0 (fun i j => .int (i + j)) x y H Q ∨ (∃ i j, x = .str i ∧ y = .str j ∧ i.length + j.length ≤ sizeLine ∧ Q (.str (i ++ j)) H) ∨ rCatA K x y H Q ∨ rCat x y H Q
theorem op_addA : OpR X (binaryOp .Add) (rAddA X.K) := op_add.or (op_add_str.or (op_catA.or op_cat))
theorem ok_add : OpOk K (rAddA K) (binop .add) := by
  intro x y z v1 v2 f1 f2 H W Q e h1 h2 fin
  have lists : ∀ a b, x.lst? = some a → y.lst? = some b → a.length + b.length ≤ lim → z = .node ((a ++ b).map T.leaf) → rAddA K v1 v2 H Q := fun a b ea eb hl ez => by
    obtain ⟨p, vs, rfl, hp, rs⟩ := h1.lst? ea
    obtain ⟨q, ws, rfl, hq, rs'⟩ := h2.lst? eb
    refine .inr (.inr (.inr ⟨p, q, vs, ws, rfl, rfl, hp, hq, ?_, fun l hl' => fin.lst _ _ l ez (rs.append rs') hl'⟩))
    rw [rs.len, rs'.len, ← lim_eq]; exact hl
  have other : (match x.lst?, y.lst? with
      | some a, some b => if a.length + b.length ≤ lim then some (T.node ((a ++ b).map T.leaf)) else none
      | _, _ => none) = some z → rAddA K v1 v2 H Q := fun e => by
    split at e
    · rename_i a b ea eb
      split at e
      · rename_i hl
        exact lists a b ea eb hl (Option.some.inj e).symm
      · cases e
    · cases e
  cases x with
  | node xs => exact other e
  | leaf dx =>
    cases dx with
    | int i =>
      cases y with
      | leaf dy =>
        cases dy with
        | int j =>
          simp only [binop, Option.some.injEq] at e
          subst e
          exact .inl ⟨i, j, h1.int_inv, h2.int_inv, fin.leaf _ _ rfl (.int _)⟩
        | _ => exact other e
      | node ys => exact other e
    | str i =>
      cases y with
      | leaf dy =>
        cases dy with
        | str j =>
          simp only [binop] at e
          split at e
          · rename_i hl
            have e := (Option.some.inj e).symm
            exact .inr (.inl ⟨i, j, h1.str_inv, h2.str_inv, by rw [← lim_eq]; exact hl, fin.leaf _ _ e (.str _)⟩)
          · cases e
        | _ => exact other e
      | node ys => exact other e
    | tup xs =>
      cases y with
      | leaf dy =>
        cases dy with
        | tup ys =>
          simp only [binop] at e
          split at e
          · rename_i hl
            have e := (Option.some.inj e).symm
            obtain ⟨p, vs, rfl, hp, rs⟩ := h1.tup_inv
            obtain ⟨q, ws, rfl, hq, rs'⟩ := h2.tup_inv
            refine .inr (.inr (.inl ⟨p, q, vs, ws, rfl, rfl, hp, hq, by rw [rs.len, rs'.len, ← lim_eq]; exact hl, fun e0 => ?_, fun _ e0 => ?_, fun _ _ l hl' => fin.tup _ _ l e (rs.append rs') hl'⟩))
            · have := nil_of_len rs.len e0
              subst this
              exact fin.leaf _ _ (by rw [e]; rfl) (.tup hq rs')
            · have := nil_of_len rs'.len e0
              subst this
              exact fin.leaf _ _ (by rw [e, List.append_nil]) (.tup hp rs)
          · cases e
        | _ => exact other e
      | node ys => exact other e
    | _ => exact other e
theorem two_ints {op : Bop} {x y z : T} (e : binop op x y = some z) (h : op ≠ .add) (h2 : op ≠ .mul) : ∃ i j, x = .leaf (.int i) ∧ y = .leaf (.int j) := by
  cases op with
  | add => exact absurd rfl h
  | mul => exact absurd rfl h2
  | _ =>
    cases x with
    | node _ => simp [binop] at e
    | leaf dx =>
      cases dx with
      | int i =>
        cases y with
        | node _ => simp [binop] at e
        | leaf dy =>
          cases dy with
          | int j => exact ⟨i, j, rfl, rfl⟩
          | _ => simp [binop] at e
      | _ => simp [binop] at e
theorem ok_sub : OpOk K (rI0 fun i j => .int (i - j)) (binop .sub) := by
  intro x y z v1 v2 f1 f2 H W Q e h1 h2 fin
  obtain ⟨i, j, rfl, rfl⟩ := two_ints e (by simp) (by simp)
  simp only [binop, Option.some.injEq] at e
  subst e
  exact ⟨_, _, h1.int_inv, h2.int_inv, fin.leaf _ _ rfl (.int _)⟩
theorem ok_md : OpOk K (rI (fun _ j => 0 < j) fun i j => .int (i % j)) (binop .md) := by
  intro x y z v1 v2 f1 f2 H W Q e h1 h2 fin
  obtain ⟨i, j, rfl, rfl⟩ := two_ints e (by simp) (by simp)
  simp only [binop] at e
  split at e
  · rename_i hj
    simp only [Option.some.injEq] at e
    subst e
    exact ⟨_, _, h1.int_inv, h2.int_inv, hj, fin.leaf _ _ rfl (.int _)⟩
  · cases e
theorem ok_fdv : OpOk K (rI CDivW fun i j => .int (i / j)) (binop .fdv) := by
  intro x y z v1 v2 f1 f2 H W Q e h1 h2 fin
  obtain ⟨i, j, rfl, rfl⟩ := two_ints e (by simp) (by simp)
  simp only [binop] at e
  split at e
  · rename_i hj
    simp only [Option.some.injEq] at e
    subst e
    exact ⟨_, _, h1.int_inv, h2.int_inv, wide_div (b := 64) hj.1 (by have := hj.2; omega) (by decide) (by decide), fin.leaf _ _ rfl (.int _)⟩
  · cases e
theorem ok_pow : OpOk K (rI CPow fun i j => .int (i ^ j.toNat)) (binop .pow) := by
  intro x y z v1 v2 f1 f2 H W Q e h1 h2 fin
  obtain ⟨i, j, rfl, rfl⟩ := two_ints e (by simp) (by simp)
  simp only [binop] at e
  split at e
  · rename_i hj
    simp only [Option.some.injEq] at e
    subst e
    exact ⟨_, _, h1.int_inv, h2.int_inv, hj, fin.leaf _ _ rfl (.int _)⟩
  · cases e
def rMulA (K : PySem.W.Frag) : R2 := fun x y H Q => rI CMul (fun i j => .int (i * j)) x y H Q ∨ rRep x y H Q ∨ rRepT K x y H Q
theorem op_mulA : OpR X (binaryOp .Mult) (rMulA X.K) := op_mul.or (op_rep.or op_repT)
theorem ok_mul : OpOk K (rMulA K) (binop .mul) := by
  intro x y z v1 v2 f1 f2 H W Q e h1 h2 fin
  have rest : ∀ k, y = .leaf (.int k) → (match x.lst? with
      | some a => if -(2 ^ 63) ≤ k ∧ k < 2 ^ 63 ∧ a.length * k.toNat ≤ lim then some (T.node (((List.replicate k.toNat a).flatten).map T.leaf)) else none
      | none => match x with
        | .leaf (.tup a) => if a ≠ [] ∧ 2 ≤ k ∧ k ≤ 1000 ∧ a.length ≤ 1000 then some (T.leaf (.tup (List.replicate k.toNat a).flatten)) else none
        | _ => none) = some z → rMulA K v1 v2 H Q := fun k ek e => by
    subst ek
    split at e
    · rename_i a ea
      split at e
      · rename_i hl
        obtain ⟨p, vs, rfl, hp, rs⟩ := h1.lst? ea
        have e := (Option.some.inj e).symm
        refine .inr (.inl ⟨p, k, vs, rfl, h2.int_inv, hp, hl.1, hl.2.1, ?_, fun l hl' => fin.lst _ _ l e (rs.rep _) hl'⟩)
        rw [rs.len, ← lim_eq]; exact hl.2.2
      · cases e
    · cases x with
      | node _ => cases e
      | leaf dx =>
        cases dx with
        | tup a =>
          dsimp only at e
          split at e
          · rename_i hl
            obtain ⟨p, vs, rfl, hp, rs⟩ := h1.tup_inv
            have e := (Option.some.inj e).symm
            refine .inr (.inr ⟨p, k, vs, rfl, h2.int_inv, hp, fun q => hl.1 (nil_of_len rs.len q), hl.2.1, hl.2.2.1, by rw [rs.len]; exact hl.2.2.2, fun l hl' => fin.tup _ _ l e (rs.rep _) hl'⟩)
          · cases e
        | _ => cases e
  cases y with
  | node _ => cases x with
    | node _ => simp [binop] at e
    | leaf d => cases d <;> simp [binop] at e
  | leaf dy =>
    cases dy with
    | int k =>
      cases x with
      | node ts => exact rest k rfl e
      | leaf dx =>
        cases dx with
        | int i =>
          simp only [binop] at e
          split at e
          · rename_i hm
            simp only [Option.some.injEq] at e
            subst e
            unfold mulOk at hm
            have hm := of_decide_eq_true hm
            exact .inl ⟨_, _, h1.int_inv, h2.int_inv, hm, fin.leaf _ _ rfl (.int _)⟩
          · cases e
        | _ => exact rest k rfl e
    | _ => cases x with
      | node _ => simp [binop] at e
      | leaf d => cases d <;> simp [binop] at e

/-! ### comparisons -/
theorem cmp_two {op : Cop} {x y z : T} {f : T → T → Option Bool} (e : (f x y).map (fun c => T.leaf (.bl c)) = some z) : ∃ c, f x y = some c ∧ z = .leaf (.bl c) := by
  rw [Option.map_eq_some_iff] at e
  obtain ⟨c, h1, h2⟩ := e
  exact ⟨c, h1, h2.symm⟩
theorem ok_ord {op : Cop} {p : Int → Int → Bool} (h : ∀ x y, cmpop op x y = match x, y with | .leaf (.int i), .leaf (.int j) => some (p i j) | _, _ => none) : CmpOk K (rI0 fun i j => .bl (p i j)) op := by
  intro x y z v1 v2 f1 f2 H W Q e h1 h2 fin
  obtain ⟨c, e1, rfl⟩ := cmp_two (op := op) e
  rw [h] at e1
  split at e1
  · simp only [Option.some.injEq] at e1
    subst e1
    exact ⟨_, _, h1.int_inv, h2.int_inv, fin.leaf _ _ rfl (.bl _)⟩
  · cases e1
theorem ok_lt : CmpOk K (rI0 fun i j => .bl (decide (i < j))) .lt := ok_ord fun x y => rfl
theorem ok_le : CmpOk K (rI0 fun i j => .bl (decide (i ≤ j))) .le := ok_ord fun x y => rfl
theorem ok_gt : CmpOk K (rI0 fun i j => .bl (decide (j < i))) .gt := ok_ord fun x y => rfl
theorem ok_ge : CmpOk K (rI0 fun i j => .bl (decide (j ≤ i))) .ge := ok_ord fun x y => rfl

mutual
def D.py : D → PyData
  | .non => .none
  | .bl b => .bool b
  | .int i => .int i
  | .str s => .str s
  | .tup ds => .tuple (D.pys ds)
  | .lst ds => .list (D.pys ds)
  | .scr _ => .none
def D.pys : List D → List PyData
  | [] => []
  | d :: r => D.py d :: D.pys r
end
mutual
theorem RI.dp {H : Hp} {W : List Addr} : ∀ {v : V} {d : D}, RI K H W v d → d.plain = true → Dp K H v d.py
  | _, _, .non, _ => .non
  | _, _, .bl b, _ => .bl b
  | _, _, .int b, _ => .int b
  | _, _, .str b, _ => .str b
  | _, _, .tup h t, p => by rw [D.py]; exact .tup h (RIs.dp t (by simpa [D.plain] using p))
  | _, _, .lst h _ t, p => by rw [D.py]; exact .lst (SqL.of h) (RIs.dp t (by simpa [D.plain] using p))
  | _, _, .scr _, p => by simp [D.plain] at p
theorem RIs.dp {H : Hp} {W : List Addr} : ∀ {vs : List V} {ds : List D}, RIs K H W vs ds → D.plains ds = true → DpAll K H vs (D.pys ds)
  | _, _, .nil, _ => .nil
  | _, _, .cons h t, p => by
    simp only [D.plains, Bool.and_eq_true] at p
    exact .cons (RI.dp h p.1) (RIs.dp t p.2)
end
mutual
theorem D.eqv_eq : ∀ a b : D, a.plain = true → b.plain = true → PyData.eqv a.py b.py = D.eqb a b
  | .scr _, _, p, _ => by simp [D.plain] at p
  | _, .scr _, _, p => by simp [D.plain] at p
  | .tup xs, .tup ys, p, q => by
    simp only [D.py, PyData.eqv, D.eqb]
    exact D.eqvs_eq xs ys (by simpa [D.plain] using p) (by simpa [D.plain] using q)
  | .lst xs, .lst ys, p, q => by
    simp only [D.py, PyData.eqv, D.eqb]
    exact D.eqvs_eq xs ys (by simpa [D.plain] using p) (by simpa [D.plain] using q)
  | .non, .non, _, _ => by simp [D.py, PyData.eqv, D.eqb]
  | .non, .bl _, _, _ => by simp [D.py, PyData.eqv, D.eqb]
  | .non, .int _, _, _ => by simp [D.py, PyData.eqv, D.eqb]
  | .non, .str _, _, _ => by simp [D.py, PyData.eqv, D.eqb]
  | .non, .tup _, _, _ => by simp [D.py, PyData.eqv, D.eqb]
  | .non, .lst _, _, _ => by simp [D.py, PyData.eqv, D.eqb]
  | .bl _, .non, _, _ => by simp [D.py, PyData.eqv, D.eqb]
  | .bl _, .bl _, _, _ => by simp [D.py, PyData.eqv, D.eqb]
  | .bl _, .int _, _, _ => by simp [D.py, PyData.eqv, D.eqb]
  | .bl _, .str _, _, _ => by simp [D.py, PyData.eqv, D.eqb]
  | .bl _, .tup _, _, _ => by simp [D.py, PyData.eqv, D.eqb]
  | .bl _, .lst _, _, _ => by simp [D.py, PyData.eqv, D.eqb]
  | .int _, .non, _, _ => by simp [D.py, PyData.eqv, D.eqb]
  | .int _, .bl _, _, _ => by simp [D.py, PyData.eqv, D.eqb]
  | .int _, .int _, _, _ => by simp [D.py, PyData.eqv, D.eqb]
  | .int _, .str _, _, _ => by simp [D.py, PyData.eqv, D.eqb]
  | .int _, .tup _, _, _ => by simp [D.py, PyData.eqv, D.eqb]
  | .int _, .lst _, _, _ => by simp [D.py, PyData.eqv, D.eqb]
  | .str _, .non, _, _ => by simp [D.py, PyData.eqv, D.eqb]
  | .str _, .bl _, _, _ => by simp [D.py, PyData.eqv, D.eqb]
  | .str _, .int _, _, _ => by simp [D.py, PyData.eqv, D.eqb]
  | .str _, .str _, _, _ => by simp only [D.py, PyData.eqv, D.eqb]; exact Bool.beq_eq_decide_eq ..
  | .str _, .tup _, _, _ => by simp [D.py, PyData.eqv, D.eqb]
  | .str _, .lst _, _, _ => by simp [D.py, PyData.eqv, D.eqb]
  | .tup _, .non, _, _ => by simp [D.py, PyData.eqv, D.eqb]
  | .tup _, .bl _, _, _ => by simp [D.py, PyData.eqv, D.eqb]
  | .tup _, .int _, _, _ => by simp [D.py, PyData.eqv, D.eqb]
  | .tup _, .str _, _, _ => by simp [D.py, PyData.eqv, D.eqb]
  | .tup _, .lst _, _, _ => by simp [D.py, PyData.eqv, D.eqb]
  | .lst _, .non, _, _ => by simp [D.py, PyData.eqv, D.eqb]
  | .lst _, .bl _, _, _ => by simp [D.py, PyData.eqv, D.eqb]
  | .lst _, .int _, _, _ => by simp [D.py, PyData.eqv, D.eqb]
  | .lst _, .str _, _, _ => by simp [D.py, PyData.eqv, D.eqb]
  | .lst _, .tup _, _, _ => by simp [D.py, PyData.eqv, D.eqb]
theorem D.eqvs_eq : ∀ a b : List D, D.plains a = true → D.plains b = true → PyData.eqvAll (D.pys a) (D.pys b) = D.eqbs a b
  | [], [], _, _ => by simp [D.pys, PyData.eqvAll, D.eqbs]
  | [], _ :: _, _, _ => by simp [D.pys, PyData.eqvAll, D.eqbs]
  | _ :: _, [], _, _ => by simp [D.pys, PyData.eqvAll, D.eqbs]
  | x :: xs, y :: ys, p, q => by
    simp only [D.plains, Bool.and_eq_true] at p q
    simp only [D.pys, PyData.eqvAll, D.eqbs]
    rw [D.eqv_eq x y p.1 q.1, D.eqvs_eq xs ys p.2 q.2]
end
mutual
theorem D.py_depth : ∀ a : D, a.plain = true → a.py.depth = a.depth
  | .non, _ => rfl
  | .bl _, _ => rfl
  | .int _, _ => rfl
  | .str _, _ => rfl
  | .scr _, p => by simp [D.plain] at p
  | .tup xs, p => by
    have := D.pys_depth xs (by simpa [D.plain] using p)
    simp only [D.py, PyData.depth, D.depth, this]
  | .lst xs, p => by
    have := D.pys_depth xs (by simpa [D.plain] using p)
    simp only [D.py, PyData.depth, D.depth, this]
theorem D.pys_depth : ∀ a : List D, D.plains a = true → PyData.depthAll (D.pys a) = D.depths a
  | [], _ => rfl
  | x :: xs, p => by
    simp only [D.plains, Bool.and_eq_true] at p
    simp only [D.pys, PyData.depthAll, D.depths]
    rw [D.py_depth x p.1, D.pys_depth xs p.2]
end
mutual
theorem D.py_lay : ∀ a : D, a.plain = true → a.py.canLay0 = true
  | .non, _ => rfl
  | .bl _, _ => rfl
  | .int _, _ => rfl
  | .str _, p => p
  | .scr _, _ => rfl
  | .tup xs, p => by rw [D.py]; exact D.pys_lay xs p
  | .lst xs, p => by rw [D.py]; exact D.pys_lay xs p
theorem D.pys_lay : ∀ a : List D, D.plains a = true → PyData.canLayAll0 (D.pys a) = true
  | [], _ => rfl
  | x :: xs, p => by
    simp only [D.plains, Bool.and_eq_true] at p
    rw [D.pys]
    show (PyData.canLay0 _ && PyData.canLayAll0 _) = true
    rw [D.py_lay x p.1, D.pys_lay xs p.2]
    rfl
end
theorem D.shaped {d : D} (p : d.plain = true) (h : d.depth ≤ 64) : SeqAt.shaped d.py = true := by
  unfold SeqAt.shaped
  rw [D.py_lay d p, D.py_depth d p, Bool.true_and]
  exact decide_eq_true h
theorem ok_eq : CmpOk K (rEqD K) .eq := by
  intro x y z v1 v2 f1 f2 H W Q e h1 h2 fin
  obtain ⟨c, e1, rfl⟩ := cmp_two (op := .eq) e
  simp only [cmpop] at e1
  split at e1
  · rename_i h
    simp only [Bool.and_eq_true, decide_eq_true_eq] at h
    simp only [Option.some.injEq] at e1
    refine ⟨_, _, h1.dat.dp h.1.1.1, h2.dat.dp h.1.1.2, D.shaped h.1.1.1 h.1.2, D.shaped h.1.1.2 h.2, ?_⟩
    rw [D.eqv_eq _ _ h.1.1.1 h.1.1.2, e1]
    exact fin.leaf _ _ rfl (.bl _)
  · cases e1
theorem ok_ne : CmpOk K (rNeD K) .ne := by
  intro x y z v1 v2 f1 f2 H W Q e h1 h2 fin
  obtain ⟨c, e1, rfl⟩ := cmp_two (op := .ne) e
  simp only [cmpop] at e1
  split at e1
  · rename_i h
    simp only [Bool.and_eq_true, decide_eq_true_eq] at h
    simp only [Option.some.injEq] at e1
    refine ⟨_, _, h1.dat.dp h.1.1.1, h2.dat.dp h.1.1.2, D.shaped h.1.1.1 h.1.2, D.shaped h.1.1.2 h.2, ?_⟩
    rw [D.eqv_eq _ _ h.1.1.1 h.1.1.2, e1]
    exact fin.leaf _ _ rfl (.bl _)
  · cases e1
theorem ok_isn : CmpOk K (fun x y H Q => y = .non ∧ Q (.bl (decide (x = .non))) H) .isn := by
  intro x y z v1 v2 f1 f2 H W Q e h1 h2 fin
  obtain ⟨c, e1, rfl⟩ := cmp_two (op := .isn) e
  cases y with
  | node _ => simp [cmpop] at e1
  | leaf dy =>
    cases dy with
    | non =>
      refine ⟨h2.non_inv, ?_⟩
      have k : decide (v1 = .non) = c := by
        cases h1 with
        | leaf h => cases h <;> simp_all [cmpop]
        | node h q => simp_all [cmpop]
      rw [k]
      exact fin.leaf _ _ rfl (.bl _)
    | _ => simp [cmpop] at e1
theorem ok_nisn : CmpOk K (fun x y H Q => y = .non ∧ Q (.bl (!decide (x = .non))) H) .nisn := by
  intro x y z v1 v2 f1 f2 H W Q e h1 h2 fin
  obtain ⟨c, e1, rfl⟩ := cmp_two (op := .nisn) e
  cases y with
  | node _ => simp [cmpop] at e1
  | leaf dy =>
    cases dy with
    | non =>
      refine ⟨h2.non_inv, ?_⟩
      have k : (!decide (v1 = .non)) = c := by
        cases h1 with
        | leaf h => cases h <;> simp_all [cmpop]
        | node h q => simp_all [cmpop]
      rw [k]
      exact fin.leaf _ _ rfl (.bl _)
    | _ => simp [cmpop] at e1
end
end PD

/-! Rules: in, chains, and, or, not, if; subscripts; displays; built-in functions. -/
namespace PD
open PySem L2

section
variable {K : PySem.W.Frag} {X : Cx}
theorem flat_eq {H : Hp} {W : List Addr} {v : V} {d : D} (h : RI K H W v d) (f : d.flat = true) : flatV v = true := by cases h <;> first | rfl | cases f
theorem eqV_eq {H : Hp} {W W' : List Addr} {v w : V} {d e : D} (h : RI K H W v d) (h' : RI K H W' w e) (f : d.flat = true) (f' : e.flat = true) : eqV v w = D.eqb d e := by
  cases h <;> first | (cases f; done) | skip
  all_goals (cases h' <;> first | (cases f'; done) | rfl | skip)
  all_goals exact Bool.beq_eq_decide_eq ..
theorem flats_eq {H : Hp} {W : List Addr} : ∀ {vs : List V} {ds : List D}, RIs K H W vs ds → ds.all D.flat = true → vs.all flatV = true
  | _, _, .nil, _ => rfl
  | _, _, .cons h t, f => by
    simp only [List.all_cons, Bool.and_eq_true] at f ⊢
    exact ⟨flat_eq h f.1, flats_eq t f.2⟩
theorem inV_eq {H : Hp} {W W' : List Addr} {x : V} {d : D} (hx : RI K H W' x d) (f : d.flat = true) : ∀ {vs : List V} {ds : List D}, RIs K H W vs ds → ds.all D.flat = true → inV x vs = ds.any fun y => D.eqb y d
  | _, _, .nil, _ => rfl
  | _, _, .cons h t, q => by
    simp only [List.all_cons, Bool.and_eq_true] at q
    show (eqV _ x || inV x _) = _
    rw [inV_eq hx f t q.2, eqV_eq h hx q.1 f]
    rfl
def rInnA (K : PySem.W.Frag) (n : Bool) : R2 := fun x y H Q => rIn K n x y H Q ∨ ∃ (c : Nat) (z : Str), x = .str ⟨#[c]⟩ ∧ y = .str z ∧ Q (.bl (if n then !decide (c ∈ z.cps.toList) else decide (c ∈ z.cps.toList))) H
theorem op_innA : OpR X (compareOp .In) (rInnA X.K false) := op_in_seq.or op_in_sign
theorem op_ninA : OpR X (compareOp .NotIn) (rInnA X.K true) := op_notIn_seq.or op_notIn_sign
theorem one_sign (c : Str) (h : c.cps.size = 1) : c = ⟨#[c.cps.getD 0 0]⟩ := by
  obtain ⟨a⟩ := c
  obtain ⟨l⟩ := a
  cases l with
  | nil => simp at h
  | cons x l =>
    cases l with
    | nil => rfl
    | cons y l => simp at h
theorem inn_ok {H : Hp} {W f1 f2 : List Addr} {v1 v2 : V} {x y : T} {c n : Bool} {Q : VK} (e : inn x.frz y.frz = some c) (h1 : RT K H W v1 x f1) (h2 : RT K H W v2 y f2) (q : Q (.bl (if n then !c else c)) H) : rInnA K n v1 v2 H Q := by
  have d1 := h1.dat
  have d2 := h2.dat
  revert e d1 d2
  generalize x.frz = dx
  generalize y.frz = dy
  intro e d1 d2
  cases d2 with
  | str z =>
    cases d1 with
    | str s =>
      simp only [inn] at e
      split at e
      · rename_i hs
        simp only [Option.some.injEq] at e
        subst e
        exact .inr ⟨_, z, congrArg V.str (one_sign s hs), rfl, q⟩
      · cases e
    | _ => simp [inn] at e
  | tup h t =>
    simp only [inn] at e
    split at e
    · rename_i hf
      simp only [Bool.and_eq_true] at hf
      simp only [Option.some.injEq] at e
      refine .inl ⟨_, _, rfl, .inr h, flat_eq d1 hf.1, flats_eq t hf.2, ?_⟩
      rw [inV_eq d1 hf.1 t hf.2, e]
      exact q
    · cases e
  | lst h _ t =>
    simp only [inn] at e
    split at e
    · rename_i hf
      simp only [Bool.and_eq_true] at hf
      simp only [Option.some.injEq] at e
      refine .inl ⟨_, _, rfl, .inl (SqL.of h), flat_eq d1 hf.1, flats_eq t hf.2, ?_⟩
      rw [inV_eq d1 hf.1 t hf.2, e]
      exact q
    · cases e
  | _ => simp [inn] at e
theorem ok_inn : CmpOk K (rInnA K false) .inn := by
  intro x y z v1 v2 f1 f2 H W Q e h1 h2 fin
  obtain ⟨c, e1, rfl⟩ := cmp_two (op := .inn) e
  exact inn_ok (n := false) e1 h1 h2 (fin.leaf _ _ rfl (.bl _))
theorem ok_nin : CmpOk K (rInnA K true) .nin := by
  intro x y z v1 v2 f1 f2 H W Q e h1 h2 fin
  obtain ⟨c, e1, rfl⟩ := cmp_two (op := .nin) e
  simp only [cmpop, Option.map_eq_some_iff] at e1
  obtain ⟨c', e2, rfl⟩ := e1
  exact inn_ok (n := true) e2 h1 h2 (fin.leaf _ _ rfl (.bl _))
end

/-- what is wanted behind an expression, from a later state -/
theorem Po.later {G : Fm} {Z O O1 : List Addr} {σ : St} {H H1 : Hp} {mu m1 m2 : Bool} {t : T} {r' : Env} {Q : VK} (p : Po G Z σ O H mu t r' Q) (s : Stp O O1 H H1) (sm : m1 = false → Same H H1) (e : mu = (m1 || m2)) : Po G Z σ O1 H1 m2 t r' Q :=
  fun v H' O' f g nd rt st s2 => p v H' O' f g nd rt (s.trans st) fun q => by
    rw [e, Bool.or_eq_false_iff] at q
    exact (sm q.1).trans (s2 q.2)
theorem Stp.r {M A B : List Addr} {H H' : Hp} (s : Stp M (A ++ B) H H') : Stp M B H H' := s.sub fun b hb => List.mem_append_right _ hb
theorem RT.bl? {K : PySem.W.Frag} {H : Hp} {W f : List Addr} {v : V} {x : T} {k : Bool} (h : RT K H W v x f) (e : bl? x = some k) : v = .bl k ∧ x = .leaf (.bl k) ∧ f = [] := by
  cases h with
  | leaf h => cases h <;> simp_all [PD.bl?]
  | node _ _ => simp [PD.bl?] at e
theorem RT.int? {K : PySem.W.Frag} {H : Hp} {W f : List Addr} {v : V} {x : T} {k : Int} (h : RT K H W v x f) (e : int? x = some k) : v = .int k ∧ x = .leaf (.int k) ∧ f = [] := by
  cases h with
  | leaf h => cases h <;> simp_all [PD.int?]
  | node _ _ => simp [PD.int?] at e

section
variable {X : Cx} {G : Fm} {a b c : Expr} {ma mb mc : ME} {pos : Pos} {rest : List Expr}

/-! ### chains of whole numbers -/
def CopI : Cop → Option (Int → Int → Bool)
  | .lt => some fun i j => decide (i < j)
  | .le => some fun i j => decide (i ≤ j)
  | .gt => some fun i j => decide (j < i)
  | .ge => some fun i j => decide (j ≤ i)
  | _ => none
theorem cop_int {op : Cop} {p : Int → Int → Bool} (h : CopI op = some p) {x y : T} {k : Bool} (e : cmpop op x y = some k) : ∃ i j, x = .leaf (.int i) ∧ y = .leaf (.int j) ∧ k = p i j := by
  cases op <;> simp only [CopI, Option.some.injEq] at h <;> first | cases h | skip
  all_goals
    simp only [cmpop] at e
    split at e
    · rename_i i j
      simp only [Option.some.injEq] at e
      exact ⟨i, j, rfl, rfl, e.symm⟩
    · cases e
theorem i_chn {p q : Cop} {f g : Int → Int → Bool} (hp : CopI p = some f) (hq : CopI q = some g) {σ : St} {H : Hp} {Q : VK} (h : tE G (.chn p q ma mb mc) σ H Q) :
    tChain (rI0 fun i j => .bl (f i j)) (rI0 fun i j => .bl (g i j)) (tE G ma) (tE G mb) (tE G mc) σ H Q := by
  obtain ⟨Z, r, O, t, r', hg, e, po⟩ := h
  simp only [ev, Option.bind_eq_bind, Option.bind_eq_some_iff, Prod.exists] at e
  obtain ⟨x, r1, e1, y, r2, e2, k, e3, e4⟩ := e
  obtain ⟨i, j, rfl, rfl, rfl⟩ := cop_int hp e3
  refine ⟨Z, r, O, _, r1, hg, e1, fun v H1 O1 f1 g1 _ R1 s1 m1 => ?_⟩
  obtain ⟨rfl, _, rfl⟩ := R1.int? rfl
  refine ⟨Z, r1, O1, _, r2, g1, e2, fun v H2 O2 f2 g2 _ R2 s2 m2 => ?_⟩
  obtain ⟨rfl, _, rfl⟩ := R2.int? rfl
  refine ⟨i, j, rfl, rfl, _, rfl, ?_⟩
  cases hk : f i j with
  | false =>
    rw [hk] at e4
    simp only [Bool.false_eq_true, if_false, Option.some.injEq, Prod.mk.injEq] at e4
    obtain ⟨rfl, rfl⟩ := e4
    rw [if_neg (by simp)]
    refine po _ H2 O2 [] g2 List.nodup_nil (.leaf (.bl false)) (s1.trans s2) fun q => ?_
    simp only [ME.mut, Bool.or_eq_false_iff] at q
    exact (m1 q.1.1).trans (m2 q.1.2)
  | true =>
    rw [hk] at e4
    simp only [if_true, Option.bind_eq_some_iff, Prod.exists, Option.map_eq_some_iff, Prod.mk.injEq] at e4
    obtain ⟨z, r3, e5, k2, e6, rfl, rfl⟩ := e4
    obtain ⟨j', l, ej, rfl, rfl⟩ := cop_int hq e6
    simp only [T.leaf.injEq, D.int.injEq] at ej
    subst ej
    rw [if_pos rfl]
    refine ⟨Z, r2, O2, _, r3, g2, e5, fun v H3 O3 f3 g3 _ R3 s3 m3 => ?_⟩
    obtain ⟨rfl, _, rfl⟩ := R3.int? rfl
    refine ⟨j, l, rfl, rfl, po _ H3 O3 [] g3 List.nodup_nil (.leaf (.bl _)) ((s1.trans s2).trans s3) fun q => ?_⟩
    simp only [ME.mut, Bool.or_eq_false_iff] at q
    exact ((m1 q.1.1).trans (m2 q.1.2)).trans (m3 q.2)
theorem d_chn {o o' : CmpOp} {p q : Cop} {f g : Int → Int → Bool} (ho : OpR X (compareOp o) (rI0 fun i j => .bl (f i j))) (ho' : OpR X (compareOp o') (rI0 fun i j => .bl (g i j))) (hp : CopI p = some f) (hq : CopI q = some g)
    (ha : PE X a (tE G ma)) (hb : PE X b (tE G mb)) (hc : PE X c (tE G mc)) (hm : lastMarks [o, o'] [b, c] = false := by with_unfolding_all rfl) : PE X (.Compare a [o, o'] [b, c] pos) (tE G (.chn p q ma mb mc)) :=
  pe_mono (pe_chain ho ho' ha hb hc hm) fun _ _ _ h => i_chn hp hq h
theorem t_chn {o o' : CmpOp} {p q : Cop} {f g : Int → Int → Bool} (ho : OpR X (compareOp o) (rI0 fun i j => .bl (f i j))) (ho' : OpR X (compareOp o') (rI0 fun i j => .bl (g i j))) (hp : CopI p = some f) (hq : CopI q = some g)
    (ha : PE X a (tE G ma)) (hb : PE X b (tE G mb)) (hc : PE X c (tE G mc)) (hm : lastMarks [o, o'] [b, c] = false := by with_unfolding_all rfl) : PT X (.Compare a [o, o'] [b, c] pos) (tT G (.chn p q ma mb mc)) :=
  pt_mono (pt_chain ho ho' ha hb hc hm) fun _ _ _ h => i_chn hp hq h

/-! ### and, or, not, if -/
theorem t_val {e : Expr} {m : ME} (h : PE X e (tE G m)) (he : ∀ whole, isTrue e X.env whole = (do let v ← whole; standAt e.pos; holding [v] (truthy v)) := by intro _; rfl) : PT X e (tT G m) := pt_val h he
theorem i_andV {σ : St} {H : Hp} {Q : VK} (h : tE G (.and ma mb) σ H Q) : tAndV (tE G ma) (tE G mb) σ H Q := by
  obtain ⟨Z, r, O, t, r', hg, e, po⟩ := h
  simp only [ev, Option.bind_eq_bind, Option.bind_eq_some_iff, Prod.exists] at e
  obtain ⟨x, r1, e1, k, e2, e3⟩ := e
  refine ⟨Z, r, O, x, r1, hg, e1, fun v H1 O1 f1 g1 _ R1 s1 m1 => ?_⟩
  obtain ⟨rfl, rfl, rfl⟩ := R1.bl? e2
  refine ⟨k, rfl, ?_⟩
  cases k with
  | false =>
    simp only [Bool.false_eq_true, if_false, Option.some.injEq, Prod.mk.injEq] at e3
    obtain ⟨rfl, rfl⟩ := e3
    rw [if_neg (by simp)]
    refine po _ H1 O1 [] g1 List.nodup_nil (.leaf (.bl false)) s1 fun q => ?_
    simp only [ME.mut, Bool.or_eq_false_iff] at q
    exact m1 q.1
  | true =>
    simp only [if_true, Option.bind_eq_some_iff, Prod.exists, Option.map_eq_some_iff, Prod.mk.injEq] at e3
    obtain ⟨y, r2, e4, k2, e5, rfl, rfl⟩ := e3
    rw [if_pos rfl]
    have ey : y = .leaf (.bl k2) := by
      cases y with
      | leaf d => cases d <;> simp_all [bl?]
      | node _ => simp [bl?] at e5
    subst ey
    exact ⟨Z, r1, O1, _, r2, g1, e4, po.later s1 m1 rfl⟩
theorem i_orV {σ : St} {H : Hp} {Q : VK} (h : tE G (.or ma mb) σ H Q) : tOrV (tE G ma) (tE G mb) σ H Q := by
  obtain ⟨Z, r, O, t, r', hg, e, po⟩ := h
  simp only [ev, Option.bind_eq_bind, Option.bind_eq_some_iff, Prod.exists] at e
  obtain ⟨x, r1, e1, k, e2, e3⟩ := e
  refine ⟨Z, r, O, x, r1, hg, e1, fun v H1 O1 f1 g1 _ R1 s1 m1 => ?_⟩
  obtain ⟨rfl, rfl, rfl⟩ := R1.bl? e2
  refine ⟨k, rfl, ?_⟩
  cases k with
  | true =>
    simp only [if_true, Option.some.injEq, Prod.mk.injEq] at e3
    obtain ⟨rfl, rfl⟩ := e3
    rw [if_pos rfl]
    refine po _ H1 O1 [] g1 List.nodup_nil (.leaf (.bl true)) s1 fun q => ?_
    simp only [ME.mut, Bool.or_eq_false_iff] at q
    exact m1 q.1
  | false =>
    simp only [Bool.false_eq_true, if_false, Option.bind_eq_some_iff, Prod.exists, Option.map_eq_some_iff, Prod.mk.injEq] at e3
    obtain ⟨y, r2, e4, k2, e5, rfl, rfl⟩ := e3
    rw [if_neg (by simp)]
    have ey : y = .leaf (.bl k2) := by
      cases y with
      | leaf d => cases d <;> simp_all [bl?]
      | node _ => simp [bl?] at e5
    subst ey
    exact ⟨Z, r1, O1, _, r2, g1, e4, po.later s1 m1 rfl⟩
theorem i_notV {σ : St} {H : Hp} {Q : VK} (h : tE G (.not ma) σ H Q) : tNotV (tE G ma) σ H Q := by
  obtain ⟨Z, r, O, t, r', hg, e, po⟩ := h
  simp only [ev, Option.bind_eq_bind, Option.bind_eq_some_iff, Prod.exists, Option.map_eq_some_iff, Prod.mk.injEq] at e
  obtain ⟨x, r1, e1, k, e2, rfl, rfl⟩ := e
  refine ⟨Z, r, O, x, r1, hg, e1, fun v H1 O1 f1 g1 _ R1 s1 m1 => ?_⟩
  obtain ⟨rfl, rfl, rfl⟩ := R1.bl? e2
  exact ⟨k, rfl, po _ H1 O1 [] g1 List.nodup_nil (.leaf (.bl _)) s1 m1⟩
theorem d_one {op : BoolOp} {m : ME} (h : PE X a (tE G m)) : PE X (.BoolOp op [a] pos) (tE G m) := pe_one h
theorem d_and (ha : PE X a (tE G ma)) (hb : PE X (.BoolOp .And (b :: rest) pos) (tE G mb)) : PE X (.BoolOp .And (a :: b :: rest) pos) (tE G (.and ma mb)) := pe_mono (pe_and ha hb) fun _ _ _ h => i_andV h
theorem d_or (ha : PE X a (tE G ma)) (hb : PE X (.BoolOp .Or (b :: rest) pos) (tE G mb)) : PE X (.BoolOp .Or (a :: b :: rest) pos) (tE G (.or ma mb)) := pe_mono (pe_or ha hb) fun _ _ _ h => i_orV h
theorem d_not (ha : PE X a (tE G ma)) : PE X (.UnaryOp .Not a pos) (tE G (.not ma)) := pe_mono (pe_not ha) fun _ _ _ h => i_notV h
theorem w_and1 {m : ME} (h : PT X a (tT G m)) : PW X (.BoolOp .And [a] pos) (tT G m) := pw_and1 h
theorem w_or1 {m : ME} (h : PT X a (tT G m)) : PW X (.BoolOp .Or [a] pos) (tT G m) := pw_or1 h
theorem w_and (ha : PT X a (tT G ma)) (hb : PW X (.BoolOp .And (b :: rest) pos) (tT G mb)) : PW X (.BoolOp .And (a :: b :: rest) pos) (tT G (.and ma mb)) :=
  pw_mono (pw_and ha hb) fun σ H Q h => by
    have q := i_andV h
    obtain ⟨Z, r, O, t, r', hg, e, po⟩ := q
    refine ⟨Z, r, O, t, r', hg, e, fun v H' O' f g nd rt st sm => ?_⟩
    obtain ⟨c, rfl, q⟩ := po v H' O' f g nd rt st sm
    refine ⟨c, rfl, ?_⟩
    cases c with
    | true => exact q
    | false =>
      obtain ⟨k, e2, q⟩ := q
      cases e2
      exact q
theorem w_or (ha : PT X a (tT G ma)) (hb : PW X (.BoolOp .Or (b :: rest) pos) (tT G mb)) : PW X (.BoolOp .Or (a :: b :: rest) pos) (tT G (.or ma mb)) :=
  pw_mono (pw_or ha hb) fun σ H Q h => by
    have q := i_orV h
    obtain ⟨Z, r, O, t, r', hg, e, po⟩ := q
    refine ⟨Z, r, O, t, r', hg, e, fun v H' O' f g nd rt st sm => ?_⟩
    obtain ⟨c, rfl, q⟩ := po v H' O' f g nd rt st sm
    refine ⟨c, rfl, ?_⟩
    cases c with
    | false => exact q
    | true =>
      obtain ⟨k, e2, q⟩ := q
      cases e2
      exact q
theorem t_w {m : ME} (h : PW X a (tT G m)) : PT X a (tT G m) := h.pt
theorem t_not (ha : PT X a (tT G ma)) : PT X (.UnaryOp .Not a pos) (tT G (.not ma)) := pt_mono (pt_not ha) fun σ H Q h => by
  obtain ⟨Z, r, O, t, r', hg, e, po⟩ := i_notV h
  refine ⟨Z, r, O, t, r', hg, e, fun v H' O' f g nd rt st sm => ?_⟩
  obtain ⟨c, rfl, k, e2, q⟩ := po v H' O' f g nd rt st sm
  cases e2
  exact ⟨c, rfl, q⟩
theorem d_ife (hc : PT X c (tT G mc)) (ha : PE X a (tE G ma)) (hb : PE X b (tE G mb)) : PE X (.IfExp c a b pos) (tE G (.ife mc ma mb)) := pe_mono (pe_ifExp hc ha hb) fun σ H Q h => by
  obtain ⟨Z, r, O, t, r', hg, e, po⟩ := h
  simp only [ev, Option.bind_eq_bind, Option.bind_eq_some_iff, Prod.exists] at e
  obtain ⟨x, r1, e1, k, e2, e3⟩ := e
  refine ⟨Z, r, O, x, r1, hg, e1, fun v H1 O1 f1 g1 _ R1 s1 m1 => ?_⟩
  obtain ⟨rfl, rfl, rfl⟩ := R1.bl? e2
  refine ⟨k, rfl, ?_⟩
  cases k with
  | true =>
    simp only [if_true] at e3
    rw [if_pos rfl]
    refine ⟨Z, r1, O1, t, r', g1, e3, fun v H' O' f g nd rt st s2 => po v H' O' f g nd rt (s1.trans st) fun q => ?_⟩
    simp only [ME.mut, Bool.or_eq_false_iff] at q
    exact (m1 q.1.1).trans (s2 q.1.2)
  | false =>
    simp only [Bool.false_eq_true, if_false] at e3
    rw [if_neg (by simp)]
    refine ⟨Z, r1, O1, t, r', g1, e3, fun v H' O' f g nd rt st s2 => po v H' O' f g nd rt (s1.trans st) fun q => ?_⟩
    simp only [ME.mut, Bool.or_eq_false_iff] at q
    exact (m1 q.1.1).trans (s2 q.2)

/-! ### subscripts -/
/-- an operand, then a number -/
theorem two_n {Z O : List Addr} {σ : St} {r r1 r2 : Env} {H : Hp} {x : T} {k : Int} {R : V → V → Hp → Prop} (hg : Good G Z σ r H O) (ha : ev G.C true ma r = some (x, r1)) (hb : ev G.C false mb r1 = some (.leaf (.int k), r2)) (hm : (mb.mut && ma.path && !x.isLeaf) = false)
    (c : ∀ v H2 O2 f g, Good G (g ++ Z) σ r2 H2 O2 → RT G.K H2 (g ++ Z ++ O2) v x f → Stp O (g ++ O2) H H2 → ((ma.mut || mb.mut) = false → Same H H2) → R v (.int k) H2) :
    tO G ma σ H fun v1 H1 => tE G mb σ H1 fun v2 H2 => R v1 v2 H2 := by
  refine ⟨Z, r, O, x, r1, hg, ha, fun v1 H1 O1 f1 g1 G1 R1 p1 s1 m1 => ?_⟩
  refine ⟨g1 ++ Z, r1, O1, _, r2, G1, hb, fun v2 H2 O2 f2 G2 nd2 R2 s2 m2 => ?_⟩
  obtain ⟨rfl, _, rfl⟩ := R2.int? rfl
  have R1' := R1.stay G1 p1 (m2 := mb.mut) hm s2 m2
  rw [List.nil_append] at G2 R2 R1'
  refine c v1 H2 O2 f1 g1 G2 R1' ?_ fun q => ?_
  · have s1' : Stp O O1 H H1 := s1.r
    refine ⟨(s1'.trans s2.r).kp, fun b q => s2.dom b (s1.dom b q), fun b q => ?_⟩
    rcases List.mem_append.mp q with q | q
    · exact s1.new b (List.mem_append_left _ q)
    · exact (s1'.trans s2.r).new b q
  · rw [Bool.or_eq_false_iff] at q
    exact (m1 q.1).trans (m2 q.2)
theorem index_ok {K : PySem.W.Frag} {H : Hp} {W f : List Addr} {v : V} {x z : T} {k : Int} {Q : VK} (e : index x k = some z) (h : RT K H W v x f) (q : ∀ w f', RT K H W w z f' → (∀ b ∈ f', b ∈ f) → Q w H) : rIx K v (.int k) H Q := by
  have at_ : ∀ {α : Type} (xs : List α) (i : Int), L2.atI xs i = PD.atI xs i := fun _ _ => rfl
  have pick : ∀ {vs : List V} {ds : List D} {d : D}, RIs K H W vs ds → PD.atI ds k = some d → ∃ w, L2.atI vs k = some w ∧ RI K H W w d := fun {vs ds d} rs e => by
    unfold PD.atI at e
    rw [Option.bind_eq_some_iff] at e
    obtain ⟨j, e1, e2⟩ := e
    obtain ⟨w, h1, h2⟩ := rs.get e2
    refine ⟨w, ?_, h2⟩
    rw [at_]
    unfold PD.atI
    rw [rs.len, e1]
    exact h1
  cases h with
  | leaf h =>
    cases h with
    | tup h t =>
      simp only [index, Option.map_eq_some_iff] at e
      obtain ⟨d, e1, rfl⟩ := e
      obtain ⟨w, h1, h2⟩ := pick t e1
      exact .inr (.inl ⟨_, _, k, w, rfl, rfl, h, h1, q w [] (.leaf h2) fun _ z => nomatch z⟩)
    | lst h _ t =>
      simp only [index, Option.map_eq_some_iff] at e
      obtain ⟨d, e1, rfl⟩ := e
      obtain ⟨w, h1, h2⟩ := pick t e1
      exact .inl ⟨_, _, k, w, rfl, rfl, SqL.of h, h1, q w [] (.leaf h2) fun _ z => nomatch z⟩
    | str s =>
      simp only [index, Option.map_eq_some_iff] at e
      obtain ⟨c, e1, rfl⟩ := e
      split at e1
      · rename_i hl
        exact .inr (.inr ⟨s, k, c, rfl, rfl, by rw [← lim_eq]; exact hl, e1, q _ [] (.leaf (.str _)) fun _ z => nomatch z⟩)
      · cases e1
    | _ => simp [index] at e
  | node h t =>
    simp only [index] at e
    unfold PD.atI at e
    rw [Option.bind_eq_some_iff] at e
    obtain ⟨j, e1, e2⟩ := e
    obtain ⟨w, A, g, B, h1, rfl, h2⟩ := t.at e2
    refine .inl ⟨_, _, k, w, rfl, rfl, SqL.of h, ?_, q w g h2 fun b hb => List.mem_cons_of_mem _ (List.mem_append_left _ (List.mem_append_right _ hb))⟩
    rw [at_]
    unfold PD.atI
    rw [t.len, e1]
    exact h1
theorem ev_idx {C : Callees} {k : Bool} {a i : ME} {r r' : Env} {t : T} (e : ev C k (.idx a i) r = some (t, r')) :
    ∃ x r1 j, ev C true a r = some (x, r1) ∧ ev C false i r1 = some (.leaf (.int j), r') ∧ (i.mut && a.path && !x.isLeaf) = false ∧ index x j = some t ∧ (k || t.isLeaf) = true := by
  simp only [ev, Option.bind_eq_bind, Option.bind_eq_some_iff, Prod.exists] at e
  obtain ⟨x, r1, e1, y, r2, e2, e3⟩ := e
  split at e3
  · cases e3
  · rename_i h
    simp only [Option.bind_eq_some_iff] at e3
    obtain ⟨j, e4, z, e5, e6⟩ := e3
    split at e6
    · rename_i hk
      simp only [Option.some.injEq, Prod.mk.injEq] at e6
      obtain ⟨rfl, rfl⟩ := e6
      have ey : y = .leaf (.int j) := by
        cases y with
        | leaf d => cases d <;> simp_all [int?]
        | node _ => simp [int?] at e4
      subst ey
      exact ⟨x, r1, j, e1, e2, by simpa using h, e5, hk⟩
    · cases e6
theorem d_idx (ha : PE X a (tO G ma)) (hb : PE X b (tE G mb)) (hs : L2.PlainIx b := by exact fun _ _ => rfl) (hK : G.K = X.K := by rfl) : PE X (.Subscript a b pos) (tE G (.idx ma mb)) :=
  pe_mono (pe_ix ix_seq ha hb hs) fun σ H Q q => by
    obtain ⟨Z, r, O, t, r', hg, e, p⟩ := q
    obtain ⟨x, r1, j, e1, e2, hm, e3, hl⟩ := ev_idx e
    refine two_n hg e1 e2 hm fun v H2 O2 f g G2 R2 st sm => ?_
    rw [← hK]
    refine index_ok e3 R2 fun w f' rt _ => ?_
    cases t with
    | node _ => cases hl
    | leaf d => cases rt with | leaf ri => exact fin_cpy hg.z0 p G2 st sm ri
theorem d_idxO (ha : PE X a (tO G ma)) (hb : PE X b (tE G mb)) (hs : L2.PlainIx b := by exact fun _ _ => rfl) (hK : G.K = X.K := by rfl) : PE X (.Subscript a b pos) (tO G (.idx ma mb)) :=
  pe_mono (pe_ix ix_seq ha hb hs) fun σ H Q q => by
    obtain ⟨Z, r, O, t, r', hg, e, p⟩ := q
    obtain ⟨x, r1, j, e1, e2, hm, e3, hl⟩ := ev_idx e
    refine two_n hg e1 e2 hm fun v H2 O2 f g G2 R2 st sm => ?_
    rw [← hK]
    exact index_ok e3 R2 fun w f' rt _ => p w H2 O2 f' g G2 rt (.inl rfl) st sm

/-! ### slices -/
def tPO (G : Fm) (m : MO) : TO := fun σ H Q => ∃ Z r O o r', Good G Z σ r H O ∧ evo G.C m r = some (o, r') ∧
  ∀ H' O', Good G Z σ r' H' O' → Stp O O' H H' → (m.mut = false → Same H H') → Q o H'
theorem po_mono {X : Cx} {e : Option Expr} {t t' : TO} (h : PO X e t) (hh : ∀ σ H Q, t' σ H Q → t σ H Q) : PO X e t' := ⟨fun pins s σ H Q I ht => h.run pins s σ H Q I (hh _ _ _ ht)⟩
theorem d_pn : PO X none (tPO G .none) := po_mono po_none fun σ H Q q => by
  obtain ⟨Z, r, O, o, r', hg, e, p⟩ := q
  simp only [evo, Option.some.injEq, Prod.mk.injEq] at e
  obtain ⟨rfl, rfl⟩ := e
  exact p H O hg (Stp.refl _ _) fun _ => Same.refl _
theorem d_ps {e : Expr} {m : ME} (h : PE X e (tE G m)) : PO X (some e) (tPO G (.some m)) := po_mono (po_some h) fun σ H Q q => by
  obtain ⟨Z, r, O, o, r', hg, e, p⟩ := q
  simp only [evo, Option.bind_eq_bind, Option.bind_eq_some_iff, Prod.exists, Option.map_eq_some_iff, Prod.mk.injEq] at e
  obtain ⟨x, r1, e1, k, e2, rfl, rfl⟩ := e
  refine ⟨Z, r, O, x, r1, hg, e1, fun v H1 O1 f1 g1 _ R1 s1 m1 => ?_⟩
  obtain ⟨rfl, _, rfl⟩ := R1.int? e2
  exact ⟨k, rfl, p H1 O1 g1 s1 m1⟩
def rSlAll (K : PySem.W.Frag) : V → Option Int → Option Int → Hp → VK → Prop := fun x lo hi H Q => rSlL K x lo hi H Q ∨ rSlA K x lo hi H Q
theorem sl_all : SlR X (rSlAll X.K) := sl_list.or sl_tupA
theorem sIx_eq (n d : Nat) (o : Option Int) : HT.sIx n d o = PD.sIx n d o := by cases o <;> rfl
theorem RIs.cut {K : PySem.W.Frag} {H : Hp} {W : List Addr} {vs : List V} {ds : List D} (h : RIs K H W vs ds) (lo hi : Option Int) : RIs K H W (cutV vs lo hi) (cut ds lo hi) := by
  unfold cutV PD.cut
  rw [h.len, sIx_eq, sIx_eq]
  exact (h.drop _).take _
theorem cut_all {ds : List D} {lo hi : Option Int} (h : PD.sIx ds.length 0 lo = 0) (h' : PD.sIx ds.length ds.length hi = ds.length) : cut ds lo hi = ds := by
  unfold PD.cut
  rw [h, h', List.drop_zero, Nat.sub_zero, List.take_length]
theorem slice_ok {K : PySem.W.Frag} {H : Hp} {W f : List Addr} {v : V} {x z : T} {lo hi : Option Int} {Q : VK} (e : slice x lo hi = some z) (h : RT K H W v x f) (fin : Fin K H W z Q) : rSlAll K v lo hi H Q := by
  have lists : ∀ ds, x.lst? = some ds → z = .node ((cut ds lo hi).map T.leaf) → rSlAll K v lo hi H Q := fun ds e1 ez => by
    obtain ⟨a, vs, rfl, hp, rs⟩ := h.lst? e1
    exact .inl ⟨a, vs, rfl, SqL.of hp, fun p hp' => fin.lst _ _ p ez (rs.cut lo hi) hp'⟩
  have other : (x.lst?.map fun ds => T.node ((cut ds lo hi).map T.leaf)) = some z → rSlAll K v lo hi H Q := fun e => by
    rw [Option.map_eq_some_iff] at e
    obtain ⟨ds, e1, e2⟩ := e
    exact lists ds e1 e2.symm
  cases x with
  | node _ => exact other e
  | leaf d =>
    cases d with
    | tup ds =>
      simp only [slice, Option.some.injEq] at e
      obtain ⟨a, vs, rfl, hp, rs⟩ := h.tup_inv
      refine .inr ⟨a, vs, rfl, hp, fun w => ?_, fun _ p hp' => fin.tup _ _ p e.symm (rs.cut lo hi) hp'⟩
      rw [sIx_eq, sIx_eq, rs.len] at w
      refine fin.leaf _ _ e.symm ?_
      rw [cut_all w.1 w.2]
      exact .tup hp rs
    | _ => exact other e
theorem d_slc {lo hi : Option Expr} {ml mh : MO} {p2 : Pos} (ha : PE X a (tO G ma)) (hl : PO X lo (tPO G ml)) (hh : PO X hi (tPO G mh)) (hK : G.K = X.K := by rfl) : PE X (.Subscript a (.Slice lo hi none p2) pos) (tE G (.slc ma ml mh)) :=
  pe_mono (pe_slice sl_all ha hl hh) fun σ H Q q => by
    obtain ⟨Z, r, O, t, r', hg, e, p⟩ := q
    simp only [ev, Option.bind_eq_bind, Option.bind_eq_some_iff, Prod.exists] at e
    obtain ⟨x, r1, e1, e2⟩ := e
    split at e2
    · cases e2
    · rename_i hm
      simp only [Option.bind_eq_some_iff, Prod.exists, Option.map_eq_some_iff, Prod.mk.injEq] at e2
      obtain ⟨l, r2, e3, h, r3, e4, z, e5, rfl, rfl⟩ := e2
      have hm1 : (ml.mut && ma.path && !x.isLeaf) = false := by revert hm; cases ml.mut <;> cases mh.mut <;> cases ma.path <;> cases x.isLeaf <;> simp
      have hm2 : (mh.mut && ma.path && !x.isLeaf) = false := by revert hm; cases ml.mut <;> cases mh.mut <;> cases ma.path <;> cases x.isLeaf <;> simp
      refine ⟨Z, r, O, x, r1, hg, e1, fun v1 H1 O1 f1 g1 G1 R1 p1 s1 m1 => ?_⟩
      refine ⟨g1 ++ Z, r1, O1, l, r2, G1, e3, fun H2 O2 G2 s2 m2 => ?_⟩
      have R2 := R1.stay G1 p1 (g2 := []) (m2 := ml.mut) hm1 s2 m2
      rw [List.nil_append] at R2
      refine ⟨g1 ++ Z, r2, O2, h, r3, G2, e4, fun H3 O3 G3 s3 m3 => ?_⟩
      have R3 := R2.stay G2 p1 (g2 := []) (m2 := mh.mut) hm2 s3 m3
      rw [List.nil_append] at R3
      have s1' : Stp O O1 H H1 := s1.r
      have st : Stp O (g1 ++ O3) H H3 := ⟨((s1'.trans s2).trans s3).kp, fun b q => s3.dom b (s2.dom b (s1.dom b q)), fun b q => by
        rcases List.mem_append.mp q with q | q
        · exact s1.new b (List.mem_append_left _ q)
        · exact ((s1'.trans s2).trans s3).new b q⟩
      rw [← hK]
      exact slice_ok e5 R3 (fin_of hg.z0 p G3 st fun q => by
        simp only [ME.mut, Bool.or_eq_false_iff] at q
        exact ((m1 q.1.1).trans (m2 q.1.2)).trans (m3 q.2))
end
end PD

/-! Rules: displays, built-in functions, arguments, calls. -/
namespace PD
open PySem L2

/-! ### lists of expressions -/
def tEs (G : Fm) (ms : MEs) : TA := fun σ H Q => ∃ Z r O ts r', Good G Z σ r H O ∧ evs G.C false ms r = some (ts, r') ∧
  ∀ vs H' O' f, Good G (f ++ Z) σ r' H' O' → f.Nodup → RTs G.K H' (f ++ Z ++ O') vs ts f → Stp O (f ++ O') H H' → (ms.mut = false → Same H H') → Q vs H'
def tOs (G : Fm) (ms : MEs) : TA := fun σ H Q => ∃ Z r O ts r', Good G Z σ r H O ∧ evs G.C true ms r = some (ts, r') ∧
  ∀ vs H' O' f g, Good G (g ++ Z) σ r' H' O' → RTs G.K H' (g ++ Z ++ O') vs ts f → Stp O (g ++ O') H H' → (ms.mut = false → Same H H') → Q vs H'

/-- what is reckoned stands while the next is reckoned -/
theorem RT.stayZ {G : Fm} {Z f f2 O1 O2 : List Addr} {σ : St} {r1 : Env} {H1 H2 : Hp} {v : V} {t : T} (R1 : RT G.K H1 (f ++ Z ++ O1) v t f) (g1 : Good G (f ++ Z) σ r1 H1 O1) (s2 : Stp O1 (f2 ++ O2) H1 H2) : RT G.K H2 (f2 ++ (f ++ Z) ++ O2) v t f := by
  refine R1.kp (F := f) (fun b o e q => ?_) (fun b hb => ?_) fun _ hb => hb
  · rcases q with q | q | q
    · exact s2.kp b o e (.inl fun z => g1.dj b z (List.mem_append_left _ q))
    · exact s2.kp b o e (.inl fun z => q (List.mem_append_right _ z))
    · exact s2.kp b o e (.inr q)
  · rcases List.mem_append.mp hb with q | q
    · rcases List.mem_append.mp q with q | q
      · exact (s2.new b (List.mem_append_left _ q)).imp (fun z => List.mem_append_right _ z) id
      · exact .inl (List.mem_append_left _ q)
    · exact (s2.new b (List.mem_append_right _ q)).imp (fun z => List.mem_append_right _ z) id
/-- new lists stand apart from the elder ones -/
theorem apart {G : Fm} {Z f f2 O1 O2 : List Addr} {σ : St} {r1 : Env} {H1 H2 : Hp} (g1 : Good G (f ++ Z) σ r1 H1 O1) (s2 : Stp O1 (f2 ++ O2) H1 H2) : ∀ b ∈ f, b ∉ f2 := fun b hb z => by
  rcases s2.new b (List.mem_append_left _ z) with q | q
  · exact g1.dj b q (List.mem_append_left _ hb)
  · exact g1.zd b (List.mem_append_left _ hb) q
theorem nodup_two {f f2 : List Addr} (h : f.Nodup) (h2 : f2.Nodup) (a : ∀ b ∈ f, b ∉ f2) : (f ++ f2).Nodup := List.nodup_append.mpr ⟨h, h2, fun b hb c hc e => by subst e; exact a b hb hc⟩
theorem mem3 {A B C D' : List Addr} : ∀ b ∈ A ++ B ++ C ++ D', b ∈ B ++ (A ++ C) ++ D' := fun b hb => by
  simp only [List.mem_append] at *
  rcases hb with ((q | q) | q) | q
  · exact .inl (.inr (.inl q))
  · exact .inl (.inl q)
  · exact .inl (.inr (.inr q))
  · exact .inr q
theorem mem2 {A B C : List Addr} : ∀ b ∈ A ++ B ++ C, b ∈ B ++ (A ++ C) := fun b hb => by
  simp only [List.mem_append] at *
  rcases hb with (q | q) | q
  · exact .inr (.inl q)
  · exact .inl q
  · exact .inr (.inr q)
theorem Stp.join {M f O1 f2 O2 : List Addr} {H H1 H2 : Hp} (s1 : Stp M (f ++ O1) H H1) (s2 : Stp O1 (f2 ++ O2) H1 H2) : Stp M (f ++ f2 ++ O2) H H2 := by
  have a := s1.r.trans s2
  refine ⟨a.kp, a.dom, fun b q => ?_⟩
  simp only [List.mem_append] at q
  rcases q with (q | q) | q
  · exact s1.new b (List.mem_append_left _ q)
  · exact a.new b (List.mem_append_left _ q)
  · exact a.new b (List.mem_append_right _ q)

section
variable {X : Cx} {G : Fm} {e : Expr} {es : List Expr} {m : ME} {ms : MEs} {pos : Pos}
theorem d_nil : PA X [] (tEs G .nil) := pa_mono pa_nil fun σ H Q q => by
  obtain ⟨Z, r, O, ts, r', hg, e, p⟩ := q
  simp only [evs, Option.some.injEq, Prod.mk.injEq] at e
  obtain ⟨rfl, rfl⟩ := e
  exact p [] H O [] hg List.nodup_nil .nil (Stp.refl _ _) fun _ => Same.refl _
theorem d_cons (ha : PE X e (tE G m)) (hr : PA X es (tEs G ms)) (hs : starEach (e :: es) X.env = (false, eval e X.env) :: starEach es X.env := by rfl) : PA X (e :: es) (tEs G (.cons m ms)) :=
  pa_mono (pa_cons ha hr hs) fun σ H Q q => by
    obtain ⟨Z, r, O, ts, r', hg, e, p⟩ := q
    simp only [evs, Option.bind_eq_bind, Option.bind_eq_some_iff, Prod.exists, Bool.false_and, Bool.false_eq_true, if_false, Option.some.injEq, Prod.mk.injEq] at e
    obtain ⟨x, r1, e1, xs, r2, e2, rfl, rfl⟩ := e
    refine ⟨Z, r, O, x, r1, hg, e1, fun v H1 O1 f1 g1 nd1 R1 s1 m1 => ?_⟩
    refine ⟨f1 ++ Z, r1, O1, xs, r2, g1, e2, fun vs H2 O2 f2 g2 nd2 R2 s2 m2 => ?_⟩
    have R1' := R1.stayZ g1 s2
    refine p (v :: vs) H2 O2 (f1 ++ f2) (g2.less mem2 fun b hb => ?_) (nodup_two nd1 nd2 (apart g1 s2)) ?_ (s1.join s2) fun q => ?_
    · exact List.mem_append_right _ (hg.z0 b hb)
    · exact RTs.less mem3 (.cons R1' R2)
    · simp only [MEs.mut, Bool.or_eq_false_iff] at q
      exact (m1 q.1).trans (m2 q.2)
theorem d_onil : PA X [] (tOs G .nil) := pa_mono pa_nil fun σ H Q q => by
  obtain ⟨Z, r, O, ts, r', hg, e, p⟩ := q
  simp only [evs, Option.some.injEq, Prod.mk.injEq] at e
  obtain ⟨rfl, rfl⟩ := e
  exact p [] H O [] [] hg .nil (Stp.refl _ _) fun _ => Same.refl _
theorem d_ocons (ha : PE X e (tO G m)) (hr : PA X es (tOs G ms)) (hs : starEach (e :: es) X.env = (false, eval e X.env) :: starEach es X.env := by rfl) : PA X (e :: es) (tOs G (.cons m ms)) :=
  pa_mono (pa_cons ha hr hs) fun σ H Q q => by
    obtain ⟨Z, r, O, ts, r', hg, e, p⟩ := q
    simp only [evs, Option.bind_eq_bind, Option.bind_eq_some_iff, Prod.exists, Bool.true_and] at e
    obtain ⟨x, r1, e1, xs, r2, e2, e3⟩ := e
    split at e3
    · cases e3
    · rename_i hm
      simp only [Option.some.injEq, Prod.mk.injEq] at e3
      obtain ⟨rfl, rfl⟩ := e3
      refine ⟨Z, r, O, x, r1, hg, e1, fun v H1 O1 f1 g1 G1 R1 p1 s1 m1 => ?_⟩
      refine ⟨g1 ++ Z, r1, O1, xs, r2, G1, e2, fun vs H2 O2 f2 g2 G2 R2 s2 m2 => ?_⟩
      have R1' := R1.stay G1 p1 (m2 := ms.mut) (by simpa using hm) s2 m2
      refine p (v :: vs) H2 O2 (f1 ++ f2) (g1 ++ g2) (G2.less mem2 fun b hb => List.mem_append_right _ (hg.z0 b hb)) (RTs.less mem3 (.cons R1' R2)) (s1.join s2) fun q => ?_
      simp only [MEs.mut, Bool.or_eq_false_iff] at q
      exact (m1 q.1).trans (m2 q.2)

/-! ### displays -/
theorem d_tup {x1} (h : PA X es (tEs G ms)) : PE X (.Tuple es x1 pos) (tE G (.tup ms)) := pe_mono (pe_tup h) fun σ H Q q => by
  obtain ⟨Z, r, O, t, r', hg, e, p⟩ := q
  simp only [ev, Option.bind_eq_bind, Option.bind_eq_some_iff, Prod.exists] at e
  obtain ⟨xs, r1, e1, e2⟩ := e
  split at e2
  · rename_i hl
    simp only [Option.some.injEq, Prod.mk.injEq] at e2
    obtain ⟨rfl, rfl⟩ := e2
    refine ⟨Z, r, O, xs, r1, hg, e1, fun vs H' O' f g' nd rt st sm => ⟨by rw [rt.len, ← lim_eq]; exact hl, fun a ha => ?_⟩⟩
    refine fin_tup (g := []) hg.z0 p (g'.drop hg.z0) st.r sm ?_ ha
    refine rt.frz (fun b hb => ?_) fun b hb q => ?_
    · rw [List.nil_append] at hb
      rw [List.append_assoc]
      exact List.mem_append_right _ hb
    · rw [List.nil_append] at q
      rcases List.mem_append.mp q with q | q
      · rcases st.new b (List.mem_append_left _ hb) with w | w
        · exact hg.dj b w q
        · exact hg.zd b q w
      · exact g'.dj b q (List.mem_append_left _ hb)
  · cases e2
theorem d_lst (h : PA X es (tEs G ms)) : PE X (.List es pos) (tE G (.lst ms)) := pe_mono (pe_lst h) fun σ H Q q => by
  obtain ⟨Z, r, O, t, r', hg, e, p⟩ := q
  simp only [ev, Option.bind_eq_bind, Option.bind_eq_some_iff, Prod.exists] at e
  obtain ⟨xs, r1, e1, e2⟩ := e
  split at e2
  · rename_i hl
    simp only [Option.some.injEq, Prod.mk.injEq] at e2
    obtain ⟨rfl, rfl⟩ := e2
    refine ⟨Z, r, O, xs, r1, hg, e1, fun vs H' O' f g' nd rt st sm => ⟨by rw [rt.len, ← lim_eq]; exact hl, fun a ha => ?_⟩⟩
    exact fin_lst hg.z0 p g' st sm rt (fun _ q => q) nd ha
  · cases e2
end

/-! ### built-in functions -/
def BifOk (K : PySem.W.Frag) (rr : List V → Hp → VK → Prop) (f : Bif) : Prop :=
  ∀ ts z vs fs H W (Q : VK), bfn f ts = some z → RTs K H W vs ts fs → Fin K H W z Q → rr vs H Q
section
variable {X : Cx} {G : Fm} {e : Expr} {es : List Expr} {m : ME} {ms : MEs} {pos p : Pos} {x : Str} {id Ty : String} {rr : List V → Hp → VK → Prop} {f : Bif}
theorem i_bi (hk : BifOk G.K rr f) {σ : St} {H : Hp} {Q : VK} (q : tE G (.bi f ms) σ H Q) : tCB rr (tOs G ms) σ H Q := by
  obtain ⟨Z, r, O, t, r', hg, e, p⟩ := q
  simp only [ev, Option.bind_eq_bind, Option.bind_eq_some_iff, Prod.exists, Option.map_eq_some_iff, Prod.mk.injEq] at e
  obtain ⟨xs, r1, e1, z, e2, rfl, rfl⟩ := e
  exact ⟨Z, r, O, xs, r1, hg, e1, fun vs H' O' f g g' rt st sm => hk _ _ _ _ _ _ _ e2 rt (fin_of hg.z0 p g' st sm)⟩
theorem d_bi (hc : CallR X (.builtin id) rr) (hk : BifOk G.K rr f) (hg : Gl X x) (hm : X.mg x = none) (hv : bootBuiltins x = some (.builtin id)) (ha : PA X (e :: es) (tOs G ms)) (hn : x ≠ "__name__" := by decide) (hdb : (x == ("__debug__" : Str)) = false := by decide)
    (he : starEach (e :: es) X.env = (false, eval e X.env) :: starEach es X.env := by rfl) (hpl : (backTo pos (starEach es X.env)).any (·.1) = false := by rfl) : PE X (.Call (.Name x p) (e :: es) [] pos) (tE G (.bi f ms)) :=
  pe_mono (pe_callB hc hg hm hv ha hn hdb he hpl) fun _ _ _ q => i_bi hk q
theorem d_bty (hc : CallR X (.type Ty) rr) (hk : BifOk G.K rr f) (hg : Gl X x) (hm : X.mg x = none) (hv : bootBuiltins x = some (.type Ty)) (ha : PA X (e :: es) (tOs G ms)) (hn : x ≠ "__name__" := by decide) (hdb : (x == ("__debug__" : Str)) = false := by decide)
    (he : starEach (e :: es) X.env = (false, eval e X.env) :: starEach es X.env := by rfl) (hpl : (backTo pos (starEach es X.env)).any (·.1) = false := by rfl) : PE X (.Call (.Name x p) (e :: es) [] pos) (tE G (.bi f ms)) :=
  pe_mono (pe_callTy hc hg hm hv ha hn hdb he hpl) fun _ _ _ q => i_bi hk q
end
section
variable {K : PySem.W.Frag} {X : Cx}
theorem RTs.one {H : Hp} {W f : List Addr} {vs : List V} {t : T} (h : RTs K H W vs [t] f) : ∃ v g, vs = [v] ∧ RT K H W v t g := by
  cases h with | cons h q => cases q; exact ⟨_, _, rfl, h⟩
theorem RTs.pair {H : Hp} {W f : List Addr} {vs : List V} {t u : T} (h : RTs K H W vs [t, u] f) : ∃ v w g g', vs = [v, w] ∧ RT K H W v t g ∧ RT K H W w u g' := by
  cases h with | cons h q => cases q with | cons h' q => cases q; exact ⟨_, _, _, _, rfl, h, h'⟩
theorem bfn_one {f : Bif} {ts : List T} {z : T} (h : f ≠ .min) (h2 : f ≠ .max) (e : bfn f ts = some z) : ∃ t, ts = [t] := by
  match ts, e with
  | [t], _ => exact ⟨t, rfl⟩
  | [], e => cases f <;> simp [bfn] at e
  | [a, b], e => cases f <;> first | exact absurd rfl h | exact absurd rfl h2 | simp [bfn] at e
  | a :: b :: c :: r, e => cases f <;> simp [bfn] at e
theorem ok_len : BifOk K (fun xs H Q => ∃ x n, xs = [x] ∧ LenV K x H n ∧ Q (.int n) H) .len := by
  intro ts z vs fs H W Q e h fin
  obtain ⟨t, rfl⟩ := bfn_one (by simp) (by simp) e
  obtain ⟨v, g, rfl, rt⟩ := h.one
  cases rt with
  | leaf ri =>
    cases ri with
    | tup h' t' =>
      simp only [bfn, Option.some.injEq] at e
      exact ⟨_, _, rfl, .inr ⟨_, h', t'.len.symm⟩, fin.leaf _ _ e.symm (.int _)⟩
    | lst h' _ t' =>
      simp only [bfn, Option.some.injEq] at e
      exact ⟨_, _, rfl, .inl ⟨_, SqL.of h', t'.len.symm⟩, fin.leaf _ _ e.symm (.int _)⟩
    | scr h' =>
      simp only [bfn, Option.some.injEq] at e
      exact ⟨_, _, rfl, .inl ⟨_, h'.seq, (List.length_map _).symm⟩, fin.leaf _ _ e.symm (.int _)⟩
    | str s =>
      simp only [bfn] at e
      split at e
      · rename_i hl
        simp only [Option.some.injEq] at e
        exact ⟨_, _, rfl, ⟨by rw [← lim_eq]; exact hl, rfl⟩, fin.leaf _ _ e.symm (.int _)⟩
      · cases e
    | _ => simp [bfn] at e
  | node h' q =>
    simp only [bfn, Option.some.injEq] at e
    exact ⟨_, _, rfl, .inl ⟨_, SqL.of h', q.len.symm⟩, fin.leaf _ _ e.symm (.int _)⟩
theorem ok_abs : BifOk K (fun xs H Q => ∃ i, xs = [.int i] ∧ Q (.int (if i < 0 then -i else i)) H) .abs := by
  intro ts z vs fs H W Q e h fin
  obtain ⟨t, rfl⟩ := bfn_one (by simp) (by simp) e
  obtain ⟨v, g, rfl, rt⟩ := h.one
  cases t with
  | node _ => simp [bfn] at e
  | leaf d =>
    cases d with
    | int i =>
      simp only [bfn, Option.some.injEq] at e
      cases rt.int_inv
      exact ⟨i, rfl, fin.leaf _ _ e.symm (.int _)⟩
    | _ => simp [bfn] at e
theorem two_ints_of {f : Bif} {ts : List T} {z : T} (h : f = .min ∨ f = .max) (e : bfn f ts = some z) : ∃ i j, ts = [.leaf (.int i), .leaf (.int j)] := by
  match ts, e with
  | [], e => rcases h with rfl | rfl <;> simp [bfn] at e
  | [_], e => rcases h with rfl | rfl <;> simp [bfn] at e
  | [.leaf (.int i), .leaf (.int j)], e => exact ⟨i, j, rfl⟩
  | _ :: _ :: _ :: _, e => rcases h with rfl | rfl <;> simp [bfn] at e
  | [.node _, _], e => rcases h with rfl | rfl <;> simp [bfn] at e
  | [.leaf (.int _), .node _], e => rcases h with rfl | rfl <;> simp [bfn] at e
  | [.leaf (.int _), .leaf .non], e => rcases h with rfl | rfl <;> simp [bfn] at e
  | [.leaf (.int _), .leaf (.bl _)], e => rcases h with rfl | rfl <;> simp [bfn] at e
  | [.leaf (.int _), .leaf (.str _)], e => rcases h with rfl | rfl <;> simp [bfn] at e
  | [.leaf (.int _), .leaf (.tup _)], e => rcases h with rfl | rfl <;> simp [bfn] at e
  | [.leaf (.int _), .leaf (.lst _)], e => rcases h with rfl | rfl <;> simp [bfn] at e
  | [.leaf (.int _), .leaf (.scr _)], e => rcases h with rfl | rfl <;> simp [bfn] at e
  | [.leaf .non, _], e => rcases h with rfl | rfl <;> simp [bfn] at e
  | [.leaf (.bl _), _], e => rcases h with rfl | rfl <;> simp [bfn] at e
  | [.leaf (.str _), _], e => rcases h with rfl | rfl <;> simp [bfn] at e
  | [.leaf (.tup _), _], e => rcases h with rfl | rfl <;> simp [bfn] at e
  | [.leaf (.lst _), _], e => rcases h with rfl | rfl <;> simp [bfn] at e
  | [.leaf (.scr _), _], e => rcases h with rfl | rfl <;> simp [bfn] at e
theorem ok_min : BifOk K (fun xs H Q => ∃ i j, xs = [.int i, .int j] ∧ Q (.int (if j < i then j else i)) H) .min := by
  intro ts z vs fs H W Q e h fin
  obtain ⟨i, j, rfl⟩ := two_ints_of (.inl rfl) e
  obtain ⟨v, w, g, g', rfl, r1, r2⟩ := h.pair
  cases r1.int_inv
  cases r2.int_inv
  simp only [bfn, Option.some.injEq] at e
  exact ⟨i, j, rfl, fin.leaf _ _ e.symm (.int _)⟩
theorem ok_max : BifOk K (fun xs H Q => ∃ i j, xs = [.int i, .int j] ∧ Q (.int (if j > i then j else i)) H) .max := by
  intro ts z vs fs H W Q e h fin
  obtain ⟨i, j, rfl⟩ := two_ints_of (.inr rfl) e
  obtain ⟨v, w, g, g', rfl, r1, r2⟩ := h.pair
  cases r1.int_inv
  cases r2.int_inv
  simp only [bfn, Option.some.injEq] at e
  exact ⟨i, j, rfl, fin.leaf _ _ e.symm (.int _)⟩
theorem RIs.ints {H : Hp} {W : List Addr} : ∀ {vs : List V} {ds : List D} {ns : List Int}, RIs K H W vs ds → D.ints ds = some ns → vs = ns.map V.int
  | _, _, _, .nil, e => by simp only [D.ints, Option.some.injEq] at e; subst e; rfl
  | _, _, _, .cons (.int i) t, e => by
    simp only [D.ints, Option.map_eq_some_iff] at e
    obtain ⟨ms, e1, rfl⟩ := e
    rw [RIs.ints t e1]; rfl
  | _, _, _, .cons .non _, e => by simp [D.ints] at e
  | _, _, _, .cons (.bl _) _, e => by simp [D.ints] at e
  | _, _, _, .cons (.str _) _, e => by simp [D.ints] at e
  | _, _, _, .cons (.tup _ _) _, e => by simp [D.ints] at e
  | _, _, _, .cons (.lst _ _ _) _, e => by simp [D.ints] at e
  | _, _, _, .cons (.scr _) _, e => by simp [D.ints] at e
theorem RIs.bls {H : Hp} {W : List Addr} : ∀ {vs : List V} {ds : List D} {ns : List Bool}, RIs K H W vs ds → D.bls ds = some ns → vs = ns.map V.bl
  | _, _, _, .nil, e => by simp only [D.bls, Option.some.injEq] at e; subst e; rfl
  | _, _, _, .cons (.bl i) t, e => by
    simp only [D.bls, Option.map_eq_some_iff] at e
    obtain ⟨ms, e1, rfl⟩ := e
    rw [RIs.bls t e1]; rfl
  | _, _, _, .cons .non _, e => by simp [D.bls] at e
  | _, _, _, .cons (.int _) _, e => by simp [D.bls] at e
  | _, _, _, .cons (.str _) _, e => by simp [D.bls] at e
  | _, _, _, .cons (.tup _ _) _, e => by simp [D.bls] at e
  | _, _, _, .cons (.lst _ _ _) _, e => by simp [D.bls] at e
  | _, _, _, .cons (.scr _) _, e => by simp [D.bls] at e
theorem ok_sum : BifOk K (rSum K) .sum := by
  intro ts z vs fs H W Q e h fin
  obtain ⟨t, rfl⟩ := bfn_one (by simp) (by simp) e
  obtain ⟨v, g, rfl, rt⟩ := h.one
  simp only [bfn, Option.map_eq_some_iff, Option.bind_eq_some_iff] at e
  obtain ⟨ns, ⟨ds, e1, e2⟩, e3⟩ := e
  obtain ⟨a, ws, rfl, hp, rs⟩ := rt.lst? e1
  exact ⟨a, ns, rfl, by rw [← rs.ints e2]; exact SqL.of hp, fin.leaf _ _ e3.symm (.int _)⟩
theorem ok_all : BifOk K (rAll K) .all := by
  intro ts z vs fs H W Q e h fin
  obtain ⟨t, rfl⟩ := bfn_one (by simp) (by simp) e
  obtain ⟨v, g, rfl, rt⟩ := h.one
  simp only [bfn, Option.map_eq_some_iff, Option.bind_eq_some_iff] at e
  obtain ⟨ns, ⟨ds, e1, e2⟩, e3⟩ := e
  obtain ⟨a, ws, rfl, hp, rs⟩ := rt.lst? e1
  exact ⟨a, ns, rfl, by rw [← rs.bls e2]; exact SqL.of hp, fin.leaf _ _ e3.symm (.bl _)⟩
theorem ok_tuple : BifOk K (fun xs H Q => ∃ p ys, xs = [.ref p] ∧ ((SqL K H p ys ∧ ∀ l, H l = none → Q (.ref l) (upd H l (.tup ys))) ∨ (SqT K H p ys ∧ Q (.ref p) H))) .tuple := by
  intro ts z vs fs H W Q e h fin
  obtain ⟨t, rfl⟩ := bfn_one (by simp) (by simp) e
  obtain ⟨v, g, rfl, rt⟩ := h.one
  have other : (t.lst?.map fun ds => T.leaf (.tup ds)) = some z → ∃ p ys, [v] = [V.ref p] ∧ ((SqL K H p ys ∧ ∀ l, H l = none → Q (.ref l) (upd H l (.tup ys))) ∨ (SqT K H p ys ∧ Q (.ref p) H)) := fun e => by
    rw [Option.map_eq_some_iff] at e
    obtain ⟨ds, e1, e2⟩ := e
    obtain ⟨a, ws, rfl, hp, rs⟩ := rt.lst? e1
    exact ⟨a, ws, rfl, .inl ⟨SqL.of hp, fun l hl => fin.tup _ _ l e2.symm rs hl⟩⟩
  cases t with
  | node _ => exact other e
  | leaf d =>
    cases d with
    | tup ds =>
      simp only [bfn, Option.some.injEq] at e
      obtain ⟨a, ws, rfl, hp, rs⟩ := rt.tup_inv
      exact ⟨a, ws, rfl, .inr ⟨hp, fin.leaf _ _ e.symm (.tup hp rs)⟩⟩
    | _ => exact other e
theorem RIs.of_ints {H : Hp} {W : List Addr} : ∀ ns : List Int, RIs K H W (ns.map V.int) (ns.map D.int)
  | [] => .nil
  | n :: ns => .cons (.int n) (RIs.of_ints ns)
theorem ok_list : BifOk K (fun xs H Q => ∃ p ys, xs = [.ref p] ∧ (SqL K H p ys ∨ SqT K H p ys) ∧ ∀ l, H l = none → Q (.ref l) (upd H l (.lst ys))) .list := by
  intro ts z vs fs H W Q e h fin
  obtain ⟨t, rfl⟩ := bfn_one (by simp) (by simp) e
  obtain ⟨v, g, rfl, rt⟩ := h.one
  have other : (t.lst?.map fun ds => T.node (ds.map T.leaf)) = some z → ∃ p ys, [v] = [V.ref p] ∧ (SqL K H p ys ∨ SqT K H p ys) ∧ ∀ l, H l = none → Q (.ref l) (upd H l (.lst ys)) := fun e => by
    rw [Option.map_eq_some_iff] at e
    obtain ⟨ds, e1, e2⟩ := e
    obtain ⟨a, ws, rfl, hp, rs⟩ := rt.lst? e1
    exact ⟨a, ws, rfl, .inl (SqL.of hp), fun l hl => fin.lst _ _ l e2.symm rs hl⟩
  cases t with
  | node _ => exact other e
  | leaf d =>
    cases d with
    | tup ds =>
      simp only [bfn, Option.some.injEq] at e
      obtain ⟨a, ws, rfl, hp, rs⟩ := rt.tup_inv
      exact ⟨a, ws, rfl, .inr hp, fun l hl => fin.lst _ _ l e.symm rs hl⟩
    | scr ns =>
      simp only [bfn, Option.some.injEq] at e
      cases rt with
      | leaf ri =>
        cases ri with
        | scr h' =>
          refine ⟨_, _, rfl, .inl h'.seq, fun l hl => fin.lst _ (ns.map D.int) l ?_ (RIs.of_ints ns) hl⟩
          rw [← e, List.map_map]; rfl
    | _ => exact other e
theorem ok_int : BifOk K (fun xs H Q => (∃ i, xs = [.int i] ∧ Q (.int i) H) ∨ ∃ k, xs = [.bl k] ∧ Q (.int (if k then 1 else 0)) H) .int := by
  intro ts z vs fs H W Q e h fin
  obtain ⟨t, rfl⟩ := bfn_one (by simp) (by simp) e
  obtain ⟨v, g, rfl, rt⟩ := h.one
  cases t with
  | node _ => simp [bfn] at e
  | leaf d =>
    cases d with
    | int i =>
      simp only [bfn, Option.some.injEq] at e
      cases rt.int_inv
      exact .inl ⟨i, rfl, fin.leaf _ _ e.symm (.int _)⟩
    | bl i =>
      simp only [bfn, Option.some.injEq] at e
      cases rt.bl_inv
      exact .inr ⟨i, rfl, fin.leaf _ _ e.symm (.int _)⟩
    | _ => simp [bfn] at e
end
end PD

/-! Rules: isinstance; arguments; calls. -/
namespace PD
open PySem L2

/-- the type's name of data -/
def D.ty : D → String
  | .non => "NoneType"
  | .bl _ => "bool"
  | .int _ => "int"
  | .str _ => "str"
  | .tup _ => "tuple"
  | .lst _ => "list"
  | .scr _ => "list"
theorem RI.tyX {K : PySem.W.Frag} {H : Hp} {W : List Addr} {v : V} {d : D} (h : RI K H W v d) : TyX K H v (.type d.ty) := by
  cases h with
  | non => exact .base .non
  | bl b => exact .base (.bl b)
  | int b => exact .base (.int b)
  | str b => exact .base (.str b)
  | tup h _ =>
    rcases h with (h | ⟨o, h⟩) | ⟨o, its, n, h1, h2, _⟩
    · exact .base (.tup h)
    · exact .fTuple h
    · exact .kTuple h1 h2
  | lst h _ _ => exact .base (.lst h)
  | scr h =>
    rcases h with ⟨o, h⟩ | ⟨o, its, n, h1, h2, _⟩
    · exact .base (.frz h)
    · exact .kList h1 h2
theorem RT.tyX {K : PySem.W.Frag} {H : Hp} {W f : List Addr} {v : V} {t : T} (h : RT K H W v t f) : TyX K H v (.type t.frz.ty) := h.dat.tyX
def isaB (f : Bif) (n : String) : Bool :=
  match f with
  | .isStr => n == "str"
  | .isInt => n == "int" || n == "bool"
  | .isBl => n == "bool"
  | .isLst => n == "list"
  | .isSeq => n == "tuple" || n == "list"
  | _ => false
def isaF (f : Bif) : Bool := match f with | .isStr | .isInt | .isBl | .isLst | .isSeq => true | _ => false
theorem isa_val {f : Bif} (hf : isaF f = true) {t z : T} (e : bfn f [t] = some z) : z = .leaf (.bl (isaB f t.frz.ty)) := by
  cases f <;> first | (cases hf; done) | skip
  all_goals
    cases t with
    | node ts =>
      simp only [bfn, Option.some.injEq] at e
      rw [← e]
      rfl
    | leaf d =>
      cases d <;> (simp only [bfn, Option.some.injEq] at e; rw [← e]; rfl)
theorem ty_cases (d : D) : d.ty = "NoneType" ∨ d.ty = "bool" ∨ d.ty = "int" ∨ d.ty = "str" ∨ d.ty = "tuple" ∨ d.ty = "list" := by
  cases d <;> simp [D.ty]

section
variable {X : Cx} {G : Fm} {e : Expr} {m : ME} {pos p p1 : Pos} {x y : Str} {f : Bif}
/-- isinstance(e, T), T a built-in class -/
theorem d_isa {Ty : String} (hf : isaF f = true) (hk : ∀ n, (n = "NoneType" ∨ n = "bool" ∨ n = "int" ∨ n = "str" ∨ n = "tuple" ∨ n = "list") → kitB n Ty = some (isaB f n)) (ha : PE X e (tO G m)) (ht : PE X (.Name y p1) (tC (.ty Ty)))
    (hg : Gl X "isinstance") (hm : X.mg "isinstance" = none) (hK : G.K = X.K := by rfl) (hv : bootBuiltins "isinstance" = some (.builtin "isinstance") := by decide +kernel)
    (he : starEach [e, .Name y p1] X.env = [(false, eval e X.env), (false, eval (.Name y p1) X.env)] := by rfl) (he2 : starEach [.Name y p1] X.env = [(false, eval (.Name y p1) X.env)] := by rfl) :
    PE X (.Call (.Name "isinstance" p) [e, .Name y p1] [] pos) (tE G (.bi f (.cons m .nil))) :=
  pe_mono (pe_callB call_isi hg hm hv (pa_cons ha (pa_cons ht pa_nil (by rw [he2]; rfl)) (by rw [he, he2])) (by decide) (by decide) (by rw [he, he2]) (by rw [he2]; rfl)) fun σ H Q q => by
    obtain ⟨Z, r, O, t, r', hg, e, p⟩ := q
    simp only [ev, evs, Option.bind_eq_bind, Option.bind_eq_some_iff, Prod.exists, Option.map_eq_some_iff, Prod.mk.injEq, MEs.mut, Bool.and_false, Bool.false_and, Bool.false_eq_true, if_false, Option.some.injEq] at e
    obtain ⟨xs, r1, ⟨x, r2, e1, xs', r3, ⟨rfl, rfl⟩, rfl, rfl⟩, z, e2, rfl, rfl⟩ := e
    refine ⟨Z, r, O, x, r2, hg, e1, fun v H1 O1 f1 g1 G1 R1 p1 s1 m1 => ?_⟩
    have ez := isa_val hf e2
    subst ez
    refine ⟨v, _, _, _, isaB f x.frz.ty, rfl, .ty Ty, hK ▸ R1.tyX, kit_ty (hk _ (ty_cases _)), ?_⟩
    exact fin_cpy hg.z0 p G1 s1 (fun q => m1 (by simpa [ME.mut, MEs.mut] using q)) (.bl _)
end

/-! ### arguments -/
/-- the values of arguments: reckoned ones with their lists, slots' -/
inductive RA (K : PySem.W.Frag) (H : Hp) (W : List Addr) (σ : St) : List V → List (Sum T Nat) → List Addr → Prop
  | nil : RA K H W σ [] [] []
  | val {v : V} {vs : List V} {t : T} {as : List (Sum T Nat)} {f g : List Addr} (h : RT K H W v t f) (q : RA K H W σ vs as g) : RA K H W σ (v :: vs) (.inl t :: as) (f ++ g)
  | io {v : V} {vs : List V} {i : Nat} {as : List (Sum T Nat)} {g : List Addr} (h : σ[i]? = some (some v)) (q : RA K H W σ vs as g) : RA K H W σ (v :: vs) (.inr i :: as) g
def tA (G : Fm) (ms : MAs) : TA := fun σ H Q => ∃ Z r O as r', Good G Z σ r H O ∧ eva G.C ms r = some (as, r') ∧
  ∀ vs H' O' f, Good G (f ++ Z) σ r' H' O' → f.Nodup → RA G.K H' (f ++ Z ++ O') σ vs as f → Stp O (f ++ O') H H' → Q vs H'
theorem RA.less {K : PySem.W.Frag} {H : Hp} {W W' : List Addr} {σ : St} (s : ∀ b ∈ W', b ∈ W) : ∀ {vs : List V} {as : List (Sum T Nat)} {f : List Addr}, RA K H W σ vs as f → RA K H W' σ vs as f
  | _, _, _, .nil => .nil
  | _, _, _, .val h q => .val (h.less s) (RA.less s q)
  | _, _, _, .io h q => .io h (RA.less s q)
section
variable {X : Cx} {G : Fm} {e : Expr} {es : List Expr} {m : ME} {ms : MAs}
theorem a_nil : PA X [] (tA G .nil) := pa_mono pa_nil fun σ H Q q => by
  obtain ⟨Z, r, O, ts, r', hg, e, p⟩ := q
  simp only [eva, Option.some.injEq, Prod.mk.injEq] at e
  obtain ⟨rfl, rfl⟩ := e
  exact p [] H O [] hg List.nodup_nil .nil (Stp.refl _ _)
theorem a_val (ha : PE X e (tE G m)) (hr : PA X es (tA G ms)) (hs : starEach (e :: es) X.env = (false, eval e X.env) :: starEach es X.env := by rfl) : PA X (e :: es) (tA G (.val m ms)) :=
  pa_mono (pa_cons ha hr hs) fun σ H Q q => by
    obtain ⟨Z, r, O, ts, r', hg, e, p⟩ := q
    simp only [eva, Option.bind_eq_bind, Option.bind_eq_some_iff, Prod.exists, Option.some.injEq, Prod.mk.injEq] at e
    obtain ⟨x, r1, e1, xs, r2, e2, rfl, rfl⟩ := e
    refine ⟨Z, r, O, x, r1, hg, e1, fun v H1 O1 f1 g1 nd1 R1 s1 m1 => ?_⟩
    refine ⟨f1 ++ Z, r1, O1, xs, r2, g1, e2, fun vs H2 O2 f2 g2 nd2 R2 s2 => ?_⟩
    have R1' := R1.stayZ g1 s2
    exact p (v :: vs) H2 O2 (f1 ++ f2) (g2.less mem2 fun b hb => List.mem_append_right _ (hg.z0 b hb)) (nodup_two nd1 nd2 (apart g1 s2)) (RA.less mem3 (.val R1' R2)) (s1.join s2)
theorem a_io {i : Nat} (ha : PE X e (tVar i)) (hr : PA X es (tA G ms)) (hs : starEach (e :: es) X.env = (false, eval e X.env) :: starEach es X.env := by rfl) : PA X (e :: es) (tA G (.io i ms)) :=
  pa_mono (pa_cons ha hr hs) fun σ H Q q => by
    obtain ⟨Z, r, O, ts, r', hg, e, p⟩ := q
    simp only [eva, Option.bind_eq_bind, Option.bind_eq_some_iff, Prod.exists, Option.some.injEq, Prod.mk.injEq] at e
    obtain ⟨t0, e0, xs, r2, e2, rfl, rfl⟩ := e
    obtain ⟨v, A, g, B, hσ, _, _⟩ := hg.re.get e0
    refine ⟨v, hσ, Z, r, O, xs, r2, hg, e2, fun vs H2 O2 f2 g2 nd2 R2 s2 => ?_⟩
    exact p (v :: vs) H2 O2 f2 g2 nd2 (.io hσ R2) s2
end

/-! ### a call -/
/-- the values at the in-out places -/
def ioVs : List V → List Bool → List V
  | v :: vs, true :: bs => v :: ioVs vs bs
  | _ :: vs, false :: bs => ioVs vs bs
  | _, _ => []
/-- plain data where the callee changes nothing -/
def leafArgs : List T → List Bool → Prop
  | t :: ts, b :: bs => (b = false → t.isLeaf = true) ∧ leafArgs ts bs
  | [], [] => True
  | _, _ => False
/-- a def's promise: what the language says of the call -/
def spD (K : PySem.W.Frag) (C : Callees) (fid : Nat) : Sp := fun vs H Q _ => ∃ ts f Z x outs, RTs K H (f ++ Z) vs ts f ∧ f.Nodup ∧ (∀ b ∈ f, b ∉ Z) ∧ (∀ b ∈ Z, H b ≠ none) ∧ leafArgs ts (C.io fid) ∧ C.run fid ts = some (x, outs) ∧
  ∀ v H' f' g, RTs K H' (g ++ f' ++ Z) (ioVs vs (C.io fid)) outs f' → RT K H' (g ++ f' ++ Z) v x g → (g ++ f').Nodup → (∀ b ∈ g ++ f', b ∉ Z) → Stp f (g ++ f') H H' → Q v H'

theorem RA.freeze {K : PySem.W.Frag} {H : Hp} {W : List Addr} {σ : St} : ∀ {vs : List V} {as as' : List (Sum T Nat)} {bs : List Bool} {f : List Addr}, RA K H W σ vs as f → argOk as bs = some as' → f.Nodup →
    ∃ f', (∀ b ∈ f', b ∈ f) ∧ f'.Nodup ∧ ∀ W', (∀ b ∈ W', b ∈ W) → (∀ b ∈ f, b ∈ W' → b ∈ f') → RA K H W' σ vs as' f'
  | _, _, _, bs, _, .nil, e, _ => by
    cases bs with
    | nil =>
      simp only [argOk, Option.some.injEq] at e
      subst e
      exact ⟨[], fun _ h => h, List.nodup_nil, fun _ _ _ => .nil⟩
    | cons b bs => simp [argOk] at e
  | _, _, _, [], _, .val _ _, e, _ => by simp [argOk] at e
  | _, _, _, true :: bs, _, .val (f := f) (g := g) h q, e, nd => by
    simp only [argOk, Option.map_eq_some_iff] at e
    obtain ⟨as, e1, rfl⟩ := e
    have nd' := List.nodup_append.mp nd
    obtain ⟨f', h1, h2, h3⟩ := RA.freeze q e1 nd'.2.1
    refine ⟨f ++ f', fun b hb => ?_, nodup_two nd'.1 h2 fun b hb z => nd'.2.2 b hb b (h1 b z) rfl, fun W' s k => .val (h.less s) (h3 W' s fun b hb hw => ?_)⟩
    · rcases List.mem_append.mp hb with z | z
      · exact List.mem_append_left _ z
      · exact List.mem_append_right _ (h1 b z)
    · rcases List.mem_append.mp (k b (List.mem_append_right _ hb) hw) with z | z
      · exact absurd rfl (nd'.2.2 b z b hb)
      · exact z
  | _, _, _, false :: bs, _, .val (f := f) (g := g) h q, e, nd => by
    simp only [argOk, Option.map_eq_some_iff] at e
    obtain ⟨as, e1, rfl⟩ := e
    have nd' := List.nodup_append.mp nd
    obtain ⟨f', h1, h2, h3⟩ := RA.freeze q e1 nd'.2.1
    refine ⟨f', fun b hb => List.mem_append_right _ (h1 b hb), h2, fun W' s k => ?_⟩
    have k2 : ∀ b ∈ f, b ∉ W' := fun b hb hw => nd'.2.2 b hb b (h1 b (k b (List.mem_append_left _ hb) hw)) rfl
    have := RA.val (.leaf (h.frz s k2)) (h3 W' s fun b hb hw => k b (List.mem_append_right _ hb) hw)
    exact this
  | _, _, _, [], _, .io _ _, e, _ => by simp [argOk] at e
  | _, _, _, false :: bs, _, .io _ _, e, _ => by simp [argOk] at e
  | _, _, _, true :: bs, _, .io h q, e, nd => by
    simp only [argOk, Option.map_eq_some_iff] at e
    obtain ⟨as, e1, rfl⟩ := e
    obtain ⟨f', h1, h2, h3⟩ := RA.freeze q e1 nd
    exact ⟨f', h1, h2, fun W' s k => .io h (h3 W' s k)⟩

def clearAll (r : Env) : List Nat → Env
  | [] => r
  | i :: is => clearAll (r.set i none) is
theorem getD_set_ne {r : Env} {i j : Nat} {x : Option T} (h : i ≠ j) : (r.set i x).getD j none = r.getD j none := by
  rw [List.getD_eq_getElem?_getD, List.getD_eq_getElem?_getD, List.getElem?_set_ne h]
theorem ioTs_clear {i : Nat} {x : Option T} : ∀ {as : List (Sum T Nat)} {r : Env}, i ∉ ioSlots as → ioTs as (r.set i x) = ioTs as r
  | [], _, _ => rfl
  | .inl t :: as, r, h => by
    have := ioTs_clear (r := r) (x := x) (as := as) h
    simp only [ioTs, List.mapM_cons] at *
    rw [this]
  | .inr j :: as, r, h => by
    simp only [ioSlots, List.mem_cons, not_or] at h
    have := ioTs_clear (r := r) (x := x) (as := as) h.2
    simp only [ioTs, List.mapM_cons] at *
    rw [this, getD_set_ne h.1]

/-- the slots' trees are taken out, for a call -/
theorem RE.takes {K : PySem.W.Frag} {H : Hp} {W : List Addr} {σ : St} : ∀ {vs : List V} {as : List (Sum T Nat)} {f : List Addr} {r : Env} {O : List Addr} {ts : List T}, RA K H W σ vs as f → RE K H W σ r O → (ioSlots as).Nodup → ioTs as r = some ts →
    ∃ O0 F, RE K H W σ (clearAll r (ioSlots as)) O0 ∧ RTs K H W vs ts F ∧ (F ++ O0).Perm (f ++ O)
  | _, _, _, r, O, ts, .nil, re, _, e => by
    simp only [ioTs, List.mapM_nil, Option.pure_def, Option.some.injEq] at e
    subst e
    exact ⟨O, [], re, .nil, List.Perm.refl _⟩
  | _, _, _, r, O, ts, .val (f := f) (g := g) h q, re, nd, e => by
    simp only [ioTs, List.mapM_cons, Option.bind_eq_bind, Option.bind_eq_some_iff, Option.some.injEq, Option.pure_def] at e
    obtain ⟨t, rfl, us, e1, rfl⟩ := e
    obtain ⟨O0, F, h1, h2, h3⟩ := RE.takes q re nd e1
    refine ⟨O0, f ++ F, h1, .cons h h2, ?_⟩
    rw [List.append_assoc, List.append_assoc]
    exact List.Perm.append_left f h3
  | _, _, _, r, O, ts, .io (i := i) (as := as) (g := g) h q, re, nd, e => by
    simp only [ioTs, List.mapM_cons, Option.bind_eq_bind, Option.bind_eq_some_iff, Option.some.injEq, Option.pure_def] at e
    obtain ⟨t, e0, us, e1, rfl⟩ := e
    simp only [ioSlots, List.nodup_cons] at nd
    obtain ⟨A, g0, B, eO, _, hv, hc, _⟩ := re.clear i
    obtain ⟨v', hσ, rt⟩ := hv t e0
    rw [h] at hσ
    cases hσ
    obtain ⟨O0, F, h1, h2, h3⟩ := RE.takes q hc nd.2 ((ioTs_clear nd.1).trans e1)
    refine ⟨O0, g0 ++ F, h1, .cons rt h2, ?_⟩
    rw [List.append_assoc, eO]
    refine (List.Perm.append_left g0 h3).trans ?_
    refine (List.perm_append_comm_assoc g0 g (A ++ B)).trans (List.Perm.append_left g ?_)
    rw [List.append_assoc]
    exact List.perm_append_comm_assoc g0 A B
end PD

/-! Rules: calls. -/
namespace PD
open PySem L2

theorem clearAll_set {i : Nat} {x : Option T} : ∀ {is : List Nat} {r : Env}, i ∉ is → (clearAll (r.set i none) is).set i x = clearAll (r.set i x) is
  | [], r, _ => by
    show (r.set i none).set i x = r.set i x
    rw [List.set_set]
  | j :: is, r, h => by
    simp only [List.mem_cons, not_or] at h
    show (clearAll ((r.set i none).set j none) is).set i x = clearAll ((r.set i x).set j none) is
    rw [List.set_comm _ _ h.1, clearAll_set h.2, List.set_comm _ _ (Ne.symm h.1)]
theorem clearAll_getD {i : Nat} : ∀ {is : List Nat} {r : Env}, i ∉ is → (clearAll (r.set i none) is).getD i none = none
  | [], r, _ => getD_set_none r i
  | j :: is, r, h => by
    simp only [List.mem_cons, not_or] at h
    show (clearAll ((r.set i none).set j none) is).getD i none = none
    rw [List.set_comm _ _ h.1]
    exact clearAll_getD h.2
theorem leaf_args : ∀ {as as' : List (Sum T Nat)} {bs : List Bool} {r : Env} {ts : List T}, argOk as bs = some as' → ioTs as' r = some ts → leafArgs ts bs
  | [], _, [], r, ts, e, q => by
    simp only [argOk, Option.some.injEq] at e
    subst e
    simp only [ioTs, List.mapM_nil, Option.pure_def, Option.some.injEq] at q
    subst q
    trivial
  | [], _, _ :: _, _, _, e, _ => by simp [argOk] at e
  | .inl t :: as, _, true :: bs, r, ts, e, q => by
    simp only [argOk, Option.map_eq_some_iff] at e
    obtain ⟨a, e1, rfl⟩ := e
    simp only [ioTs, List.mapM_cons, Option.bind_eq_bind, Option.bind_eq_some_iff, Option.some.injEq, Option.pure_def] at q
    obtain ⟨t, rfl, us, q1, rfl⟩ := q
    exact ⟨fun z => by (cases z), leaf_args e1 q1⟩
  | .inl t :: as, _, false :: bs, r, ts, e, q => by
    simp only [argOk, Option.map_eq_some_iff] at e
    obtain ⟨a, e1, rfl⟩ := e
    simp only [ioTs, List.mapM_cons, Option.bind_eq_bind, Option.bind_eq_some_iff, Option.some.injEq, Option.pure_def] at q
    obtain ⟨t, rfl, us, q1, rfl⟩ := q
    exact ⟨fun z => rfl, leaf_args e1 q1⟩
  | .inl t :: as, _, [], _, _, e, _ => by simp [argOk] at e
  | .inr i :: as, _, true :: bs, r, ts, e, q => by
    simp only [argOk, Option.map_eq_some_iff] at e
    obtain ⟨a, e1, rfl⟩ := e
    simp only [ioTs, List.mapM_cons, Option.bind_eq_bind, Option.bind_eq_some_iff, Option.some.injEq, Option.pure_def] at q
    obtain ⟨t, _, us, q1, rfl⟩ := q
    exact ⟨fun z => by (cases z), leaf_args e1 q1⟩
  | .inr i :: as, _, false :: bs, _, _, e, _ => by simp [argOk] at e
  | .inr i :: as, _, [], _, _, e, _ => by simp [argOk] at e

/-- behind a call the slots' trees are put back -/
theorem RE.puts {K : PySem.W.Frag} {H H1 : Hp} {W W1 : List Addr} {σ : St} : ∀ {vs : List V} {as : List (Sum T Nat)} {bs : List Bool} {f f2 : List Addr} {r : Env} {O0 : List Addr} {outs : List T},
    RA K H1 W1 σ vs as f → (∃ as0, argOk as0 bs = some as) → (ioSlots as).Nodup → RE K H W σ (clearAll r (ioSlots as)) O0 → RTs K H W (ioVs vs bs) outs f2 →
    ∃ O2 g, RE K H W σ (ioPut as bs outs r) O2 ∧ (g ++ O2).Perm (f2 ++ O0)
  | _, _, bs, _, f2, r, O0, outs, .nil, _, _, re, rt => by
    have e : ioVs [] bs = [] := by cases bs <;> rfl
    rw [e] at rt
    cases rt
    refine ⟨O0, [], ?_, List.Perm.refl _⟩
    cases bs <;> exact re
  | _, _, [], _, f2, r, O0, outs, .val _ _, h, _, _, _ => by
    obtain ⟨as0, h⟩ := h
    rcases as0 with _ | ⟨a | a, as0⟩ <;> simp [argOk] at h
  | _, _, true :: bs, _, f2, r, O0, outs, .val (as := as) h q, hk, nd, re, rt => by
    have hk' : ∃ as0, argOk as0 bs = some as := by
      obtain ⟨as0, hk⟩ := hk
      rcases as0 with _ | ⟨a | a, as0⟩ <;> simp only [argOk, Option.map_eq_some_iff, List.cons.injEq, reduceCtorEq, false_and, and_false, exists_false] at hk
      obtain ⟨c, k1, _, rfl⟩ := hk
      exact ⟨as0, k1⟩
    cases rt with
    | cons ht rt =>
      rename_i t' us ft fr
      obtain ⟨O2, g, h1, h2⟩ := RE.puts q hk' nd re rt
      refine ⟨O2, ft ++ g, h1, ?_⟩
      rw [List.append_assoc, List.append_assoc]
      exact List.Perm.append_left _ h2
  | _, _, false :: bs, _, f2, r, O0, outs, .val (as := as) h q, hk, nd, re, rt => by
    have hk' : ∃ as0, argOk as0 bs = some as := by
      obtain ⟨as0, hk⟩ := hk
      rcases as0 with _ | ⟨a | a, as0⟩ <;> simp only [argOk, Option.map_eq_some_iff, List.cons.injEq, reduceCtorEq, false_and, and_false, exists_false] at hk
      obtain ⟨c, k1, _, rfl⟩ := hk
      exact ⟨as0, k1⟩
    obtain ⟨O2, g, h1, h2⟩ := RE.puts (as := as) (bs := bs) q hk' nd re (show RTs K H W (ioVs _ bs) outs f2 from rt)
    refine ⟨O2, g, ?_, h2⟩
    cases outs <;> exact h1
  | _, _, [], _, f2, r, O0, outs, .io _ _, h, _, _, _ => by
    obtain ⟨as0, h⟩ := h
    rcases as0 with _ | ⟨a | a, as0⟩ <;> simp [argOk] at h
  | _, _, false :: bs, _, f2, r, O0, outs, .io h q, hk, nd, re, rt => by
    obtain ⟨as0, hk⟩ := hk
    rcases as0 with _ | ⟨a | a, as0⟩ <;> simp [argOk] at hk
  | _, _, true :: bs, _, f2, r, O0, outs, .io (i := i) (as := as) h q, hk, nd, re, rt => by
    have hk' : ∃ as0, argOk as0 bs = some as := by
      obtain ⟨as0, hk⟩ := hk
      rcases as0 with _ | ⟨a | a, as0⟩ <;> simp only [argOk, Option.map_eq_some_iff, List.cons.injEq, reduceCtorEq, false_and, and_false, exists_false] at hk
      obtain ⟨c, k1, _, rfl⟩ := hk
      exact ⟨as0, k1⟩
    simp only [ioSlots, List.nodup_cons] at nd
    cases rt with
    | cons ht rt =>
      rename_i t us ft fr
      have re0 : RE K H W σ (clearAll (r.set i none) (ioSlots as)) O0 := re
      obtain ⟨f', re1, pm⟩ := re0.fill (clearAll_getD nd.1) h ht
      rw [clearAll_set nd.1] at re1
      obtain ⟨O2, g, h1, h2⟩ := RE.puts q hk' nd.2 re1 rt
      refine ⟨O2, g, h1, h2.trans ?_⟩
      refine (List.Perm.append_left fr pm).trans ?_
      rw [List.append_assoc]
      exact List.perm_append_comm_assoc fr ft O0

theorem call_core {G : Fm} {fid : Nat} {Z O O1 f1 : List Addr} {σ : St} {r r1 : Env} {H H1 : Hp} {Q : VK} {E : XK} {vs : List V} {as as' : List (Sum T Nat)} {ts outs : List T} {x : T} (hg : Good G Z σ r H O) (g1 : Good G (f1 ++ Z) σ r1 H1 O1) (nd1 : f1.Nodup) (R1 : RA G.K H1 (f1 ++ Z ++ O1) σ vs as f1) (s1 : Stp O (f1 ++ O1) H H1)
    (e2 : argOk as (G.C.io fid) = some as') (e3 : (ioSlots as').Nodup) (e4 : ioTs as' r1 = some ts) (e5 : G.C.run fid ts = some (x, outs)) (p : Po G Z σ O H true x (ioPut as' (G.C.io fid) outs r1) Q) : spD G.K G.C fid vs H1 Q E := by
  obtain ⟨f', hs, ndf, hf⟩ := R1.freeze e2 nd1
  have fZ : ∀ b ∈ f1, b ∉ Z := fun b hb z => by
    rcases s1.new b (List.mem_append_left _ hb) with w | w
    · exact hg.dj b w z
    · exact hg.zd b z w
  have fO : ∀ b ∈ f1, b ∉ O1 := fun b hb z => g1.dj b z (List.mem_append_left _ hb)
  have lessW : ∀ b ∈ f' ++ Z ++ O1, b ∈ f1 ++ Z ++ O1 := fun b hb => by
    rcases List.mem_append.mp hb with q | q
    · rcases List.mem_append.mp q with q | q
      · exact List.mem_append_left _ (List.mem_append_left _ (hs b q))
      · exact List.mem_append_left _ (List.mem_append_right _ q)
    · exact List.mem_append_right _ q
  have R2 := hf (f' ++ Z ++ O1) lessW fun b hb hw => by
    rcases List.mem_append.mp hw with q | q
    · rcases List.mem_append.mp q with q | q
      · exact q
      · exact absurd q (fZ b hb)
    · exact absurd q (fO b hb)
  obtain ⟨O0, F, h1, h2, pm⟩ := RE.takes R2 (g1.re.less lessW) e3 e4
  have ndFO : (F ++ O0).Nodup := pm.nodup_iff.mpr (nodup_two ndf g1.nd fun b hb => fO b (hs b hb))
  have memFO : ∀ b, b ∈ F ∨ b ∈ O0 ↔ b ∈ f' ∨ b ∈ O1 := fun b => by
    have := pm.mem_iff (a := b)
    simpa only [List.mem_append] using this
  have F_in : ∀ b ∈ F, b ∈ f' ++ O1 := fun b hb => List.mem_append.mpr ((memFO b).mp (.inl hb))
  have O0_in : ∀ b ∈ O0, b ∈ O1 ∨ b ∈ f' := fun b hb => ((memFO b).mp (.inr hb)).symm
  have FZ : ∀ b ∈ f' ++ O1, b ∉ Z := fun b hb => by
    rcases List.mem_append.mp hb with q | q
    · exact fZ b (hs b q)
    · exact fun z => g1.dj b q (List.mem_append_right _ z)
  refine ⟨ts, F, Z ++ O0, x, outs, h2.less fun b hb => ?_, (List.nodup_append.mp ndFO).1, fun b hb q => ?_, fun b hb => ?_, leaf_args e2 e4, e5, fun v H2 f2 g R3 R4 nd2 dj2 s2 => ?_⟩
  · simp only [List.mem_append] at hb ⊢
    rcases hb with q | q | q
    · rcases (memFO b).mp (.inl q) with w | w
      · exact .inl (.inl w)
      · exact .inr w
    · exact .inl (.inr q)
    · rcases (memFO b).mp (.inr q) with w | w
      · exact .inl (.inl w)
      · exact .inr w
  · rcases List.mem_append.mp q with q | q
    · exact FZ b (F_in b hb) q
    · exact (List.nodup_append.mp ndFO).2.2 b hb b q rfl
  · rcases List.mem_append.mp hb with q | q
    · exact g1.zd b (List.mem_append_right _ q)
    · exact h1.dom b q
  · have inW : ∀ b ∈ F, b ∈ f' ++ Z ++ O1 := fun b hb => by
      rcases List.mem_append.mp (F_in b hb) with q | q
      · exact List.mem_append_left _ (List.mem_append_left _ q)
      · exact List.mem_append_right _ q
    have re2 : RE G.K H2 (g ++ f2 ++ (Z ++ O0)) σ (clearAll r1 (ioSlots as')) O0 := by
      refine h1.kp (F := O0) (fun b o e q => s2.kp b o e ?_) (fun b hb => ?_) fun _ hb => hb
      · rcases q with q | q | q
        · exact .inl fun z => (List.nodup_append.mp ndFO).2.2 b z b q rfl
        · exact .inl fun z => q (inW b z)
        · exact .inr q
      · rcases List.mem_append.mp hb with q | q
        · exact (s2.new b q).imp (inW b) id
        · refine .inl ?_
          rcases List.mem_append.mp q with q | q
          · exact List.mem_append_left _ (List.mem_append_right _ q)
          · rcases O0_in b q with w | w
            · exact List.mem_append_right _ w
            · exact List.mem_append_left _ (List.mem_append_left _ w)
    obtain ⟨O2, gx, h3, pm2⟩ := RE.puts R2 ⟨as, e2⟩ e3 re2 R3
    have mem2' : ∀ b ∈ O2, b ∈ f2 ∨ b ∈ O0 := fun b hb => by
      have := (pm2.mem_iff (a := b)).mp (List.mem_append_right _ hb)
      exact List.mem_append.mp this
    have nd2' := List.nodup_append.mp nd2
    have ndO : (f2 ++ O0).Nodup := nodup_two nd2'.2.1 (List.nodup_append.mp ndFO).2.1 fun b hb z => dj2 b (List.mem_append_right _ hb) (List.mem_append_right _ z)
    have ndO2 : O2.Nodup := (List.nodup_append.mp (pm2.nodup_iff.mpr ndO)).2.1
    have O0Z : ∀ b ∈ O0, b ∉ Z := fun b hb z => by
      rcases O0_in b hb with w | w
      · exact g1.dj b w (List.mem_append_right _ z)
      · exact fZ b (hs b w) z
    have st2 : Stp O (g ++ O2) H H2 := by
      have a1 : Stp O (f' ++ O1) H H1 := s1.sub fun b hb => by
        rcases List.mem_append.mp hb with q | q
        · exact List.mem_append_left _ (hs b q)
        · exact List.mem_append_right _ q
      have a2 : Stp (f' ++ O1) (g ++ f2) H1 H2 := s2.pre F_in
      have a3 := a1.trans a2
      refine ⟨a3.kp, a3.dom, fun b hb => ?_⟩
      rcases List.mem_append.mp hb with q | q
      · exact a3.new b (List.mem_append_left _ q)
      · rcases mem2' b q with w | w
        · exact a3.new b (List.mem_append_right _ w)
        · refine s1.new b ?_
          rcases O0_in b w with w | w
          · exact List.mem_append_right _ w
          · exact List.mem_append_left _ (hs b w)
    have lessF : ∀ b ∈ g ++ Z ++ O2, b ∈ g ++ f2 ++ (Z ++ O0) := fun b hb => by
      simp only [List.mem_append] at hb ⊢
      rcases hb with (q | q) | q
      · exact .inl (.inl q)
      · exact .inr (.inl q)
      · rcases mem2' b q with w | w
        · exact .inl (.inr w)
        · exact .inr (.inr w)
    refine p v H2 O2 g ⟨h3.less lessF, ndO2, fun b hb q => ?_, fun b hb => ?_, fun b hb => List.mem_append_right _ (hg.z0 b hb), hg.st.trans st2.r, g1.iv⟩ nd2'.1 (R4.less lessF) st2 fun q => by cases q
    · rcases List.mem_append.mp q with q | q
      · rcases mem2' b hb with w | w
        · exact nd2'.2.2 b q b w rfl
        · exact dj2 b (List.mem_append_left _ q) (List.mem_append_right _ w)
      · rcases mem2' b hb with w | w
        · exact dj2 b (List.mem_append_right _ w) (List.mem_append_left _ q)
        · exact O0Z b w q
    · rcases List.mem_append.mp hb with q | q
      · exact RT.dom R4 b q
      · exact st2.dom b (hg.zd b q)
section
variable {X : Cx} {G : Fm} {fid k : Nat} {f : Addr} {fd : FuncData} {ps : List Str} {x : Str} {p pos : Pos} {e : Expr} {es : List Expr} {ms : MAs}
theorem ev_call {C : Callees} {b : Bool} {r r' : Env} {t : T} (e : ev C b (.call fid ms) r = some (t, r')) : ∃ as r1 as' ts outs, eva C ms r = some (as, r1) ∧ argOk as (C.io fid) = some as' ∧ (ioSlots as').Nodup ∧ ioTs as' r1 = some ts ∧ C.run fid ts = some (t, outs) ∧ r' = ioPut as' (C.io fid) outs r1 := by
  simp only [ev, Option.bind_eq_bind, Option.bind_eq_some_iff, Prod.exists] at e
  obtain ⟨as, r1, e1, as', e2, e3⟩ := e
  split at e3
  · rename_i hn
    simp only [Option.bind_eq_some_iff, Prod.exists, Option.some.injEq, Prod.mk.injEq] at e3
    obtain ⟨ts, e4, x, outs, e5, rfl, rfl⟩ := e3
    exact ⟨as, r1, as', ts, outs, e1, e2, hn, e4, e5, rfl⟩
  · cases e3
theorem i_call {E : XK} {σ : St} {H : Hp} {Q : VK} (q : tE G (.call fid ms) σ H Q) : tCall (spD G.K G.C fid) [] E (tA G ms) σ H Q := by
  obtain ⟨Z, r, O, t, r', hg, e, po⟩ := q
  obtain ⟨as, r1, as', ts, outs, e1, e2, e3, e4, e5, rfl⟩ := ev_call e
  refine ⟨Z, r, O, as, r1, hg, e1, fun vs H1 O1 f1 g1 nd R1 s1 => ?_⟩
  show spD G.K G.C fid (vs ++ []) H1 Q E
  rw [List.append_nil]
  exact call_core hg g1 nd R1 s1 e2 e3 e4 e5 po
theorem d_call (F : FnOk X.prog X.w X.K X.mg X.base CX0 k f fd ps (spD G.K G.C fid)) (hr : Room k X.A) (hg : Gl X x) (hm : X.mg x = some (.ref f)) (hk : PySem.W.keepIn X.K (.ref f) = true) (hb : Binds X.K fd ps [])
    (ha : PA X (e :: es) (tA G ms)) (hdb : (x == ("__debug__" : Str)) = false := by decide) (he : starEach (e :: es) X.env = (false, eval e X.env) :: starEach es X.env := by rfl) (hpl : (backTo pos (starEach es X.env)).any (·.1) = false := by rfl) :
    PE X (.Call (.Name x p) (e :: es) [] pos) (tE G (.call fid ms)) :=
  pe_mono (pe_call F hr hg hm hk hb .nil pass0 ha hdb he hpl) fun _ _ _ q => i_call q
theorem d_call0 (F : FnOk X.prog X.w X.K X.mg X.base CX0 k f fd ps (spD G.K G.C fid)) (hr : Room k X.A) (hg : Gl X x) (hm : X.mg x = some (.ref f)) (hk : PySem.W.keepIn X.K (.ref f) = true) (hb : Binds X.K fd ps [])
    (hdb : (x == ("__debug__" : Str)) = false := by decide) : PE X (.Call (.Name x p) [] [] pos) (tE G (.call fid .nil)) :=
  pe_mono (pe_call0 F hr hg hm hk hb .nil pass0 hdb) fun σ H Q q => by
    have q := i_call (E := E0) q
    obtain ⟨Z, r, O, as, r', hg, e, p⟩ := q
    simp only [eva, Option.some.injEq, Prod.mk.injEq] at e
    obtain ⟨rfl, rfl⟩ := e
    exact p [] H O [] hg List.nodup_nil .nil (Stp.refl _ _)
/-- the last argument is left out, its default is plain data -/
theorem d_call_d {m : ME} {d : D} {dv : V} {du : Value} (F : FnOk X.prog X.w X.K X.mg X.base CX0 k f fd ps (spD G.K G.C fid)) (hr : Room k X.A) (hg : Gl X x) (hm : X.mg x = some (.ref f)) (hk : PySem.W.keepIn X.K (.ref f) = true) (hb : Binds X.K fd ps [du]) (hd : RelV dv du) (hv : ∀ H W, RI G.K H W dv d)
    (ha : PA X [e] (tA G (.val m .nil))) (hdb : (x == ("__debug__" : Str)) = false := by decide) (he : starEach [e] X.env = [(false, eval e X.env)] := by rfl) :
    PE X (.Call (.Name x p) [e] [] pos) (tE G (.call fid (.val m (.val (.cst d) .nil)))) :=
  pe_mono (pe_call F hr hg hm hk hb (.cons hd .nil) pass0 ha hdb he (by rfl)) fun σ H Q q => by
    obtain ⟨Z, r, O, t, r', hg, e, po⟩ := q
    obtain ⟨as, r1, as', ts, outs, e1, e2, e3, e4, e5, rfl⟩ := ev_call e
    simp only [eva, ev, Option.bind_eq_bind, Option.bind_eq_some_iff, Prod.exists, Option.some.injEq, Prod.mk.injEq] at e1
    obtain ⟨x1, r2, e6, a, b, ⟨c, d1, ⟨rfl, rfl⟩, a2, b2, ⟨rfl, rfl⟩, rfl, rfl⟩, rfl, rfl⟩ := e1
    refine ⟨Z, r, O, [.inl x1], r2, hg, ?_, fun vs H1 O1 f1 g1 nd R1 s1 => ?_⟩
    · simp only [eva, e6, Option.bind_eq_bind, Option.bind_some]
    · cases R1 with
      | val h q =>
        cases q
        rename_i v f
        have R1' : RA G.K H1 ((f ++ []) ++ Z ++ O1) σ ([v] ++ [dv]) [.inl x1, .inl (.leaf d)] (f ++ ([] ++ [])) := .val h (.val (.leaf (hv _ _)) .nil)
        exact call_core hg g1 nd R1' s1 e2 e3 e4 e5 po
end
end PD

/-! for i, x in enumerate(t), t a tuple. -/
namespace PD
open PySem L2 PyProof.Rows

/-- a tuple's items in pairs with their places -/
def IteT (K : PySem.W.Frag) (a : Addr) : It where
  go := fun i H => ∃ xs x, SqT K H a xs ∧ xs[i]? = some x
  yld := fun i H v H' => ∃ T x, v = .ref T ∧ H T = none ∧ H' = upd H T (.tup [.int (i : Nat), x]) ∧ ∀ xs, SqT K H a xs → xs[i]? = some x
  stop := fun i H => ∃ xs, SqT K H a xs ∧ xs.length = i

/-- what stands between two turns -/
def enT (a e it : Addr) (i : Nat) (h : Heap) : Prop := (∃ old, IsEnum h e it ((i : Nat) : Int) old) ∧ h.IsTupleIter it a i ∧ e ≠ it ∧ a ≠ it ∧ e ≠ a
theorem turn_enT {P : Program} {w : World} {K : PySem.W.Frag} {elts : List Expr} {kk : Nat} {tpos : Pos} (a e it : Addr) : Turn P w K (.Tuple elts kk tpos) (IteT K a) [e, it] e (enT a e it) where
  mem := List.mem_cons_self
  obj := fun i h ⟨⟨old, he⟩, ⟨o, ho, hc, hd⟩, _⟩ b hb => by
    rcases List.mem_cons.mp hb with z | z
    · subst z
      exact ⟨_, he, fun v q => by cases q⟩
    · obtain rfl := List.mem_singleton.mp z
      exact ⟨o, ho, fun v q => by rw [hd] at q; cases q⟩
  keep := fun i h h' ⟨⟨old, he⟩, hi, n1, n2, n3⟩ k =>
    ⟨⟨old, k e List.mem_cons_self _ he⟩, hi.at fun o q => k it (List.mem_cons_of_mem _ List.mem_cons_self) o q, n1, n2, n3⟩
  item := by
    intro X eP ew eK hc i pins s σ H E I hf st hg
    subst eP ew eK
    obtain ⟨⟨old, he⟩, hi, n1, n2, n3⟩ := st
    obtain ⟨xs, x, hq, hx⟩ := hg
    obtain ⟨us, rv, tp, hz⟩ := I.tuple hq
    obtain ⟨u, hu, ru⟩ := rv.get hx
    have le : e < s.heap.objs.size := Heap.lt_size he
    have li : it < s.heap.objs.size := by obtain ⟨_, q, _⟩ := hi; exact Heap.lt_size q
    have D := Draws.tuple (prog := X.prog) (w := X.w) (A := X.A.in1) (by exact I.ok.hd hc) it a n2 us.toArray
    have lu : i < us.toArray.size := by
      have := (List.getElem?_eq_some_iff.mp hu).1
      simpa using this
    refine wpAny_pyNext_enum_itemD D he ⟨hi, tp⟩ lu n1 (fun z => ?_) fun y h1 tk hy ho st1 hT hs kk => ?_
    · rcases List.mem_cons.mp z with z | z
      · exact n1 z
      · exact n3 (List.mem_singleton.mp z)
    have ey : y = u := by
      have h2 : us.toArray[i]? = some y := hy
      rw [List.getElem?_toArray, hu] at h2
      exact (Option.some.inj h2).symm
    subst ey
    refine ⟨_, rfl, wpAny_letOwnedTupleGo_enum (s := { s with heap := h1, toks := tk + 1 }) ho fun h2 he2 sb => ?_⟩
    have far : ∀ b, b ∉ [e, it] → b ≠ e ∧ b ≠ it := fun b hb => ⟨fun z => hb (z ▸ List.mem_cons_self), fun z => hb (z ▸ List.mem_cons_of_mem _ List.mem_cons_self)⟩
    have new : ObjOk X.prog X.w (upd H s.heap.objs.size (.tup [.int (i : Nat), x])) h2 s.heap.objs.size (.tup [.int (i : Nat), x]) := by
      have there := (sb.2 _ (Nat.ne_of_gt le)).trans hT
      exact ⟨by show 2 ≤ sizeLine; decide, [.int i tk, y], .cons ⟨_, rfl⟩ (.cons ru .nil), _, there, rfl, _, rfl⟩
    have J : Inv X pins σ (upd H s.heap.objs.size (.tup [.int (i : Nat), x])) { s with heap := h2, toks := tk + 1 } :=
      I.turnedNew (ch := [e, it]) (fun b o hb q => by
        obtain ⟨b1, b2⟩ := far b hb
        exact (sb.2 b b1).trans (kk b o b1 b2 q)) hf (Nat.le_refl _) new
    refine ⟨.ref s.heap.objs.size, _, J, rfl, ⟨_, x, rfl, I.hok.fresh (Nat.le_refl _), rfl, fun ys hy => by rw [I.tuple_inj hy hq]; exact hx⟩, ⟨⟨y, ?_⟩, st1.1.at fun o q => (sb.2 it (Ne.symm n1)).trans q, n1, n2, n3⟩, fun b hb => ?_⟩
    · rw [show ((i + 1 : Nat) : Int) = (i : Int) + 1 by omega]
      exact he2
    · have lb : b < s.heap.objs.size := by
        rcases List.mem_cons.mp hb with z | z
        · rw [z]; exact le
        · rw [List.mem_singleton.mp z]; exact li
      rw [upd_ne (Nat.ne_of_lt lb)]
      exact (hf b hb).1
  done := by
    intro X eP ew eK hc i pins s σ H E I hf st hg
    subst eP ew eK
    obtain ⟨⟨old, he⟩, hi, n1, n2, n3⟩ := st
    obtain ⟨xs, hq, hx⟩ := hg
    obtain ⟨us, rv, tp, hz⟩ := I.tuple hq
    obtain ⟨f0, f1, f2, f3, f4, f5⟩ := hf it (List.mem_cons_of_mem _ List.mem_cons_self)
    have len := rv.length
    have D := Draws.tuple (prog := X.prog) (w := X.w) (A := X.A.in1) (by exact I.ok.hd hc) it a n2 us.toArray
    have en : us.toArray.size = i := by simp; omega
    refine wpAny_pyNext_enum_endD D he ⟨en ▸ hi, tp⟩ fun h' eb => ?_
    exact ⟨rfl, I.turned (t' := s.toks) (fun b o hb q => eb b o hb q) f0 f1 f3 f4 f5⟩
  self := fun A i s Q E ⟨⟨_, he⟩, _⟩ h => wpAny_pyIter_enum he h

set_option maxHeartbeats 4000000 in
/-- enumerate(v), whatever v begins -/
theorem meets_en {v : Value} {o : Obj} {B : Heap → Prop} (b : Begins v o B) : Meets (Builtin.«enumerate.__new__» ⟨[.type "enumerate", v], []⟩) (fun _ R s => B s.heap ∧
    R (.ok (.ret (.ref (s.heap.push o).objs.size))) { s with heap := (s.heap.push o).push { cls := .type "enumerate", data := .fields #[.none, .bool false, .ref s.heap.objs.size, rawInt 0, .none, .none] } }) :=
  .of_wp fun prog w A R s hh => by
    obtain ⟨hp, gs, dr, tk, os⟩ := s
    obtain ⟨hB, hR⟩ := hh
    have sube := sub_enumerate
    have it0 : ∀ {A1 : Around} {E : Value → Shared → Prop} {Q : Value → Shared → Prop}, Q (.ref hp.objs.size) ⟨hp.push o, gs, dr, tk, os⟩ → wpAny (model prog w) A1 (pyIter v) Q E ⟨hp, gs, dr, tk, os⟩ :=
      fun q => b.iter prog w _ _ ⟨hp, gs, dr, tk, os⟩ _ hB q
    wp_walk using it0
    refine wpAny_stack_any fun st => wpAny_pure ?_
    split
    · rename_i c _ _ _ _ _
      cases (c == Value.type "enumerate")
      all_goals (wp_walk using it0; exact ⟨_, rfl, hR⟩)
    · wp_walk using it0
      exact ⟨_, rfl, hR⟩
theorem call_en {prog : Program} {w : World} {A : Around} {E : Value → Shared → Prop} {s : Shared} {v : Value} {o : Obj} {B : Heap → Prop} {Q : Value → Shared → Prop} (b : Begins v o B) (hB : B s.heap)
    (h : ∀ h', IsEnum h' (s.heap.objs.size + 1) s.heap.objs.size 0 .none → h'.get? s.heap.objs.size = some o → h'.objs.size = s.heap.objs.size + 2 →
      (∀ c u, s.heap.get? c = some u → h'.get? c = some u) → Q (.ref (s.heap.objs.size + 1)) { s with heap := h' }) : wpAny (model prog w) A (call (.type "enumerate") [v]) Q E s := by
  refine callType_new F.called_enumerate (by decide) (F.typeCall_enumerate_1 _) (F.newCall_enumerate_1 _) (fun obj => F.args_object_init_2 obj _) F.entry_enumerate_new (meets_en b) ⟨hB, ?_⟩
  have sz : (s.heap.push o).objs.size = s.heap.objs.size + 1 := Heap.size_push ..
  generalize eh : (s.heap.push o).push { cls := .type "enumerate", data := .fields #[.none, .bool false, .ref s.heap.objs.size, rawInt 0, .none, .none] } = h2
  have there : IsEnum h2 (s.heap.objs.size + 1) s.heap.objs.size 0 .none := by
    have q := Heap.get?_push_size (s.heap.push o) (o := { cls := .type "enumerate", data := .fields #[.none, .bool false, .ref s.heap.objs.size, rawInt 0, .none, .none] }) rfl
    rw [sz, eh] at q
    exact q
  have k : ∀ c u, (s.heap.push o).get? c = some u → h2.get? c = some u := fun c u q => by rw [← eh]; exact Heap.get?_push_of_some _ q
  show _ ∧ _
  rw [sz]
  refine ⟨⟨_, there, rfl⟩, h _ there (k _ _ (Heap.get?_push_size _ b.free)) ?_ fun c u q => k _ _ (Heap.get?_push_of_some _ q)⟩
  rw [← eh, Heap.size_push, sz]

/-- enumerate(t) walked, t a tuple -/
def iEnT (K : PySem.W.Frag) (ta : TA) : TI := fun σ H R => ta σ H fun vs H1 => ∃ a xs, vs = [.ref a] ∧ SqT K H1 a xs ∧ R (IteT K a) H1
theorem pi_enT {X : Cx} {e : Expr} {ta : TA} {p pos tpos : Pos} {elts : List Expr} {kk : Nat} (hg : Gl X "enumerate") (hm : X.mg "enumerate" = none) (ha : PA X [e] ta) (hs : starEach [e] X.env = [(false, eval e X.env)] := by rfl) :
    PI X (.Tuple elts kk tpos) (.Call (.Name "enumerate" p) [e] [] pos) (iEnT X.K ta) := by
  refine ⟨fun pins s σ H R I hw => ?_⟩
  refine Call_ (ld_blt I hg hm boot_enumerate (PyProof.Rows.callWith_type1 (thn (ha.run pos pins s σ H _ I hw) fun us s1 hq => ?_) hs rfl))
  obtain ⟨vs, H1, I1, r1, a, xs, rfl, hx, hR⟩ := hq
  cases r1 with
  | cons r rr =>
    cases rr
    cases r
    obtain ⟨its, rv, tp, hz⟩ := I1.tuple hx
    refine call_en (begins_tuple a its.toArray) tp fun h' he hi hsz hk => wpAny_pyIter_enum he ?_
    have la : a < s1.heap.objs.size := tp.lt
    refine ⟨s1.heap.objs.size + 1, [s1.heap.objs.size + 1, s1.heap.objs.size], enT a (s1.heap.objs.size + 1) s1.heap.objs.size, _, H1, rfl, I1.kept (t' := s1.toks) hk, turn_enT a _ _, ?_, fun b hb => ?_, hR⟩
    · exact ⟨⟨.none, he⟩, ⟨_, hi, rfl, rfl⟩, Nat.succ_ne_self _, Nat.ne_of_lt la, Nat.ne_of_gt (Nat.lt_succ_of_lt la)⟩
    · have lb : s1.heap.objs.size ≤ b := by
        rcases List.mem_cons.mp hb with z | z
        · rw [z]; exact Nat.le_succ _
        · rw [List.mem_singleton.mp z]; exact Nat.le_refl _
      exact I1.fpOk lb (I1.hok.fresh lb)
end PD

/-! Rules: stores, targets, what is walked. -/
namespace PD
open PySem L2

/-- no in-out slot is stored to -/
theorem no_io {G : Fm} {i : Nat} (h : G.ioS.contains i = false) {p : Nat × V} (hp : p ∈ G.iov) : i ≠ p.1 := fun e => by
  subst e
  rw [List.contains_eq_mem, decide_eq_false_iff_not] at h
  exact h (G.ioP p hp)

/-- a slot is given a value whose lists are new, or nobody's -/
theorem Good.store {G : Fm} {Z O f : List Addr} {σ : St} {r : Env} {H : Hp} {v : V} {t : T} {i : Nat} (h : Good G (f ++ Z) σ r H O) (rt : RT G.K H (f ++ Z ++ O) v t f) (nd : f.Nodup) (z0 : ∀ b ∈ G.Z0, b ∈ Z) (fz : ∀ b ∈ f, b ∉ Z) (st : Stp G.IO (f ++ O) G.H0 H) (ni : G.ioS.contains i = false) :
    ∃ O', Good G Z (σ.set i (some v)) (r.set i (some t)) H O' ∧ ∀ b ∈ O', b ∈ O ∨ b ∈ f := by
  have iv' : ∀ p ∈ G.iov, (σ.set i (some v))[p.1]? = some (some p.2) := fun p hp => by
    rw [List.getElem?_set_ne (no_io ni hp)]
    exact h.iv p hp
  by_cases hi : i < r.length
  · obtain ⟨A, g, B, eO, _, _, _, hc⟩ := h.re.clear i
    have c := hc (some v)
    have hσ : (σ.set i (some v))[i]? = some (some v) := by
      rw [List.getElem?_set_self]
      rw [h.re.len]; exact hi
    have sub : ∀ b ∈ A ++ B, b ∈ O := fun b hb => by
      rw [eO]
      rcases List.mem_append.mp hb with q | q
      · exact List.mem_append_left _ (List.mem_append_left _ q)
      · exact List.mem_append_right _ q
    obtain ⟨O', re', pm⟩ := c.fill (getD_set_none r i) hσ rt
    rw [List.set_set] at re'
    have mem : ∀ b, b ∈ O' ↔ b ∈ f ∨ b ∈ A ++ B := fun b => by
      have := pm.mem_iff (a := b)
      rw [this, List.mem_append]
    have ndAB : (A ++ B).Nodup := by
      have nd' := h.nd
      rw [eO] at nd'
      refine List.Nodup.sublist ?_ nd'
      rw [List.append_assoc]
      exact List.Sublist.append_left (List.sublist_append_right g B) A
    refine ⟨O', ⟨re'.less fun b hb => ?_, pm.nodup_iff.mpr (nodup_two nd ndAB fun b hb q => h.dj b (sub b q) (List.mem_append_left _ hb)), fun b hb q => ?_, fun b hb => h.zd b (List.mem_append_right _ hb), z0, st.sub fun b hb => ?_, iv'⟩, fun b hb => ?_⟩
    · rcases List.mem_append.mp hb with q | q
      · exact List.mem_append_left _ (List.mem_append_right _ q)
      · rcases (mem b).mp q with w | w
        · exact List.mem_append_left _ (List.mem_append_left _ w)
        · exact List.mem_append_right _ (sub b w)
    · rcases (mem b).mp hb with w | w
      · exact fz b w q
      · exact h.dj b (sub b w) (List.mem_append_right _ q)
    · rcases (mem b).mp hb with w | w
      · exact List.mem_append_left _ w
      · exact List.mem_append_right _ (sub b w)
    · rcases (mem b).mp hb with w | w
      · exact .inr w
      · exact .inl (sub b w)
  · have e1 : r.set i (some t) = r := List.set_eq_of_length_le (by omega)
    have e2 : σ.set i (some v) = σ := List.set_eq_of_length_le (by rw [h.re.len]; omega)
    rw [e1, e2]
    exact ⟨O, h.drop z0, fun b hb => .inl hb⟩
theorem Good.store0 {G : Fm} {Z O : List Addr} {σ : St} {r : Env} {H : Hp} {v : V} {d : D} {i : Nat} (h : Good G Z σ r H O) (ri : RI G.K H (Z ++ O) v d) (ni : G.ioS.contains i = false) :
    ∃ O', Good G Z (σ.set i (some v)) (r.set i (some (.leaf d))) H O' ∧ ∀ b ∈ O', b ∈ O := by
  obtain ⟨O', h1, h2⟩ := Good.store (f := []) h (.leaf ri) List.nodup_nil h.z0 (fun _ q => nomatch q) h.st ni
  exact ⟨O', h1, fun b hb => (h2 b hb).resolve_right fun q => nomatch q⟩

/-! ### targets -/
def Tg.sl : Nat → Tg → List Nat
  | 0, _ => []
  | _ + 1, .nm i => [i]
  | n + 1, .tp ts => ts.flatMap (Tg.sl n)
/-- the slots at vs aside, nothing was stored -/
def Only (is : List Nat) (σ σ' : St) : Prop := ∀ vs : List Nat, (∀ i ∈ is, i ∈ vs) → L2.wipe σ' vs = L2.wipe σ vs
theorem wipe_get (σ : St) : ∀ (vs : List Nat) (k : Nat), (L2.wipe σ vs)[k]? = if k ∈ vs then σ[k]?.map (fun _ => none) else σ[k]?
  | [], k => by simp [L2.wipe]
  | v :: vs, k => by
    show ((L2.wipe σ vs).set v none)[k]? = _
    rw [List.getElem?_set, wipe_length, wipe_get σ vs k]
    by_cases e : v = k
    · subst e
      rw [if_pos rfl, if_pos List.mem_cons_self]
      by_cases h : v < σ.length
      · rw [if_pos h, List.getElem?_eq_getElem h]; rfl
      · rw [if_neg h, List.getElem?_eq_none_iff.mpr (by omega)]; rfl
    · rw [if_neg e]
      by_cases h : k ∈ vs
      · rw [if_pos h, if_pos (List.mem_cons_of_mem _ h)]
      · rw [if_neg h, if_neg (fun q => (List.mem_cons.mp q).elim (fun z => e z.symm) h)]
theorem wipe_set {i : Nat} {x : Option V} {vs : List Nat} {σ : St} (h : i ∈ vs) : L2.wipe (σ.set i x) vs = L2.wipe σ vs := by
  refine List.ext_getElem? fun k => ?_
  rw [wipe_get, wipe_get]
  by_cases hk : k ∈ vs
  · rw [if_pos hk, if_pos hk, List.getElem?_set]
    split
    · rename_i e
      subst e
      split
      · rename_i hl; rw [List.getElem?_eq_getElem hl]; rfl
      · rename_i hl; rw [List.getElem?_eq_none_iff.mpr (by omega)]
    · rfl
  · rw [if_neg hk, if_neg hk, List.getElem?_set_ne (fun e => hk (by rw [← e]; exact h))]
def tG (G : Fm) (n : Nat) (tg : Tg) : TG := fun v σ H Q => ∃ Z r O d r', Good G Z σ r H O ∧ RI G.K H (Z ++ O) v d ∧ Tg.put n tg d r = some r' ∧ ∀ σ' O', Good G Z σ' r' H O' → (∀ b ∈ O', b ∈ O) → Only (tg.sl n) σ σ' → Q σ' H
def puts (n : Nat) (ts : List Tg) (ds : List D) (r : Env) : Option Env := (ts.zip ds).foldlM (fun r p => Tg.put n p.1 p.2 r) r
def tGs (G : Fm) (n : Nat) (ts : List Tg) : TGs := fun vs σ H Q => ∃ Z r O ds r', Good G Z σ r H O ∧ RIs G.K H (Z ++ O) vs ds ∧ ts.length = ds.length ∧ puts n ts ds r = some r' ∧ ∀ σ' O', Good G Z σ' r' H O' → (∀ b ∈ O', b ∈ O) → Only (ts.flatMap (Tg.sl n)) σ σ' → Q σ' H
section
variable {X : Cx} {G : Fm} {i n : Nat} {e : Expr} {es : List Expr} {tg : Tg} {ts : List Tg}
theorem g_nm (h : PG X e (gName i)) (ni : G.ioS.contains i = false := by rfl) : PG X e (tG G (n + 1) (.nm i)) := pg_mono h fun v σ H Q q => by
  obtain ⟨Z, r, O, d, r', hg, ri, e1, p⟩ := q
  simp only [Tg.put, Option.some.injEq] at e1
  subst e1
  obtain ⟨O', h1, h2⟩ := hg.store0 ri ni
  exact p _ O' h1 h2 fun vs hv => wipe_set (hv i List.mem_cons_self)
theorem pgs_mono {t t' : TGs} (h : PGs X es t) (hh : ∀ v σ H Q, t' v σ H Q → t v σ H Q) : PGs X es t' := ⟨fun pins s σ H v u Q I q ht => h.run pins s σ H v u Q I q (hh _ _ _ _ ht)⟩
theorem gs_nil : PGs X [] (tGs G n []) := pgs_mono pgs_nil fun v σ H Q q => by
  obtain ⟨Z, r, O, ds, r', hg, ri, hl, e1, p⟩ := q
  have e0 : ds = [] := List.length_eq_zero_iff.mp hl.symm
  subst e0
  cases ri
  simp only [puts, List.zip_nil_left, List.foldlM_nil, Option.pure_def, Option.some.injEq] at e1
  subst e1
  exact ⟨rfl, p σ O hg (fun _ hb => hb) fun _ _ => rfl⟩
theorem gs_cons (h : PG X e (tG G n tg)) (hs : PGs X es (tGs G n ts)) (ha : (assignEach (e :: es) X.env).map (·.2) = assign e X.env :: (assignEach es X.env).map (·.2) := by rfl) : PGs X (e :: es) (tGs G n (tg :: ts)) :=
  pgs_mono (pgs_cons h hs ha) fun v σ H Q q => by
    obtain ⟨Z, r, O, ds, r', hg, ri, hl, e1, p⟩ := q
    cases ri with
    | nil => simp at hl
    | cons h1 h2 =>
      simp only [puts, List.zip_cons_cons, List.foldlM_cons, Option.bind_eq_bind, Option.bind_eq_some_iff] at e1
      obtain ⟨r1, e2, e3⟩ := e1
      refine ⟨_, _, rfl, Z, r, O, _, r1, hg, h1, e2, fun σ1 O1 g1 s1 w1 => ?_⟩
      refine ⟨Z, r1, O1, _, r', g1, h2.less fun b hb => ?_, by simpa using hl, e3, fun σ2 O2 g2 s2 w2 => p σ2 O2 g2 (fun b hb => s1 b (s2 b hb)) fun vs hv => ?_⟩
      · rcases List.mem_append.mp hb with q | q
        · exact List.mem_append_left _ q
        · exact List.mem_append_right _ (s1 b q)
      · rw [List.flatMap_cons] at hv
        exact (w2 vs fun i hi => hv i (List.mem_append_right _ hi)).trans (w1 vs fun i hi => hv i (List.mem_append_left _ hi))
theorem g_tp {k m : Nat} {pos : Pos} (hc : X.calm = true) (h : PGs X es (tGs G n ts)) (hn : (assignEach es X.env).length = m := by rfl) (hm : ts.length = m := by rfl) (hst : (assignEach es X.env).findIdx? (·.1) = none := by rfl) (hK : G.K = X.K := by rfl) :
    PG X (.Tuple es k pos) (tG G (n + 1) (.tp ts)) := pg_mono (pg_tup hc h hn hst) fun v σ H Q q => by
  obtain ⟨Z, r, O, d, r', hg, ri, e1, p⟩ := q
  cases d with
  | tup ds =>
    simp only [Tg.put] at e1
    split at e1
    · rename_i hl
      cases ri with
      | tup h1 h2 =>
        refine ⟨_, _, rfl, hK ▸ h1, by rw [h2.len, ← hl, hm], Z, r, O, ds, r', hg, h2, hl, e1, p⟩
    · cases e1
  | _ => simp [Tg.put] at e1
end

/-! ### what is walked -/
/-- from a source that S tells, which nobody changes, J yields the items ds -/
structure ItOk (K : PySem.W.Frag) (J : It) (ds : List D) (S : Hp → List Addr → Prop) : Prop where
  go : ∀ i H O, S H O → i < ds.length → J.go i H
  stop : ∀ H O, S H O → J.stop ds.length H
  yld : ∀ i H O x H' d, S H O → ds[i]? = some d → J.yld i H x H' → (H' = H ∧ RI K H O x d) ∨ ∃ p xs es, x = .ref p ∧ H p = none ∧ H' = upd H p (.tup xs) ∧ RIs K H O xs es ∧ d = .tup es
  kp : ∀ H O H' O', S H O → Kp O H H' → (∀ b ∈ O', b ∈ O ∨ H b = none) → S H' O'
def tI (G : Fm) (mi : MI) : TI := fun σ H R => ∃ Z r O ds r', Good G Z σ r H O ∧ evi G.C mi r = some (ds, r') ∧
  ∀ J H' O' S, Good G Z σ r' H' O' → Stp O O' H H' → S H' (Z ++ O') → ItOk G.K J ds S → R J H'

section
variable {K : PySem.W.Frag}
theorem not_own {H : Hp} {O O' : List Addr} {a : Addr} {o : HO} (h : H a = some o) (n : a ∉ O) (s : ∀ b ∈ O', b ∈ O ∨ H b = none) : a ∉ O' := fun z => (s a z).elim n fun q => by rw [h] at q; cases q
theorem it_list {a : Addr} {ds : List D} : ItOk K (Itl K a) ds fun H O => ∃ vs, H a = some (.lst vs) ∧ a ∉ O ∧ RIs K H O vs ds where
  go := fun i H O ⟨vs, h, _, rs⟩ hi => ⟨vs, vs[i]'(by rw [rs.len]; exact hi), SqL.of h, List.getElem?_eq_getElem _⟩
  stop := fun H O ⟨vs, h, _, rs⟩ => ⟨vs, SqL.of h, Nat.le_of_eq rs.len⟩
  yld := fun i H O x H' d ⟨vs, h, _, rs⟩ hd ⟨e, hx⟩ => by
    obtain ⟨v, h1, h2⟩ := rs.get hd
    have := hx vs (SqL.of h)
    rw [h1] at this
    cases this
    exact .inl ⟨e, h2⟩
  kp := fun H O H' O' ⟨vs, h, n, rs⟩ k s => ⟨vs, k _ _ h (.inl n), not_own h n s, rs.kp k s⟩
theorem it_scr {a : Addr} {ns : List Int} : ItOk K (Itl K a) (ns.map D.int) fun H O => ScrAt K H a (ns.map V.int) where
  go := fun i H O h hi => ⟨_, _, h.seq, List.getElem?_eq_getElem (by simpa using hi)⟩
  stop := fun H O h => ⟨_, h.seq, by simp⟩
  yld := fun i H O x H' d h hd ⟨e, hx⟩ => by
    have := hx _ h.seq
    rw [List.getElem?_map] at hd this
    cases q : ns[i]? with
    | none => rw [q] at hd; cases hd
    | some n =>
      rw [q] at hd this
      cases hd
      cases this
      exact .inl ⟨e, .int n⟩
  kp := fun H O H' O' h k s => h.kp k
theorem it_tup {a : Addr} {ds : List D} : ItOk K (Itt K a) ds fun H O => ∃ vs, SqT K H a vs ∧ RIs K H O vs ds where
  go := fun i H O ⟨vs, h, rs⟩ hi => ⟨vs, vs[i]'(by rw [rs.len]; exact hi), h, List.getElem?_eq_getElem _⟩
  stop := fun H O ⟨vs, h, rs⟩ => ⟨vs, h, Nat.le_of_eq rs.len⟩
  yld := fun i H O x H' d ⟨vs, h, rs⟩ hd ⟨e, hx⟩ => by
    obtain ⟨v, h1, h2⟩ := rs.get hd
    have := hx vs h
    rw [h1] at this
    cases this
    exact .inl ⟨e, h2⟩
  kp := fun H O H' O' ⟨vs, h, rs⟩ k s => ⟨vs, SqT.kp h k, rs.kp k s⟩
theorem it_chr {z : Str} : ItOk K (Its z) (z.cps.toList.map fun c => D.str ⟨#[c]⟩) fun _ _ => True where
  go := fun i H O _ hi => by
    rw [List.length_map, Array.length_toList] at hi
    exact hi
  stop := fun H O _ => by
    rw [List.length_map, Array.length_toList]
    exact Nat.le_refl _
  yld := fun i H O x H' d _ hd ⟨e, c, h1, h2⟩ => by
    rw [List.getElem?_map, Array.getElem?_toList, h1] at hd
    cases hd
    subst h2
    exact .inl ⟨e, .str _⟩
  kp := fun _ _ _ _ _ _ _ => trivial
theorem rngs_len (n : Nat) : ∀ lo : Int, (rngs lo n).length = n := by
  induction n with
  | zero => intro lo; rfl
  | succ n ih => intro lo; show (rngs (lo + 1) n).length + 1 = n + 1; rw [ih]
theorem rngs_get (n : Nat) : ∀ (lo : Int) (i : Nat) (d : D), (rngs lo n)[i]? = some d → d = .int (lo + i) := by
  induction n with
  | zero => intro lo i d h; simp [rngs] at h
  | succ n ih =>
    intro lo i d h
    cases i with
    | zero => simp [rngs] at h; simp [← h]
    | succ i =>
      have := ih (lo + 1) i d (by simpa [rngs] using h)
      rw [this]
      congr 1
      omega
theorem it_rng {lo : Int} {n : Nat} : ItOk K (Itr lo n) (rngs lo n) fun _ _ => True where
  go := fun i H O _ hi => by rw [rngs_len] at hi; exact hi
  stop := fun H O _ => by rw [rngs_len]; exact Nat.le_refl n
  yld := fun i H O x H' d _ hd ⟨e, hx⟩ => .inl ⟨e, by rw [hx, rngs_get n lo i d hd]; exact .int _⟩
  kp := fun _ _ _ _ _ _ _ => trivial
theorem enums_len : ∀ (ds : List D) (n : Nat), (enums n ds).length = ds.length
  | [], _ => rfl
  | d :: r, n => by show (enums (n + 1) r).length + 1 = r.length + 1; rw [enums_len]
theorem enums_get : ∀ (ds : List D) (n i : Nat) (d : D), (enums n ds)[i]? = some d → ∃ x, ds[i]? = some x ∧ d = .tup [.int ((n + i : Nat) : Int), x]
  | [], _, _, _, h => by simp [enums] at h
  | x :: r, n, 0, d, h => by simp [enums] at h; exact ⟨x, rfl, by simp [← h]⟩
  | x :: r, n, i + 1, d, h => by
    obtain ⟨y, h1, h2⟩ := enums_get r (n + 1) i d (by simpa [enums] using h)
    refine ⟨y, by simpa using h1, ?_⟩
    rw [h2]
    congr 3
    omega
theorem it_enT {a : Addr} {ds : List D} : ItOk K (IteT K a) (enums 0 ds) fun H O => ∃ vs, SqT K H a vs ∧ RIs K H O vs ds where
  go := fun i H O ⟨vs, h, rs⟩ hi => ⟨vs, vs[i]'(by rw [rs.len]; rw [enums_len] at hi; exact hi), h, List.getElem?_eq_getElem _⟩
  stop := fun H O ⟨vs, h, rs⟩ => ⟨vs, h, by rw [enums_len]; exact rs.len⟩
  yld := fun i H O x H' d ⟨vs, h, rs⟩ hd ⟨p, y, e1, hp, e2, hx⟩ => by
    obtain ⟨z, h1, h2⟩ := enums_get ds 0 i d hd
    obtain ⟨v, h3, h4⟩ := rs.get h1
    have := hx vs h
    rw [h3] at this
    cases this
    refine .inr ⟨p, _, _, e1, hp, e2, .cons (.int _) (.cons h4 .nil), ?_⟩
    rw [h2, Nat.zero_add]
  kp := fun H O H' O' ⟨vs, h, rs⟩ k s => ⟨vs, SqT.kp h k, rs.kp k s⟩
theorem it_enL {a : Addr} {ds : List D} : ItOk K (Ite K a) (enums 0 ds) fun H O => ∃ vs, H a = some (.lst vs) ∧ a ∉ O ∧ RIs K H O vs ds where
  go := fun i H O ⟨vs, h, _, rs⟩ hi => ⟨vs, vs[i]'(by rw [rs.len]; rw [enums_len] at hi; exact hi), SqL.of h, List.getElem?_eq_getElem _⟩
  stop := fun H O ⟨vs, h, _, rs⟩ => ⟨vs, SqL.of h, by rw [enums_len]; exact Nat.le_of_eq rs.len⟩
  yld := fun i H O x H' d ⟨vs, h, _, rs⟩ hd ⟨p, y, e1, hp, e2, hx⟩ => by
    obtain ⟨z, h1, h2⟩ := enums_get ds 0 i d hd
    obtain ⟨v, h3, h4⟩ := rs.get h1
    have := hx vs (SqL.of h)
    rw [h3] at this
    cases this
    refine .inr ⟨p, _, _, e1, hp, e2, .cons (.int _) (.cons h4 .nil), ?_⟩
    rw [h2, Nat.zero_add]
  kp := fun H O H' O' ⟨vs, h, n, rs⟩ k s => ⟨vs, k _ _ h (.inl n), not_own h n s, rs.kp k s⟩
theorem zips_len : ∀ as bs : List D, (zips as bs).length = min as.length bs.length
  | [], _ => by simp [zips]
  | _ :: _, [] => by simp [zips]
  | a :: as, b :: bs => by
    show (zips as bs).length + 1 = _
    rw [zips_len]
    simp only [List.length_cons]
    omega
theorem zips_get : ∀ (as bs : List D) (i : Nat) (d : D), (zips as bs)[i]? = some d → ∃ x y, as[i]? = some x ∧ bs[i]? = some y ∧ d = .tup [x, y]
  | [], _, _, _, h => by simp [zips] at h
  | _ :: _, [], _, _, h => by simp [zips] at h
  | a :: as, b :: bs, 0, d, h => by simp [zips] at h; exact ⟨a, b, rfl, rfl, h.symm⟩
  | a :: as, b :: bs, i + 1, d, h => by
    obtain ⟨x, y, h1, h2, h3⟩ := zips_get as bs i d (by simpa [zips] using h)
    exact ⟨x, y, by simpa using h1, by simpa using h2, h3⟩
theorem it_zipL {a b : Addr} {ds es : List D} : ItOk K (Itz K a b) (zips ds es) fun H O => (∃ vs, H a = some (.lst vs) ∧ a ∉ O ∧ RIs K H O vs ds) ∧ ∃ vs, H b = some (.lst vs) ∧ b ∉ O ∧ RIs K H O vs es where
  go := fun i H O ⟨⟨vs, h, _, rs⟩, ⟨ws, h', _, rs'⟩⟩ hi => by
    rw [zips_len] at hi
    have i1 : i < vs.length := by rw [rs.len]; omega
    have i2 : i < ws.length := by rw [rs'.len]; omega
    exact ⟨vs, ws, vs[i], ws[i], SqL.of h, SqL.of h', List.getElem?_eq_getElem _, List.getElem?_eq_getElem _⟩
  stop := fun H O ⟨⟨vs, h, _, rs⟩, ⟨ws, h', _, rs'⟩⟩ => by
    refine ⟨vs, ws, SqL.of h, SqL.of h', ?_⟩
    rw [zips_len, rs.len, rs'.len]
    omega
  yld := fun i H O x H' d ⟨⟨vs, h, _, rs⟩, ⟨ws, h', _, rs'⟩⟩ hd ⟨p, y, z, e1, hp, e2, hx, hy⟩ => by
    obtain ⟨u, v, h1, h2, h3⟩ := zips_get ds es i d hd
    obtain ⟨v1, q1, q2⟩ := rs.get h1
    obtain ⟨v2, q3, q4⟩ := rs'.get h2
    have a1 := hx vs (SqL.of h)
    have a2 := hy ws (SqL.of h')
    rw [q1] at a1
    rw [q3] at a2
    cases a1
    cases a2
    exact .inr ⟨p, _, _, e1, hp, e2, .cons q2 (.cons q4 .nil), h3⟩
  kp := fun H O H' O' ⟨⟨vs, h, n, rs⟩, ⟨ws, h', n', rs'⟩⟩ k s => ⟨⟨vs, k _ _ h (.inl n), not_own h n s, rs.kp k s⟩,
    ⟨ws, k _ _ h' (.inl n'), not_own h' n' s, rs'.kp k s⟩⟩
end

section
variable {X : Cx} {G : Fm} {tg e e2 : Expr} {m m2 : ME}
theorem tpl_inv {H : Hp} {W f : List Addr} {v : V} {x : T} {K : PySem.W.Frag} {ds : List D} (rt : RT K H W v x f) (e : tpl? x = some ds) : ∃ a vs, v = .ref a ∧ SqT K H a vs ∧ RIs K H W vs ds ∧ f = [] := by
  cases rt with
  | node _ _ => simp [tpl?] at e
  | leaf ri =>
    cases ri with
    | tup h t =>
      simp only [tpl?, Option.some.injEq] at e
      subst e
      exact ⟨_, _, rfl, h, t, rfl⟩
    | _ => simp [tpl?] at e
theorem lsts_inv {H : Hp} {W W' f : List Addr} {v : V} {x : T} {K : PySem.W.Frag} {ds : List D} (rt : RT K H W v x f) (e : lsts? x = some ds) (s : ∀ b ∈ W', b ∈ W) (n : ∀ b ∈ f, b ∉ W') : ∃ a, v = .ref a ∧ ∃ vs, H a = some (.lst vs) ∧ a ∉ W' ∧ RIs K H W' vs ds := by
  cases rt with
  | node h q =>
    simp only [lsts?, Option.some.injEq] at e
    subst e
    exact ⟨_, rfl, _, h, n _ List.mem_cons_self, q.frz s fun b hb => n b (List.mem_cons_of_mem _ hb)⟩
  | leaf ri =>
    cases ri with
    | lst h k t =>
      simp only [lsts?, Option.some.injEq] at e
      subst e
      exact ⟨_, rfl, _, h, fun z => k (s _ z), t.less s⟩
    | _ => simp [lsts?] at e
/-- what is reckoned, then frozen -/
theorem frozen_out {Z O O1 f : List Addr} {σ : St} {r r1 : Env} {H H1 : Hp} (hg : Good G Z σ r H O) (g1 : Good G (f ++ Z) σ r1 H1 O1) (s1 : Stp O (f ++ O1) H H1) : ∀ b ∈ f, b ∉ Z ++ O1 := fun b hb q => by
  rcases List.mem_append.mp q with q | q
  · rcases s1.new b (List.mem_append_left _ hb) with w | w
    · exact hg.dj b w q
    · exact hg.zd b q w
  · exact g1.dj b q (List.mem_append_left _ hb)
theorem d_itT (h : PE X e (tE G m)) (hK : G.K = X.K := by rfl) : PI X tg e (tI G (.tpl m)) := pi_mono (pi_tup h) fun σ H R q => by
  obtain ⟨Z, r, O, ds, r', hg, e1, p⟩ := q
  simp only [evi, Option.bind_eq_bind, Option.bind_eq_some_iff, Prod.exists, Option.map_eq_some_iff, Prod.mk.injEq] at e1
  obtain ⟨x, r1, e2, ds', e3, rfl, rfl⟩ := e1
  refine ⟨Z, r, O, x, r1, hg, e2, fun v H1 O1 f1 g1 nd1 R1 s1 _ => ?_⟩
  obtain ⟨a, vs, rfl, h1, h2, rfl⟩ := tpl_inv R1 e3
  rw [← hK]
  exact ⟨a, rfl, ⟨vs, h1⟩, p _ H1 O1 _ g1 s1 ⟨vs, h1, h2⟩ it_tup⟩
theorem d_itL (h : PE X e (tE G m)) (hK : G.K = X.K := by rfl) : PI X tg e (tI G (.lst m)) := pi_mono (pi_list h) fun σ H R q => by
  obtain ⟨Z, r, O, ds, r', hg, e1, p⟩ := q
  simp only [evi, Option.bind_eq_bind, Option.bind_eq_some_iff, Prod.exists, Option.map_eq_some_iff, Prod.mk.injEq] at e1
  obtain ⟨x, r1, e2, ds', e3, rfl, rfl⟩ := e1
  refine ⟨Z, r, O, x, r1, hg, e2, fun v H1 O1 f1 g1 nd1 R1 s1 _ => ?_⟩
  obtain ⟨a, rfl, S⟩ := lsts_inv (W' := Z ++ O1) R1 e3 sub_right (frozen_out hg g1 s1)
  rw [← hK]
  obtain ⟨vs, h1, h2, h3⟩ := S
  exact ⟨a, rfl, ⟨vs, SqL.of h1⟩, p _ H1 O1 _ (g1.drop hg.z0) s1.r ⟨vs, h1, h2, h3⟩ it_list⟩
theorem d_itR (h : PE X e (tE G m)) (hK : G.K = X.K := by rfl) : PI X tg e (tI G (.scr m)) := pi_mono (pi_list h) fun σ H R q => by
  obtain ⟨Z, r, O, ds, r', hg, e1, p⟩ := q
  simp only [evi, Option.bind_eq_bind, Option.bind_eq_some_iff, Prod.exists, Option.map_eq_some_iff, Prod.mk.injEq] at e1
  obtain ⟨x, r1, e2, ns, e3, rfl, rfl⟩ := e1
  refine ⟨Z, r, O, x, r1, hg, e2, fun v H1 O1 f1 g1 nd1 R1 s1 _ => ?_⟩
  cases R1 with
  | node _ _ => simp [scr?] at e3
  | leaf ri =>
    cases ri with
    | scr h1 =>
      simp only [scr?, Option.some.injEq] at e3
      subst e3
      rw [← hK]
      exact ⟨_, rfl, ⟨_, h1.seq⟩, p _ H1 O1 _ g1 s1 h1 it_scr⟩
    | _ => simp [scr?] at e3
theorem d_itS (h : PE X e (tE G m)) : PI X tg e (tI G (.chr m)) := pi_mono (pi_str h) fun σ H R q => by
  obtain ⟨Z, r, O, ds, r', hg, e1, p⟩ := q
  simp only [evi, Option.bind_eq_bind, Option.bind_eq_some_iff, Prod.exists, Option.map_eq_some_iff, Prod.mk.injEq] at e1
  obtain ⟨x, r1, e2, ns, e3, rfl, rfl⟩ := e1
  refine ⟨Z, r, O, x, r1, hg, e2, fun v H1 O1 f1 g1 nd1 R1 s1 _ => ?_⟩
  cases R1 with
  | node _ _ => simp [chr?] at e3
  | leaf ri =>
    cases ri with
    | str z =>
      simp only [chr?, Option.some.injEq] at e3
      subst e3
      exact ⟨_, rfl, p _ H1 O1 _ g1 s1 trivial it_chr⟩
    | _ => simp [chr?] at e3
theorem rngOk_of {i : Int} (h : rngOk i = true) : -(2 ^ 62) ≤ i ∧ i < 2 ^ 62 := of_decide_eq_true h
theorem d_it1 {p pos : Pos} (h : PE X e (tE G m)) (hg : Gl X "range") (hm : X.mg "range" = none) (hs : starEach [e] X.env = [(false, eval e X.env)] := by rfl) : PI X tg (.Call (.Name "range" p) [e] [] pos) (tI G (.rng1 m)) :=
  pi_mono (pi_range1 hg hm (pa_cons h pa_nil (by rw [hs]; rfl)) hs) fun σ H R q => by
    obtain ⟨Z, r, O, ds, r', hg, e1, p⟩ := q
    simp only [evi, Option.bind_eq_bind, Option.bind_eq_some_iff, Prod.exists] at e1
    obtain ⟨x, r1, e2, k, e3, e4⟩ := e1
    split at e4
    · rename_i hk
      simp only [Option.some.injEq, Prod.mk.injEq] at e4
      obtain ⟨rfl, rfl⟩ := e4
      refine ⟨Z, r, O, x, r1, hg, e2, fun v H1 O1 f1 g1 nd1 R1 s1 _ => ?_⟩
      obtain ⟨rfl, _, rfl⟩ := R1.int? e3
      have b := rngOk_of hk
      exact ⟨k, rfl, b.1, b.2, p _ H1 O1 _ g1 s1 trivial it_rng⟩
    · cases e4
theorem d_it2 {p pos : Pos} (h : PE X e (tE G m)) (h2 : PE X e2 (tE G m2)) (hg : Gl X "range") (hm : X.mg "range" = none) (hs : starEach [e, e2] X.env = [(false, eval e X.env), (false, eval e2 X.env)] := by rfl) (hs2 : starEach [e2] X.env = [(false, eval e2 X.env)] := by rfl) :
    PI X tg (.Call (.Name "range" p) [e, e2] [] pos) (tI G (.rng2 m m2)) :=
  pi_mono (pi_range2 hg hm (pa_cons h (pa_cons h2 pa_nil (by rw [hs2]; rfl)) (by rw [hs, hs2])) hs hs2) fun σ H R q => by
    obtain ⟨Z, r, O, ds, r', hg, e1, p⟩ := q
    simp only [evi, Option.bind_eq_bind, Option.bind_eq_some_iff, Prod.exists] at e1
    obtain ⟨x, r1, e2, y, r2, e3, i, e4, j, e5, e6⟩ := e1
    split at e6
    · rename_i hk
      simp only [Option.some.injEq, Prod.mk.injEq] at e6
      obtain ⟨rfl, rfl⟩ := e6
      refine ⟨Z, r, O, x, r1, hg, e2, fun v H1 O1 f1 g1 nd1 R1 s1 _ => ?_⟩
      obtain ⟨rfl, _, rfl⟩ := R1.int? e4
      refine ⟨Z, r1, O1, y, r2, g1, e3, fun v H2 O2 f2 g2 nd2 R2 s2 _ => ?_⟩
      obtain ⟨rfl, _, rfl⟩ := R2.int? e5
      rw [Bool.and_eq_true] at hk
      have b := rngOk_of hk.1
      have c := rngOk_of hk.2
      exact ⟨i, j, rfl, ⟨b.1, b.2, c.1, c.2⟩, p _ H2 O2 _ g2 (Stp.trans s1 s2) trivial it_rng⟩
    · cases e6
section
variable {elts : List Expr} {kk : Nat} {tpos p pos : Pos}
theorem d_enT (h : PE X e (tE G m)) (hg : Gl X "enumerate") (hm : X.mg "enumerate" = none) (hs : starEach [e] X.env = [(false, eval e X.env)] := by rfl) (hK : G.K = X.K := by rfl) : PI X (.Tuple elts kk tpos) (.Call (.Name "enumerate" p) [e] [] pos) (tI G (.enmT m)) :=
  pi_mono (pi_enT hg hm (pa_cons h pa_nil (by rw [hs]; rfl)) hs) fun σ H R q => by
    obtain ⟨Z, r, O, ds, r', hg, e1, p⟩ := q
    simp only [evi, Option.bind_eq_bind, Option.bind_eq_some_iff, Prod.exists, Option.map_eq_some_iff, Prod.mk.injEq] at e1
    obtain ⟨x, r1, e2, ds', e3, rfl, rfl⟩ := e1
    refine ⟨Z, r, O, x, r1, hg, e2, fun v H1 O1 f1 g1 nd1 R1 s1 _ => ?_⟩
    obtain ⟨a, vs, rfl, h1, h2, rfl⟩ := tpl_inv R1 e3
    rw [← hK]
    exact ⟨a, vs, rfl, h1, p _ H1 O1 _ g1 s1 ⟨vs, h1, h2⟩ it_enT⟩
theorem d_enL (h : PE X e (tE G m)) (hg : Gl X "enumerate") (hm : X.mg "enumerate" = none) (hs : starEach [e] X.env = [(false, eval e X.env)] := by rfl) (hK : G.K = X.K := by rfl) : PI X (.Tuple elts kk tpos) (.Call (.Name "enumerate" p) [e] [] pos) (tI G (.enmL m)) :=
  pi_mono (pi_enum hg hm (pa_cons h pa_nil (by rw [hs]; rfl)) hs) fun σ H R q => by
    obtain ⟨Z, r, O, ds, r', hg, e1, p⟩ := q
    simp only [evi, Option.bind_eq_bind, Option.bind_eq_some_iff, Prod.exists, Option.map_eq_some_iff, Prod.mk.injEq] at e1
    obtain ⟨x, r1, e2, ds', e3, rfl, rfl⟩ := e1
    refine ⟨Z, r, O, x, r1, hg, e2, fun v H1 O1 f1 g1 nd1 R1 s1 _ => ?_⟩
    obtain ⟨a, rfl, S⟩ := lsts_inv (W' := Z ++ O1) R1 e3 sub_right (frozen_out hg g1 s1)
    rw [← hK]
    obtain ⟨vs, h1, h2, h3⟩ := S
    exact ⟨a, vs, rfl, SqL.of h1, p _ H1 O1 _ (g1.drop hg.z0) s1.r ⟨vs, h1, h2, h3⟩ it_enL⟩
theorem d_zipL (h : PE X e (tE G m)) (h2 : PE X e2 (tE G m2)) (hg : Gl X "zip") (hm : X.mg "zip" = none) (hs : starEach [e, e2] X.env = (false, eval e X.env) :: starEach [e2] X.env := by rfl) (hs2 : starEach [e2] X.env = [(false, eval e2 X.env)] := by rfl)
    (hpl : (backTo pos (starEach [e2] X.env)).any (·.1) = false := by rfl) (hK : G.K = X.K := by rfl) : PI X (.Tuple elts kk tpos) (.Call (.Name "zip" p) [e, e2] [] pos) (tI G (.zipL m m2)) :=
  pi_mono (pi_zip hg hm (pa_cons h (pa_cons h2 pa_nil (by rw [hs2]; rfl)) hs) hs hpl) fun σ H R q => by
    obtain ⟨Z, r, O, ds, r', hg, e1, p⟩ := q
    simp only [evi, Option.bind_eq_bind, Option.bind_eq_some_iff, Prod.exists, Option.some.injEq, Prod.mk.injEq] at e1
    obtain ⟨x, r1, e2, y, r2, e3, xs, e4, ys, e5, rfl, rfl⟩ := e1
    refine ⟨Z, r, O, x, r1, hg, e2, fun v H1 O1 f1 g1 nd1 R1 s1 _ => ?_⟩
    refine ⟨f1 ++ Z, r1, O1, y, r2, g1, e3, fun w H2 O2 f2 g2 nd2 R2 s2 _ => ?_⟩
    have R1' := R1.stayZ g1 s2
    have less1 : ∀ b ∈ Z ++ O2, b ∈ f2 ++ (f1 ++ Z) ++ O2 := fun b hb => by
      rcases List.mem_append.mp hb with q | q
      · exact List.mem_append_left _ (List.mem_append_right _ (List.mem_append_right _ q))
      · exact List.mem_append_right _ q
    have out1 : ∀ b ∈ f1, b ∉ Z ++ O2 := fun b hb q => by
      rcases List.mem_append.mp q with q | q
      · exact frozen_out hg g1 s1 b hb (List.mem_append_left _ q)
      · exact g2.dj b q (List.mem_append_right _ (List.mem_append_left _ hb))
    have out2 : ∀ b ∈ f2, b ∉ Z ++ O2 := fun b hb q => by
      have k := frozen_out g1 g2 s2 b hb
      rcases List.mem_append.mp q with q | q
      · exact k (List.mem_append_left _ (List.mem_append_right _ q))
      · exact k (List.mem_append_right _ q)
    obtain ⟨a, rfl, vs, h1, h2, h3⟩ := lsts_inv (W' := Z ++ O2) R1' e4 less1 out1
    obtain ⟨b, rfl, ws, h4, h5, h6⟩ := lsts_inv (W' := Z ++ O2) R2 e5 less1 out2
    rw [← hK]
    exact ⟨a, b, vs, ws, rfl, SqL.of h1, SqL.of h4, p _ H2 O2 _ ((g2.drop fun b hb => List.mem_append_right _ (hg.z0 b hb)).drop hg.z0) (Stp.trans s1.r s2.r) ⟨⟨vs, h1, h2, h3⟩, ⟨ws, h4, h5, h6⟩⟩ it_zipL⟩
end
end
end PD

/-! Rules: list comprehensions. -/
namespace PD
open PySem L2

section
variable {K : PySem.W.Frag} {H : Hp} {W : List Addr}
/-- empty slots may hold anything -/
theorem RE.cong : ∀ {σ σ' : St} {r : Env} {O : List Addr}, RE K H W σ r O → σ'.length = σ.length → (∀ j : Nat, r.getD j none ≠ none → σ'[j]? = σ[j]?) → RE K H W σ' r O
  | [], [], _, _, .nil, _, _ => .nil
  | [], _ :: _, _, _, .nil, hl, _ => by simp at hl
  | _ :: σ, [], _, _, _, hl, _ => by simp at hl
  | _ :: σ, x :: σ', _, _, .emp q, hl, h => .emp (RE.cong q (by simpa using hl) fun j hj => by
      have := h (j + 1) (by simpa using hj)
      simpa using this)
  | _ :: σ, x :: σ', _, _, .has ht q, hl, h => by
    have h0 := h 0 (by simp)
    simp only [List.getElem?_cons_zero, Option.some.injEq] at h0
    subst h0
    exact .has ht (RE.cong q (by simpa using hl) fun j hj => by
      have := h (j + 1) (by simpa using hj)
      simpa using this)
theorem getD_set' {r : Env} {i j : Nat} {x : Option T} : (r.set i x).getD j none = if i = j ∧ i < r.length then x else r.getD j none := by
  rw [List.getD_eq_getElem?_getD, List.getD_eq_getElem?_getD, List.getElem?_set]
  by_cases e : i = j
  · subst e
    by_cases hl : i < r.length
    · rw [if_pos rfl, if_pos hl, if_pos ⟨rfl, hl⟩]; rfl
    · rw [if_pos rfl, if_neg hl, if_neg (fun q => hl q.2), List.getElem?_eq_none_iff.mpr (by omega)]
  · rw [if_neg e, if_neg (fun q => e q.1)]
theorem wipe_none {r : Env} : ∀ {vs : List Nat} {j : Nat}, j ∈ vs ∨ r.getD j none = none → (PD.wipe r vs).getD j none = none
  | [], j, h => h.resolve_left fun q => nomatch q
  | i :: vs, j, h => by
    show (PD.wipe (r.set i none) vs).getD j none = none
    refine wipe_none ?_
    rcases h with h | h
    · rcases List.mem_cons.mp h with e | h
      · subst e; exact .inr (getD_set_none r j)
      · exact .inl h
    · refine .inr ?_
      rw [getD_set']
      split
      · rfl
      · exact h
/-- some slots are emptied -/
theorem RE.wipes {σ : St} : ∀ {vs : List Nat} {r : Env} {O : List Addr}, RE K H W σ r O → ∃ O', RE K H W σ (PD.wipe r vs) O' ∧ O'.Sublist O
  | [], _, O, h => ⟨O, h, List.Sublist.refl _⟩
  | i :: vs, r, O, h => by
    obtain ⟨A, g, B, eO, _, _, hc, _⟩ := h.clear i
    obtain ⟨O', h1, h2⟩ := RE.wipes (vs := vs) hc
    refine ⟨O', h1, h2.trans ?_⟩
    rw [eO, List.append_assoc]
    exact List.Sublist.append_left (List.sublist_append_right g B) A
end
theorem Good.wipes {G : Fm} {Z O : List Addr} {σ σ' : St} {r : Env} {H : Hp} {vs : List Nat} (h : Good G Z σ r H O) (e : L2.wipe σ vs = L2.wipe σ' vs) (iv : ∀ p ∈ G.iov, p.1 ∉ vs) : ∃ O', Good G Z (L2.wipe σ' vs) (PD.wipe r vs) H O' ∧ O'.Sublist O := by
  obtain ⟨O', h1, h2⟩ := h.re.wipes (vs := vs)
  have s := h2.subset
  refine ⟨O', ⟨?_, h.nd.sublist h2, fun b hb => h.dj b (s hb), h.zd, h.z0, h.st.sub fun b hb => s hb, fun p hp => ?_⟩, h2⟩
  · refine RE.less (fun b hb => ?_) (RE.cong h1 ?_ fun j hj => ?_)
    · rcases List.mem_append.mp hb with q | q
      · exact List.mem_append_left _ q
      · exact List.mem_append_right _ (s q)
    · rw [← e, wipe_length]
    · rw [← e]
      refine wipe_out fun hm => hj (wipe_none (.inl hm))
  · rw [← e, wipe_out (iv p hp)]
    exact h.iv p hp
/-- the slots as they were, where the emptied ones hold nothing -/
theorem Good.back {G : Fm} {Z O : List Addr} {σ : St} {r : Env} {H : Hp} {vs : List Nat} (h : Good G Z (L2.wipe σ vs) r H O) (hr : ∀ j ∈ vs, r.getD j none = none) (iv : ∀ p ∈ G.iov, p.1 ∉ vs) : Good G Z σ r H O :=
  ⟨h.re.cong (by rw [wipe_length]) fun j hj => (wipe_out fun hm => hj (hr j hm)).symm, h.nd, h.dj, h.zd, h.z0, h.st, fun p hp => by rw [← wipe_out (iv p hp)]; exact h.iv p hp⟩
theorem Good.toWipe {G : Fm} {Z O : List Addr} {σ : St} {r : Env} {H : Hp} {vs : List Nat} (h : Good G Z σ r H O) (hr : ∀ j ∈ vs, r.getD j none = none) (iv : ∀ p ∈ G.iov, p.1 ∉ vs) : Good G Z (L2.wipe σ vs) r H O :=
  ⟨h.re.cong (by rw [wipe_length]) fun j hj => wipe_out fun hm => hj (hr j hm), h.nd, h.dj, h.zd, h.z0, h.st, fun p hp => by rw [wipe_out (iv p hp)]; exact h.iv p hp⟩
theorem Good.wipeEq {G : Fm} {Z O : List Addr} {σ σ' : St} {r : Env} {H : Hp} (h : Good G Z σ r H O) (e : σ = σ') : Good G Z σ' r H O := e ▸ h
/-- a list that is being made grows -/
theorem Good.updZ {G : Fm} {Z O : List Addr} {σ : St} {r : Env} {H : Hp} {a : Addr} {xs ys : List V} (h : Good G Z σ r H O) (ha : a ∈ Z) (e : H a = some (.lst xs)) (h0 : G.H0 a = none) : Good G Z σ r (upd H a (.lst ys)) O where
  re := by
    refine h.re.kp (F := O) (fun b o q w => ?_) (fun b hb => .inl hb) fun _ hb => hb
    have ne : b ≠ a := by
      rintro rfl
      rcases w with w | w | w
      · exact h.dj b w ha
      · exact w (List.mem_append_left _ ha)
      · rw [e] at q; cases q; exact w xs rfl
    rw [upd_ne ne]; exact q
  nd := h.nd
  dj := h.dj
  zd := fun b hb => by
    by_cases q : b = a
    · subst q; rw [upd_same]; exact fun w => nomatch w
    · rw [upd_ne q]; exact h.zd b hb
  z0 := h.z0
  st := ⟨fun b o q w => by
    have z := h.st.kp b o q w
    rw [upd_ne (fun e' => by subst e'; rw [h0] at q; cases q)]
    exact z, fun b q => by
    by_cases w : b = a
    · subst w; exact absurd h0 q
    · rw [upd_ne w]; exact h.st.dom b q, h.st.new⟩
  iv := h.iv

/-! ### a comprehension's test -/
def tCnd (G : Fm) (c : MO) : TT := fun σ H Q => ∃ Z r O k r', Good G Z σ r H O ∧ evc G.C c r = some (k, r') ∧ ∀ H' O', Good G Z σ r' H' O' → Stp O O' H H' → Q k H'
theorem pts_mono {X : Cx} {ifs : List Expr} {t t' : TT} (h : PTs X ifs t) (hh : ∀ σ H Q, t' σ H Q → t σ H Q) : PTs X ifs t' := ⟨fun pins s σ H Q I ht => h.run pins s σ H Q I (hh _ _ _ ht)⟩
theorem c_no {X : Cx} {G : Fm} : PTs X [] (tCnd G .none) := pts_mono pts_nil fun σ H Q q => by
  obtain ⟨Z, r, O, k, r', hg, e, p⟩ := q
  simp only [evc, Option.some.injEq, Prod.mk.injEq] at e
  obtain ⟨rfl, rfl⟩ := e
  exact p H O hg (Stp.refl _ _)
theorem c_if {X : Cx} {G : Fm} {c : Expr} {m : ME} (h : PT X c (tT G m)) : PTs X [c] (tCnd G (.some m)) := pts_mono (pts_one h) fun σ H Q q => by
  obtain ⟨Z, r, O, k, r', hg, e, p⟩ := q
  simp only [evc, Option.bind_eq_bind, Option.bind_eq_some_iff, Prod.exists, Option.map_eq_some_iff, Prod.mk.injEq] at e
  obtain ⟨x, r1, e1, k', e2, rfl, rfl⟩ := e
  refine ⟨Z, r, O, x, r1, hg, e1, fun v H1 O1 f1 g1 _ R1 s1 m1 => ?_⟩
  obtain ⟨rfl, _, rfl⟩ := R1.bl? e2
  exact ⟨k', rfl, p H1 O1 g1 s1⟩

theorem ev_comp {C : Callees} {b : Bool} {tg : Tg} {it : MI} {c : MO} {e : ME} {own : List Nat} {r r' : Env} {t : T} (h : ev C b (.comp tg it c e own) r = some (t, r')) :
    ∃ ds r1 out, evi C it r = some (ds, r1) ∧ (∀ j ∈ own, r1.getD j none = none) ∧ comps (Tg.put 9 tg) (evc C c) (ev C false e) own ds [] r1 = some (out, r') ∧ t = .node out := by
  simp only [ev, Option.bind_eq_bind, Option.bind_eq_some_iff, Prod.exists] at h
  obtain ⟨ds, r1, e1, e2⟩ := h
  split at e2
  · cases e2
  · rename_i hn
    simp only [Option.bind_eq_some_iff, Prod.exists, Option.some.injEq, Prod.mk.injEq] at e2
    obtain ⟨out, r2, e3, rfl, rfl⟩ := e2
    refine ⟨ds, r1, out, e1, fun j hj => ?_, e3, rfl⟩
    have hn' : (own.any fun i => (r1.getD i none).isSome) = false := by simpa using hn
    rw [List.any_eq_false] at hn'
    have := hn' j hj
    cases q : r1.getD j none with
    | none => rfl
    | some x => rw [q] at this; simp at this

theorem i_comp {G : Fm} {tg : Tg} {it : MI} {c : MO} {m : ME} {vs : List Nat} (hio : (vs.all fun i => !G.ioS.contains i) = true) (hsl : ((Tg.sl 9 tg).all fun i => vs.contains i) = true) {σ : St} {H : Hp} {Q : VK} (q : tE G (.comp tg it c m vs) σ H Q) :
    tLc (tI G it) (tG G 9 tg) (tCnd G c) (tE G m) vs σ H Q := by
  obtain ⟨Z, r, O, t, r', hg, e, po⟩ := q
  obtain ⟨ds, r1, out, e1, hn, e2, rfl⟩ := ev_comp e
  have iv : ∀ p ∈ G.iov, p.1 ∉ vs := fun p hp hm => by
    have := (List.all_eq_true.mp hio) p.1 hm
    simp only [Bool.not_eq_true'] at this
    exact no_io this hp rfl
  have sl : ∀ i ∈ Tg.sl 9 tg, i ∈ vs := fun i hi => by
    have := (List.all_eq_true.mp hsl) i hi
    simpa using this
  refine ⟨Z, r, O, ds, r1, hg, e1, fun J H1 O1 S g1 s1 hS it => ?_⟩
  intro D hD
  have hD0 : G.H0 D = none := g1.st.isNone hD
  let Inv' : Nat → Nat → Hp → Prop := fun i n H' => n = ds.length - i ∧ i ≤ ds.length ∧ ∃ rc acc vacc O' f, Good G (D :: (f ++ Z)) (L2.wipe σ vs) rc H' O' ∧ H' D = some (.lst vacc) ∧ RTs G.K H' (D :: (f ++ Z) ++ O') vacc acc f ∧ (D :: f).Nodup ∧ S H' (D :: (f ++ Z) ++ O') ∧
    comps (Tg.put 9 tg) (evc G.C c) (ev G.C false m) vs (ds.drop i) acc rc = some (out, r') ∧ (∀ j ∈ vs, rc.getD j none = none) ∧ Stp O (D :: f ++ O') H H'
  have sD : Stp O (D :: O1) H (upd H1 D (.lst [])) := s1.growP hD
  refine ⟨Inv', ⟨ds.length, rfl, Nat.zero_le _, r1, [], [], O1, [], (g1.toWipe hn iv).growZ hD, upd_same, .nil, by simp, ?_, by simpa using e2, hn, sD⟩, ?_⟩
  · refine it.kp _ _ _ _ hS (fun b o h _ => ?_) fun b hb => ?_
    · rw [upd_ne (ne_of_none h hD)]; exact h
    · simp only [List.nil_append, List.cons_append, List.mem_cons] at hb
      rcases hb with rfl | hb
      · exact .inr hD
      · exact .inl hb
  rintro i n H' ⟨rfl, hi, rc, acc, vacc, O', f, g', hDl, rt, nd, hS', ec, hrn, st⟩
  by_cases hlt : i < ds.length
  · refine .inr ⟨it.go i _ _ hS' hlt, fun H'' => Inv' (i + 1) (ds.length - (i + 1)) H'', fun H'' hh => ⟨_, by omega, hh⟩, fun x H2 hy => ?_⟩
    have edrop : ds.drop i = ds[i] :: ds.drop (i + 1) := List.drop_eq_getElem_cons hlt
    rw [edrop] at ec
    simp only [comps, Option.bind_eq_bind, Option.bind_eq_some_iff, Prod.exists] at ec
    obtain ⟨r2, ep, k, r3, ek, ec⟩ := ec
    -- the item, over the heap behind it
    have item : ∃ (gx : Good G (D :: (f ++ Z)) (L2.wipe σ vs) rc H2 O') (rx : RI G.K H2 (D :: (f ++ Z) ++ O') x ds[i]) (hd2 : H2 D = some (.lst vacc)) (rt2 : RTs G.K H2 (D :: (f ++ Z) ++ O') vacc acc f), S H2 (D :: (f ++ Z) ++ O') ∧ Stp O (D :: f ++ O') H H2 := by
      rcases it.yld i _ _ x H2 _ hS' (List.getElem?_eq_getElem hlt) hy with ⟨rfl, rx⟩ | ⟨p, xs, es, rfl, hp, rfl, rs, ed⟩
      · exact ⟨g', rx, hDl, rt, hS', st⟩
      · have ks : ∀ b o, H' b = some o → upd H' p (.tup xs) b = some o := fun b o e => by rw [upd_ne (ne_of_none e hp)]; exact e
        refine ⟨g'.grow hp, ?_, ks _ _ hDl, rt.kp (F := f) (fun b o e _ => ks b o e) (fun b hb => .inl hb) (fun _ hb => hb), it.kp _ _ _ _ hS' (fun b o e _ => ks b o e) (fun b hb => .inl hb), st.grow hp⟩
        rw [ed]
        exact .tup (SqT.of upd_same) (rs.kp (fun b o e _ => ks b o e) fun b hb => .inl hb)
    obtain ⟨gx, rx, hd2, rt2, hS2, st2⟩ := item
    refine ⟨_, rc, O', ds[i], r2, gx, rx, ep, fun σ2 O2 g2 sub2 only => ?_⟩
    have wσ : L2.wipe σ2 vs = L2.wipe σ vs := by
      have h1 := only vs sl
      have h2 : L2.wipe (L2.wipe σ vs) vs = L2.wipe σ vs := by
        refine List.ext_getElem? fun k => ?_
        rw [wipe_get, wipe_get]
        split
        · cases σ[k]? <;> rfl
        · rfl
      rw [h1, h2]
    refine ⟨wσ, _, r2, O2, k, r3, g2, ek, fun H3 O3 g3 s3 => ?_⟩
    have inD : D ∈ D :: (f ++ Z) := List.mem_cons_self
    have hd3 : H3 D = some (.lst vacc) := s3.kp _ _ hd2 (.inl fun z => g2.dj D z inD)
    -- what was made so far stands
    have keep3 : ∀ b o, H2 b = some o → (b ∈ f ∨ b ∉ D :: (f ++ Z) ++ O' ∨ NoLst o) → H3 b = some o := fun b o e w => s3.kp b o e (by
      rcases w with w | w | w
      · exact .inl fun z => g2.dj b z (List.mem_cons_of_mem _ (List.mem_append_left _ w))
      · exact .inl fun z => w (List.mem_append_right _ (sub2 b z))
      · exact .inr w)
    have new3 : ∀ b ∈ D :: (f ++ Z) ++ O3, b ∈ D :: (f ++ Z) ++ O' ∨ H2 b = none := fun b hb => by
      rcases List.mem_append.mp hb with q | q
      · exact .inl (List.mem_append_left _ q)
      · exact (s3.new b q).imp (fun z => List.mem_append_right _ (sub2 b z)) id
    have rt3 : RTs G.K H3 (D :: (f ++ Z) ++ O3) vacc acc f := rt2.kp keep3 new3 fun _ hb => hb
    have hS3 : S H3 (D :: (f ++ Z) ++ O3) := it.kp _ _ _ _ hS2 (fun b o e w => keep3 b o e (.inr w)) new3
    have st3 : Stp O (D :: f ++ O3) H H3 := by
      have a : Stp O O' H H2 := st2.r
      have b3 := a.trans (s3.pre sub2)
      refine ⟨b3.kp, b3.dom, fun b hb => ?_⟩
      rcases List.mem_append.mp hb with q | q
      · exact st2.new b (List.mem_append_left _ q)
      · exact b3.new b q
    cases k with
    | false =>
      simp only [Bool.false_eq_true, if_false] at ec
      refine iteF ?_
      obtain ⟨O4, g4, sl4⟩ := g3.wipes (vs := vs) (wσ.trans rfl) iv
      have s4 := sl4.subset
      have less4 : ∀ b ∈ D :: (f ++ Z) ++ O4, b ∈ D :: (f ++ Z) ++ O3 := fun b hb => by
        rcases List.mem_append.mp hb with q | q
        · exact List.mem_append_left _ q
        · exact List.mem_append_right _ (s4 q)
      exact ⟨rfl, hlt, PD.wipe r3 vs, acc, vacc, O4, f, g4, hd3, rt3.less less4, nd, it.kp _ _ _ _ hS3 (Kp.refl _ _) (fun b hb => .inl (less4 b hb)), ec, fun j hj => wipe_none (.inl hj), st3.sub fun b hb => by
        rcases List.mem_append.mp hb with q | q
        · exact List.mem_append_left _ q
        · exact List.mem_append_right _ (s4 q)⟩
    | true =>
      simp only [if_true, Option.bind_eq_some_iff, Prod.exists] at ec
      obtain ⟨x4, r4, e4, ec⟩ := ec
      split at ec
      · rename_i hacc
        refine iteT ?_
        refine ⟨_, r3, O3, x4, r4, g3, e4, fun v4 H4 O4 f4 g4 nd4 R4 s4 _ => ?_⟩
        have hd4 : H4 D = some (.lst vacc) := s4.kp _ _ hd3 (.inl fun z => g3.dj D z inD)
        refine ⟨vacc, hd4, by rw [rt3.len, ← lim_eq]; exact hacc, ?_⟩
        have keep4 : ∀ b o, H3 b = some o → (b ∈ f ∨ b ∉ D :: (f ++ Z) ++ O3 ∨ NoLst o) → H4 b = some o := fun b o e w => s4.kp b o e (by
          rcases w with w | w | w
          · exact .inl fun z => g3.dj b z (List.mem_cons_of_mem _ (List.mem_append_left _ w))
          · exact .inl fun z => w (List.mem_append_right _ z)
          · exact .inr w)
        have f4apart : ∀ b ∈ f4, b ∉ D :: (f ++ Z) := fun b hb z => by
          rcases s4.new b (List.mem_append_left _ hb) with w | w
          · exact g3.dj b w z
          · exact g3.zd b z w
        let W4 := f4 ++ (D :: (f ++ Z)) ++ O4
        have new4 : ∀ b ∈ W4, b ∈ D :: (f ++ Z) ++ O3 ∨ H3 b = none := fun b hb => by
          rcases List.mem_append.mp hb with q | q
          · rcases List.mem_append.mp q with q | q
            · exact (s4.new b (List.mem_append_left _ q)).imp (fun z => List.mem_append_right _ z) id
            · exact .inl (List.mem_append_left _ q)
          · exact (s4.new b (List.mem_append_right _ q)).imp (fun z => List.mem_append_right _ z) id
        have rt4 : RTs G.K H4 W4 vacc acc f := rt3.kp keep4 new4 fun _ hb => hb
        have hS4 : S H4 W4 := it.kp _ _ _ _ hS3 (fun b o e w => keep4 b o e (.inr w)) new4
        have rt5 : RTs G.K H4 W4 (vacc ++ [v4]) (acc ++ [x4]) (f ++ f4) := by
          have := RTs.append rt4 (.cons R4 .nil)
          rwa [List.append_nil] at this
        obtain ⟨O5, g5, sl5⟩ := g4.wipes (vs := vs) wσ iv
        have s5 := sl5.subset
        have ndf := List.nodup_cons.mp nd
        have nd5 : (D :: (f ++ f4)).Nodup := List.nodup_cons.mpr ⟨fun z => (List.mem_append.mp z).elim ndf.1 fun w => f4apart D w inD, nodup_two ndf.2 nd4 fun b hb w => f4apart b w (List.mem_cons_of_mem _ (List.mem_append_left _ hb))⟩
        have zsub : ∀ b ∈ D :: (f ++ f4 ++ Z), b ∈ f4 ++ (D :: (f ++ Z)) := fun b hb => by
          simp only [List.mem_cons, List.mem_append] at hb ⊢
          rcases hb with q | (q | q) | q
          · exact .inr (.inl q)
          · exact .inr (.inr (.inl q))
          · exact .inl q
          · exact .inr (.inr (.inr q))
        have g6 : Good G (D :: (f ++ f4 ++ Z)) (L2.wipe σ vs) (PD.wipe r4 vs) (upd H4 D (.lst (vacc ++ [v4]))) O5 :=
          (g5.less zsub fun b hb => List.mem_cons_of_mem _ (List.mem_append_right _ (hg.z0 b hb))).updZ List.mem_cons_self hd4 hD0
        have less5 : ∀ b ∈ D :: (f ++ f4 ++ Z) ++ O5, b ∈ W4 := fun b hb => by
          rcases List.mem_append.mp hb with q | q
          · exact List.mem_append_left _ (zsub b q)
          · exact List.mem_append_right _ (s5 q)
        have keep5 : ∀ b o, H4 b = some o → (b ∈ f ++ f4 ∨ b ∉ W4 ∨ NoLst o) → upd H4 D (.lst (vacc ++ [v4])) b = some o := fun b o e w => by
          have ne : b ≠ D := by
            rintro rfl
            rcases w with w | w | w
            · exact (List.nodup_cons.mp nd5).1 w
            · exact w (List.mem_append_left _ (List.mem_append_right _ List.mem_cons_self))
            · rw [hd4] at e; cases e; exact w vacc rfl
          rw [upd_ne ne]; exact e
        refine ⟨rfl, hlt, PD.wipe r4 vs, acc ++ [x4], vacc ++ [v4], O5, f ++ f4, g6, upd_same, rt5.kp keep5 (fun b hb => .inl (less5 b hb)) fun _ hb => hb, nd5, it.kp _ _ _ _ hS4 (fun b o e w => keep5 b o e (.inr w)) (fun b hb => .inl (less5 b hb)), ec, fun j hj => wipe_none (.inl hj), ?_⟩
        have a3 : Stp O O3 H H3 := st3.r
        have a4 := a3.trans s4
        refine ⟨fun b o e w => ?_, fun b q => ?_, fun b hb => ?_⟩
        · have z := a4.kp b o e w
          have ne : b ≠ D := by
            rintro rfl
            have := s1.isNone hD
            rw [this] at e; cases e
          rw [upd_ne ne]; exact z
        · by_cases w : b = D
          · subst w; rw [upd_same]; exact fun z => nomatch z
          · rw [upd_ne w]; exact a4.dom b q
        · simp only [List.cons_append, List.mem_cons, List.mem_append] at hb
          rcases hb with q | (q | q) | q
          · subst q; exact st3.new _ List.mem_cons_self
          · exact st3.new b (List.mem_append_left _ (List.mem_cons_of_mem _ q))
          · exact a4.new b (List.mem_append_left _ q)
          · exact a4.new b (List.mem_append_right _ (s5 q))
      · cases ec
  · have ei : i = ds.length := by omega
    subst ei
    rw [List.drop_length] at ec
    simp only [comps, Option.some.injEq, Prod.mk.injEq] at ec
    obtain ⟨rfl, rfl⟩ := ec
    exact .inl ⟨it.stop _ _ hS', po _ H' O' (D :: f) (g'.back hrn iv) nd (.node hDl rt) st fun q => by cases q⟩
end PD

/-! Rules: statements. -/
namespace PD
open PySem L2

theorem d_comp {X : Cx} {G : Fm} {elt tg iter : Expr} {ifs : List Expr} {scope : Scope} {own : List (Str × Nat)} {pos : Pos} {tgm : Tg} {it : MI} {c : MO} {m : ME} {vs : List Nat} (hc : X.calm = true) (hN : X.N.Nodup) (ok : BlkOk X.N X.env.scope scope own) (hi : PI X tg iter (tI G it))
    (hg : ∀ (s : Shared) (H : Hp) (C : Addr) (cl : List (Str × Addr)) (fp : List Addr), PG (X.blk s H scope (compEnvC scope cl C X.env) fp) tg (tG G 9 tgm)) (ht : ∀ (s : Shared) (H : Hp) (C : Addr) (cl : List (Str × Addr)) (fp : List Addr), PTs (X.blk s H scope (compEnvC scope cl C X.env) fp) ifs (tCnd G c))
    (he : ∀ (s : Shared) (H : Hp) (C : Addr) (cl : List (Str × Addr)) (fp : List Addr), PE (X.blk s H scope (compEnvC scope cl C X.env) fp) elt (tE G m)) (hv : own.map (·.2) = vs := by rfl) (hio : (vs.all fun i => !G.ioS.contains i) = true := by rfl) (hsl : ((Tg.sl 9 tgm).all fun i => vs.contains i) = true := by rfl)
    (hs : ∀ x, foldedSetIterable iter X.env x = pure x := by intro _; rfl) : PE X (.ListComp elt [⟨tg, iter, ifs, 0⟩] scope pos) (tE G (.comp tgm it c m vs)) := by
  subst hv
  exact pe_mono (pe_lc hc hN hi ok hg ht he hs) fun _ _ _ q => i_comp hio hsl q

/-- what is wanted behind a statement -/
def PoS (G : Fm) (O : List Addr) (H : Hp) (D : Ends) : Fl → Prop
  | .nx r' => ∀ σ' H' O', Good G G.Z0 σ' r' H' O' → Stp O O' H H' → D.nx σ' H'
  | .rt t r' => ∀ v σ' H' O' f, Good G (f ++ G.Z0) σ' r' H' O' → f.Nodup → RT G.K H' (f ++ G.Z0 ++ O') v t f → Stp O (f ++ O') H H' → D.rt v H'
theorem PoS.later {G : Fm} {O O1 : List Addr} {H H1 : Hp} {D : Ends} {fl : Fl} (p : PoS G O H D fl) (s : Stp O O1 H H1) : PoS G O1 H1 D fl := by
  cases fl with
  | nx r => exact fun σ' H' O' g s2 => p σ' H' O' g (s.trans s2)
  | rt t r => exact fun v σ' H' O' f g nd rt s2 => p v σ' H' O' f g nd rt (s.trans s2)
def tS (G : Fm) (W : Nat) (m : MS) : TS := fun D σ H => ∃ r O fl, Good G G.Z0 σ r H O ∧ ex G.C W m r = some fl ∧ PoS G O H D fl
def tSs (G : Fm) (W : Nat) (m : MSs) : TS := fun D σ H => ∃ r O fl, Good G G.Z0 σ r H O ∧ exs G.C W m r = some fl ∧ PoS G O H D fl

section
variable {X : Cx} {G : Fm} {Wn : Nat} {e : Expr} {m : ME} {pos : Pos} {st : Stmt} {sts : List Stmt} {s : MS} {ss : MSs}
theorem ss_nil : PSs X [] (tSs G Wn .nil) := pss_mono pss_nil fun D σ H q => by
  obtain ⟨r, O, fl, hg, e, p⟩ := q
  simp only [exs, Option.some.injEq] at e
  subst e
  exact p σ H O hg (Stp.refl _ _)
theorem ss_cons (h1 : PS X st (tS G Wn s)) (h2 : PSs X sts (tSs G Wn ss)) : PSs X (st :: sts) (tSs G Wn (.cons s ss)) := pss_mono (pss_cons h1 h2) fun D σ H q => by
  obtain ⟨r, O, fl, hg, e, p⟩ := q
  simp only [exs, Option.bind_eq_bind, Option.bind_eq_some_iff] at e
  obtain ⟨fl1, e1, e2⟩ := e
  refine ⟨r, O, fl1, hg, e1, ?_⟩
  cases fl1 with
  | nx r1 => exact fun σ' H' O' g' s1 => ⟨r1, O', fl, g', e2, p.later s1⟩
  | rt t r1 =>
    simp only [Option.some.injEq] at e2
    subst e2
    exact p
theorem ss_one (h1 : PS X st (tS G Wn s)) : PSs X [st] (tSs G Wn (.cons s .nil)) := ss_cons h1 ss_nil
theorem s_ret (h : PE X e (tE G m)) : PS X (.Return (some e) pos) (tS G Wn (.ret m)) := ps_mono (ps_ret h) fun D σ H q => by
  obtain ⟨r, O, fl, hg, e, p⟩ := q
  simp only [ex, Option.bind_eq_bind, Option.bind_eq_some_iff, Prod.exists, Option.some.injEq] at e
  obtain ⟨x, r1, e1, rfl⟩ := e
  exact ⟨_, r, O, x, r1, hg, e1, fun v H' O' f g' nd rt s1 _ => p v σ H' O' f g' nd rt s1⟩
theorem s_retN : PS X (.Return none pos) (tS G Wn (.ret (.cst .non))) := ps_mono ps_retN fun D σ H q => by
  obtain ⟨r, O, fl, hg, e, p⟩ := q
  simp only [ex, ev, Option.bind_eq_bind, Option.bind_some, Option.some.injEq] at e
  subst e
  exact p .non σ H O [] hg List.nodup_nil (.leaf .non) (Stp.refl _ _)
theorem s_stuck : PS X st (tS G Wn .stuck) := ps_mono ps_never fun D σ H q => by
  obtain ⟨r, O, fl, hg, e, p⟩ := q
  simp [ex] at e
theorem s_drop (h : PE X e (tE G m)) (hs : swapsWith e none pos.line X.env = pure false := by rfl) : PS X (.Expr e pos) (tS G Wn (.drop m)) := ps_mono (ps_expr h hs) fun D σ H q => by
  obtain ⟨r, O, fl, hg, e, p⟩ := q
  simp only [ex, Option.bind_eq_bind, Option.bind_eq_some_iff, Prod.exists, Option.some.injEq] at e
  obtain ⟨x, r1, e1, rfl⟩ := e
  exact ⟨_, r, O, x, r1, hg, e1, fun v H' O' f g' nd rt s1 _ => p σ H' O' (g'.drop hg.z0) s1.r⟩
theorem s_ife {c : Expr} {a b : List Stmt} {mc : ME} {ma mb : MSs} (hc : PT X c (tT G mc)) (ha : PSs X a (tSs G Wn ma)) (hb : PSs X b (tSs G Wn mb)) : PS X (.If c a b pos) (tS G Wn (.ife mc ma mb)) := ps_mono (ps_if hc ha hb) fun D σ H q => by
  obtain ⟨r, O, fl, hg, e, p⟩ := q
  simp only [ex, Option.bind_eq_bind, Option.bind_eq_some_iff, Prod.exists] at e
  obtain ⟨x, r1, e1, k, e2, e3⟩ := e
  refine ⟨_, r, O, x, r1, hg, e1, fun v H1 O1 f1 g1 _ R1 s1 m1 => ?_⟩
  obtain ⟨rfl, rfl, rfl⟩ := R1.bl? e2
  refine ⟨k, rfl, ?_⟩
  cases k with
  | true => exact iteT ⟨r1, O1, fl, g1, by simpa using e3, p.later s1⟩
  | false => exact iteF ⟨r1, O1, fl, g1, by simpa using e3, p.later s1⟩
theorem s_whl {c : Expr} {b : List Stmt} {mc : ME} {mb : MSs} (hp : PassesOwn (model X.prog X.w) X.A X.env X.xe) (hc : PT X c (tT G mc)) (hb : PSs X b (tSs G Wn mb)) : PS X (.While c b [] pos) (tS G Wn (.whl mc mb)) := ps_mono (ps_while hp hc hb) fun D σ H q => by
  obtain ⟨r, O, fl, hg, e, p⟩ := q
  simp only [ex] at e
  refine ⟨fun n σ H1 => ∃ r O1, Good G G.Z0 σ r H1 O1 ∧ Stp O O1 H H1 ∧ loopW (fun r => do
      let (x, r1) ← ev G.C false mc r
      let k ← bl? x
      some (k, r1)) (exs G.C Wn mb) n r = some fl, ⟨Wn, r, O, hg, Stp.refl _ _, e⟩, ?_⟩
  rintro n σ1 H1 ⟨r1, O1, g1, st1, e1⟩
  cases n with
  | zero => simp [loopW] at e1
  | succ n =>
    simp only [loopW, Option.bind_eq_bind, Option.bind_eq_some_iff, Prod.exists, Option.some.injEq, Prod.mk.injEq] at e1
    obtain ⟨k, r2, ⟨x, r2', e2, k', e3, rfl, rfl⟩, e4⟩ := e1
    refine ⟨_, r1, O1, x, r2', g1, e2, fun v H2 O2 f2 g2 _ R2 s2 m2 => ?_⟩
    obtain ⟨rfl, rfl, rfl⟩ := R2.bl? e3
    refine ⟨k', rfl, ?_⟩
    cases k' with
    | false =>
      simp only [Bool.false_eq_true, if_false, Option.some.injEq] at e4
      subst e4
      exact iteF (p σ1 H2 O2 g2 (st1.trans s2))
    | true =>
      simp only [if_true, Option.bind_eq_some_iff] at e4
      obtain ⟨fl2, e5, e6⟩ := e4
      refine iteT ⟨fun σ' H' => ∃ r O1, Good G G.Z0 σ' r H' O1 ∧ Stp O O1 H H' ∧ loopW _ _ n r = some fl, fun σ' H' h => ⟨n, Nat.lt_succ_self n, h⟩, r2', O2, fl2, g2, e5, ?_⟩
      cases fl2 with
      | nx r3 => exact fun σ' H' O' g' s3 => ⟨r3, O', g', (st1.trans s2).trans s3, e6⟩
      | rt t r3 =>
        simp only [Option.some.injEq] at e6
        subst e6
        exact fun v σ' H' O' f g nd rt s3 => p v σ' H' O' f g nd rt ((st1.trans s2).trans s3)
theorem s_for {tg iter : Expr} {b : List Stmt} {tgm : Tg} {mi : MI} {mb : MSs} (hp : PassesOwn (model X.prog X.w) X.A X.env X.xe) (hc : X.calm = true) (hi : PI X tg iter (tI G mi)) (hg : PG X tg (tG G 9 tgm)) (hb : PSs X b (tSs G Wn mb))
    (hs : ∀ x, foldedSetIterable iter X.env x = pure x := by intro _; rfl) : PS X (.For tg iter b [] pos) (tS G Wn (.for_ tgm mi mb)) := ps_mono (ps_for hp hc hi hg hb hs) fun D σ H q => by
  obtain ⟨r, O, fl, hg, e, p⟩ := q
  simp only [ex, Option.bind_eq_bind, Option.bind_eq_some_iff, Prod.exists] at e
  obtain ⟨ds, r1, e1, e2⟩ := e
  refine ⟨_, r, O, ds, r1, hg, e1, fun J H1 O1 S g1 s1 hS it => ?_⟩
  refine ⟨fun i n σ H' => n = ds.length - i ∧ i ≤ ds.length ∧ ∃ r O', Good G G.Z0 σ r H' O' ∧ S H' (G.Z0 ++ O') ∧ Stp O O' H H' ∧ loopF (Tg.put 9 tgm) (exs G.C Wn mb) (ds.drop i) r = some fl, ⟨ds.length, rfl, Nat.zero_le _, r1, O1, g1, hS, s1, by simpa using e2⟩, ?_⟩
  rintro i n σ2 H2 ⟨rfl, hi, r2, O2, g2, hS2, st2, e3⟩
  by_cases hlt : i < ds.length
  · refine .inr ⟨it.go i _ _ hS2 hlt, fun σ' H' => ∃ r O', Good G G.Z0 σ' r H' O' ∧ S H' (G.Z0 ++ O') ∧ Stp O O' H H' ∧ loopF (Tg.put 9 tgm) (exs G.C Wn mb) (ds.drop (i + 1)) r = some fl, fun σ' H' h => ⟨ds.length - (i + 1), by omega, rfl, hlt, h⟩, fun x H3 hy => ?_⟩
    rw [List.drop_eq_getElem_cons hlt] at e3
    simp only [loopF, Option.bind_eq_bind, Option.bind_eq_some_iff] at e3
    obtain ⟨r3, e4, fl2, e5, e6⟩ := e3
    have item : Good G G.Z0 σ2 r2 H3 O2 ∧ RI G.K H3 (G.Z0 ++ O2) x ds[i] ∧ S H3 (G.Z0 ++ O2) ∧ Stp O O2 H H3 := by
      rcases it.yld i _ _ x H3 _ hS2 (List.getElem?_eq_getElem hlt) hy with ⟨rfl, rx⟩ | ⟨p, xs, es, rfl, hp, rfl, rs, ed⟩
      · exact ⟨g2, rx, hS2, st2⟩
      · have ks : ∀ b o, H2 b = some o → upd H2 p (.tup xs) b = some o := fun b o e => by rw [upd_ne (ne_of_none e hp)]; exact e
        refine ⟨g2.grow hp, ?_, it.kp _ _ _ _ hS2 (fun b o e _ => ks b o e) (fun b hb => .inl hb), st2.grow hp⟩
        rw [ed]
        exact .tup (SqT.of upd_same) (rs.kp (fun b o e _ => ks b o e) fun b hb => .inl hb)
    obtain ⟨g3, rx, hS3, st3⟩ := item
    refine ⟨_, r2, O2, ds[i], r3, g3, rx, e4, fun σ4 O4 g4 sub4 _ => ?_⟩
    refine ⟨r3, O4, fl2, g4, e5, ?_⟩
    cases fl2 with
    | rt t r5 =>
      simp only [Option.some.injEq] at e6
      subst e6
      exact fun v σ' H' O' f g nd rt s3 => p v σ' H' O' f g nd rt (st3.trans (s3.pre sub4))
    | nx r5 =>
      refine fun σ5 H5 O5 g5 s5 => ⟨r5, O5, g5, it.kp _ _ _ _ hS3 (s5.kp.mono fun b hb => List.mem_append_right _ (sub4 b hb)) (fun b hb => ?_), st3.trans (s5.pre sub4), e6⟩
      rcases List.mem_append.mp hb with q | q
      · exact .inl (List.mem_append_left _ q)
      · exact (s5.new b q).imp (fun z => List.mem_append_right _ (sub4 b z)) id
  · have ei : i = ds.length := by omega
    subst ei
    rw [List.drop_length] at e3
    simp only [loopF, Option.some.injEq] at e3
    subst e3
    exact .inl ⟨it.stop _ _ hS2, p σ2 H2 O2 g2 st2⟩
end
end PD

/-! Rules: stores. -/
namespace PD
open PySem L2

section
variable {X : Cx} {G : Fm} {Wn i j l : Nat} {e : Expr} {es : List Expr} {m : ME} {ms : MEs} {pos pos' : Pos} {x y z : Str}
theorem i_set {k : Bool} (ni : G.ioS.contains i = false) {D : Ends} {σ : St} {H : Hp} (q : tS G Wn (.set i k m) D σ H) : tAsg (tE G m) (gName i) D σ H := by
  obtain ⟨r, O, fl, hg, e, p⟩ := q
  simp only [ex, Option.bind_eq_bind, Option.bind_eq_some_iff, Prod.exists, Option.some.injEq] at e
  obtain ⟨t, r1, e1, rfl⟩ := e
  refine ⟨_, r, O, t, r1, hg, e1, fun v H1 O1 f1 g1 nd R1 s1 _ => ?_⟩
  show D.nx _ H1
  have out := frozen_out hg g1 s1
  cases k with
  | false =>
    have ri : RI G.K H1 (G.Z0 ++ O1) v t.frz := R1.frz sub_right out
    obtain ⟨O2, g2, s2⟩ := (g1.drop fun b hb => hb).store0 ri ni
    exact p _ H1 O2 (by simpa using g2) (s1.r.sub s2)
  | true =>
    obtain ⟨O2, g2, s2⟩ := g1.store R1 nd (fun b hb => hb) (fun b hb q => out b hb (List.mem_append_left _ q)) (hg.st.trans s1) ni
    exact p _ H1 O2 (by simpa using g2) (s1.sub fun b hb => (s2 b hb).elim (fun z => List.mem_append_right _ z) fun z => List.mem_append_left _ z)
theorem s_set {k : Bool} (hN : X.N.Nodup) (hi : X.N[i]? = some x) (hx : Loc X.env.scope x) (he : PE X e (tE G m)) (ni : G.ioS.contains i = false := by rfl) (hs : swapsWith e (some (.Name x pos')) pos.line X.env = pure false := by rfl)
    (hf : X.fn x = true ∨ X.env.scope.names.lookup x = some .local := by first | exact .inl rfl | exact .inr rfl | assumption) : PS X (.Assign [.Name x pos'] e pos) (tS G Wn (.set i k m)) :=
  ps_mono (ps_set hN hi hx he hs hf) fun _ _ _ q => i_set ni q
theorem s_setLc {k : Bool} {elt tg iter : Expr} {ifs : List Expr} {scope : Scope} {own : List (Str × Nat)} {p2 spos py : Pos} {tgm : Tg} {it : MI} {c : MO} {vs : List Nat} (hc : X.calm = true) (hN : X.N.Nodup) (hy : X.N[i]? = some y) (hyl : X.env.scope.names.lookup y = some .local)
    (hsw : swapsWith (.ListComp elt [⟨tg, iter, ifs, 0⟩] scope p2) (some (.Name y py)) spos.line X.env = pure true) (ok : BlkOk X.N X.env.scope scope own) (hi : PI X tg iter (tI G it))
    (hg : ∀ (s : Shared) (H : Hp) (C : Addr) (cl : List (Str × Addr)) (fp : List Addr), PG (X.blk s H scope (compEnvC scope cl C X.env) fp) tg (tG G 9 tgm)) (ht : ∀ (s : Shared) (H : Hp) (C : Addr) (cl : List (Str × Addr)) (fp : List Addr), PTs (X.blk s H scope (compEnvC scope cl C X.env) fp) ifs (tCnd G c))
    (he : ∀ (s : Shared) (H : Hp) (C : Addr) (cl : List (Str × Addr)) (fp : List Addr), PE (X.blk s H scope (compEnvC scope cl C X.env) fp) elt (tE G m)) (hv : own.map (·.2) = vs := by rfl) (hio : (vs.all fun i => !G.ioS.contains i) = true := by rfl) (hsl : ((Tg.sl 9 tgm).all fun i => vs.contains i) = true := by rfl)
    (ni : G.ioS.contains i = false := by rfl) (hs : ∀ x, foldedSetIterable iter X.env x = pure x := by intro _; rfl) : PS X (.Assign [.Name y py] (.ListComp elt [⟨tg, iter, ifs, 0⟩] scope p2) spos) (tS G Wn (.set i k (.comp tgm it c m vs))) := by
  subst hv
  exact ps_mono (ps_setLc hc hN hy hyl hsw hi ok hg ht he hs) fun D σ H q => i_comp hio hsl (i_set ni q)
theorem s_unp {tg : Expr} {tgm : Tg} (he : PE X e (tE G m)) (hg : PG X tg (tG G 9 tgm)) (hs : swapsWithSole [tg] e pos.line X.env = pure false := by rfl) (hw : swappedStores [tg] e X.env = pure none := by rfl)
    (h1 : (assignEach [tg] X.env).map (·.2) = [assign tg X.env] := by rfl) : PS X (.Assign [tg] e pos) (tS G Wn (.unp tgm m)) :=
  ps_mono (ps_asg he hg hs hw h1) fun D σ H q => by
    obtain ⟨r, O, fl, hg, e, p⟩ := q
    simp only [ex, Option.bind_eq_bind, Option.bind_eq_some_iff, Prod.exists, Option.map_eq_some_iff] at e
    obtain ⟨t, r1, e1, d, e2, r2, e3, rfl⟩ := e
    refine ⟨_, r, O, t, r1, hg, e1, fun v H1 O1 f1 g1 nd R1 s1 _ => ?_⟩
    cases t with
    | node _ => simp [leaf?] at e2
    | leaf d' =>
      simp only [leaf?, Option.some.injEq] at e2
      subst e2
      cases R1 with
      | leaf ri => exact ⟨_, r1, O1, d', r2, g1, ri, e3, fun σ2 O2 g2 s2 _ => p σ2 H1 O2 g2 (s1.sub s2)⟩
/-- two values are stored, one behind the other, whatever the order -/
theorem Good.two {Z O f g : List Addr} {σ : St} {r : Env} {H : Hp} {v w : V} {t u : T} (h : Good G (f ++ g ++ Z) σ r H O) (rt : RT G.K H (f ++ g ++ Z ++ O) v t f) (ru : RT G.K H (f ++ g ++ Z ++ O) w u g) (nd : (f ++ g).Nodup) (z0 : ∀ b ∈ G.Z0, b ∈ Z) (fz : ∀ b ∈ f ++ g, b ∉ Z)
    (st : Stp G.IO (f ++ g ++ O) G.H0 H) (ni : G.ioS.contains i = false) (nj : G.ioS.contains j = false) :
    ∃ O', Good G Z ((σ.set i (some v)).set j (some w)) ((r.set i (some t)).set j (some u)) H O' ∧ ∀ b ∈ O', b ∈ O ∨ b ∈ f ++ g := by
  have nd' := List.nodup_append.mp nd
  have h1 : Good G (f ++ (g ++ Z)) σ r H O := h.less (fun b hb => by rw [List.append_assoc]; exact hb) fun b hb => by
    exact List.mem_append_right _ (List.mem_append_right _ (z0 b hb))
  obtain ⟨O1, g1, s1⟩ := h1.store (by rw [List.append_assoc f g Z] at rt; exact rt) nd'.1 (fun b hb => List.mem_append_right _ (z0 b hb)) (fun b hb q => (List.mem_append.mp q).elim (fun z => nd'.2.2 b hb b z rfl) (fz b (List.mem_append_left _ hb)))
    (st.sub fun b hb => (List.mem_append.mp hb).elim (fun z => List.mem_append_left _ (List.mem_append_left _ z)) fun z => List.mem_append_right _ z) ni
  have ru1 : RT G.K H (g ++ Z ++ O1) w u g := ru.less fun b hb => by
    simp only [List.mem_append] at hb ⊢
    rcases hb with (q | q) | q
    · exact .inl (.inl (.inr q))
    · exact .inl (.inr q)
    · rcases s1 b q with w | w
      · exact .inr w
      · exact .inl (.inl (.inl w))
  obtain ⟨O2, g2, s2⟩ := g1.store ru1 nd'.2.1 z0 (fun b hb q => fz b (List.mem_append_right _ hb) q) (st.sub fun b hb => by
    simp only [List.mem_append] at hb ⊢
    rcases hb with q | q
    · exact .inl (.inr q)
    · rcases s1 b q with w | w
      · exact .inr w
      · exact .inl (.inl w)) nj
  refine ⟨O2, g2, fun b hb => ?_⟩
  rcases s2 b hb with q | q
  · exact (s1 b q).imp id fun z => List.mem_append_left _ z
  · exact .inr (List.mem_append_right _ q)
theorem s_par {a b : Expr} {px py pt : Pos} {kt k2 pt2} (hc : X.calm = true) (hN : X.N.Nodup) (hi : X.N[i]? = some x) (hj : X.N[j]? = some y) (hij : i ≠ j)
    (hx : X.env.scope.names.lookup x = some .local) (hy : X.env.scope.names.lookup y = some .local) (ha : PA X [a, b] (tEs G ms))
    (hw : swappedStores [.Tuple [.Name x px, .Name y py] kt pt] (.Tuple [a, b] k2 pt2) X.env = pure (some [x, y]))
    (ni : G.ioS.contains i = false := by rfl) (nj : G.ioS.contains j = false := by rfl)
    (hs : swapsWithSole [.Tuple [.Name x px, .Name y py] kt pt] (.Tuple [a, b] k2 pt2) pos.line X.env = pure false := by rfl) :
    PS X (.Assign [.Tuple [.Name x px, .Name y py] kt pt] (.Tuple [a, b] k2 pt2) pos) (tS G Wn (.par [i, j] ms)) :=
  ps_mono (ps_par hc hN hi hj hij hx hy ha hw hs) fun D σ H q => by
    obtain ⟨r, O, fl, hg, e, p⟩ := q
    simp only [ex, Option.bind_eq_bind, Option.bind_eq_some_iff, Prod.exists] at e
    obtain ⟨ts, r1, e1, e2⟩ := e
    refine ⟨_, r, O, ts, r1, hg, e1, fun vs H1 O1 f1 g1 nd R1 s1 _ => ?_⟩
    split at e2
    · cases e2
    · rename_i hl
      rcases ts with _ | ⟨t, _ | ⟨u, _ | ⟨_, _⟩⟩⟩
      · simp at hl
      · simp at hl
      · cases R1 with
        | cons ht q =>
          rename_i f fr
          cases q with
          | cons hu q2 =>
            rename_i g gr
            cases q2
            simp only [Option.some.injEq] at e2
            subst e2
            rw [List.append_nil] at g1 nd s1 ht hu
            have out := frozen_out hg g1 s1
            obtain ⟨O2, g2, s2⟩ := Good.two g1 ht hu nd (fun b hb => hb) (fun b hb q => out b hb (List.mem_append_left _ q)) (hg.st.trans s1) ni nj
            exact ⟨_, _, rfl, p _ H1 O2 g2 (s1.sub fun b hb => (s2 b hb).elim (fun z => List.mem_append_right _ z) fun z => List.mem_append_left _ z)⟩
      · simp at hl
theorem s_aug (hN : X.N.Nodup) (hi : X.N[i]? = some x) (hx : Loc X.env.scope x) (he : PE X e (tE G m)) (ni : G.ioS.contains i = false := by rfl) (hf : X.fn x = true ∨ X.env.scope.names.lookup x = some .local := by first | exact .inl rfl | exact .inr rfl | assumption) :
    PS X (.AugAssign (.Name x pos') .Add e pos) (tS G Wn (.aug i .add m)) := ps_mono (ps_aug hN hi hx he ip_add hf) fun D σ H q => by
  obtain ⟨r, O, fl, hg, e, p⟩ := q
  simp only [ex, Option.bind_eq_bind, Option.bind_eq_some_iff, Prod.exists, Option.some.injEq] at e
  obtain ⟨t, e0, a, e1, u, r1, e2, b, e3, rfl⟩ := e
  obtain ⟨v, A, g, B, hσ, eO, rt⟩ := hg.re.get e0
  obtain ⟨rfl, _, _⟩ := rt.int? e1
  refine ⟨_, hσ, _, r, O, u, r1, hg, e2, fun w H1 O1 f1 g1 nd R1 s1 _ => ?_⟩
  obtain ⟨rfl, _, rfl⟩ := R1.int? e3
  refine ⟨a, b, rfl, rfl, ?_⟩
  obtain ⟨O2, g2, s2⟩ := Good.store0 (i := i) g1 (.int (a + b)) ni
  exact p _ H1 O2 g2 (s1.sub s2)
theorem s_aug_sub (hN : X.N.Nodup) (hi : X.N[i]? = some x) (hx : Loc X.env.scope x) (he : PE X e (tE G m)) (ni : G.ioS.contains i = false := by rfl) (hf : X.fn x = true ∨ X.env.scope.names.lookup x = some .local := by first | exact .inl rfl | exact .inr rfl | assumption) :
    PS X (.AugAssign (.Name x pos') .Sub e pos) (tS G Wn (.aug i .sub m)) := ps_mono (ps_aug hN hi hx he ip_sub hf) fun D σ H q => by
  obtain ⟨r, O, fl, hg, e, p⟩ := q
  simp only [ex, Option.bind_eq_bind, Option.bind_eq_some_iff, Prod.exists, Option.some.injEq] at e
  obtain ⟨t, e0, a, e1, u, r1, e2, b, e3, rfl⟩ := e
  obtain ⟨v, A, g, B, hσ, eO, rt⟩ := hg.re.get e0
  obtain ⟨rfl, _, _⟩ := rt.int? e1
  refine ⟨_, hσ, _, r, O, u, r1, hg, e2, fun w H1 O1 f1 g1 nd R1 s1 _ => ?_⟩
  obtain ⟨rfl, _, rfl⟩ := R1.int? e3
  refine ⟨a, b, rfl, rfl, ?_⟩
  obtain ⟨O2, g2, s2⟩ := Good.store0 (i := i) g1 (.int (a - b)) ni
  exact p _ H1 O2 g2 (s1.sub s2)

/-! ### a list of a slot's is changed in place -/
theorem node?_inv {t : T} {ts : List T} (e : node? t = some ts) : t = .node ts := by
  cases t with
  | leaf _ => simp [node?] at e
  | node us => simp only [node?, Option.some.injEq] at e; rw [e]
/-- the list at a slot's own lists is changed: the slot has another tree -/
theorem Good.chg {Z O f' : List Addr} {σ : St} {r : Env} {H : Hp} {v : V} {t t' : T} {p : Addr} {xs : List V} {o' : HO} (h : Good G (f' ++ Z) σ r H O) (e : r.getD i none = some t) (hσ : σ[i]? = some (some v)) (z0 : ∀ b ∈ G.Z0, b ∈ Z)
    (rt : ∀ f O', (∀ b ∈ f ++ O', b ∈ O) → (f ++ O').Nodup → RT G.K H (f' ++ Z ++ (f ++ O')) v t f → p ∈ f ∧ ∃ g, RT G.K (upd H p o') (f' ++ Z ++ (f ++ O')) v t' g ∧ g.Nodup ∧ ∀ b ∈ g, b ∈ f ++ f') (hp : H p = some (.lst xs)) (ho : ∃ ys, o' = .lst ys)
    (fz : ∀ b ∈ f', b ∉ Z) (st : Stp G.IO (f' ++ O) G.H0 H) : ∃ O', Good G Z σ (r.set i (some t')) (upd H p o') O' ∧ ∀ b ∈ O', b ∈ O ∨ b ∈ f' := by
  obtain ⟨A, g0, B, eO, _, hv, hc, _⟩ := h.re.clear i
  obtain ⟨v', hσ', rt0⟩ := hv t e
  rw [hσ] at hσ'
  cases hσ'
  have nd0 := h.nd
  rw [eO] at nd0
  have perm : (A ++ g0 ++ B).Perm (g0 ++ (A ++ B)) := by
    rw [List.append_assoc]
    exact List.perm_append_comm_assoc A g0 B
  have ndO : (g0 ++ (A ++ B)).Nodup := perm.nodup_iff.mp nd0
  have mem : ∀ b, b ∈ O ↔ b ∈ g0 ++ (A ++ B) := fun b => by rw [eO]; exact perm.mem_iff
  obtain ⟨pf, g1, R1, nd1, s1⟩ := rt g0 (A ++ B) (fun b hb => (mem b).mpr hb) ndO (rt0.less fun b hb => by
    rcases List.mem_append.mp hb with q | q
    · exact List.mem_append_left _ q
    · exact List.mem_append_right _ ((mem b).mpr q))
  have ndg := List.nodup_append.mp ndO
  have pO : p ∈ O := (mem p).mpr (List.mem_append_left _ pf)
  have ne : ∀ b o, H b = some o → (b ∈ A ++ B ∨ b ∉ f' ++ Z ++ O ∨ NoLst o) → b ≠ p := fun b o q w => by
    rintro rfl
    rcases w with w | w | w
    · exact ndg.2.2 b pf b w rfl
    · exact w (List.mem_append_right _ pO)
    · rw [hp] at q; cases q; exact w xs rfl
  have c1 : RE G.K (upd H p o') (f' ++ Z ++ O) σ (r.set i none) (A ++ B) := hc.kp (F := A ++ B) (fun b o q w => by rw [upd_ne (ne b o q w)]; exact q) (fun b hb => .inl hb) fun _ hb => hb
  have R1' : RT G.K (upd H p o') (f' ++ Z ++ O) v t' g1 := R1.less fun b hb => by
    rcases List.mem_append.mp hb with q | q
    · exact List.mem_append_left _ q
    · exact List.mem_append_right _ ((mem b).mp q)
  obtain ⟨O', re', pm⟩ := c1.fill (getD_set_none r i) hσ R1'
  rw [List.set_set] at re'
  have memO' : ∀ b, b ∈ O' ↔ b ∈ g1 ∨ b ∈ A ++ B := fun b => by
    have := pm.mem_iff (a := b)
    rw [this, List.mem_append]
  have sub : ∀ b ∈ O', b ∈ O ∨ b ∈ f' := fun b hb => by
    rcases (memO' b).mp hb with q | q
    · rcases List.mem_append.mp (s1 b q) with w | w
      · exact .inl ((mem b).mpr (List.mem_append_left _ w))
      · exact .inr w
    · exact .inl ((mem b).mpr (List.mem_append_right _ q))
  have fO : ∀ b ∈ f', b ∉ O := fun b hb q => h.dj b q (List.mem_append_left _ hb)
  refine ⟨O', ⟨re'.less fun b hb => ?_, ?_, fun b hb q => ?_, fun b hb => ?_, z0, ?_, h.iv⟩, sub⟩
  · rcases List.mem_append.mp hb with q | q
    · exact List.mem_append_left _ (List.mem_append_right _ q)
    · rcases sub b q with w | w
      · exact List.mem_append_right _ w
      · exact List.mem_append_left _ (List.mem_append_left _ w)
  · refine pm.nodup_iff.mpr (nodup_two nd1 ndg.2.1 fun b hb q => ?_)
    rcases List.mem_append.mp (s1 b hb) with w | w
    · exact ndg.2.2 b w b q rfl
    · exact fO b w ((mem b).mpr (List.mem_append_right _ q))
  · rcases sub b hb with w | w
    · exact h.dj b w (List.mem_append_right _ q)
    · exact fz b w q
  · by_cases w : b = p
    · subst w; rw [upd_same]; exact fun z => nomatch z
    · rw [upd_ne w]; exact h.zd b (List.mem_append_right _ hb)
  · refine ⟨fun b o q w => ?_, fun b q => ?_, fun b hb => ?_⟩
    · have z := st.kp b o q w
      have nb : b ≠ p := by
        rintro rfl
        rcases st.new b (List.mem_append_right _ pO) with k | k
        · rcases w with w | w
          · exact w k
          · rw [hp] at z; cases z; exact w xs rfl
        · rw [k] at q; cases q
      rw [upd_ne nb]; exact z
    · by_cases w : b = p
      · subst w; rw [upd_same]; exact fun z => nomatch z
      · rw [upd_ne w]; exact st.dom b q
    · rcases sub b hb with w | w
      · exact st.new b (List.mem_append_right _ w)
      · exact st.new b (List.mem_append_left _ w)
theorem Stp.upd {M P : List Addr} {H H' : Hp} (s : Stp M P H H') {p : Addr} {xs : List V} {o : HO} (hp : p ∈ P) (h : H' p = some (.lst xs)) : Stp M P H (upd H' p o) :=
  ⟨fun b u q w => by
    have z := s.kp b u q w
    have nb : b ≠ p := by
      rintro rfl
      rcases s.new b hp with k | k
      · rcases w with w | w
        · exact w k
        · rw [h] at z; cases z; exact w xs rfl
      · rw [k] at q; cases q
    rw [upd_ne nb]; exact z, fun b q => by
    by_cases w : b = p
    · subst w; rw [upd_same]; exact fun z => nomatch z
    · rw [upd_ne w]; exact s.dom b q, s.new⟩

/-- x.append(e), x a slot's own list -/
theorem s_app (hv : PE X (.Name x pos') (tVar i)) {apos cpos : Pos} (he : PE X e (tE G m)) (hK : G.K = X.K := by rfl) (ni : True := trivial)
    (hbase : attributeBase (.Name x pos') "append" X.env (eval (.Name x pos') X.env) = eval (.Name x pos') X.env := by rfl)
    (hfew : ((backTo cpos (starEach [e] X.env)).all (fun x => !x.1) && (backToKw cpos (keywordEach [] X.env)).all (fun x => x.1.isSome)
      && decide ([e].length + ([] : List Keyword).length + (if ([] : List Keyword).isEmpty then 0 else 1) < 30)) = true := by rfl)
    (hline : (apos.endLine == cpos.line) = true := by rfl) (hse : starEach [e] X.env = [(false, eval e X.env)] := by rfl) (hs : swapsWith (.Call (.Attribute (.Name x pos') "append" apos) [e] [] cpos) none pos.line X.env = pure false := by rfl) :
    PS X (.Expr (.Call (.Attribute (.Name x pos') "append" apos) [e] [] cpos) pos) (tS G Wn (.app i m)) :=
  ps_mono (ps_expr (pe_bm PySem.F.plainAttrs_list PySem.F.slot_list_append PySem.F.type_list_append mt_append hv (pa_cons he pa_nil (by rw [hse]; rfl)) hbase hfew hline (by rw [hse]; rfl) rfl) hs) fun D σ H q => by
    obtain ⟨r, O, fl, hg, e, p⟩ := q
    simp only [ex, Option.bind_eq_bind, Option.bind_eq_some_iff, Prod.exists] at e
    obtain ⟨ts0, ⟨t0, e0, e1⟩, y, r1, e2, ts, ⟨t1, e3, e4⟩, e5⟩ := e
    have k0 := node?_inv e1
    subst k0
    have k1 := node?_inv e4
    subst k1
    split at e5
    · rename_i hl
      simp only [Option.some.injEq] at e5
      subst e5
      obtain ⟨v, A, g, B, hσ, eO, rt⟩ := hg.re.get e0
      cases rt with
      | @node a1 _ _ _ h0 q0 =>
        refine ⟨_, hσ, .inl ⟨rfl, _, SqL.of h0⟩, _, r, O, y, r1, hg, e2, fun w H1 O1 f1 g1 nd R1 s1 _ => ?_⟩
        obtain ⟨v1, A1, gg, B1, hσ1, eO1, rt1⟩ := g1.re.get e3
        rw [hσ] at hσ1
        cases hσ1
        have out := frozen_out hg g1 s1
        cases rt1 with
        | @node _ vs1 _ f0 h1 q1 =>
          refine ⟨_, _, w, rfl, rfl, h1, by rw [q1.len, ← lim_eq]; exact hl, ?_⟩
          have pO : a1 ∈ f1 ++ O1 := by
            rw [eO1]
            exact List.mem_append_right _ (List.mem_append_left _ (List.mem_append_right _ List.mem_cons_self))
          have key : ∀ f O', (∀ b ∈ f ++ O', b ∈ O1) → (f ++ O').Nodup → RT G.K H1 (f1 ++ G.Z0 ++ (f ++ O')) (.ref a1) (.node ts) f → a1 ∈ f ∧ ∃ g, RT G.K (upd H1 a1 (.lst (vs1 ++ [w]))) (f1 ++ G.Z0 ++ (f ++ O')) (.ref a1) (.node (ts ++ [y])) g ∧ g.Nodup ∧ ∀ b ∈ g, b ∈ f ++ f1 := by
            intro f O' hm ndf rt
            cases rt with
            | @node _ vs2 _ f2 h2 q2 =>
              rw [h1] at h2
              cases h2
              have ndf' := List.nodup_append.mp ndf
              have nda := List.nodup_cons.mp ndf'.1
              have f1O : ∀ b ∈ f1, b ∉ O1 := fun b hb q => g1.dj b q (List.mem_append_left _ hb)
              have aO : a1 ∈ O1 := hm a1 (List.mem_append_left _ List.mem_cons_self)
              have R2 : RT G.K H1 (f1 ++ G.Z0 ++ (a1 :: f2 ++ O')) w y f1 := R1.less fun b hb => by
                rcases List.mem_append.mp hb with q | q
                · exact List.mem_append_left _ q
                · exact List.mem_append_right _ (hm b q)
              have rt3 := RTs.append q2 (.cons R2 .nil)
              rw [List.append_nil] at rt3
              refine ⟨List.mem_cons_self, a1 :: (f2 ++ f1), .node upd_same (rt3.kp (F := f2 ++ f1) (fun b o q z => ?_) (fun b hb => .inl hb) fun _ hb => hb), ?_, fun b hb => ?_⟩
              · have ne : b ≠ a1 := by
                  rintro rfl
                  rcases z with z | z | z
                  · rcases List.mem_append.mp z with z | z
                    · exact nda.1 z
                    · exact f1O _ z aO
                  · exact z (List.mem_append_right _ (List.mem_append_left _ List.mem_cons_self))
                  · rw [h1] at q; cases q; exact z vs1 rfl
                rw [upd_ne ne]; exact q
              · refine List.nodup_cons.mpr ⟨fun z => ?_, nodup_two nda.2 nd fun b hb z => f1O b z (hm b (List.mem_append_left _ (List.mem_cons_of_mem _ hb)))⟩
                rcases List.mem_append.mp z with z | z
                · exact nda.1 z
                · exact f1O _ z aO
              · exact hb
          obtain ⟨O2, g2, s2⟩ := Good.chg (t' := .node (ts ++ [y])) g1 e3 hσ (fun b hb => hb) key h1 ⟨_, rfl⟩ (fun b hb q => out b hb (List.mem_append_left _ q)) (hg.st.trans s1)
          exact p _ _ O2 g2 ((Stp.upd s1 pO h1).sub fun b hb => (s2 b hb).elim (fun z => List.mem_append_right _ z) fun z => List.mem_append_left _ z)
    · cases e5
/-- x.extend(e), x a slot's own list, e a fresh one -/
theorem s_ext (hv : PE X (.Name x pos') (tVar i)) {apos cpos : Pos} (he : PE X e (tE G m))
    (hbase : attributeBase (.Name x pos') "extend" X.env (eval (.Name x pos') X.env) = eval (.Name x pos') X.env := by rfl)
    (hfew : ((backTo cpos (starEach [e] X.env)).all (fun x => !x.1) && (backToKw cpos (keywordEach [] X.env)).all (fun x => x.1.isSome)
      && decide ([e].length + ([] : List Keyword).length + (if ([] : List Keyword).isEmpty then 0 else 1) < 30)) = true := by rfl)
    (hline : (apos.endLine == cpos.line) = true := by rfl) (hse : starEach [e] X.env = [(false, eval e X.env)] := by rfl) (hs : swapsWith (.Call (.Attribute (.Name x pos') "extend" apos) [e] [] cpos) none pos.line X.env = pure false := by rfl) :
    PS X (.Expr (.Call (.Attribute (.Name x pos') "extend" apos) [e] [] cpos) pos) (tS G Wn (.ext i m)) :=
  ps_mono (ps_expr (pe_bm PySem.F.plainAttrs_list PySem.F.slot_list_extend PySem.F.type_list_extend mt_extend hv (pa_cons he pa_nil (by rw [hse]; rfl)) hbase hfew hline (by rw [hse]; rfl) rfl) hs) fun D σ H q => by
    obtain ⟨r, O, fl, hg, e, p⟩ := q
    simp only [ex, Option.bind_eq_bind, Option.bind_eq_some_iff, Prod.exists] at e
    obtain ⟨ts0, ⟨t0, e0, e1⟩, y, r1, e2, ts, ⟨t1, e3, e4⟩, us, e6, e5⟩ := e
    have k0 := node?_inv e1
    subst k0
    have k1 := node?_inv e4
    subst k1
    have k2 := node?_inv e6
    subst k2
    split at e5
    · rename_i hl
      simp only [Option.some.injEq] at e5
      subst e5
      obtain ⟨v, A, g, B, hσ, eO, rt⟩ := hg.re.get e0
      cases rt with
      | @node a1 _ _ _ h0 q0 =>
        refine ⟨_, hσ, .inl ⟨rfl, _, SqL.of h0⟩, _, r, O, _, r1, hg, e2, fun w H1 O1 f1 g1 nd R1 s1 _ => ?_⟩
        obtain ⟨v1, A1, gg, B1, hσ1, eO1, rt1⟩ := g1.re.get e3
        rw [hσ] at hσ1
        cases hσ1
        have out := frozen_out hg g1 s1
        cases rt1 with
        | @node _ vs1 _ f0 h1 q1 =>
          cases R1 with
          | @node a2 ws _ f2 h2 q2 =>
            refine ⟨a1, a2, vs1, ws, rfl, rfl, h1, h2, by rw [q1.len, q2.len, ← lim_eq]; exact hl, ?_⟩
            have pO : a1 ∈ a2 :: f2 ++ O1 := by
              rw [eO1]
              exact List.mem_append_right _ (List.mem_append_left _ (List.mem_append_right _ List.mem_cons_self))
            have nd2 := List.nodup_cons.mp nd
            have f1O : ∀ b ∈ a2 :: f2, b ∉ O1 := fun b hb q => g1.dj b q (List.mem_append_left _ hb)
            have g1' : Good G (f2 ++ G.Z0) σ r1 H1 O1 := g1.less (fun b hb => (List.mem_append.mp hb).elim (fun z => List.mem_append_left _ (List.mem_cons_of_mem _ z)) fun z => List.mem_append_right _ z) fun b hb => List.mem_append_right _ hb
            have key : ∀ f O', (∀ b ∈ f ++ O', b ∈ O1) → (f ++ O').Nodup → RT G.K H1 (f2 ++ G.Z0 ++ (f ++ O')) (.ref a1) (.node ts) f → a1 ∈ f ∧ ∃ g, RT G.K (upd H1 a1 (.lst (vs1 ++ ws))) (f2 ++ G.Z0 ++ (f ++ O')) (.ref a1) (.node (ts ++ us)) g ∧ g.Nodup ∧ ∀ b ∈ g, b ∈ f ++ f2 := by
              intro f O' hm ndf rt
              cases rt with
              | @node _ vs2 _ f3 h3 q3 =>
                rw [h1] at h3
                cases h3
                have ndf' := List.nodup_append.mp ndf
                have nda := List.nodup_cons.mp ndf'.1
                have aO : a1 ∈ O1 := hm a1 (List.mem_append_left _ List.mem_cons_self)
                have R2 : RTs G.K H1 (f2 ++ G.Z0 ++ (a1 :: f3 ++ O')) ws us f2 := q2.less fun b hb => by
                  rcases List.mem_append.mp hb with q | q
                  · rcases List.mem_append.mp q with q | q
                    · exact List.mem_append_left _ (List.mem_append_left _ (List.mem_cons_of_mem _ q))
                    · exact List.mem_append_left _ (List.mem_append_right _ q)
                  · exact List.mem_append_right _ (hm b q)
                have rt3 := RTs.append q3 R2
                refine ⟨List.mem_cons_self, a1 :: (f3 ++ f2), .node upd_same (rt3.kp (F := f3 ++ f2) (fun b o q z => ?_) (fun b hb => .inl hb) fun _ hb => hb), ?_, fun b hb => hb⟩
                · have ne : b ≠ a1 := by
                    rintro rfl
                    rcases z with z | z | z
                    · rcases List.mem_append.mp z with z | z
                      · exact nda.1 z
                      · exact f1O _ (List.mem_cons_of_mem _ z) aO
                    · exact z (List.mem_append_right _ (List.mem_append_left _ List.mem_cons_self))
                    · rw [h1] at q; cases q; exact z vs1 rfl
                  rw [upd_ne ne]; exact q
                · refine List.nodup_cons.mpr ⟨fun z => ?_, nodup_two nda.2 nd2.2 fun b hb z => f1O b (List.mem_cons_of_mem _ z) (hm b (List.mem_append_left _ (List.mem_cons_of_mem _ hb)))⟩
                  rcases List.mem_append.mp z with z | z
                  · exact nda.1 z
                  · exact f1O _ (List.mem_cons_of_mem _ z) aO
            obtain ⟨O2, g2, s2⟩ := Good.chg (t' := .node (ts ++ us)) g1' e3 hσ (fun b hb => hb) key h1 ⟨_, rfl⟩ (fun b hb q => out b (List.mem_cons_of_mem _ hb) (List.mem_append_left _ q)) ((hg.st.trans s1).sub fun b hb => (List.mem_append.mp hb).elim (fun z => List.mem_append_left _ (List.mem_cons_of_mem _ z)) fun z => List.mem_append_right _ z)
            exact p _ _ O2 g2 ((Stp.upd s1 pO h1).sub fun b hb => (s2 b hb).elim (fun z => List.mem_append_right _ z) fun z => List.mem_append_left _ (List.mem_cons_of_mem _ z))
    · cases e5

/-! ### a place of a list is stored to -/
theorem RTs.setLeaf {K : PySem.W.Frag} {H : Hp} {W : List Addr} {w : V} {d : D} (hw : RI K H W w d) : ∀ {vs : List V} {ts : List T} {f : List Addr} (j : Nat), RTs K H W vs ts f → ∃ g, RTs K H W (vs.set j w) (ts.set j (.leaf d)) g ∧ g.Sublist f
  | _, _, _, _, .nil => ⟨[], .nil, List.Sublist.refl _⟩
  | _, _, _, 0, .cons (g := g) h q => ⟨[] ++ g, .cons (.leaf hw) q, List.sublist_append_right _ _⟩
  | _, _, _, j + 1, .cons (f := f) h q => by
    obtain ⟨g, h1, h2⟩ := RTs.setLeaf hw j q
    exact ⟨f ++ g, .cons h h1, List.Sublist.append_left h2 f⟩
/-- the list at p of a tree is given a plain item -/
theorem RT.put0 {K : PySem.W.Frag} {H : Hp} {W f : List Addr} {a : Addr} {vs : List V} {ts : List T} {w : V} {d : D} {j : Nat} (rt : RT K H W (.ref a) (.node ts) f) (h : H a = some (.lst vs)) (hw : RI K H W w d) (nd : f.Nodup) (hW : a ∈ W) :
    a ∈ f ∧ ∃ g, RT K (upd H a (.lst (vs.set j w))) W (.ref a) (.node (ts.set j (.leaf d))) g ∧ g.Nodup ∧ ∀ b ∈ g, b ∈ f := by
  cases rt with
  | @node _ vs' _ f' h' q =>
    rw [h] at h'
    cases h'
    obtain ⟨g, h1, h2⟩ := RTs.setLeaf hw j q
    have nd' := List.nodup_cons.mp nd
    refine ⟨List.mem_cons_self, a :: g, .node upd_same (h1.kp (F := g) (fun b o e z => ?_) (fun b hb => .inl hb) fun _ hb => hb), List.nodup_cons.mpr ⟨fun z => nd'.1 (h2.subset z), nd'.2.sublist h2⟩, fun b hb => ?_⟩
    · have ne : b ≠ a := by
        rintro rfl
        rcases z with z | z | z
        · exact nd'.1 (h2.subset z)
        · exact z hW
        · rw [h] at e; cases e; exact z vs rfl
      rw [upd_ne ne]; exact e
    · rcases List.mem_cons.mp hb with z | z
      · rw [z]; exact List.mem_cons_self
      · exact List.mem_cons_of_mem _ (h2.subset z)
/-- what changes nothing leaves the slots -/
theorem two_same {α β : Type} {x : Option (α × Env)} {f : α → Env → Option (β × Env)} {r r' : Env} {b : β} (h : (do let (y, r1) ← x; f y r1) = some (b, r')) (h1 : ∀ y r1, x = some (y, r1) → r1 = r) (h2 : ∀ y r1, r1 = r → f y r1 = some (b, r') → r' = r) : r' = r := by
  simp only [Option.bind_eq_bind, Option.bind_eq_some_iff, Prod.exists] at h
  obtain ⟨y, r1, e1, e2⟩ := h
  exact h2 y r1 (h1 y r1 e1) e2
mutual
theorem ev_same (C : Callees) : ∀ (m : ME), m.mut = false → ∀ (k : Bool) (r : Env) (t : T) (r' : Env), ev C k m r = some (t, r') → r' = r
  | .var i, _, k, r, t, r', e => by
    simp only [ev] at e
    split at e
    · split at e
      · simp only [Option.some.injEq, Prod.mk.injEq] at e; exact e.2.symm
      · cases e
    · cases e
  | .frz i, h, _, _, _, _, _ => by simp [ME.mut] at h
  | .mv i, h, _, _, _, _, _ => by simp [ME.mut] at h
  | .call _ _, h, _, _, _, _, _ => by simp [ME.mut] at h
  | .comp _ _ _ _ _, h, _, _, _, _, _ => by simp [ME.mut] at h
  | .pop0 _, h, _, _, _, _, _ => by simp [ME.mut] at h
  | .cst d, _, k, r, t, r', e => by simp only [ev, Option.some.injEq, Prod.mk.injEq] at e; exact e.2.symm
  | .bin op a b, h, k, r, t, r', e => by
    simp only [ME.mut, Bool.or_eq_false_iff] at h
    obtain ⟨x, r1, y, e1, e2, _, _⟩ := ev_bin e
    rw [ev_same C b h.2 _ _ _ _ e2, ev_same C a h.1 _ _ _ _ e1]
  | .cmp op a b, h, k, r, t, r', e => by
    simp only [ME.mut, Bool.or_eq_false_iff] at h
    obtain ⟨x, r1, y, c, e1, e2, _, _⟩ := ev_cmp e
    rw [ev_same C b h.2 _ _ _ _ e2, ev_same C a h.1 _ _ _ _ e1]
  | .chn p q a b c, h, k, r, t, r', e => by
    simp only [ME.mut, Bool.or_eq_false_iff] at h
    simp only [ev, Option.bind_eq_bind, Option.bind_eq_some_iff, Prod.exists] at e
    obtain ⟨x, r1, e1, y, r2, e2, k, e3, e4⟩ := e
    have a1 := ev_same C a h.1.1 _ _ _ _ e1
    have a2 := ev_same C b h.1.2 _ _ _ _ e2
    split at e4
    · simp only [Option.bind_eq_some_iff, Prod.exists, Option.map_eq_some_iff, Prod.mk.injEq] at e4
      obtain ⟨z, r3, e5, k2, e6, _, rfl⟩ := e4
      rw [ev_same C c h.2 _ _ _ _ e5, a2, a1]
    · simp only [Option.some.injEq, Prod.mk.injEq] at e4
      rw [← e4.2, a2, a1]
  | .and a b, h, k, r, t, r', e => by
    simp only [ME.mut, Bool.or_eq_false_iff] at h
    simp only [ev, Option.bind_eq_bind, Option.bind_eq_some_iff, Prod.exists] at e
    obtain ⟨x, r1, e1, k, e2, e3⟩ := e
    have a1 := ev_same C a h.1 _ _ _ _ e1
    split at e3
    · simp only [Option.bind_eq_some_iff, Prod.exists, Option.map_eq_some_iff, Prod.mk.injEq] at e3
      obtain ⟨y, r2, e4, k2, e5, _, rfl⟩ := e3
      rw [ev_same C b h.2 _ _ _ _ e4, a1]
    · simp only [Option.some.injEq, Prod.mk.injEq] at e3
      rw [← e3.2, a1]
  | .or a b, h, k, r, t, r', e => by
    simp only [ME.mut, Bool.or_eq_false_iff] at h
    simp only [ev, Option.bind_eq_bind, Option.bind_eq_some_iff, Prod.exists] at e
    obtain ⟨x, r1, e1, k, e2, e3⟩ := e
    have a1 := ev_same C a h.1 _ _ _ _ e1
    split at e3
    · simp only [Option.some.injEq, Prod.mk.injEq] at e3
      rw [← e3.2, a1]
    · simp only [Option.bind_eq_some_iff, Prod.exists, Option.map_eq_some_iff, Prod.mk.injEq] at e3
      obtain ⟨y, r2, e4, k2, e5, _, rfl⟩ := e3
      rw [ev_same C b h.2 _ _ _ _ e4, a1]
  | .not a, h, k, r, t, r', e => by
    simp only [ev, Option.bind_eq_bind, Option.bind_eq_some_iff, Prod.exists, Option.map_eq_some_iff, Prod.mk.injEq] at e
    obtain ⟨x, r1, e1, k, e2, _, rfl⟩ := e
    exact ev_same C a h _ _ _ _ e1
  | .ife c a b, h, k, r, t, r', e => by
    simp only [ME.mut, Bool.or_eq_false_iff] at h
    simp only [ev, Option.bind_eq_bind, Option.bind_eq_some_iff, Prod.exists] at e
    obtain ⟨x, r1, e1, k, e2, e3⟩ := e
    have a1 := ev_same C c h.1.1 _ _ _ _ e1
    split at e3
    · rw [ev_same C a h.1.2 _ _ _ _ e3, a1]
    · rw [ev_same C b h.2 _ _ _ _ e3, a1]
  | .idx a i, h, k, r, t, r', e => by
    simp only [ME.mut, Bool.or_eq_false_iff] at h
    obtain ⟨x, r1, j, e1, e2, _⟩ := ev_idx e
    rw [ev_same C i h.2 _ _ _ _ e2, ev_same C a h.1 _ _ _ _ e1]
  | .slc a lo hi, h, k, r, t, r', e => by
    simp only [ME.mut, Bool.or_eq_false_iff] at h
    simp only [ev, Option.bind_eq_bind, Option.bind_eq_some_iff, Prod.exists] at e
    obtain ⟨x, r1, e1, e2⟩ := e
    split at e2
    · cases e2
    · simp only [Option.bind_eq_some_iff, Prod.exists, Option.map_eq_some_iff, Prod.mk.injEq] at e2
      obtain ⟨l, r2, e3, u, r3, e4, z, e5, _, rfl⟩ := e2
      rw [evo_same C hi h.2 _ _ _ e4, evo_same C lo h.1.2 _ _ _ e3, ev_same C a h.1.1 _ _ _ _ e1]
  | .tup es, h, k, r, t, r', e => by
    simp only [ev, Option.bind_eq_bind, Option.bind_eq_some_iff, Prod.exists] at e
    obtain ⟨xs, r1, e1, e2⟩ := e
    split at e2
    · simp only [Option.some.injEq, Prod.mk.injEq] at e2
      rw [← e2.2]; exact evs_same C es h _ _ _ _ e1
    · cases e2
  | .lst es, h, k, r, t, r', e => by
    simp only [ev, Option.bind_eq_bind, Option.bind_eq_some_iff, Prod.exists] at e
    obtain ⟨xs, r1, e1, e2⟩ := e
    split at e2
    · simp only [Option.some.injEq, Prod.mk.injEq] at e2
      rw [← e2.2]; exact evs_same C es h _ _ _ _ e1
    · cases e2
  | .bi f es, h, k, r, t, r', e => by
    simp only [ev, Option.bind_eq_bind, Option.bind_eq_some_iff, Prod.exists, Option.map_eq_some_iff, Prod.mk.injEq] at e
    obtain ⟨xs, r1, e1, z, e2, _, rfl⟩ := e
    exact evs_same C es h _ _ _ _ e1
theorem evs_same (C : Callees) : ∀ (ms : MEs), ms.mut = false → ∀ (k : Bool) (r : Env) (ts : List T) (r' : Env), evs C k ms r = some (ts, r') → r' = r
  | .nil, _, _, _, _, _, e => by simp only [evs, Option.some.injEq, Prod.mk.injEq] at e; exact e.2.symm
  | .cons m ms, h, k, r, ts, r', e => by
    simp only [MEs.mut, Bool.or_eq_false_iff] at h
    simp only [evs, Option.bind_eq_bind, Option.bind_eq_some_iff, Prod.exists] at e
    obtain ⟨x, r1, e1, xs, r2, e2, e3⟩ := e
    split at e3
    · cases e3
    · simp only [Option.some.injEq, Prod.mk.injEq] at e3
      rw [← e3.2, evs_same C ms h.2 _ _ _ _ e2, ev_same C m h.1 _ _ _ _ e1]
theorem evo_same (C : Callees) : ∀ (m : MO), m.mut = false → ∀ (r : Env) (o : Option Int) (r' : Env), evo C m r = some (o, r') → r' = r
  | .none, _, _, _, _, e => by simp only [evo, Option.some.injEq, Prod.mk.injEq] at e; exact e.2.symm
  | .some m, h, r, o, r', e => by
    simp only [evo, Option.bind_eq_bind, Option.bind_eq_some_iff, Prod.exists, Option.map_eq_some_iff, Prod.mk.injEq] at e
    obtain ⟨x, r1, e1, k, e2, _, rfl⟩ := e
    exact ev_same C m h _ _ _ _ e1
end

theorem put_inv {C : Callees} {path : MEs} {ix m : ME} {r : Env} {fl : Fl} (e : ex C Wn (.put i path ix m) r = some fl) : ∃ d r1 ts0 ps pi k t', path.mut = false ∧ ix.mut = false ∧ ev C false m r = some (.leaf d, r1) ∧ r1.getD i none = some (.node ts0) ∧ evs C false path r1 = some (ps, r1) ∧ ints? ps = some pi ∧ ev C false ix r1 = some (.leaf (.int k), r1) ∧
    T.putAt (.node ts0) pi k (.leaf d) = some t' ∧ fl = .nx (r1.set i (some t')) := by
  simp only [ex] at e
  split at e
  · cases e
  · rename_i hm
    simp only [Option.bind_eq_bind, Option.bind_eq_some_iff, Prod.exists] at e
    obtain ⟨y, r1, e1, e2⟩ := e
    have hm' : path.mut = false ∧ ix.mut = false := by simpa using hm
    split at e2
    · cases e2
    · rename_i hy
      simp only [Option.bind_eq_some_iff, Prod.exists] at e2
      obtain ⟨ts0, ⟨t0, e3, e4⟩, ps, r2, e5, z, r3, e6, pi, e7, k, e8, e9⟩ := e2
      have k0 := node?_inv e4
      subst k0
      have q2 := evs_same C path hm'.1 _ _ _ _ e5
      subst q2
      have q3 := ev_same C ix hm'.2 _ _ _ _ e6
      subst q3
      rw [e3] at e9
      simp only [Option.bind_eq_some_iff, Option.some.injEq] at e9
      obtain ⟨t', e10, rfl⟩ := e9
      cases y with
      | node _ => simp [T.isLeaf] at hy
      | leaf d =>
        have ez : z = .leaf (.int k) := by
          cases z with
          | leaf d => cases d <;> simp_all [int?]
          | node _ => simp [int?] at e8
        subst ez
        exact ⟨d, _, ts0, ps, pi, k, t', hm'.1, hm'.2, e1, e3, e5, e7, e6, e10, rfl⟩

/-- x[k] = e -/
theorem s_put0 {a b : Expr} {mk : ME} (ha : PE X a (tVar i)) (hb : PE X b (tE G mk)) (he : PE X e (tE G m))
    (hset : ∀ v, assign (.Subscript a b pos') X.env v = (do
      let ov ← holding [v] (eval a X.env)
      let iv ← holding [v, ov] (eval b X.env)
      standAt pos'
      holding [v, ov, iv] (setItem ov iv v)
      release [v, ov, iv] []) := by intro _; rfl)
    (hs : swapsWithSole [.Subscript a b pos'] e pos.line X.env = pure false := by rfl) (hw : swappedStores [.Subscript a b pos'] e X.env = pure none := by rfl)
    (h1 : (assignEach [.Subscript a b pos'] X.env).map (·.2) = [assign (.Subscript a b pos') X.env] := by rfl) :
    PS X (.Assign [.Subscript a b pos'] e pos) (tS G Wn (.put i .nil mk m)) :=
  ps_mono (ps_asg he (pg_sub ha hb set_list hset) hs hw h1) fun D σ H q => by
    obtain ⟨r, O, fl, hg, e, p⟩ := q
    obtain ⟨d, r1, ts0, ps, pi, k, t', _, hk, e1, e2, e3, e4, e5, e6, rfl⟩ := put_inv e
    simp only [evs, Option.some.injEq, Prod.mk.injEq] at e3
    obtain ⟨rfl, _⟩ := e3
    simp only [ints?, Option.some.injEq] at e4
    subst e4
    simp only [T.putAt, Option.map_eq_some_iff] at e6
    obtain ⟨j, e7, rfl⟩ := e6
    refine ⟨_, r, O, _, r1, hg, e1, fun w H1 O1 f1 g1 nd R1 s1 _ => ?_⟩
    cases R1 with
    | leaf rw1 =>
      obtain ⟨v0, A0, g0, B0, hσ, _, _⟩ := g1.re.get e2
      refine ⟨v0, hσ, _, r1, O1, _, r1, g1, e5, fun v2 H2 O2 f2 g2 nd2 R2 s2 m2 => ?_⟩
      obtain ⟨rfl, _, rfl⟩ := R2.int? rfl
      obtain ⟨v1, A1, gg, B1, hσ1, eO1, rt1⟩ := g2.re.get e2
      rw [hσ] at hσ1
      cases hσ1
      cases rt1 with
      | @node a1 vs1 _ f0 h1 q1 =>
        have rw2 : RI G.K H2 (G.Z0 ++ O2) w d := rw1.kp (fun b o q z => m2 hk b o q) fun b hb => by
          rcases List.mem_append.mp hb with q | q
          · exact .inl (List.mem_append_left _ (List.mem_append_right _ q))
          · exact (s2.new b (List.mem_append_right _ q)).imp (fun z => List.mem_append_right _ z) id
        refine ⟨a1, vs1, k, j, rfl, rfl, h1, by rw [q1.len]; exact e7, ?_⟩
        have pO : a1 ∈ O2 := by
          rw [eO1]
          exact List.mem_append_left _ (List.mem_append_right _ List.mem_cons_self)
        have key : ∀ f O', (∀ b ∈ f ++ O', b ∈ O2) → (f ++ O').Nodup → RT G.K H2 ([] ++ G.Z0 ++ (f ++ O')) (.ref a1) (.node ts0) f → a1 ∈ f ∧ ∃ g, RT G.K (upd H2 a1 (.lst (vs1.set j w))) ([] ++ G.Z0 ++ (f ++ O')) (.ref a1) (.node (ts0.set j (.leaf d))) g ∧ g.Nodup ∧ ∀ b ∈ g, b ∈ f ++ [] := by
          intro f O' hm ndf rt
          have hin : a1 ∈ f := by cases rt with | node _ _ => exact List.mem_cons_self
          obtain ⟨x1, g, x2, x3, x4⟩ := rt.put0 h1 (rw2.less fun b hb => by
            rcases List.mem_append.mp hb with q | q
            · exact List.mem_append_left _ q
            · exact List.mem_append_right _ (hm b q)) (List.nodup_append.mp ndf).1 (List.mem_append_right _ (List.mem_append_left _ hin))
          exact ⟨x1, g, x2, x3, fun b hb => List.mem_append_left _ (x4 b hb)⟩
        obtain ⟨O3, g3, s3⟩ := Good.chg (f' := []) g2 e2 hσ (fun b hb => hb) key h1 ⟨_, rfl⟩ (fun b hb => nomatch hb) g2.st
        refine p _ _ O3 g3 ((Stp.upd (s1.trans s2) pO h1).sub fun b hb => (s3 b hb).resolve_right fun z => nomatch z)
/-- an item of a tree is given another tree, the heap changed at its lists alone -/
theorem RTs.setAt {K : PySem.W.Frag} {H H' : Hp} {W : List Addr} {p : Addr} {o' : HO} {xs : List V} (hp : H p = some (.lst xs)) (hH : H' = upd H p o') (hW : p ∈ W) : ∀ {vs : List V} {ts : List T} {f : List Addr} {j : Nat} {w : V} {t t' : T}, RTs K H W vs ts f → f.Nodup → vs[j]? = some w → ts[j]? = some t →
    (∀ g, RT K H W w t g → g.Nodup → p ∈ g ∧ ∃ g', RT K H' W w t' g' ∧ g'.Nodup ∧ ∀ b ∈ g', b ∈ g) → p ∈ f ∧ ∃ f', RTs K H' W vs (ts.set j t') f' ∧ f'.Nodup ∧ ∀ b ∈ f', b ∈ f
  | _, _, _, _, _, _, _, .nil, _, h, _, _ => by simp at h
  | _, _, _, 0, _, _, _, .cons (f := f) (g := g) h q, nd, hv, ht, k => by
    simp only [List.getElem?_cons_zero, Option.some.injEq] at hv ht
    subst hv
    subst ht
    have nd' := List.nodup_append.mp nd
    obtain ⟨pf, g', r1, n1, s1⟩ := k f h nd'.1
    refine ⟨List.mem_append_left _ pf, g' ++ g, .cons r1 (q.kp (F := g) (fun b o e z => ?_) (fun b hb => .inl hb) fun _ hb => hb), nodup_two n1 nd'.2.1 fun b hb z => nd'.2.2 b (s1 b hb) b z rfl, fun b hb => ?_⟩
    · have ne : b ≠ p := by
        rintro rfl
        rcases z with z | z | z
        · exact nd'.2.2 b pf b z rfl
        · exact z hW
        · rw [hp] at e; cases e; exact z xs rfl
      rw [hH, upd_ne ne]; exact e
    · rcases List.mem_append.mp hb with z | z
      · exact List.mem_append_left _ (s1 b z)
      · exact List.mem_append_right _ z
  | _, _, _, j + 1, _, _, _, .cons (f := f) (g := g) h q, nd, hv, ht, k => by
    have nd' := List.nodup_append.mp nd
    obtain ⟨pf, g', r1, n1, s1⟩ := RTs.setAt hp hH hW q nd'.2.1 (j := j) (by simpa using hv) (by simpa using ht) k
    refine ⟨List.mem_append_right _ pf, f ++ g', .cons (h.kp (F := f) (fun b o e z => ?_) (fun b hb => .inl hb) fun _ hb => hb) r1, nodup_two nd'.1 n1 fun b hb z => nd'.2.2 b hb b (s1 b z) rfl, fun b hb => ?_⟩
    · have ne : b ≠ p := by
        rintro rfl
        rcases z with z | z | z
        · exact nd'.2.2 b z b pf rfl
        · exact z hW
        · rw [hp] at e; cases e; exact z xs rfl
      rw [hH, upd_ne ne]; exact e
    · rcases List.mem_append.mp hb with z | z
      · exact List.mem_append_left _ z
      · exact List.mem_append_right _ (s1 b z)
/-- x[q][k] = e -/
theorem s_put1 {a b c : Expr} {mk mq : ME} {p2 : Pos} (ha : PE X a (tVar i)) (hq : PE X c (tE G mq)) (hb : PE X b (tE G mk)) (he : PE X e (tE G m)) (hpx : L2.PlainIx c := by exact fun _ _ => rfl)
    (hset : ∀ v, assign (.Subscript (.Subscript a c p2) b pos') X.env v = (do
      let ov ← holding [v] (eval (.Subscript a c p2) X.env)
      let iv ← holding [v, ov] (eval b X.env)
      standAt pos'
      holding [v, ov, iv] (setItem ov iv v)
      release [v, ov, iv] []) := by intro _; rfl)
    (hs : swapsWithSole [.Subscript (.Subscript a c p2) b pos'] e pos.line X.env = pure false := by rfl) (hw : swappedStores [.Subscript (.Subscript a c p2) b pos'] e X.env = pure none := by rfl)
    (h1 : (assignEach [.Subscript (.Subscript a c p2) b pos'] X.env).map (·.2) = [assign (.Subscript (.Subscript a c p2) b pos') X.env] := by rfl) :
    PS X (.Assign [.Subscript (.Subscript a c p2) b pos'] e pos) (tS G Wn (.put i (.cons mq .nil) mk m)) :=
  ps_mono (ps_asg he (pg_sub (pe_ix ix_list ha hq hpx) hb set_list hset) hs hw h1) fun D σ H q => by
    obtain ⟨r, O, fl, hg, e, p⟩ := q
    obtain ⟨d, r1, ts0, ps, pi, k, t', hqm, hk, e1, e2, e3, e4, e5, e6, rfl⟩ := put_inv e
    simp only [MEs.mut, Bool.or_false] at hqm
    simp only [evs, Bool.false_and, Bool.false_eq_true, if_false, Option.bind_eq_bind, Option.bind_eq_some_iff, Prod.exists, Option.some.injEq, Prod.mk.injEq] at e3
    obtain ⟨z, r2, e3, _, _, ⟨rfl, rfl⟩, rfl, rfl⟩ := e3
    simp only [ints?, Option.bind_eq_bind, Option.bind_eq_some_iff, Option.some.injEq] at e4
    obtain ⟨q, e4, _, rfl, rfl⟩ := e4
    have ez : z = .leaf (.int q) := by
      cases z with
      | leaf d => cases d <;> simp_all [int?]
      | node _ => simp [int?] at e4
    subst ez
    simp only [T.putAt, Option.bind_eq_bind, Option.bind_eq_some_iff, Option.some.injEq] at e6
    obtain ⟨j, e7, t, e8, u, e9, rfl⟩ := e6
    cases t with
    | leaf _ => simp [T.putAt] at e9
    | node us =>
      simp only [T.putAt, Option.map_eq_some_iff] at e9
      obtain ⟨j2, e10, rfl⟩ := e9
      refine ⟨_, r, O, _, _, hg, e1, fun w H1 O1 f1 g1 nd R1 s1 _ => ?_⟩
      cases R1 with
      | leaf rw1 =>
        obtain ⟨v0, A0, g0, B0, hσ, _, _⟩ := g1.re.get e2
        refine ⟨v0, hσ, _, _, O1, _, _, g1, e3, fun v2 H2 O2 f2 g2 nd2 R2 s2 m2 => ?_⟩
        obtain ⟨rfl, _, rfl⟩ := R2.int? rfl
        obtain ⟨v1, A1, gg, B1, hσ1, eO1, rt1⟩ := g2.re.get e2
        rw [hσ] at hσ1
        cases hσ1
        cases rt1 with
        | @node a1 vs1 _ f0 h1 q1 =>
          obtain ⟨wc, Ac, gc, Bc, hwc, efc, rtc⟩ := q1.at e8
          refine ⟨a1, vs1, q, wc, rfl, rfl, SqL.of h1, ?_, ?_⟩
          · show PD.atI vs1 q = some wc
            unfold PD.atI
            rw [q1.len, e7]
            exact hwc
          refine ⟨_, _, O2, _, _, g2, e5, fun v3 H3 O3 f3 g3 nd3 R3 s3 m3 => ?_⟩
          obtain ⟨rfl, _, rfl⟩ := R3.int? rfl
          have sm13 : Same H1 H3 := (m2 hqm).trans (m3 hk)
          have rw2 : RI G.K H3 (G.Z0 ++ O3) w d := rw1.kp (fun b o q z => sm13 b o q) fun b hb => by
            rcases List.mem_append.mp hb with q | q
            · exact .inl (List.mem_append_left _ (List.mem_append_right _ q))
            · exact ((s2.r.trans s3.r).new b q).imp (fun z => List.mem_append_right _ z) id
          have sm23 := m3 hk
          have h1' : H3 a1 = some (.lst vs1) := sm23 _ _ h1
          cases rtc with
          | @node a2 vs2 _ f2' h2 q2 =>
            have h2' : H3 a2 = some (.lst vs2) := sm23 _ _ h2
            refine ⟨a2, vs2, k, j2, rfl, rfl, h2', by rw [q2.len]; exact e10, ?_⟩
            have inner : ∀ W, (∀ b ∈ G.Z0 ++ W, b ∈ G.Z0 ++ O3) → a2 ∈ G.Z0 ++ W → ∀ g, RT G.K H3 (G.Z0 ++ W) (.ref a2) (.node us) g → g.Nodup → a2 ∈ g ∧ ∃ g', RT G.K (upd H3 a2 (.lst (vs2.set j2 w))) (G.Z0 ++ W) (.ref a2) (.node (us.set j2 (.leaf d))) g' ∧ g'.Nodup ∧ ∀ b ∈ g', b ∈ g :=
              fun W hl hin g rt nd => rt.put0 h2' (rw2.less hl) nd hin
            have key : ∀ f O', (∀ b ∈ f ++ O', b ∈ O3) → (f ++ O').Nodup → RT G.K H3 ([] ++ G.Z0 ++ (f ++ O')) (.ref a1) (.node ts0) f → a2 ∈ f ∧ ∃ g, RT G.K (upd H3 a2 (.lst (vs2.set j2 w))) ([] ++ G.Z0 ++ (f ++ O')) (.ref a1) (.node (ts0.set j (.node (us.set j2 (.leaf d))))) g ∧ g.Nodup ∧ ∀ b ∈ g, b ∈ f ++ [] := by
              intro f O' hm ndf rt
              cases rt with
              | @node _ vs3 _ f3 h3 q3 =>
                rw [h1'] at h3
                cases h3
                have ndf' := List.nodup_append.mp ndf
                have nda := List.nodup_cons.mp ndf'.1
                obtain ⟨wc', Ac', gc', Bc', hwc', efc', rtc'⟩ := q3.at e8
                rw [hwc] at hwc'
                cases hwc'
                have a2in : a2 ∈ f3 := by
                  rw [efc']
                  refine List.mem_append_left _ (List.mem_append_right _ ?_)
                  cases rtc' with | node _ _ => exact List.mem_cons_self
                have hW : a2 ∈ G.Z0 ++ (a1 :: f3 ++ O') := List.mem_append_right _ (List.mem_append_left _ (List.mem_cons_of_mem _ a2in))
                obtain ⟨pf, g', r5, n5, s5⟩ := RTs.setAt (K := G.K) (p := a2) (o' := .lst (vs2.set j2 w)) h2' rfl hW q3 nda.2 hwc e8 (t' := .node (us.set j2 (.leaf d))) (inner (a1 :: f3 ++ O') (fun b hb => (List.mem_append.mp hb).elim (fun z => List.mem_append_left _ z) fun z => List.mem_append_right _ (hm b z)) hW)
                have ne : a1 ≠ a2 := fun z => nda.1 (z ▸ a2in)
                refine ⟨List.mem_cons_of_mem _ pf, a1 :: g', .node (by rw [upd_ne ne]; exact h1') r5, List.nodup_cons.mpr ⟨fun z => nda.1 (s5 _ z), n5⟩, fun b hb => List.mem_append_left _ ?_⟩
                rcases List.mem_cons.mp hb with z | z
                · rw [z]; exact List.mem_cons_self
                · exact List.mem_cons_of_mem _ (s5 b z)
            obtain ⟨O4, g4, s4⟩ := Good.chg (f' := []) g3 e2 hσ (fun b hb => hb) key h2' ⟨_, rfl⟩ (fun b hb => nomatch hb) g3.st
            have pO : a2 ∈ O2 := by
              rw [eO1, efc]
              exact List.mem_append_left _ (List.mem_append_right _ (List.mem_cons_of_mem _ (List.mem_append_left _ (List.mem_append_right _ List.mem_cons_self))))
            have pO3 : a2 ∈ O3 := by
              obtain ⟨v4, A4, g5, B4, hσ4, eO4, rt4⟩ := g3.re.get e2
              rw [hσ] at hσ4
              cases hσ4
              cases rt4 with
              | @node _ vs4 _ f4 h4 q4 =>
                rw [h1'] at h4
                cases h4
                obtain ⟨wc', Ac', gc', Bc', hwc', efc', rtc'⟩ := q4.at e8
                rw [hwc] at hwc'
                cases hwc'
                cases rtc' with
                | node _ _ =>
                  rw [eO4, efc']
                  exact List.mem_append_left _ (List.mem_append_right _ (List.mem_cons_of_mem _ (List.mem_append_left _ (List.mem_append_right _ List.mem_cons_self))))
            exact p _ _ O4 g4 ((Stp.upd ((Stp.trans s1 s2).trans s3) pO3 h2').sub fun b hb => (s4 b hb).resolve_right fun z => nomatch z)
end
end PD

/-! The level of defs: a def keeps the promise its text makes. -/
namespace PD
open PySem L2

/-- all a call may call, so many calls deep -/
def CC (tb : Nat → Option Def) (W d : Nat) : Callees := ⟨fun g => ((tb g).map Def.io).getD [], callD tb W d⟩
def ioPr : Nat → List V → List Bool → List (Nat × V)
  | n, v :: vs, true :: bs => (n, v) :: ioPr (n + 1) vs bs
  | n, _ :: vs, false :: bs => ioPr (n + 1) vs bs
  | _, _, _ => []
theorem ioPr_ix : ∀ {n : Nat} {vs : List V} {bs : List Bool}, ∀ p ∈ ioPr n vs bs, p.1 ∈ ioIx n bs
  | n, v :: vs, true :: bs, p, h => by
    rcases List.mem_cons.mp h with e | h
    · subst e; exact List.mem_cons_self
    · exact List.mem_cons_of_mem _ (ioPr_ix p h)
  | n, _ :: vs, false :: bs, p, h => ioPr_ix (n := n + 1) (vs := vs) (bs := bs) p h
  | _, [], [], _, h => nomatch h
  | _, [], _ :: _, _, h => nomatch h
  | _, _ :: _, [], _, h => nomatch h
theorem ioPr_at : ∀ {n : Nat} {vs : List V} {bs : List Bool} {σ : St}, (∀ i v, vs[i]? = some v → σ[n + i]? = some (some v)) → ∀ p ∈ ioPr n vs bs, σ[p.1]? = some (some p.2)
  | n, v :: vs, true :: bs, σ, hs, p, h => by
    rcases List.mem_cons.mp h with e | h
    · subst e; exact hs 0 v rfl
    · exact ioPr_at (n := n + 1) (vs := vs) (fun i w e => by rw [Nat.add_assoc, Nat.add_comm 1 i]; exact hs (i + 1) w e) p h
  | n, v :: vs, false :: bs, σ, hs, p, h => ioPr_at (n := n + 1) (vs := vs) (bs := bs) (fun i w e => by rw [Nat.add_assoc, Nat.add_comm 1 i]; exact hs (i + 1) w e) p h
  | _, [], [], _, _, _, h => nomatch h
  | _, [], _ :: _, _, _, _, h => nomatch h
  | _, _ :: _, [], _, _, _, h => nomatch h
theorem ioPr_RA {K : PySem.W.Frag} {H : Hp} {W : List Addr} {σ : St} : ∀ {n : Nat} {vs : List V} {bs : List Bool}, vs.length = bs.length → (∀ p ∈ ioPr n vs bs, σ[p.1]? = some (some p.2)) → RA K H W σ (ioVs vs bs) ((ioIx n bs).map .inr) []
  | n, v :: vs, true :: bs, hl, hs => .io (hs _ List.mem_cons_self) (ioPr_RA (n := n + 1) (by simpa using hl) fun p h => hs p (List.mem_cons_of_mem _ h))
  | n, v :: vs, false :: bs, hl, hs => ioPr_RA (n := n + 1) (vs := vs) (bs := bs) (by simpa using hl) hs
  | _, [], [], _, _ => .nil
  | _, [], _ :: _, hl, _ => by simp at hl
  | _, _ :: _, [], hl, _ => by simp at hl
theorem ioIx_slots : ∀ (n : Nat) (bs : List Bool), ioSlots ((ioIx n bs).map .inr) = ioIx n bs
  | _, [] => rfl
  | n, true :: bs => congrArg (n :: ·) (ioIx_slots (n + 1) bs)
  | n, false :: bs => ioIx_slots (n + 1) bs
theorem ioIx_ge : ∀ {n : Nat} {bs : List Bool}, ∀ i ∈ ioIx n bs, n ≤ i
  | n, true :: bs, i, h => by
    rcases List.mem_cons.mp h with e | h
    · omega
    · have := ioIx_ge (n := n + 1) i h; omega
  | n, false :: bs, i, h => by have := ioIx_ge (n := n + 1) (bs := bs) i h; omega
  | _, [], _, h => nomatch h
theorem ioIx_nodup : ∀ (n : Nat) (bs : List Bool), (ioIx n bs).Nodup
  | _, [] => List.nodup_nil
  | n, true :: bs => List.nodup_cons.mpr ⟨fun h => by have := ioIx_ge n h; omega, ioIx_nodup (n + 1) bs⟩
  | n, false :: bs => ioIx_nodup (n + 1) bs
theorem ioTs_mapM : ∀ (is : List Nat) (r : Env), ioTs (is.map .inr) r = is.mapM fun i => r.getD i none
  | [], _ => rfl
  | i :: is, r => by
    have := ioTs_mapM is r
    simp only [ioTs] at this
    simp only [ioTs, List.map_cons, List.mapM_cons, this]
theorem re_none {K : PySem.W.Frag} {H : Hp} {W : List Addr} : ∀ n : Nat, RE K H W (List.replicate n none) (List.replicate n none) []
  | 0 => .nil
  | n + 1 => .emp (re_none n)
theorem re_start {K : PySem.W.Frag} {H : Hp} {W : List Addr} (n : Nat) : ∀ {vs : List V} {ts : List T} {f : List Addr}, RTs K H W vs ts f → RE K H W (vs.map some ++ List.replicate n none) (ts.map some ++ List.replicate n none) f
  | _, _, _, .nil => re_none n
  | _, _, _, .cons h q => .has h (re_start n q)

section
variable {P : Program} {w : World} {K : PySem.W.Frag} {mg : Str → Option Value} {base : Heap} {tb : Nat → Option Def} {W d : Nat}
theorem callD_code {b : List Bool} {k : Nat} {body : MSs} {fid : Nat} {ts outs : List T} {x : T} (ht : tb fid = some (.code b k body)) (e : callD tb W (d + 1) fid ts = some (x, outs)) :
    ts.length = b.length ∧ ∃ fl r1, exs (CC tb W d) W body (ts.map some ++ List.replicate (k - ts.length) none) = some fl ∧ (fl = .nx r1 ∧ x = .leaf .non ∨ fl = .rt x r1) ∧ (ioIx 0 b).mapM (fun i => r1.getD i none) = some outs := by
  unfold callD at e
  rw [ht] at e
  simp only [Option.bind_eq_bind, Option.bind_some] at e
  split at e
  · rename_i hl
    refine ⟨hl, ?_⟩
    simp only [Option.bind_eq_some_iff] at e
    obtain ⟨fl, e1, e2⟩ := e
    cases fl with
    | nx r1 =>
      simp only [Option.bind_eq_some_iff, Option.some.injEq, Prod.mk.injEq] at e2
      obtain ⟨us, e3, rfl, rfl⟩ := e2
      exact ⟨_, r1, e1, .inl ⟨rfl, rfl⟩, e3⟩
    | rt t r1 =>
      simp only [Option.bind_eq_some_iff, Option.some.injEq, Prod.mk.injEq] at e2
      obtain ⟨us, e3, rfl, rfl⟩ := e2
      exact ⟨_, r1, e1, .inr rfl, e3⟩
  · cases e
theorem ok_zero {f : Addr} {fd : FuncData} {ps : List Str} {fid : Nat} : FnOk P w K mg base CX0 0 f fd ps (spD K (CC tb W 0) fid) := by
  have no : ∀ vs H Q E, ¬ spD K (CC tb W 0) fid vs H Q E := fun vs H Q E h => by
    obtain ⟨ts, f, Z, x, outs, _, _, _, _, _, h, _⟩ := h
    simp [CC, callD] at h
  exact ⟨fun vs H Q E h => absurd h (no vs H Q E), fun A outer s H args us vs Q E _ _ _ _ h => absurd h (no vs H Q E)⟩
theorem code_core {qual : Str} {bd : List Stmt} {scope : Scope} {f : Addr} {N : List Str} {fid k : Nat} {b : List Bool} {body : MSs} (ht : tb fid = some (.code b k body)) (hk : N.length = k)
    (h : ∀ (cdv : Value) (A : Around) (outer : List PySem.Env) (s : Shared) (H : Hp) (E : XK) (H0 : Hp) (IO Z0 : List Addr) (iov : List (Nat × V)) (ioP : ∀ p ∈ iov, p.1 ∈ ioIx 0 b), Room d (A.deeper (PyProof.Rows.envOfC qual scope s.heap.objs.size f cdv)) →
      PSs (cxOf CX0 P w K mg base N qual scope f cdv A outer s H E).nox bd (tSs (Fm.mk K (CC tb W d) H0 IO Z0 iov (ioIx 0 b) ioP) W body))
    {cdv : Value} {A : Around} {outer : List PySem.Env} {s : Shared} {H : Hp} {vs : List V} {Q : VK} {E : XK} (q : spD K (CC tb W (d + 1)) fid vs H Q E) (hr : Room d (A.deeper (PyProof.Rows.envOfC qual scope s.heap.objs.size f cdv))) :
    ∃ t, PSs (cxOf CX0 P w K mg base N qual scope f cdv A outer s H E).nox bd t ∧ t { nx := fun _ H' => Q .non H', rt := Q } (start N vs) H := by
  have hio : (CC tb W (d + 1)).io fid = b := by simp [CC, ht, Def.io]
  obtain ⟨ts, fp, Z, x, outs, h1, nd, dj, zd, _, h2, po⟩ := q
  obtain ⟨hl, fl, r1, e1, e2, e3⟩ := callD_code ht h2
  have hv : vs.length = b.length := by rw [h1.len, hl]
  refine ⟨_, h cdv A outer s H E H fp Z (ioPr 0 vs b) ioPr_ix hr, ?_⟩
  rw [hio] at po
  have iv0 : ∀ p ∈ ioPr 0 vs b, (start N vs)[p.1]? = some (some p.2) := ioPr_at fun i v e => by
    rw [Nat.zero_add]
    show (vs.map some ++ _)[i]? = _
    rw [List.getElem?_append_left (by rw [List.length_map]; exact (List.getElem?_eq_some_iff.mp e).1), List.getElem?_map, e]
    rfl
  have fin : ∀ {σ' : St} {H' : Hp} {O' g : List Addr} {v : V}, Good (Fm.mk K (CC tb W d) H fp Z (ioPr 0 vs b) (ioIx 0 b) ioPr_ix) (g ++ Z) σ' r1 H' O' → g.Nodup → RT K H' (g ++ Z ++ O') v x g → Stp fp (g ++ O') H H' → Q v H' := fun {σ' H' O' g v} gd ndg R s1 => by
    have ra : RA K H' (g ++ Z ++ O') σ' (ioVs vs b) ((ioIx 0 b).map .inr) [] := ioPr_RA hv gd.iv
    obtain ⟨O0, F1, _, R2, pm⟩ := RE.takes ra gd.re (by rw [ioIx_slots]; exact ioIx_nodup 0 b) (by rw [ioTs_mapM]; exact e3)
    have sub : ∀ b ∈ F1, b ∈ O' := fun b hb => by
      have := pm.mem_iff (a := b)
      exact this.mp (List.mem_append_left _ hb)
    have ndF : F1.Nodup := (List.nodup_append.mp (pm.nodup_iff.mpr (by simpa using gd.nd))).1
    have gZ : ∀ b ∈ g, b ∉ Z := fun b hb z => by
      rcases s1.new b (List.mem_append_left _ hb) with q | q
      · exact dj b q z
      · exact zd b z q
    have lessW : ∀ b ∈ g ++ F1 ++ Z, b ∈ g ++ Z ++ O' := fun b hb => by
      simp only [List.mem_append] at hb ⊢
      rcases hb with (q | q) | q
      · exact .inl (.inl q)
      · exact .inr (sub b q)
      · exact .inl (.inr q)
    refine po v H' F1 g (R2.less lessW) (R.less lessW) (nodup_two ndg ndF fun b hb q => gd.dj b (sub b q) (List.mem_append_left _ hb)) (fun b hb => ?_) (s1.sub fun b hb => (List.mem_append.mp hb).elim (fun q => List.mem_append_left _ q) fun q => List.mem_append_right _ (sub b q))
    rcases List.mem_append.mp hb with q | q
    · exact gZ b q
    · exact fun z => gd.dj b (sub b q) (List.mem_append_right _ z)
  have g0 : Good (Fm.mk K (CC tb W d) H fp Z (ioPr 0 vs b) (ioIx 0 b) ioPr_ix) Z (start N vs) (ts.map some ++ List.replicate (k - ts.length) none) H fp :=
    ⟨by
      have q := re_start (N.length - vs.length) h1
      rw [hk] at q
      show RE K H (Z ++ fp) (vs.map some ++ List.replicate (N.length - vs.length) none) _ _
      rw [hk]
      rw [← h1.len]
      exact q.less fun b hb => (List.mem_append.mp hb).elim (fun z => List.mem_append_right _ z) fun z => List.mem_append_left _ z, nd, dj, zd, fun _ h => h, Stp.refl _ _, iv0⟩
  refine ⟨_, fp, fl, g0, e1, ?_⟩
  rcases e2 with ⟨rfl, rfl⟩ | rfl
  · exact fun σ' H' O' gd s1 => fin (g := []) gd List.nodup_nil (.leaf .non) s1
  · exact fun v σ' H' O' g gd ndg R s1 => fin gd ndg R s1
theorem ok_code {x qual : Str} {st : Stmt} {f : Addr} {fd : FuncData} {N ps : List Str} {fid k : Nat} {b : List Bool} {body : MSs} (F : Fun K x qual st f fd) (S : FnScope N ps (defScope st)) (ht : tb fid = some (.code b k body)) (hk : N.length = k) (hp : ps.length = b.length)
    (h : ∀ (cdv : Value) (A : Around) (outer : List PySem.Env) (s : Shared) (H : Hp) (E : XK) (H0 : Hp) (IO Z0 : List Addr) (iov : List (Nat × V)) (ioP : ∀ p ∈ iov, p.1 ∈ ioIx 0 b), Room d (A.deeper (PyProof.Rows.envOfC qual (defScope st) s.heap.objs.size f cdv)) →
      PSs (cxOf CX0 P w K mg base N qual (defScope st) f cdv A outer s H E).nox (defBody st) (tSs (Fm.mk K (CC tb W d) H0 IO Z0 iov (ioIx 0 b) ioP) W body)) :
    FnOk P w K mg base CX0 (d + 1) f fd ps (spD K (CC tb W (d + 1)) fid) := by
  have hio : (CC tb W (d + 1)).io fid = b := by simp [CC, ht, Def.io]
  refine F.ok S (fun vs H Q E q => ?_) (fun cdv A outer s H vs Q E hr q => ?_)
  · obtain ⟨ts, f, Z, x, outs, h1, _, _, _, _, h2, _⟩ := q
    rw [h1.len, (callD_code ht h2).1, hp]
  exact code_core ht hk h q hr
end
end PD

/-! What the defs that are proved by hand do, said outright over owned trees. -/
namespace PD
open PySem

/-- a house of lists as a house of tuples -/
def frozenT : Nat → T → Option D
  | 0, _ => none
  | _ + 1, .leaf (.str s) => some (.str s)
  | n + 1, .node [.leaf (.int h), .node ds] => do
    let xs ← ds.mapM fun t => match t with
      | .node [.leaf (.int a), .leaf (.int b), i] => (frozenT n i).map fun r => D.tup [.int a, .int b, r]
      | _ => none
    some (.tup [.int h, .tup xs])
  | _, _ => none

/-- a walker comes into a house of lists: (whether it pushes, the path, the name), the lists behind it -/
def stepT : Nat → List D → T → Option ((Bool × List D × Str) × T)
  | 0, _, _ => none
  | _ + 1, p, .leaf (.str s) => some ((false, p, s), .leaf (.str s))
  | n + 1, p, .node [.leaf (.int h), .node ds] => do
    let j ← ixN ds.length h
    match ds[j]? with
    | some (.node [.leaf (.int a), .leaf (.int b), i]) =>
      if b < a then some ((true, p ++ [.int h], Str.ofString ""), .node [.leaf (.int h), .node (ds.set j (.node [.leaf (.int a), .leaf (.int (b + 1)), i]))])
      else do
        let ((k, q, s), i') ← stepT n (p ++ [.int h]) i
        if k then some ((k, q, s), .node [.leaf (.int h), .node (ds.set j (.node [.leaf (.int a), .leaf (.int b), i']))])
        else some ((k, q, s), .node [.leaf (.int ((h + 1) % ds.length)), .node (ds.set j (.node [.leaf (.int a), .leaf (.int 0), i']))])
    | _ => none
  | _, _, _ => none

def primFrozen (ts : List T) : Option (T × List T) :=
  match ts with
  | [t] => (frozenT 20 t).map fun d => (.leaf d, [t])
  | _ => none
def primStep (ts : List T) : Option (T × List T) :=
  match ts with
  | [t] => (stepT 20 [] t).map fun ((k, p, s), t') =>
    (.leaf (if k then .tup [.str (Str.ofString "push"), .tup p] else .tup [.str (Str.ofString "out"), .tup p, .str s]), [t'])
  | _ => none
end PD

namespace PD
open PySem
abbrev f_law_alike : Nat := 0
abbrev f_law_at : Nat := 1
abbrev f_law_bad : Nat := 2
abbrev f_law_bad_v1 : Nat := 3
abbrev f_law_bared : Nat := 4
abbrev f_law_called : Nat := 5
abbrev f_law_changed : Nat := 6
abbrev f_law_clean : Nat := 7
abbrev f_law_deed : Nat := 8
abbrev f_law_door : Nat := 9
abbrev f_law_door_of : Nat := 10
abbrev f_law_doors : Nat := 11
abbrev f_law_frozen : Nat := 12
abbrev f_law_harder : Nat := 13
abbrev f_law_here : Nat := 14
abbrev f_law_house : Nat := 15
abbrev f_law_is_own : Nat := 16
abbrev f_law_is_walker : Nat := 17
abbrev f_law_mix : Nat := 18
abbrev f_law_more : Nat := 19
abbrev f_law_names : Nat := 20
abbrev f_law_need : Nat := 21
abbrev f_law_next : Nat := 22
abbrev f_law_one_more : Nat := 23
abbrev f_law_openings : Nat := 24
abbrev f_law_paths : Nat := 25
abbrev f_law_plain : Nat := 26
abbrev f_law_pushes : Nat := 27
abbrev f_law_room : Nat := 28
abbrev f_law_room_of : Nat := 29
abbrev f_law_rows : Nat := 30
abbrev f_law_said : Nat := 31
abbrev f_law_size : Nat := 32
abbrev f_law_small : Nat := 33
abbrev f_law_step : Nat := 34
abbrev f_law_thawed : Nat := 35
abbrev f_law_tries : Nat := 36
abbrev f_law_turned : Nat := 37
abbrev f_law_two : Nat := 38
abbrev f_law_with : Nat := 39
abbrev f_after : Nat := 40
abbrev f_all_paths : Nat := 41
abbrev f_behind : Nat := 42
abbrev f_bounds : Nat := 43
abbrev f_came_ahead : Nat := 44
abbrev f_changed : Nat := 45
abbrev f_changes : Nat := 46
abbrev f_clean : Nat := 47
abbrev f_door_at : Nat := 48
abbrev f_fate : Nat := 49
abbrev f_fates : Nat := 50
abbrev f_fitted : Nat := 51
abbrev f_greatest_both : Nat := 52
abbrev f_is_door : Nat := 53
abbrev f_is_name : Nat := 54
abbrev f_is_out : Nat := 55
abbrev f_is_room : Nat := 56
abbrev f_law_k01 : Nat := 57
abbrev f_law_k04 : Nat := 58
abbrev f_law_k06 : Nat := 59
abbrev f_law_k07 : Nat := 60
abbrev f_law_k08 : Nat := 61
abbrev f_law_k13 : Nat := 62
abbrev f_law_k15 : Nat := 63
abbrev f_law_k16 : Nat := 64
abbrev f_law_k17 : Nat := 65
abbrev f_law_k19 : Nat := 66
abbrev f_least_both : Nat := 67
abbrev f_leaving : Nat := 68
abbrev f_leavings_by : Nat := 69
abbrev f_leavings_in : Nat := 70
abbrev f_left : Nat := 71
abbrev f_left_by : Nat := 72
abbrev f_mean : Nat := 73
abbrev f_named : Nat := 74
abbrev f_names_by : Nat := 75
abbrev f_names_in : Nat := 76
abbrev f_need_far : Nat := 77
abbrev f_need_house : Nat := 78
abbrev f_need_room : Nat := 79
abbrev f_opening : Nat := 80
abbrev f_openings : Nat := 81
abbrev f_parted : Nat := 82
abbrev f_path_of : Nat := 83
abbrev f_pushed : Nat := 84
abbrev f_pushes_by : Nat := 85
abbrev f_room_at : Nat := 86
abbrev f_round_of : Nat := 87
abbrev f_visit_ahead : Nat := 88
abbrev f_walk : Nat := 89
abbrev f_walkers_by : Nat := 90
abbrev f_with_door : Nat := 91
abbrev f_with_room : Nat := 92
abbrev f_law_done : Nat := 93
abbrev f_law_due : Nat := 94
abbrev f_law_is_name : Nat := 95
abbrev f_law_keeper : Nat := 96
abbrev f_law_kept : Nat := 97
abbrev f_law_kind : Nat := 98
abbrev f_law_moved : Nat := 99
abbrev f_law_named_by : Nat := 100
abbrev f_law_other : Nat := 101
abbrev f_law_pushes_by : Nat := 102
abbrev f_law_real : Nat := 103
abbrev f_law_refusals : Nat := 104
abbrev f_law_same : Nat := 105
abbrev f_law_sought : Nat := 106
abbrev f_law_stands : Nat := 107
abbrev f_law_taken : Nat := 108
abbrev f_law_told : Nat := 109
abbrev f_again : Nat := 110
abbrev f_do : Nat := 111
abbrev f_law_k02 : Nat := 112
abbrev f_law_k03 : Nat := 113
abbrev f_law_k05 : Nat := 114
abbrev f_law_k09 : Nat := 115
abbrev f_law_k10 : Nat := 116
abbrev f_law_k11 : Nat := 117
abbrev f_law_k12 : Nat := 118
abbrev f_law_k14 : Nat := 119
abbrev f_law_k18 : Nat := 120
abbrev f_law_k20 : Nat := 121
abbrev f_number_of : Nat := 122
abbrev f_read : Nat := 123
abbrev f_rows_of : Nat := 124
abbrev f_written : Nat := 125
def c_law_alike_0 : ME := .comp (.nm 2) (.rng1 (.bi .len (.cons (.var 1) .nil))) (.some (.not (.call f_law_alike (.val (.idx (.var 0) (.var 2)) (.val (.idx (.var 1) (.var 2)) .nil))))) (.var 2) [2]
theorem c_law_alike_0_m : c_law_alike_0.mut = true := rfl
theorem c_law_alike_0_p : c_law_alike_0.path = false := rfl
/-- k02 k03 k04 k06 k07 k08 k09 k10 k11 k12 k14 k15 -/
def b_law_alike : Def := .code [false, false] 3 (.cons (.ife (.bi .isSeq (.cons (.var 1) .nil)) (.cons (.ife (.or (.not (.bi .isSeq (.cons (.var 0) .nil))) (.cmp .ne (.bi .isLst (.cons (.var 0) .nil)) (.bi .isLst (.cons (.var 1) .nil)))) (.cons (.ret (.cst (.bl false))) .nil) (.nil)) (.cons (.ife (.cmp .ne (.bi .len (.cons (.var 0) .nil)) (.bi .len (.cons (.var 1) .nil))) (.cons (.ret (.cst (.bl false))) .nil) (.nil)) (.cons (.ret (.cmp .eq (c_law_alike_0) (.lst (.nil)))) .nil))) (.nil)) (.cons (.ife (.or (.cmp .isn (.var 1) (.cst .non)) (.bi .isStr (.cons (.var 1) .nil))) (.cons (.ret (.and (.cmp .eq (.var 0) (.var 1)) (.cmp .eq (.bi .isStr (.cons (.var 0) .nil)) (.bi .isStr (.cons (.var 1) .nil))))) .nil) (.nil)) (.cons (.ret (.and (.bi .isInt (.cons (.var 0) .nil)) (.and (.cmp .eq (.bi .isBl (.cons (.var 0) .nil)) (.bi .isBl (.cons (.var 1) .nil))) (.cmp .eq (.var 0) (.var 1))))) .nil)))
/-- k01 k03 k04 k05 k07 k08 k09 k10 k14 k17 k18 k19 -/
def b_law_at : Def := .code [false, false] 3 (.cons (.for_ (.nm 2) (.tpl (.var 1)) (.cons (.set 0 false (.idx (.idx (.idx (.var 0) (.cst (.int 1))) (.var 2)) (.cst (.int 2)))) .nil)) (.cons (.ret (.var 0)) .nil))
/-- k01 -/
def b_law_bad : Def := .code [true, false] 7 (.cons (.set 2 false (.call f_law_next (.io 0 (.val (.idx (.lst (.cons (.cst (.int 1)) (.cons (.bin .pow (.cst (.int 10)) (.cst (.int 6))) .nil))) (.call f_law_next (.io 0 (.val (.cst (.int 2)) .nil)))) .nil)))) (.cons (.set 3 false (.lst (.cons (.cst (.str (Str.ofString ""))) (.cons (.cst (.str (Str.ofString "abcdefg"))) (.cons (.cst (.str (Str.ofString "A"))) (.cons (.cst (.str (Str.ofString "a1"))) (.cons (.cst (.str (Str.ofString "a b"))) (.cons (.tup (.cons (.cst (.int 0)) (.cons (.tup (.nil)) .nil))) (.cons (.tup (.cons (.bin .sub (.cst (.int (-1))) (.var 2)) (.cons (.tup (.cons (.tup (.cons (.cst (.int 1)) (.cons (.cst (.int 0)) (.cons (.cst (.str (Str.ofString ""))) .nil)))) .nil)) .nil))) (.cons (.tup (.cons (.bin .add (.cst (.int 1)) (.var 2)) (.cons (.tup (.cons (.tup (.cons (.cst (.int 1)) (.cons (.cst (.int 0)) (.cons (.cst (.str (Str.ofString ""))) .nil)))) .nil)) .nil))) .nil)))))))))) (.cons (.set 4 false (.lst (.cons (.tup (.cons (.bin .sub (.cst (.int 0)) (.var 2)) (.cons (.cst (.int 0)) (.cons (.cst (.str (Str.ofString ""))) .nil)))) (.cons (.tup (.cons (.bin .add (.cst (.int 100)) (.var 2)) (.cons (.cst (.int 0)) (.cons (.cst (.str (Str.ofString ""))) .nil)))) (.cons (.tup (.cons (.cst (.int 5)) (.cons (.bin .sub (.cst (.int (-1))) (.var 2)) (.cons (.cst (.str (Str.ofString ""))) .nil)))) (.cons (.tup (.cons (.cst (.int 5)) (.cons (.bin .add (.cst (.int 6)) (.var 2)) (.cons (.cst (.str (Str.ofString ""))) .nil)))) .nil)))))) (.cons (.set 5 false (.idx (.var 4) (.call f_law_next (.io 0 (.val (.cst (.int 4)) .nil))))) (.cons (.set 3 false (.bin .add (.var 3) (.lst (.cons (.tup (.cons (.cst (.int 0)) (.cons (.tup (.cons (.var 5) .nil)) .nil))) (.cons (.tup (.cons (.cst (.int 1)) (.cons (.tup (.cons (.var 5) (.cons (.tup (.cons (.cst (.int 1)) (.cons (.cst (.int 1)) (.cons (.cst (.str (Str.ofString "a"))) .nil)))) .nil))) .nil))) (.cons (.tup (.cons (.cst (.int 0)) (.cons (.tup (.cons (.tup (.cons (.cst (.int 1)) (.cons (.cst (.int 1)) (.cons (.cst (.str (Str.ofString ""))) .nil)))) (.cons (.var 5) .nil))) .nil))) (.cons (.tup (.cons (.cst (.int 0)) (.cons (.bin .mul (.tup (.cons (.tup (.cons (.cst (.int 1)) (.cons (.cst (.int 0)) (.cons (.cst (.str (Str.ofString "a"))) .nil)))) .nil)) (.cst (.int 5))) .nil))) .nil))))))) (.cons (.ife (.not (.bi .isStr (.cons (.var 1) .nil))) (.cons (.set 6 false (.call f_law_next (.io 0 (.val (.bi .len (.cons (.idx (.var 1) (.cst (.int 1))) .nil)) .nil)))) (.cons (.set 3 false (.bin .add (.var 3) (.bin .mul (.lst (.cons (.tup (.cons (.bin .add (.bi .len (.cons (.idx (.var 1) (.cst (.int 1))) .nil)) (.var 2)) (.cons (.idx (.var 1) (.cst (.int 1))) .nil))) (.cons (.tup (.cons (.idx (.var 1) (.cst (.int 0))) (.cons (.bin .add (.bin .add (.slc (.idx (.var 1) (.cst (.int 1))) .none (.some (.var 6))) (.tup (.cons (.var 5) .nil))) (.slc (.idx (.var 1) (.cst (.int 1))) (.some (.bin .add (.var 6) (.cst (.int 1)))) .none)) .nil))) .nil))) (.cst (.int 4))))) .nil)) (.nil)) (.cons (.ret (.idx (.var 3) (.call f_law_next (.io 0 (.val (.bi .len (.cons (.var 3) .nil)) .nil))))) .nil)))))))
def c_law_bad_v1_0 : ME := .comp (.nm 5) (.tpl (.var 3)) (.some (.or (.not (.chn .le .le (.cst (.int 1)) (.idx (.var 5) (.cst (.int 0))) (.cst (.int 99)))) (.not (.chn .le .le (.cst (.int 0)) (.idx (.var 5) (.cst (.int 1))) (.idx (.var 5) (.cst (.int 0))))))) (.var 5) [5]
theorem c_law_bad_v1_0_m : c_law_bad_v1_0.mut = true := rfl
theorem c_law_bad_v1_0_p : c_law_bad_v1_0.path = false := rfl
/-- k12 -/
def b_law_bad_v1 : Def := .code [false, false] 8 (.cons (.ife (.bi .isStr (.cons (.var 0) .nil)) (.cons (.ret (.cst .non)) .nil) (.nil)) (.cons (.unp (.tp [.nm 2, .nm 3]) (.var 0)) (.cons (.set 4 false (c_law_bad_v1_0)) (.cons (.ife (.or (.cmp .ne (.var 4) (.lst (.nil))) (.or (.not (.chn .le .le (.cst (.int 1)) (.bi .len (.cons (.var 3) .nil)) (.cst (.int 4)))) (.not (.chn .le .lt (.cst (.int 0)) (.var 2) (.bi .len (.cons (.var 3) .nil)))))) (.cons (.ret (.var 1)) .nil) (.nil)) (.cons (.for_ (.nm 6) (.rng1 (.bi .len (.cons (.var 3) .nil))) (.cons (.set 7 false (.call f_law_bad (.val (.idx (.idx (.var 3) (.var 6)) (.cst (.int 2))) (.val (.bin .add (.var 1) (.tup (.cons (.var 6) .nil))) .nil)))) (.cons (.ife (.cmp .nisn (.var 7) (.cst .non)) (.cons (.ret (.var 7)) .nil) (.nil)) .nil))) (.cons (.ret (.cst .non)) .nil))))))
def c_law_bared_0 : ME := .comp (.tp [.nm 1, .nm 2, .nm 3]) (.tpl (.idx (.var 0) (.cst (.int 1)))) .none (.call f_law_bared (.val (.var 3) .nil)) [1, 2, 3]
theorem c_law_bared_0_m : c_law_bared_0.mut = true := rfl
theorem c_law_bared_0_p : c_law_bared_0.path = false := rfl
/-- k19 -/
def b_law_bared : Def := .code [false] 4 (.cons (.ife (.bi .isStr (.cons (.var 0) .nil)) (.cons (.ret (.var 0)) .nil) (.nil)) (.cons (.ret (.tup (.cons (.idx (.var 0) (.cst (.int 0))) (.cons (c_law_bared_0) .nil)))) .nil))
def c_law_called_0 : ME := .comp (.tp [.nm 2, .nm 3, .nm 4]) (.tpl (.idx (.var 0) (.cst (.int 1)))) .none (.tup (.cons (.var 2) (.cons (.var 3) (.cons (.call f_law_called (.val (.var 4) (.val (.var 1) .nil))) .nil)))) [2, 3, 4]
theorem c_law_called_0_m : c_law_called_0.mut = true := rfl
theorem c_law_called_0_p : c_law_called_0.path = false := rfl
/-- k20 -/
def b_law_called : Def := .code [false, false] 5 (.cons (.ife (.bi .isStr (.cons (.var 0) .nil)) (.cons (.ret (.idx (.var 1) (.var 0))) .nil) (.nil)) (.cons (.ret (.tup (.cons (.idx (.var 0) (.cst (.int 0))) (.cons (.bi .tuple (.cons (c_law_called_0) .nil)) .nil)))) .nil))
/-- k08 -/
def b_law_changed : Def := .code [false, true] 9 (.cons (.ife (.bi .isStr (.cons (.var 0) .nil)) (.cons (.ret (.var 0)) .nil) (.nil)) (.cons (.set 2 true (.lst (.nil))) (.cons (.for_ (.tp [.nm 3, .nm 4, .nm 5]) (.tpl (.idx (.var 0) (.cst (.int 1)))) (.cons (.set 6 false (.pop0 1)) (.cons (.set 7 false (.ife (.cmp .eq (.var 4) (.var 3)) (.bin .add (.var 4) (.var 6)) (.var 4))) (.cons (.ife (.or (.not (.chn .le .le (.cst (.int 1)) (.bin .add (.var 3) (.var 6)) (.cst (.int 99)))) (.and (.cmp .lt (.var 4) (.var 3)) (.cmp .ge (.var 4) (.bin .add (.var 3) (.var 6))))) (.cons (.ret (.cst .non)) .nil) (.nil)) (.cons (.set 8 false (.call f_law_changed (.val (.var 5) (.io 1 .nil)))) (.cons (.ife (.cmp .isn (.var 8) (.cst .non)) (.cons (.ret (.cst .non)) .nil) (.nil)) (.cons (.app 2 (.tup (.cons (.bin .add (.var 3) (.var 6)) (.cons (.var 7) (.cons (.var 8) .nil))))) .nil))))))) (.cons (.ret (.tup (.cons (.idx (.var 0) (.cst (.int 0))) (.cons (.bi .tuple (.cons (.var 2) .nil)) .nil)))) .nil))))
def c_law_clean_0 : ME := .comp (.tp [.nm 1, .nm 2, .nm 3]) (.tpl (.idx (.var 0) (.cst (.int 1)))) .none (.tup (.cons (.var 1) (.cons (.cst (.int 0)) (.cons (.call f_law_clean (.val (.var 3) .nil)) .nil)))) [1, 2, 3]
theorem c_law_clean_0_m : c_law_clean_0.mut = true := rfl
theorem c_law_clean_0_p : c_law_clean_0.path = false := rfl
/-- k06 k18 -/
def b_law_clean : Def := .code [false] 4 (.cons (.ife (.bi .isStr (.cons (.var 0) .nil)) (.cons (.ret (.var 0)) .nil) (.nil)) (.cons (.ret (.tup (.cons (.idx (.var 0) (.cst (.int 0))) (.cons (.bi .tuple (.cons (c_law_clean_0) .nil)) .nil)))) .nil))
/-- k09 k10 k14 -/
def b_law_deed : Def := .code [true, false, false] 8 (.cons (.par [3, 4] (.cons (.call f_law_next (.io 0 (.val (.cst (.int 14)) .nil))) (.cons (.call f_law_paths (.val (.call f_law_here (.val (.var 1) .nil)) (.val (.tup (.nil)) .nil))) .nil))) (.cons (.ife (.cmp .lt (.var 3) (.cst (.int 5))) (.cons (.ret (.tup (.cons (.cst (.str (Str.ofString "walk"))) .nil))) .nil) (.nil)) (.cons (.ife (.or (.cmp .lt (.var 3) (.cst (.int 8))) (.cmp .eq (.var 4) (.lst (.nil)))) (.cons (.set 5 false (.idx (.lst (.cons (.cst (.int (-1))) (.cons (.bin .add (.bin .pow (.cst (.int 10)) (.cst (.int 18))) (.cst (.int 1))) .nil))) (.call f_law_next (.io 0 (.val (.cst (.int 2)) .nil))))) (.cons (.ret (.tup (.cons (.cst (.str (Str.ofString "send"))) (.cons (.ife (.and (.var 2) (.cmp .eq (.call f_law_next (.io 0 (.val (.cst (.int 6)) .nil))) (.cst (.int 0)))) (.var 5) (.call f_law_next (.io 0 (.val (.idx (.lst (.cons (.cst (.int 9)) (.cons (.cst (.int 120)) .nil))) (.call f_law_next (.io 0 (.val (.cst (.int 2)) .nil)))) .nil)))) .nil)))) .nil)) (.nil)) (.cons (.set 6 false (.idx (.var 4) (.call f_law_next (.io 0 (.val (.bi .len (.cons (.var 4) .nil)) .nil))))) (.cons (.ife (.and (.var 2) (.cmp .eq (.call f_law_next (.io 0 (.val (.cst (.int 6)) .nil))) (.cst (.int 0)))) (.cons (.set 6 false (.idx (.lst (.cons (.tup (.nil)) (.cons (.bin .add (.var 6) (.tup (.cons (.cst (.int 0)) .nil))) (.cons (.bin .add (.slc (.var 6) .none (.some (.cst (.int (-1))))) (.tup (.cons (.cst (.int 4)) .nil))) (.cons (.bin .add (.slc (.var 6) .none (.some (.cst (.int (-1))))) (.tup (.cons (.cst (.int (-1))) .nil))) .nil))))) (.call f_law_next (.io 0 (.val (.cst (.int 4)) .nil))))) .nil) (.nil)) (.cons (.ife (.cmp .lt (.var 3) (.cst (.int 10))) (.cons (.set 7 false (.bin .add (.cst (.int 1)) (.call f_law_next (.io 0 (.val (.cst (.int 6)) .nil))))) (.cons (.ret (.tup (.cons (.cst (.str (Str.ofString "renew"))) (.cons (.var 6) (.cons (.ife (.and (.var 2) (.cmp .eq (.call f_law_next (.io 0 (.val (.cst (.int 4)) .nil))) (.cst (.int 0)))) (.idx (.lst (.cons (.cst (.int 0)) (.cons (.cst (.int 100)) (.cons (.cst (.int 1)) (.cons (.cst (.int 2)) .nil))))) (.call f_law_next (.io 0 (.val (.cst (.int 4)) .nil)))) (.var 7)) .nil))))) .nil)) (.nil)) (.cons (.ife (.cmp .eq (.var 3) (.cst (.int 10))) (.cons (.ret (.tup (.cons (.cst (.str (Str.ofString "turn"))) (.cons (.slc (.var 6) .none (.some (.cst (.int (-1))))) (.cons (.bin .sub (.call f_law_next (.io 0 (.val (.bin .add (.cst (.int 4)) (.bi .int (.cons (.var 2) .nil))) .nil))) (.bi .int (.cons (.var 2) .nil))) .nil))))) .nil) (.nil)) (.cons (.ret (.tup (.cons (.idx (.lst (.cons (.cst (.str (Str.ofString "shut"))) (.cons (.cst (.str (Str.ofString "unlatch"))) (.cons (.cst (.str (Str.ofString "unlatch"))) .nil)))) (.bin .sub (.var 3) (.cst (.int 11)))) (.cons (.var 6) .nil)))) .nil))))))))
/-- k01 k02 k03 k04 k05 k06 k07 k08 k09 k10 k11 k12 k14 k16 k17 k18 k19 k20 -/
def b_law_door : Def := .code [true, false] 3 (.cons (.set 2 false (.bin .add (.cst (.int 1)) (.call f_law_next (.io 0 (.val (.idx (.lst (.cons (.var 1) (.cons (.cst (.int 99)) .nil))) (.bin .fdv (.call f_law_next (.io 0 (.val (.cst (.int 4)) .nil))) (.cst (.int 3)))) .nil))))) (.cons (.ret (.tup (.cons (.var 2) (.cons (.idx (.lst (.cons (.cst (.int 0)) (.cons (.var 2) (.cons (.call f_law_next (.io 0 (.val (.bin .add (.var 2) (.cst (.int 1))) .nil))) .nil)))) (.call f_law_next (.io 0 (.val (.cst (.int 3)) .nil)))) .nil)))) .nil))
/-- k09 k10 k14 -/
def b_law_door_of : Def := .code [false, false] 2 (.cons (.ife (.or (.cmp .eq (.var 1) (.tup (.nil))) (.cmp .isn (.call f_law_room_of (.val (.var 0) (.val (.var 1) .nil))) (.cst .non))) (.cons (.ret (.cst .non)) .nil) (.nil)) (.cons (.ret (.idx (.idx (.call f_law_room_of (.val (.var 0) (.val (.slc (.var 1) .none (.some (.cst (.int (-1))))) .nil))) (.cst (.int 1))) (.idx (.var 1) (.cst (.int (-1)))))) .nil))
/-- k19 -/
def b_law_doors : Def := .code [false] 5 (.cons (.ife (.bi .isStr (.cons (.var 0) .nil)) (.cons (.ret (.lst (.nil))) .nil) (.nil)) (.cons (.set 1 false (.lst (.nil))) (.cons (.for_ (.tp [.nm 2, .nm 3, .nm 4]) (.tpl (.idx (.var 0) (.cst (.int 1)))) (.cons (.set 1 false (.bin .add (.bin .add (.var 1) (.lst (.cons (.tup (.cons (.var 2) (.cons (.var 3) .nil))) .nil))) (.call f_law_doors (.val (.var 4) .nil)))) .nil)) (.cons (.ret (.var 1)) .nil))))
/-- k02 k03 k04 k06 k07 k08 k09 k10 k14 k18 k19 -/
def b_law_frozen : Def := .prim [true] primFrozen
/-- k16 -/
def b_law_harder : Def := .code [true, false, false] 7 (.cons (.ife (.bi .isStr (.cons (.var 1) .nil)) (.cons (.ret (.var 1)) .nil) (.nil)) (.cons (.set 3 true (.lst (.nil))) (.cons (.for_ (.tp [.nm 4, .nm 5, .nm 6]) (.tpl (.idx (.var 1) (.cst (.int 1)))) (.cons (.app 3 (.tup (.cons (.bi .min (.cons (.cst (.int 99)) (.cons (.bin .add (.var 4) (.call f_law_next (.io 0 (.val (.bin .add (.var 2) (.cst (.int 1))) .nil)))) .nil))) (.cons (.cst (.int 0)) (.cons (.call f_law_harder (.io 0 (.val (.var 6) (.val (.var 2) .nil)))) .nil))))) .nil)) (.cons (.ret (.tup (.cons (.idx (.var 1) (.cst (.int 0))) (.cons (.bi .tuple (.cons (.var 3) .nil)) .nil)))) .nil))))
/-- k09 k10 k14 -/
def b_law_here : Def := .code [false] 1 (.cons (.ret (.call f_law_frozen (.val (.idx (.idx (.idx (.idx (.var 0) (.cst (.str (Str.ofString "node")))) (.cst (.int 1))) (.cst (.int 0))) (.cst (.int 2))) .nil))) .nil)
/-- k01 k02 k03 k04 k05 k06 k07 k08 k09 k10 k11 k12 k14 k16 k17 k18 k19 k20 -/
def b_law_house : Def := .code [true, false] 2 (.cons (.ret (.call f_law_room (.io 0 (.val (.lst (.cons (.bin .add (.cst (.int 1)) (.call f_law_next (.io 0 (.val (.cst (.int 12)) .nil)))) .nil)) (.val (.call f_law_next (.io 0 (.val (.cst (.int 7)) .nil))) (.val (.var 1) .nil)))))) .nil)
/-- k17 -/
def b_law_is_own : Def := .code [false, false] 4 (.cons (.set 2 true (.lst (.nil))) (.cons (.for_ (.nm 3) (.lst (.call f_fates (.val (.var 0) (.val (.cst (.int 200)) .nil)))) (.cons (.ife (.and (.cmp .eq (.slc (.idx (.var 3) (.cst (.int 1))) .none (.some (.cst (.int 1)))) (.var 1)) (.or (.cmp .eq (.idx (.var 3) (.cst (.int 0))) (.cst (.str (Str.ofString "out")))) (.cmp .gt (.bi .len (.cons (.idx (.var 3) (.cst (.int 1))) .nil)) (.cst (.int 1))))) (.cons (.app 2 (.bin .add (.bin .add (.slc (.var 3) .none (.some (.cst (.int 1)))) (.tup (.cons (.slc (.idx (.var 3) (.cst (.int 1))) (.some (.cst (.int 1))) .none) .nil))) (.slc (.var 3) (.some (.cst (.int 2))) .none))) .nil) (.nil)) .nil)) (.cons (.ret (.cmp .eq (.call f_fates (.val (.call f_law_at (.val (.var 0) (.val (.var 1) .nil))) (.val (.bi .len (.cons (.var 2) .nil)) .nil))) (.var 2))) .nil)))
/-- k08 -/
def b_law_is_walker : Def := .code [false, false, false] 6 (.cons (.par [3, 4] (.cons (.call f_law_thawed (.val (.var 0) .nil)) (.cons (.cst (.int 0)) .nil))) (.cons (.for_ (.nm 5) (.rng1 (.bin .add (.var 2) (.cst (.int 1)))) (.cons (.set 4 false (.bin .add (.var 4) (.bi .int (.cons (.cmp .eq (.idx (.call f_law_step (.io 3 .nil)) (.cst (.int 0))) (.cst (.str (Str.ofString "out")))) .nil)))) (.cons (.ife (.cmp .eq (.var 4) (.var 1)) (.cons (.ret (.cmp .eq (.var 5) (.var 2))) .nil) (.nil)) .nil))) (.cons (.ret (.cst (.bl false))) .nil)))
/-- k01 k02 k03 k04 k05 k06 k07 k08 k09 k10 k11 k12 k13 k14 k15 k16 k17 k18 k19 k20 -/
def b_law_mix : Def := .code [false, false] 4 (.cons (.set 2 false (.var 1)) (.cons (.for_ (.nm 3) (.scr (.var 0)) (.cons (.set 2 false (.bin .md (.bin .add (.bin .add (.bin .mul (.var 2) (.cst (.int 48271))) (.bin .md (.var 3) (.cst (.int 2147483629)))) (.cst (.int 1))) (.cst (.int 2147483647)))) .nil)) (.cons (.ret (.lst (.cons (.var 2) (.cons (.bi .list (.cons (.var 0) .nil)) (.cons (.cst (.int 0)) .nil))))) .nil)))
/-- k15 -/
def b_law_more : Def := .code [false] 7 (.cons (.set 1 true (.lst (.cons (.cmp .eq (.call f_fates (.val (.cst (.str (Str.ofString "a"))) (.val (.cst (.int 2)) .nil))) (.bin .mul (.lst (.cons (.tup (.cons (.cst (.str (Str.ofString "out"))) (.cons (.tup (.nil)) (.cons (.cst (.str (Str.ofString "a"))) .nil)))) .nil)) (.cst (.int 2)))) (.cons (.cmp .eq (.call f_after (.val (.cst (.str (Str.ofString "a"))) (.val (.var 0) .nil))) (.cst (.str (Str.ofString "a")))) (.cons (.cmp .eq (.call f_leaving (.val (.cst (.str (Str.ofString "a"))) (.val (.bin .add (.cst (.int 1)) (.var 0)) .nil))) (.tup (.cons (.var 0) (.cons (.tup (.nil)) (.cons (.cst (.str (Str.ofString "a"))) .nil))))) .nil))))) (.cons (.set 1 true (.bin .add (.var 1) (.lst (.cons (.cmp .eq (.call f_fitted (.val (.cst (.str (Str.ofString "a"))) (.val (.cst (.int 2)) (.val (.cst (.int 1)) .nil)))) (.cst (.str (Str.ofString "a")))) (.cons (.cmp .eq (.call f_named (.val (.cst (.str (Str.ofString "a"))) (.val (.cst (.str (Str.ofString "a"))) (.val (.bin .add (.cst (.int 1)) (.var 0)) .nil)))) (.tup (.cons (.var 0) (.cons (.tup (.nil)) .nil)))) (.cons (.cmp .eq (.call f_round_of (.val (.cst (.str (Str.ofString "a"))) .nil)) (.tup (.cons (.cst (.int 1)) (.cons (.cst (.int 1)) .nil)))) (.cons (.cmp .isn (.call f_fitted (.val (.cst (.str (Str.ofString "a"))) (.val (.cst (.int 2)) (.val (.cst (.int 3)) .nil)))) (.cst .non)) .nil))))))) (.cons (.set 2 false (.tup (.cons (.cst (.int 0)) (.cons (.tup (.cons (.tup (.cons (.bin .add (.cst (.int 5)) (.var 0)) (.cons (.cst (.int 0)) (.cons (.cst (.str (Str.ofString "a"))) .nil)))) (.cons (.tup (.cons (.bin .add (.cst (.int 5)) (.var 0)) (.cons (.cst (.int 3)) (.cons (.cst (.str (Str.ofString "b"))) .nil)))) .nil))) .nil)))) (.cons (.set 1 true (.bin .add (.var 1) (.lst (.cons (.cmp .eq (.call f_fitted (.val (.var 2) (.val (.cst (.int 2)) (.val (.bin .add (.bin .mul (.cst (.int 2)) (.var 0)) (.cst (.int 8))) .nil)))) (.var 2)) (.cons (.cmp .eq (.call f_fitted (.val (.var 2) (.val (.cst (.int 2)) (.val (.bin .add (.bin .mul (.cst (.int 2)) (.var 0)) (.cst (.int 7))) .nil)))) (.tup (.cons (.cst (.int 0)) (.cons (.tup (.cons (.tup (.cons (.bin .add (.cst (.int 4)) (.var 0)) (.cons (.cst (.int 0)) (.cons (.cst (.str (Str.ofString "a"))) .nil)))) (.cons (.tup (.cons (.bin .add (.cst (.int 5)) (.var 0)) (.cons (.cst (.int 3)) (.cons (.cst (.str (Str.ofString "b"))) .nil)))) .nil))) .nil)))) .nil))))) (.cons (.set 1 true (.bin .add (.var 1) (.lst (.cons (.cmp .eq (.call f_fitted (.val (.var 2) (.val (.cst (.int 3)) (.val (.bin .add (.bin .mul (.cst (.int 3)) (.var 0)) (.cst (.int 16))) .nil)))) (.tup (.cons (.cst (.int 0)) (.cons (.tup (.cons (.tup (.cons (.bin .add (.cst (.int 6)) (.var 0)) (.cons (.cst (.int 0)) (.cons (.cst (.str (Str.ofString "a"))) .nil)))) (.cons (.tup (.cons (.bin .add (.cst (.int 5)) (.var 0)) (.cons (.cst (.int 3)) (.cons (.cst (.str (Str.ofString "b"))) .nil)))) .nil))) .nil)))) (.cons (.cmp .isn (.call f_fitted (.val (.var 2) (.val (.cst (.int 2)) (.val (.bin .add (.bin .mul (.cst (.int 2)) (.var 0)) (.cst (.int 20))) .nil)))) (.cst .non)) .nil))))) (.cons (.par [3, 4] (.cons (.tup (.cons (.cst (.int 0)) (.cons (.tup (.cons (.tup (.cons (.cst (.int 99)) (.cons (.cst (.int 0)) (.cons (.cst (.str (Str.ofString "a"))) .nil)))) (.cons (.tup (.cons (.cst (.int 99)) (.cons (.cst (.int 99)) (.cons (.cst (.str (Str.ofString "b"))) .nil)))) .nil))) .nil))) (.cons (.tup (.cons (.cst (.int 0)) (.cons (.tup (.cons (.tup (.cons (.cst (.int 1)) (.cons (.cst (.int 0)) (.cons (.cst (.str (Str.ofString "a"))) .nil)))) (.cons (.tup (.cons (.cst (.int 1)) (.cons (.cst (.int 0)) (.cons (.cst (.str (Str.ofString "a"))) .nil)))) (.cons (.tup (.cons (.cst (.int 1)) (.cons (.cst (.int 0)) (.cons (.cst (.str (Str.ofString "b"))) .nil)))) .nil)))) .nil))) .nil))) (.cons (.set 1 true (.bin .add (.var 1) (.lst (.cons (.cmp .isn (.call f_fitted (.val (.var 3) (.val (.cst (.int 2)) (.val (.cst (.int 101)) .nil)))) (.cst .non)) (.cons (.cmp .eq (.call f_fitted (.val (.var 3) (.val (.cst (.int 2)) (.val (.cst (.int 99)) .nil)))) (.tup (.cons (.cst (.int 0)) (.cons (.tup (.cons (.tup (.cons (.cst (.int 98)) (.cons (.cst (.int 0)) (.cons (.cst (.str (Str.ofString "a"))) .nil)))) (.cons (.tup (.cons (.cst (.int 99)) (.cons (.cst (.int 99)) (.cons (.cst (.str (Str.ofString "b"))) .nil)))) .nil))) .nil)))) .nil))))) (.cons (.set 1 true (.bin .add (.var 1) (.lst (.cons (.cmp .eq (.call f_fitted (.val (.var 2) (.val (.cst (.int 2)) (.val (.bin .add (.bin .mul (.cst (.int 2)) (.var 0)) (.cst (.int 12))) .nil)))) (.tup (.cons (.cst (.int 0)) (.cons (.tup (.cons (.tup (.cons (.bin .add (.cst (.int 5)) (.var 0)) (.cons (.cst (.int 0)) (.cons (.cst (.str (Str.ofString "a"))) .nil)))) (.cons (.tup (.cons (.bin .add (.cst (.int 9)) (.var 0)) (.cons (.cst (.int 3)) (.cons (.cst (.str (Str.ofString "b"))) .nil)))) .nil))) .nil)))) (.cons (.cmp .eq (.call f_parted (.val (.tup (.cons (.cst (.int 0)) (.cons (.tup (.cons (.tup (.cons (.cst (.int 1)) (.cons (.cst (.int 0)) (.cons (.cst (.str (Str.ofString "a"))) .nil)))) .nil)) .nil))) (.val (.var 4) .nil))) (.cst (.int 5))) .nil))))) (.cons (.app 1 (.cmp .eq (.call f_named (.val (.tup (.cons (.cst (.int 0)) (.cons (.tup (.cons (.tup (.cons (.cst (.int 1)) (.cons (.cst (.int 0)) (.cons (.cst (.str (Str.ofString "abcdef"))) .nil)))) (.cons (.tup (.cons (.cst (.int 1)) (.cons (.cst (.int 0)) (.cons (.cst (.str (Str.ofString "abcdeg"))) .nil)))) .nil))) .nil))) (.val (.cst (.str (Str.ofString "abcdeg"))) (.val (.cst (.int 1)) .nil)))) (.tup (.cons (.cst (.int 3)) (.cons (.tup (.cons (.cst (.int 1)) .nil)) .nil))))) (.cons (.par [5, 6] (.cons (.tup (.cons (.cst (.int 0)) (.cons (.tup (.cons (.tup (.cons (.cst (.int 2)) (.cons (.cst (.int 0)) (.cons (.cst (.str (Str.ofString "a"))) .nil)))) (.cons (.tup (.cons (.cst (.int 2)) (.cons (.cst (.int 0)) (.cons (.cst (.str (Str.ofString "a"))) .nil)))) .nil))) .nil))) (.cons (.tup (.cons (.cst (.int 0)) (.cons (.tup (.cons (.tup (.cons (.cst (.int 2)) (.cons (.cst (.int 0)) (.cons (.cst (.str (Str.ofString "a"))) .nil)))) .nil)) .nil))) .nil))) (.cons (.set 1 true (.bin .add (.var 1) (.lst (.cons (.cmp .isn (.call f_parted (.val (.var 5) (.val (.var 6) .nil))) (.cst .non)) (.cons (.cmp .eq (.call f_parted (.val (.var 5) (.val (.tup (.cons (.cst (.int 0)) (.cons (.tup (.cons (.tup (.cons (.cst (.int 2)) (.cons (.cst (.int 0)) (.cons (.cst (.str (Str.ofString "a"))) .nil)))) (.cons (.tup (.cons (.cst (.int 2)) (.cons (.cst (.int 1)) (.cons (.cst (.str (Str.ofString "a"))) .nil)))) .nil))) .nil))) .nil))) (.cst (.int 4))) (.cons (.cmp .eq (.call f_parted (.val (.var 5) (.val (.cst (.str (Str.ofString "a"))) .nil))) (.cst (.int 0))) .nil)))))) (.cons (.ret (.cmp .nin (.cst (.bl false)) (.bin .add (.var 1) (.lst (.cons (.cmp .eq (.call f_parted (.val (.tup (.cons (.cst (.int 0)) (.cons (.tup (.cons (.tup (.cons (.cst (.int 3)) (.cons (.cst (.int 2)) (.cons (.cst (.str (Str.ofString "a"))) .nil)))) (.cons (.tup (.cons (.cst (.int 1)) (.cons (.cst (.int 0)) (.cons (.cst (.str (Str.ofString "b"))) .nil)))) .nil))) .nil))) (.val (.tup (.cons (.cst (.int 0)) (.cons (.tup (.cons (.tup (.cons (.cst (.int 1)) (.cons (.cst (.int 0)) (.cons (.cst (.str (Str.ofString "a"))) .nil)))) (.cons (.tup (.cons (.cst (.int 1)) (.cons (.cst (.int 0)) (.cons (.cst (.str (Str.ofString "b"))) .nil)))) .nil))) .nil))) .nil))) (.cst (.int 5))) .nil))))) .nil))))))))))))
def c_law_names_0 : ME := .comp (.nm 5) (.lst (.call f_law_names (.val (.var 4) .nil))) (.some (.cmp .nin (.var 5) (.var 1))) (.var 5) [5]
theorem c_law_names_0_m : c_law_names_0.mut = true := rfl
theorem c_law_names_0_p : c_law_names_0.path = false := rfl
/-- k18 -/
def b_law_names : Def := .code [false] 6 (.cons (.ife (.bi .isStr (.cons (.var 0) .nil)) (.cons (.ret (.lst (.cons (.var 0) .nil))) .nil) (.nil)) (.cons (.set 1 false (.lst (.nil))) (.cons (.for_ (.tp [.nm 2, .nm 3, .nm 4]) (.tpl (.idx (.var 0) (.cst (.int 1)))) (.cons (.set 1 false (.bin .add (.var 1) (c_law_names_0))) .nil)) (.cons (.ret (.var 1)) .nil))))
/-- k08 -/
def b_law_need : Def := .code [false, false] 2 (.cons (.ret (.idx (.idx (.idx (.call f_law_at (.val (.var 0) (.val (.slc (.var 1) .none (.some (.cst (.int (-1))))) .nil))) (.cst (.int 1))) (.idx (.var 1) (.cst (.int (-1))))) (.cst (.int 0)))) .nil)
/-- k01 k02 k03 k04 k05 k06 k07 k08 k09 k10 k11 k12 k13 k14 k15 k16 k17 k18 k19 k20 -/
def b_law_next : Def := .code [true, false] 3 (.cons (.set 2 false (.idx (.bin .add (.idx (.var 0) (.cst (.int 1))) (.lst (.cons (.cst (.int 0)) .nil))) (.bin .md (.idx (.var 0) (.cst (.int 2))) (.bi .max (.cons (.cst (.int 1)) (.cons (.bi .len (.cons (.idx (.var 0) (.cst (.int 1))) .nil)) .nil)))))) (.cons (.ife (.cmp .ge (.var 2) (.bin .pow (.cst (.int 10)) (.cst (.int 18)))) (.cons (.put 0 (.cons (.cst (.int 1)) .nil) (.bin .md (.idx (.var 0) (.cst (.int 2))) (.bi .len (.cons (.idx (.var 0) (.cst (.int 1))) .nil))) (.bin .fdv (.var 2) (.var 1))) (.cons (.ret (.bin .md (.var 2) (.var 1))) .nil)) (.nil)) (.cons (.put 0 (.nil) (.cst (.int 0)) (.bin .md (.bin .add (.bin .add (.bin .mul (.idx (.var 0) (.cst (.int 0))) (.cst (.int 48271))) (.bin .mul (.var 2) (.cst (.int 69621)))) (.cst (.int 11))) (.cst (.int 2147483647)))) (.cons (.put 0 (.nil) (.cst (.int 2)) (.bin .add (.idx (.var 0) (.cst (.int 2))) (.cst (.int 1)))) (.cons (.ret (.bin .md (.bin .fdv (.idx (.var 0) (.cst (.int 0))) (.cst (.int 7))) (.var 1))) .nil)))))
def c_law_one_more_0 : ME := .comp (.tp [.nm 1, .nm 2, .nm 3]) (.tpl (.idx (.var 0) (.cst (.int 1)))) .none (.tup (.cons (.bin .add (.var 1) (.cst (.int 1))) (.cons (.cst (.int 0)) (.cons (.call f_law_one_more (.val (.var 3) .nil)) .nil)))) [1, 2, 3]
theorem c_law_one_more_0_m : c_law_one_more_0.mut = true := rfl
theorem c_law_one_more_0_p : c_law_one_more_0.path = false := rfl
/-- k16 -/
def b_law_one_more : Def := .code [false] 4 (.cons (.ife (.bi .isStr (.cons (.var 0) .nil)) (.cons (.ret (.var 0)) .nil) (.nil)) (.cons (.ret (.tup (.cons (.idx (.var 0) (.cst (.int 0))) (.cons (.bi .tuple (.cons (c_law_one_more_0) .nil)) .nil)))) .nil))
/-- k16 -/
def b_law_openings : Def := .code [false, false] 6 (.cons (.ife (.or (.bi .isStr (.cons (.var 0) .nil)) (.cmp .eq (.var 1) (.cst (.int 0)))) (.cons (.ret (.cst (.int 0))) .nil) (.nil)) (.cons (.par [2, 3] (.cons (.cst (.int 0)) (.cons (.bi .len (.cons (.idx (.var 0) (.cst (.int 1))) .nil)) .nil))) (.cons (.for_ (.nm 4) (.rng1 (.var 3)) (.cons (.set 5 false (.bin .fdv (.bin .sub (.bin .add (.bin .sub (.var 1) (.bin .md (.bin .sub (.var 4) (.idx (.var 0) (.cst (.int 0)))) (.var 3))) (.var 3)) (.cst (.int 1))) (.var 3))) (.cons (.set 2 false (.bin .add (.bin .add (.var 2) (.var 5)) (.call f_law_openings (.val (.idx (.idx (.idx (.var 0) (.cst (.int 1))) (.var 4)) (.cst (.int 2))) (.val (.var 5) .nil))))) .nil))) (.cons (.ret (.var 2)) .nil))))
/-- k01 k03 k04 k05 k07 k08 k09 k10 k14 k17 k18 k19 -/
def b_law_paths : Def := .code [false, false] 4 (.cons (.set 2 false (.lst (.nil))) (.cons (.ife (.not (.bi .isStr (.cons (.var 0) .nil))) (.cons (.for_ (.nm 3) (.rng1 (.bi .len (.cons (.idx (.var 0) (.cst (.int 1))) .nil))) (.cons (.set 2 false (.bin .add (.bin .add (.var 2) (.lst (.cons (.bin .add (.var 1) (.tup (.cons (.var 3) .nil))) .nil))) (.call f_law_paths (.val (.idx (.idx (.idx (.var 0) (.cst (.int 1))) (.var 3)) (.cst (.int 2))) (.val (.bin .add (.var 1) (.tup (.cons (.var 3) .nil))) .nil))))) .nil)) .nil) (.nil)) (.cons (.ret (.var 2)) .nil)))
/-- k15 -/
def b_law_plain : Def := .code [] 4 (.cons (.set 0 false (.tup (.cons (.cst (.int 0)) (.cons (.tup (.cons (.tup (.cons (.cst (.int 1)) (.cons (.cst (.int 0)) (.cons (.cst (.str (Str.ofString "a"))) .nil)))) (.cons (.tup (.cons (.cst (.int 2)) (.cons (.cst (.int 0)) (.cons (.tup (.cons (.cst (.int 0)) (.cons (.tup (.cons (.tup (.cons (.cst (.int 1)) (.cons (.cst (.int 0)) (.cons (.cst (.str (Str.ofString "b"))) .nil)))) (.cons (.tup (.cons (.cst (.int 1)) (.cons (.cst (.int 0)) (.cons (.cst (.str (Str.ofString "c"))) .nil)))) .nil))) .nil))) .nil)))) .nil))) .nil)))) (.cons (.set 1 false (.lst (.cons (.tup (.cons (.cst (.str (Str.ofString "push"))) (.cons (.tup (.cons (.cst (.int 0)) .nil)) .nil))) (.cons (.tup (.cons (.cst (.str (Str.ofString "out"))) (.cons (.tup (.cons (.cst (.int 0)) .nil)) (.cons (.cst (.str (Str.ofString "a"))) .nil)))) (.cons (.tup (.cons (.cst (.str (Str.ofString "push"))) (.cons (.tup (.cons (.cst (.int 1)) .nil)) .nil))) (.cons (.tup (.cons (.cst (.str (Str.ofString "push"))) (.cons (.tup (.cons (.cst (.int 1)) .nil)) .nil))) (.cons (.tup (.cons (.cst (.str (Str.ofString "push"))) (.cons (.tup (.cons (.cst (.int 1)) (.cons (.cst (.int 0)) .nil))) .nil))) (.cons (.tup (.cons (.cst (.str (Str.ofString "out"))) (.cons (.tup (.cons (.cst (.int 1)) (.cons (.cst (.int 0)) .nil))) (.cons (.cst (.str (Str.ofString "b"))) .nil)))) .nil)))))))) (.cons (.set 1 false (.bin .add (.var 1) (.lst (.cons (.tup (.cons (.cst (.str (Str.ofString "push"))) (.cons (.tup (.cons (.cst (.int 0)) .nil)) .nil))) (.cons (.tup (.cons (.cst (.str (Str.ofString "out"))) (.cons (.tup (.cons (.cst (.int 0)) .nil)) (.cons (.cst (.str (Str.ofString "a"))) .nil)))) (.cons (.tup (.cons (.cst (.str (Str.ofString "push"))) (.cons (.tup (.cons (.cst (.int 1)) .nil)) .nil))) (.cons (.tup (.cons (.cst (.str (Str.ofString "push"))) (.cons (.tup (.cons (.cst (.int 1)) .nil)) .nil))) (.cons (.tup (.cons (.cst (.str (Str.ofString "push"))) (.cons (.tup (.cons (.cst (.int 1)) (.cons (.cst (.int 1)) .nil))) .nil))) (.cons (.tup (.cons (.cst (.str (Str.ofString "out"))) (.cons (.tup (.cons (.cst (.int 1)) (.cons (.cst (.int 1)) .nil))) (.cons (.cst (.str (Str.ofString "c"))) .nil)))) .nil))))))))) (.cons (.set 2 false (.lst (.cons (.cmp .eq (.call f_fates (.val (.var 0) (.val (.cst (.int 12)) .nil))) (.var 1)) (.cons (.cmp .eq (.call f_after (.val (.var 0) (.val (.cst (.int 12)) .nil))) (.var 0)) (.cons (.cmp .eq (.call f_round_of (.val (.var 0) .nil)) (.tup (.cons (.cst (.int 4)) (.cons (.cst (.int 12)) .nil)))) (.cons (.cmp .eq (.call f_mean (.val (.var 0) .nil)) (.tup (.cons (.cst (.int 3)) (.cons (.cst (.int 1)) .nil)))) (.cons (.cmp .eq (.call f_left (.val (.var 0) (.val (.bin .mul (.cst (.int 12)) (.bin .pow (.cst (.int 10)) (.cst (.int 9)))) .nil))) (.bin .mul (.cst (.int 4)) (.bin .pow (.cst (.int 10)) (.cst (.int 9))))) .nil))))))) (.cons (.set 2 false (.bin .add (.var 2) (.lst (.cons (.cmp .eq (.call f_fate (.val (.var 0) (.val (.bin .add (.bin .mul (.cst (.int 12)) (.bin .pow (.cst (.int 10)) (.cst (.int 9)))) (.cst (.int 5))) .nil))) (.idx (.var 1) (.cst (.int 5)))) (.cons (.cmp .eq (.call f_leaving (.val (.var 0) (.val (.bin .pow (.cst (.int 10)) (.cst (.int 9))) .nil))) (.tup (.cons (.bin .sub (.bin .mul (.cst (.int 3)) (.bin .pow (.cst (.int 10)) (.cst (.int 9)))) (.cst (.int 1))) (.cons (.tup (.cons (.cst (.int 1)) (.cons (.cst (.int 1)) .nil))) (.cons (.cst (.str (Str.ofString "c"))) .nil))))) .nil))))) (.cons (.set 2 false (.bin .add (.var 2) (.lst (.cons (.cmp .eq (.call f_named (.val (.var 0) (.val (.cst (.str (Str.ofString "b"))) (.val (.bin .pow (.cst (.int 10)) (.cst (.int 9))) .nil)))) (.tup (.cons (.bin .sub (.bin .mul (.cst (.int 12)) (.bin .pow (.cst (.int 10)) (.cst (.int 9)))) (.cst (.int 7))) (.cons (.tup (.cons (.cst (.int 1)) (.cons (.cst (.int 0)) .nil))) .nil)))) (.cons (.cmp .eq (.call f_named (.val (.var 0) (.val (.cst (.str (Str.ofString "a"))) (.val (.cst (.int 3)) .nil)))) (.tup (.cons (.cst (.int 13)) (.cons (.tup (.cons (.cst (.int 0)) .nil)) .nil)))) .nil))))) (.cons (.set 2 false (.bin .add (.var 2) (.lst (.cons (.cmp .eq (.call f_pushed (.val (.var 0) (.val (.tup (.cons (.cst (.int 1)) .nil)) (.val (.bin .mul (.cst (.int 2)) (.bin .pow (.cst (.int 10)) (.cst (.int 9)))) .nil)))) (.bin .sub (.bin .mul (.cst (.int 6)) (.bin .pow (.cst (.int 10)) (.cst (.int 9)))) (.cst (.int 3)))) (.cons (.cmp .eq (.call f_pushed (.val (.var 0) (.val (.tup (.cons (.cst (.int 1)) (.cons (.cst (.int 1)) .nil))) (.val (.cst (.int 2)) .nil)))) (.cst (.int 22))) (.cons (.cmp .eq (.call f_left (.val (.var 0) (.val (.cst (.int 0)) .nil))) (.cst (.int 0))) .nil)))))) (.cons (.set 3 false (.tup (.cons (.cst (.int 1)) (.cons (.tup (.cons (.tup (.cons (.cst (.int 1)) (.cons (.cst (.int 0)) (.cons (.cst (.str (Str.ofString "a"))) .nil)))) (.cons (.tup (.cons (.cst (.int 2)) (.cons (.cst (.int 1)) (.cons (.tup (.cons (.cst (.int 0)) (.cons (.tup (.cons (.tup (.cons (.cst (.int 1)) (.cons (.cst (.int 1)) (.cons (.cst (.str (Str.ofString "b"))) .nil)))) (.cons (.tup (.cons (.cst (.int 1)) (.cons (.cst (.int 0)) (.cons (.cst (.str (Str.ofString "c"))) .nil)))) .nil))) .nil))) .nil)))) .nil))) .nil)))) (.cons (.set 2 false (.bin .add (.var 2) (.lst (.cons (.cmp .eq (.call f_fates (.val (.var 3) (.val (.cst (.int 3)) .nil))) (.lst (.cons (.tup (.cons (.cst (.str (Str.ofString "push"))) (.cons (.tup (.cons (.cst (.int 1)) .nil)) .nil))) (.cons (.tup (.cons (.cst (.str (Str.ofString "out"))) (.cons (.tup (.cons (.cst (.int 1)) (.cons (.cst (.int 0)) .nil))) (.cons (.cst (.str (Str.ofString "b"))) .nil)))) (.cons (.tup (.cons (.cst (.str (Str.ofString "push"))) (.cons (.tup (.cons (.cst (.int 0)) .nil)) .nil))) .nil))))) (.cons (.cmp .eq (.call f_parted (.val (.var 3) (.val (.var 0) .nil))) (.cst (.int 1))) .nil))))) (.cons (.ret (.cmp .nin (.cst (.bl false)) (.bin .add (.var 2) (.lst (.cons (.cmp .eq (.call f_after (.val (.var 3) (.val (.cst (.int 3)) .nil))) (.tup (.cons (.cst (.int 0)) (.cons (.tup (.cons (.tup (.cons (.cst (.int 1)) (.cons (.cst (.int 1)) (.cons (.cst (.str (Str.ofString "a"))) .nil)))) (.cons (.tup (.cons (.cst (.int 2)) (.cons (.cst (.int 0)) (.cons (.tup (.cons (.cst (.int 1)) (.cons (.tup (.cons (.tup (.cons (.cst (.int 1)) (.cons (.cst (.int 0)) (.cons (.cst (.str (Str.ofString "b"))) .nil)))) (.cons (.tup (.cons (.cst (.int 1)) (.cons (.cst (.int 0)) (.cons (.cst (.str (Str.ofString "c"))) .nil)))) .nil))) .nil))) .nil)))) .nil))) .nil)))) .nil))))) .nil))))))))))
/-- k04 -/
def b_law_pushes : Def := .code [true, false, false, false, false] 12 (.cons (.set 5 false (.call f_law_paths (.val (.var 1) (.val (.tup (.nil)) .nil)))) (.cons (.ife (.cmp .ne (.var 5) (.lst (.nil))) (.cons (.set 6 false (.idx (.var 5) (.call f_law_next (.io 0 (.val (.bi .len (.cons (.var 5) .nil)) .nil))))) (.cons (.set 7 false (.call f_pushed (.val (.var 1) (.val (.var 6) (.val (.var 2) .nil))))) (.cons (.ife (.and (.cmp .le (.var 7) (.bin .pow (.cst (.int 10)) (.cst (.int 18)))) (.cmp .ne (.call f_fate (.val (.var 1) (.val (.var 7) .nil))) (.tup (.cons (.cst (.str (Str.ofString "push"))) (.cons (.var 6) .nil))))) (.cons (.ret (.cst (.bl false))) .nil) (.nil)) (.cons (.ife (.cmp .lt (.call f_pushed (.val (.var 1) (.val (.var 6) (.val (.bin .add (.var 2) (.bi .int (.cons (.cmp .lt (.var 2) (.bin .pow (.cst (.int 10)) (.cst (.int 15)))) .nil))) .nil)))) (.var 7)) (.cons (.ret (.cst (.bl false))) .nil) (.nil)) (.cons (.ife (.and (.cmp .lt (.var 3) (.bin .pow (.cst (.int 10)) (.cst (.int 18)))) (.cmp .eq (.idx (.idx (.var 4) (.cst (.int 0))) (.cst (.int 0))) (.cst (.str (Str.ofString "push"))))) (.cons (.unp (.tp [.nm 8, .nm 9, .nm 10]) (.tup (.cons (.idx (.idx (.var 4) (.cst (.int 0))) (.cst (.int 1))) (.cons (.cst (.int 1)) (.cons (.bin .pow (.cst (.int 10)) (.cst (.int 15))) .nil))))) (.cons (.whl (.cmp .lt (.var 9) (.var 10)) (.cons (.set 11 false (.bin .fdv (.bin .add (.var 9) (.var 10)) (.cst (.int 2)))) (.cons (.unp (.tp [.nm 9, .nm 10]) (.ife (.cmp .lt (.call f_pushed (.val (.var 1) (.val (.var 8) (.val (.var 11) .nil)))) (.var 3)) (.tup (.cons (.bin .add (.var 11) (.cst (.int 1))) (.cons (.var 10) .nil))) (.tup (.cons (.var 9) (.cons (.var 11) .nil))))) .nil))) (.cons (.ife (.and (.cmp .ne (.call f_pushed (.val (.var 1) (.val (.var 8) (.val (.var 9) .nil)))) (.var 3)) (.cmp .ge (.call f_pushed (.val (.var 1) (.val (.var 8) (.val (.bin .pow (.cst (.int 10)) (.cst (.int 15))) .nil)))) (.var 3))) (.cons (.ret (.cst (.bl false))) .nil) (.nil)) .nil))) (.nil)) .nil))))) (.nil)) (.cons (.ret (.cst (.bl true))) .nil)))
/-- k01 k02 k03 k04 k05 k06 k07 k08 k09 k10 k11 k12 k14 k16 k17 k18 k19 k20 -/
def b_law_room : Def := .code [true, true, false, false] 10 (.cons (.ife (.or (.cmp .eq (.var 2) (.cst (.int 0))) (.cmp .eq (.idx (.var 1) (.cst (.int 0))) (.cst (.int 0)))) (.cons (.ret (.idx (.lst (.cons (.cst (.str (Str.ofString "a"))) (.cons (.cst (.str (Str.ofString "b"))) (.cons (.cst (.str (Str.ofString "ab"))) (.cons (.cst (.str (Str.ofString "zzzzzz"))) .nil))))) (.call f_law_next (.io 0 (.val (.cst (.int 4)) .nil))))) .nil) (.nil)) (.cons (.set 4 false (.bi .min (.cons (.idx (.var 1) (.cst (.int 0))) (.cons (.bin .add (.cst (.int 1)) (.call f_law_next (.io 0 (.val (.cst (.int 4)) .nil)))) .nil)))) (.cons (.put 1 (.nil) (.cst (.int 0)) (.bin .sub (.idx (.var 1) (.cst (.int 0))) (.var 4))) (.cons (.set 5 true (.lst (.nil))) (.cons (.for_ (.nm 6) (.rng1 (.var 4)) (.cons (.unp (.tp [.nm 8, .nm 9]) (.call f_law_door (.io 0 (.val (.var 3) .nil)))) (.cons (.set 7 false (.ife (.cmp .eq (.call f_law_next (.io 0 (.val (.cst (.int 2)) .nil))) (.cst (.int 0))) (.bin .sub (.var 2) (.cst (.int 1))) (.cst (.int 0)))) (.cons (.app 5 (.tup (.cons (.var 8) (.cons (.var 9) (.cons (.call f_law_room (.io 0 (.io 1 (.val (.var 7) (.val (.var 3) .nil))))) .nil))))) .nil)))) (.cons (.ret (.tup (.cons (.call f_law_next (.io 0 (.val (.var 4) .nil))) (.cons (.bi .tuple (.cons (.var 5) .nil)) .nil)))) .nil))))))
/-- k09 k10 k14 -/
def b_law_room_of : Def := .code [false, false] 4 (.cons (.set 2 false (.idx (.idx (.idx (.idx (.var 0) (.cst (.str (Str.ofString "node")))) (.cst (.int 1))) (.cst (.int 0))) (.cst (.int 2)))) (.cons (.for_ (.nm 3) (.tpl (.var 1)) (.cons (.ife (.or (.bi .isStr (.cons (.var 2) .nil)) (.not (.chn .le .lt (.cst (.int 0)) (.var 3) (.bi .len (.cons (.idx (.var 2) (.cst (.int 1))) .nil))))) (.cons (.ret (.cst .non)) .nil) (.nil)) (.cons (.set 2 false (.idx (.idx (.idx (.var 2) (.cst (.int 1))) (.var 3)) (.cst (.int 2)))) .nil))) (.cons (.ret (.var 2)) .nil)))
/-- k11 k12 -/
def b_law_rows : Def := .code [false] 5 (.cons (.ife (.bi .isStr (.cons (.var 0) .nil)) (.cons (.ret (.lst (.cons (.bin .add (.cst (.str (Str.ofString "out "))) (.var 0)) .nil))) .nil) (.nil)) (.cons (.set 1 false (.lst (.cons (.bin .add (.bin .add (.bin .add (.cst (.str (Str.ofString "room "))) (.bi .str (.cons (.idx (.var 0) (.cst (.int 0))) .nil))) (.cst (.str (Str.ofString " ")))) (.bi .str (.cons (.bi .len (.cons (.idx (.var 0) (.cst (.int 1))) .nil)) .nil))) .nil))) (.cons (.for_ (.tp [.nm 2, .nm 3, .nm 4]) (.tpl (.idx (.var 0) (.cst (.int 1)))) (.cons (.set 1 false (.bin .add (.bin .add (.var 1) (.lst (.cons (.bin .add (.bin .add (.bin .add (.cst (.str (Str.ofString "door "))) (.bi .str (.cons (.var 2) .nil))) (.cst (.str (Str.ofString " ")))) (.bi .str (.cons (.var 3) .nil))) .nil))) (.call f_law_rows (.val (.var 4) .nil)))) .nil)) (.cons (.ret (.var 1)) .nil))))
/-- k07 -/
def b_law_said : Def := .code [true] 2 (.cons (.set 1 false (.call f_law_step (.io 0 .nil))) (.cons (.ret (.ife (.cmp .eq (.idx (.var 1) (.cst (.int 0))) (.cst (.str (Str.ofString "out")))) (.idx (.var 1) (.cst (.int 2))) (.cst (.str (Str.ofString ""))))) .nil))
def c_law_size_0 : ME := .comp (.tp [.nm 1, .nm 2, .nm 3]) (.tpl (.idx (.var 0) (.cst (.int 1)))) .none (.bin .add (.cst (.int 1)) (.call f_law_size (.val (.var 3) .nil))) [1, 2, 3]
theorem c_law_size_0_m : c_law_size_0.mut = true := rfl
theorem c_law_size_0_p : c_law_size_0.path = false := rfl
/-- k20 -/
def b_law_size : Def := .code [false] 4 (.cons (.ife (.bi .isStr (.cons (.var 0) .nil)) (.cons (.ret (.cst (.int 0))) .nil) (.nil)) (.cons (.ret (.bi .sum (.cons (c_law_size_0) .nil))) .nil))
def c_law_small_0 : ME := .comp (.tp [.nm 1, .nm 2, .nm 3]) (.tpl (.idx (.var 0) (.cst (.int 1)))) .none (.tup (.cons (.bin .add (.cst (.int 1)) (.bin .md (.var 1) (.cst (.int 50)))) (.cons (.cst (.int 0)) (.cons (.call f_law_small (.val (.var 3) .nil)) .nil)))) [1, 2, 3]
theorem c_law_small_0_m : c_law_small_0.mut = true := rfl
theorem c_law_small_0_p : c_law_small_0.path = false := rfl
/-- k16 -/
def b_law_small : Def := .code [false] 4 (.cons (.ife (.bi .isStr (.cons (.var 0) .nil)) (.cons (.ret (.var 0)) .nil) (.nil)) (.cons (.ret (.tup (.cons (.idx (.var 0) (.cst (.int 0))) (.cons (.bi .tuple (.cons (c_law_small_0) .nil)) .nil)))) .nil))
/-- k02 k03 k04 k06 k07 k08 k09 k10 k14 k18 k19 -/
def b_law_step : Def := .prim [true] primStep
def c_law_thawed_0 : ME := .comp (.tp [.nm 1, .nm 2, .nm 3]) (.tpl (.idx (.var 0) (.cst (.int 1)))) .none (.lst (.cons (.var 1) (.cons (.var 2) (.cons (.call f_law_thawed (.val (.var 3) .nil)) .nil)))) [1, 2, 3]
theorem c_law_thawed_0_m : c_law_thawed_0.mut = true := rfl
theorem c_law_thawed_0_p : c_law_thawed_0.path = false := rfl
/-- k02 k03 k04 k06 k07 k08 k09 k10 k14 k18 k19 -/
def b_law_thawed : Def := .code [false] 4 (.cons (.ife (.bi .isStr (.cons (.var 0) .nil)) (.cons (.ret (.var 0)) .nil) (.nil)) (.cons (.ret (.lst (.cons (.idx (.var 0) (.cst (.int 0))) (.cons (c_law_thawed_0) .nil)))) .nil))
def c_law_tries_0 : ME := .comp (.nm 4) (.lst (.call f_law_tries (.val (.bin .sub (.var 0) (.cst (.int 1))) (.val (.bin .sub (.var 1) (.bi .abs (.cons (.var 3) .nil))) .nil)))) .none (.bin .add (.tup (.cons (.var 3) .nil)) (.var 4)) [4]
theorem c_law_tries_0_m : c_law_tries_0.mut = true := rfl
theorem c_law_tries_0_p : c_law_tries_0.path = false := rfl
/-- k08 -/
def b_law_tries : Def := .code [false, false] 5 (.cons (.ife (.cmp .eq (.var 0) (.cst (.int 0))) (.cons (.ret (.ife (.cmp .eq (.var 1) (.cst (.int 0))) (.lst (.cons (.tup (.nil)) .nil)) (.lst (.nil)))) .nil) (.nil)) (.cons (.set 2 false (.lst (.nil))) (.cons (.for_ (.nm 3) (.rng2 (.bin .sub (.cst (.int 0)) (.var 1)) (.bin .add (.var 1) (.cst (.int 1)))) (.cons (.set 2 false (.bin .add (.var 2) (c_law_tries_0))) .nil)) (.cons (.ret (.var 2)) .nil))))
def c_law_turned_0 : ME := .comp (.tp [.nm 3, .nm 4, .nm 5]) (.tpl (.idx (.var 1) (.cst (.int 1)))) .none (.tup (.cons (.var 3) (.cons (.var 4) (.cons (.call f_law_turned (.io 0 (.val (.var 5) .nil))) .nil)))) [3, 4, 5]
theorem c_law_turned_0_m : c_law_turned_0.mut = true := rfl
theorem c_law_turned_0_p : c_law_turned_0.path = false := rfl
/-- k20 -/
def b_law_turned : Def := .code [true, false] 7 (.cons (.ife (.bi .isStr (.cons (.var 1) .nil)) (.cons (.ret (.var 1)) .nil) (.nil)) (.cons (.set 2 false (c_law_turned_0)) (.cons (.set 6 false (.call f_law_next (.io 0 (.val (.bi .len (.cons (.var 2) .nil)) .nil)))) (.cons (.ret (.tup (.cons (.bin .md (.bin .sub (.idx (.var 1) (.cst (.int 0))) (.var 6)) (.bi .len (.cons (.var 2) .nil))) (.cons (.bi .tuple (.cons (.bin .add (.slc (.var 2) (.some (.var 6)) .none) (.slc (.var 2) .none (.some (.var 6)))) .nil)) .nil)))) .nil))))
def c_law_two_0 : ME := .comp (.nm 4) (.chr (.var 2)) (.some (.chn .le .le (.cst (.str (Str.ofString "0"))) (.var 4) (.cst (.str (Str.ofString "9"))))) (.var 4) [4]
theorem c_law_two_0_m : c_law_two_0.mut = true := rfl
theorem c_law_two_0_p : c_law_two_0.path = false := rfl
/-- k12 -/
def b_law_two : Def := .code [false, false] 5 (.cons (.ife (.or (.cmp .ne (.bi .len (.cons (.var 0) .nil)) (.cst (.int 3))) (.cmp .ne (.idx (.var 0) (.cst (.int 0))) (.var 1))) (.cons (.ret (.cst .non)) .nil) (.nil)) (.cons (.for_ (.nm 2) (.lst (.slc (.var 0) (.some (.cst (.int 1))) .none)) (.cons (.set 3 false (c_law_two_0)) (.cons (.ife (.or (.not (.chn .le .le (.cst (.int 1)) (.bi .len (.cons (.var 2) .nil)) (.cst (.int 2)))) (.or (.cmp .lt (.bi .len (.cons (.var 3) .nil)) (.bi .len (.cons (.var 2) .nil))) (.and (.cmp .ne (.var 2) (.cst (.str (Str.ofString "0")))) (.cmp .eq (.idx (.var 2) (.cst (.int 0))) (.cst (.str (Str.ofString "0"))))))) (.cons (.ret (.cst .non)) .nil) (.nil)) .nil))) (.cons (.ret (.tup (.cons (.bi .int (.cons (.idx (.var 0) (.cst (.int 1))) .nil)) (.cons (.bi .int (.cons (.idx (.var 0) (.cst (.int 2))) .nil)) .nil)))) .nil)))
/-- k01 -/
def b_law_with : Def := .code [false, false, false] 8 (.cons (.ife (.cmp .eq (.var 1) (.tup (.nil))) (.cons (.ret (.var 2)) .nil) (.nil)) (.cons (.unp (.tp [.nm 3, .nm 4]) (.var 0)) (.cons (.unp (.tp [.nm 5, .nm 6, .nm 7]) (.idx (.var 4) (.idx (.var 1) (.cst (.int 0))))) (.cons (.ret (.tup (.cons (.var 3) (.cons (.bin .add (.bin .add (.slc (.var 4) .none (.some (.idx (.var 1) (.cst (.int 0))))) (.tup (.cons (.tup (.cons (.var 5) (.cons (.var 6) (.cons (.call f_law_with (.val (.var 7) (.val (.slc (.var 1) (.some (.cst (.int 1))) .none) (.val (.var 2) .nil)))) .nil)))) .nil))) (.slc (.var 4) (.some (.bin .add (.idx (.var 1) (.cst (.int 0))) (.cst (.int 1)))) .none)) .nil)))) .nil))))
/-- k01 k02 k04 k13 k14 k15 k17 k18 -/
def b_after : Def := .code [false, false] 2 (.cons (.drop (.call f_need_house (.val (.var 0) .nil))) (.cons (.drop (.call f_need_far (.val (.var 1) (.val (.cst (.int 0)) (.val (.cst (.int 1000000000000000000)) .nil))))) (.cons (.ret (.call f_behind (.val (.var 0) (.val (.var 1) .nil)))) .nil)))
/-- k01 k02 k03 k04 k05 k06 k07 k08 k09 k10 k11 k12 k13 k14 k15 k16 k17 k18 k19 k20 -/
def b_all_paths : Def := .code [false, false] 5 (.cons (.set 2 true (.lst (.nil))) (.cons (.ife (.not (.call f_is_out (.val (.var 0) .nil))) (.cons (.for_ (.tp [.nm 3, .nm 4]) (.enmT (.idx (.var 0) (.cst (.int 1)))) (.cons (.ext 2 (.bin .add (.lst (.cons (.bin .add (.var 1) (.tup (.cons (.var 3) .nil))) .nil)) (.call f_all_paths (.val (.idx (.var 4) (.cst (.int 2))) (.val (.bin .add (.var 1) (.tup (.cons (.var 3) .nil))) .nil))))) .nil)) .nil) (.nil)) (.cons (.ret (.mv 2)) .nil)))
/-- k01 k02 k04 k09 k10 k13 k14 k15 k17 k18 -/
def b_behind : Def := .code [false, false] 16 (.cons (.ife (.call f_is_out (.val (.var 0) .nil)) (.cons (.ret (.var 0)) .nil) (.nil)) (.cons (.unp (.tp [.nm 2, .nm 3]) (.var 0)) (.cons (.set 4 false (.call f_leavings_by (.val (.var 0) (.val (.var 1) .nil)))) (.cons (.set 5 false (.bin .sub (.var 1) (.call f_walkers_by (.val (.var 0) (.val (.var 4) .nil))))) (.cons (.set 6 false (.bin .md (.bin .add (.var 2) (.var 4)) (.bi .len (.cons (.var 3) .nil)))) (.cons (.set 7 true (.lst (.nil))) (.cons (.for_ (.tp [.nm 8, .tp [.nm 12, .nm 13, .nm 14]]) (.enmT (.var 3)) (.cons (.set 9 false (.call f_left_by (.val (.var 0) (.val (.var 8) (.val (.var 4) .nil))))) (.cons (.set 10 false (.ife (.cmp .eq (.var 9) (.cst (.int 0))) (.var 13) (.cst (.int 0)))) (.cons (.set 11 false (.call f_walkers_by (.val (.var 14) (.val (.var 9) .nil)))) (.cons (.ife (.cmp .eq (.var 8) (.var 6)) (.cons (.set 15 false (.bi .min (.cons (.var 5) (.cons (.bin .sub (.var 12) (.var 10)) .nil)))) (.cons (.aug 10 .add (.var 15)) (.cons (.aug 11 .add (.bin .sub (.var 5) (.var 15))) .nil))) (.nil)) (.cons (.app 7 (.tup (.cons (.var 12) (.cons (.var 10) (.cons (.call f_behind (.val (.var 14) (.val (.var 11) .nil))) .nil))))) .nil)))))) (.cons (.ret (.tup (.cons (.var 6) (.cons (.bi .tuple (.cons (.var 7) .nil)) .nil)))) .nil))))))))
/-- k01 k05 k08 k13 k15 k19 -/
def b_bounds : Def := .code [false, false] 5 (.cons (.unp (.tp [.nm 2, .nm 3, .nm 4]) (.call f_door_at (.val (.var 0) (.val (.var 1) .nil)))) (.cons (.ret (.tup (.cons (.bin .sub (.ife (.cmp .eq (.var 3) (.var 2)) (.cst (.int 1)) (.bin .add (.var 3) (.cst (.int 1)))) (.var 2)) (.cons (.bin .sub (.cst (.int 99)) (.var 2)) .nil)))) .nil))
/-- k01 k03 k04 k05 k13 k15 k17 k18 -/
def b_came_ahead : Def := .code [false, false, false] 9 (.cons (.ife (.cmp .eq (.var 1) (.tup (.nil))) (.cons (.ret (.var 2)) .nil) (.nil)) (.cons (.set 3 false (.call f_room_at (.val (.var 0) (.val (.slc (.var 1) .none (.some (.cst (.int (-1))))) .nil)))) (.cons (.unp (.tp [.nm 4, .nm 5, .nm 6]) (.idx (.idx (.var 3) (.cst (.int 1))) (.idx (.var 1) (.cst (.int (-1)))))) (.cons (.set 7 false (.call f_leavings_by (.val (.var 6) (.val (.var 2) .nil)))) (.cons (.set 8 false (.bin .add (.bin .sub (.var 2) (.call f_walkers_by (.val (.var 6) (.val (.var 7) .nil)))) (.call f_opening (.val (.idx (.idx (.var 3) (.cst (.int 1))) (.idx (.var 1) (.cst (.int (-1))))) (.val (.var 7) .nil))))) (.cons (.ret (.call f_came_ahead (.val (.var 0) (.val (.slc (.var 1) .none (.some (.cst (.int (-1))))) (.val (.bin .add (.call f_visit_ahead (.val (.var 3) (.val (.idx (.var 1) (.cst (.int (-1)))) (.val (.var 7) .nil)))) (.var 8)) .nil))))) .nil))))))
/-- k01 k05 k08 k13 k15 k19 -/
def b_changed : Def := .code [false, false] 7 (.cons (.for_ (.tp [.nm 2, .nm 3]) (.zipT (.call f_all_paths (.val (.var 0) (.val (.cst (.tup [])) .nil))) (.var 1)) (.cons (.unp (.tp [.nm 4, .nm 5, .nm 6]) (.call f_door_at (.val (.var 0) (.val (.var 2) .nil)))) (.cons (.set 0 false (.call f_with_door (.val (.var 0) (.val (.var 2) (.val (.bin .add (.var 4) (.var 3)) (.val (.ife (.cmp .eq (.var 5) (.var 4)) (.bin .add (.var 5) (.var 3)) (.var 5)) .nil)))))) .nil))) (.cons (.ret (.var 0)) .nil))
def c_changes_0 : ME := .comp (.nm 9) (.lst (.slc (.var 8) .none (.some (.cst (.int 1))))) .none (.bin .add (.tup (.cons (.var 7) .nil)) (.var 9)) [9]
theorem c_changes_0_m : c_changes_0.mut = true := rfl
theorem c_changes_0_p : c_changes_0.path = false := rfl
/-- k01 k05 k08 k13 k15 k19 -/
def b_changes : Def := .code [false, false, false, false] 10 (.cons (.ife (.cmp .eq (.var 0) (.lst (.nil))) (.cons (.ret (.ife (.and (.cmp .eq (.var 3) (.cst (.int 0))) (.cmp .eq (.var 2) (.cst (.int 0)))) (.lst (.cons (.tup (.nil)) .nil)) (.lst (.nil)))) .nil) (.nil)) (.cons (.set 4 true (.lst (.nil))) (.cons (.unp (.tp [.nm 5, .nm 6]) (.idx (.var 1) (.cst (.int 0)))) (.cons (.for_ (.nm 7) (.rng2 (.bi .max (.cons (.var 5) (.cons (.bin .sub (.cst (.int 0)) (.var 3)) .nil))) (.bin .add (.bi .min (.cons (.var 6) (.cons (.var 3) .nil))) (.cst (.int 1)))) (.cons (.set 8 false (.call f_changes (.val (.slc (.var 0) (.some (.cst (.int 1))) .none) (.val (.slc (.var 1) (.some (.cst (.int 1))) .none) (.val (.bin .sub (.var 2) (.bin .mul (.var 7) (.idx (.var 0) (.cst (.int 0))))) (.val (.bin .sub (.var 3) (.bi .abs (.cons (.var 7) .nil))) .nil)))))) (.cons (.ext 4 (c_changes_0)) .nil))) (.cons (.ret (.mv 4)) .nil)))))
def c_clean_0 : ME := .comp (.tp [.nm 1, .nm 2, .nm 3]) (.tpl (.idx (.var 0) (.cst (.int 1)))) .none (.tup (.cons (.var 1) (.cons (.cst (.int 0)) (.cons (.call f_clean (.val (.var 3) .nil)) .nil)))) [1, 2, 3]
theorem c_clean_0_m : c_clean_0.mut = true := rfl
theorem c_clean_0_p : c_clean_0.path = false := rfl
/-- k01 k06 k07 k13 k15 k16 k18 k20 -/
def b_clean : Def := .code [false] 4 (.cons (.ife (.call f_is_out (.val (.var 0) .nil)) (.cons (.ret (.var 0)) .nil) (.nil)) (.cons (.ret (.tup (.cons (.idx (.var 0) (.cst (.int 0))) (.cons (.bi .tuple (.cons (c_clean_0) .nil)) .nil)))) .nil))
/-- k01 k03 k04 k05 k08 k09 k10 k13 k14 k15 k17 k18 k19 -/
def b_door_at : Def := .code [false, false] 2 (.cons (.ife (.cmp .eq (.bi .len (.cons (.var 1) .nil)) (.cst (.int 0))) (.cons (.stuck) .nil) (.nil)) (.cons (.drop (.call f_room_at (.val (.var 0) (.val (.var 1) .nil)))) (.cons (.ret (.idx (.idx (.call f_room_at (.val (.var 0) (.val (.slc (.var 1) .none (.some (.cst (.int (-1))))) .nil))) (.cst (.int 1))) (.idx (.var 1) (.cst (.int (-1)))))) .nil)))
/-- k02 k04 k17 -/
def b_fate : Def := .code [false, false] 2 (.cons (.drop (.call f_need_house (.val (.var 0) .nil))) (.cons (.drop (.call f_need_far (.val (.var 1) (.val (.cst (.int 0)) (.val (.cst (.int 1000000000000000000)) .nil))))) (.cons (.ret (.idx (.call f_walk (.val (.call f_behind (.val (.var 0) (.val (.var 1) .nil))) (.val (.tup (.nil)) .nil))) (.cst (.int 1)))) .nil)))
/-- k02 k04 k17 -/
def b_fates : Def := .code [false, false] 5 (.cons (.drop (.call f_need_house (.val (.var 0) .nil))) (.cons (.ife (.not (.chn .le .le (.cst (.int 0)) (.var 1) (.cst (.int 300)))) (.cons (.stuck) .nil) (.nil)) (.cons (.set 2 true (.lst (.nil))) (.cons (.for_ (.nm 3) (.rng1 (.var 1)) (.cons (.unp (.tp [.nm 0, .nm 4]) (.call f_walk (.val (.var 0) (.val (.tup (.nil)) .nil)))) (.cons (.app 2 (.var 4)) .nil))) (.cons (.ret (.mv 2)) .nil)))))
def c_fitted_0 : ME := .comp (.nm 5) (.lst (.call f_all_paths (.val (.var 0) (.val (.cst (.tup [])) .nil)))) .none (.call f_bounds (.val (.var 0) (.val (.var 5) .nil))) [5]
theorem c_fitted_0_m : c_fitted_0.mut = true := rfl
theorem c_fitted_0_p : c_fitted_0.path = false := rfl
/-- k01 k05 k08 k13 k15 k19 -/
def b_fitted : Def := .code [false, false, false] 9 (.cons (.drop (.call f_need_house (.val (.var 0) .nil))) (.cons (.drop (.call f_need_far (.val (.var 1) (.val (.cst (.int 1)) (.val (.cst (.int 1000000000000000)) .nil))))) (.cons (.drop (.call f_need_far (.val (.var 2) (.val (.cst (.int 0)) (.val (.cst (.int 1000000000000000000)) .nil))))) (.cons (.set 3 false (.call f_openings (.val (.var 0) (.val (.var 1) .nil)))) (.cons (.set 4 false (c_fitted_0)) (.cons (.set 6 false (.bin .sub (.bin .add (.var 2) (.cst (.int 1))) (.call f_walkers_by (.val (.var 0) (.val (.var 1) .nil))))) (.cons (.for_ (.nm 7) (.rng1 (.bin .add (.cst (.int 4)) (.cst (.int 1)))) (.cons (.set 8 false (.call f_changes (.val (.var 3) (.val (.var 4) (.val (.var 6) (.val (.var 7) .nil)))))) (.cons (.ife (.cmp .ne (.var 8) (.lst (.nil))) (.cons (.ret (.call f_changed (.val (.var 0) (.val (.idx (.var 8) (.cst (.int 0))) .nil)))) .nil) (.nil)) .nil))) (.cons (.ret (.cst .non)) .nil))))))))
/-- k01 k06 k07 k13 k15 k16 k17 k18 k20 -/
def b_greatest_both : Def := .code [false, false] 2 (.cons (.whl (.cmp .ne (.var 1) (.cst (.int 0))) (.cons (.par [0, 1] (.cons (.var 1) (.cons (.bin .md (.var 0) (.var 1)) .nil))) .nil)) (.cons (.ret (.var 0)) .nil))
/-- k01 k02 k03 k04 k05 k06 k07 k08 k09 k10 k11 k12 k13 k14 k15 k16 k17 k18 k19 k20 -/
def b_is_door : Def := .code [false] 1 (.cons (.ret (.and (.cmp .eq (.bi .len (.cons (.var 0) .nil)) (.cst (.int 3))) (.and (.chn .le .le (.cst (.int 1)) (.idx (.var 0) (.cst (.int 0))) (.cst (.int 99))) (.chn .le .le (.cst (.int 0)) (.idx (.var 0) (.cst (.int 1))) (.idx (.var 0) (.cst (.int 0))))))) .nil)
def c_is_name_0 : ME := .comp (.nm 1) (.chr (.var 0)) .none (.cmp .inn (.var 1) (.cst (.str (Str.ofString "abcdefghijklmnopqrstuvwxyz")))) [1]
theorem c_is_name_0_m : c_is_name_0.mut = true := rfl
theorem c_is_name_0_p : c_is_name_0.path = false := rfl
/-- k01 k02 k03 k04 k05 k06 k07 k08 k09 k10 k11 k12 k13 k14 k15 k16 k17 k18 k19 k20 -/
def b_is_name : Def := .code [false] 2 (.cons (.ret (.and (.chn .le .le (.cst (.int 1)) (.bi .len (.cons (.var 0) .nil)) (.cst (.int 6))) (.bi .all (.cons (c_is_name_0) .nil)))) .nil)
/-- k01 k02 k03 k04 k05 k06 k07 k08 k09 k10 k11 k12 k13 k14 k15 k16 k17 k18 k19 k20 -/
def b_is_out : Def := .code [false] 1 (.cons (.ret (.bi .isStr (.cons (.var 0) .nil))) .nil)
def c_is_room_0 : ME := .comp (.nm 1) (.tpl (.idx (.var 0) (.cst (.int 1)))) .none (.call f_is_door (.val (.var 1) .nil)) [1]
theorem c_is_room_0_m : c_is_room_0.mut = true := rfl
theorem c_is_room_0_p : c_is_room_0.path = false := rfl
/-- k01 k02 k03 k04 k05 k06 k07 k08 k09 k10 k11 k12 k13 k14 k15 k16 k17 k18 k19 k20 -/
def b_is_room : Def := .code [false] 2 (.cons (.ife (.call f_is_out (.val (.var 0) .nil)) (.cons (.ret (.call f_is_name (.val (.var 0) .nil))) .nil) (.nil)) (.cons (.ife (.or (.cmp .ne (.bi .len (.cons (.var 0) .nil)) (.cst (.int 2))) (.or (.not (.chn .le .le (.cst (.int 1)) (.bi .len (.cons (.idx (.var 0) (.cst (.int 1))) .nil)) (.cst (.int 4)))) (.not (.chn .le .lt (.cst (.int 0)) (.idx (.var 0) (.cst (.int 0))) (.bi .len (.cons (.idx (.var 0) (.cst (.int 1))) .nil)))))) (.cons (.ret (.cst (.bl false))) .nil) (.nil)) (.cons (.ret (.bi .all (.cons (c_is_room_0) .nil))) .nil)))
def c_law_k01_0 : ME := .comp (.nm 8) (.lst (.var 4)) (.some (.and (.cmp .gt (.var 8) (.var 5)) (.cmp .ne (.slc (.var 8) .none (.some (.bi .len (.cons (.var 5) .nil)))) (.var 5)))) (.var 8) [8]
theorem c_law_k01_0_m : c_law_k01_0.mut = true := rfl
theorem c_law_k01_0_p : c_law_k01_0.path = false := rfl
/-- k01 -/
def b_law_k01 : Def := .code [false] 12 (.cons (.set 1 true (.call f_law_mix (.val (.var 0) (.val (.cst (.int 3)) .nil)))) (.cons (.for_ (.nm 2) (.rng1 (.cst (.int 6))) (.cons (.set 3 false (.call f_law_house (.io 1 (.val (.cst (.int 5)) .nil)))) (.cons (.set 4 false (.bin .add (.lst (.cons (.tup (.nil)) .nil)) (.call f_law_paths (.val (.var 3) (.val (.tup (.nil)) .nil))))) (.cons (.set 5 false (.idx (.var 4) (.call f_law_next (.io 1 (.val (.bi .len (.cons (.var 4) .nil)) .nil))))) (.cons (.set 6 false (.call f_law_with (.val (.var 3) (.val (.var 5) (.val (.call f_law_bad (.io 1 (.val (.call f_law_at (.val (.var 3) (.val (.var 5) .nil))) .nil))) .nil))))) (.cons (.ife (.cmp .eq (.call f_law_next (.io 1 (.val (.cst (.int 2)) .nil))) (.cst (.int 0))) (.cons (.set 7 false (c_law_k01_0)) (.cons (.ife (.cmp .ne (.var 7) (.lst (.nil))) (.cons (.set 6 false (.call f_law_with (.val (.var 6) (.val (.idx (.var 7) (.call f_law_next (.io 1 (.val (.bi .len (.cons (.var 7) .nil)) .nil)))) (.val (.cst (.str (Str.ofString ""))) .nil))))) .nil) (.nil)) .nil)) (.nil)) (.cons (.ife (.cmp .ne (.call f_law_refusals (.val (.var 6) .nil)) (.bin .mul (.lst (.cons (.tup (.cons (.cst (.str (Str.ofString "house"))) (.cons (.var 5) .nil))) .nil)) (.cst (.int 15)))) (.cons (.ret (.cst (.bl false))) .nil) (.nil)) .nil))))))) (.cons (.set 9 false (.tup (.cons (.cst (.int 0)) (.cons (.bin .mul (.tup (.cons (.tup (.cons (.cst (.int 1)) (.cons (.cst (.int 0)) (.cons (.cst (.str (Str.ofString "a"))) .nil)))) .nil)) (.cst (.int 4))) .nil)))) (.cons (.set 10 false (.tup (.cons (.cst (.int 0)) (.cons (.tup (.cons (.tup (.cons (.cst (.int 1)) (.cons (.cst (.int 0)) (.cons (.var 9) .nil)))) (.cons (.tup (.cons (.cst (.int 1)) (.cons (.cst (.int 0)) (.cons (.var 9) .nil)))) (.cons (.tup (.cons (.cst (.int 1)) (.cons (.cst (.int 0)) (.cons (.cst (.str (Str.ofString "a"))) .nil)))) .nil)))) .nil)))) (.cons (.ife (.cmp .ne (.call f_law_refusals (.val (.tup (.cons (.cst (.int 0)) (.cons (.tup (.cons (.tup (.cons (.cst (.int 1)) (.cons (.cst (.int 0)) (.cons (.var 10) .nil)))) (.cons (.tup (.cons (.cst (.int 1)) (.cons (.cst (.int 0)) (.cons (.cst (.str (Str.ofString "b"))) .nil)))) .nil))) .nil))) .nil)) (.bin .mul (.lst (.cons (.tup (.cons (.cst (.str (Str.ofString "house"))) (.cons (.tup (.nil)) .nil))) .nil)) (.cst (.int 15)))) (.cons (.ret (.cst (.bl false))) .nil) (.nil)) (.cons (.set 11 false (.tup (.cons (.cst (.int 0)) (.cons (.bin .add (.bin .mul (.tup (.cons (.tup (.cons (.cst (.int 1)) (.cons (.cst (.int 0)) (.cons (.var 9) .nil)))) .nil)) (.cst (.int 3))) (.tup (.cons (.tup (.cons (.cst (.int 1)) (.cons (.cst (.int 0)) (.cons (.cst (.str (Str.ofString ""))) .nil)))) .nil))) .nil)))) (.cons (.ife (.or (.cmp .ne (.call f_fates (.val (.var 10) (.val (.cst (.int 1)) .nil))) (.lst (.cons (.tup (.cons (.cst (.str (Str.ofString "push"))) (.cons (.tup (.cons (.cst (.int 0)) .nil)) .nil))) .nil))) (.cmp .ne (.call f_law_refusals (.val (.var 11) .nil)) (.bin .mul (.lst (.cons (.tup (.cons (.cst (.str (Str.ofString "house"))) (.cons (.tup (.cons (.cst (.int 3)) .nil)) .nil))) .nil)) (.cst (.int 15))))) (.cons (.ret (.cst (.bl false))) .nil) (.nil)) (.cons (.ret (.cmp .eq (.call f_fates (.val (.tup (.cons (.cst (.int 0)) (.cons (.tup (.cons (.tup (.cons (.cst (.int 1)) (.cons (.cst (.int 0)) (.cons (.var 10) .nil)))) .nil)) .nil))) (.val (.cst (.int 1)) .nil))) (.lst (.cons (.tup (.cons (.cst (.str (Str.ofString "push"))) (.cons (.tup (.cons (.cst (.int 0)) .nil)) .nil))) .nil)))) .nil))))))))
/-- k04 -/
def b_law_k04 : Def := .code [false] 12 (.cons (.set 1 true (.call f_law_mix (.val (.var 0) (.val (.cst (.int 11)) .nil)))) (.cons (.for_ (.nm 2) (.rng1 (.cst (.int 1))) (.cons (.set 3 false (.call f_law_house (.io 1 (.val (.idx (.lst (.cons (.cst (.int 3)) (.cons (.cst (.int 9)) .nil))) (.call f_law_next (.io 1 (.val (.cst (.int 2)) .nil)))) .nil)))) (.cons (.set 4 false (.idx (.lst (.cons (.call f_law_next (.io 1 (.val (.bin .pow (.cst (.int 10)) (.cst (.int 18))) .nil))) (.cons (.bin .pow (.cst (.int 10)) (.cst (.int 18))) .nil))) (.bin .fdv (.call f_law_next (.io 1 (.val (.cst (.int 5)) .nil))) (.cst (.int 4))))) (.cons (.set 5 false (.call f_after (.val (.var 3) (.val (.var 4) .nil)))) (.cons (.par [8, 9] (.cons (.call f_law_thawed (.val (.var 5) .nil)) (.cons (.lst (.nil)) .nil))) (.cons (.for_ (.nm 6) (.rng1 (.cst (.int 30))) (.cons (.app 9 (.call f_law_step (.io 8 .nil))) .nil)) (.cons (.ife (.or (.not (.call f_law_alike (.val (.call f_fates (.val (.var 5) (.val (.cst (.int 30)) .nil))) (.val (.frz 9) .nil)))) (.and (.cmp .lt (.var 4) (.bin .pow (.cst (.int 10)) (.cst (.int 18)))) (.not (.call f_law_alike (.val (.call f_fate (.val (.var 3) (.val (.var 4) .nil))) (.val (.idx (.var 9) (.cst (.int 0))) .nil)))))) (.cons (.ret (.cst (.bl false))) .nil) (.nil)) (.cons (.ife (.and (.cmp .le (.bin .add (.var 4) (.cst (.int 30))) (.bin .pow (.cst (.int 10)) (.cst (.int 18)))) (.not (.call f_law_alike (.val (.call f_after (.val (.var 3) (.val (.bin .add (.var 4) (.cst (.int 30))) .nil))) (.val (.call f_law_frozen (.io 8 .nil)) .nil))))) (.cons (.ret (.cst (.bl false))) .nil) (.nil)) (.cons (.set 7 false (.bin .add (.cst (.int 1)) (.call f_law_next (.io 1 (.val (.bin .pow (.cst (.int 10)) (.cst (.int 15))) .nil))))) (.cons (.unp (.tp [.nm 6, .nm 10, .nm 11]) (.call f_leaving (.val (.var 3) (.val (.var 7) .nil)))) (.cons (.ife (.and (.cmp .le (.var 6) (.bin .pow (.cst (.int 10)) (.cst (.int 18)))) (.cmp .ne (.call f_fate (.val (.var 3) (.val (.var 6) .nil))) (.tup (.cons (.cst (.str (Str.ofString "out"))) (.cons (.var 10) (.cons (.var 11) .nil)))))) (.cons (.ret (.cst (.bl false))) .nil) (.nil)) (.cons (.ife (.and (.cmp .lt (.var 6) (.bin .pow (.cst (.int 10)) (.cst (.int 18)))) (.cmp .ne (.call f_left (.val (.var 3) (.val (.var 6) .nil))) (.bin .sub (.var 7) (.cst (.int 1))))) (.cons (.ret (.cst (.bl false))) .nil) (.nil)) (.cons (.unp (.tp [.nm 6, .nm 10]) (.call f_named (.val (.var 3) (.val (.var 11) (.val (.var 7) .nil))))) (.cons (.ife (.and (.cmp .lt (.var 6) (.bin .pow (.cst (.int 10)) (.cst (.int 18)))) (.cmp .ne (.call f_fate (.val (.var 3) (.val (.var 6) .nil))) (.tup (.cons (.cst (.str (Str.ofString "out"))) (.cons (.var 10) (.cons (.var 11) .nil)))))) (.cons (.ret (.cst (.bl false))) .nil) (.nil)) (.cons (.ife (.not (.call f_law_pushes (.io 1 (.val (.var 3) (.val (.var 7) (.val (.var 4) (.val (.frz 9) .nil))))))) (.cons (.ret (.cst (.bl false))) .nil) (.nil)) .nil))))))))))))))) (.cons (.ret (.cst (.bl true))) .nil)))
/-- k06 -/
def b_law_k06 : Def := .code [false] 12 (.cons (.set 1 true (.call f_law_mix (.val (.var 0) (.val (.cst (.int 17)) .nil)))) (.cons (.for_ (.nm 2) (.rng1 (.cst (.int 3))) (.cons (.set 3 false (.call f_law_house (.io 1 (.val (.idx (.lst (.cons (.cst (.int 2)) (.cons (.cst (.int 3)) .nil))) (.call f_law_next (.io 1 (.val (.cst (.int 2)) .nil)))) .nil)))) (.cons (.set 4 false (.call f_law_clean (.val (.var 3) .nil))) (.cons (.unp (.tp [.nm 5, .nm 6, .nm 7, .nm 8]) (.tup (.cons (.call f_law_thawed (.val (.var 4) .nil)) (.cons (.cst (.int 0)) (.cons (.cst (.int 0)) (.cons (.cst .non) .nil)))))) (.cons (.whl (.and (.cmp .isn (.var 8) (.cst .non)) (.cmp .lt (.var 6) (.cst (.int 4000)))) (.cons (.set 6 false (.bin .add (.var 6) (.cst (.int 1)))) (.cons (.ife (.cmp .eq (.idx (.call f_law_step (.io 5 .nil)) (.cst (.int 0))) (.cst (.str (Str.ofString "out")))) (.cons (.set 7 false (.bin .add (.var 7) (.cst (.int 1)))) (.cons (.set 8 false (.ife (.cmp .eq (.call f_law_frozen (.io 5 .nil)) (.var 4)) (.tup (.cons (.var 7) (.cons (.var 6) .nil))) (.cst .non))) .nil)) (.nil)) .nil))) (.cons (.ife (.cmp .nisn (.var 8) (.cst .non)) (.cons (.unp (.tp [.nm 10, .nm 11]) (.var 8)) (.cons (.for_ (.nm 9) (.rng2 (.cst (.int 2)) (.bin .add (.var 10) (.cst (.int 1)))) (.cons (.whl (.and (.cmp .eq (.bin .md (.var 10) (.var 9)) (.cst (.int 0))) (.cmp .eq (.bin .md (.var 11) (.var 9)) (.cst (.int 0)))) (.cons (.par [10, 11] (.cons (.bin .fdv (.var 10) (.var 9)) (.cons (.bin .fdv (.var 11) (.var 9)) .nil))) .nil)) .nil)) (.cons (.ife (.or (.not (.call f_law_alike (.val (.call f_round_of (.val (.var 3) .nil)) (.val (.var 8) .nil)))) (.not (.call f_law_alike (.val (.call f_mean (.val (.var 3) .nil)) (.val (.tup (.cons (.var 11) (.cons (.var 10) .nil))) .nil))))) (.cons (.ret (.cst (.bl false))) .nil) (.nil)) .nil))) (.nil)) .nil)))))) (.cons (.ret (.cst (.bl true))) .nil)))
/-- k07 -/
def b_law_k07 : Def := .code [false] 12 (.cons (.set 1 true (.call f_law_mix (.val (.var 0) (.val (.cst (.int 19)) .nil)))) (.cons (.for_ (.nm 2) (.rng1 (.cst (.int 4))) (.cons (.set 3 false (.call f_law_house (.io 1 (.val (.cst (.int 2)) .nil)))) (.cons (.set 4 false (.call f_law_other (.io 1 (.val (.var 3) .nil)))) (.cons (.unp (.tp [.nm 6, .nm 7, .nm 8, .nm 9]) (.tup (.cons (.call f_law_thawed (.val (.var 3) .nil)) (.cons (.call f_law_thawed (.val (.var 4) .nil)) (.cons (.cst .non) (.cons (.cst (.int 0)) .nil)))))) (.cons (.par [10, 11] (.cons (.call f_round_of (.val (.var 3) .nil)) (.cons (.call f_round_of (.val (.var 4) .nil)) .nil))) (.cons (.set 5 false (.bin .mul (.bin .mul (.bin .mul (.cst (.int 2)) (.bin .add (.idx (.var 10) (.cst (.int 1))) (.idx (.var 11) (.cst (.int 1))))) (.idx (.var 10) (.cst (.int 0)))) (.idx (.var 11) (.cst (.int 0))))) (.cons (.whl (.and (.cmp .isn (.var 8) (.cst .non)) (.cmp .lt (.var 9) (.bi .min (.cons (.var 5) (.cons (.cst (.int 4000)) .nil))))) (.cons (.set 8 false (.ife (.cmp .ne (.call f_law_said (.io 6 .nil)) (.call f_law_said (.io 7 .nil))) (.var 9) (.cst .non))) (.cons (.set 9 false (.bin .add (.var 9) (.cst (.int 1)))) .nil))) (.cons (.ife (.or (.cmp .nisn (.var 8) (.cst .non)) (.cmp .le (.var 5) (.cst (.int 4000)))) (.cons (.ife (.or (.not (.call f_law_alike (.val (.call f_parted (.val (.var 3) (.val (.var 4) .nil))) (.val (.var 8) .nil)))) (.not (.call f_law_alike (.val (.call f_parted (.val (.var 4) (.val (.var 3) .nil))) (.val (.var 8) .nil))))) (.cons (.ret (.cst (.bl false))) .nil) (.nil)) .nil) (.nil)) (.cons (.ife (.cmp .nisn (.call f_parted (.val (.var 3) (.val (.var 3) .nil))) (.cst .non)) (.cons (.ret (.cst (.bl false))) .nil) (.nil)) .nil))))))))) (.cons (.ret (.cst (.bl true))) .nil)))
def c_law_k08_0 : ME := .comp (.nm 13) (.lst (.var 11)) .none (.bi .abs (.cons (.var 13) .nil)) [13]
theorem c_law_k08_0_m : c_law_k08_0.mut = true := rfl
theorem c_law_k08_0_p : c_law_k08_0.path = false := rfl
def c_law_k08_1 : ME := .comp (.nm 12) (.lst (.var 3)) .none (.bin .sub (.call f_law_need (.val (.var 10) (.val (.var 12) .nil))) (.call f_law_need (.val (.var 2) (.val (.var 12) .nil)))) [12]
theorem c_law_k08_1_m : c_law_k08_1.mut = true := rfl
theorem c_law_k08_1_p : c_law_k08_1.path = false := rfl
/-- k08 -/
def b_law_k08 : Def := .code [false] 14 (.cons (.set 1 true (.call f_law_mix (.val (.var 0) (.val (.cst (.int 23)) .nil)))) (.cons (.set 2 false (.call f_law_room (.io 1 (.val (.lst (.cons (.bin .add (.cst (.int 1)) (.call f_law_next (.io 1 (.val (.cst (.int 4)) .nil)))) .nil)) (.val (.bin .add (.cst (.int 1)) (.call f_law_next (.io 1 (.val (.cst (.int 3)) .nil)))) (.val (.cst (.int 3)) .nil)))))) (.cons (.par [3, 4] (.cons (.call f_law_paths (.val (.var 2) (.val (.tup (.nil)) .nil))) (.cons (.bin .add (.cst (.int 1)) (.call f_law_next (.io 1 (.val (.cst (.int 9)) .nil)))) .nil))) (.cons (.set 5 false (.bi .max (.cons (.cst (.int 0)) (.cons (.bin .sub (.bin .add (.idx (.call f_leaving (.val (.var 2) (.val (.var 4) .nil))) (.cst (.int 0))) (.call f_law_next (.io 1 (.val (.cst (.int 25)) .nil)))) (.cst (.int 12))) .nil)))) (.cons (.set 6 false (.cst .non)) (.cons (.for_ (.nm 7) (.rng1 (.cst (.int 4))) (.cons (.for_ (.nm 8) (.lst (.ife (.cmp .isn (.var 6) (.cst .non)) (.call f_law_tries (.val (.bi .len (.cons (.var 3) .nil)) (.val (.var 7) .nil))) (.lst (.nil)))) (.cons (.set 9 false (.ife (.cmp .isn (.var 6) (.cst .non)) (.call f_law_changed (.val (.var 2) (.val (.bi .list (.cons (.var 8) .nil)) .nil))) (.cst .non))) (.cons (.ife (.and (.cmp .nisn (.var 9) (.cst .non)) (.call f_law_is_walker (.val (.var 9) (.val (.var 4) (.val (.var 5) .nil))))) (.cons (.set 6 false (.var 9)) .nil) (.nil)) .nil))) .nil)) (.cons (.set 10 false (.call f_fitted (.val (.var 2) (.val (.var 4) (.val (.var 5) .nil))))) (.cons (.ife (.cmp .nisn (.var 6) (.cst .non)) (.cons (.ret (.call f_law_alike (.val (.var 10) (.val (.var 6) .nil)))) .nil) (.nil)) (.cons (.ife (.cmp .isn (.var 10) (.cst .non)) (.cons (.ret (.cst (.bl true))) .nil) (.nil)) (.cons (.set 11 false (c_law_k08_1)) (.cons (.ret (.and (.cmp .eq (.bi .sum (.cons (c_law_k08_0) .nil)) (.cst (.int 4))) (.cmp .eq (.idx (.call f_leaving (.val (.var 10) (.val (.var 4) .nil))) (.cst (.int 0))) (.var 5)))) .nil)))))))))))
/-- k13 -/
def b_law_k13 : Def := .code [false] 3 (.cons (.set 1 true (.call f_law_mix (.val (.var 0) (.val (.cst (.int 43)) .nil)))) (.cons (.for_ (.nm 2) (.rng1 (.cst (.int 4))) (.cons (.ife (.not (.call f_law_same (.val (.call f_law_next (.io 1 (.val (.cst (.int 300)) .nil))) .nil))) (.cons (.ret (.cst (.bl false))) .nil) (.nil)) .nil)) (.cons (.ret (.cst (.bl true))) .nil)))
/-- k15 -/
def b_law_k15 : Def := .code [false] 3 (.cons (.set 1 true (.call f_law_mix (.val (.var 0) (.val (.cst (.int 53)) .nil)))) (.cons (.for_ (.nm 2) (.rng1 (.cst (.int 3))) (.cons (.ife (.or (.not (.call f_law_plain (.nil))) (.or (.not (.call f_law_more (.val (.call f_law_next (.io 1 (.val (.cst (.int 80)) .nil))) .nil))) (.not (.call f_law_kept (.nil))))) (.cons (.ret (.cst (.bl false))) .nil) (.nil)) .nil)) (.cons (.ret (.cst (.bl true))) .nil)))
def c_law_k16_0 : ME := .comp (.nm 13) (.lst (.var 8)) .none (.slc (.var 13) (.some (.cst (.int 1))) .none) [13]
theorem c_law_k16_0_m : c_law_k16_0.mut = true := rfl
theorem c_law_k16_0_p : c_law_k16_0.path = false := rfl
def c_law_k16_1 : ME := .comp (.nm 12) (.tpl (.tup (.cons (.var 3) (.cons (.var 5) (.cons (.var 6) .nil))))) .none (.call f_leaving (.val (.var 12) (.val (.var 7) .nil))) [12]
theorem c_law_k16_1_m : c_law_k16_1.mut = true := rfl
theorem c_law_k16_1_p : c_law_k16_1.path = false := rfl
/-- k16 -/
def b_law_k16 : Def := .code [false] 14 (.cons (.set 1 true (.call f_law_mix (.val (.var 0) (.val (.cst (.int 59)) .nil)))) (.cons (.for_ (.nm 2) (.rng1 (.cst (.int 4))) (.cons (.set 3 false (.call f_law_house (.io 1 (.val (.idx (.lst (.cons (.cst (.int 3)) (.cons (.cst (.int 40)) .nil))) (.call f_law_next (.io 1 (.val (.cst (.int 2)) .nil)))) .nil)))) (.cons (.par [5, 6] (.cons (.call f_law_harder (.io 1 (.val (.var 3) (.val (.cst (.int 0)) .nil)))) (.cons (.call f_law_harder (.io 1 (.val (.var 3) (.val (.cst (.int 9)) .nil)))) .nil))) (.cons (.for_ (.nm 4) (.rng1 (.cst (.int 4))) (.cons (.set 7 false (.bin .add (.cst (.int 1)) (.call f_law_next (.io 1 (.val (.idx (.lst (.cons (.cst (.int 20)) (.cons (.bin .pow (.cst (.int 10)) (.cst (.int 12))) .nil))) (.call f_law_next (.io 1 (.val (.cst (.int 2)) .nil)))) .nil))))) (.cons (.set 8 false (c_law_k16_1)) (.cons (.ife (.or (.cmp .ne (c_law_k16_0) (.bin .mul (.lst (.cons (.slc (.idx (.var 8) (.cst (.int 0))) (.some (.cst (.int 1))) .none) .nil)) (.cst (.int 3)))) (.not (.chn .le .le (.idx (.idx (.var 8) (.cst (.int 0))) (.cst (.int 0))) (.idx (.idx (.var 8) (.cst (.int 1))) (.cst (.int 0))) (.idx (.idx (.var 8) (.cst (.int 2))) (.cst (.int 0)))))) (.cons (.ret (.cst (.bl false))) .nil) (.nil)) (.cons (.ife (.cmp .ne (.idx (.call f_named (.val (.var 5) (.val (.idx (.idx (.var 8) (.cst (.int 0))) (.cst (.int 2))) (.val (.cst (.int 1)) .nil)))) (.cst (.int 1))) (.idx (.call f_named (.val (.var 6) (.val (.idx (.idx (.var 8) (.cst (.int 0))) (.cst (.int 2))) (.val (.cst (.int 1)) .nil)))) (.cst (.int 1)))) (.cons (.ret (.cst (.bl false))) .nil) (.nil)) (.cons (.set 9 false (.call f_law_small (.val (.var 3) .nil))) (.cons (.ife (.cmp .ne (.idx (.call f_leaving (.val (.call f_law_one_more (.val (.var 9) .nil)) (.val (.var 7) .nil))) (.cst (.int 0))) (.bin .add (.idx (.call f_leaving (.val (.var 9) (.val (.var 7) .nil))) (.cst (.int 0))) (.call f_law_openings (.val (.var 9) (.val (.var 7) .nil))))) (.cons (.ret (.cst (.bl false))) .nil) (.nil)) .nil))))))) (.cons (.ife (.or (.cmp .ne (.idx (.call f_round_of (.val (.var 6) .nil)) (.cst (.int 0))) (.idx (.call f_round_of (.val (.var 3) .nil)) (.cst (.int 0)))) (.cmp .lt (.idx (.call f_round_of (.val (.var 6) .nil)) (.cst (.int 1))) (.idx (.call f_round_of (.val (.var 3) .nil)) (.cst (.int 1))))) (.cons (.ret (.cst (.bl false))) .nil) (.nil)) (.cons (.unp (.tp [.nm 10, .nm 11]) (.call f_mean (.val (.var 3) .nil))) (.cons (.ife (.cmp .ne (.bin .mul (.var 10) (.idx (.call f_round_of (.val (.var 3) .nil)) (.cst (.int 0)))) (.bin .mul (.var 11) (.idx (.call f_round_of (.val (.var 3) .nil)) (.cst (.int 1))))) (.cons (.ret (.cst (.bl false))) .nil) (.nil)) (.cons (.ife (.or (.cmp .gt (.call f_left (.val (.var 5) (.val (.bin .pow (.cst (.int 10)) (.cst (.int 12))) .nil))) (.call f_left (.val (.var 3) (.val (.bin .pow (.cst (.int 10)) (.cst (.int 12))) .nil)))) (.cmp .gt (.call f_left (.val (.var 6) (.val (.bin .pow (.cst (.int 10)) (.cst (.int 12))) .nil))) (.call f_left (.val (.var 5) (.val (.bin .pow (.cst (.int 10)) (.cst (.int 12))) .nil))))) (.cons (.ret (.cst (.bl false))) .nil) (.nil)) .nil)))))))) (.cons (.ret (.cst (.bl true))) .nil)))
def c_law_k17_0 : ME := .comp (.nm 16) (.rng1 (.cst (.int 5))) .none (.call f_fate (.val (.var 3) (.val (.bin .add (.var 6) (.var 16)) .nil))) [16]
theorem c_law_k17_0_m : c_law_k17_0.mut = true := rfl
theorem c_law_k17_0_p : c_law_k17_0.path = false := rfl
/-- k17 -/
def b_law_k17 : Def := .code [false] 17 (.cons (.set 1 true (.call f_law_mix (.val (.var 0) (.val (.cst (.int 61)) .nil)))) (.cons (.for_ (.nm 2) (.rng1 (.cst (.int 1))) (.cons (.set 3 false (.call f_law_house (.io 1 (.val (.idx (.lst (.cons (.cst (.int 3)) (.cons (.cst (.int 20)) .nil))) (.call f_law_next (.io 1 (.val (.cst (.int 2)) .nil)))) .nil)))) (.cons (.unp (.tp [.nm 6, .nm 7]) (.tup (.cons (.call f_law_next (.io 1 (.val (.idx (.lst (.cons (.cst (.int 50)) (.cons (.bin .pow (.cst (.int 10)) (.cst (.int 12))) .nil))) (.call f_law_next (.io 1 (.val (.cst (.int 2)) .nil)))) .nil))) (.cons (.call f_law_next (.io 1 (.val (.bin .pow (.cst (.int 10)) (.cst (.int 12))) .nil))) .nil)))) (.cons (.par [8, 9] (.cons (.call f_after (.val (.var 3) (.val (.var 6) .nil))) (.cons (.call f_left (.val (.var 3) (.val (.var 6) .nil))) .nil))) (.cons (.ife (.or (.cmp .ne (.call f_after (.val (.var 8) (.val (.var 7) .nil))) (.call f_after (.val (.var 3) (.val (.bin .add (.var 6) (.var 7)) .nil)))) (.cmp .ne (.call f_left (.val (.var 8) (.val (.var 7) .nil))) (.bin .sub (.call f_left (.val (.var 3) (.val (.bin .add (.var 6) (.var 7)) .nil))) (.var 9)))) (.cons (.ret (.cst (.bl false))) .nil) (.nil)) (.cons (.ife (.or (.cmp .ne (.call f_fate (.val (.var 8) (.val (.var 7) .nil))) (.call f_fate (.val (.var 3) (.val (.bin .add (.var 6) (.var 7)) .nil)))) (.cmp .ne (.call f_fates (.val (.var 8) (.val (.cst (.int 5)) .nil))) (c_law_k17_0))) (.cons (.ret (.cst (.bl false))) .nil) (.nil)) (.cons (.set 4 false (.bin .add (.cst (.int 1)) (.call f_law_next (.io 1 (.val (.bin .pow (.cst (.int 10)) (.cst (.int 12))) .nil))))) (.cons (.unp (.tp [.nm 10, .nm 11, .nm 12]) (.call f_leaving (.val (.var 3) (.val (.bin .add (.var 9) (.var 4)) .nil)))) (.cons (.ife (.cmp .ne (.call f_leaving (.val (.var 8) (.val (.var 4) .nil))) (.tup (.cons (.bin .sub (.var 10) (.var 6)) (.cons (.var 11) (.cons (.var 12) .nil))))) (.cons (.ret (.cst (.bl false))) .nil) (.nil)) (.cons (.set 5 false (.call f_law_paths (.val (.var 3) (.val (.tup (.nil)) .nil)))) (.cons (.ife (.cmp .ne (.var 5) (.lst (.nil))) (.cons (.set 11 false (.idx (.var 5) (.call f_law_next (.io 1 (.val (.bi .len (.cons (.var 5) .nil)) .nil))))) (.cons (.par [13, 14] (.cons (.cst (.int 0)) (.cons (.bin .add (.bin .pow (.cst (.int 10)) (.cst (.int 12))) (.var 6)) .nil))) (.cons (.whl (.cmp .lt (.var 13) (.var 14)) (.cons (.set 15 false (.bin .fdv (.bin .add (.var 13) (.var 14)) (.cst (.int 2)))) (.cons (.unp (.tp [.nm 13, .nm 14]) (.ife (.cmp .lt (.call f_pushed (.val (.var 3) (.val (.var 11) (.val (.bin .add (.var 15) (.cst (.int 1))) .nil)))) (.var 6)) (.tup (.cons (.bin .add (.var 15) (.cst (.int 1))) (.cons (.var 14) .nil))) (.tup (.cons (.var 13) (.cons (.var 15) .nil))))) .nil))) (.cons (.ife (.cmp .ne (.call f_pushed (.val (.var 8) (.val (.var 11) (.val (.var 4) .nil)))) (.bin .sub (.call f_pushed (.val (.var 3) (.val (.var 11) (.val (.bin .add (.var 13) (.var 4)) .nil)))) (.var 6))) (.cons (.ret (.cst (.bl false))) .nil) (.nil)) (.cons (.ife (.not (.call f_law_is_own (.val (.var 3) (.val (.slc (.var 11) .none (.some (.cst (.int 1)))) .nil)))) (.cons (.ret (.cst (.bl false))) .nil) (.nil)) .nil))))) (.nil)) (.cons (.ife (.cmp .nisn (.call f_parted (.val (.var 8) (.val (.call f_after (.val (.var 3) (.val (.var 6) .nil))) .nil))) (.cst .non)) (.cons (.ret (.cst (.bl false))) .nil) (.nil)) .nil)))))))))))) (.cons (.ret (.cst (.bl true))) .nil)))
/-- k19 -/
def b_law_k19 : Def := .code [false] 12 (.cons (.set 1 true (.call f_law_mix (.val (.var 0) (.val (.cst (.int 71)) .nil)))) (.cons (.for_ (.nm 2) (.rng1 (.cst (.int 2))) (.cons (.set 3 false (.call f_law_house (.io 1 (.val (.idx (.lst (.cons (.cst (.int 3)) (.cons (.cst (.int 20)) .nil))) (.call f_law_next (.io 1 (.val (.cst (.int 2)) .nil)))) .nil)))) (.cons (.set 4 false (.bin .add (.cst (.int 1)) (.call f_law_next (.io 1 (.val (.idx (.lst (.cons (.cst (.int 12)) (.cons (.bin .pow (.cst (.int 10)) (.cst (.int 9))) .nil))) (.call f_law_next (.io 1 (.val (.cst (.int 2)) .nil)))) .nil))))) (.cons (.ife (.cmp .ne (.call f_fitted (.val (.var 3) (.val (.var 4) (.val (.idx (.call f_leaving (.val (.var 3) (.val (.var 4) .nil))) (.cst (.int 0))) .nil)))) (.var 3)) (.cons (.ret (.cst (.bl false))) .nil) (.nil)) (.cons (.set 5 false (.bin .mul (.call f_law_next (.io 1 (.val (.cst (.int 5)) .nil))) (.bi .int (.cons (.not (.bi .isStr (.cons (.var 3) .nil))) .nil)))) (.cons (.set 6 false (.call f_law_moved (.io 1 (.val (.var 3) (.val (.var 5) .nil))))) (.cons (.set 7 false (.idx (.call f_leaving (.val (.var 6) (.val (.var 4) .nil))) (.cst (.int 0)))) (.cons (.set 8 false (.call f_fitted (.val (.var 3) (.val (.var 4) (.val (.var 7) .nil))))) (.cons (.ife (.or (.cmp .isn (.var 8) (.cst .non)) (.or (.cmp .ne (.idx (.call f_leaving (.val (.var 8) (.val (.var 4) .nil))) (.cst (.int 0))) (.var 7)) (.cmp .ne (.call f_law_bared (.val (.var 8) .nil)) (.call f_law_bared (.val (.var 3) .nil))))) (.cons (.ret (.cst (.bl false))) .nil) (.nil)) (.cons (.set 9 false (.cst (.int 0))) (.cons (.for_ (.tp [.nm 10, .nm 11]) (.zipL (.call f_law_doors (.val (.var 3) .nil)) (.call f_law_doors (.val (.var 8) .nil))) (.cons (.set 9 false (.bin .add (.var 9) (.bi .abs (.cons (.bin .sub (.idx (.var 11) (.cst (.int 0))) (.idx (.var 10) (.cst (.int 0)))) .nil)))) (.cons (.ife (.or (.cmp .ne (.cmp .eq (.idx (.var 10) (.cst (.int 0))) (.idx (.var 10) (.cst (.int 1)))) (.cmp .eq (.idx (.var 11) (.cst (.int 0))) (.idx (.var 11) (.cst (.int 1))))) (.and (.cmp .ne (.idx (.var 10) (.cst (.int 0))) (.idx (.var 10) (.cst (.int 1)))) (.cmp .ne (.idx (.var 10) (.cst (.int 1))) (.idx (.var 11) (.cst (.int 1)))))) (.cons (.ret (.cst (.bl false))) .nil) (.nil)) .nil))) (.cons (.ife (.cmp .gt (.var 9) (.var 5)) (.cons (.ret (.cst (.bl false))) .nil) (.nil)) .nil)))))))))))) (.cons (.ret (.cst (.bl true))) .nil)))
/-- k01 k06 k07 k13 k15 k16 k17 k18 k20 -/
def b_least_both : Def := .code [false, false] 2 (.cons (.ret (.bin .mul (.bin .fdv (.var 0) (.call f_greatest_both (.val (.var 0) (.val (.var 1) .nil)))) (.var 1))) .nil)
/-- k01 k03 k04 k05 k08 k13 k15 k16 k17 k18 k19 k20 -/
def b_leaving : Def := .code [false, false] 2 (.cons (.drop (.call f_need_house (.val (.var 0) .nil))) (.cons (.drop (.call f_need_far (.val (.var 1) (.val (.cst (.int 1)) (.val (.cst (.int 1000000000000000)) .nil))))) (.cons (.ret (.bin .add (.tup (.cons (.bin .sub (.call f_walkers_by (.val (.var 0) (.val (.var 1) .nil))) (.cst (.int 1))) .nil)) (.call f_path_of (.val (.var 0) (.val (.var 1) .nil))))) .nil)))
/-- k01 k02 k03 k04 k05 k09 k10 k13 k14 k15 k16 k17 k18 k20 -/
def b_leavings_by : Def := .code [false, false] 5 (.cons (.par [2, 3] (.cons (.cst (.int 0)) (.cons (.var 1) .nil))) (.cons (.whl (.cmp .lt (.var 2) (.var 3)) (.cons (.set 4 false (.bin .fdv (.bin .add (.bin .add (.var 2) (.var 3)) (.cst (.int 1))) (.cst (.int 2)))) (.cons (.ife (.cmp .le (.call f_walkers_by (.val (.var 0) (.val (.var 4) .nil))) (.var 1)) (.cons (.set 2 false (.var 4)) .nil) (.cons (.set 3 false (.bin .sub (.var 4) (.cst (.int 1)))) .nil)) .nil))) (.cons (.ret (.var 2)) .nil)))
/-- k01 k06 k07 k13 k15 k16 k17 k18 k20 -/
def b_leavings_in : Def := .code [false] 5 (.cons (.ife (.call f_is_out (.val (.var 0) .nil)) (.cons (.ret (.cst (.int 1))) .nil) (.nil)) (.cons (.set 1 false (.cst (.int 1))) (.cons (.for_ (.tp [.nm 2, .nm 3, .nm 4]) (.tpl (.idx (.var 0) (.cst (.int 1)))) (.cons (.set 1 false (.call f_least_both (.val (.var 1) (.val (.call f_leavings_in (.val (.var 4) .nil)) .nil)))) .nil)) (.cons (.ret (.bin .mul (.var 1) (.bi .len (.cons (.idx (.var 0) (.cst (.int 1))) .nil)))) .nil))))
/-- k01 k02 k04 k13 k15 k16 k17 k18 k20 -/
def b_left : Def := .code [false, false] 2 (.cons (.drop (.call f_need_house (.val (.var 0) .nil))) (.cons (.drop (.call f_need_far (.val (.var 1) (.val (.cst (.int 0)) (.val (.cst (.int 1000000000000000000)) .nil))))) (.cons (.ret (.call f_leavings_by (.val (.var 0) (.val (.var 1) .nil)))) .nil)))
/-- k01 k02 k03 k04 k05 k06 k07 k08 k09 k10 k13 k14 k15 k16 k17 k18 k19 k20 -/
def b_left_by : Def := .code [false, false, false] 5 (.cons (.unp (.tp [.nm 3, .nm 4]) (.var 0)) (.cons (.ret (.bin .fdv (.bin .add (.bin .sub (.bin .sub (.var 2) (.cst (.int 1))) (.bin .md (.bin .sub (.var 1) (.var 3)) (.bi .len (.cons (.var 4) .nil)))) (.bi .len (.cons (.var 4) .nil))) (.bi .len (.cons (.var 4) .nil)))) .nil))
/-- k01 k06 k13 k15 k16 k20 -/
def b_mean : Def := .code [false] 4 (.cons (.unp (.tp [.nm 1, .nm 2]) (.call f_round_of (.val (.var 0) .nil))) (.cons (.set 3 false (.call f_greatest_both (.val (.var 1) (.val (.var 2) .nil)))) (.cons (.ret (.tup (.cons (.bin .fdv (.var 2) (.var 3)) (.cons (.bin .fdv (.var 1) (.var 3)) .nil)))) .nil)))
/-- k01 k03 k04 k05 k13 k15 k16 k18 -/
def b_named : Def := .code [false, false, false] 6 (.cons (.drop (.call f_need_house (.val (.var 0) .nil))) (.cons (.ife (.cmp .nin (.var 1) (.call f_names_in (.val (.var 0) .nil))) (.cons (.stuck) .nil) (.nil)) (.cons (.drop (.call f_need_far (.val (.var 2) (.val (.cst (.int 1)) (.val (.cst (.int 1000000000000000)) .nil))))) (.cons (.par [3, 4] (.cons (.cst (.int 1)) (.cons (.var 2) .nil))) (.cons (.whl (.cmp .lt (.call f_names_by (.val (.var 0) (.val (.var 1) (.val (.var 4) .nil)))) (.var 2)) (.cons (.par [3, 4] (.cons (.var 4) (.cons (.bin .mul (.cst (.int 2)) (.var 4)) .nil))) .nil)) (.cons (.whl (.cmp .lt (.var 3) (.var 4)) (.cons (.set 5 false (.bin .fdv (.bin .add (.var 3) (.var 4)) (.cst (.int 2)))) (.cons (.ife (.cmp .lt (.call f_names_by (.val (.var 0) (.val (.var 1) (.val (.var 5) .nil)))) (.var 2)) (.cons (.set 3 false (.bin .add (.var 5) (.cst (.int 1)))) .nil) (.cons (.set 4 false (.var 5)) .nil)) .nil))) (.cons (.ret (.tup (.cons (.bin .sub (.call f_walkers_by (.val (.var 0) (.val (.var 3) .nil))) (.cst (.int 1))) (.cons (.idx (.call f_path_of (.val (.var 0) (.val (.var 3) .nil))) (.cst (.int 0))) .nil)))) .nil)))))))
def c_names_by_0 : ME := .comp (.tp [.nm 6, .nm 7]) (.lst (.var 3)) (.some (.cmp .gt (.var 7) (.cst (.int 0)))) (.call f_names_by (.val (.var 6) (.val (.var 1) (.val (.var 7) .nil)))) [6, 7]
theorem c_names_by_0_m : c_names_by_0.mut = true := rfl
theorem c_names_by_0_p : c_names_by_0.path = false := rfl
def c_names_by_1 : ME := .comp (.tp [.nm 4, .nm 5]) (.enmT (.idx (.var 0) (.cst (.int 1)))) .none (.tup (.cons (.idx (.var 5) (.cst (.int 2))) (.cons (.call f_left_by (.val (.var 0) (.val (.var 4) (.val (.var 2) .nil)))) .nil))) [4, 5]
theorem c_names_by_1_m : c_names_by_1.mut = true := rfl
theorem c_names_by_1_p : c_names_by_1.path = false := rfl
/-- k01 k03 k04 k05 k13 k15 k16 k18 -/
def b_names_by : Def := .code [false, false, false] 8 (.cons (.ife (.call f_is_out (.val (.var 0) .nil)) (.cons (.ret (.ife (.cmp .eq (.var 0) (.var 1)) (.var 2) (.cst (.int 0)))) .nil) (.nil)) (.cons (.set 3 false (c_names_by_1)) (.cons (.ret (.bi .sum (.cons (c_names_by_0) .nil))) .nil)))
/-- k01 k03 k04 k05 k13 k15 k16 k18 -/
def b_names_in : Def := .code [false] 3 (.cons (.ife (.call f_is_out (.val (.var 0) .nil)) (.cons (.ret (.lst (.cons (.var 0) .nil))) .nil) (.nil)) (.cons (.set 1 true (.lst (.nil))) (.cons (.for_ (.nm 2) (.tpl (.idx (.var 0) (.cst (.int 1)))) (.cons (.ext 1 (.call f_names_in (.val (.idx (.var 2) (.cst (.int 2))) .nil))) .nil)) (.cons (.ret (.mv 1)) .nil))))
/-- k01 k02 k03 k04 k05 k08 k09 k10 k13 k14 k15 k16 k17 k18 k19 k20 -/
def b_need_far : Def := .code [false, false, false] 3 (.cons (.ife (.not (.chn .le .le (.var 1) (.var 0) (.var 2))) (.cons (.stuck) .nil) (.nil)) .nil)
/-- k01 k02 k03 k04 k05 k06 k07 k08 k09 k10 k11 k12 k13 k14 k15 k16 k17 k18 k19 k20 -/
def b_need_house : Def := .code [false] 1 (.cons (.drop (.call f_need_room (.val (.var 0) (.val (.tup (.nil)) .nil)))) (.cons (.ife (.cmp .gt (.bi .len (.cons (.call f_all_paths (.val (.var 0) (.val (.cst (.tup [])) .nil))) .nil)) (.cst (.int 12))) (.cons (.stuck) .nil) (.nil)) .nil))
/-- k01 k02 k03 k04 k05 k06 k07 k08 k09 k10 k11 k12 k13 k14 k15 k16 k17 k18 k19 k20 -/
def b_need_room : Def := .code [false, false] 4 (.cons (.ife (.not (.call f_is_room (.val (.var 0) .nil))) (.cons (.stuck) .nil) (.nil)) (.cons (.ife (.not (.call f_is_out (.val (.var 0) .nil))) (.cons (.for_ (.tp [.nm 2, .nm 3]) (.enmT (.idx (.var 0) (.cst (.int 1)))) (.cons (.drop (.call f_need_room (.val (.idx (.var 3) (.cst (.int 2))) (.val (.bin .add (.var 1) (.tup (.cons (.var 2) .nil))) .nil)))) .nil)) .nil) (.nil)) .nil))
/-- k01 k03 k04 k05 k13 k15 k17 k18 -/
def b_opening : Def := .code [false, false] 2 (.cons (.ret (.bin .sub (.call f_pushes_by (.val (.var 0) (.val (.bin .add (.var 1) (.cst (.int 1))) .nil))) (.call f_pushes_by (.val (.var 0) (.val (.var 1) .nil))))) .nil)
/-- k01 k05 k08 k13 k15 k19 -/
def b_openings : Def := .code [false, false] 6 (.cons (.set 2 true (.lst (.nil))) (.cons (.ife (.not (.call f_is_out (.val (.var 0) .nil))) (.cons (.for_ (.tp [.nm 3, .nm 4]) (.enmT (.idx (.var 0) (.cst (.int 1)))) (.cons (.set 5 false (.call f_left_by (.val (.var 0) (.val (.var 3) (.val (.var 1) .nil))))) (.cons (.app 2 (.bin .sub (.var 5) (.bi .int (.cons (.and (.cmp .gt (.var 5) (.cst (.int 0))) (.cmp .eq (.idx (.var 4) (.cst (.int 1))) (.idx (.var 4) (.cst (.int 0))))) .nil)))) (.cons (.ext 2 (.call f_openings (.val (.idx (.var 4) (.cst (.int 2))) (.val (.var 5) .nil)))) .nil)))) .nil) (.nil)) (.cons (.ret (.mv 2)) .nil)))
/-- k01 k07 k13 k15 k17 k20 -/
def b_parted : Def := .code [false, false] 5 (.cons (.drop (.call f_need_house (.val (.var 0) .nil))) (.cons (.drop (.call f_need_house (.val (.var 1) .nil))) (.cons (.for_ (.nm 2) (.rng2 (.cst (.int 1)) (.bin .add (.bin .mul (.cst (.int 2)) (.call f_least_both (.val (.call f_leavings_in (.val (.var 0) .nil)) (.val (.call f_leavings_in (.val (.var 1) .nil)) .nil)))) (.cst (.int 1)))) (.cons (.par [3, 4] (.cons (.call f_walkers_by (.val (.var 0) (.val (.var 2) .nil))) (.cons (.call f_walkers_by (.val (.var 1) (.val (.var 2) .nil))) .nil))) (.cons (.ife (.or (.cmp .ne (.var 3) (.var 4)) (.cmp .ne (.idx (.call f_path_of (.val (.var 0) (.val (.var 2) .nil))) (.cst (.int 1))) (.idx (.call f_path_of (.val (.var 1) (.val (.var 2) .nil))) (.cst (.int 1))))) (.cons (.ret (.bin .sub (.bi .min (.cons (.var 3) (.cons (.var 4) .nil))) (.cst (.int 1)))) .nil) (.nil)) .nil))) (.cons (.ret (.cst .non)) .nil))))
/-- k01 k03 k04 k05 k07 k08 k13 k15 k16 k17 k18 k19 k20 -/
def b_path_of : Def := .code [false, false] 6 (.cons (.set 2 false (.tup (.nil))) (.cons (.whl (.not (.call f_is_out (.val (.var 0) .nil))) (.cons (.unp (.tp [.nm 4, .nm 5]) (.var 0)) (.cons (.set 3 false (.bin .md (.bin .sub (.bin .add (.var 4) (.var 1)) (.cst (.int 1))) (.bi .len (.cons (.var 5) .nil)))) (.cons (.set 2 false (.bin .add (.var 2) (.tup (.cons (.var 3) .nil)))) (.cons (.set 1 false (.call f_left_by (.val (.var 0) (.val (.var 3) (.val (.var 1) .nil))))) (.cons (.set 0 false (.idx (.idx (.var 5) (.var 3)) (.cst (.int 2)))) .nil)))))) (.cons (.ret (.tup (.cons (.var 2) (.cons (.var 0) .nil)))) .nil)))
/-- k01 k03 k04 k05 k13 k15 k17 k18 -/
def b_pushed : Def := .code [false, false, false] 10 (.cons (.drop (.call f_need_house (.val (.var 0) .nil))) (.cons (.set 3 false (.call f_door_at (.val (.var 0) (.val (.var 1) .nil)))) (.cons (.drop (.call f_need_far (.val (.var 2) (.val (.cst (.int 1)) (.val (.cst (.int 1000000000000000)) .nil))))) (.cons (.unp (.tp [.nm 4, .nm 5, .nm 6]) (.var 3)) (.cons (.set 7 false (.bin .fdv (.bin .sub (.bin .add (.var 2) (.var 5)) (.cst (.int 1))) (.var 4))) (.cons (.set 8 false (.bin .sub (.bin .sub (.var 2) (.cst (.int 1))) (.call f_pushes_by (.val (.var 3) (.val (.var 7) .nil))))) (.cons (.set 9 false (.call f_room_at (.val (.var 0) (.val (.slc (.var 1) .none (.some (.cst (.int (-1))))) .nil)))) (.cons (.ret (.call f_came_ahead (.val (.var 0) (.val (.bi .tuple (.cons (.slc (.var 1) .none (.some (.cst (.int (-1))))) .nil)) (.val (.bin .add (.call f_visit_ahead (.val (.var 9) (.val (.idx (.var 1) (.cst (.int (-1)))) (.val (.var 7) .nil)))) (.var 8)) .nil))))) .nil))))))))
/-- k01 k02 k03 k04 k05 k06 k07 k08 k09 k10 k13 k14 k15 k16 k17 k18 k19 k20 -/
def b_pushes_by : Def := .code [false, false] 5 (.cons (.unp (.tp [.nm 2, .nm 3, .nm 4]) (.var 0)) (.cons (.ret (.ife (.cmp .eq (.var 1) (.cst (.int 0))) (.cst (.int 0)) (.bin .sub (.bin .mul (.var 1) (.var 2)) (.var 3)))) .nil))
/-- k01 k03 k04 k05 k08 k09 k10 k13 k14 k15 k17 k18 k19 -/
def b_room_at : Def := .code [false, false] 4 (.cons (.set 2 false (.var 0)) (.cons (.for_ (.nm 3) (.tpl (.var 1)) (.cons (.ife (.or (.call f_is_out (.val (.var 2) .nil)) (.not (.chn .le .lt (.cst (.int 0)) (.var 3) (.bi .len (.cons (.idx (.var 2) (.cst (.int 1))) .nil))))) (.cons (.stuck) .nil) (.nil)) (.cons (.set 2 false (.idx (.idx (.idx (.var 2) (.cst (.int 1))) (.var 3)) (.cst (.int 2)))) .nil))) (.cons (.ret (.var 2)) .nil)))
/-- k01 k06 k07 k13 k15 k16 k18 k20 -/
def b_round_of : Def := .code [false] 2 (.cons (.drop (.call f_need_house (.val (.var 0) .nil))) (.cons (.set 1 false (.call f_leavings_in (.val (.var 0) .nil))) (.cons (.ret (.tup (.cons (.var 1) (.cons (.call f_walkers_by (.val (.call f_clean (.val (.var 0) .nil)) (.val (.var 1) .nil))) .nil)))) .nil)))
/-- k01 k03 k04 k05 k13 k15 k17 k18 -/
def b_visit_ahead : Def := .code [false, false, false] 5 (.cons (.unp (.tp [.nm 3, .nm 4]) (.var 0)) (.cons (.ret (.call f_walkers_by (.val (.var 0) (.val (.bin .add (.bin .md (.bin .sub (.var 1) (.var 3)) (.bi .len (.cons (.var 4) .nil))) (.bin .mul (.var 2) (.bi .len (.cons (.var 4) .nil)))) .nil)))) .nil))
/-- k02 k04 k17 -/
def b_walk : Def := .code [false, false] 10 (.cons (.ife (.call f_is_out (.val (.var 0) .nil)) (.cons (.ret (.tup (.cons (.var 0) (.cons (.tup (.cons (.cst (.str (Str.ofString "out"))) (.cons (.var 1) (.cons (.var 0) .nil)))) .nil)))) .nil) (.nil)) (.cons (.unp (.tp [.nm 2, .nm 3]) (.var 0)) (.cons (.unp (.tp [.nm 4, .nm 5, .nm 6]) (.idx (.var 3) (.var 2))) (.cons (.set 7 false (.bin .add (.var 1) (.tup (.cons (.var 2) .nil)))) (.cons (.ife (.cmp .lt (.var 5) (.var 4)) (.cons (.ret (.tup (.cons (.tup (.cons (.var 2) (.cons (.bin .add (.bin .add (.slc (.var 3) .none (.some (.var 2))) (.tup (.cons (.tup (.cons (.var 4) (.cons (.bin .add (.var 5) (.cst (.int 1))) (.cons (.var 6) .nil)))) .nil))) (.slc (.var 3) (.some (.bin .add (.var 2) (.cst (.int 1)))) .none)) .nil))) (.cons (.tup (.cons (.cst (.str (Str.ofString "push"))) (.cons (.var 7) .nil))) .nil)))) .nil) (.nil)) (.cons (.unp (.tp [.nm 8, .nm 9]) (.call f_walk (.val (.var 6) (.val (.var 7) .nil)))) (.cons (.ife (.cmp .eq (.idx (.var 9) (.cst (.int 0))) (.cst (.str (Str.ofString "push")))) (.cons (.ret (.tup (.cons (.tup (.cons (.var 2) (.cons (.bin .add (.bin .add (.slc (.var 3) .none (.some (.var 2))) (.tup (.cons (.tup (.cons (.var 4) (.cons (.var 5) (.cons (.var 8) .nil)))) .nil))) (.slc (.var 3) (.some (.bin .add (.var 2) (.cst (.int 1)))) .none)) .nil))) (.cons (.var 9) .nil)))) .nil) (.nil)) (.cons (.ret (.tup (.cons (.tup (.cons (.bin .md (.bin .add (.var 2) (.cst (.int 1))) (.bi .len (.cons (.var 3) .nil))) (.cons (.bin .add (.bin .add (.slc (.var 3) .none (.some (.var 2))) (.tup (.cons (.tup (.cons (.var 4) (.cons (.cst (.int 0)) (.cons (.var 8) .nil)))) .nil))) (.slc (.var 3) (.some (.bin .add (.var 2) (.cst (.int 1)))) .none)) .nil))) (.cons (.var 9) .nil)))) .nil))))))))
/-- k01 k02 k03 k04 k05 k06 k07 k08 k09 k10 k13 k14 k15 k16 k17 k18 k19 k20 -/
def b_walkers_by : Def := .code [false, false] 6 (.cons (.ife (.call f_is_out (.val (.var 0) .nil)) (.cons (.ret (.var 1)) .nil) (.nil)) (.cons (.set 2 false (.cst (.int 0))) (.cons (.for_ (.tp [.nm 3, .nm 4]) (.enmT (.idx (.var 0) (.cst (.int 1)))) (.cons (.set 5 false (.call f_left_by (.val (.var 0) (.val (.var 3) (.val (.var 1) .nil))))) (.cons (.ife (.cmp .gt (.var 5) (.cst (.int 0))) (.cons (.aug 2 .add (.bin .add (.call f_pushes_by (.val (.var 4) (.val (.var 5) .nil))) (.call f_walkers_by (.val (.idx (.var 4) (.cst (.int 2))) (.val (.var 5) .nil))))) .nil) (.nil)) .nil))) (.cons (.ret (.var 2)) .nil))))
/-- k01 k05 k08 k09 k10 k13 k14 k15 k19 -/
def b_with_door : Def := .code [false, false, false, false] 8 (.cons (.unp (.tp [.nm 4, .nm 5]) (.call f_room_at (.val (.var 0) (.val (.slc (.var 1) .none (.some (.cst (.int (-1))))) .nil)))) (.cons (.set 6 false (.idx (.var 1) (.cst (.int (-1))))) (.cons (.set 7 false (.tup (.cons (.var 2) (.cons (.var 3) (.cons (.idx (.idx (.var 5) (.var 6)) (.cst (.int 2))) .nil))))) (.cons (.ret (.call f_with_room (.val (.var 0) (.val (.slc (.var 1) .none (.some (.cst (.int (-1))))) (.val (.tup (.cons (.var 4) (.cons (.bin .add (.bin .add (.slc (.var 5) .none (.some (.var 6))) (.tup (.cons (.var 7) .nil))) (.slc (.var 5) (.some (.bin .add (.var 6) (.cst (.int 1)))) .none)) .nil))) .nil))))) .nil))))
/-- k01 k05 k08 k09 k10 k13 k14 k15 k19 -/
def b_with_room : Def := .code [false, false, false] 9 (.cons (.ife (.cmp .eq (.var 1) (.tup (.nil))) (.cons (.ret (.var 2)) .nil) (.nil)) (.cons (.unp (.tp [.nm 3, .nm 4]) (.var 0)) (.cons (.unp (.tp [.nm 5, .nm 6, .nm 7]) (.idx (.var 4) (.idx (.var 1) (.cst (.int 0))))) (.cons (.set 8 false (.tup (.cons (.var 5) (.cons (.var 6) (.cons (.call f_with_room (.val (.var 7) (.val (.slc (.var 1) (.some (.cst (.int 1))) .none) (.val (.var 2) .nil)))) .nil))))) (.cons (.ret (.tup (.cons (.var 3) (.cons (.bin .add (.bin .add (.slc (.var 4) .none (.some (.idx (.var 1) (.cst (.int 0))))) (.tup (.cons (.var 8) .nil))) (.slc (.var 4) (.some (.bin .add (.idx (.var 1) (.cst (.int 0))) (.cst (.int 1)))) .none)) .nil)))) .nil)))))
def T0 : Nat → Option Def
  | 0 => some b_law_alike
  | 1 => some b_law_at
  | 2 => some b_law_bad
  | 3 => some b_law_bad_v1
  | 4 => some b_law_bared
  | 5 => some b_law_called
  | 6 => some b_law_changed
  | 7 => some b_law_clean
  | 8 => some b_law_deed
  | 9 => some b_law_door
  | 10 => some b_law_door_of
  | 11 => some b_law_doors
  | 12 => some b_law_frozen
  | 13 => some b_law_harder
  | 14 => some b_law_here
  | 15 => some b_law_house
  | 16 => some b_law_is_own
  | 17 => some b_law_is_walker
  | 18 => some b_law_mix
  | 19 => some b_law_more
  | 20 => some b_law_names
  | 21 => some b_law_need
  | 22 => some b_law_next
  | 23 => some b_law_one_more
  | 24 => some b_law_openings
  | 25 => some b_law_paths
  | 26 => some b_law_plain
  | 27 => some b_law_pushes
  | 28 => some b_law_room
  | 29 => some b_law_room_of
  | 30 => some b_law_rows
  | 31 => some b_law_said
  | 32 => some b_law_size
  | 33 => some b_law_small
  | 34 => some b_law_step
  | 35 => some b_law_thawed
  | 36 => some b_law_tries
  | 37 => some b_law_turned
  | 38 => some b_law_two
  | 39 => some b_law_with
  | 40 => some b_after
  | 41 => some b_all_paths
  | 42 => some b_behind
  | 43 => some b_bounds
  | 44 => some b_came_ahead
  | 45 => some b_changed
  | 46 => some b_changes
  | 47 => some b_clean
  | 48 => some b_door_at
  | 49 => some b_fate
  | 50 => some b_fates
  | 51 => some b_fitted
  | 52 => some b_greatest_both
  | 53 => some b_is_door
  | 54 => some b_is_name
  | 55 => some b_is_out
  | 56 => some b_is_room
  | 57 => some b_law_k01
  | 58 => some b_law_k04
  | 59 => some b_law_k06
  | 60 => some b_law_k07
  | 61 => some b_law_k08
  | 62 => some b_law_k13
  | 63 => some b_law_k15
  | 64 => some b_law_k16
  | 65 => some b_law_k17
  | 66 => some b_law_k19
  | 67 => some b_least_both
  | 68 => some b_leaving
  | 69 => some b_leavings_by
  | 70 => some b_leavings_in
  | 71 => some b_left
  | 72 => some b_left_by
  | 73 => some b_mean
  | 74 => some b_named
  | 75 => some b_names_by
  | 76 => some b_names_in
  | 77 => some b_need_far
  | 78 => some b_need_house
  | 79 => some b_need_room
  | 80 => some b_opening
  | 81 => some b_openings
  | 82 => some b_parted
  | 83 => some b_path_of
  | 84 => some b_pushed
  | 85 => some b_pushes_by
  | 86 => some b_room_at
  | 87 => some b_round_of
  | 88 => some b_visit_ahead
  | 89 => some b_walk
  | 90 => some b_walkers_by
  | 91 => some b_with_door
  | 92 => some b_with_room
  | _ => none
end PD

/-! Helpers for the texts' derivations, and the head of a law. -/
namespace PD
open PySem L2

section
variable {P : Program} {w : World} {K : PySem.W.Frag} {mg : Str → Option Value} {base : Heap} {tb : Nat → Option Def} {W d : Nat}
theorem ok_codeD {x qual : Str} {params : Arguments} {bd : List Stmt} {scope : Scope} {dvs : List V} {kws : List (Str × V)} {f : Addr} {fd : FuncData} {N ps : List Str} {fid k : Nat} {b : List Bool} {body : MSs} (F : FunD K x qual params bd scope dvs kws f fd) (S : FnScope N ps scope) (ht : tb fid = some (.code b k body)) (hk : N.length = k) (hp : ps.length = b.length)
    (h : ∀ (cdv : Value) (A : Around) (outer : List PySem.Env) (s : Shared) (H : Hp) (E : XK) (H0 : Hp) (IO Z0 : List Addr) (iov : List (Nat × V)) (ioP : ∀ p ∈ iov, p.1 ∈ ioIx 0 b), Room d (A.deeper (PyProof.Rows.envOfC qual scope s.heap.objs.size f cdv)) →
      PSs (cxOf CX0 P w K mg base N qual scope f cdv A outer s H E).nox bd (tSs (Fm.mk K (CC tb W d) H0 IO Z0 iov (ioIx 0 b) ioP) W body)) :
    FnOk P w K mg base CX0 (d + 1) f fd ps (spD K (CC tb W (d + 1)) fid) := by
  have hio : (CC tb W (d + 1)).io fid = b := by simp [CC, ht, Def.io]
  refine F.ok S (fun vs H Q E q => ?_) (fun cdv A outer s H vs Q E hr q => ?_)
  · obtain ⟨ts, f, Z, x, outs, h1, _, _, _, _, h2, _⟩ := q
    rw [h1.len, (callD_code ht h2).1, hp]
  obtain ⟨t, h1, h2⟩ := code_core ht hk h q hr
  exact ⟨t, h1.nox, h2⟩
/-- a constant of the module -/
theorem pe_con {X : Cx} {x : Str} {v : V} {pos : Pos} (hm : ∃ u, X.mg x = some u ∧ RelV v u) (hg : Gl X x := by rfl) (hd : (x == ("__debug__" : Str)) = false := by decide) : PE X (.Name x pos) (tC v) := by
  obtain ⟨u, h1, h2⟩ := hm
  exact pe_glob hg h1 h2 hd
theorem isa_str : ∀ n, (n = "NoneType" ∨ n = "bool" ∨ n = "int" ∨ n = "str" ∨ n = "tuple" ∨ n = "list") → kitB n "str" = some (isaB .isStr n) := by
  rintro n (h | h | h | h | h | h) <;> subst h <;> decide +kernel
theorem isa_int : ∀ n, (n = "NoneType" ∨ n = "bool" ∨ n = "int" ∨ n = "str" ∨ n = "tuple" ∨ n = "list") → kitB n "int" = some (isaB .isInt n) := by
  rintro n (h | h | h | h | h | h) <;> subst h <;> decide +kernel
theorem isa_bool : ∀ n, (n = "NoneType" ∨ n = "bool" ∨ n = "int" ∨ n = "str" ∨ n = "tuple" ∨ n = "list") → kitB n "bool" = some (isaB .isBl n) := by
  rintro n (h | h | h | h | h | h) <;> subst h <;> decide +kernel
theorem isa_list : ∀ n, (n = "NoneType" ∨ n = "bool" ∨ n = "int" ∨ n = "str" ∨ n = "tuple" ∨ n = "list") → kitB n "list" = some (isaB .isLst n) := by
  rintro n (h | h | h | h | h | h) <;> subst h <;> decide +kernel
/-- THE HEAD of a law -/
theorem law_walk {l : PySem.W.OpenLaw} {q : Program} {loose : List Str} {XP : (Str → Option Value) → Heap → Prop} {YP : World → Heap → Prop} {d : DefRec} {K : Params → PySem.W.Frag} {fid : Nat} (hn : l.most = some 63) (hdf : d.params.defaults = [])
    (hY : ∀ (w : World) (h : Heap), YP w h → (K w.params).In h)
    (hio : (tb fid).map Def.io = some [false])
    (law : ∀ ns : List Int, ns.length ≤ 63 → ∃ outs, callD tb W 64 fid [.leaf (.scr ns)] = some (.leaf (.bl true), outs))
    (F : ∀ (w : World) (mg : Str → Option Value) (fa : Addr) (h : Heap), (K w.params).In h → h.Ns mainGlobals mg → mg d.name = some (.ref fa) →
      ∃ fd : FuncData, (∀ (s : Shared) (u : Value), BindsTo s fd ⟨[u], []⟩ [("_law_script", u)]) ∧ ∀ base : Heap, (K w.params).In base → base.Ns mainGlobals mg → FnOk l.prog w (K w.params) mg base CX0 64 fa fd ["_law_script"] (spD (K w.params) (CC tb W 64) fid)) :
    PySem.W.WalkO q loose XP YP l.row.toRowW d [] (fun f vs => PySem.call f vs) :=
  L2.walk_of (n := 63) (k := 64) (x := "_law_script") (CX := fun _ => CX0) (sp := fun w => spD (K w.params) (CC tb W 64) fid) hn (by decide) hdf ⟨rfl, by decide, by decide⟩ hY F (fun w H a ns hl ho hS => by
    obtain ⟨outs, e⟩ := law ns hl
    have sa : ScrAt (K w.params) H a (ns.map V.int) := by
      rcases hS with (h | h) | h
      · rcases ho a with q | ⟨o, xs, q⟩
        · rw [h] at q; cases q
        · rw [h] at q; cases q
      · exact .inl h
      · exact .inr h
    have hb : (CC tb W 64).io fid = [false] := by
      show ((tb fid).map Def.io).getD [] = _
      rw [hio]; rfl
    refine ⟨[.leaf (.scr ns)], [], [], .leaf (.bl true), outs, .cons (.leaf (.scr sa)) .nil, List.nodup_nil, (fun _ h => nomatch h), (fun _ h => nomatch h), ?_, e, fun v H' f' g h1 h2 _ _ _ => ?_⟩
    · rw [hb]; exact ⟨fun _ => rfl, trivial⟩
    · cases h2 with
      | leaf r => cases r; rfl) fun _ _ _ _ _ z => z
end
end PD

namespace PD
/-- more turns than any while takes -/
def WW : Nat := 10000000000000000000000
theorem ww_big : 1000000000000000000000 < WW := by unfold WW; omega
end PD

/-! The program's defs, run: rooms as plain Lean, and what each def answers of them. -/
namespace PD
open PySem

/-- rooms, so many rooms one in another at most: a name, or the hand and the doors (need, stands, what is behind) -/
def Rm : Nat → Type
  | 0 => Str
  | k + 1 => Str ⊕ (Int × List (Int × Int × Rm k))
def enc : (k : Nat) → Rm k → D
  | 0, s => .str s
  | _ + 1, Sum.inl s => .str s
  | k + 1, Sum.inr (h, ds) => .tup [.int h, .tup (ds.map fun x => .tup [.int x.1, .int x.2.1, enc k x.2.2])]
abbrev encD (k : Nat) (x : Int × Int × Rm k) : D := .tup [.int x.1, .int x.2.1, enc k x.2.2]

section
variable {W n : Nat}
theorem cc_run : (CC T0 W n).run = callD T0 W n := rfl
theorem cc_io {f : Nat} : (CC T0 W n).io f = ((T0 f).map Def.io).getD [] := rfl
/-- a call that answers, of a def that changes nothing -/
theorem call_of {fid k : Nat} {b : List Bool} {body : MSs} {ts : List T} {x : T} (hn : 0 < n) (ht : T0 fid = some (.code b k body)) (hl : ts.length = b.length) (hb : ioIx 0 b = [])
    (h : ∃ r1, exs (CC T0 W (n - 1)) W body (ts.map some ++ List.replicate (k - b.length) none) = some (.rt x r1)) : callD T0 W n fid ts = some (x, []) := by
  obtain ⟨m, rfl⟩ : ∃ m, n = m + 1 := ⟨n - 1, by omega⟩
  obtain ⟨r1, h⟩ := h
  unfold callD
  rw [ht]
  simp only [Option.bind_eq_bind, Option.bind_some, hl, if_true]
  simp only [CC, Nat.add_sub_cancel] at h
  rw [h]
  simp [hb]
theorem call_nx {fid k : Nat} {b : List Bool} {body : MSs} {ts : List T} (hn : 0 < n) (ht : T0 fid = some (.code b k body)) (hl : ts.length = b.length) (hb : ioIx 0 b = [])
    (h : ∃ r1, exs (CC T0 W (n - 1)) W body (ts.map some ++ List.replicate (k - b.length) none) = some (.nx r1)) : callD T0 W n fid ts = some (.leaf .non, []) := by
  obtain ⟨m, rfl⟩ : ∃ m, n = m + 1 := ⟨n - 1, by omega⟩
  obtain ⟨r1, h⟩ := h
  unfold callD
  rw [ht]
  simp only [Option.bind_eq_bind, Option.bind_some, hl, if_true]
  simp only [CC, Nat.add_sub_cancel] at h
  rw [h]
  simp [hb]

theorem eqb_str (x y : Str) : D.eqb (.str x) (.str y) = decide (x = y) := by rw [D.eqb]
theorem eqb_int (x y : Int) : D.eqb (.int x) (.int y) = decide (x = y) := by rw [D.eqb]; rfl
theorem eqb_tup (x y : List D) : D.eqb (.tup x) (.tup y) = D.eqbs x y := by rw [D.eqb]
theorem eqb_lst (x y : List D) : D.eqb (.lst x) (.lst y) = D.eqbs x y := by rw [D.eqb]
/-! ### what a suite ends with -/
def Ends (C : Callees) (W : Nat) (ss : MSs) (r : Env) (Q : Fl → Prop) : Prop := ∃ fl, exs C W ss r = some fl ∧ Q fl
def Sq (C : Callees) (W : Nat) (ss : MSs) (Q : Fl → Prop) : Fl → Prop
  | .nx r => Ends C W ss r Q
  | .rt t r => Q (.rt t r)
def Lq (I : Env → Prop) (Q : Fl → Prop) : Fl → Prop
  | .nx r => I r
  | .rt t r => Q (.rt t r)
section
variable {C : Callees} {s : MS} {ss a b : MSs} {r : Env} {Q Q' : Fl → Prop} {c : ME}
theorem sq_nx : Sq C W ss Q (.nx r) = Ends C W ss r Q := rfl
theorem sq_rt {t : T} : Sq C W ss Q (.rt t r) = Q (.rt t r) := rfl
theorem lq_nx {I : Env → Prop} : Lq I Q (.nx r) = I r := rfl
theorem lq_rt {I : Env → Prop} {t : T} : Lq I Q (.rt t r) = Q (.rt t r) := rfl
theorem ends_nil (h : Q (.nx r)) : Ends C W .nil r Q := ⟨_, rfl, h⟩
theorem ends_cons (h : ∃ fl, ex C W s r = some fl ∧ Sq C W ss Q fl) : Ends C W (.cons s ss) r Q := by
  obtain ⟨fl, e, q⟩ := h
  cases fl with
  | nx r1 =>
    obtain ⟨f2, e2, q2⟩ := q
    exact ⟨f2, by simp only [exs, e, Option.bind_eq_bind, Option.bind_some]; exact e2, q2⟩
  | rt t r1 => exact ⟨_, by simp only [exs, e, Option.bind_eq_bind, Option.bind_some], q⟩
theorem Ends.mono (h : Ends C W ss r Q) (m : ∀ fl, Q fl → Q' fl) : Ends C W ss r Q' := by
  obtain ⟨fl, e, q⟩ := h
  exact ⟨fl, e, m fl q⟩
theorem ends_nx {r1 : Env} (h1 : ex C W s r = some (.nx r1)) (h2 : Ends C W ss r1 Q) : Ends C W (.cons s ss) r Q := ends_cons ⟨_, h1, h2⟩
theorem ends_rt {t : T} {r1 : Env} (h1 : ex C W s r = some (.rt t r1)) (h2 : Q (.rt t r1)) : Ends C W (.cons s ss) r Q := ends_cons ⟨_, h1, h2⟩
theorem ends_ife {x : Bool} {r1 : Env} (e : ev C false c r = some (.leaf (.bl x), r1)) (h : Ends C W (if x = true then a else b) r1 (Sq C W ss Q)) : Ends C W (.cons (.ife c a b) ss) r Q := by
  obtain ⟨fl, e2, q⟩ := h
  refine ends_cons ⟨fl, ?_, q⟩
  simp only [ex, e, Option.bind_eq_bind, Option.bind_some, bl?]
  cases x
  · simpa using e2
  · simpa using e2
theorem ends_tt {r1 : Env} (e : ev C false c r = some (.leaf (.bl true), r1)) (h : Ends C W a r1 (Sq C W ss Q)) : Ends C W (.cons (.ife c a b) ss) r Q := ends_ife e h
theorem ends_ff {r1 : Env} (e : ev C false c r = some (.leaf (.bl false), r1)) (h : Ends C W b r1 (Sq C W ss Q)) : Ends C W (.cons (.ife c a b) ss) r Q := ends_ife e h
theorem ends_ff0 {r1 : Env} (e : ev C false c r = some (.leaf (.bl false), r1)) (h : Ends C W ss r1 Q) : Ends C W (.cons (.ife c a .nil) ss) r Q := ends_ife e (ends_nil h)
theorem ends_for {tg : Tg} {it : MI} {ds : List D} {r1 : Env} (I : List D → Env → Prop) (e : evi C it r = some (ds, r1)) (hI : I ds r1)
    (step : ∀ d ds r1, I (d :: ds) r1 → ∃ r2, Tg.put 9 tg d r1 = some r2 ∧ Ends C W b r2 (Lq (I ds) Q)) (fin : ∀ r1, I [] r1 → Ends C W ss r1 Q) : Ends C W (.cons (.for_ tg it b) ss) r Q := by
  have loop : ∀ ds r1, I ds r1 → ∃ fl, loopF (Tg.put 9 tg) (exs C W b) ds r1 = some fl ∧ Sq C W ss Q fl := by
    intro ds
    induction ds with
    | nil => exact fun r1 hI => ⟨.nx r1, rfl, fin r1 hI⟩
    | cons d ds ih =>
      intro r1 hI
      obtain ⟨r2, e2, fl, e3, q⟩ := step d ds r1 hI
      cases fl with
      | nx r3 =>
        obtain ⟨f4, e4, q4⟩ := ih r3 q
        exact ⟨f4, by simp only [loopF, e2, e3, Option.bind_eq_bind, Option.bind_some]; exact e4, q4⟩
      | rt t r3 => exact ⟨.rt t r3, by simp only [loopF, e2, e3, Option.bind_eq_bind, Option.bind_some], q⟩
  obtain ⟨fl, e2, q⟩ := loop ds r1 hI
  exact ends_cons ⟨fl, by simp only [ex, e, Option.bind_eq_bind, Option.bind_some]; exact e2, q⟩
theorem ends_whl (I : Nat → Env → Prop) (n : Nat) (hn : n < W) (h : I n r)
    (step : ∀ n r1, I n r1 → ∃ x r2, ev C false c r1 = some (.leaf (.bl x), r2) ∧ (x = true → Ends C W b r2 (Lq (fun r3 => ∃ m, m < n ∧ I m r3) Q)) ∧ (x = false → Ends C W ss r2 Q)) : Ends C W (.cons (.whl c b) ss) r Q := by
  have loop : ∀ (N n : Nat) (r1 : Env), n < N → I n r1 → ∃ fl, loopW (fun r => do
      let (x, r1) ← ev C false c r
      let k ← bl? x
      some (k, r1)) (exs C W b) N r1 = some fl ∧ Sq C W ss Q fl := by
    intro N
    induction N with
    | zero => intro n r1 h; omega
    | succ N ih =>
      intro n r1 hn hI
      obtain ⟨x, r2, e, h1, h0⟩ := step n r1 hI
      cases x with
      | false => exact ⟨.nx r2, by simp [loopW, e, bl?], h0 rfl⟩
      | true =>
        obtain ⟨fl, e3, q⟩ := h1 rfl
        cases fl with
        | nx r3 =>
          obtain ⟨m, hm, hI3⟩ := q
          obtain ⟨f4, e4, q4⟩ := ih m r3 (by omega) hI3
          exact ⟨f4, by simp [loopW, e, bl?, e3]; exact e4, q4⟩
        | rt t r3 => exact ⟨.rt t r3, by simp [loopW, e, bl?, e3], q⟩
  obtain ⟨fl, e2, q⟩ := loop W n r hn h
  exact ends_cons ⟨fl, by simp only [ex]; exact e2, q⟩
end
/-- a call of a def that changes nothing -/
def Rx (x : T) : Fl → Prop
  | .nx _ => x = .leaf .non
  | .rt t _ => t = x
theorem rx_rt {x t : T} {r : Env} : Rx x (.rt t r) = (t = x) := rfl
theorem rx_nx {x : T} {r : Env} : Rx x (.nx r) = (x = .leaf .non) := rfl
theorem call_ends {fid k : Nat} {b : List Bool} {body : MSs} {ts : List T} {x : T} (hn : 0 < n) (ht : T0 fid = some (.code b k body)) (hl : ts.length = b.length) (hb : ioIx 0 b = [])
    (h : Ends (CC T0 W (n - 1)) W body (ts.map some ++ List.replicate (k - b.length) none) (Rx x)) : callD T0 W n fid ts = some (x, []) := by
  obtain ⟨fl, e, q⟩ := h
  cases fl with
  | nx r1 => cases (show x = .leaf .non from q); exact call_nx hn ht hl hb ⟨r1, e⟩
  | rt t r1 => cases (show t = x from q); exact call_of hn ht hl hb ⟨r1, e⟩
def Rp (P : T → Prop) : Fl → Prop
  | .nx _ => P (.leaf .non)
  | .rt t _ => P t
theorem rp_rt {P : T → Prop} {t : T} {r : Env} : Rp P (.rt t r) = P t := rfl
/-- the same, of an answer of which something is known -/
theorem call_ex {P : T → Prop} {fid k : Nat} {b : List Bool} {body : MSs} {ts : List T} (hn : 0 < n) (ht : T0 fid = some (.code b k body)) (hl : ts.length = b.length) (hb : ioIx 0 b = [])
    (h : Ends (CC T0 W (n - 1)) W body (ts.map some ++ List.replicate (k - b.length) none) (Rp P)) : ∃ x, callD T0 W n fid ts = some (x, []) ∧ P x := by
  obtain ⟨fl, e, q⟩ := h
  cases fl with
  | nx r1 => exact ⟨_, call_nx hn ht hl hb ⟨r1, e⟩, q⟩
  | rt t r1 => exact ⟨_, call_of hn ht hl hb ⟨r1, e⟩, q⟩
/-- a call of a def that changes what stands at the places is -/
theorem call_io {fid k : Nat} {b : List Bool} {body : MSs} {ts : List T} {P : T → List T → Prop} (hn : 0 < n) (ht : T0 fid = some (.code b k body)) (hl : ts.length = b.length)
    (h : Ends (CC T0 W (n - 1)) W body (ts.map some ++ List.replicate (k - b.length) none) fun fl => match fl with
      | .nx r1 => ∃ outs, (ioIx 0 b).mapM (fun i => r1.getD i none) = some outs ∧ P (.leaf .non) outs
      | .rt t r1 => ∃ outs, (ioIx 0 b).mapM (fun i => r1.getD i none) = some outs ∧ P t outs) : ∃ x outs, callD T0 W n fid ts = some (x, outs) ∧ P x outs := by
  obtain ⟨m, rfl⟩ : ∃ m, n = m + 1 := ⟨n - 1, by omega⟩
  obtain ⟨fl, h, q⟩ := h
  simp only [CC, Nat.add_sub_cancel] at h
  cases fl with
  | nx r1 =>
    obtain ⟨outs, e, p⟩ := q
    refine ⟨_, _, ?_, p⟩
    unfold callD
    rw [ht]
    simp only [Option.bind_eq_bind, Option.bind_some, hl, if_true]
    rw [h]
    simp only [Option.bind_some, e]
  | rt t r1 =>
    obtain ⟨outs, e, p⟩ := q
    refine ⟨_, _, ?_, p⟩
    unfold callD
    rw [ht]
    simp only [Option.bind_eq_bind, Option.bind_some, hl, if_true]
    rw [h]
    simp only [Option.bind_some, e]
/-- a comprehension that leaves the slots as they are -/
theorem comps_pure {α : Type} {put : D → Env → Option Env} {c : Env → Option (Bool × Env)} {e : Env → Option (T × Env)} {own : List Nat} {r : Env} (f : α → D) (p : α → Bool) (g : α → T) : ∀ (xs : List α) (acc : List T), acc.length + xs.length ≤ lim →
    (∀ x ∈ xs, ∃ r1, put (f x) r = some r1 ∧ c r1 = some (p x, r1) ∧ (p x = true → e r1 = some (g x, r1)) ∧ wipe r1 own = r) → comps put c e own (xs.map f) acc r = some (acc ++ (xs.filter p).map g, r)
  | [], acc, _, _ => by simp [comps]
  | d :: ds, acc, hl, h => by
    obtain ⟨r1, e1, e2, e3, e4⟩ := h d List.mem_cons_self
    have hl' : acc.length + (ds.length + 1) ≤ lim := hl
    by_cases q : p d = true
    · have ih := comps_pure f p g ds (acc ++ [g d]) (by simp; omega) fun d hd => h d (List.mem_cons_of_mem _ hd)
      simp only [List.map_cons, comps, e1, e2, q, e3 q, e4, Option.bind_eq_bind, Option.bind_some, if_true]
      rw [if_pos (by omega), ih, List.filter_cons_of_pos q]
      simp
    · have ih := comps_pure f p g ds acc (by omega) fun d hd => h d (List.mem_cons_of_mem _ hd)
      simp only [List.map_cons, comps, e1, e2, q, e4, Option.bind_eq_bind, Option.bind_some, if_false, Bool.false_eq_true]
      rw [ih, List.filter_cons_of_neg q]

theorem evl_comp {α : Type} {C : Callees} {k : Bool} {tg : Tg} {it : MI} {c : MO} {e : ME} {own : List Nat} {r r1 : Env} {xs : List α} (f : α → D) (p : α → Bool) (g : α → T) (hi : evi C it r = some (xs.map f, r1)) (ho : (own.any fun i => (r1.getD i none).isSome) = false) (hl : xs.length ≤ lim)
    (h : ∀ x ∈ xs, ∃ r2, Tg.put 9 tg (f x) r1 = some r2 ∧ evc C c r2 = some (p x, r2) ∧ (p x = true → ev C false e r2 = some (g x, r2)) ∧ wipe r2 own = r1) : ev C k (.comp tg it c e own) r = some (.node ((xs.filter p).map g), r1) := by
  have q := comps_pure (put := Tg.put 9 tg) (c := evc C c) (e := ev C false e) f p g xs [] (by simpa using hl) h
  simp only [ev, hi, Option.bind_eq_bind, Option.bind_some, ho, q, Bool.false_eq_true, if_false, List.nil_append]
/-- with no test -/
theorem evl_compN {α : Type} {C : Callees} {k : Bool} {tg : Tg} {it : MI} {e : ME} {own : List Nat} {r r1 : Env} {xs : List α} (f : α → D) (g : α → T) (hi : evi C it r = some (xs.map f, r1)) (ho : (own.any fun i => (r1.getD i none).isSome) = false) (hl : xs.length ≤ lim)
    (h : ∀ x ∈ xs, ∃ r2, Tg.put 9 tg (f x) r1 = some r2 ∧ ev C false e r2 = some (g x, r2) ∧ wipe r2 own = r1) : ev C k (.comp tg it .none e own) r = some (.node (xs.map g), r1) := by
  have q := evl_comp (C := C) (k := k) (c := .none) f (fun _ => true) g hi ho hl fun d hd => by
    obtain ⟨r2, h1, h2, h3⟩ := h d hd
    exact ⟨r2, h1, rfl, fun _ => h2, h3⟩
  rwa [List.filter_eq_self.mpr fun _ _ => rfl] at q
theorem enums_zip {α : Type} (f : α → D) : ∀ (n : Nat) (xs : List α), enums n (xs.map f) = (xs.zipIdx n).map fun p => D.tup [.int p.2, f p.1]
  | _, [] => rfl
  | n, x :: xs => by simp [enums, List.zipIdx_cons, enums_zip f (n + 1) xs]

/-- how often a door is passed: left_by -/
def lf (h len i m : Int) : Int := (m - 1 - (i - h) % len + len) / len
theorem left_by_run {h i m : Int} {ds : List D} (hn : 0 < n) (hl : 0 < ds.length) (hl2 : ds.length ≤ 4) : callD T0 W n f_left_by [.leaf (.tup [.int h, .tup ds]), .leaf (.int i), .leaf (.int m)] = some (.leaf (.int (lf h ds.length i m)), []) := by
  refine call_of hn (show T0 f_left_by = some b_left_by from rfl) rfl rfl ?_
  have h1 : (0 : Int) < ds.length := by omega
  have h2 : (ds.length : Int) < 18446744073709551616 := by omega
  simp [exs, ex, ev, evs, evo, eva, evi, evc, Tg.put, leaf?, bl?, int?, node?, tpl?, lsts?, T.isLeaf, T.frz, T.frzs, argOk, ioSlots, ioTs, ioPut, ME.mut, MEs.mut, MO.mut, ME.path, bfn, binop, cmpop, T.lst?, T.leaves, cc_run, cc_io, wipe, Option.bind_eq_bind, Option.bind_some, Option.map_some, Option.pure_def, List.getD_cons_zero, List.getD_cons_succ, List.set_cons_zero, List.set_cons_succ, List.map_cons, List.map_nil, List.mapM_cons, List.mapM_nil, List.length_cons, List.length_nil, List.cons_append, List.nil_append, Bool.or_false, Bool.false_or, Bool.or_true, Bool.true_or, Bool.and_true, Bool.true_and, Bool.and_false, Bool.false_and, Bool.not_true, Bool.not_false, Bool.false_eq_true, if_true, if_false, reduceIte, List.replicate_succ, List.replicate_zero, List.zip_cons_cons, List.zip_nil_right, List.foldlM_cons, List.foldlM_nil, List.nodup_nil, h1, hl, h2, lf]
def pu (need stands m : Int) : Int := if m = 0 then 0 else m * need - stands
theorem pushes_by_run {a b m : Int} {r : D} (hn : 0 < n) (ha : 0 ≤ a) (ha2 : a ≤ 100) : callD T0 W n f_pushes_by [.leaf (.tup [.int a, .int b, r]), .leaf (.int m)] = some (.leaf (.int (pu a b m)), []) := by
  refine call_of hn (show T0 f_pushes_by = some b_pushes_by from rfl) rfl rfl ?_
  have hm : mulOk m a = true := by simp [mulOk]; omega
  by_cases c : m = 0
  · subst c; simp [exs, ex, ev, evs, evo, eva, evi, evc, Tg.put, leaf?, bl?, int?, node?, tpl?, lsts?, T.isLeaf, T.frz, T.frzs, argOk, ioSlots, ioTs, ioPut, ME.mut, MEs.mut, MO.mut, ME.path, bfn, binop, cmpop, T.lst?, T.leaves, cc_run, cc_io, wipe, Option.bind_eq_bind, Option.bind_some, Option.map_some, Option.pure_def, List.getD_cons_zero, List.getD_cons_succ, List.set_cons_zero, List.set_cons_succ, List.map_cons, List.map_nil, List.mapM_cons, List.mapM_nil, List.length_cons, List.length_nil, List.cons_append, List.nil_append, Bool.or_false, Bool.false_or, Bool.or_true, Bool.true_or, Bool.and_true, Bool.true_and, Bool.and_false, Bool.false_and, Bool.not_true, Bool.not_false, Bool.false_eq_true, if_true, if_false, reduceIte, List.replicate_succ, List.replicate_zero, List.zip_cons_cons, List.zip_nil_right, List.foldlM_cons, List.foldlM_nil, List.nodup_nil, pu, D.plain, D.depth, eqb_int]
  · simp [exs, ex, ev, evs, evo, eva, evi, evc, Tg.put, leaf?, bl?, int?, node?, tpl?, lsts?, T.isLeaf, T.frz, T.frzs, argOk, ioSlots, ioTs, ioPut, ME.mut, MEs.mut, MO.mut, ME.path, bfn, binop, cmpop, T.lst?, T.leaves, cc_run, cc_io, wipe, Option.bind_eq_bind, Option.bind_some, Option.map_some, Option.pure_def, List.getD_cons_zero, List.getD_cons_succ, List.set_cons_zero, List.set_cons_succ, List.map_cons, List.map_nil, List.mapM_cons, List.mapM_nil, List.length_cons, List.length_nil, List.cons_append, List.nil_append, Bool.or_false, Bool.false_or, Bool.or_true, Bool.true_or, Bool.and_true, Bool.true_and, Bool.and_false, Bool.false_and, Bool.not_true, Bool.not_false, Bool.false_eq_true, if_true, if_false, reduceIte, List.replicate_succ, List.replicate_zero, List.zip_cons_cons, List.zip_nil_right, List.foldlM_cons, List.foldlM_nil, List.nodup_nil, pu, c, hm, D.plain, D.depth, eqb_int]
def D.isStr : D → Bool
  | .str _ => true
  | _ => false
theorem is_out_run {d : D} (hn : 0 < n) : callD T0 W n f_is_out [.leaf d] = some (.leaf (.bl d.isStr), []) := by
  refine call_of hn (show T0 f_is_out = some b_is_out from rfl) rfl rfl ?_
  cases d <;> simp [exs, ex, ev, evs, evo, eva, evi, evc, Tg.put, leaf?, bl?, int?, node?, tpl?, lsts?, T.isLeaf, T.frz, T.frzs, argOk, ioSlots, ioTs, ioPut, ME.mut, MEs.mut, MO.mut, ME.path, bfn, binop, cmpop, T.lst?, T.leaves, cc_run, cc_io, wipe, Option.bind_eq_bind, Option.bind_some, Option.map_some, Option.pure_def, List.getD_cons_zero, List.getD_cons_succ, List.set_cons_zero, List.set_cons_succ, List.map_cons, List.map_nil, List.mapM_cons, List.mapM_nil, List.length_cons, List.length_nil, List.cons_append, List.nil_append, Bool.or_false, Bool.false_or, Bool.or_true, Bool.true_or, Bool.and_true, Bool.true_and, Bool.and_false, Bool.false_and, Bool.not_true, Bool.not_false, Bool.false_eq_true, if_true, if_false, reduceIte, List.replicate_succ, List.replicate_zero, List.zip_cons_cons, List.zip_nil_right, List.foldlM_cons, List.foldlM_nil, List.nodup_nil, D.isStr]
end
end PD

/-! walkers_by, path_of, names_by, run. -/
namespace PD
open PySem

/-- walkers_by's sum over the doors from place i on -/
def wbL {α : Type} (f : α → Int → Int) (h len m : Int) : Int → List (Int × Int × α) → Int
  | _, [] => 0
  | i, x :: ds => (if 0 < lf h len i m then pu x.1 x.2.1 (lf h len i m) + f x.2.2 (lf h len i m) else 0) + wbL f h len m (i + 1) ds
def wb : (k : Nat) → Rm k → Int → Int
  | 0, _, m => m
  | _ + 1, Sum.inl _, m => m
  | k + 1, Sum.inr (h, ds), m => wbL (wb k) h ds.length m 0 ds
/-- the form of a room: so many doors, needs that may be multiplied -/
def Fit : (k : Nat) → Rm k → Prop
  | 0, _ => True
  | _ + 1, Sum.inl _ => True
  | k + 1, Sum.inr (h, ds) => 0 < ds.length ∧ ds.length ≤ 4 ∧ 0 ≤ h ∧ h < ds.length ∧ ∀ x ∈ ds, 1 ≤ x.1 ∧ x.1 ≤ 100 ∧ 0 ≤ x.2.1 ∧ x.2.1 ≤ x.1 ∧ Fit k x.2.2

section
variable {W n : Nat}
theorem io_is_out : ((T0 f_is_out).map Def.io).getD [] = [false] := rfl
theorem io_left_by : ((T0 f_left_by).map Def.io).getD [] = [false, false, false] := rfl
theorem io_pushes_by : ((T0 f_pushes_by).map Def.io).getD [] = [false, false] := rfl
theorem io_walkers_by : ((T0 f_walkers_by).map Def.io).getD [] = [false, false] := rfl

theorem walkers_by_run {W : Nat} : ∀ (k n : Nat) (r : Rm k) (m : Int), k + 1 < n → Fit k r → callD T0 W n f_walkers_by [.leaf (enc k r), .leaf (.int m)] = some (.leaf (.int (wb k r m)), []) := by
  intro k
  induction k with
  | zero =>
    intro n r m hn _
    refine call_ends (by omega) (show T0 f_walkers_by = some b_walkers_by from rfl) rfl rfl ?_
    have e := is_out_run (W := W) (n := n - 1) (d := .str r) (by omega)
    exact ends_tt (by (conv => lhs; simp [exs, ex, ev, evs, evo, eva, evi, evc, Tg.put, leaf?, bl?, int?, node?, tpl?, lsts?, T.isLeaf, T.frz, T.frzs, argOk, ioSlots, ioTs, ioPut, ME.mut, MEs.mut, MO.mut, ME.path, bfn, binop, cmpop, T.lst?, T.leaves, cc_run, cc_io, wipe, Option.bind_eq_bind, Option.bind_some, Option.map_some, Option.pure_def, List.getD_cons_zero, List.getD_cons_succ, List.set_cons_zero, List.set_cons_succ, List.map_cons, List.map_nil, List.mapM_cons, List.mapM_nil, List.length_cons, List.length_nil, List.cons_append, List.nil_append, Bool.or_false, Bool.false_or, Bool.or_true, Bool.true_or, Bool.and_true, Bool.true_and, Bool.and_false, Bool.false_and, Bool.not_true, Bool.not_false, Bool.false_eq_true, if_true, if_false, reduceIte, List.replicate_succ, List.replicate_zero, List.zip_cons_cons, List.zip_nil_right, List.foldlM_cons, List.foldlM_nil, List.nodup_nil, enc, e, io_is_out, D.isStr]) <;> rfl) (ends_rt (by (conv => lhs; simp [exs, ex, ev, evs, evo, eva, evi, evc, Tg.put, leaf?, bl?, int?, node?, tpl?, lsts?, T.isLeaf, T.frz, T.frzs, argOk, ioSlots, ioTs, ioPut, ME.mut, MEs.mut, MO.mut, ME.path, bfn, binop, cmpop, T.lst?, T.leaves, cc_run, cc_io, wipe, Option.bind_eq_bind, Option.bind_some, Option.map_some, Option.pure_def, List.getD_cons_zero, List.getD_cons_succ, List.set_cons_zero, List.set_cons_succ, List.map_cons, List.map_nil, List.mapM_cons, List.mapM_nil, List.length_cons, List.length_nil, List.cons_append, List.nil_append, Bool.or_false, Bool.false_or, Bool.or_true, Bool.true_or, Bool.and_true, Bool.true_and, Bool.and_false, Bool.false_and, Bool.not_true, Bool.not_false, Bool.false_eq_true, if_true, if_false, reduceIte, List.replicate_succ, List.replicate_zero, List.zip_cons_cons, List.zip_nil_right, List.foldlM_cons, List.foldlM_nil, List.nodup_nil]) <;> rfl) rfl)
  | succ k ih =>
    intro n r m hn hf
    refine call_ends (by omega) (show T0 f_walkers_by = some b_walkers_by from rfl) rfl rfl ?_
    cases r with
    | inl s =>
      have e := is_out_run (W := W) (n := n - 1) (d := .str s) (by omega)
      exact ends_tt (by (conv => lhs; simp [exs, ex, ev, evs, evo, eva, evi, evc, Tg.put, leaf?, bl?, int?, node?, tpl?, lsts?, T.isLeaf, T.frz, T.frzs, argOk, ioSlots, ioTs, ioPut, ME.mut, MEs.mut, MO.mut, ME.path, bfn, binop, cmpop, T.lst?, T.leaves, cc_run, cc_io, wipe, Option.bind_eq_bind, Option.bind_some, Option.map_some, Option.pure_def, List.getD_cons_zero, List.getD_cons_succ, List.set_cons_zero, List.set_cons_succ, List.map_cons, List.map_nil, List.mapM_cons, List.mapM_nil, List.length_cons, List.length_nil, List.cons_append, List.nil_append, Bool.or_false, Bool.false_or, Bool.or_true, Bool.true_or, Bool.and_true, Bool.true_and, Bool.and_false, Bool.false_and, Bool.not_true, Bool.not_false, Bool.false_eq_true, if_true, if_false, reduceIte, List.replicate_succ, List.replicate_zero, List.zip_cons_cons, List.zip_nil_right, List.foldlM_cons, List.foldlM_nil, List.nodup_nil, enc, e, io_is_out, D.isStr]) <;> rfl) (ends_rt (by (conv => lhs; simp [exs, ex, ev, evs, evo, eva, evi, evc, Tg.put, leaf?, bl?, int?, node?, tpl?, lsts?, T.isLeaf, T.frz, T.frzs, argOk, ioSlots, ioTs, ioPut, ME.mut, MEs.mut, MO.mut, ME.path, bfn, binop, cmpop, T.lst?, T.leaves, cc_run, cc_io, wipe, Option.bind_eq_bind, Option.bind_some, Option.map_some, Option.pure_def, List.getD_cons_zero, List.getD_cons_succ, List.set_cons_zero, List.set_cons_succ, List.map_cons, List.map_nil, List.mapM_cons, List.mapM_nil, List.length_cons, List.length_nil, List.cons_append, List.nil_append, Bool.or_false, Bool.false_or, Bool.or_true, Bool.true_or, Bool.and_true, Bool.true_and, Bool.and_false, Bool.false_and, Bool.not_true, Bool.not_false, Bool.false_eq_true, if_true, if_false, reduceIte, List.replicate_succ, List.replicate_zero, List.zip_cons_cons, List.zip_nil_right, List.foldlM_cons, List.foldlM_nil, List.nodup_nil]) <;> rfl) rfl)
    | inr p =>
      obtain ⟨h, ds⟩ := p
      obtain ⟨hl, hl4, h0, h1, hd⟩ := hf
      have e := is_out_run (W := W) (n := n - 1) (d := .tup [.int h, .tup (ds.map (encD k))]) (by omega)
      refine ends_ff0 (by (conv => lhs; simp [exs, ex, ev, evs, evo, eva, evi, evc, Tg.put, leaf?, bl?, int?, node?, tpl?, lsts?, T.isLeaf, T.frz, T.frzs, argOk, ioSlots, ioTs, ioPut, ME.mut, MEs.mut, MO.mut, ME.path, bfn, binop, cmpop, T.lst?, T.leaves, cc_run, cc_io, wipe, Option.bind_eq_bind, Option.bind_some, Option.map_some, Option.pure_def, List.getD_cons_zero, List.getD_cons_succ, List.set_cons_zero, List.set_cons_succ, List.map_cons, List.map_nil, List.mapM_cons, List.mapM_nil, List.length_cons, List.length_nil, List.cons_append, List.nil_append, Bool.or_false, Bool.false_or, Bool.or_true, Bool.true_or, Bool.and_true, Bool.true_and, Bool.and_false, Bool.false_and, Bool.not_true, Bool.not_false, Bool.false_eq_true, if_true, if_false, reduceIte, List.replicate_succ, List.replicate_zero, List.zip_cons_cons, List.zip_nil_right, List.foldlM_cons, List.foldlM_nil, List.nodup_nil, enc, e, io_is_out, D.isStr]) <;> rfl) (ends_nx (by (conv => lhs; simp [exs, ex, ev, evs, evo, eva, evi, evc, Tg.put, leaf?, bl?, int?, node?, tpl?, lsts?, T.isLeaf, T.frz, T.frzs, argOk, ioSlots, ioTs, ioPut, ME.mut, MEs.mut, MO.mut, ME.path, bfn, binop, cmpop, T.lst?, T.leaves, cc_run, cc_io, wipe, Option.bind_eq_bind, Option.bind_some, Option.map_some, Option.pure_def, List.getD_cons_zero, List.getD_cons_succ, List.set_cons_zero, List.set_cons_succ, List.map_cons, List.map_nil, List.mapM_cons, List.mapM_nil, List.length_cons, List.length_nil, List.cons_append, List.nil_append, Bool.or_false, Bool.false_or, Bool.or_true, Bool.true_or, Bool.and_true, Bool.true_and, Bool.and_false, Bool.false_and, Bool.not_true, Bool.not_false, Bool.false_eq_true, if_true, if_false, reduceIte, List.replicate_succ, List.replicate_zero, List.zip_cons_cons, List.zip_nil_right, List.foldlM_cons, List.foldlM_nil, List.nodup_nil]) <;> rfl) ?_)
      refine ends_for (fun it r => ∃ (i : Nat) (xs : List (Int × Int × Rm k)) (acc : Int) (a b c : Option T), it = enums i (xs.map (encD k)) ∧ r = [some (.leaf (.tup [.int h, .tup (ds.map (encD k))])), some (.leaf (.int m)), some (.leaf (.int acc)), a, b, c] ∧
        acc + wbL (wb k) h ds.length m i xs = wbL (wb k) h ds.length m 0 ds ∧ ∀ x ∈ xs, 1 ≤ x.1 ∧ x.1 ≤ 100 ∧ 0 ≤ x.2.1 ∧ x.2.1 ≤ x.1 ∧ Fit k x.2.2) (by (conv => lhs; simp [exs, ex, ev, evs, evo, eva, evi, evc, Tg.put, leaf?, bl?, int?, node?, tpl?, lsts?, T.isLeaf, T.frz, T.frzs, argOk, ioSlots, ioTs, ioPut, ME.mut, MEs.mut, MO.mut, ME.path, bfn, binop, cmpop, T.lst?, T.leaves, cc_run, cc_io, wipe, Option.bind_eq_bind, Option.bind_some, Option.map_some, Option.pure_def, List.getD_cons_zero, List.getD_cons_succ, List.set_cons_zero, List.set_cons_succ, List.map_cons, List.map_nil, List.mapM_cons, List.mapM_nil, List.length_cons, List.length_nil, List.cons_append, List.nil_append, Bool.or_false, Bool.false_or, Bool.or_true, Bool.true_or, Bool.and_true, Bool.true_and, Bool.and_false, Bool.false_and, Bool.not_true, Bool.not_false, Bool.false_eq_true, if_true, if_false, reduceIte, List.replicate_succ, List.replicate_zero, List.zip_cons_cons, List.zip_nil_right, List.foldlM_cons, List.foldlM_nil, List.nodup_nil, atI, ixN]) <;> rfl) ⟨0, ds, 0, _, _, _, rfl, rfl, by simp, hd⟩ ?_ ?_
      · rintro d its r1 ⟨i, xs, acc, a, b, c, e1, rfl, e3, hx⟩
        cases xs with
        | nil => simp [enums] at e1
        | cons x xs =>
          simp only [List.map_cons, enums, List.cons.injEq] at e1
          obtain ⟨rfl, rfl⟩ := e1
          have f1 := left_by_run (W := W) (n := n - 1) (h := h) (i := i) (m := m) (ds := ds.map (encD k)) (by omega) (by simpa using hl) (by simpa using hl4)
          obtain ⟨x1, x2, x3, x4, x5⟩ := hx x List.mem_cons_self
          rw [List.length_map] at f1
          have f2 := pushes_by_run (W := W) (n := n - 1) (a := x.1) (b := x.2.1) (m := lf h ds.length i m) (r := enc k x.2.2) (by omega) (by omega) (by omega)
          have f3 := ih (n - 1) x.2.2 (lf h ds.length i m) (by omega) x5
          refine ⟨_, (by (conv => lhs; simp [exs, ex, ev, evs, evo, eva, evi, evc, Tg.put, leaf?, bl?, int?, node?, tpl?, lsts?, T.isLeaf, T.frz, T.frzs, argOk, ioSlots, ioTs, ioPut, ME.mut, MEs.mut, MO.mut, ME.path, bfn, binop, cmpop, T.lst?, T.leaves, cc_run, cc_io, wipe, Option.bind_eq_bind, Option.bind_some, Option.map_some, Option.pure_def, List.getD_cons_zero, List.getD_cons_succ, List.set_cons_zero, List.set_cons_succ, List.map_cons, List.map_nil, List.mapM_cons, List.mapM_nil, List.length_cons, List.length_nil, List.cons_append, List.nil_append, Bool.or_false, Bool.false_or, Bool.or_true, Bool.true_or, Bool.and_true, Bool.true_and, Bool.and_false, Bool.false_and, Bool.not_true, Bool.not_false, Bool.false_eq_true, if_true, if_false, reduceIte, List.replicate_succ, List.replicate_zero, List.zip_cons_cons, List.zip_nil_right, List.foldlM_cons, List.foldlM_nil, List.nodup_nil]) <;> rfl), ends_nx (by (conv => lhs; simp [exs, ex, ev, evs, evo, eva, evi, evc, Tg.put, leaf?, bl?, int?, node?, tpl?, lsts?, T.isLeaf, T.frz, T.frzs, argOk, ioSlots, ioTs, ioPut, ME.mut, MEs.mut, MO.mut, ME.path, bfn, binop, cmpop, T.lst?, T.leaves, cc_run, cc_io, wipe, Option.bind_eq_bind, Option.bind_some, Option.map_some, Option.pure_def, List.getD_cons_zero, List.getD_cons_succ, List.set_cons_zero, List.set_cons_succ, List.map_cons, List.map_nil, List.mapM_cons, List.mapM_nil, List.length_cons, List.length_nil, List.cons_append, List.nil_append, Bool.or_false, Bool.false_or, Bool.or_true, Bool.true_or, Bool.and_true, Bool.true_and, Bool.and_false, Bool.false_and, Bool.not_true, Bool.not_false, Bool.false_eq_true, if_true, if_false, reduceIte, List.replicate_succ, List.replicate_zero, List.zip_cons_cons, List.zip_nil_right, List.foldlM_cons, List.foldlM_nil, List.nodup_nil, io_left_by, f1]) <;> rfl) ?_⟩
          by_cases c : 0 < lf h ds.length i m
          · refine ends_tt (by (conv => lhs; simp [exs, ex, ev, evs, evo, eva, evi, evc, Tg.put, leaf?, bl?, int?, node?, tpl?, lsts?, T.isLeaf, T.frz, T.frzs, argOk, ioSlots, ioTs, ioPut, ME.mut, MEs.mut, MO.mut, ME.path, bfn, binop, cmpop, T.lst?, T.leaves, cc_run, cc_io, wipe, Option.bind_eq_bind, Option.bind_some, Option.map_some, Option.pure_def, List.getD_cons_zero, List.getD_cons_succ, List.set_cons_zero, List.set_cons_succ, List.map_cons, List.map_nil, List.mapM_cons, List.mapM_nil, List.length_cons, List.length_nil, List.cons_append, List.nil_append, Bool.or_false, Bool.false_or, Bool.or_true, Bool.true_or, Bool.and_true, Bool.true_and, Bool.and_false, Bool.false_and, Bool.not_true, Bool.not_false, Bool.false_eq_true, if_true, if_false, reduceIte, List.replicate_succ, List.replicate_zero, List.zip_cons_cons, List.zip_nil_right, List.foldlM_cons, List.foldlM_nil, List.nodup_nil, c]) <;> rfl) (ends_nx (by (conv => lhs; simp [exs, ex, ev, evs, evo, eva, evi, evc, Tg.put, leaf?, bl?, int?, node?, tpl?, lsts?, T.isLeaf, T.frz, T.frzs, argOk, ioSlots, ioTs, ioPut, ME.mut, MEs.mut, MO.mut, ME.path, bfn, binop, cmpop, T.lst?, T.leaves, cc_run, cc_io, wipe, Option.bind_eq_bind, Option.bind_some, Option.map_some, Option.pure_def, List.getD_cons_zero, List.getD_cons_succ, List.set_cons_zero, List.set_cons_succ, List.map_cons, List.map_nil, List.mapM_cons, List.mapM_nil, List.length_cons, List.length_nil, List.cons_append, List.nil_append, Bool.or_false, Bool.false_or, Bool.or_true, Bool.true_or, Bool.and_true, Bool.true_and, Bool.and_false, Bool.false_and, Bool.not_true, Bool.not_false, Bool.false_eq_true, if_true, if_false, reduceIte, List.replicate_succ, List.replicate_zero, List.zip_cons_cons, List.zip_nil_right, List.foldlM_cons, List.foldlM_nil, List.nodup_nil, io_pushes_by, io_walkers_by, f2, f3, index, atI, ixN]) <;> rfl) (ends_nil (ends_nil ?_)))
            refine ⟨i + 1, xs, _, _, _, _, rfl, rfl, ?_, fun y hy => hx y (List.mem_cons_of_mem _ hy)⟩
            rw [← e3]
            simp [wbL, c]
            omega
          · refine ends_ff0 (by (conv => lhs; simp [exs, ex, ev, evs, evo, eva, evi, evc, Tg.put, leaf?, bl?, int?, node?, tpl?, lsts?, T.isLeaf, T.frz, T.frzs, argOk, ioSlots, ioTs, ioPut, ME.mut, MEs.mut, MO.mut, ME.path, bfn, binop, cmpop, T.lst?, T.leaves, cc_run, cc_io, wipe, Option.bind_eq_bind, Option.bind_some, Option.map_some, Option.pure_def, List.getD_cons_zero, List.getD_cons_succ, List.set_cons_zero, List.set_cons_succ, List.map_cons, List.map_nil, List.mapM_cons, List.mapM_nil, List.length_cons, List.length_nil, List.cons_append, List.nil_append, Bool.or_false, Bool.false_or, Bool.or_true, Bool.true_or, Bool.and_true, Bool.true_and, Bool.and_false, Bool.false_and, Bool.not_true, Bool.not_false, Bool.false_eq_true, if_true, if_false, reduceIte, List.replicate_succ, List.replicate_zero, List.zip_cons_cons, List.zip_nil_right, List.foldlM_cons, List.foldlM_nil, List.nodup_nil, c]) <;> rfl) (ends_nil ?_)
            refine ⟨i + 1, xs, _, _, _, _, rfl, rfl, ?_, fun y hy => hx y (List.mem_cons_of_mem _ hy)⟩
            rw [← e3]
            simp [wbL, c]
      · rintro r1 ⟨i, xs, acc, a, b, c, e1, rfl, e3, hx⟩
        cases xs with
        | cons x xs => simp [enums] at e1
        | nil =>
          refine ends_rt (by (conv => lhs; simp [exs, ex, ev, evs, evo, eva, evi, evc, Tg.put, leaf?, bl?, int?, node?, tpl?, lsts?, T.isLeaf, T.frz, T.frzs, argOk, ioSlots, ioTs, ioPut, ME.mut, MEs.mut, MO.mut, ME.path, bfn, binop, cmpop, T.lst?, T.leaves, cc_run, cc_io, wipe, Option.bind_eq_bind, Option.bind_some, Option.map_some, Option.pure_def, List.getD_cons_zero, List.getD_cons_succ, List.set_cons_zero, List.set_cons_succ, List.map_cons, List.map_nil, List.mapM_cons, List.mapM_nil, List.length_cons, List.length_nil, List.cons_append, List.nil_append, Bool.or_false, Bool.false_or, Bool.or_true, Bool.true_or, Bool.and_true, Bool.true_and, Bool.and_false, Bool.false_and, Bool.not_true, Bool.not_false, Bool.false_eq_true, if_true, if_false, reduceIte, List.replicate_succ, List.replicate_zero, List.zip_cons_cons, List.zip_nil_right, List.foldlM_cons, List.foldlM_nil, List.nodup_nil]) <;> rfl) ?_
          rw [rx_rt]
          simp [wbL] at e3
          simp [wb, e3]
end
end PD

/-! houses that are none refused: is_name, is_door, is_room, need_room, all_paths, need_house, need_far. -/
namespace PD
open PySem

def letters : Str := Str.ofString "abcdefghijklmnopqrstuvwxyz"
structure NameOk (s : Str) : Prop where
  one : 1 ≤ s.length
  six : s.length ≤ 6
  abc : ∀ c ∈ s.cps.toList, c ∈ letters.cps.toList
/-- a house's room: as the program wants it -/
def Ok : (k : Nat) → Rm k → Prop
  | 0, s => NameOk s
  | _ + 1, Sum.inl s => NameOk s
  | k + 1, Sum.inr (h, ds) => 0 < ds.length ∧ ds.length ≤ 4 ∧ 0 ≤ h ∧ h < ds.length ∧ ∀ x ∈ ds, (1 ≤ x.1 ∧ x.1 ≤ 99 ∧ 0 ≤ x.2.1 ∧ x.2.1 ≤ x.1) ∧ Ok k x.2.2
/-- how many doors -/
def nd : (k : Nat) → Rm k → Nat
  | 0, _ => 0
  | _ + 1, Sum.inl _ => 0
  | k + 1, Sum.inr (_, ds) => (ds.map fun x => 1 + nd k x.2.2).sum
theorem Ok.fit : ∀ (k : Nat) (r : Rm k), Ok k r → Fit k r
  | 0, _, _ => trivial
  | _ + 1, Sum.inl _, _ => trivial
  | k + 1, Sum.inr (h, ds), ⟨a, b, c, d, e⟩ => ⟨a, b, c, d, fun x hx => by
      obtain ⟨⟨h1, h2, h3, h4⟩, h5⟩ := e x hx
      exact ⟨h1, by omega, h3, h4, Ok.fit k _ h5⟩⟩
theorem letters_lt : ∀ c ∈ letters.cps.toList, c < 0x110000 := by decide +kernel
theorem NameOk.plain {s : Str} (h : NameOk s) : (D.str s).plain = true := by
  simp only [D.plain, Array.all_eq_true']
  intro c hc
  simpa using letters_lt c (h.abc c (by simpa using hc))

section
variable {W n : Nat}
theorem io_is_name : ((T0 f_is_name).map Def.io).getD [] = [false] := rfl
theorem io_is_door : ((T0 f_is_door).map Def.io).getD [] = [false] := rfl
theorem io_is_room : ((T0 f_is_room).map Def.io).getD [] = [false] := rfl
theorem io_need_room : ((T0 f_need_room).map Def.io).getD [] = [false, false] := rfl
theorem io_all_paths : ((T0 f_all_paths).map Def.io).getD [] = [false, false] := rfl
theorem io_need_house : ((T0 f_need_house).map Def.io).getD [] = [false] := rfl
theorem io_need_far : ((T0 f_need_far).map Def.io).getD [] = [false, false, false] := rfl

theorem bls_map : ∀ {α : Type} (f : α → Bool) (xs : List α), D.bls (xs.map fun x => D.bl (f x)) = some (xs.map f)
  | _, _, [] => rfl
  | _, f, x :: xs => by simp [D.bls, bls_map f xs]
theorem leaves_map : ∀ xs : List D, T.leaves (xs.map T.leaf) = some xs
  | [] => rfl
  | x :: xs => by simp [T.leaves, leaves_map xs]
theorem filter_true {α : Type} (xs : List α) : xs.filter (fun _ => true) = xs := by simp

theorem frz_leaf : ∀ xs : List D, T.frzs (xs.map T.leaf) = xs
  | [] => rfl
  | x :: xs => by simp [T.frzs, T.frz, frz_leaf xs]
/-- all([..]) of true ones -/
structure AllTrue (xs : List T) (ds : List D) (bs : List Bool) : Prop where
  a : T.leaves xs = some ds
  b : D.bls ds = some bs
  c : bs.all id = true
theorem all_true {α : Type} (xs : List α) : ∃ ds bs, AllTrue (xs.map fun _ => T.leaf (.bl true)) ds bs := by
  have e : (xs.map fun _ => T.leaf (D.bl true)) = (xs.map fun _ => D.bl true).map T.leaf := by simp
  exact ⟨_, _, by rw [e, leaves_map], bls_map (fun _ : α => true) xs, by simp⟩
theorem is_name_run {s : Str} (hn : 0 < n) (h : NameOk s) : callD T0 W n f_is_name [.leaf (.str s)] = some (.leaf (.bl true), []) := by
  refine call_ends hn (show T0 f_is_name = some b_is_name from rfl) rfl rfl ?_
  obtain ⟨h1, h2, h3⟩ := h
  have c1 : s.length ≤ lim := by unfold lim; omega
  have c2 : (1 : Int) ≤ s.length := by omega
  have c3 : (s.length : Int) ≤ 6 := by omega
  obtain ⟨xs, ds, bs, q, e⟩ : ∃ xs ds bs, ev (CC T0 W (n - 1)) true c_is_name_0 [some (.leaf (.str s)), none] = some (.node xs, [some (.leaf (.str s)), none]) ∧ AllTrue xs ds bs := by
    obtain ⟨ds, bs, h⟩ := all_true s.cps.toList
    refine ⟨_, ds, bs, evl_compN (fun c => D.str ⟨#[c]⟩) (fun _ => .leaf (.bl true)) (by (conv => lhs; simp [exs, ex, ev, evs, evo, eva, evi, evc, Tg.put, leaf?, bl?, int?, node?, tpl?, lsts?, T.isLeaf, T.frz, T.frzs, argOk, ioSlots, ioTs, ioPut, ME.mut, MEs.mut, MO.mut, ME.path, bfn, binop, cmpop, T.lst?, T.leaves, cc_run, cc_io, wipe, Option.bind_eq_bind, Option.bind_some, Option.map_some, Option.pure_def, List.getD_cons_zero, List.getD_cons_succ, List.set_cons_zero, List.set_cons_succ, List.map_cons, List.map_nil, List.mapM_cons, List.mapM_nil, List.length_cons, List.length_nil, List.cons_append, List.nil_append, Bool.or_false, Bool.false_or, Bool.or_true, Bool.true_or, Bool.and_true, Bool.true_and, Bool.and_false, Bool.false_and, Bool.not_true, Bool.not_false, Bool.false_eq_true, if_true, if_false, reduceIte, List.replicate_succ, List.replicate_zero, List.zip_cons_cons, List.zip_nil_right, List.foldlM_cons, List.foldlM_nil, List.nodup_nil, chr?]) <;> rfl) rfl ?_ fun c hc => ?_, h⟩
    · have : s.cps.toList.length = s.length := by simp [Str.length]
      omega
    · have q := h3 c hc
      refine ⟨_, (by (conv => lhs; simp [exs, ex, ev, evs, evo, eva, evi, evc, Tg.put, leaf?, bl?, int?, node?, tpl?, lsts?, T.isLeaf, T.frz, T.frzs, argOk, ioSlots, ioTs, ioPut, ME.mut, MEs.mut, MO.mut, ME.path, bfn, binop, cmpop, T.lst?, T.leaves, cc_run, cc_io, wipe, Option.bind_eq_bind, Option.bind_some, Option.map_some, Option.pure_def, List.getD_cons_zero, List.getD_cons_succ, List.set_cons_zero, List.set_cons_succ, List.map_cons, List.map_nil, List.mapM_cons, List.mapM_nil, List.length_cons, List.length_nil, List.cons_append, List.nil_append, Bool.or_false, Bool.false_or, Bool.or_true, Bool.true_or, Bool.and_true, Bool.true_and, Bool.and_false, Bool.false_and, Bool.not_true, Bool.not_false, Bool.false_eq_true, if_true, if_false, reduceIte, List.replicate_succ, List.replicate_zero, List.zip_cons_cons, List.zip_nil_right, List.foldlM_cons, List.foldlM_nil, List.nodup_nil]) <;> rfl), ?_, (by (conv => lhs; simp [exs, ex, ev, evs, evo, eva, evi, evc, Tg.put, leaf?, bl?, int?, node?, tpl?, lsts?, T.isLeaf, T.frz, T.frzs, argOk, ioSlots, ioTs, ioPut, ME.mut, MEs.mut, MO.mut, ME.path, bfn, binop, cmpop, T.lst?, T.leaves, cc_run, cc_io, wipe, Option.bind_eq_bind, Option.bind_some, Option.map_some, Option.pure_def, List.getD_cons_zero, List.getD_cons_succ, List.set_cons_zero, List.set_cons_succ, List.map_cons, List.map_nil, List.mapM_cons, List.mapM_nil, List.length_cons, List.length_nil, List.cons_append, List.nil_append, Bool.or_false, Bool.false_or, Bool.or_true, Bool.true_or, Bool.and_true, Bool.true_and, Bool.and_false, Bool.false_and, Bool.not_true, Bool.not_false, Bool.false_eq_true, if_true, if_false, reduceIte, List.replicate_succ, List.replicate_zero, List.zip_cons_cons, List.zip_nil_right, List.foldlM_cons, List.foldlM_nil, List.nodup_nil]) <;> rfl)⟩
      simp [exs, ex, ev, evs, evo, eva, evi, evc, Tg.put, leaf?, bl?, int?, node?, tpl?, lsts?, T.isLeaf, T.frz, T.frzs, argOk, ioSlots, ioTs, ioPut, ME.mut, MEs.mut, MO.mut, ME.path, bfn, binop, cmpop, T.lst?, T.leaves, cc_run, cc_io, wipe, Option.bind_eq_bind, Option.bind_some, Option.map_some, Option.pure_def, List.getD_cons_zero, List.getD_cons_succ, List.set_cons_zero, List.set_cons_succ, List.map_cons, List.map_nil, List.mapM_cons, List.mapM_nil, List.length_cons, List.length_nil, List.cons_append, List.nil_append, Bool.or_false, Bool.false_or, Bool.or_true, Bool.true_or, Bool.and_true, Bool.true_and, Bool.and_false, Bool.false_and, Bool.not_true, Bool.not_false, Bool.false_eq_true, if_true, if_false, reduceIte, List.replicate_succ, List.replicate_zero, List.zip_cons_cons, List.zip_nil_right, List.foldlM_cons, List.foldlM_nil, List.nodup_nil, inn]
      simpa [letters] using q
  exact ends_rt (t := .leaf (.bl true)) (by (conv => lhs; simp [exs, ex, ev, evs, evo, eva, evi, evc, Tg.put, leaf?, bl?, int?, node?, tpl?, lsts?, T.isLeaf, T.frz, T.frzs, argOk, ioSlots, ioTs, ioPut, ME.mut, MEs.mut, MO.mut, ME.path, bfn, binop, cmpop, T.lst?, T.leaves, cc_run, cc_io, wipe, Option.bind_eq_bind, Option.bind_some, Option.map_some, Option.pure_def, List.getD_cons_zero, List.getD_cons_succ, List.set_cons_zero, List.set_cons_succ, List.map_cons, List.map_nil, List.mapM_cons, List.mapM_nil, List.length_cons, List.length_nil, List.cons_append, List.nil_append, Bool.or_false, Bool.false_or, Bool.or_true, Bool.true_or, Bool.and_true, Bool.true_and, Bool.and_false, Bool.false_and, Bool.not_true, Bool.not_false, Bool.false_eq_true, if_true, if_false, reduceIte, List.replicate_succ, List.replicate_zero, List.zip_cons_cons, List.zip_nil_right, List.foldlM_cons, List.foldlM_nil, List.nodup_nil, q, e.a, e.b, e.c, c1, c2, c3, c_is_name_0_m, c_is_name_0_p]) <;> rfl) rfl
theorem is_door_run {a b : Int} {r : D} (hn : 0 < n) (h : 1 ≤ a ∧ a ≤ 99 ∧ 0 ≤ b ∧ b ≤ a) : callD T0 W n f_is_door [.leaf (.tup [.int a, .int b, r])] = some (.leaf (.bl true), []) := by
  refine call_ends hn (show T0 f_is_door = some b_is_door from rfl) rfl rfl ?_
  obtain ⟨h1, h2, h3, h4⟩ := h
  exact ends_rt (t := .leaf (.bl true)) (by (conv => lhs; simp [exs, ex, ev, evs, evo, eva, evi, evc, Tg.put, leaf?, bl?, int?, node?, tpl?, lsts?, T.isLeaf, T.frz, T.frzs, argOk, ioSlots, ioTs, ioPut, ME.mut, MEs.mut, MO.mut, ME.path, bfn, binop, cmpop, T.lst?, T.leaves, cc_run, cc_io, wipe, Option.bind_eq_bind, Option.bind_some, Option.map_some, Option.pure_def, List.getD_cons_zero, List.getD_cons_succ, List.set_cons_zero, List.set_cons_succ, List.map_cons, List.map_nil, List.mapM_cons, List.mapM_nil, List.length_cons, List.length_nil, List.cons_append, List.nil_append, Bool.or_false, Bool.false_or, Bool.or_true, Bool.true_or, Bool.and_true, Bool.true_and, Bool.and_false, Bool.false_and, Bool.not_true, Bool.not_false, Bool.false_eq_true, if_true, if_false, reduceIte, List.replicate_succ, List.replicate_zero, List.zip_cons_cons, List.zip_nil_right, List.foldlM_cons, List.foldlM_nil, List.nodup_nil, index, atI, ixN, D.plain, D.depth, eqb_int, eqb_str, h1, h2, h3, h4]) <;> rfl) rfl
theorem is_room_run {k : Nat} {r : Rm k} (hn : 1 < n) (h : Ok k r) : callD T0 W n f_is_room [.leaf (enc k r)] = some (.leaf (.bl true), []) := by
  refine call_ends (by omega) (show T0 f_is_room = some b_is_room from rfl) rfl rfl ?_
  have nm : ∀ s : Str, NameOk s → Ends (CC T0 W (n - 1)) W (match b_is_room with | .code _ _ b => b | _ => .nil) [some (.leaf (.str s)), none] (Rx (.leaf (.bl true))) := fun s hs => by
    have e := is_out_run (W := W) (n := n - 1) (d := .str s) (by omega)
    have e2 := is_name_run (W := W) (n := n - 1) (by omega) hs
    exact ends_tt (by (conv => lhs; simp [exs, ex, ev, evs, evo, eva, evi, evc, Tg.put, leaf?, bl?, int?, node?, tpl?, lsts?, T.isLeaf, T.frz, T.frzs, argOk, ioSlots, ioTs, ioPut, ME.mut, MEs.mut, MO.mut, ME.path, bfn, binop, cmpop, T.lst?, T.leaves, cc_run, cc_io, wipe, Option.bind_eq_bind, Option.bind_some, Option.map_some, Option.pure_def, List.getD_cons_zero, List.getD_cons_succ, List.set_cons_zero, List.set_cons_succ, List.map_cons, List.map_nil, List.mapM_cons, List.mapM_nil, List.length_cons, List.length_nil, List.cons_append, List.nil_append, Bool.or_false, Bool.false_or, Bool.or_true, Bool.true_or, Bool.and_true, Bool.true_and, Bool.and_false, Bool.false_and, Bool.not_true, Bool.not_false, Bool.false_eq_true, if_true, if_false, reduceIte, List.replicate_succ, List.replicate_zero, List.zip_cons_cons, List.zip_nil_right, List.foldlM_cons, List.foldlM_nil, List.nodup_nil, e, io_is_out, D.isStr]) <;> rfl) (ends_rt (by (conv => lhs; simp [exs, ex, ev, evs, evo, eva, evi, evc, Tg.put, leaf?, bl?, int?, node?, tpl?, lsts?, T.isLeaf, T.frz, T.frzs, argOk, ioSlots, ioTs, ioPut, ME.mut, MEs.mut, MO.mut, ME.path, bfn, binop, cmpop, T.lst?, T.leaves, cc_run, cc_io, wipe, Option.bind_eq_bind, Option.bind_some, Option.map_some, Option.pure_def, List.getD_cons_zero, List.getD_cons_succ, List.set_cons_zero, List.set_cons_succ, List.map_cons, List.map_nil, List.mapM_cons, List.mapM_nil, List.length_cons, List.length_nil, List.cons_append, List.nil_append, Bool.or_false, Bool.false_or, Bool.or_true, Bool.true_or, Bool.and_true, Bool.true_and, Bool.and_false, Bool.false_and, Bool.not_true, Bool.not_false, Bool.false_eq_true, if_true, if_false, reduceIte, List.replicate_succ, List.replicate_zero, List.zip_cons_cons, List.zip_nil_right, List.foldlM_cons, List.foldlM_nil, List.nodup_nil, e2, io_is_name]) <;> rfl) rfl)
  cases k with
  | zero => exact nm r h
  | succ k =>
    cases r with
    | inl s => exact nm s h
    | inr p =>
      obtain ⟨h0, ds⟩ := p
      obtain ⟨hl, hl4, c0, c1, hd⟩ := h
      have e := is_out_run (W := W) (n := n - 1) (d := .tup [.int h0, .tup (ds.map (encD k))]) (by omega)
      refine ends_ff0 (by (conv => lhs; simp [exs, ex, ev, evs, evo, eva, evi, evc, Tg.put, leaf?, bl?, int?, node?, tpl?, lsts?, T.isLeaf, T.frz, T.frzs, argOk, ioSlots, ioTs, ioPut, ME.mut, MEs.mut, MO.mut, ME.path, bfn, binop, cmpop, T.lst?, T.leaves, cc_run, cc_io, wipe, Option.bind_eq_bind, Option.bind_some, Option.map_some, Option.pure_def, List.getD_cons_zero, List.getD_cons_succ, List.set_cons_zero, List.set_cons_succ, List.map_cons, List.map_nil, List.mapM_cons, List.mapM_nil, List.length_cons, List.length_nil, List.cons_append, List.nil_append, Bool.or_false, Bool.false_or, Bool.or_true, Bool.true_or, Bool.and_true, Bool.true_and, Bool.and_false, Bool.false_and, Bool.not_true, Bool.not_false, Bool.false_eq_true, if_true, if_false, reduceIte, List.replicate_succ, List.replicate_zero, List.zip_cons_cons, List.zip_nil_right, List.foldlM_cons, List.foldlM_nil, List.nodup_nil, enc, e, io_is_out, D.isStr]) <;> rfl) ?_
      have a1 : (1 : Int) ≤ ds.length := by omega
      have a2 : (ds.length : Int) ≤ 4 := by omega
      refine ends_ff0 (by (conv => lhs; simp [exs, ex, ev, evs, evo, eva, evi, evc, Tg.put, leaf?, bl?, int?, node?, tpl?, lsts?, T.isLeaf, T.frz, T.frzs, argOk, ioSlots, ioTs, ioPut, ME.mut, MEs.mut, MO.mut, ME.path, bfn, binop, cmpop, T.lst?, T.leaves, cc_run, cc_io, wipe, Option.bind_eq_bind, Option.bind_some, Option.map_some, Option.pure_def, List.getD_cons_zero, List.getD_cons_succ, List.set_cons_zero, List.set_cons_succ, List.map_cons, List.map_nil, List.mapM_cons, List.mapM_nil, List.length_cons, List.length_nil, List.cons_append, List.nil_append, Bool.or_false, Bool.false_or, Bool.or_true, Bool.true_or, Bool.and_true, Bool.true_and, Bool.and_false, Bool.false_and, Bool.not_true, Bool.not_false, Bool.false_eq_true, if_true, if_false, reduceIte, List.replicate_succ, List.replicate_zero, List.zip_cons_cons, List.zip_nil_right, List.foldlM_cons, List.foldlM_nil, List.nodup_nil, index, atI, ixN, D.plain, D.depth, eqb_int, eqb_str, c0, c1, a1, a2]) <;> rfl) ?_
      obtain ⟨xs, es, bs, q, e⟩ : ∃ xs es bs, ev (CC T0 W (n - 1)) true c_is_room_0 [some (.leaf (.tup [.int h0, .tup (ds.map (encD k))])), none] = some (.node xs, [some (.leaf (.tup [.int h0, .tup (ds.map (encD k))])), none]) ∧ AllTrue xs es bs := by
        obtain ⟨es, bs, h⟩ := all_true ds
        refine ⟨_, es, bs, evl_compN (encD k) (fun _ => .leaf (.bl true)) (by (conv => lhs; simp [exs, ex, ev, evs, evo, eva, evi, evc, Tg.put, leaf?, bl?, int?, node?, tpl?, lsts?, T.isLeaf, T.frz, T.frzs, argOk, ioSlots, ioTs, ioPut, ME.mut, MEs.mut, MO.mut, ME.path, bfn, binop, cmpop, T.lst?, T.leaves, cc_run, cc_io, wipe, Option.bind_eq_bind, Option.bind_some, Option.map_some, Option.pure_def, List.getD_cons_zero, List.getD_cons_succ, List.set_cons_zero, List.set_cons_succ, List.map_cons, List.map_nil, List.mapM_cons, List.mapM_nil, List.length_cons, List.length_nil, List.cons_append, List.nil_append, Bool.or_false, Bool.false_or, Bool.or_true, Bool.true_or, Bool.and_true, Bool.true_and, Bool.and_false, Bool.false_and, Bool.not_true, Bool.not_false, Bool.false_eq_true, if_true, if_false, reduceIte, List.replicate_succ, List.replicate_zero, List.zip_cons_cons, List.zip_nil_right, List.foldlM_cons, List.foldlM_nil, List.nodup_nil, index, atI, ixN]) <;> rfl) rfl (by unfold lim; omega) fun x hx => ?_, h⟩
        have e := is_door_run (W := W) (n := n - 1) (r := enc k x.2.2) (by omega) (hd x hx).1
        exact ⟨_, (by (conv => lhs; simp [exs, ex, ev, evs, evo, eva, evi, evc, Tg.put, leaf?, bl?, int?, node?, tpl?, lsts?, T.isLeaf, T.frz, T.frzs, argOk, ioSlots, ioTs, ioPut, ME.mut, MEs.mut, MO.mut, ME.path, bfn, binop, cmpop, T.lst?, T.leaves, cc_run, cc_io, wipe, Option.bind_eq_bind, Option.bind_some, Option.map_some, Option.pure_def, List.getD_cons_zero, List.getD_cons_succ, List.set_cons_zero, List.set_cons_succ, List.map_cons, List.map_nil, List.mapM_cons, List.mapM_nil, List.length_cons, List.length_nil, List.cons_append, List.nil_append, Bool.or_false, Bool.false_or, Bool.or_true, Bool.true_or, Bool.and_true, Bool.true_and, Bool.and_false, Bool.false_and, Bool.not_true, Bool.not_false, Bool.false_eq_true, if_true, if_false, reduceIte, List.replicate_succ, List.replicate_zero, List.zip_cons_cons, List.zip_nil_right, List.foldlM_cons, List.foldlM_nil, List.nodup_nil]) <;> rfl), (by (conv => lhs; simp [exs, ex, ev, evs, evo, eva, evi, evc, Tg.put, leaf?, bl?, int?, node?, tpl?, lsts?, T.isLeaf, T.frz, T.frzs, argOk, ioSlots, ioTs, ioPut, ME.mut, MEs.mut, MO.mut, ME.path, bfn, binop, cmpop, T.lst?, T.leaves, cc_run, cc_io, wipe, Option.bind_eq_bind, Option.bind_some, Option.map_some, Option.pure_def, List.getD_cons_zero, List.getD_cons_succ, List.set_cons_zero, List.set_cons_succ, List.map_cons, List.map_nil, List.mapM_cons, List.mapM_nil, List.length_cons, List.length_nil, List.cons_append, List.nil_append, Bool.or_false, Bool.false_or, Bool.or_true, Bool.true_or, Bool.and_true, Bool.true_and, Bool.and_false, Bool.false_and, Bool.not_true, Bool.not_false, Bool.false_eq_true, if_true, if_false, reduceIte, List.replicate_succ, List.replicate_zero, List.zip_cons_cons, List.zip_nil_right, List.foldlM_cons, List.foldlM_nil, List.nodup_nil, e, io_is_door]) <;> rfl), (by (conv => lhs; simp [exs, ex, ev, evs, evo, eva, evi, evc, Tg.put, leaf?, bl?, int?, node?, tpl?, lsts?, T.isLeaf, T.frz, T.frzs, argOk, ioSlots, ioTs, ioPut, ME.mut, MEs.mut, MO.mut, ME.path, bfn, binop, cmpop, T.lst?, T.leaves, cc_run, cc_io, wipe, Option.bind_eq_bind, Option.bind_some, Option.map_some, Option.pure_def, List.getD_cons_zero, List.getD_cons_succ, List.set_cons_zero, List.set_cons_succ, List.map_cons, List.map_nil, List.mapM_cons, List.mapM_nil, List.length_cons, List.length_nil, List.cons_append, List.nil_append, Bool.or_false, Bool.false_or, Bool.or_true, Bool.true_or, Bool.and_true, Bool.true_and, Bool.and_false, Bool.false_and, Bool.not_true, Bool.not_false, Bool.false_eq_true, if_true, if_false, reduceIte, List.replicate_succ, List.replicate_zero, List.zip_cons_cons, List.zip_nil_right, List.foldlM_cons, List.foldlM_nil, List.nodup_nil]) <;> rfl)⟩
      exact ends_rt (t := .leaf (.bl true)) (by (conv => lhs; simp [exs, ex, ev, evs, evo, eva, evi, evc, Tg.put, leaf?, bl?, int?, node?, tpl?, lsts?, T.isLeaf, T.frz, T.frzs, argOk, ioSlots, ioTs, ioPut, ME.mut, MEs.mut, MO.mut, ME.path, bfn, binop, cmpop, T.lst?, T.leaves, cc_run, cc_io, wipe, Option.bind_eq_bind, Option.bind_some, Option.map_some, Option.pure_def, List.getD_cons_zero, List.getD_cons_succ, List.set_cons_zero, List.set_cons_succ, List.map_cons, List.map_nil, List.mapM_cons, List.mapM_nil, List.length_cons, List.length_nil, List.cons_append, List.nil_append, Bool.or_false, Bool.false_or, Bool.or_true, Bool.true_or, Bool.and_true, Bool.true_and, Bool.and_false, Bool.false_and, Bool.not_true, Bool.not_false, Bool.false_eq_true, if_true, if_false, reduceIte, List.replicate_succ, List.replicate_zero, List.zip_cons_cons, List.zip_nil_right, List.foldlM_cons, List.foldlM_nil, List.nodup_nil, q, e.a, e.b, e.c, c_is_room_0_m, c_is_room_0_p]) <;> rfl) rfl
theorem need_room_run {W : Nat} : ∀ (k n : Nat) (r : Rm k) (p : List D), k + 2 < n → p.length + k ≤ 1000 → Ok k r → callD T0 W n f_need_room [.leaf (enc k r), .leaf (.tup p)] = some (.leaf .non, []) := by
  intro k
  induction k with
  | zero =>
    intro n r p hn _ ho
    refine call_ends (by omega) (show T0 f_need_room = some b_need_room from rfl) rfl rfl ?_
    have e := is_out_run (W := W) (n := n - 1) (d := .str r) (by omega)
    have e1 := is_room_run (W := W) (n := n - 1) (k := 0) (by omega) ho
    simp only [enc] at e1
    exact ends_ff0 (by (conv => lhs; simp [exs, ex, ev, evs, evo, eva, evi, evc, Tg.put, leaf?, bl?, int?, node?, tpl?, lsts?, T.isLeaf, T.frz, T.frzs, argOk, ioSlots, ioTs, ioPut, ME.mut, MEs.mut, MO.mut, ME.path, bfn, binop, cmpop, T.lst?, T.leaves, cc_run, cc_io, wipe, Option.bind_eq_bind, Option.bind_some, Option.map_some, Option.pure_def, List.getD_cons_zero, List.getD_cons_succ, List.set_cons_zero, List.set_cons_succ, List.map_cons, List.map_nil, List.mapM_cons, List.mapM_nil, List.length_cons, List.length_nil, List.cons_append, List.nil_append, Bool.or_false, Bool.false_or, Bool.or_true, Bool.true_or, Bool.and_true, Bool.true_and, Bool.and_false, Bool.false_and, Bool.not_true, Bool.not_false, Bool.false_eq_true, if_true, if_false, reduceIte, List.replicate_succ, List.replicate_zero, List.zip_cons_cons, List.zip_nil_right, List.foldlM_cons, List.foldlM_nil, List.nodup_nil, enc, e1, io_is_room]) <;> rfl) (ends_ff0 (by (conv => lhs; simp [exs, ex, ev, evs, evo, eva, evi, evc, Tg.put, leaf?, bl?, int?, node?, tpl?, lsts?, T.isLeaf, T.frz, T.frzs, argOk, ioSlots, ioTs, ioPut, ME.mut, MEs.mut, MO.mut, ME.path, bfn, binop, cmpop, T.lst?, T.leaves, cc_run, cc_io, wipe, Option.bind_eq_bind, Option.bind_some, Option.map_some, Option.pure_def, List.getD_cons_zero, List.getD_cons_succ, List.set_cons_zero, List.set_cons_succ, List.map_cons, List.map_nil, List.mapM_cons, List.mapM_nil, List.length_cons, List.length_nil, List.cons_append, List.nil_append, Bool.or_false, Bool.false_or, Bool.or_true, Bool.true_or, Bool.and_true, Bool.true_and, Bool.and_false, Bool.false_and, Bool.not_true, Bool.not_false, Bool.false_eq_true, if_true, if_false, reduceIte, List.replicate_succ, List.replicate_zero, List.zip_cons_cons, List.zip_nil_right, List.foldlM_cons, List.foldlM_nil, List.nodup_nil, e, io_is_out, D.isStr]) <;> rfl) (ends_nil rfl))
  | succ k ih =>
    intro n r p hn hp ho
    refine call_ends (by omega) (show T0 f_need_room = some b_need_room from rfl) rfl rfl ?_
    have e1 := is_room_run (W := W) (n := n - 1) (k := k + 1) (by omega) ho
    cases r with
    | inl s =>
      have e := is_out_run (W := W) (n := n - 1) (d := .str s) (by omega)
      simp only [enc] at e1
      exact ends_ff0 (by (conv => lhs; simp [exs, ex, ev, evs, evo, eva, evi, evc, Tg.put, leaf?, bl?, int?, node?, tpl?, lsts?, T.isLeaf, T.frz, T.frzs, argOk, ioSlots, ioTs, ioPut, ME.mut, MEs.mut, MO.mut, ME.path, bfn, binop, cmpop, T.lst?, T.leaves, cc_run, cc_io, wipe, Option.bind_eq_bind, Option.bind_some, Option.map_some, Option.pure_def, List.getD_cons_zero, List.getD_cons_succ, List.set_cons_zero, List.set_cons_succ, List.map_cons, List.map_nil, List.mapM_cons, List.mapM_nil, List.length_cons, List.length_nil, List.cons_append, List.nil_append, Bool.or_false, Bool.false_or, Bool.or_true, Bool.true_or, Bool.and_true, Bool.true_and, Bool.and_false, Bool.false_and, Bool.not_true, Bool.not_false, Bool.false_eq_true, if_true, if_false, reduceIte, List.replicate_succ, List.replicate_zero, List.zip_cons_cons, List.zip_nil_right, List.foldlM_cons, List.foldlM_nil, List.nodup_nil, enc, e1, io_is_room]) <;> rfl) (ends_ff0 (by (conv => lhs; simp [exs, ex, ev, evs, evo, eva, evi, evc, Tg.put, leaf?, bl?, int?, node?, tpl?, lsts?, T.isLeaf, T.frz, T.frzs, argOk, ioSlots, ioTs, ioPut, ME.mut, MEs.mut, MO.mut, ME.path, bfn, binop, cmpop, T.lst?, T.leaves, cc_run, cc_io, wipe, Option.bind_eq_bind, Option.bind_some, Option.map_some, Option.pure_def, List.getD_cons_zero, List.getD_cons_succ, List.set_cons_zero, List.set_cons_succ, List.map_cons, List.map_nil, List.mapM_cons, List.mapM_nil, List.length_cons, List.length_nil, List.cons_append, List.nil_append, Bool.or_false, Bool.false_or, Bool.or_true, Bool.true_or, Bool.and_true, Bool.true_and, Bool.and_false, Bool.false_and, Bool.not_true, Bool.not_false, Bool.false_eq_true, if_true, if_false, reduceIte, List.replicate_succ, List.replicate_zero, List.zip_cons_cons, List.zip_nil_right, List.foldlM_cons, List.foldlM_nil, List.nodup_nil, e, io_is_out, D.isStr]) <;> rfl) (ends_nil rfl))
    | inr q =>
      obtain ⟨h, ds⟩ := q
      obtain ⟨hl, hl4, c0, c1, hd⟩ := ho
      have e := is_out_run (W := W) (n := n - 1) (d := .tup [.int h, .tup (ds.map (encD k))]) (by omega)
      simp only [enc] at e1
      refine ends_ff0 (by (conv => lhs; simp [exs, ex, ev, evs, evo, eva, evi, evc, Tg.put, leaf?, bl?, int?, node?, tpl?, lsts?, T.isLeaf, T.frz, T.frzs, argOk, ioSlots, ioTs, ioPut, ME.mut, MEs.mut, MO.mut, ME.path, bfn, binop, cmpop, T.lst?, T.leaves, cc_run, cc_io, wipe, Option.bind_eq_bind, Option.bind_some, Option.map_some, Option.pure_def, List.getD_cons_zero, List.getD_cons_succ, List.set_cons_zero, List.set_cons_succ, List.map_cons, List.map_nil, List.mapM_cons, List.mapM_nil, List.length_cons, List.length_nil, List.cons_append, List.nil_append, Bool.or_false, Bool.false_or, Bool.or_true, Bool.true_or, Bool.and_true, Bool.true_and, Bool.and_false, Bool.false_and, Bool.not_true, Bool.not_false, Bool.false_eq_true, if_true, if_false, reduceIte, List.replicate_succ, List.replicate_zero, List.zip_cons_cons, List.zip_nil_right, List.foldlM_cons, List.foldlM_nil, List.nodup_nil, enc, e1, io_is_room]) <;> rfl) (ends_tt (by (conv => lhs; simp [exs, ex, ev, evs, evo, eva, evi, evc, Tg.put, leaf?, bl?, int?, node?, tpl?, lsts?, T.isLeaf, T.frz, T.frzs, argOk, ioSlots, ioTs, ioPut, ME.mut, MEs.mut, MO.mut, ME.path, bfn, binop, cmpop, T.lst?, T.leaves, cc_run, cc_io, wipe, Option.bind_eq_bind, Option.bind_some, Option.map_some, Option.pure_def, List.getD_cons_zero, List.getD_cons_succ, List.set_cons_zero, List.set_cons_succ, List.map_cons, List.map_nil, List.mapM_cons, List.mapM_nil, List.length_cons, List.length_nil, List.cons_append, List.nil_append, Bool.or_false, Bool.false_or, Bool.or_true, Bool.true_or, Bool.and_true, Bool.true_and, Bool.and_false, Bool.false_and, Bool.not_true, Bool.not_false, Bool.false_eq_true, if_true, if_false, reduceIte, List.replicate_succ, List.replicate_zero, List.zip_cons_cons, List.zip_nil_right, List.foldlM_cons, List.foldlM_nil, List.nodup_nil, e, io_is_out, D.isStr]) <;> rfl) ?_)
      refine ends_for (fun it r => ∃ (i : Nat) (xs : List (Int × Int × Rm k)) (a b : Option T), it = enums i (xs.map (encD k)) ∧ r = [some (.leaf (.tup [.int h, .tup (ds.map (encD k))])), some (.leaf (.tup p)), a, b] ∧ ∀ x ∈ xs, Ok k x.2.2) (by (conv => lhs; simp [exs, ex, ev, evs, evo, eva, evi, evc, Tg.put, leaf?, bl?, int?, node?, tpl?, lsts?, T.isLeaf, T.frz, T.frzs, argOk, ioSlots, ioTs, ioPut, ME.mut, MEs.mut, MO.mut, ME.path, bfn, binop, cmpop, T.lst?, T.leaves, cc_run, cc_io, wipe, Option.bind_eq_bind, Option.bind_some, Option.map_some, Option.pure_def, List.getD_cons_zero, List.getD_cons_succ, List.set_cons_zero, List.set_cons_succ, List.map_cons, List.map_nil, List.mapM_cons, List.mapM_nil, List.length_cons, List.length_nil, List.cons_append, List.nil_append, Bool.or_false, Bool.false_or, Bool.or_true, Bool.true_or, Bool.and_true, Bool.true_and, Bool.and_false, Bool.false_and, Bool.not_true, Bool.not_false, Bool.false_eq_true, if_true, if_false, reduceIte, List.replicate_succ, List.replicate_zero, List.zip_cons_cons, List.zip_nil_right, List.foldlM_cons, List.foldlM_nil, List.nodup_nil, index, atI, ixN]) <;> rfl)
        ⟨0, ds, _, _, rfl, rfl, fun x hx => (hd x hx).2⟩ ?_ ?_
      · rintro d its r1 ⟨i, xs, a, b, e1, rfl, hx⟩
        cases xs with
        | nil => simp [enums] at e1
        | cons x xs =>
          simp only [List.map_cons, enums, List.cons.injEq] at e1
          obtain ⟨rfl, rfl⟩ := e1
          have f := ih (n - 1) x.2.2 (p ++ [.int i]) (by omega) (by simp; omega) (hx x List.mem_cons_self)
          have l1 : p.length + 1 ≤ lim := by unfold lim; omega
          have l2 : 1 ≤ lim := by decide
          exact ⟨_, (by (conv => lhs; simp [exs, ex, ev, evs, evo, eva, evi, evc, Tg.put, leaf?, bl?, int?, node?, tpl?, lsts?, T.isLeaf, T.frz, T.frzs, argOk, ioSlots, ioTs, ioPut, ME.mut, MEs.mut, MO.mut, ME.path, bfn, binop, cmpop, T.lst?, T.leaves, cc_run, cc_io, wipe, Option.bind_eq_bind, Option.bind_some, Option.map_some, Option.pure_def, List.getD_cons_zero, List.getD_cons_succ, List.set_cons_zero, List.set_cons_succ, List.map_cons, List.map_nil, List.mapM_cons, List.mapM_nil, List.length_cons, List.length_nil, List.cons_append, List.nil_append, Bool.or_false, Bool.false_or, Bool.or_true, Bool.true_or, Bool.and_true, Bool.true_and, Bool.and_false, Bool.false_and, Bool.not_true, Bool.not_false, Bool.false_eq_true, if_true, if_false, reduceIte, List.replicate_succ, List.replicate_zero, List.zip_cons_cons, List.zip_nil_right, List.foldlM_cons, List.foldlM_nil, List.nodup_nil]) <;> rfl), ends_nx (by (conv => lhs; simp [exs, ex, ev, evs, evo, eva, evi, evc, Tg.put, leaf?, bl?, int?, node?, tpl?, lsts?, T.isLeaf, T.frz, T.frzs, argOk, ioSlots, ioTs, ioPut, ME.mut, MEs.mut, MO.mut, ME.path, bfn, binop, cmpop, T.lst?, T.leaves, cc_run, cc_io, wipe, Option.bind_eq_bind, Option.bind_some, Option.map_some, Option.pure_def, List.getD_cons_zero, List.getD_cons_succ, List.set_cons_zero, List.set_cons_succ, List.map_cons, List.map_nil, List.mapM_cons, List.mapM_nil, List.length_cons, List.length_nil, List.cons_append, List.nil_append, Bool.or_false, Bool.false_or, Bool.or_true, Bool.true_or, Bool.and_true, Bool.true_and, Bool.and_false, Bool.false_and, Bool.not_true, Bool.not_false, Bool.false_eq_true, if_true, if_false, reduceIte, List.replicate_succ, List.replicate_zero, List.zip_cons_cons, List.zip_nil_right, List.foldlM_cons, List.foldlM_nil, List.nodup_nil, index, atI, ixN, io_need_room, f, l1, l2]) <;> rfl) (ends_nil ⟨i + 1, xs, _, _, rfl, rfl, fun y hy => hx y (List.mem_cons_of_mem _ hy)⟩)⟩
      · rintro r1 ⟨i, xs, a, b, e1, rfl, hx⟩
        exact ends_nil (ends_nil rfl)
theorem all_paths_run {W : Nat} : ∀ (k n : Nat) (r : Rm k) (p : List D), k + 1 < n → p.length + k ≤ 1000 → nd k r ≤ 1000 →
    ∃ x, callD T0 W n f_all_paths [.leaf (enc k r), .leaf (.tup p)] = some (x, []) ∧ ∃ ps : List D, ps.length = nd k r ∧ x = .node (ps.map T.leaf) := by
  intro k
  induction k with
  | zero =>
    intro n r p hn _ _
    have e := is_out_run (W := W) (n := n - 1) (d := .str r) (by omega)
    refine call_ex (by omega) (show T0 f_all_paths = some b_all_paths from rfl) rfl rfl ?_
    exact ends_nx (by (conv => lhs; simp [exs, ex, ev, evs, evo, eva, evi, evc, Tg.put, leaf?, bl?, int?, node?, tpl?, lsts?, T.isLeaf, T.frz, T.frzs, argOk, ioSlots, ioTs, ioPut, ME.mut, MEs.mut, MO.mut, ME.path, bfn, binop, cmpop, T.lst?, T.leaves, cc_run, cc_io, wipe, Option.bind_eq_bind, Option.bind_some, Option.map_some, Option.pure_def, List.getD_cons_zero, List.getD_cons_succ, List.set_cons_zero, List.set_cons_succ, List.map_cons, List.map_nil, List.mapM_cons, List.mapM_nil, List.length_cons, List.length_nil, List.cons_append, List.nil_append, Bool.or_false, Bool.false_or, Bool.or_true, Bool.true_or, Bool.and_true, Bool.true_and, Bool.and_false, Bool.false_and, Bool.not_true, Bool.not_false, Bool.false_eq_true, if_true, if_false, reduceIte, List.replicate_succ, List.replicate_zero, List.zip_cons_cons, List.zip_nil_right, List.foldlM_cons, List.foldlM_nil, List.nodup_nil, enc, lim]) <;> rfl) (ends_ff0 (by (conv => lhs; simp [exs, ex, ev, evs, evo, eva, evi, evc, Tg.put, leaf?, bl?, int?, node?, tpl?, lsts?, T.isLeaf, T.frz, T.frzs, argOk, ioSlots, ioTs, ioPut, ME.mut, MEs.mut, MO.mut, ME.path, bfn, binop, cmpop, T.lst?, T.leaves, cc_run, cc_io, wipe, Option.bind_eq_bind, Option.bind_some, Option.map_some, Option.pure_def, List.getD_cons_zero, List.getD_cons_succ, List.set_cons_zero, List.set_cons_succ, List.map_cons, List.map_nil, List.mapM_cons, List.mapM_nil, List.length_cons, List.length_nil, List.cons_append, List.nil_append, Bool.or_false, Bool.false_or, Bool.or_true, Bool.true_or, Bool.and_true, Bool.true_and, Bool.and_false, Bool.false_and, Bool.not_true, Bool.not_false, Bool.false_eq_true, if_true, if_false, reduceIte, List.replicate_succ, List.replicate_zero, List.zip_cons_cons, List.zip_nil_right, List.foldlM_cons, List.foldlM_nil, List.nodup_nil, e, io_is_out, D.isStr]) <;> rfl) (ends_rt (by (conv => lhs; simp [exs, ex, ev, evs, evo, eva, evi, evc, Tg.put, leaf?, bl?, int?, node?, tpl?, lsts?, T.isLeaf, T.frz, T.frzs, argOk, ioSlots, ioTs, ioPut, ME.mut, MEs.mut, MO.mut, ME.path, bfn, binop, cmpop, T.lst?, T.leaves, cc_run, cc_io, wipe, Option.bind_eq_bind, Option.bind_some, Option.map_some, Option.pure_def, List.getD_cons_zero, List.getD_cons_succ, List.set_cons_zero, List.set_cons_succ, List.map_cons, List.map_nil, List.mapM_cons, List.mapM_nil, List.length_cons, List.length_nil, List.cons_append, List.nil_append, Bool.or_false, Bool.false_or, Bool.or_true, Bool.true_or, Bool.and_true, Bool.true_and, Bool.and_false, Bool.false_and, Bool.not_true, Bool.not_false, Bool.false_eq_true, if_true, if_false, reduceIte, List.replicate_succ, List.replicate_zero, List.zip_cons_cons, List.zip_nil_right, List.foldlM_cons, List.foldlM_nil, List.nodup_nil]) <;> rfl) ⟨[], rfl, rfl⟩))
  | succ k ih =>
    intro n r p hn hp hnd
    refine call_ex (by omega) (show T0 f_all_paths = some b_all_paths from rfl) rfl rfl ?_
    cases r with
    | inl s =>
      have e := is_out_run (W := W) (n := n - 1) (d := .str s) (by omega)
      exact ends_nx (by (conv => lhs; simp [exs, ex, ev, evs, evo, eva, evi, evc, Tg.put, leaf?, bl?, int?, node?, tpl?, lsts?, T.isLeaf, T.frz, T.frzs, argOk, ioSlots, ioTs, ioPut, ME.mut, MEs.mut, MO.mut, ME.path, bfn, binop, cmpop, T.lst?, T.leaves, cc_run, cc_io, wipe, Option.bind_eq_bind, Option.bind_some, Option.map_some, Option.pure_def, List.getD_cons_zero, List.getD_cons_succ, List.set_cons_zero, List.set_cons_succ, List.map_cons, List.map_nil, List.mapM_cons, List.mapM_nil, List.length_cons, List.length_nil, List.cons_append, List.nil_append, Bool.or_false, Bool.false_or, Bool.or_true, Bool.true_or, Bool.and_true, Bool.true_and, Bool.and_false, Bool.false_and, Bool.not_true, Bool.not_false, Bool.false_eq_true, if_true, if_false, reduceIte, List.replicate_succ, List.replicate_zero, List.zip_cons_cons, List.zip_nil_right, List.foldlM_cons, List.foldlM_nil, List.nodup_nil, enc, lim]) <;> rfl) (ends_ff0 (by (conv => lhs; simp [exs, ex, ev, evs, evo, eva, evi, evc, Tg.put, leaf?, bl?, int?, node?, tpl?, lsts?, T.isLeaf, T.frz, T.frzs, argOk, ioSlots, ioTs, ioPut, ME.mut, MEs.mut, MO.mut, ME.path, bfn, binop, cmpop, T.lst?, T.leaves, cc_run, cc_io, wipe, Option.bind_eq_bind, Option.bind_some, Option.map_some, Option.pure_def, List.getD_cons_zero, List.getD_cons_succ, List.set_cons_zero, List.set_cons_succ, List.map_cons, List.map_nil, List.mapM_cons, List.mapM_nil, List.length_cons, List.length_nil, List.cons_append, List.nil_append, Bool.or_false, Bool.false_or, Bool.or_true, Bool.true_or, Bool.and_true, Bool.true_and, Bool.and_false, Bool.false_and, Bool.not_true, Bool.not_false, Bool.false_eq_true, if_true, if_false, reduceIte, List.replicate_succ, List.replicate_zero, List.zip_cons_cons, List.zip_nil_right, List.foldlM_cons, List.foldlM_nil, List.nodup_nil, e, io_is_out, D.isStr]) <;> rfl) (ends_rt (by (conv => lhs; simp [exs, ex, ev, evs, evo, eva, evi, evc, Tg.put, leaf?, bl?, int?, node?, tpl?, lsts?, T.isLeaf, T.frz, T.frzs, argOk, ioSlots, ioTs, ioPut, ME.mut, MEs.mut, MO.mut, ME.path, bfn, binop, cmpop, T.lst?, T.leaves, cc_run, cc_io, wipe, Option.bind_eq_bind, Option.bind_some, Option.map_some, Option.pure_def, List.getD_cons_zero, List.getD_cons_succ, List.set_cons_zero, List.set_cons_succ, List.map_cons, List.map_nil, List.mapM_cons, List.mapM_nil, List.length_cons, List.length_nil, List.cons_append, List.nil_append, Bool.or_false, Bool.false_or, Bool.or_true, Bool.true_or, Bool.and_true, Bool.true_and, Bool.and_false, Bool.false_and, Bool.not_true, Bool.not_false, Bool.false_eq_true, if_true, if_false, reduceIte, List.replicate_succ, List.replicate_zero, List.zip_cons_cons, List.zip_nil_right, List.foldlM_cons, List.foldlM_nil, List.nodup_nil]) <;> rfl) ⟨[], rfl, rfl⟩))
    | inr q =>
      obtain ⟨h, ds⟩ := q
      have e := is_out_run (W := W) (n := n - 1) (d := .tup [.int h, .tup (ds.map (encD k))]) (by omega)
      refine ends_nx (by (conv => lhs; simp [exs, ex, ev, evs, evo, eva, evi, evc, Tg.put, leaf?, bl?, int?, node?, tpl?, lsts?, T.isLeaf, T.frz, T.frzs, argOk, ioSlots, ioTs, ioPut, ME.mut, MEs.mut, MO.mut, ME.path, bfn, binop, cmpop, T.lst?, T.leaves, cc_run, cc_io, wipe, Option.bind_eq_bind, Option.bind_some, Option.map_some, Option.pure_def, List.getD_cons_zero, List.getD_cons_succ, List.set_cons_zero, List.set_cons_succ, List.map_cons, List.map_nil, List.mapM_cons, List.mapM_nil, List.length_cons, List.length_nil, List.cons_append, List.nil_append, Bool.or_false, Bool.false_or, Bool.or_true, Bool.true_or, Bool.and_true, Bool.true_and, Bool.and_false, Bool.false_and, Bool.not_true, Bool.not_false, Bool.false_eq_true, if_true, if_false, reduceIte, List.replicate_succ, List.replicate_zero, List.zip_cons_cons, List.zip_nil_right, List.foldlM_cons, List.foldlM_nil, List.nodup_nil, enc, lim]) <;> rfl) (ends_tt (by (conv => lhs; simp [exs, ex, ev, evs, evo, eva, evi, evc, Tg.put, leaf?, bl?, int?, node?, tpl?, lsts?, T.isLeaf, T.frz, T.frzs, argOk, ioSlots, ioTs, ioPut, ME.mut, MEs.mut, MO.mut, ME.path, bfn, binop, cmpop, T.lst?, T.leaves, cc_run, cc_io, wipe, Option.bind_eq_bind, Option.bind_some, Option.map_some, Option.pure_def, List.getD_cons_zero, List.getD_cons_succ, List.set_cons_zero, List.set_cons_succ, List.map_cons, List.map_nil, List.mapM_cons, List.mapM_nil, List.length_cons, List.length_nil, List.cons_append, List.nil_append, Bool.or_false, Bool.false_or, Bool.or_true, Bool.true_or, Bool.and_true, Bool.true_and, Bool.and_false, Bool.false_and, Bool.not_true, Bool.not_false, Bool.false_eq_true, if_true, if_false, reduceIte, List.replicate_succ, List.replicate_zero, List.zip_cons_cons, List.zip_nil_right, List.foldlM_cons, List.foldlM_nil, List.nodup_nil, e, io_is_out, D.isStr]) <;> rfl) ?_)
      refine ends_for (fun it r => ∃ (i : Nat) (xs : List (Int × Int × Rm k)) (acc : List D) (a b : Option T), it = enums i (xs.map (encD k)) ∧ r = [some (.leaf (.tup [.int h, .tup (ds.map (encD k))])), some (.leaf (.tup p)), some (.node (acc.map T.leaf)), a, b] ∧
        acc.length + (xs.map fun x => 1 + nd k x.2.2).sum = nd (k + 1) (Sum.inr (h, ds))) (by (conv => lhs; simp [exs, ex, ev, evs, evo, eva, evi, evc, Tg.put, leaf?, bl?, int?, node?, tpl?, lsts?, T.isLeaf, T.frz, T.frzs, argOk, ioSlots, ioTs, ioPut, ME.mut, MEs.mut, MO.mut, ME.path, bfn, binop, cmpop, T.lst?, T.leaves, cc_run, cc_io, wipe, Option.bind_eq_bind, Option.bind_some, Option.map_some, Option.pure_def, List.getD_cons_zero, List.getD_cons_succ, List.set_cons_zero, List.set_cons_succ, List.map_cons, List.map_nil, List.mapM_cons, List.mapM_nil, List.length_cons, List.length_nil, List.cons_append, List.nil_append, Bool.or_false, Bool.false_or, Bool.or_true, Bool.true_or, Bool.and_true, Bool.true_and, Bool.and_false, Bool.false_and, Bool.not_true, Bool.not_false, Bool.false_eq_true, if_true, if_false, reduceIte, List.replicate_succ, List.replicate_zero, List.zip_cons_cons, List.zip_nil_right, List.foldlM_cons, List.foldlM_nil, List.nodup_nil, index, atI, ixN]) <;> rfl)
        ⟨0, ds, [], _, _, rfl, rfl, by simp [nd]⟩ ?_ ?_
      · rintro d its r1 ⟨i, xs, acc, a, b, e1, rfl, e3⟩
        cases xs with
        | nil => simp [enums] at e1
        | cons x xs =>
          simp only [List.map_cons, enums, List.cons.injEq, List.sum_cons] at e1 e3
          obtain ⟨rfl, rfl⟩ := e1
          obtain ⟨y, f, ps, hps, rfl⟩ := ih (n - 1) x.2.2 (p ++ [.int i]) (by omega) (by simp; omega) (by omega)
          have l1 : p.length + 1 ≤ lim := by unfold lim; omega
          have l2 : 1 ≤ lim := by decide
          have l3 : 1 + ps.length ≤ lim := by unfold lim; omega
          have l4 : acc.length + (ps.length + 1) ≤ lim := by unfold lim; omega
          refine ⟨_, (by (conv => lhs; simp [exs, ex, ev, evs, evo, eva, evi, evc, Tg.put, leaf?, bl?, int?, node?, tpl?, lsts?, T.isLeaf, T.frz, T.frzs, argOk, ioSlots, ioTs, ioPut, ME.mut, MEs.mut, MO.mut, ME.path, bfn, binop, cmpop, T.lst?, T.leaves, cc_run, cc_io, wipe, Option.bind_eq_bind, Option.bind_some, Option.map_some, Option.pure_def, List.getD_cons_zero, List.getD_cons_succ, List.set_cons_zero, List.set_cons_succ, List.map_cons, List.map_nil, List.mapM_cons, List.mapM_nil, List.length_cons, List.length_nil, List.cons_append, List.nil_append, Bool.or_false, Bool.false_or, Bool.or_true, Bool.true_or, Bool.and_true, Bool.true_and, Bool.and_false, Bool.false_and, Bool.not_true, Bool.not_false, Bool.false_eq_true, if_true, if_false, reduceIte, List.replicate_succ, List.replicate_zero, List.zip_cons_cons, List.zip_nil_right, List.foldlM_cons, List.foldlM_nil, List.nodup_nil]) <;> rfl), ends_nx (by (conv => lhs; simp [exs, ex, ev, evs, evo, eva, evi, evc, Tg.put, leaf?, bl?, int?, node?, tpl?, lsts?, T.isLeaf, T.frz, T.frzs, argOk, ioSlots, ioTs, ioPut, ME.mut, MEs.mut, MO.mut, ME.path, bfn, binop, cmpop, T.lst?, T.leaves, cc_run, cc_io, wipe, Option.bind_eq_bind, Option.bind_some, Option.map_some, Option.pure_def, List.getD_cons_zero, List.getD_cons_succ, List.set_cons_zero, List.set_cons_succ, List.map_cons, List.map_nil, List.mapM_cons, List.mapM_nil, List.length_cons, List.length_nil, List.cons_append, List.nil_append, Bool.or_false, Bool.false_or, Bool.or_true, Bool.true_or, Bool.and_true, Bool.true_and, Bool.and_false, Bool.false_and, Bool.not_true, Bool.not_false, Bool.false_eq_true, if_true, if_false, reduceIte, List.replicate_succ, List.replicate_zero, List.zip_cons_cons, List.zip_nil_right, List.foldlM_cons, List.foldlM_nil, List.nodup_nil, index, atI, ixN, io_all_paths, f, l1, l2, l3, l4, leaves_map]) <;> rfl) (ends_nil ⟨i + 1, xs, acc ++ (.tup (p ++ [.int i]) :: ps), some (.leaf (.int i)), some (.leaf (encD k x)), rfl, ?_, ?_⟩)⟩
          · simp
          · simp; omega
      · rintro r1 ⟨i, xs, acc, a, b, e1, rfl, e3⟩
        cases xs with
        | cons x xs => simp [enums] at e1
        | nil => exact ends_nil (ends_rt (by (conv => lhs; simp [exs, ex, ev, evs, evo, eva, evi, evc, Tg.put, leaf?, bl?, int?, node?, tpl?, lsts?, T.isLeaf, T.frz, T.frzs, argOk, ioSlots, ioTs, ioPut, ME.mut, MEs.mut, MO.mut, ME.path, bfn, binop, cmpop, T.lst?, T.leaves, cc_run, cc_io, wipe, Option.bind_eq_bind, Option.bind_some, Option.map_some, Option.pure_def, List.getD_cons_zero, List.getD_cons_succ, List.set_cons_zero, List.set_cons_succ, List.map_cons, List.map_nil, List.mapM_cons, List.mapM_nil, List.length_cons, List.length_nil, List.cons_append, List.nil_append, Bool.or_false, Bool.false_or, Bool.or_true, Bool.true_or, Bool.and_true, Bool.true_and, Bool.and_false, Bool.false_and, Bool.not_true, Bool.not_false, Bool.false_eq_true, if_true, if_false, reduceIte, List.replicate_succ, List.replicate_zero, List.zip_cons_cons, List.zip_nil_right, List.foldlM_cons, List.foldlM_nil, List.nodup_nil]) <;> rfl) ⟨acc, by simpa using e3, rfl⟩)
theorem need_house_run {k n : Nat} {r : Rm k} (hn : k + 3 < n) (hk : k ≤ 1000) (ho : Ok k r) (h12 : nd k r ≤ 12) : callD T0 W n f_need_house [.leaf (enc k r)] = some (.leaf .non, []) := by
  refine call_ends (by omega) (show T0 f_need_house = some b_need_house from rfl) rfl rfl ?_
  have e1 := need_room_run (W := W) k (n - 1) r [] (by omega) (by simpa using hk) ho
  obtain ⟨x, e2, ps, h1, rfl⟩ := all_paths_run (W := W) k (n - 1) r [] (by omega) (by simpa using hk) (by omega)
  have h2 : ((ps.length : Nat) : Int) ≤ 12 := by omega
  have h3 : ¬ 12 < ((ps.length : Nat) : Int) := by omega
  exact ends_nx (by (conv => lhs; simp [exs, ex, ev, evs, evo, eva, evi, evc, Tg.put, leaf?, bl?, int?, node?, tpl?, lsts?, T.isLeaf, T.frz, T.frzs, argOk, ioSlots, ioTs, ioPut, ME.mut, MEs.mut, MO.mut, ME.path, bfn, binop, cmpop, T.lst?, T.leaves, cc_run, cc_io, wipe, Option.bind_eq_bind, Option.bind_some, Option.map_some, Option.pure_def, List.getD_cons_zero, List.getD_cons_succ, List.set_cons_zero, List.set_cons_succ, List.map_cons, List.map_nil, List.mapM_cons, List.mapM_nil, List.length_cons, List.length_nil, List.cons_append, List.nil_append, Bool.or_false, Bool.false_or, Bool.or_true, Bool.true_or, Bool.and_true, Bool.true_and, Bool.and_false, Bool.false_and, Bool.not_true, Bool.not_false, Bool.false_eq_true, if_true, if_false, reduceIte, List.replicate_succ, List.replicate_zero, List.zip_cons_cons, List.zip_nil_right, List.foldlM_cons, List.foldlM_nil, List.nodup_nil, io_need_room, e1, lim]) <;> rfl) (ends_ff0 (by (conv => lhs; simp [exs, ex, ev, evs, evo, eva, evi, evc, Tg.put, leaf?, bl?, int?, node?, tpl?, lsts?, T.isLeaf, T.frz, T.frzs, argOk, ioSlots, ioTs, ioPut, ME.mut, MEs.mut, MO.mut, ME.path, bfn, binop, cmpop, T.lst?, T.leaves, cc_run, cc_io, wipe, Option.bind_eq_bind, Option.bind_some, Option.map_some, Option.pure_def, List.getD_cons_zero, List.getD_cons_succ, List.set_cons_zero, List.set_cons_succ, List.map_cons, List.map_nil, List.mapM_cons, List.mapM_nil, List.length_cons, List.length_nil, List.cons_append, List.nil_append, Bool.or_false, Bool.false_or, Bool.or_true, Bool.true_or, Bool.and_true, Bool.true_and, Bool.and_false, Bool.false_and, Bool.not_true, Bool.not_false, Bool.false_eq_true, if_true, if_false, reduceIte, List.replicate_succ, List.replicate_zero, List.zip_cons_cons, List.zip_nil_right, List.foldlM_cons, List.foldlM_nil, List.nodup_nil, io_all_paths, e2, h3, h2]) <;> rfl) (ends_nil rfl))
theorem need_far_run {a b c : Int} (hn : 0 < n) (h1 : b ≤ a) (h2 : a ≤ c) : callD T0 W n f_need_far [.leaf (.int a), .leaf (.int b), .leaf (.int c)] = some (.leaf .non, []) := by
  refine call_ends hn (show T0 f_need_far = some b_need_far from rfl) rfl rfl ?_
  exact ends_ff0 (by (conv => lhs; simp [exs, ex, ev, evs, evo, eva, evi, evc, Tg.put, leaf?, bl?, int?, node?, tpl?, lsts?, T.isLeaf, T.frz, T.frzs, argOk, ioSlots, ioTs, ioPut, ME.mut, MEs.mut, MO.mut, ME.path, bfn, binop, cmpop, T.lst?, T.leaves, cc_run, cc_io, wipe, Option.bind_eq_bind, Option.bind_some, Option.map_some, Option.pure_def, List.getD_cons_zero, List.getD_cons_succ, List.set_cons_zero, List.set_cons_succ, List.map_cons, List.map_nil, List.mapM_cons, List.mapM_nil, List.length_cons, List.length_nil, List.cons_append, List.nil_append, Bool.or_false, Bool.false_or, Bool.or_true, Bool.true_or, Bool.and_true, Bool.true_and, Bool.and_false, Bool.false_and, Bool.not_true, Bool.not_false, Bool.false_eq_true, if_true, if_false, reduceIte, List.replicate_succ, List.replicate_zero, List.zip_cons_cons, List.zip_nil_right, List.foldlM_cons, List.foldlM_nil, List.nodup_nil, h1, h2]) <;> rfl) (ends_nil rfl)
end
end PD

/-! path_of, names_by, names_in, run. -/
namespace PD
open PySem

def po : (k : Nat) → Rm k → Int → List Int × Str
  | 0, s, _ => ([], s)
  | _ + 1, Sum.inl s, _ => ([], s)
  | k + 1, Sum.inr (h, ds), m => match ds[((h + m - 1) % ds.length).toNat]? with
    | some x => ((h + m - 1) % ds.length :: (po k x.2.2 (lf h ds.length ((h + m - 1) % ds.length) m)).1, (po k x.2.2 (lf h ds.length ((h + m - 1) % ds.length) m)).2)
    | none => ([], ⟨#[]⟩)
def nbL {α : Type} (f : α → Int → Int) (h len m : Int) : Nat → List (Int × Int × α) → Int
  | _, [] => 0
  | i, x :: ds => (if 0 < lf h len i m then f x.2.2 (lf h len i m) else 0) + nbL f h len m (i + 1) ds
def nb0 (s nm : Str) (m : Int) : Int := if s = nm then m else 0
def nb (nm : Str) : (k : Nat) → Rm k → Int → Int
  | 0, s, m => nb0 s nm m
  | _ + 1, Sum.inl s, m => nb0 s nm m
  | k + 1, Sum.inr (h, ds), m => nbL (nb nm k) h ds.length m 0 ds
theorem nbL_eq {α : Type} (f : α → Int → Int) (h len m : Int) : ∀ (i : Nat) (ds : List (Int × Int × α)),
    (((ds.zipIdx i).filter fun p => decide (0 < lf h len p.2 m)).map fun p => f p.1.2.2 (lf h len p.2 m)).sum = nbL f h len m i ds
  | _, [] => rfl
  | i, x :: ds => by
    rw [List.zipIdx_cons, nbL, ← nbL_eq f h len m (i + 1) ds]
    by_cases c : 0 < lf h len i m
    · rw [List.filter_cons_of_pos (by simpa using c), if_pos c, List.map_cons, List.sum_cons]
    · rw [List.filter_cons_of_neg (by simpa using c), if_neg c]; omega
def ni : (k : Nat) → Rm k → List Str
  | 0, s => [s]
  | _ + 1, Sum.inl s => [s]
  | k + 1, Sum.inr (_, ds) => (ds.map fun x => ni k x.2.2).flatten
section
variable {W n : Nat}
theorem io_path_of : ((T0 f_path_of).map Def.io).getD [] = [false, false] := rfl
theorem io_names_by : ((T0 f_names_by).map Def.io).getD [] = [false, false, false] := rfl
theorem io_names_in : ((T0 f_names_in).map Def.io).getD [] = [false] := rfl
theorem ints_map {α : Type} (f : α → Int) : ∀ xs : List α, D.ints (xs.map fun x => D.int (f x)) = some (xs.map f)
  | [] => rfl
  | x :: xs => by simp [D.ints, ints_map f xs]
theorem leaves_fn {α : Type} (f : α → D) : ∀ xs : List α, T.leaves (xs.map fun x => T.leaf (f x)) = some (xs.map f)
  | [] => rfl
  | x :: xs => by simp [T.leaves, leaves_fn f xs]
theorem frz_fn {α : Type} (f : α → D) : ∀ xs : List α, T.frzs (xs.map fun x => T.leaf (f x)) = xs.map f
  | [] => rfl
  | x :: xs => by simp [T.frzs, T.frz, frz_fn f xs]

theorem path_of_run {k : Nat} {r : Rm k} {m : Int} (hn : 1 < n) (hW : k + 1 < W) (hk : k ≤ 1000) (hf : Fit k r) : callD T0 W n f_path_of [.leaf (enc k r), .leaf (.int m)] = some (.leaf (.tup [.tup ((po k r m).1.map D.int), .str (po k r m).2]), []) := by
  refine call_ends (by omega) (show T0 f_path_of = some b_path_of from rfl) rfl rfl ?_
  refine ends_nx (by (conv => lhs; simp [exs, ex, ev, evs, evo, eva, evi, evc, Tg.put, leaf?, bl?, int?, node?, tpl?, lsts?, T.isLeaf, T.frz, T.frzs, argOk, ioSlots, ioTs, ioPut, ME.mut, MEs.mut, MO.mut, ME.path, bfn, binop, cmpop, T.lst?, T.leaves, cc_run, cc_io, wipe, Option.bind_eq_bind, Option.bind_some, Option.map_some, Option.pure_def, List.getD_cons_zero, List.getD_cons_succ, List.set_cons_zero, List.set_cons_succ, List.map_cons, List.map_nil, List.mapM_cons, List.mapM_nil, List.length_cons, List.length_nil, List.cons_append, List.nil_append, Bool.or_false, Bool.false_or, Bool.or_true, Bool.true_or, Bool.and_true, Bool.true_and, Bool.and_false, Bool.false_and, Bool.not_true, Bool.not_false, Bool.false_eq_true, if_true, if_false, reduceIte, List.replicate_succ, List.replicate_zero, List.zip_cons_cons, List.zip_nil_right, List.foldlM_cons, List.foldlM_nil, List.nodup_nil, lim]) <;> rfl) ?_
  refine ends_whl (fun i env => ∃ (j : Nat) (q : Rm j) (m' : Int) (pre : List Int) (a b c : Option T), i = j + 1 ∧ env = [some (.leaf (enc j q)), some (.leaf (.int m')), some (.leaf (.tup (pre.map D.int))), a, b, c] ∧ Fit j q ∧ pre.length + j ≤ 1000 ∧
    (pre ++ (po j q m').1, (po j q m').2) = po k r m) (k + 1) hW ⟨k, r, m, [], _, _, _, rfl, rfl, hf, by simpa using hk, by simp⟩ ?_
  rintro i env ⟨j, q, m', pre, a, b, c, rfl, rfl, hq, hp, e⟩
  have out : ∀ s : Str, enc j q = .str s → po j q m' = ([], s) → ∃ (x : Bool) (r2 : Env), ev (CC T0 W (n - 1)) false (.not (.call f_is_out (.val (.var 0) .nil))) [some (.leaf (enc j q)), some (.leaf (.int m')), some (.leaf (.tup (pre.map D.int))), a, b, c] = some (.leaf (.bl x), r2) ∧ x = false ∧ Ends (CC T0 W (n - 1)) W (.cons (.ret (.tup (.cons (.var 2) (.cons (.var 0) .nil)))) .nil) r2 (Rx (.leaf (.tup [.tup ((po k r m).1.map D.int), .str (po k r m).2]))) := fun s e1 e2 => by
    have eo := is_out_run (W := W) (n := n - 1) (d := .str s) (by omega)
    rw [e1]
    refine ⟨_, _, (by (conv => lhs; simp [exs, ex, ev, evs, evo, eva, evi, evc, Tg.put, leaf?, bl?, int?, node?, tpl?, lsts?, T.isLeaf, T.frz, T.frzs, argOk, ioSlots, ioTs, ioPut, ME.mut, MEs.mut, MO.mut, ME.path, bfn, binop, cmpop, T.lst?, T.leaves, cc_run, cc_io, wipe, Option.bind_eq_bind, Option.bind_some, Option.map_some, Option.pure_def, List.getD_cons_zero, List.getD_cons_succ, List.set_cons_zero, List.set_cons_succ, List.map_cons, List.map_nil, List.mapM_cons, List.mapM_nil, List.length_cons, List.length_nil, List.cons_append, List.nil_append, Bool.or_false, Bool.false_or, Bool.or_true, Bool.true_or, Bool.and_true, Bool.true_and, Bool.and_false, Bool.false_and, Bool.not_true, Bool.not_false, Bool.false_eq_true, if_true, if_false, reduceIte, List.replicate_succ, List.replicate_zero, List.zip_cons_cons, List.zip_nil_right, List.foldlM_cons, List.foldlM_nil, List.nodup_nil, eo, io_is_out, D.isStr]) <;> rfl), rfl, ends_rt (by (conv => lhs; simp [exs, ex, ev, evs, evo, eva, evi, evc, Tg.put, leaf?, bl?, int?, node?, tpl?, lsts?, T.isLeaf, T.frz, T.frzs, argOk, ioSlots, ioTs, ioPut, ME.mut, MEs.mut, MO.mut, ME.path, bfn, binop, cmpop, T.lst?, T.leaves, cc_run, cc_io, wipe, Option.bind_eq_bind, Option.bind_some, Option.map_some, Option.pure_def, List.getD_cons_zero, List.getD_cons_succ, List.set_cons_zero, List.set_cons_succ, List.map_cons, List.map_nil, List.mapM_cons, List.mapM_nil, List.length_cons, List.length_nil, List.cons_append, List.nil_append, Bool.or_false, Bool.false_or, Bool.or_true, Bool.true_or, Bool.and_true, Bool.true_and, Bool.and_false, Bool.false_and, Bool.not_true, Bool.not_false, Bool.false_eq_true, if_true, if_false, reduceIte, List.replicate_succ, List.replicate_zero, List.zip_cons_cons, List.zip_nil_right, List.foldlM_cons, List.foldlM_nil, List.nodup_nil, lim]) <;> rfl) ?_⟩
    rw [rx_rt, ← e, e2]
    simp
  cases j with
  | zero =>
    obtain ⟨x, r2, h1, h2, h3⟩ := out q rfl rfl
    exact ⟨x, r2, h1, (fun z => by rw [h2] at z; cases z), fun _ => h3⟩
  | succ j =>
    cases q with
    | inl s =>
      obtain ⟨x, r2, h1, h2, h3⟩ := out s rfl rfl
      exact ⟨x, r2, h1, (fun z => by rw [h2] at z; cases z), fun _ => h3⟩
    | inr u =>
      obtain ⟨h, ds⟩ := u
      obtain ⟨hl, hl4, h0, h1, hd⟩ := hq
      have eo := is_out_run (W := W) (n := n - 1) (d := .tup [.int h, .tup (ds.map (encD j))]) (by omega)
      have a1 : (0 : Int) < ds.length := by omega
      have p0 := Int.emod_nonneg (h + m' - 1) (show (ds.length : Int) ≠ 0 by omega)
      have p1 := Int.emod_lt_of_pos (h + m' - 1) a1
      generalize hdd : (h + m' - 1) % (ds.length : Int) = dd at *
      have hdl : dd.toNat < ds.length := by omega
      have fi : index (.leaf (.tup (ds.map (encD j)))) dd = some (.leaf (encD j ds[dd.toNat])) := by
        simp only [index, atI, ixN, List.length_map, if_pos p0, if_pos p1, Option.bind_some, List.getElem?_map, List.getElem?_eq_getElem hdl, Option.map_some]
      have fl := left_by_run (W := W) (n := n - 1) (h := h) (i := dd) (m := m') (ds := ds.map (encD j)) (by omega) (by simpa using hl) (by simpa using hl4)
      rw [List.length_map] at fl
      have l1 : pre.length + 1 ≤ lim := by unfold lim; omega
      have l2 : 1 ≤ lim := by decide
      refine ⟨true, _, (by (conv => lhs; simp [exs, ex, ev, evs, evo, eva, evi, evc, Tg.put, leaf?, bl?, int?, node?, tpl?, lsts?, T.isLeaf, T.frz, T.frzs, argOk, ioSlots, ioTs, ioPut, ME.mut, MEs.mut, MO.mut, ME.path, bfn, binop, cmpop, T.lst?, T.leaves, cc_run, cc_io, wipe, Option.bind_eq_bind, Option.bind_some, Option.map_some, Option.pure_def, List.getD_cons_zero, List.getD_cons_succ, List.set_cons_zero, List.set_cons_succ, List.map_cons, List.map_nil, List.mapM_cons, List.mapM_nil, List.length_cons, List.length_nil, List.cons_append, List.nil_append, Bool.or_false, Bool.false_or, Bool.or_true, Bool.true_or, Bool.and_true, Bool.true_and, Bool.and_false, Bool.false_and, Bool.not_true, Bool.not_false, Bool.false_eq_true, if_true, if_false, reduceIte, List.replicate_succ, List.replicate_zero, List.zip_cons_cons, List.zip_nil_right, List.foldlM_cons, List.foldlM_nil, List.nodup_nil, enc, eo, io_is_out, D.isStr]) <;> rfl), fun _ => ?_, fun z => by cases z⟩
      refine ends_nx (by (conv => lhs; simp [exs, ex, ev, evs, evo, eva, evi, evc, Tg.put, leaf?, bl?, int?, node?, tpl?, lsts?, T.isLeaf, T.frz, T.frzs, argOk, ioSlots, ioTs, ioPut, ME.mut, MEs.mut, MO.mut, ME.path, bfn, binop, cmpop, T.lst?, T.leaves, cc_run, cc_io, wipe, Option.bind_eq_bind, Option.bind_some, Option.map_some, Option.pure_def, List.getD_cons_zero, List.getD_cons_succ, List.set_cons_zero, List.set_cons_succ, List.map_cons, List.map_nil, List.mapM_cons, List.mapM_nil, List.length_cons, List.length_nil, List.cons_append, List.nil_append, Bool.or_false, Bool.false_or, Bool.or_true, Bool.true_or, Bool.and_true, Bool.true_and, Bool.and_false, Bool.false_and, Bool.not_true, Bool.not_false, Bool.false_eq_true, if_true, if_false, reduceIte, List.replicate_succ, List.replicate_zero, List.zip_cons_cons, List.zip_nil_right, List.foldlM_cons, List.foldlM_nil, List.nodup_nil]) <;> rfl) (ends_nx (by (conv => lhs; simp [exs, ex, ev, evs, evo, eva, evi, evc, Tg.put, leaf?, bl?, int?, node?, tpl?, lsts?, T.isLeaf, T.frz, T.frzs, argOk, ioSlots, ioTs, ioPut, ME.mut, MEs.mut, MO.mut, ME.path, bfn, binop, cmpop, T.lst?, T.leaves, cc_run, cc_io, wipe, Option.bind_eq_bind, Option.bind_some, Option.map_some, Option.pure_def, List.getD_cons_zero, List.getD_cons_succ, List.set_cons_zero, List.set_cons_succ, List.map_cons, List.map_nil, List.mapM_cons, List.mapM_nil, List.length_cons, List.length_nil, List.cons_append, List.nil_append, Bool.or_false, Bool.false_or, Bool.or_true, Bool.true_or, Bool.and_true, Bool.true_and, Bool.and_false, Bool.false_and, Bool.not_true, Bool.not_false, Bool.false_eq_true, if_true, if_false, reduceIte, List.replicate_succ, List.replicate_zero, List.zip_cons_cons, List.zip_nil_right, List.foldlM_cons, List.foldlM_nil, List.nodup_nil, hl, hdd]) <;> rfl) (ends_nx (by (conv => lhs; simp [exs, ex, ev, evs, evo, eva, evi, evc, Tg.put, leaf?, bl?, int?, node?, tpl?, lsts?, T.isLeaf, T.frz, T.frzs, argOk, ioSlots, ioTs, ioPut, ME.mut, MEs.mut, MO.mut, ME.path, bfn, binop, cmpop, T.lst?, T.leaves, cc_run, cc_io, wipe, Option.bind_eq_bind, Option.bind_some, Option.map_some, Option.pure_def, List.getD_cons_zero, List.getD_cons_succ, List.set_cons_zero, List.set_cons_succ, List.map_cons, List.map_nil, List.mapM_cons, List.mapM_nil, List.length_cons, List.length_nil, List.cons_append, List.nil_append, Bool.or_false, Bool.false_or, Bool.or_true, Bool.true_or, Bool.and_true, Bool.true_and, Bool.and_false, Bool.false_and, Bool.not_true, Bool.not_false, Bool.false_eq_true, if_true, if_false, reduceIte, List.replicate_succ, List.replicate_zero, List.zip_cons_cons, List.zip_nil_right, List.foldlM_cons, List.foldlM_nil, List.nodup_nil, l1, l2]) <;> rfl) (ends_nx (by (conv => lhs; simp [exs, ex, ev, evs, evo, eva, evi, evc, Tg.put, leaf?, bl?, int?, node?, tpl?, lsts?, T.isLeaf, T.frz, T.frzs, argOk, ioSlots, ioTs, ioPut, ME.mut, MEs.mut, MO.mut, ME.path, bfn, binop, cmpop, T.lst?, T.leaves, cc_run, cc_io, wipe, Option.bind_eq_bind, Option.bind_some, Option.map_some, Option.pure_def, List.getD_cons_zero, List.getD_cons_succ, List.set_cons_zero, List.set_cons_succ, List.map_cons, List.map_nil, List.mapM_cons, List.mapM_nil, List.length_cons, List.length_nil, List.cons_append, List.nil_append, Bool.or_false, Bool.false_or, Bool.or_true, Bool.true_or, Bool.and_true, Bool.true_and, Bool.and_false, Bool.false_and, Bool.not_true, Bool.not_false, Bool.false_eq_true, if_true, if_false, reduceIte, List.replicate_succ, List.replicate_zero, List.zip_cons_cons, List.zip_nil_right, List.foldlM_cons, List.foldlM_nil, List.nodup_nil, io_left_by, fl]) <;> rfl) (ends_nx (by (conv => lhs; simp [exs, ex, ev, evs, evo, eva, evi, evc, Tg.put, leaf?, bl?, int?, node?, tpl?, lsts?, T.isLeaf, T.frz, T.frzs, argOk, ioSlots, ioTs, ioPut, ME.mut, MEs.mut, MO.mut, ME.path, bfn, binop, cmpop, T.lst?, T.leaves, cc_run, cc_io, wipe, Option.bind_eq_bind, Option.bind_some, Option.map_some, Option.pure_def, List.getD_cons_zero, List.getD_cons_succ, List.set_cons_zero, List.set_cons_succ, List.map_cons, List.map_nil, List.mapM_cons, List.mapM_nil, List.length_cons, List.length_nil, List.cons_append, List.nil_append, Bool.or_false, Bool.false_or, Bool.or_true, Bool.true_or, Bool.and_true, Bool.true_and, Bool.and_false, Bool.false_and, Bool.not_true, Bool.not_false, Bool.false_eq_true, if_true, if_false, reduceIte, List.replicate_succ, List.replicate_zero, List.zip_cons_cons, List.zip_nil_right, List.foldlM_cons, List.foldlM_nil, List.nodup_nil, p0, p1, index, atI, ixN, List.getElem?_eq_getElem hdl]) <;> rfl) (ends_nil ?_)))))
      refine ⟨j + 1, by omega, j, ds[dd.toNat].2.2, lf h ds.length dd m', pre ++ [dd], some (.leaf (.int dd)), some (.leaf (.int h)), some (.leaf (.tup (ds.map (encD j)))), rfl, ?_, (hd _ (List.getElem_mem hdl)).2.2.2.2, by simp; omega, ?_⟩
      · rw [List.map_append]; rfl
      · rw [← e]
        simp [po, hdd, List.getElem?_eq_getElem hdl]
theorem names_by_run {W : Nat} {nm : Str} (hp : (D.str nm).plain = true) : ∀ (k n : Nat) (r : Rm k) (m : Int), k + 1 < n → Ok k r → callD T0 W n f_names_by [.leaf (enc k r), .leaf (.str nm), .leaf (.int m)] = some (.leaf (.int (nb nm k r m)), []) := by
  intro k
  have out : ∀ (n : Nat) (s : Str) (m : Int), 1 < n → NameOk s → Ends (CC T0 W (n - 1)) W (match b_names_by with | .code _ _ b => b | _ => .nil) [some (.leaf (.str s)), some (.leaf (.str nm)), some (.leaf (.int m)), none, none, none, none, none] (Rx (.leaf (.int (nb0 s nm m)))) := fun n s m hn hs => by
    have e := is_out_run (W := W) (n := n - 1) (d := .str s) (by omega)
    refine ends_tt (by (conv => lhs; simp [exs, ex, ev, evs, evo, eva, evi, evc, Tg.put, leaf?, bl?, int?, node?, tpl?, lsts?, T.isLeaf, T.frz, T.frzs, argOk, ioSlots, ioTs, ioPut, ME.mut, MEs.mut, MO.mut, ME.path, bfn, binop, cmpop, T.lst?, T.leaves, cc_run, cc_io, wipe, Option.bind_eq_bind, Option.bind_some, Option.map_some, Option.pure_def, List.getD_cons_zero, List.getD_cons_succ, List.set_cons_zero, List.set_cons_succ, List.map_cons, List.map_nil, List.mapM_cons, List.mapM_nil, List.length_cons, List.length_nil, List.cons_append, List.nil_append, Bool.or_false, Bool.false_or, Bool.or_true, Bool.true_or, Bool.and_true, Bool.true_and, Bool.and_false, Bool.false_and, Bool.not_true, Bool.not_false, Bool.false_eq_true, if_true, if_false, reduceIte, List.replicate_succ, List.replicate_zero, List.zip_cons_cons, List.zip_nil_right, List.foldlM_cons, List.foldlM_nil, List.nodup_nil, e, io_is_out, D.isStr]) <;> rfl) ?_
    have p1 := hs.plain
    by_cases c : s = nm
    · exact ends_rt (by (conv => lhs; simp [exs, ex, ev, evs, evo, eva, evi, evc, Tg.put, leaf?, bl?, int?, node?, tpl?, lsts?, T.isLeaf, T.frz, T.frzs, argOk, ioSlots, ioTs, ioPut, ME.mut, MEs.mut, MO.mut, ME.path, bfn, binop, cmpop, T.lst?, T.leaves, cc_run, cc_io, wipe, Option.bind_eq_bind, Option.bind_some, Option.map_some, Option.pure_def, List.getD_cons_zero, List.getD_cons_succ, List.set_cons_zero, List.set_cons_succ, List.map_cons, List.map_nil, List.mapM_cons, List.mapM_nil, List.length_cons, List.length_nil, List.cons_append, List.nil_append, Bool.or_false, Bool.false_or, Bool.or_true, Bool.true_or, Bool.and_true, Bool.true_and, Bool.and_false, Bool.false_and, Bool.not_true, Bool.not_false, Bool.false_eq_true, if_true, if_false, reduceIte, List.replicate_succ, List.replicate_zero, List.zip_cons_cons, List.zip_nil_right, List.foldlM_cons, List.foldlM_nil, List.nodup_nil, T.frz, hp, p1, D.depth, eqb_int, eqb_str, c]) <;> rfl) (by simp [sq_rt, rx_rt, nb0, c])
    · exact ends_rt (by (conv => lhs; simp [exs, ex, ev, evs, evo, eva, evi, evc, Tg.put, leaf?, bl?, int?, node?, tpl?, lsts?, T.isLeaf, T.frz, T.frzs, argOk, ioSlots, ioTs, ioPut, ME.mut, MEs.mut, MO.mut, ME.path, bfn, binop, cmpop, T.lst?, T.leaves, cc_run, cc_io, wipe, Option.bind_eq_bind, Option.bind_some, Option.map_some, Option.pure_def, List.getD_cons_zero, List.getD_cons_succ, List.set_cons_zero, List.set_cons_succ, List.map_cons, List.map_nil, List.mapM_cons, List.mapM_nil, List.length_cons, List.length_nil, List.cons_append, List.nil_append, Bool.or_false, Bool.false_or, Bool.or_true, Bool.true_or, Bool.and_true, Bool.true_and, Bool.and_false, Bool.false_and, Bool.not_true, Bool.not_false, Bool.false_eq_true, if_true, if_false, reduceIte, List.replicate_succ, List.replicate_zero, List.zip_cons_cons, List.zip_nil_right, List.foldlM_cons, List.foldlM_nil, List.nodup_nil, T.frz, hp, p1, D.depth, eqb_int, eqb_str, c]) <;> rfl) (by simp [sq_rt, rx_rt, nb0, c])
  induction k with
  | zero =>
    intro n r m hn ho
    exact call_ends (by omega) (show T0 f_names_by = some b_names_by from rfl) rfl rfl (out n r m (by omega) ho)
  | succ k ih =>
    intro n r m hn ho
    refine call_ends (by omega) (show T0 f_names_by = some b_names_by from rfl) rfl rfl ?_
    cases r with
    | inl s => exact out n s m (by omega) ho
    | inr q =>
      obtain ⟨h, ds⟩ := q
      obtain ⟨hl, hl4, c0, c1, hd⟩ := ho
      have e := is_out_run (W := W) (n := n - 1) (d := .tup [.int h, .tup (ds.map (encD k))]) (by omega)
      refine ends_ff0 (by (conv => lhs; simp [exs, ex, ev, evs, evo, eva, evi, evc, Tg.put, leaf?, bl?, int?, node?, tpl?, lsts?, T.isLeaf, T.frz, T.frzs, argOk, ioSlots, ioTs, ioPut, ME.mut, MEs.mut, MO.mut, ME.path, bfn, binop, cmpop, T.lst?, T.leaves, cc_run, cc_io, wipe, Option.bind_eq_bind, Option.bind_some, Option.map_some, Option.pure_def, List.getD_cons_zero, List.getD_cons_succ, List.set_cons_zero, List.set_cons_succ, List.map_cons, List.map_nil, List.mapM_cons, List.mapM_nil, List.length_cons, List.length_nil, List.cons_append, List.nil_append, Bool.or_false, Bool.false_or, Bool.or_true, Bool.true_or, Bool.and_true, Bool.true_and, Bool.and_false, Bool.false_and, Bool.not_true, Bool.not_false, Bool.false_eq_true, if_true, if_false, reduceIte, List.replicate_succ, List.replicate_zero, List.zip_cons_cons, List.zip_nil_right, List.foldlM_cons, List.foldlM_nil, List.nodup_nil, enc, e, io_is_out, D.isStr]) <;> rfl) ?_
      have hz : ds.zipIdx.length = ds.length := by simp
      have q1 : ev (CC T0 W (n - 1)) false c_names_by_1 [some (.leaf (.tup [.int h, .tup (ds.map (encD k))])), some (.leaf (.str nm)), some (.leaf (.int m)), none, none, none, none, none] =
          some (.node (ds.zipIdx.map fun (p : (Int × Int × Rm k) × Nat) => .leaf (.tup [enc k p.1.2.2, .int (lf h ds.length p.2 m)])), [some (.leaf (.tup [.int h, .tup (ds.map (encD k))])), some (.leaf (.str nm)), some (.leaf (.int m)), none, none, none, none, none]) := by
        refine evl_compN (fun (p : (Int × Int × Rm k) × Nat) => D.tup [.int p.2, encD k p.1]) _ (by (conv => lhs; simp [exs, ex, ev, evs, evo, eva, evi, evc, Tg.put, leaf?, bl?, int?, node?, tpl?, lsts?, T.isLeaf, T.frz, T.frzs, argOk, ioSlots, ioTs, ioPut, ME.mut, MEs.mut, MO.mut, ME.path, bfn, binop, cmpop, T.lst?, T.leaves, cc_run, cc_io, wipe, Option.bind_eq_bind, Option.bind_some, Option.map_some, Option.pure_def, List.getD_cons_zero, List.getD_cons_succ, List.set_cons_zero, List.set_cons_succ, List.map_cons, List.map_nil, List.mapM_cons, List.mapM_nil, List.length_cons, List.length_nil, List.cons_append, List.nil_append, Bool.or_false, Bool.false_or, Bool.or_true, Bool.true_or, Bool.and_true, Bool.true_and, Bool.and_false, Bool.false_and, Bool.not_true, Bool.not_false, Bool.false_eq_true, if_true, if_false, reduceIte, List.replicate_succ, List.replicate_zero, List.zip_cons_cons, List.zip_nil_right, List.foldlM_cons, List.foldlM_nil, List.nodup_nil, index, atI, ixN, enums_zip]) <;> rfl) rfl (by rw [hz]; unfold lim; omega) fun p hp' => ?_
        have fl := left_by_run (W := W) (n := n - 1) (h := h) (i := p.2) (m := m) (ds := ds.map (encD k)) (by omega) (by simpa using hl) (by simpa using hl4)
        rw [List.length_map] at fl
        exact ⟨_, (by (conv => lhs; simp [exs, ex, ev, evs, evo, eva, evi, evc, Tg.put, leaf?, bl?, int?, node?, tpl?, lsts?, T.isLeaf, T.frz, T.frzs, argOk, ioSlots, ioTs, ioPut, ME.mut, MEs.mut, MO.mut, ME.path, bfn, binop, cmpop, T.lst?, T.leaves, cc_run, cc_io, wipe, Option.bind_eq_bind, Option.bind_some, Option.map_some, Option.pure_def, List.getD_cons_zero, List.getD_cons_succ, List.set_cons_zero, List.set_cons_succ, List.map_cons, List.map_nil, List.mapM_cons, List.mapM_nil, List.length_cons, List.length_nil, List.cons_append, List.nil_append, Bool.or_false, Bool.false_or, Bool.or_true, Bool.true_or, Bool.and_true, Bool.true_and, Bool.and_false, Bool.false_and, Bool.not_true, Bool.not_false, Bool.false_eq_true, if_true, if_false, reduceIte, List.replicate_succ, List.replicate_zero, List.zip_cons_cons, List.zip_nil_right, List.foldlM_cons, List.foldlM_nil, List.nodup_nil]) <;> rfl), (by (conv => lhs; simp [exs, ex, ev, evs, evo, eva, evi, evc, Tg.put, leaf?, bl?, int?, node?, tpl?, lsts?, T.isLeaf, T.frz, T.frzs, argOk, ioSlots, ioTs, ioPut, ME.mut, MEs.mut, MO.mut, ME.path, bfn, binop, cmpop, T.lst?, T.leaves, cc_run, cc_io, wipe, Option.bind_eq_bind, Option.bind_some, Option.map_some, Option.pure_def, List.getD_cons_zero, List.getD_cons_succ, List.set_cons_zero, List.set_cons_succ, List.map_cons, List.map_nil, List.mapM_cons, List.mapM_nil, List.length_cons, List.length_nil, List.cons_append, List.nil_append, Bool.or_false, Bool.false_or, Bool.or_true, Bool.true_or, Bool.and_true, Bool.true_and, Bool.and_false, Bool.false_and, Bool.not_true, Bool.not_false, Bool.false_eq_true, if_true, if_false, reduceIte, List.replicate_succ, List.replicate_zero, List.zip_cons_cons, List.zip_nil_right, List.foldlM_cons, List.foldlM_nil, List.nodup_nil, io_left_by, fl, index, atI, ixN, lim]) <;> rfl), (by (conv => lhs; simp [exs, ex, ev, evs, evo, eva, evi, evc, Tg.put, leaf?, bl?, int?, node?, tpl?, lsts?, T.isLeaf, T.frz, T.frzs, argOk, ioSlots, ioTs, ioPut, ME.mut, MEs.mut, MO.mut, ME.path, bfn, binop, cmpop, T.lst?, T.leaves, cc_run, cc_io, wipe, Option.bind_eq_bind, Option.bind_some, Option.map_some, Option.pure_def, List.getD_cons_zero, List.getD_cons_succ, List.set_cons_zero, List.set_cons_succ, List.map_cons, List.map_nil, List.mapM_cons, List.mapM_nil, List.length_cons, List.length_nil, List.cons_append, List.nil_append, Bool.or_false, Bool.false_or, Bool.or_true, Bool.true_or, Bool.and_true, Bool.true_and, Bool.and_false, Bool.false_and, Bool.not_true, Bool.not_false, Bool.false_eq_true, if_true, if_false, reduceIte, List.replicate_succ, List.replicate_zero, List.zip_cons_cons, List.zip_nil_right, List.foldlM_cons, List.foldlM_nil, List.nodup_nil]) <;> rfl)⟩
      refine ends_nx (by (conv => lhs; simp [exs, ex, ev, evs, evo, eva, evi, evc, Tg.put, leaf?, bl?, int?, node?, tpl?, lsts?, T.isLeaf, T.frz, T.frzs, argOk, ioSlots, ioTs, ioPut, ME.mut, MEs.mut, MO.mut, ME.path, bfn, binop, cmpop, T.lst?, T.leaves, cc_run, cc_io, wipe, Option.bind_eq_bind, Option.bind_some, Option.map_some, Option.pure_def, List.getD_cons_zero, List.getD_cons_succ, List.set_cons_zero, List.set_cons_succ, List.map_cons, List.map_nil, List.mapM_cons, List.mapM_nil, List.length_cons, List.length_nil, List.cons_append, List.nil_append, Bool.or_false, Bool.false_or, Bool.or_true, Bool.true_or, Bool.and_true, Bool.true_and, Bool.and_false, Bool.false_and, Bool.not_true, Bool.not_false, Bool.false_eq_true, if_true, if_false, reduceIte, List.replicate_succ, List.replicate_zero, List.zip_cons_cons, List.zip_nil_right, List.foldlM_cons, List.foldlM_nil, List.nodup_nil, q1, frz_fn]) <;> rfl) ?_
      obtain ⟨xs, dd, is, q2, h1, h2, h3⟩ : ∃ xs dd is, ev (CC T0 W (n - 1)) true c_names_by_0 [some (.leaf (.tup [.int h, .tup (ds.map (encD k))])), some (.leaf (.str nm)), some (.leaf (.int m)), some (.leaf (.lst (ds.zipIdx.map fun (p : (Int × Int × Rm k) × Nat) => .tup [enc k p.1.2.2, .int (lf h ds.length p.2 m)]))), none, none, none, none] =
          some (.node xs, [some (.leaf (.tup [.int h, .tup (ds.map (encD k))])), some (.leaf (.str nm)), some (.leaf (.int m)), some (.leaf (.lst (ds.zipIdx.map fun (p : (Int × Int × Rm k) × Nat) => .tup [enc k p.1.2.2, .int (lf h ds.length p.2 m)]))), none, none, none, none]) ∧
          T.leaves xs = some dd ∧ D.ints dd = some is ∧ is.sum = nb nm (k + 1) (Sum.inr (h, ds)) m := by
        refine ⟨_, _, _, evl_comp (fun (p : (Int × Int × Rm k) × Nat) => D.tup [enc k p.1.2.2, .int (lf h ds.length p.2 m)]) (fun (p : (Int × Int × Rm k) × Nat) => decide (0 < lf h ds.length p.2 m)) (fun (p : (Int × Int × Rm k) × Nat) => .leaf (.int (nb nm k p.1.2.2 (lf h ds.length p.2 m)))) (by (conv => lhs; simp [exs, ex, ev, evs, evo, eva, evi, evc, Tg.put, leaf?, bl?, int?, node?, tpl?, lsts?, T.isLeaf, T.frz, T.frzs, argOk, ioSlots, ioTs, ioPut, ME.mut, MEs.mut, MO.mut, ME.path, bfn, binop, cmpop, T.lst?, T.leaves, cc_run, cc_io, wipe, Option.bind_eq_bind, Option.bind_some, Option.map_some, Option.pure_def, List.getD_cons_zero, List.getD_cons_succ, List.set_cons_zero, List.set_cons_succ, List.map_cons, List.map_nil, List.mapM_cons, List.mapM_nil, List.length_cons, List.length_nil, List.cons_append, List.nil_append, Bool.or_false, Bool.false_or, Bool.or_true, Bool.true_or, Bool.and_true, Bool.true_and, Bool.and_false, Bool.false_and, Bool.not_true, Bool.not_false, Bool.false_eq_true, if_true, if_false, reduceIte, List.replicate_succ, List.replicate_zero, List.zip_cons_cons, List.zip_nil_right, List.foldlM_cons, List.foldlM_nil, List.nodup_nil]) <;> rfl) rfl (by rw [hz]; unfold lim; omega) (fun p hp' => ?_), leaves_fn _ _, ints_map _ _, ?_⟩
        · have hx : p.1 ∈ ds := by
            have := List.mem_zipIdx hp'
            simp at this
            rw [this.2]; exact List.getElem_mem _
          have f := ih (n - 1) p.1.2.2 (lf h ds.length p.2 m) (by omega) (hd _ hx).2
          exact ⟨_, (by (conv => lhs; simp [exs, ex, ev, evs, evo, eva, evi, evc, Tg.put, leaf?, bl?, int?, node?, tpl?, lsts?, T.isLeaf, T.frz, T.frzs, argOk, ioSlots, ioTs, ioPut, ME.mut, MEs.mut, MO.mut, ME.path, bfn, binop, cmpop, T.lst?, T.leaves, cc_run, cc_io, wipe, Option.bind_eq_bind, Option.bind_some, Option.map_some, Option.pure_def, List.getD_cons_zero, List.getD_cons_succ, List.set_cons_zero, List.set_cons_succ, List.map_cons, List.map_nil, List.mapM_cons, List.mapM_nil, List.length_cons, List.length_nil, List.cons_append, List.nil_append, Bool.or_false, Bool.false_or, Bool.or_true, Bool.true_or, Bool.and_true, Bool.true_and, Bool.and_false, Bool.false_and, Bool.not_true, Bool.not_false, Bool.false_eq_true, if_true, if_false, reduceIte, List.replicate_succ, List.replicate_zero, List.zip_cons_cons, List.zip_nil_right, List.foldlM_cons, List.foldlM_nil, List.nodup_nil]) <;> rfl), (by (conv => lhs; simp [exs, ex, ev, evs, evo, eva, evi, evc, Tg.put, leaf?, bl?, int?, node?, tpl?, lsts?, T.isLeaf, T.frz, T.frzs, argOk, ioSlots, ioTs, ioPut, ME.mut, MEs.mut, MO.mut, ME.path, bfn, binop, cmpop, T.lst?, T.leaves, cc_run, cc_io, wipe, Option.bind_eq_bind, Option.bind_some, Option.map_some, Option.pure_def, List.getD_cons_zero, List.getD_cons_succ, List.set_cons_zero, List.set_cons_succ, List.map_cons, List.map_nil, List.mapM_cons, List.mapM_nil, List.length_cons, List.length_nil, List.cons_append, List.nil_append, Bool.or_false, Bool.false_or, Bool.or_true, Bool.true_or, Bool.and_true, Bool.true_and, Bool.and_false, Bool.false_and, Bool.not_true, Bool.not_false, Bool.false_eq_true, if_true, if_false, reduceIte, List.replicate_succ, List.replicate_zero, List.zip_cons_cons, List.zip_nil_right, List.foldlM_cons, List.foldlM_nil, List.nodup_nil]) <;> rfl), fun _ => (by (conv => lhs; simp [exs, ex, ev, evs, evo, eva, evi, evc, Tg.put, leaf?, bl?, int?, node?, tpl?, lsts?, T.isLeaf, T.frz, T.frzs, argOk, ioSlots, ioTs, ioPut, ME.mut, MEs.mut, MO.mut, ME.path, bfn, binop, cmpop, T.lst?, T.leaves, cc_run, cc_io, wipe, Option.bind_eq_bind, Option.bind_some, Option.map_some, Option.pure_def, List.getD_cons_zero, List.getD_cons_succ, List.set_cons_zero, List.set_cons_succ, List.map_cons, List.map_nil, List.mapM_cons, List.mapM_nil, List.length_cons, List.length_nil, List.cons_append, List.nil_append, Bool.or_false, Bool.false_or, Bool.or_true, Bool.true_or, Bool.and_true, Bool.true_and, Bool.and_false, Bool.false_and, Bool.not_true, Bool.not_false, Bool.false_eq_true, if_true, if_false, reduceIte, List.replicate_succ, List.replicate_zero, List.zip_cons_cons, List.zip_nil_right, List.foldlM_cons, List.foldlM_nil, List.nodup_nil, io_names_by, f]) <;> rfl), (by (conv => lhs; simp [exs, ex, ev, evs, evo, eva, evi, evc, Tg.put, leaf?, bl?, int?, node?, tpl?, lsts?, T.isLeaf, T.frz, T.frzs, argOk, ioSlots, ioTs, ioPut, ME.mut, MEs.mut, MO.mut, ME.path, bfn, binop, cmpop, T.lst?, T.leaves, cc_run, cc_io, wipe, Option.bind_eq_bind, Option.bind_some, Option.map_some, Option.pure_def, List.getD_cons_zero, List.getD_cons_succ, List.set_cons_zero, List.set_cons_succ, List.map_cons, List.map_nil, List.mapM_cons, List.mapM_nil, List.length_cons, List.length_nil, List.cons_append, List.nil_append, Bool.or_false, Bool.false_or, Bool.or_true, Bool.true_or, Bool.and_true, Bool.true_and, Bool.and_false, Bool.false_and, Bool.not_true, Bool.not_false, Bool.false_eq_true, if_true, if_false, reduceIte, List.replicate_succ, List.replicate_zero, List.zip_cons_cons, List.zip_nil_right, List.foldlM_cons, List.foldlM_nil, List.nodup_nil]) <;> rfl)⟩
        · rw [nbL_eq]; rfl
      exact ends_rt (by (conv => lhs; simp [exs, ex, ev, evs, evo, eva, evi, evc, Tg.put, leaf?, bl?, int?, node?, tpl?, lsts?, T.isLeaf, T.frz, T.frzs, argOk, ioSlots, ioTs, ioPut, ME.mut, MEs.mut, MO.mut, ME.path, bfn, binop, cmpop, T.lst?, T.leaves, cc_run, cc_io, wipe, Option.bind_eq_bind, Option.bind_some, Option.map_some, Option.pure_def, List.getD_cons_zero, List.getD_cons_succ, List.set_cons_zero, List.set_cons_succ, List.map_cons, List.map_nil, List.mapM_cons, List.mapM_nil, List.length_cons, List.length_nil, List.cons_append, List.nil_append, Bool.or_false, Bool.false_or, Bool.or_true, Bool.true_or, Bool.and_true, Bool.true_and, Bool.and_false, Bool.false_and, Bool.not_true, Bool.not_false, Bool.false_eq_true, if_true, if_false, reduceIte, List.replicate_succ, List.replicate_zero, List.zip_cons_cons, List.zip_nil_right, List.foldlM_cons, List.foldlM_nil, List.nodup_nil, q2, h1, h2, h3, c_names_by_0_m, c_names_by_0_p]) <;> rfl) rfl
end
end PD

/-! names_in, clean, the greatest and the least both, leavings_in, round_of, mean, run. -/
namespace PD
open PySem

/-- all doors' needs and standings by a rule -/
def mp (f : Int → Int → Int × Int) : (k : Nat) → Rm k → Rm k
  | 0, s => s
  | _ + 1, Sum.inl s => Sum.inl s
  | k + 1, Sum.inr (h, ds) => Sum.inr (h, ds.map fun x => ((f x.1 x.2.1).1, (f x.1 x.2.1).2, mp f k x.2.2))
def cl : (k : Nat) → Rm k → Rm k := mp fun n _ => (n, 0)
theorem enc_mp {f : Int → Int → Int × Int} {k : Nat} {h : Int} {ds : List (Int × Int × Rm k)} : enc (k + 1) (mp f (k + 1) (Sum.inr (h, ds))) = .tup [.int h, .tup (ds.map fun x => .tup [.int (f x.1 x.2.1).1, .int (f x.1 x.2.1).2, enc k (mp f k x.2.2)])] := by
  simp [mp, enc]
def lb (a b : Nat) : Nat := a / Nat.gcd a b * b
def li : (k : Nat) → Rm k → Nat
  | 0, _ => 1
  | _ + 1, Sum.inl _ => 1
  | k + 1, Sum.inr (_, ds) => ds.foldl (fun a x => lb a (li k x.2.2)) 1 * ds.length
theorem lb_le {a b : Nat} : lb a b ≤ a * b := Nat.mul_le_mul_right _ (Nat.div_le_self _ _)
theorem lb_pos {a b : Nat} (ha : 0 < a) (hb : 0 < b) : 0 < lb a b := Nat.mul_pos (Nat.div_pos (Nat.le_of_dvd ha (Nat.gcd_dvd_left a b)) (Nat.gcd_pos_of_pos_left b ha)) hb
theorem le_four : ∀ n : Nat, n ≤ 4 ^ n
  | 0 => Nat.zero_le _
  | n + 1 => by have := le_four n; have := Nat.pow_pos (n := n) (show 0 < 4 by omega); rw [Nat.pow_succ]; omega
theorem fold_lb {α : Type} (g : α → Nat) (e : α → Nat) : ∀ (xs : List α) (a : Nat), 0 < a → (∀ x ∈ xs, 0 < g x ∧ g x ≤ 4 ^ e x) → 0 < xs.foldl (fun a x => lb a (g x)) a ∧ xs.foldl (fun a x => lb a (g x)) a ≤ a * 4 ^ (xs.map e).sum
  | [], a, ha, _ => by simp [ha]
  | x :: xs, a, ha, h => by
    obtain ⟨h1, h2⟩ := h x List.mem_cons_self
    obtain ⟨h3, h4⟩ := fold_lb g e xs (lb a (g x)) (lb_pos ha h1) fun y hy => h y (List.mem_cons_of_mem _ hy)
    refine ⟨h3, Nat.le_trans h4 ?_⟩
    rw [List.map_cons, List.sum_cons, Nat.pow_add, ← Nat.mul_assoc]
    exact Nat.mul_le_mul_right _ (Nat.le_trans lb_le (Nat.mul_le_mul_left _ h2))
theorem le_sum {α : Type} (f : α → Nat) {x : α} : ∀ {xs : List α}, x ∈ xs → f x ≤ (xs.map f).sum
  | y :: ys, h => by
    rw [List.map_cons, List.sum_cons]
    rcases List.mem_cons.mp h with rfl | h
    · omega
    · have := le_sum f h; omega
theorem sum_succ {α : Type} (f : α → Nat) : ∀ xs : List α, (xs.map fun x => 1 + f x).sum = xs.length + (xs.map f).sum
  | [] => rfl
  | x :: xs => by simp [sum_succ f xs]; omega
theorem li_le : ∀ (k : Nat) (r : Rm k), Fit k r → 0 < li k r ∧ li k r ≤ 4 ^ nd k r
  | 0, _, _ => by simp [li, nd]
  | _ + 1, Sum.inl _, _ => by simp [li, nd]
  | k + 1, Sum.inr (h, ds), ⟨a, b, _, _, e⟩ => by
    obtain ⟨h1, h2⟩ := fold_lb (fun x : Int × Int × Rm k => li k x.2.2) (fun x => nd k x.2.2) ds 1 (by omega) fun x hx => li_le k _ (e x hx).2.2.2.2
    refine ⟨Nat.mul_pos h1 a, ?_⟩
    show _ ≤ 4 ^ (ds.map fun x => 1 + nd k x.2.2).sum
    rw [sum_succ, Nat.pow_add, Nat.mul_comm (4 ^ ds.length)]
    rw [Nat.one_mul] at h2
    exact Nat.mul_le_mul h2 (le_four _)

section
variable {W n : Nat}
theorem io_clean : ((T0 f_clean).map Def.io).getD [] = [false] := rfl
theorem io_greatest_both : ((T0 f_greatest_both).map Def.io).getD [] = [false, false] := rfl
theorem io_least_both : ((T0 f_least_both).map Def.io).getD [] = [false, false] := rfl
theorem io_leavings_in : ((T0 f_leavings_in).map Def.io).getD [] = [false] := rfl
theorem io_round_of : ((T0 f_round_of).map Def.io).getD [] = [false] := rfl
theorem io_mean : ((T0 f_mean).map Def.io).getD [] = [false] := rfl

theorem clean_run {W : Nat} : ∀ (k n : Nat) (r : Rm k), k + 1 < n → Fit k r → callD T0 W n f_clean [.leaf (enc k r)] = some (.leaf (enc k (cl k r)), []) := by
  intro k
  induction k with
  | zero =>
    intro n r hn _
    refine call_ends (by omega) (show T0 f_clean = some b_clean from rfl) rfl rfl ?_
    have e := is_out_run (W := W) (n := n - 1) (d := .str r) (by omega)
    exact ends_tt (by (conv => lhs; simp [exs, ex, ev, evs, evo, eva, evi, evc, Tg.put, leaf?, bl?, int?, node?, tpl?, lsts?, T.isLeaf, T.frz, T.frzs, argOk, ioSlots, ioTs, ioPut, ME.mut, MEs.mut, MO.mut, ME.path, bfn, binop, cmpop, T.lst?, T.leaves, cc_run, cc_io, wipe, Option.bind_eq_bind, Option.bind_some, Option.map_some, Option.pure_def, List.getD_cons_zero, List.getD_cons_succ, List.set_cons_zero, List.set_cons_succ, List.map_cons, List.map_nil, List.mapM_cons, List.mapM_nil, List.length_cons, List.length_nil, List.cons_append, List.nil_append, Bool.or_false, Bool.false_or, Bool.or_true, Bool.true_or, Bool.and_true, Bool.true_and, Bool.and_false, Bool.false_and, Bool.not_true, Bool.not_false, Bool.false_eq_true, if_true, if_false, reduceIte, List.replicate_succ, List.replicate_zero, List.zip_cons_cons, List.zip_nil_right, List.foldlM_cons, List.foldlM_nil, List.nodup_nil, enc, e, io_is_out, D.isStr]) <;> rfl) (ends_rt (by (conv => lhs; simp [exs, ex, ev, evs, evo, eva, evi, evc, Tg.put, leaf?, bl?, int?, node?, tpl?, lsts?, T.isLeaf, T.frz, T.frzs, argOk, ioSlots, ioTs, ioPut, ME.mut, MEs.mut, MO.mut, ME.path, bfn, binop, cmpop, T.lst?, T.leaves, cc_run, cc_io, wipe, Option.bind_eq_bind, Option.bind_some, Option.map_some, Option.pure_def, List.getD_cons_zero, List.getD_cons_succ, List.set_cons_zero, List.set_cons_succ, List.map_cons, List.map_nil, List.mapM_cons, List.mapM_nil, List.length_cons, List.length_nil, List.cons_append, List.nil_append, Bool.or_false, Bool.false_or, Bool.or_true, Bool.true_or, Bool.and_true, Bool.true_and, Bool.and_false, Bool.false_and, Bool.not_true, Bool.not_false, Bool.false_eq_true, if_true, if_false, reduceIte, List.replicate_succ, List.replicate_zero, List.zip_cons_cons, List.zip_nil_right, List.foldlM_cons, List.foldlM_nil, List.nodup_nil]) <;> rfl) rfl)
  | succ k ih =>
    intro n r hn hf
    refine call_ends (by omega) (show T0 f_clean = some b_clean from rfl) rfl rfl ?_
    cases r with
    | inl s =>
      have e := is_out_run (W := W) (n := n - 1) (d := .str s) (by omega)
      exact ends_tt (by (conv => lhs; simp [exs, ex, ev, evs, evo, eva, evi, evc, Tg.put, leaf?, bl?, int?, node?, tpl?, lsts?, T.isLeaf, T.frz, T.frzs, argOk, ioSlots, ioTs, ioPut, ME.mut, MEs.mut, MO.mut, ME.path, bfn, binop, cmpop, T.lst?, T.leaves, cc_run, cc_io, wipe, Option.bind_eq_bind, Option.bind_some, Option.map_some, Option.pure_def, List.getD_cons_zero, List.getD_cons_succ, List.set_cons_zero, List.set_cons_succ, List.map_cons, List.map_nil, List.mapM_cons, List.mapM_nil, List.length_cons, List.length_nil, List.cons_append, List.nil_append, Bool.or_false, Bool.false_or, Bool.or_true, Bool.true_or, Bool.and_true, Bool.true_and, Bool.and_false, Bool.false_and, Bool.not_true, Bool.not_false, Bool.false_eq_true, if_true, if_false, reduceIte, List.replicate_succ, List.replicate_zero, List.zip_cons_cons, List.zip_nil_right, List.foldlM_cons, List.foldlM_nil, List.nodup_nil, enc, e, io_is_out, D.isStr]) <;> rfl) (ends_rt (by (conv => lhs; simp [exs, ex, ev, evs, evo, eva, evi, evc, Tg.put, leaf?, bl?, int?, node?, tpl?, lsts?, T.isLeaf, T.frz, T.frzs, argOk, ioSlots, ioTs, ioPut, ME.mut, MEs.mut, MO.mut, ME.path, bfn, binop, cmpop, T.lst?, T.leaves, cc_run, cc_io, wipe, Option.bind_eq_bind, Option.bind_some, Option.map_some, Option.pure_def, List.getD_cons_zero, List.getD_cons_succ, List.set_cons_zero, List.set_cons_succ, List.map_cons, List.map_nil, List.mapM_cons, List.mapM_nil, List.length_cons, List.length_nil, List.cons_append, List.nil_append, Bool.or_false, Bool.false_or, Bool.or_true, Bool.true_or, Bool.and_true, Bool.true_and, Bool.and_false, Bool.false_and, Bool.not_true, Bool.not_false, Bool.false_eq_true, if_true, if_false, reduceIte, List.replicate_succ, List.replicate_zero, List.zip_cons_cons, List.zip_nil_right, List.foldlM_cons, List.foldlM_nil, List.nodup_nil]) <;> rfl) rfl)
    | inr q =>
      obtain ⟨h, ds⟩ := q
      obtain ⟨hl, hl4, c0, c1, hd⟩ := hf
      have e := is_out_run (W := W) (n := n - 1) (d := .tup [.int h, .tup (ds.map (encD k))]) (by omega)
      refine ends_ff0 (by (conv => lhs; simp [exs, ex, ev, evs, evo, eva, evi, evc, Tg.put, leaf?, bl?, int?, node?, tpl?, lsts?, T.isLeaf, T.frz, T.frzs, argOk, ioSlots, ioTs, ioPut, ME.mut, MEs.mut, MO.mut, ME.path, bfn, binop, cmpop, T.lst?, T.leaves, cc_run, cc_io, wipe, Option.bind_eq_bind, Option.bind_some, Option.map_some, Option.pure_def, List.getD_cons_zero, List.getD_cons_succ, List.set_cons_zero, List.set_cons_succ, List.map_cons, List.map_nil, List.mapM_cons, List.mapM_nil, List.length_cons, List.length_nil, List.cons_append, List.nil_append, Bool.or_false, Bool.false_or, Bool.or_true, Bool.true_or, Bool.and_true, Bool.true_and, Bool.and_false, Bool.false_and, Bool.not_true, Bool.not_false, Bool.false_eq_true, if_true, if_false, reduceIte, List.replicate_succ, List.replicate_zero, List.zip_cons_cons, List.zip_nil_right, List.foldlM_cons, List.foldlM_nil, List.nodup_nil, enc, e, io_is_out, D.isStr]) <;> rfl) ?_
      obtain ⟨xs, es, q, h1, h2⟩ : ∃ xs es, ev (CC T0 W (n - 1)) true c_clean_0 [some (.leaf (.tup [.int h, .tup (ds.map (encD k))])), none, none, none] = some (.node xs, [some (.leaf (.tup [.int h, .tup (ds.map (encD k))])), none, none, none]) ∧ T.leaves xs = some es ∧
          D.tup [.int h, .tup es] = enc (k + 1) (cl (k + 1) (Sum.inr (h, ds))) := by
        refine ⟨_, _, evl_compN (encD k) (fun x => .leaf (.tup [.int x.1, .int 0, enc k (cl k x.2.2)])) (by (conv => lhs; simp [exs, ex, ev, evs, evo, eva, evi, evc, Tg.put, leaf?, bl?, int?, node?, tpl?, lsts?, T.isLeaf, T.frz, T.frzs, argOk, ioSlots, ioTs, ioPut, ME.mut, MEs.mut, MO.mut, ME.path, bfn, binop, cmpop, T.lst?, T.leaves, cc_run, cc_io, wipe, Option.bind_eq_bind, Option.bind_some, Option.map_some, Option.pure_def, List.getD_cons_zero, List.getD_cons_succ, List.set_cons_zero, List.set_cons_succ, List.map_cons, List.map_nil, List.mapM_cons, List.mapM_nil, List.length_cons, List.length_nil, List.cons_append, List.nil_append, Bool.or_false, Bool.false_or, Bool.or_true, Bool.true_or, Bool.and_true, Bool.true_and, Bool.and_false, Bool.false_and, Bool.not_true, Bool.not_false, Bool.false_eq_true, if_true, if_false, reduceIte, List.replicate_succ, List.replicate_zero, List.zip_cons_cons, List.zip_nil_right, List.foldlM_cons, List.foldlM_nil, List.nodup_nil, index, atI, ixN]) <;> rfl) rfl (by unfold lim; omega) (fun x hx => ?_), leaves_fn _ _, ?_⟩
        · have f := ih (n - 1) x.2.2 (by omega) (hd x hx).2.2.2.2
          exact ⟨_, (by (conv => lhs; simp [exs, ex, ev, evs, evo, eva, evi, evc, Tg.put, leaf?, bl?, int?, node?, tpl?, lsts?, T.isLeaf, T.frz, T.frzs, argOk, ioSlots, ioTs, ioPut, ME.mut, MEs.mut, MO.mut, ME.path, bfn, binop, cmpop, T.lst?, T.leaves, cc_run, cc_io, wipe, Option.bind_eq_bind, Option.bind_some, Option.map_some, Option.pure_def, List.getD_cons_zero, List.getD_cons_succ, List.set_cons_zero, List.set_cons_succ, List.map_cons, List.map_nil, List.mapM_cons, List.mapM_nil, List.length_cons, List.length_nil, List.cons_append, List.nil_append, Bool.or_false, Bool.false_or, Bool.or_true, Bool.true_or, Bool.and_true, Bool.true_and, Bool.and_false, Bool.false_and, Bool.not_true, Bool.not_false, Bool.false_eq_true, if_true, if_false, reduceIte, List.replicate_succ, List.replicate_zero, List.zip_cons_cons, List.zip_nil_right, List.foldlM_cons, List.foldlM_nil, List.nodup_nil]) <;> rfl), (by (conv => lhs; simp [exs, ex, ev, evs, evo, eva, evi, evc, Tg.put, leaf?, bl?, int?, node?, tpl?, lsts?, T.isLeaf, T.frz, T.frzs, argOk, ioSlots, ioTs, ioPut, ME.mut, MEs.mut, MO.mut, ME.path, bfn, binop, cmpop, T.lst?, T.leaves, cc_run, cc_io, wipe, Option.bind_eq_bind, Option.bind_some, Option.map_some, Option.pure_def, List.getD_cons_zero, List.getD_cons_succ, List.set_cons_zero, List.set_cons_succ, List.map_cons, List.map_nil, List.mapM_cons, List.mapM_nil, List.length_cons, List.length_nil, List.cons_append, List.nil_append, Bool.or_false, Bool.false_or, Bool.or_true, Bool.true_or, Bool.and_true, Bool.true_and, Bool.and_false, Bool.false_and, Bool.not_true, Bool.not_false, Bool.false_eq_true, if_true, if_false, reduceIte, List.replicate_succ, List.replicate_zero, List.zip_cons_cons, List.zip_nil_right, List.foldlM_cons, List.foldlM_nil, List.nodup_nil, f, io_clean, lim]) <;> rfl), (by (conv => lhs; simp [exs, ex, ev, evs, evo, eva, evi, evc, Tg.put, leaf?, bl?, int?, node?, tpl?, lsts?, T.isLeaf, T.frz, T.frzs, argOk, ioSlots, ioTs, ioPut, ME.mut, MEs.mut, MO.mut, ME.path, bfn, binop, cmpop, T.lst?, T.leaves, cc_run, cc_io, wipe, Option.bind_eq_bind, Option.bind_some, Option.map_some, Option.pure_def, List.getD_cons_zero, List.getD_cons_succ, List.set_cons_zero, List.set_cons_succ, List.map_cons, List.map_nil, List.mapM_cons, List.mapM_nil, List.length_cons, List.length_nil, List.cons_append, List.nil_append, Bool.or_false, Bool.false_or, Bool.or_true, Bool.true_or, Bool.and_true, Bool.true_and, Bool.and_false, Bool.false_and, Bool.not_true, Bool.not_false, Bool.false_eq_true, if_true, if_false, reduceIte, List.replicate_succ, List.replicate_zero, List.zip_cons_cons, List.zip_nil_right, List.foldlM_cons, List.foldlM_nil, List.nodup_nil]) <;> rfl)⟩
        · rw [cl, enc_mp]
      exact ends_rt (by (conv => lhs; simp [exs, ex, ev, evs, evo, eva, evi, evc, Tg.put, leaf?, bl?, int?, node?, tpl?, lsts?, T.isLeaf, T.frz, T.frzs, argOk, ioSlots, ioTs, ioPut, ME.mut, MEs.mut, MO.mut, ME.path, bfn, binop, cmpop, T.lst?, T.leaves, cc_run, cc_io, wipe, Option.bind_eq_bind, Option.bind_some, Option.map_some, Option.pure_def, List.getD_cons_zero, List.getD_cons_succ, List.set_cons_zero, List.set_cons_succ, List.map_cons, List.map_nil, List.mapM_cons, List.mapM_nil, List.length_cons, List.length_nil, List.cons_append, List.nil_append, Bool.or_false, Bool.false_or, Bool.or_true, Bool.true_or, Bool.and_true, Bool.true_and, Bool.and_false, Bool.false_and, Bool.not_true, Bool.not_false, Bool.false_eq_true, if_true, if_false, reduceIte, List.replicate_succ, List.replicate_zero, List.zip_cons_cons, List.zip_nil_right, List.foldlM_cons, List.foldlM_nil, List.nodup_nil, q, h1, lim, index, atI, ixN, c_clean_0_m, c_clean_0_p]) <;> rfl) (by rw [rx_rt, ← h2])

theorem greatest_both_run {a b : Nat} (hn : 0 < n) (hW : a + 2 < W) : callD T0 W n f_greatest_both [.leaf (.int a), .leaf (.int b)] = some (.leaf (.int (Nat.gcd a b)), []) := by
  refine call_ends hn (show T0 f_greatest_both = some b_greatest_both from rfl) rfl rfl ?_
  refine ends_whl (fun i env => ∃ x y : Nat, i = (if y ≤ x then y else x + 1) ∧ env = [some (.leaf (.int x)), some (.leaf (.int y))] ∧ Nat.gcd x y = Nat.gcd a b) (if b ≤ a then b else a + 1) (by split <;> omega) ⟨a, b, rfl, rfl, rfl⟩ ?_
  rintro i env ⟨x, y, rfl, rfl, e⟩
  by_cases c : y = 0
  · subst c
    refine ⟨false, _, (by (conv => lhs; simp [exs, ex, ev, evs, evo, eva, evi, evc, Tg.put, leaf?, bl?, int?, node?, tpl?, lsts?, T.isLeaf, T.frz, T.frzs, argOk, ioSlots, ioTs, ioPut, ME.mut, MEs.mut, MO.mut, ME.path, bfn, binop, cmpop, T.lst?, T.leaves, cc_run, cc_io, wipe, Option.bind_eq_bind, Option.bind_some, Option.map_some, Option.pure_def, List.getD_cons_zero, List.getD_cons_succ, List.set_cons_zero, List.set_cons_succ, List.map_cons, List.map_nil, List.mapM_cons, List.mapM_nil, List.length_cons, List.length_nil, List.cons_append, List.nil_append, Bool.or_false, Bool.false_or, Bool.or_true, Bool.true_or, Bool.and_true, Bool.true_and, Bool.and_false, Bool.false_and, Bool.not_true, Bool.not_false, Bool.false_eq_true, if_true, if_false, reduceIte, List.replicate_succ, List.replicate_zero, List.zip_cons_cons, List.zip_nil_right, List.foldlM_cons, List.foldlM_nil, List.nodup_nil, D.plain, D.depth, eqb_int]) <;> rfl), (fun z => by cases z), fun _ => ends_rt (by (conv => lhs; simp [exs, ex, ev, evs, evo, eva, evi, evc, Tg.put, leaf?, bl?, int?, node?, tpl?, lsts?, T.isLeaf, T.frz, T.frzs, argOk, ioSlots, ioTs, ioPut, ME.mut, MEs.mut, MO.mut, ME.path, bfn, binop, cmpop, T.lst?, T.leaves, cc_run, cc_io, wipe, Option.bind_eq_bind, Option.bind_some, Option.map_some, Option.pure_def, List.getD_cons_zero, List.getD_cons_succ, List.set_cons_zero, List.set_cons_succ, List.map_cons, List.map_nil, List.mapM_cons, List.mapM_nil, List.length_cons, List.length_nil, List.cons_append, List.nil_append, Bool.or_false, Bool.false_or, Bool.or_true, Bool.true_or, Bool.and_true, Bool.true_and, Bool.and_false, Bool.false_and, Bool.not_true, Bool.not_false, Bool.false_eq_true, if_true, if_false, reduceIte, List.replicate_succ, List.replicate_zero, List.zip_cons_cons, List.zip_nil_right, List.foldlM_cons, List.foldlM_nil, List.nodup_nil]) <;> rfl) ?_⟩
    rw [rx_rt, ← e, Nat.gcd_zero_right]
  · have c2 : ¬ ((y : Int) = 0) := by omega
    have c3 : (0 : Int) < (y : Int) := by omega
    have c4 : 0 < y := by omega
    refine ⟨true, _, (by (conv => lhs; simp [exs, ex, ev, evs, evo, eva, evi, evc, Tg.put, leaf?, bl?, int?, node?, tpl?, lsts?, T.isLeaf, T.frz, T.frzs, argOk, ioSlots, ioTs, ioPut, ME.mut, MEs.mut, MO.mut, ME.path, bfn, binop, cmpop, T.lst?, T.leaves, cc_run, cc_io, wipe, Option.bind_eq_bind, Option.bind_some, Option.map_some, Option.pure_def, List.getD_cons_zero, List.getD_cons_succ, List.set_cons_zero, List.set_cons_succ, List.map_cons, List.map_nil, List.mapM_cons, List.mapM_nil, List.length_cons, List.length_nil, List.cons_append, List.nil_append, Bool.or_false, Bool.false_or, Bool.or_true, Bool.true_or, Bool.and_true, Bool.true_and, Bool.and_false, Bool.false_and, Bool.not_true, Bool.not_false, Bool.false_eq_true, if_true, if_false, reduceIte, List.replicate_succ, List.replicate_zero, List.zip_cons_cons, List.zip_nil_right, List.foldlM_cons, List.foldlM_nil, List.nodup_nil, D.plain, D.depth, eqb_int, c2, c]) <;> rfl), fun _ => ends_nx (by (conv => lhs; simp [exs, ex, ev, evs, evo, eva, evi, evc, Tg.put, leaf?, bl?, int?, node?, tpl?, lsts?, T.isLeaf, T.frz, T.frzs, argOk, ioSlots, ioTs, ioPut, ME.mut, MEs.mut, MO.mut, ME.path, bfn, binop, cmpop, T.lst?, T.leaves, cc_run, cc_io, wipe, Option.bind_eq_bind, Option.bind_some, Option.map_some, Option.pure_def, List.getD_cons_zero, List.getD_cons_succ, List.set_cons_zero, List.set_cons_succ, List.map_cons, List.map_nil, List.mapM_cons, List.mapM_nil, List.length_cons, List.length_nil, List.cons_append, List.nil_append, Bool.or_false, Bool.false_or, Bool.or_true, Bool.true_or, Bool.and_true, Bool.true_and, Bool.and_false, Bool.false_and, Bool.not_true, Bool.not_false, Bool.false_eq_true, if_true, if_false, reduceIte, List.replicate_succ, List.replicate_zero, List.zip_cons_cons, List.zip_nil_right, List.foldlM_cons, List.foldlM_nil, List.nodup_nil, c3, c4, setAll]) <;> rfl) (ends_nil ⟨if x % y ≤ y then x % y else y + 1, ?_, y, x % y, rfl, ?_, ?_⟩), fun z => by cases z⟩
    · have := Nat.mod_lt x c4
      rw [if_pos (by omega)]
      split
      · exact this
      · rw [Nat.mod_eq_of_lt (by omega)]; omega
    · simp
    · rw [← e, Nat.gcd_comm y, Nat.gcd_comm x y]; exact (Nat.gcd_rec y x).symm
theorem least_core {a b g : Int} (hn : 1 < n) (e : callD T0 W (n - 1) f_greatest_both [.leaf (.int a), .leaf (.int b)] = some (.leaf (.int g), [])) (g0 : 0 < g) (g2 : g < 18446744073709551616) (m1 : mulOk (a / g) b = true) :
    callD T0 W n f_least_both [.leaf (.int a), .leaf (.int b)] = some (.leaf (.int (a / g * b)), []) := by
  refine call_ends (by omega) (show T0 f_least_both = some b_least_both from rfl) rfl rfl ?_
  exact ends_rt (by (conv => lhs; simp [exs, ex, ev, evs, evo, eva, evi, evc, Tg.put, leaf?, bl?, int?, node?, tpl?, lsts?, T.isLeaf, T.frz, T.frzs, argOk, ioSlots, ioTs, ioPut, ME.mut, MEs.mut, MO.mut, ME.path, bfn, binop, cmpop, T.lst?, T.leaves, cc_run, cc_io, wipe, Option.bind_eq_bind, Option.bind_some, Option.map_some, Option.pure_def, List.getD_cons_zero, List.getD_cons_succ, List.set_cons_zero, List.set_cons_succ, List.map_cons, List.map_nil, List.mapM_cons, List.mapM_nil, List.length_cons, List.length_nil, List.cons_append, List.nil_append, Bool.or_false, Bool.false_or, Bool.or_true, Bool.true_or, Bool.and_true, Bool.true_and, Bool.and_false, Bool.false_and, Bool.not_true, Bool.not_false, Bool.false_eq_true, if_true, if_false, reduceIte, List.replicate_succ, List.replicate_zero, List.zip_cons_cons, List.zip_nil_right, List.foldlM_cons, List.foldlM_nil, List.nodup_nil, io_greatest_both, e, g0, g2, m1]) <;> rfl) rfl
theorem mulOk_right {z b : Int} (h0 : 0 ≤ b) (h1 : b ≤ 16777216) : mulOk z b = true := by simp [mulOk]; omega
theorem least_both_run {a b : Nat} (hn : 1 < n) (hW : a + 2 < W) (ha : 0 < a) (ha2 : a ≤ 16777216) (hb : b ≤ 16777216) : callD T0 W n f_least_both [.leaf (.int a), .leaf (.int b)] = some (.leaf (.int (lb a b)), []) := by
  have e := greatest_both_run (n := n - 1) (W := W) (a := a) (b := b) (by omega) hW
  have g0 : 0 < Nat.gcd a b := Nat.gcd_pos_of_pos_left b ha
  have g1 : Nat.gcd a b ≤ a := Nat.le_of_dvd ha (Nat.gcd_dvd_left a b)
  have q := least_core hn e (by omega) (by omega) (mulOk_right (by omega) (by omega))
  rw [q, lb, Int.natCast_mul, Int.natCast_ediv]
theorem leavings_in_run {W : Nat} (hW : 100000000 < W) : ∀ (k n : Nat) (r : Rm k), k + 2 < n → Fit k r → nd k r ≤ 12 → callD T0 W n f_leavings_in [.leaf (enc k r)] = some (.leaf (.int (li k r)), []) := by
  intro k
  induction k with
  | zero =>
    intro n r hn _ _
    refine call_ends (by omega) (show T0 f_leavings_in = some b_leavings_in from rfl) rfl rfl ?_
    have e := is_out_run (W := W) (n := n - 1) (d := .str r) (by omega)
    exact ends_tt (by (conv => lhs; simp [exs, ex, ev, evs, evo, eva, evi, evc, Tg.put, leaf?, bl?, int?, node?, tpl?, lsts?, T.isLeaf, T.frz, T.frzs, argOk, ioSlots, ioTs, ioPut, ME.mut, MEs.mut, MO.mut, ME.path, bfn, binop, cmpop, T.lst?, T.leaves, cc_run, cc_io, wipe, Option.bind_eq_bind, Option.bind_some, Option.map_some, Option.pure_def, List.getD_cons_zero, List.getD_cons_succ, List.set_cons_zero, List.set_cons_succ, List.map_cons, List.map_nil, List.mapM_cons, List.mapM_nil, List.length_cons, List.length_nil, List.cons_append, List.nil_append, Bool.or_false, Bool.false_or, Bool.or_true, Bool.true_or, Bool.and_true, Bool.true_and, Bool.and_false, Bool.false_and, Bool.not_true, Bool.not_false, Bool.false_eq_true, if_true, if_false, reduceIte, List.replicate_succ, List.replicate_zero, List.zip_cons_cons, List.zip_nil_right, List.foldlM_cons, List.foldlM_nil, List.nodup_nil, enc, e, io_is_out, D.isStr]) <;> rfl) (ends_rt (by (conv => lhs; simp [exs, ex, ev, evs, evo, eva, evi, evc, Tg.put, leaf?, bl?, int?, node?, tpl?, lsts?, T.isLeaf, T.frz, T.frzs, argOk, ioSlots, ioTs, ioPut, ME.mut, MEs.mut, MO.mut, ME.path, bfn, binop, cmpop, T.lst?, T.leaves, cc_run, cc_io, wipe, Option.bind_eq_bind, Option.bind_some, Option.map_some, Option.pure_def, List.getD_cons_zero, List.getD_cons_succ, List.set_cons_zero, List.set_cons_succ, List.map_cons, List.map_nil, List.mapM_cons, List.mapM_nil, List.length_cons, List.length_nil, List.cons_append, List.nil_append, Bool.or_false, Bool.false_or, Bool.or_true, Bool.true_or, Bool.and_true, Bool.true_and, Bool.and_false, Bool.false_and, Bool.not_true, Bool.not_false, Bool.false_eq_true, if_true, if_false, reduceIte, List.replicate_succ, List.replicate_zero, List.zip_cons_cons, List.zip_nil_right, List.foldlM_cons, List.foldlM_nil, List.nodup_nil]) <;> rfl) rfl)
  | succ k ih =>
    intro n r hn hf h12
    refine call_ends (by omega) (show T0 f_leavings_in = some b_leavings_in from rfl) rfl rfl ?_
    cases r with
    | inl s =>
      have e := is_out_run (W := W) (n := n - 1) (d := .str s) (by omega)
      exact ends_tt (by (conv => lhs; simp [exs, ex, ev, evs, evo, eva, evi, evc, Tg.put, leaf?, bl?, int?, node?, tpl?, lsts?, T.isLeaf, T.frz, T.frzs, argOk, ioSlots, ioTs, ioPut, ME.mut, MEs.mut, MO.mut, ME.path, bfn, binop, cmpop, T.lst?, T.leaves, cc_run, cc_io, wipe, Option.bind_eq_bind, Option.bind_some, Option.map_some, Option.pure_def, List.getD_cons_zero, List.getD_cons_succ, List.set_cons_zero, List.set_cons_succ, List.map_cons, List.map_nil, List.mapM_cons, List.mapM_nil, List.length_cons, List.length_nil, List.cons_append, List.nil_append, Bool.or_false, Bool.false_or, Bool.or_true, Bool.true_or, Bool.and_true, Bool.true_and, Bool.and_false, Bool.false_and, Bool.not_true, Bool.not_false, Bool.false_eq_true, if_true, if_false, reduceIte, List.replicate_succ, List.replicate_zero, List.zip_cons_cons, List.zip_nil_right, List.foldlM_cons, List.foldlM_nil, List.nodup_nil, enc, e, io_is_out, D.isStr]) <;> rfl) (ends_rt (by (conv => lhs; simp [exs, ex, ev, evs, evo, eva, evi, evc, Tg.put, leaf?, bl?, int?, node?, tpl?, lsts?, T.isLeaf, T.frz, T.frzs, argOk, ioSlots, ioTs, ioPut, ME.mut, MEs.mut, MO.mut, ME.path, bfn, binop, cmpop, T.lst?, T.leaves, cc_run, cc_io, wipe, Option.bind_eq_bind, Option.bind_some, Option.map_some, Option.pure_def, List.getD_cons_zero, List.getD_cons_succ, List.set_cons_zero, List.set_cons_succ, List.map_cons, List.map_nil, List.mapM_cons, List.mapM_nil, List.length_cons, List.length_nil, List.cons_append, List.nil_append, Bool.or_false, Bool.false_or, Bool.or_true, Bool.true_or, Bool.and_true, Bool.true_and, Bool.and_false, Bool.false_and, Bool.not_true, Bool.not_false, Bool.false_eq_true, if_true, if_false, reduceIte, List.replicate_succ, List.replicate_zero, List.zip_cons_cons, List.zip_nil_right, List.foldlM_cons, List.foldlM_nil, List.nodup_nil]) <;> rfl) rfl)
    | inr q =>
      obtain ⟨h, ds⟩ := q
      obtain ⟨hl, hl4, c0, c1, hd⟩ := hf
      have e := is_out_run (W := W) (n := n - 1) (d := .tup [.int h, .tup (ds.map (encD k))]) (by omega)
      have h12' : (ds.map fun x => 1 + nd k x.2.2).sum ≤ 12 := h12
      rw [sum_succ] at h12'
      refine ends_ff0 (by (conv => lhs; simp [exs, ex, ev, evs, evo, eva, evi, evc, Tg.put, leaf?, bl?, int?, node?, tpl?, lsts?, T.isLeaf, T.frz, T.frzs, argOk, ioSlots, ioTs, ioPut, ME.mut, MEs.mut, MO.mut, ME.path, bfn, binop, cmpop, T.lst?, T.leaves, cc_run, cc_io, wipe, Option.bind_eq_bind, Option.bind_some, Option.map_some, Option.pure_def, List.getD_cons_zero, List.getD_cons_succ, List.set_cons_zero, List.set_cons_succ, List.map_cons, List.map_nil, List.mapM_cons, List.mapM_nil, List.length_cons, List.length_nil, List.cons_append, List.nil_append, Bool.or_false, Bool.false_or, Bool.or_true, Bool.true_or, Bool.and_true, Bool.true_and, Bool.and_false, Bool.false_and, Bool.not_true, Bool.not_false, Bool.false_eq_true, if_true, if_false, reduceIte, List.replicate_succ, List.replicate_zero, List.zip_cons_cons, List.zip_nil_right, List.foldlM_cons, List.foldlM_nil, List.nodup_nil, enc, e, io_is_out, D.isStr]) <;> rfl) (ends_nx (by (conv => lhs; simp [exs, ex, ev, evs, evo, eva, evi, evc, Tg.put, leaf?, bl?, int?, node?, tpl?, lsts?, T.isLeaf, T.frz, T.frzs, argOk, ioSlots, ioTs, ioPut, ME.mut, MEs.mut, MO.mut, ME.path, bfn, binop, cmpop, T.lst?, T.leaves, cc_run, cc_io, wipe, Option.bind_eq_bind, Option.bind_some, Option.map_some, Option.pure_def, List.getD_cons_zero, List.getD_cons_succ, List.set_cons_zero, List.set_cons_succ, List.map_cons, List.map_nil, List.mapM_cons, List.mapM_nil, List.length_cons, List.length_nil, List.cons_append, List.nil_append, Bool.or_false, Bool.false_or, Bool.or_true, Bool.true_or, Bool.and_true, Bool.true_and, Bool.and_false, Bool.false_and, Bool.not_true, Bool.not_false, Bool.false_eq_true, if_true, if_false, reduceIte, List.replicate_succ, List.replicate_zero, List.zip_cons_cons, List.zip_nil_right, List.foldlM_cons, List.foldlM_nil, List.nodup_nil]) <;> rfl) ?_)
      refine ends_for (fun it env => ∃ (xs : List (Int × Int × Rm k)) (acc : Nat) (a b c : Option T), it = xs.map (encD k) ∧ env = [some (.leaf (.tup [.int h, .tup (ds.map (encD k))])), some (.leaf (.int acc)), a, b, c] ∧ 0 < acc ∧ acc * 4 ^ (xs.map fun x => nd k x.2.2).sum ≤ 16777216 ∧
        xs.foldl (fun a x => lb a (li k x.2.2)) acc = ds.foldl (fun a x => lb a (li k x.2.2)) 1 ∧ ∀ x ∈ xs, Fit k x.2.2 ∧ nd k x.2.2 ≤ 12) (by (conv => lhs; simp [exs, ex, ev, evs, evo, eva, evi, evc, Tg.put, leaf?, bl?, int?, node?, tpl?, lsts?, T.isLeaf, T.frz, T.frzs, argOk, ioSlots, ioTs, ioPut, ME.mut, MEs.mut, MO.mut, ME.path, bfn, binop, cmpop, T.lst?, T.leaves, cc_run, cc_io, wipe, Option.bind_eq_bind, Option.bind_some, Option.map_some, Option.pure_def, List.getD_cons_zero, List.getD_cons_succ, List.set_cons_zero, List.set_cons_succ, List.map_cons, List.map_nil, List.mapM_cons, List.mapM_nil, List.length_cons, List.length_nil, List.cons_append, List.nil_append, Bool.or_false, Bool.false_or, Bool.or_true, Bool.true_or, Bool.and_true, Bool.true_and, Bool.and_false, Bool.false_and, Bool.not_true, Bool.not_false, Bool.false_eq_true, if_true, if_false, reduceIte, List.replicate_succ, List.replicate_zero, List.zip_cons_cons, List.zip_nil_right, List.foldlM_cons, List.foldlM_nil, List.nodup_nil, index, atI, ixN]) <;> rfl)
        ⟨ds, 1, _, _, _, rfl, rfl, by omega, by rw [Nat.one_mul]; exact Nat.le_trans (Nat.pow_le_pow_right (by omega) (show _ ≤ 12 by omega)) (by decide), rfl, fun x hx => ⟨(hd x hx).2.2.2.2, ?_⟩⟩ ?_ ?_
      · have := le_sum (fun x : Int × Int × Rm k => nd k x.2.2) hx
        omega
      · rintro d its r1 ⟨xs, acc, a, b, c, e1, rfl, p0, p1, e3, hx⟩
        cases xs with
        | nil => simp at e1
        | cons x xs =>
          simp only [List.map_cons, List.cons.injEq] at e1
          obtain ⟨rfl, rfl⟩ := e1
          obtain ⟨hx1, hx2⟩ := hx x List.mem_cons_self
          have f := ih (n - 1) x.2.2 (by omega) hx1 hx2
          obtain ⟨l0, l1⟩ := li_le k x.2.2 hx1
          have l2 : li k x.2.2 ≤ 16777216 := Nat.le_trans (Nat.le_trans l1 (Nat.pow_le_pow_right (by omega) hx2)) (by decide)
          have q1 : 1 ≤ 4 ^ ((x :: xs).map fun x => nd k x.2.2).sum := Nat.pow_pos (by omega)
          have q2 : acc ≤ 16777216 := Nat.le_trans (Nat.le_mul_of_pos_right _ q1) p1
          have f2 := least_both_run (n := n - 1) (W := W) (a := acc) (b := li k x.2.2) (by omega) (by omega) p0 (by omega) (by omega)
          refine ⟨_, (by (conv => lhs; simp [exs, ex, ev, evs, evo, eva, evi, evc, Tg.put, leaf?, bl?, int?, node?, tpl?, lsts?, T.isLeaf, T.frz, T.frzs, argOk, ioSlots, ioTs, ioPut, ME.mut, MEs.mut, MO.mut, ME.path, bfn, binop, cmpop, T.lst?, T.leaves, cc_run, cc_io, wipe, Option.bind_eq_bind, Option.bind_some, Option.map_some, Option.pure_def, List.getD_cons_zero, List.getD_cons_succ, List.set_cons_zero, List.set_cons_succ, List.map_cons, List.map_nil, List.mapM_cons, List.mapM_nil, List.length_cons, List.length_nil, List.cons_append, List.nil_append, Bool.or_false, Bool.false_or, Bool.or_true, Bool.true_or, Bool.and_true, Bool.true_and, Bool.and_false, Bool.false_and, Bool.not_true, Bool.not_false, Bool.false_eq_true, if_true, if_false, reduceIte, List.replicate_succ, List.replicate_zero, List.zip_cons_cons, List.zip_nil_right, List.foldlM_cons, List.foldlM_nil, List.nodup_nil]) <;> rfl), ends_nx (by (conv => lhs; simp [exs, ex, ev, evs, evo, eva, evi, evc, Tg.put, leaf?, bl?, int?, node?, tpl?, lsts?, T.isLeaf, T.frz, T.frzs, argOk, ioSlots, ioTs, ioPut, ME.mut, MEs.mut, MO.mut, ME.path, bfn, binop, cmpop, T.lst?, T.leaves, cc_run, cc_io, wipe, Option.bind_eq_bind, Option.bind_some, Option.map_some, Option.pure_def, List.getD_cons_zero, List.getD_cons_succ, List.set_cons_zero, List.set_cons_succ, List.map_cons, List.map_nil, List.mapM_cons, List.mapM_nil, List.length_cons, List.length_nil, List.cons_append, List.nil_append, Bool.or_false, Bool.false_or, Bool.or_true, Bool.true_or, Bool.and_true, Bool.true_and, Bool.and_false, Bool.false_and, Bool.not_true, Bool.not_false, Bool.false_eq_true, if_true, if_false, reduceIte, List.replicate_succ, List.replicate_zero, List.zip_cons_cons, List.zip_nil_right, List.foldlM_cons, List.foldlM_nil, List.nodup_nil, io_leavings_in, io_least_both, f, f2]) <;> rfl) (ends_nil ⟨xs, _, _, _, _, rfl, rfl, lb_pos p0 l0, ?_, e3, fun y hy => hx y (List.mem_cons_of_mem _ hy)⟩)⟩
          refine Nat.le_trans ?_ p1
          rw [List.map_cons, List.sum_cons, Nat.pow_add, ← Nat.mul_assoc]
          exact Nat.mul_le_mul_right _ (Nat.le_trans lb_le (Nat.mul_le_mul_left _ l1))
      · rintro r1 ⟨xs, acc, a, b, c, e1, rfl, p0, p1, e3, hx⟩
        cases xs with
        | cons x xs => simp at e1
        | nil =>
          obtain ⟨ai, hai⟩ : ∃ ai : Int, ai = (acc : Int) := ⟨_, rfl⟩
          obtain ⟨el, hel, hel2⟩ : ∃ el : List D, el = ds.map (encD k) ∧ el.length = ds.length := ⟨_, rfl, by simp⟩
          have m1 : mulOk ai (el.length : Int) = true := mulOk_right (by omega) (by omega)
          rw [← hai, ← hel]
          refine ends_rt (by (conv => lhs; simp [exs, ex, ev, evs, evo, eva, evi, evc, Tg.put, leaf?, bl?, int?, node?, tpl?, lsts?, T.isLeaf, T.frz, T.frzs, argOk, ioSlots, ioTs, ioPut, ME.mut, MEs.mut, MO.mut, ME.path, bfn, binop, cmpop, T.lst?, T.leaves, cc_run, cc_io, wipe, Option.bind_eq_bind, Option.bind_some, Option.map_some, Option.pure_def, List.getD_cons_zero, List.getD_cons_succ, List.set_cons_zero, List.set_cons_succ, List.map_cons, List.map_nil, List.mapM_cons, List.mapM_nil, List.length_cons, List.length_nil, List.cons_append, List.nil_append, Bool.or_false, Bool.false_or, Bool.or_true, Bool.true_or, Bool.and_true, Bool.true_and, Bool.and_false, Bool.false_and, Bool.not_true, Bool.not_false, Bool.false_eq_true, if_true, if_false, reduceIte, List.replicate_succ, List.replicate_zero, List.zip_cons_cons, List.zip_nil_right, List.foldlM_cons, List.foldlM_nil, List.nodup_nil, index, atI, ixN, m1]) <;> rfl) ?_
          rw [rx_rt, li, ← e3, hai, hel2, Int.natCast_mul]
          rfl
end
end PD

/-! round_of, leaving, leavings_by, left, run. -/
namespace PD
open PySem

section
variable {W n : Nat}
theorem io_leavings_by : ((T0 f_leavings_by).map Def.io).getD [] = [false, false] := rfl
theorem io_left : ((T0 f_left).map Def.io).getD [] = [false, false] := rfl
theorem io_leaving : ((T0 f_leaving).map Def.io).getD [] = [false, false] := rfl
theorem io_named : ((T0 f_named).map Def.io).getD [] = [false, false, false] := rfl

theorem fit_cl : ∀ (k : Nat) (r : Rm k), Fit k r → Fit k (cl k r)
  | 0, _, _ => trivial
  | _ + 1, Sum.inl _, _ => trivial
  | k + 1, Sum.inr (h, ds), ⟨a, b, c, d, e⟩ => by
    refine ⟨by simpa using a, by simpa using b, c, by simpa using d, fun x hx => ?_⟩
    obtain ⟨y, hy, rfl⟩ := List.mem_map.mp hx
    obtain ⟨h1, h2, h3, h4, h5⟩ := e y hy
    exact ⟨h1, h2, by show (0 : Int) ≤ 0; omega, by show (0 : Int) ≤ y.1; omega, fit_cl k _ h5⟩
theorem round_of_run {k : Nat} {r : Rm k} (hn : k + 4 < n) (hk : k ≤ 1000) (hW : 100000000 < W) (ho : Ok k r) (h12 : nd k r ≤ 12) : callD T0 W n f_round_of [.leaf (enc k r)] = some (.leaf (.tup [.int (li k r), .int (wb k (cl k r) (li k r))]), []) := by
  refine call_ends (by omega) (show T0 f_round_of = some b_round_of from rfl) rfl rfl ?_
  have e1 := need_house_run (n := n - 1) (W := W) (by omega) hk ho h12
  have e2 := leavings_in_run hW k (n - 1) r (by omega) ho.fit h12
  have e3 := clean_run (W := W) k (n - 1) r (by omega) ho.fit
  have e4 := walkers_by_run (W := W) k (n - 1) (cl k r) (li k r) (by omega) (fit_cl k r ho.fit)
  exact ends_nx (by (conv => lhs; simp [exs, ex, ev, evs, evo, eva, evi, evc, Tg.put, leaf?, bl?, int?, node?, tpl?, lsts?, T.isLeaf, T.frz, T.frzs, argOk, ioSlots, ioTs, ioPut, ME.mut, MEs.mut, MO.mut, ME.path, bfn, binop, cmpop, T.lst?, T.leaves, cc_run, cc_io, wipe, Option.bind_eq_bind, Option.bind_some, Option.map_some, Option.pure_def, List.getD_cons_zero, List.getD_cons_succ, List.set_cons_zero, List.set_cons_succ, List.map_cons, List.map_nil, List.mapM_cons, List.mapM_nil, List.length_cons, List.length_nil, List.cons_append, List.nil_append, Bool.or_false, Bool.false_or, Bool.or_true, Bool.true_or, Bool.and_true, Bool.true_and, Bool.and_false, Bool.false_and, Bool.not_true, Bool.not_false, Bool.false_eq_true, if_true, if_false, reduceIte, List.replicate_succ, List.replicate_zero, List.zip_cons_cons, List.zip_nil_right, List.foldlM_cons, List.foldlM_nil, List.nodup_nil, io_need_house, e1]) <;> rfl) (ends_nx (by (conv => lhs; simp [exs, ex, ev, evs, evo, eva, evi, evc, Tg.put, leaf?, bl?, int?, node?, tpl?, lsts?, T.isLeaf, T.frz, T.frzs, argOk, ioSlots, ioTs, ioPut, ME.mut, MEs.mut, MO.mut, ME.path, bfn, binop, cmpop, T.lst?, T.leaves, cc_run, cc_io, wipe, Option.bind_eq_bind, Option.bind_some, Option.map_some, Option.pure_def, List.getD_cons_zero, List.getD_cons_succ, List.set_cons_zero, List.set_cons_succ, List.map_cons, List.map_nil, List.mapM_cons, List.mapM_nil, List.length_cons, List.length_nil, List.cons_append, List.nil_append, Bool.or_false, Bool.false_or, Bool.or_true, Bool.true_or, Bool.and_true, Bool.true_and, Bool.and_false, Bool.false_and, Bool.not_true, Bool.not_false, Bool.false_eq_true, if_true, if_false, reduceIte, List.replicate_succ, List.replicate_zero, List.zip_cons_cons, List.zip_nil_right, List.foldlM_cons, List.foldlM_nil, List.nodup_nil, io_leavings_in, e2]) <;> rfl) (ends_rt (by (conv => lhs; simp [exs, ex, ev, evs, evo, eva, evi, evc, Tg.put, leaf?, bl?, int?, node?, tpl?, lsts?, T.isLeaf, T.frz, T.frzs, argOk, ioSlots, ioTs, ioPut, ME.mut, MEs.mut, MO.mut, ME.path, bfn, binop, cmpop, T.lst?, T.leaves, cc_run, cc_io, wipe, Option.bind_eq_bind, Option.bind_some, Option.map_some, Option.pure_def, List.getD_cons_zero, List.getD_cons_succ, List.set_cons_zero, List.set_cons_succ, List.map_cons, List.map_nil, List.mapM_cons, List.mapM_nil, List.length_cons, List.length_nil, List.cons_append, List.nil_append, Bool.or_false, Bool.false_or, Bool.or_true, Bool.true_or, Bool.and_true, Bool.true_and, Bool.and_false, Bool.false_and, Bool.not_true, Bool.not_false, Bool.false_eq_true, if_true, if_false, reduceIte, List.replicate_succ, List.replicate_zero, List.zip_cons_cons, List.zip_nil_right, List.foldlM_cons, List.foldlM_nil, List.nodup_nil, io_clean, io_walkers_by, e3, e4, lim]) <;> rfl) rfl))
theorem leaving_run {k : Nat} {r : Rm k} {m : Int} (hn : k + 4 < n) (hk : k ≤ 900) (hW : 100000000 < W) (ho : Ok k r) (h12 : nd k r ≤ 12) (h1 : 1 ≤ m) (h2 : m ≤ 1000000000000000) :
    callD T0 W n f_leaving [.leaf (enc k r), .leaf (.int m)] = some (.leaf (.tup [.int (wb k r m - 1), .tup ((po k r m).1.map D.int), .str (po k r m).2]), []) := by
  refine call_ends (by omega) (show T0 f_leaving = some b_leaving from rfl) rfl rfl ?_
  have e1 := need_house_run (n := n - 1) (W := W) (by omega) (by omega) ho h12
  have e2 := need_far_run (n := n - 1) (W := W) (by omega) h1 h2
  have e3 := walkers_by_run (W := W) k (n - 1) r m (by omega) ho.fit
  have e4 := path_of_run (W := W) (n := n - 1) (r := r) (m := m) (by omega) (by omega) (by omega) ho.fit
  exact ends_nx (by (conv => lhs; simp [exs, ex, ev, evs, evo, eva, evi, evc, Tg.put, leaf?, bl?, int?, node?, tpl?, lsts?, T.isLeaf, T.frz, T.frzs, argOk, ioSlots, ioTs, ioPut, ME.mut, MEs.mut, MO.mut, ME.path, bfn, binop, cmpop, T.lst?, T.leaves, cc_run, cc_io, wipe, Option.bind_eq_bind, Option.bind_some, Option.map_some, Option.pure_def, List.getD_cons_zero, List.getD_cons_succ, List.set_cons_zero, List.set_cons_succ, List.map_cons, List.map_nil, List.mapM_cons, List.mapM_nil, List.length_cons, List.length_nil, List.cons_append, List.nil_append, Bool.or_false, Bool.false_or, Bool.or_true, Bool.true_or, Bool.and_true, Bool.true_and, Bool.and_false, Bool.false_and, Bool.not_true, Bool.not_false, Bool.false_eq_true, if_true, if_false, reduceIte, List.replicate_succ, List.replicate_zero, List.zip_cons_cons, List.zip_nil_right, List.foldlM_cons, List.foldlM_nil, List.nodup_nil, io_need_house, e1]) <;> rfl) (ends_nx (by (conv => lhs; simp [exs, ex, ev, evs, evo, eva, evi, evc, Tg.put, leaf?, bl?, int?, node?, tpl?, lsts?, T.isLeaf, T.frz, T.frzs, argOk, ioSlots, ioTs, ioPut, ME.mut, MEs.mut, MO.mut, ME.path, bfn, binop, cmpop, T.lst?, T.leaves, cc_run, cc_io, wipe, Option.bind_eq_bind, Option.bind_some, Option.map_some, Option.pure_def, List.getD_cons_zero, List.getD_cons_succ, List.set_cons_zero, List.set_cons_succ, List.map_cons, List.map_nil, List.mapM_cons, List.mapM_nil, List.length_cons, List.length_nil, List.cons_append, List.nil_append, Bool.or_false, Bool.false_or, Bool.or_true, Bool.true_or, Bool.and_true, Bool.true_and, Bool.and_false, Bool.false_and, Bool.not_true, Bool.not_false, Bool.false_eq_true, if_true, if_false, reduceIte, List.replicate_succ, List.replicate_zero, List.zip_cons_cons, List.zip_nil_right, List.foldlM_cons, List.foldlM_nil, List.nodup_nil, io_need_far, e2]) <;> rfl) (ends_rt (by (conv => lhs; simp [exs, ex, ev, evs, evo, eva, evi, evc, Tg.put, leaf?, bl?, int?, node?, tpl?, lsts?, T.isLeaf, T.frz, T.frzs, argOk, ioSlots, ioTs, ioPut, ME.mut, MEs.mut, MO.mut, ME.path, bfn, binop, cmpop, T.lst?, T.leaves, cc_run, cc_io, wipe, Option.bind_eq_bind, Option.bind_some, Option.map_some, Option.pure_def, List.getD_cons_zero, List.getD_cons_succ, List.set_cons_zero, List.set_cons_succ, List.map_cons, List.map_nil, List.mapM_cons, List.mapM_nil, List.length_cons, List.length_nil, List.cons_append, List.nil_append, Bool.or_false, Bool.false_or, Bool.or_true, Bool.true_or, Bool.and_true, Bool.true_and, Bool.and_false, Bool.false_and, Bool.not_true, Bool.not_false, Bool.false_eq_true, if_true, if_false, reduceIte, List.replicate_succ, List.replicate_zero, List.zip_cons_cons, List.zip_nil_right, List.foldlM_cons, List.foldlM_nil, List.nodup_nil, io_walkers_by, io_path_of, e3, e4, lim]) <;> rfl) rfl))
/-- what a search by halves finds -/
structure LB (f : Int → Int) (w r : Int) : Prop where
  lo : 0 ≤ r
  hi : r ≤ w
  le : r = 0 ∨ f r ≤ w
  gt : ∀ m, r < m → m ≤ w → w < f m
theorem leavings_by_run {k : Nat} {r : Rm k} {w : Int} (hn : k + 2 < n) (hW : w + 1 < W) (h0 : 0 ≤ w) (hf : Fit k r) (mono : ∀ a b, 0 ≤ a → a ≤ b → wb k r a ≤ wb k r b) :
    ∃ x, callD T0 W n f_leavings_by [.leaf (enc k r), .leaf (.int w)] = some (x, []) ∧ ∃ m, LB (wb k r) w m ∧ x = .leaf (.int m) := by
  refine call_ex (by omega) (show T0 f_leavings_by = some b_leavings_by from rfl) rfl rfl ?_
  refine ends_nx (by (conv => lhs; simp [exs, ex, ev, evs, evo, eva, evi, evc, Tg.put, leaf?, bl?, int?, node?, tpl?, lsts?, T.isLeaf, T.frz, T.frzs, argOk, ioSlots, ioTs, ioPut, ME.mut, MEs.mut, MO.mut, ME.path, bfn, binop, cmpop, T.lst?, T.leaves, cc_run, cc_io, wipe, Option.bind_eq_bind, Option.bind_some, Option.map_some, Option.pure_def, List.getD_cons_zero, List.getD_cons_succ, List.set_cons_zero, List.set_cons_succ, List.map_cons, List.map_nil, List.mapM_cons, List.mapM_nil, List.length_cons, List.length_nil, List.cons_append, List.nil_append, Bool.or_false, Bool.false_or, Bool.or_true, Bool.true_or, Bool.and_true, Bool.true_and, Bool.and_false, Bool.false_and, Bool.not_true, Bool.not_false, Bool.false_eq_true, if_true, if_false, reduceIte, List.replicate_succ, List.replicate_zero, List.zip_cons_cons, List.zip_nil_right, List.foldlM_cons, List.foldlM_nil, List.nodup_nil, setAll]) <;> rfl) ?_
  refine ends_whl (fun i env => ∃ (lo hi : Int) (a : Option T), i = (hi - lo).toNat ∧ env = [some (.leaf (enc k r)), some (.leaf (.int w)), some (.leaf (.int lo)), some (.leaf (.int hi)), a] ∧ 0 ≤ lo ∧ lo ≤ hi ∧ hi ≤ w ∧ (lo = 0 ∨ wb k r lo ≤ w) ∧ ∀ m, hi < m → m ≤ w → w < wb k r m)
    w.toNat (by omega) ⟨0, w, none, by simp, rfl, by omega, h0, by omega, .inl rfl, fun m h1 h2 => by omega⟩ ?_
  rintro i env ⟨lo, hi, a, rfl, rfl, l0, l1, l2, l3, l4⟩
  by_cases c : lo < hi
  · refine ⟨true, _, (by (conv => lhs; simp [exs, ex, ev, evs, evo, eva, evi, evc, Tg.put, leaf?, bl?, int?, node?, tpl?, lsts?, T.isLeaf, T.frz, T.frzs, argOk, ioSlots, ioTs, ioPut, ME.mut, MEs.mut, MO.mut, ME.path, bfn, binop, cmpop, T.lst?, T.leaves, cc_run, cc_io, wipe, Option.bind_eq_bind, Option.bind_some, Option.map_some, Option.pure_def, List.getD_cons_zero, List.getD_cons_succ, List.set_cons_zero, List.set_cons_succ, List.map_cons, List.map_nil, List.mapM_cons, List.mapM_nil, List.length_cons, List.length_nil, List.cons_append, List.nil_append, Bool.or_false, Bool.false_or, Bool.or_true, Bool.true_or, Bool.and_true, Bool.true_and, Bool.and_false, Bool.false_and, Bool.not_true, Bool.not_false, Bool.false_eq_true, if_true, if_false, reduceIte, List.replicate_succ, List.replicate_zero, List.zip_cons_cons, List.zip_nil_right, List.foldlM_cons, List.foldlM_nil, List.nodup_nil, c]) <;> rfl), fun _ => ?_, fun z => by cases z⟩
    obtain ⟨mid, hmid⟩ : ∃ mid, mid = (lo + hi + 1) / 2 := ⟨_, rfl⟩
    have m1 : lo < mid := by omega
    have m2 : mid ≤ hi := by omega
    have e := walkers_by_run (W := W) k (n - 1) r mid (by omega) hf
    refine ends_nx (by (conv => lhs; simp [exs, ex, ev, evs, evo, eva, evi, evc, Tg.put, leaf?, bl?, int?, node?, tpl?, lsts?, T.isLeaf, T.frz, T.frzs, argOk, ioSlots, ioTs, ioPut, ME.mut, MEs.mut, MO.mut, ME.path, bfn, binop, cmpop, T.lst?, T.leaves, cc_run, cc_io, wipe, Option.bind_eq_bind, Option.bind_some, Option.map_some, Option.pure_def, List.getD_cons_zero, List.getD_cons_succ, List.set_cons_zero, List.set_cons_succ, List.map_cons, List.map_nil, List.mapM_cons, List.mapM_nil, List.length_cons, List.length_nil, List.cons_append, List.nil_append, Bool.or_false, Bool.false_or, Bool.or_true, Bool.true_or, Bool.and_true, Bool.true_and, Bool.and_false, Bool.false_and, Bool.not_true, Bool.not_false, Bool.false_eq_true, if_true, if_false, reduceIte, List.replicate_succ, List.replicate_zero, List.zip_cons_cons, List.zip_nil_right, List.foldlM_cons, List.foldlM_nil, List.nodup_nil, ← hmid]) <;> rfl) ?_
    by_cases q : wb k r mid ≤ w
    · exact ends_tt (by (conv => lhs; simp [exs, ex, ev, evs, evo, eva, evi, evc, Tg.put, leaf?, bl?, int?, node?, tpl?, lsts?, T.isLeaf, T.frz, T.frzs, argOk, ioSlots, ioTs, ioPut, ME.mut, MEs.mut, MO.mut, ME.path, bfn, binop, cmpop, T.lst?, T.leaves, cc_run, cc_io, wipe, Option.bind_eq_bind, Option.bind_some, Option.map_some, Option.pure_def, List.getD_cons_zero, List.getD_cons_succ, List.set_cons_zero, List.set_cons_succ, List.map_cons, List.map_nil, List.mapM_cons, List.mapM_nil, List.length_cons, List.length_nil, List.cons_append, List.nil_append, Bool.or_false, Bool.false_or, Bool.or_true, Bool.true_or, Bool.and_true, Bool.true_and, Bool.and_false, Bool.false_and, Bool.not_true, Bool.not_false, Bool.false_eq_true, if_true, if_false, reduceIte, List.replicate_succ, List.replicate_zero, List.zip_cons_cons, List.zip_nil_right, List.foldlM_cons, List.foldlM_nil, List.nodup_nil, io_walkers_by, e, q]) <;> rfl) (ends_nx (by (conv => lhs; simp [exs, ex, ev, evs, evo, eva, evi, evc, Tg.put, leaf?, bl?, int?, node?, tpl?, lsts?, T.isLeaf, T.frz, T.frzs, argOk, ioSlots, ioTs, ioPut, ME.mut, MEs.mut, MO.mut, ME.path, bfn, binop, cmpop, T.lst?, T.leaves, cc_run, cc_io, wipe, Option.bind_eq_bind, Option.bind_some, Option.map_some, Option.pure_def, List.getD_cons_zero, List.getD_cons_succ, List.set_cons_zero, List.set_cons_succ, List.map_cons, List.map_nil, List.mapM_cons, List.mapM_nil, List.length_cons, List.length_nil, List.cons_append, List.nil_append, Bool.or_false, Bool.false_or, Bool.or_true, Bool.true_or, Bool.and_true, Bool.true_and, Bool.and_false, Bool.false_and, Bool.not_true, Bool.not_false, Bool.false_eq_true, if_true, if_false, reduceIte, List.replicate_succ, List.replicate_zero, List.zip_cons_cons, List.zip_nil_right, List.foldlM_cons, List.foldlM_nil, List.nodup_nil]) <;> rfl) (ends_nil (ends_nil ⟨(hi - mid).toNat, by omega, mid, hi, some (.leaf (.int mid)), rfl, rfl, by omega, m2, l2, .inr q, l4⟩)))
    · refine ends_ff (by (conv => lhs; simp [exs, ex, ev, evs, evo, eva, evi, evc, Tg.put, leaf?, bl?, int?, node?, tpl?, lsts?, T.isLeaf, T.frz, T.frzs, argOk, ioSlots, ioTs, ioPut, ME.mut, MEs.mut, MO.mut, ME.path, bfn, binop, cmpop, T.lst?, T.leaves, cc_run, cc_io, wipe, Option.bind_eq_bind, Option.bind_some, Option.map_some, Option.pure_def, List.getD_cons_zero, List.getD_cons_succ, List.set_cons_zero, List.set_cons_succ, List.map_cons, List.map_nil, List.mapM_cons, List.mapM_nil, List.length_cons, List.length_nil, List.cons_append, List.nil_append, Bool.or_false, Bool.false_or, Bool.or_true, Bool.true_or, Bool.and_true, Bool.true_and, Bool.and_false, Bool.false_and, Bool.not_true, Bool.not_false, Bool.false_eq_true, if_true, if_false, reduceIte, List.replicate_succ, List.replicate_zero, List.zip_cons_cons, List.zip_nil_right, List.foldlM_cons, List.foldlM_nil, List.nodup_nil, io_walkers_by, e, q]) <;> rfl) (ends_nx (by (conv => lhs; simp [exs, ex, ev, evs, evo, eva, evi, evc, Tg.put, leaf?, bl?, int?, node?, tpl?, lsts?, T.isLeaf, T.frz, T.frzs, argOk, ioSlots, ioTs, ioPut, ME.mut, MEs.mut, MO.mut, ME.path, bfn, binop, cmpop, T.lst?, T.leaves, cc_run, cc_io, wipe, Option.bind_eq_bind, Option.bind_some, Option.map_some, Option.pure_def, List.getD_cons_zero, List.getD_cons_succ, List.set_cons_zero, List.set_cons_succ, List.map_cons, List.map_nil, List.mapM_cons, List.mapM_nil, List.length_cons, List.length_nil, List.cons_append, List.nil_append, Bool.or_false, Bool.false_or, Bool.or_true, Bool.true_or, Bool.and_true, Bool.true_and, Bool.and_false, Bool.false_and, Bool.not_true, Bool.not_false, Bool.false_eq_true, if_true, if_false, reduceIte, List.replicate_succ, List.replicate_zero, List.zip_cons_cons, List.zip_nil_right, List.foldlM_cons, List.foldlM_nil, List.nodup_nil]) <;> rfl) (ends_nil (ends_nil ⟨(mid - 1 - lo).toNat, by omega, lo, mid - 1, some (.leaf (.int mid)), rfl, rfl, l0, by omega, by omega, l3, fun m h1 h2 => ?_⟩)))
      have := mono mid m (by omega) (by omega)
      omega
  · refine ⟨false, _, (by (conv => lhs; simp [exs, ex, ev, evs, evo, eva, evi, evc, Tg.put, leaf?, bl?, int?, node?, tpl?, lsts?, T.isLeaf, T.frz, T.frzs, argOk, ioSlots, ioTs, ioPut, ME.mut, MEs.mut, MO.mut, ME.path, bfn, binop, cmpop, T.lst?, T.leaves, cc_run, cc_io, wipe, Option.bind_eq_bind, Option.bind_some, Option.map_some, Option.pure_def, List.getD_cons_zero, List.getD_cons_succ, List.set_cons_zero, List.set_cons_succ, List.map_cons, List.map_nil, List.mapM_cons, List.mapM_nil, List.length_cons, List.length_nil, List.cons_append, List.nil_append, Bool.or_false, Bool.false_or, Bool.or_true, Bool.true_or, Bool.and_true, Bool.true_and, Bool.and_false, Bool.false_and, Bool.not_true, Bool.not_false, Bool.false_eq_true, if_true, if_false, reduceIte, List.replicate_succ, List.replicate_zero, List.zip_cons_cons, List.zip_nil_right, List.foldlM_cons, List.foldlM_nil, List.nodup_nil, c]) <;> rfl), (fun z => by cases z), fun _ => ends_rt (by (conv => lhs; simp [exs, ex, ev, evs, evo, eva, evi, evc, Tg.put, leaf?, bl?, int?, node?, tpl?, lsts?, T.isLeaf, T.frz, T.frzs, argOk, ioSlots, ioTs, ioPut, ME.mut, MEs.mut, MO.mut, ME.path, bfn, binop, cmpop, T.lst?, T.leaves, cc_run, cc_io, wipe, Option.bind_eq_bind, Option.bind_some, Option.map_some, Option.pure_def, List.getD_cons_zero, List.getD_cons_succ, List.set_cons_zero, List.set_cons_succ, List.map_cons, List.map_nil, List.mapM_cons, List.mapM_nil, List.length_cons, List.length_nil, List.cons_append, List.nil_append, Bool.or_false, Bool.false_or, Bool.or_true, Bool.true_or, Bool.and_true, Bool.true_and, Bool.and_false, Bool.false_and, Bool.not_true, Bool.not_false, Bool.false_eq_true, if_true, if_false, reduceIte, List.replicate_succ, List.replicate_zero, List.zip_cons_cons, List.zip_nil_right, List.foldlM_cons, List.foldlM_nil, List.nodup_nil]) <;> rfl) ⟨lo, ⟨l0, by omega, l3, fun m h1 h2 => l4 m (by omega) h2⟩, rfl⟩⟩
theorem left_run {k : Nat} {r : Rm k} {w : Int} (hn : k + 4 < n) (hk : k ≤ 900) (hW : w + 1 < W) (h0 : 0 ≤ w) (h1 : w ≤ 1000000000000000000) (ho : Ok k r) (h12 : nd k r ≤ 12) (mono : ∀ a b, 0 ≤ a → a ≤ b → wb k r a ≤ wb k r b) :
    ∃ x, callD T0 W n f_left [.leaf (enc k r), .leaf (.int w)] = some (x, []) ∧ ∃ m, LB (wb k r) w m ∧ x = .leaf (.int m) := by
  obtain ⟨x, e3, m, h, rfl⟩ := leavings_by_run (W := W) (n := n - 1) (r := r) (w := w) (by omega) hW h0 ho.fit mono
  refine ⟨_, ?_, m, h, rfl⟩
  refine call_ends (by omega) (show T0 f_left = some b_left from rfl) rfl rfl ?_
  have e1 := need_house_run (n := n - 1) (W := W) (by omega) (by omega) ho h12
  have e2 := need_far_run (n := n - 1) (W := W) (by omega) h0 h1
  exact ends_nx (by (conv => lhs; simp [exs, ex, ev, evs, evo, eva, evi, evc, Tg.put, leaf?, bl?, int?, node?, tpl?, lsts?, T.isLeaf, T.frz, T.frzs, argOk, ioSlots, ioTs, ioPut, ME.mut, MEs.mut, MO.mut, ME.path, bfn, binop, cmpop, T.lst?, T.leaves, cc_run, cc_io, wipe, Option.bind_eq_bind, Option.bind_some, Option.map_some, Option.pure_def, List.getD_cons_zero, List.getD_cons_succ, List.set_cons_zero, List.set_cons_succ, List.map_cons, List.map_nil, List.mapM_cons, List.mapM_nil, List.length_cons, List.length_nil, List.cons_append, List.nil_append, Bool.or_false, Bool.false_or, Bool.or_true, Bool.true_or, Bool.and_true, Bool.true_and, Bool.and_false, Bool.false_and, Bool.not_true, Bool.not_false, Bool.false_eq_true, if_true, if_false, reduceIte, List.replicate_succ, List.replicate_zero, List.zip_cons_cons, List.zip_nil_right, List.foldlM_cons, List.foldlM_nil, List.nodup_nil, io_need_house, e1]) <;> rfl) (ends_nx (by (conv => lhs; simp [exs, ex, ev, evs, evo, eva, evi, evc, Tg.put, leaf?, bl?, int?, node?, tpl?, lsts?, T.isLeaf, T.frz, T.frzs, argOk, ioSlots, ioTs, ioPut, ME.mut, MEs.mut, MO.mut, ME.path, bfn, binop, cmpop, T.lst?, T.leaves, cc_run, cc_io, wipe, Option.bind_eq_bind, Option.bind_some, Option.map_some, Option.pure_def, List.getD_cons_zero, List.getD_cons_succ, List.set_cons_zero, List.set_cons_succ, List.map_cons, List.map_nil, List.mapM_cons, List.mapM_nil, List.length_cons, List.length_nil, List.cons_append, List.nil_append, Bool.or_false, Bool.false_or, Bool.or_true, Bool.true_or, Bool.and_true, Bool.true_and, Bool.and_false, Bool.false_and, Bool.not_true, Bool.not_false, Bool.false_eq_true, if_true, if_false, reduceIte, List.replicate_succ, List.replicate_zero, List.zip_cons_cons, List.zip_nil_right, List.foldlM_cons, List.foldlM_nil, List.nodup_nil, io_need_far, e2]) <;> rfl) (ends_rt (by (conv => lhs; simp [exs, ex, ev, evs, evo, eva, evi, evc, Tg.put, leaf?, bl?, int?, node?, tpl?, lsts?, T.isLeaf, T.frz, T.frzs, argOk, ioSlots, ioTs, ioPut, ME.mut, MEs.mut, MO.mut, ME.path, bfn, binop, cmpop, T.lst?, T.leaves, cc_run, cc_io, wipe, Option.bind_eq_bind, Option.bind_some, Option.map_some, Option.pure_def, List.getD_cons_zero, List.getD_cons_succ, List.set_cons_zero, List.set_cons_succ, List.map_cons, List.map_nil, List.mapM_cons, List.mapM_nil, List.length_cons, List.length_nil, List.cons_append, List.nil_append, Bool.or_false, Bool.false_or, Bool.or_true, Bool.true_or, Bool.and_true, Bool.true_and, Bool.and_false, Bool.false_and, Bool.not_true, Bool.not_false, Bool.false_eq_true, if_true, if_false, reduceIte, List.replicate_succ, List.replicate_zero, List.zip_cons_cons, List.zip_nil_right, List.foldlM_cons, List.foldlM_nil, List.nodup_nil, io_leavings_by, e3]) <;> rfl) rfl))
end
end PD

/-! The plain law's parts: how the numbers grow; houses of the same form. -/
namespace PD
open PySem

theorem lf_nonneg {h len i m : Int} (hl : 0 < len) (hm : 0 ≤ m) : 0 ≤ lf h len i m := by
  unfold lf
  have := Int.emod_lt_of_pos (i - h) hl
  exact Int.ediv_nonneg (by omega) (by omega)
theorem lf_mono {h len i a b : Int} (hl : 0 < len) (hab : a ≤ b) : lf h len i a ≤ lf h len i b := Int.ediv_le_ediv hl (by omega)
theorem mul_le_r {x a b : Int} (h : a ≤ b) (hx : 0 ≤ x) : x * a ≤ x * b := Int.mul_le_mul_of_nonneg_left h hx
theorem mul_le_l {x a b : Int} (h : a ≤ b) (hx : 0 ≤ x) : a * x ≤ b * x := Int.mul_le_mul_of_nonneg_right h hx
theorem pu_nonneg {a b q : Int} (h0 : 0 ≤ b) (h1 : b ≤ a) (hq : 0 < q) : 0 ≤ pu a b q := by
  unfold pu
  rw [if_neg (by omega)]
  have := mul_le_l (x := a) (a := 1) (b := q) (by omega) (by omega)
  omega
theorem pu_mono {a b a' b' q q' : Int} (h0 : 0 ≤ a) (ha : a ≤ a') (hb : b' ≤ b) (hq : 0 < q) (hqq : q ≤ q') : pu a b q ≤ pu a' b' q' := by
  unfold pu
  rw [if_neg (by omega), if_neg (by omega)]
  have h1 := mul_le_l (x := a) hqq h0
  have h2 := mul_le_r (x := q') ha (by omega)
  omega

/-- two lists, item by item -/
inductive F2 {α β : Type} (R : α → β → Prop) : List α → List β → Prop
  | nil : F2 R [] []
  | cons {a : α} {b : β} {as : List α} {bs : List β} (h : R a b) (t : F2 R as bs) : F2 R (a :: as) (b :: bs)
theorem F2.len {α β : Type} {R : α → β → Prop} : ∀ {as : List α} {bs : List β}, F2 R as bs → as.length = bs.length
  | _, _, .nil => rfl
  | _, _, .cons _ t => congrArg (· + 1) (F2.len t)
theorem F2.refl {α : Type} {R : α → α → Prop} : ∀ {as : List α}, (∀ a ∈ as, R a a) → F2 R as as
  | [], _ => .nil
  | a :: as, h => .cons (h a List.mem_cons_self) (F2.refl fun x hx => h x (List.mem_cons_of_mem _ hx))
theorem F2.get {α β : Type} {R : α → β → Prop} : ∀ {as : List α} {bs : List β} {i : Nat} {a : α}, F2 R as bs → as[i]? = some a → ∃ b, bs[i]? = some b ∧ R a b
  | _, _, _, _, .nil, e => by simp at e
  | _, _, 0, _, .cons h _, e => by simp at e; subst e; exact ⟨_, rfl, h⟩
  | _, _, i + 1, _, .cons _ t, e => by simpa using F2.get (i := i) t (by simpa using e)
theorem F2.getN {α β : Type} {R : α → β → Prop} : ∀ {as : List α} {bs : List β} {i : Nat}, F2 R as bs → as[i]? = none → bs[i]? = none
  | _, _, _, .nil, _ => by simp
  | _, _, 0, .cons h _, e => by simp at e
  | _, _, i + 1, .cons _ t, e => by simpa using F2.getN (i := i) t (by simpa using e)
/-- the same rooms, hands and names; the doors' needs and standings so related -/
def Sh (R : Int → Int → Int → Int → Prop) : (k : Nat) → Rm k → Rm k → Prop
  | 0, s, t => s = t
  | _ + 1, Sum.inl s, Sum.inl t => s = t
  | k + 1, Sum.inr (h, ds), Sum.inr (h', ds') => h = h' ∧ F2 (fun x y => R x.1 x.2.1 y.1 y.2.1 ∧ Sh R k x.2.2 y.2.2) ds ds'
  | _ + 1, _, _ => False
def RLe (a b a' b' : Int) : Prop := 0 ≤ a ∧ a ≤ a' ∧ 0 ≤ b' ∧ b' ≤ b ∧ b ≤ a ∧ b' ≤ a'

theorem sh_po {R : Int → Int → Int → Int → Prop} : ∀ {k : Nat} {r r' : Rm k} {m : Int}, Sh R k r r' → po k r m = po k r' m
  | 0, r, r', _, h => by cases (show r = r' from h); rfl
  | _ + 1, Sum.inl s, Sum.inl t, _, h => by cases (show s = t from h); rfl
  | k + 1, Sum.inr (h, ds), Sum.inr (h', ds'), m, ⟨e, f⟩ => by
    cases e
    have hl := f.len
    simp only [po, hl]
    cases q : ds[((h + m - 1) % (ds'.length : Int)).toNat]? with
    | none => simp only [f.getN q]
    | some x =>
      obtain ⟨y, h1, h2⟩ := f.get q
      simp only [h1, sh_po h2.2]
  | _ + 1, Sum.inl _, Sum.inr _, _, h => h.elim
  | _ + 1, Sum.inr _, Sum.inl _, _, h => h.elim
theorem sh_nb {R : Int → Int → Int → Int → Prop} {nm : Str} : ∀ {k : Nat} {r r' : Rm k} {m : Int}, Sh R k r r' → nb nm k r m = nb nm k r' m
  | 0, r, r', _, h => by cases (show r = r' from h); rfl
  | _ + 1, Sum.inl s, Sum.inl t, _, h => by cases (show s = t from h); rfl
  | k + 1, Sum.inr (h, ds), Sum.inr (h', ds'), m, ⟨e, f⟩ => by
    cases e
    simp only [nb, f.len]
    have : ∀ {i : Nat} {xs ys : List (Int × Int × Rm k)}, F2 (fun x y => R x.1 x.2.1 y.1 y.2.1 ∧ Sh R k x.2.2 y.2.2) xs ys → nbL (nb nm k) h ds'.length m i xs = nbL (nb nm k) h ds'.length m i ys := by
      intro i xs ys f
      induction f generalizing i with
      | nil => rfl
      | cons h t ih => simp only [nbL, sh_nb h.2, ih]
    exact this f
  | _ + 1, Sum.inl _, Sum.inr _, _, h => h.elim
  | _ + 1, Sum.inr _, Sum.inl _, _, h => h.elim
theorem sh_li {R : Int → Int → Int → Int → Prop} : ∀ {k : Nat} {r r' : Rm k}, Sh R k r r' → li k r = li k r'
  | 0, _, _, _ => rfl
  | _ + 1, Sum.inl s, Sum.inl t, _ => rfl
  | k + 1, Sum.inr (h, ds), Sum.inr (h', ds'), ⟨e, f⟩ => by
    simp only [li, f.len]
    have : ∀ {a : Nat} {xs ys : List (Int × Int × Rm k)}, F2 (fun x y => R x.1 x.2.1 y.1 y.2.1 ∧ Sh R k x.2.2 y.2.2) xs ys → xs.foldl (fun a x => lb a (li k x.2.2)) a = ys.foldl (fun a x => lb a (li k x.2.2)) a := by
      intro a xs ys f
      induction f generalizing a with
      | nil => rfl
      | cons h t ih => simp only [List.foldl_cons, sh_li h.2, ih]
    rw [this f]
  | _ + 1, Sum.inl _, Sum.inr _, h => h.elim
  | _ + 1, Sum.inr _, Sum.inl _, h => h.elim
/-- greater needs, less standing, more leavings: no fewer walkers -/
theorem wb_nonneg : ∀ {k : Nat} {r : Rm k} {m : Int}, Fit k r → 0 ≤ m → 0 ≤ wb k r m
  | 0, _, _, _, h => h
  | _ + 1, Sum.inl _, _, _, h => h
  | k + 1, Sum.inr (h, ds), m, ⟨a, _, _, _, e⟩, hm => by
    have hl : (0 : Int) < ds.length := by omega
    have : ∀ (i : Int) (xs : List (Int × Int × Rm k)), (∀ x ∈ xs, 1 ≤ x.1 ∧ x.1 ≤ 100 ∧ 0 ≤ x.2.1 ∧ x.2.1 ≤ x.1 ∧ Fit k x.2.2) → 0 ≤ wbL (wb k) h ds.length m i xs := by
      intro i xs hx
      induction xs generalizing i with
      | nil => exact Int.le_refl 0
      | cons x xs ih =>
        have q := ih (i + 1) fun y hy => hx y (List.mem_cons_of_mem _ hy)
        obtain ⟨h1, h2, h3, h4, h5⟩ := hx x List.mem_cons_self
        simp only [wbL]
        split
        · rename_i c
          have := pu_nonneg h3 h4 c
          have := wb_nonneg h5 (Int.le_of_lt c)
          omega
        · omega
    exact this 0 ds e
theorem wb_le : ∀ {k : Nat} {r r' : Rm k} {m m' : Int}, Fit k r → Fit k r' → Sh RLe k r r' → 0 ≤ m → m ≤ m' → wb k r m ≤ wb k r' m'
  | 0, _, _, _, _, _, _, _, _, h => h
  | _ + 1, Sum.inl _, Sum.inl _, _, _, _, _, _, _, h => h
  | k + 1, Sum.inr (h, ds), Sum.inr (h', ds'), m, m', ⟨a, _, _, _, e⟩, ⟨_, _, _, _, e'⟩, ⟨eh, f⟩, hm, hmm => by
    cases eh
    have hl : (0 : Int) < ds'.length := by have := f.len; omega
    simp only [wb, f.len]
    have : ∀ {i : Int} {xs ys : List (Int × Int × Rm k)}, F2 (fun x y => RLe x.1 x.2.1 y.1 y.2.1 ∧ Sh RLe k x.2.2 y.2.2) xs ys → (∀ x ∈ xs, Fit k x.2.2) → (∀ x ∈ ys, Fit k x.2.2) → wbL (wb k) h ds'.length m i xs ≤ wbL (wb k) h ds'.length m' i ys := by
      intro i xs ys f
      induction f generalizing i with
      | nil => intro _ _; exact Int.le_refl _
      | cons hh t ih =>
        intro hx hy
        have q := ih (i := i + 1) (fun z hz => hx z (List.mem_cons_of_mem _ hz)) fun z hz => hy z (List.mem_cons_of_mem _ hz)
        obtain ⟨⟨r1, r2, r3, r4, r5, r6⟩, hs⟩ := hh
        have fx := hx _ List.mem_cons_self
        have fy := hy _ List.mem_cons_self
        have l := lf_mono (h := h) (i := i) hl hmm
        have l0 := lf_nonneg (h := h) (i := i) hl hm
        simp only [wbL]
        split
        · rename_i c
          rw [if_pos (by omega)]
          have p1 := pu_mono r1 r2 r4 c l
          have p2 := wb_le fx fy hs l0 l
          omega
        · split
          · rename_i c c'
            have p1 := pu_nonneg r3 r6 c'
            have p2 := wb_nonneg fy (Int.le_of_lt c')
            omega
          · omega
    exact this f (fun x hx => (e x hx).2.2.2.2) fun x hx => (e' x hx).2.2.2.2
  | _ + 1, Sum.inl _, Sum.inr _, _, _, _, _, h, _, _ => h.elim
  | _ + 1, Sum.inr _, Sum.inl _, _, _, _, _, h, _, _ => h.elim
theorem sh_refl : ∀ {k : Nat} {r : Rm k}, Fit k r → Sh RLe k r r
  | 0, _, _ => rfl
  | _ + 1, Sum.inl _, _ => rfl
  | k + 1, Sum.inr (h, ds), ⟨_, _, _, _, e⟩ => ⟨rfl, F2.refl fun x hx => by
      obtain ⟨h1, h2, h3, h4, h5⟩ := e x hx
      exact ⟨⟨by omega, Int.le_refl _, h3, Int.le_refl _, h4, h4⟩, sh_refl h5⟩⟩
theorem wb_mono {k : Nat} {r : Rm k} (hf : Fit k r) (a b : Int) (h0 : 0 ≤ a) (h : a ≤ b) : wb k r a ≤ wb k r b := wb_le hf hf (sh_refl hf) h0 h
end PD

/-! names_in, named. -/
namespace PD
open PySem

theorem ni_len : ∀ (k : Nat) (r : Rm k), (ni k r).length ≤ nd k r + 1
  | 0, _ => Nat.le_add_left 1 _
  | _ + 1, Sum.inl _ => Nat.le_add_left 1 _
  | k + 1, Sum.inr (h, ds) => by
    have : ∀ xs : List (Int × Int × Rm k), (xs.map fun x => ni k x.2.2).flatten.length ≤ (xs.map fun x => 1 + nd k x.2.2).sum := by
      intro xs
      induction xs with
      | nil => simp
      | cons x xs ih =>
        have := ni_len k x.2.2
        simp only [List.map_cons, List.flatten_cons, List.length_append, List.sum_cons]
        omega
    exact Nat.le_succ_of_le (this ds)
theorem po_ni : ∀ {k : Nat} {r : Rm k} {m : Int}, Fit k r → (po k r m).2 ∈ ni k r
  | 0, _, _, _ => List.Mem.head _
  | _ + 1, Sum.inl _, _, _ => by simp [po, ni]
  | k + 1, Sum.inr (h, ds), m, ⟨a, _, _, _, e⟩ => by
    have p0 := Int.emod_nonneg (h + m - 1) (show (ds.length : Int) ≠ 0 by omega)
    have p1 := Int.emod_lt_of_pos (h + m - 1) (show (0 : Int) < ds.length by omega)
    have hdl : ((h + m - 1) % (ds.length : Int)).toNat < ds.length := by omega
    simp only [po, List.getElem?_eq_getElem hdl, ni]
    exact List.mem_flatten.mpr ⟨_, List.mem_map_of_mem (List.getElem_mem hdl), po_ni (e _ (List.getElem_mem hdl)).2.2.2.2⟩
theorem ni_ok : ∀ {k : Nat} {r : Rm k}, Ok k r → ∀ s ∈ ni k r, NameOk s
  | 0, r, h, s, hs => by
    have e : s = (show Str from r) := List.mem_singleton.mp hs
    rw [e]; exact h
  | _ + 1, Sum.inl t, h, s, hs => by
    have : s = t := by simpa [ni] using hs
    subst this; exact h
  | k + 1, Sum.inr (h, ds), ⟨_, _, _, _, e⟩, s, hs => by
    obtain ⟨l, hl, hs⟩ := List.mem_flatten.mp hs
    obtain ⟨x, hx, rfl⟩ := List.mem_map.mp hl
    exact ni_ok (e x hx).2 s hs
theorem nb_nonneg {nm : Str} : ∀ {k : Nat} {r : Rm k} {m : Int}, Fit k r → 0 ≤ m → 0 ≤ nb nm k r m
  | 0, _, _, _, h => by simp only [nb, nb0]; split <;> omega
  | _ + 1, Sum.inl _, _, _, h => by simp only [nb, nb0]; split <;> omega
  | k + 1, Sum.inr (h, ds), m, ⟨a, _, _, _, e⟩, hm => by
    have : ∀ (i : Nat) (xs : List (Int × Int × Rm k)), (∀ x ∈ xs, Fit k x.2.2) → 0 ≤ nbL (nb nm k) h ds.length m i xs := by
      intro i xs hx
      induction xs generalizing i with
      | nil => exact Int.le_refl 0
      | cons x xs ih =>
        have q := ih (i + 1) fun y hy => hx y (List.mem_cons_of_mem _ hy)
        simp only [nbL]
        split
        · rename_i c
          have := nb_nonneg (nm := nm) (hx x List.mem_cons_self) (Int.le_of_lt c)
          omega
        · omega
    exact this 0 ds fun x hx => (e x hx).2.2.2.2
theorem nb_mono {nm : Str} : ∀ {k : Nat} {r : Rm k} {m m' : Int}, Fit k r → 0 ≤ m → m ≤ m' → nb nm k r m ≤ nb nm k r m'
  | 0, _, _, _, _, _, h => by simp only [nb, nb0]; split <;> omega
  | _ + 1, Sum.inl _, _, _, _, _, h => by simp only [nb, nb0]; split <;> omega
  | k + 1, Sum.inr (h, ds), m, m', ⟨a, _, _, _, e⟩, hm, hmm => by
    have hl : (0 : Int) < ds.length := by omega
    have : ∀ (i : Nat) (xs : List (Int × Int × Rm k)), (∀ x ∈ xs, Fit k x.2.2) → nbL (nb nm k) h ds.length m i xs ≤ nbL (nb nm k) h ds.length m' i xs := by
      intro i xs hx
      induction xs generalizing i with
      | nil => exact Int.le_refl 0
      | cons x xs ih =>
        have q := ih (i + 1) fun y hy => hx y (List.mem_cons_of_mem _ hy)
        have fx := hx x List.mem_cons_self
        have l := lf_mono (h := h) (i := i) hl hmm
        have l0 := lf_nonneg (h := h) (i := i) hl hm
        simp only [nbL]
        split
        · rw [if_pos (by omega)]
          have := nb_mono (nm := nm) fx l0 l
          omega
        · split
          · rename_i c c'
            have := nb_nonneg (nm := nm) fx (Int.le_of_lt c')
            omega
          · omega
    exact this 0 ds fun x hx => (e x hx).2.2.2.2
theorem lf_own {h len m : Int} (hl : 0 < len) (hm : 1 ≤ m) : 0 < lf h len ((h + m - 1) % len) m := by
  unfold lf
  have e : ((h + m - 1) % len - h) % len = (m - 1) % len := by
    rw [Int.emod_sub_emod]
    congr 1; omega
  rw [e]
  have h1 := Int.emod_nonneg (m - 1) (show len ≠ 0 by omega)
  have h2 : (m - 1) % len ≤ m - 1 := by
    have := Int.mul_ediv_add_emod (m - 1) len
    have : 0 ≤ len * ((m - 1) / len) := Int.mul_nonneg (by omega) (Int.ediv_nonneg (by omega) (by omega))
    omega
  exact Int.lt_of_lt_of_le (by omega) (Int.le_ediv_of_mul_le hl (show 1 * len ≤ _ by omega))
/-- the leaving's name is told at least once among so many -/
theorem nb_own : ∀ {k : Nat} {r : Rm k} {m : Int}, Fit k r → 1 ≤ m → 1 ≤ nb (po k r m).2 k r m
  | 0, r, m, _, h => by
    have q : ∀ s : Str, 1 ≤ nb0 s s m := fun s => by simp [nb0, h]
    exact q r
  | _ + 1, Sum.inl _, _, _, h => by simp [nb, nb0, po, h]
  | k + 1, Sum.inr (h, ds), m, ⟨a, _, _, _, e⟩, hm => by
    have hl : (0 : Int) < ds.length := by omega
    have p0 := Int.emod_nonneg (h + m - 1) (show (ds.length : Int) ≠ 0 by omega)
    have p1 := Int.emod_lt_of_pos (h + m - 1) hl
    have own := lf_own (h := h) hl hm
    generalize hd : (h + m - 1) % (ds.length : Int) = d at *
    have hdl : d.toNat < ds.length := by omega
    have fx := (e _ (List.getElem_mem hdl)).2.2.2.2
    have ih := nb_own fx (show 1 ≤ lf h ds.length d m by omega)
    have en : (po (k + 1) (Sum.inr (h, ds)) m).2 = (po k ds[d.toNat].2.2 (lf h ds.length d m)).2 := by
      simp only [po, hd, List.getElem?_eq_getElem hdl]
    rw [en]
    generalize (po k ds[d.toNat].2.2 (lf h ds.length d m)).2 = nm at *
    have : ∀ (i j : Nat) (xs : List (Int × Int × Rm k)) (hj : j < xs.length), (∀ x ∈ xs, Fit k x.2.2) → 0 < lf h ds.length ((i + j : Nat) : Int) m → nb nm k xs[j].2.2 (lf h ds.length ((i + j : Nat) : Int) m) ≤ nbL (nb nm k) h ds.length m i xs := by
      intro i j xs
      induction xs generalizing i j with
      | nil => intro hj; simp at hj
      | cons x xs ih =>
        intro hj hx hp
        have rest : ∀ (i : Nat) (ys : List (Int × Int × Rm k)), (∀ x ∈ ys, Fit k x.2.2) → 0 ≤ nbL (nb nm k) h ds.length m i ys := by
          intro i ys hy
          induction ys generalizing i with
          | nil => exact Int.le_refl 0
          | cons y ys ih =>
            have q := ih (i + 1) fun z hz => hy z (List.mem_cons_of_mem _ hz)
            simp only [nbL]
            split
            · rename_i c
              have := nb_nonneg (nm := nm) (hy y List.mem_cons_self) (Int.le_of_lt c)
              omega
            · omega
        cases j with
        | zero =>
          have q := rest (i + 1) xs fun z hz => hx z (List.mem_cons_of_mem _ hz)
          rw [Nat.add_zero] at hp ⊢
          simp only [nbL, if_pos hp, List.getElem_cons_zero]
          omega
        | succ j =>
          have e2 : i + (j + 1) = (i + 1) + j := by omega
          rw [e2] at hp ⊢
          have q := ih (i + 1) j (by simpa using hj) (fun z hz => hx z (List.mem_cons_of_mem _ hz)) hp
          simp only [nbL, List.getElem_cons_succ]
          split
          · rename_i c
            have := nb_nonneg (nm := nm) (hx x List.mem_cons_self) (Int.le_of_lt c)
            omega
          · omega
    have q := this 0 d.toNat ds hdl (fun x hx => (e x hx).2.2.2.2) (by rw [Nat.zero_add, Int.toNat_of_nonneg p0]; exact own)
    rw [Nat.zero_add, Int.toNat_of_nonneg p0] at q
    exact Int.le_trans ih q

section
variable {W n : Nat}
theorem names_in_run {W : Nat} : ∀ (k n : Nat) (r : Rm k), k + 1 < n → nd k r ≤ 1000 → callD T0 W n f_names_in [.leaf (enc k r)] = some (.node ((ni k r).map fun s => .leaf (.str s)), []) := by
  intro k
  induction k with
  | zero =>
    intro n r hn _
    refine call_ends (by omega) (show T0 f_names_in = some b_names_in from rfl) rfl rfl ?_
    have e := is_out_run (W := W) (n := n - 1) (d := .str r) (by omega)
    exact ends_tt (by (conv => lhs; simp [exs, ex, ev, evs, evo, eva, evi, evc, Tg.put, leaf?, bl?, int?, node?, tpl?, lsts?, T.isLeaf, T.frz, T.frzs, argOk, ioSlots, ioTs, ioPut, ME.mut, MEs.mut, MO.mut, ME.path, bfn, binop, cmpop, T.lst?, T.leaves, cc_run, cc_io, wipe, Option.bind_eq_bind, Option.bind_some, Option.map_some, Option.pure_def, List.getD_cons_zero, List.getD_cons_succ, List.set_cons_zero, List.set_cons_succ, List.map_cons, List.map_nil, List.mapM_cons, List.mapM_nil, List.length_cons, List.length_nil, List.cons_append, List.nil_append, Bool.or_false, Bool.false_or, Bool.or_true, Bool.true_or, Bool.and_true, Bool.true_and, Bool.and_false, Bool.false_and, Bool.not_true, Bool.not_false, Bool.false_eq_true, if_true, if_false, reduceIte, List.replicate_succ, List.replicate_zero, List.zip_cons_cons, List.zip_nil_right, List.foldlM_cons, List.foldlM_nil, List.nodup_nil, enc, e, io_is_out, D.isStr]) <;> rfl) (ends_rt (by (conv => lhs; simp [exs, ex, ev, evs, evo, eva, evi, evc, Tg.put, leaf?, bl?, int?, node?, tpl?, lsts?, T.isLeaf, T.frz, T.frzs, argOk, ioSlots, ioTs, ioPut, ME.mut, MEs.mut, MO.mut, ME.path, bfn, binop, cmpop, T.lst?, T.leaves, cc_run, cc_io, wipe, Option.bind_eq_bind, Option.bind_some, Option.map_some, Option.pure_def, List.getD_cons_zero, List.getD_cons_succ, List.set_cons_zero, List.set_cons_succ, List.map_cons, List.map_nil, List.mapM_cons, List.mapM_nil, List.length_cons, List.length_nil, List.cons_append, List.nil_append, Bool.or_false, Bool.false_or, Bool.or_true, Bool.true_or, Bool.and_true, Bool.true_and, Bool.and_false, Bool.false_and, Bool.not_true, Bool.not_false, Bool.false_eq_true, if_true, if_false, reduceIte, List.replicate_succ, List.replicate_zero, List.zip_cons_cons, List.zip_nil_right, List.foldlM_cons, List.foldlM_nil, List.nodup_nil, lim]) <;> rfl) rfl)
  | succ k ih =>
    intro n r hn hnd
    refine call_ends (by omega) (show T0 f_names_in = some b_names_in from rfl) rfl rfl ?_
    cases r with
    | inl s =>
      have e := is_out_run (W := W) (n := n - 1) (d := .str s) (by omega)
      exact ends_tt (by (conv => lhs; simp [exs, ex, ev, evs, evo, eva, evi, evc, Tg.put, leaf?, bl?, int?, node?, tpl?, lsts?, T.isLeaf, T.frz, T.frzs, argOk, ioSlots, ioTs, ioPut, ME.mut, MEs.mut, MO.mut, ME.path, bfn, binop, cmpop, T.lst?, T.leaves, cc_run, cc_io, wipe, Option.bind_eq_bind, Option.bind_some, Option.map_some, Option.pure_def, List.getD_cons_zero, List.getD_cons_succ, List.set_cons_zero, List.set_cons_succ, List.map_cons, List.map_nil, List.mapM_cons, List.mapM_nil, List.length_cons, List.length_nil, List.cons_append, List.nil_append, Bool.or_false, Bool.false_or, Bool.or_true, Bool.true_or, Bool.and_true, Bool.true_and, Bool.and_false, Bool.false_and, Bool.not_true, Bool.not_false, Bool.false_eq_true, if_true, if_false, reduceIte, List.replicate_succ, List.replicate_zero, List.zip_cons_cons, List.zip_nil_right, List.foldlM_cons, List.foldlM_nil, List.nodup_nil, enc, e, io_is_out, D.isStr]) <;> rfl) (ends_rt (by (conv => lhs; simp [exs, ex, ev, evs, evo, eva, evi, evc, Tg.put, leaf?, bl?, int?, node?, tpl?, lsts?, T.isLeaf, T.frz, T.frzs, argOk, ioSlots, ioTs, ioPut, ME.mut, MEs.mut, MO.mut, ME.path, bfn, binop, cmpop, T.lst?, T.leaves, cc_run, cc_io, wipe, Option.bind_eq_bind, Option.bind_some, Option.map_some, Option.pure_def, List.getD_cons_zero, List.getD_cons_succ, List.set_cons_zero, List.set_cons_succ, List.map_cons, List.map_nil, List.mapM_cons, List.mapM_nil, List.length_cons, List.length_nil, List.cons_append, List.nil_append, Bool.or_false, Bool.false_or, Bool.or_true, Bool.true_or, Bool.and_true, Bool.true_and, Bool.and_false, Bool.false_and, Bool.not_true, Bool.not_false, Bool.false_eq_true, if_true, if_false, reduceIte, List.replicate_succ, List.replicate_zero, List.zip_cons_cons, List.zip_nil_right, List.foldlM_cons, List.foldlM_nil, List.nodup_nil, lim]) <;> rfl) rfl)
    | inr q =>
      obtain ⟨h, ds⟩ := q
      have e := is_out_run (W := W) (n := n - 1) (d := .tup [.int h, .tup (ds.map (encD k))]) (by omega)
      refine ends_ff0 (by (conv => lhs; simp [exs, ex, ev, evs, evo, eva, evi, evc, Tg.put, leaf?, bl?, int?, node?, tpl?, lsts?, T.isLeaf, T.frz, T.frzs, argOk, ioSlots, ioTs, ioPut, ME.mut, MEs.mut, MO.mut, ME.path, bfn, binop, cmpop, T.lst?, T.leaves, cc_run, cc_io, wipe, Option.bind_eq_bind, Option.bind_some, Option.map_some, Option.pure_def, List.getD_cons_zero, List.getD_cons_succ, List.set_cons_zero, List.set_cons_succ, List.map_cons, List.map_nil, List.mapM_cons, List.mapM_nil, List.length_cons, List.length_nil, List.cons_append, List.nil_append, Bool.or_false, Bool.false_or, Bool.or_true, Bool.true_or, Bool.and_true, Bool.true_and, Bool.and_false, Bool.false_and, Bool.not_true, Bool.not_false, Bool.false_eq_true, if_true, if_false, reduceIte, List.replicate_succ, List.replicate_zero, List.zip_cons_cons, List.zip_nil_right, List.foldlM_cons, List.foldlM_nil, List.nodup_nil, enc, e, io_is_out, D.isStr]) <;> rfl) (ends_nx (by (conv => lhs; simp [exs, ex, ev, evs, evo, eva, evi, evc, Tg.put, leaf?, bl?, int?, node?, tpl?, lsts?, T.isLeaf, T.frz, T.frzs, argOk, ioSlots, ioTs, ioPut, ME.mut, MEs.mut, MO.mut, ME.path, bfn, binop, cmpop, T.lst?, T.leaves, cc_run, cc_io, wipe, Option.bind_eq_bind, Option.bind_some, Option.map_some, Option.pure_def, List.getD_cons_zero, List.getD_cons_succ, List.set_cons_zero, List.set_cons_succ, List.map_cons, List.map_nil, List.mapM_cons, List.mapM_nil, List.length_cons, List.length_nil, List.cons_append, List.nil_append, Bool.or_false, Bool.false_or, Bool.or_true, Bool.true_or, Bool.and_true, Bool.true_and, Bool.and_false, Bool.false_and, Bool.not_true, Bool.not_false, Bool.false_eq_true, if_true, if_false, reduceIte, List.replicate_succ, List.replicate_zero, List.zip_cons_cons, List.zip_nil_right, List.foldlM_cons, List.foldlM_nil, List.nodup_nil, lim]) <;> rfl) ?_)
      have hnd' : (ds.map fun x => 1 + nd k x.2.2).sum ≤ 1000 := hnd
      refine ends_for (fun it env => ∃ (xs : List (Int × Int × Rm k)) (acc : List Str) (a : Option T), it = xs.map (encD k) ∧ env = [some (.leaf (.tup [.int h, .tup (ds.map (encD k))])), some (.node (acc.map fun s => .leaf (.str s))), a] ∧
        acc ++ (xs.map fun x => ni k x.2.2).flatten = ni (k + 1) (Sum.inr (h, ds)) ∧ acc.length + (xs.map fun x => 1 + nd k x.2.2).sum ≤ 1000) (by (conv => lhs; simp [exs, ex, ev, evs, evo, eva, evi, evc, Tg.put, leaf?, bl?, int?, node?, tpl?, lsts?, T.isLeaf, T.frz, T.frzs, argOk, ioSlots, ioTs, ioPut, ME.mut, MEs.mut, MO.mut, ME.path, bfn, binop, cmpop, T.lst?, T.leaves, cc_run, cc_io, wipe, Option.bind_eq_bind, Option.bind_some, Option.map_some, Option.pure_def, List.getD_cons_zero, List.getD_cons_succ, List.set_cons_zero, List.set_cons_succ, List.map_cons, List.map_nil, List.mapM_cons, List.mapM_nil, List.length_cons, List.length_nil, List.cons_append, List.nil_append, Bool.or_false, Bool.false_or, Bool.or_true, Bool.true_or, Bool.and_true, Bool.true_and, Bool.and_false, Bool.false_and, Bool.not_true, Bool.not_false, Bool.false_eq_true, if_true, if_false, reduceIte, List.replicate_succ, List.replicate_zero, List.zip_cons_cons, List.zip_nil_right, List.foldlM_cons, List.foldlM_nil, List.nodup_nil, index, atI, ixN]) <;> rfl)
        ⟨ds, [], _, rfl, rfl, rfl, by simpa using hnd'⟩ ?_ ?_
      · rintro d its r1 ⟨xs, acc, a, e1, rfl, e3, e4⟩
        cases xs with
        | nil => simp at e1
        | cons x xs =>
          simp only [List.map_cons, List.cons.injEq, List.sum_cons] at e1 e4
          obtain ⟨rfl, rfl⟩ := e1
          have f := ih (n - 1) x.2.2 (by omega) (by omega)
          have l := ni_len k x.2.2
          have l4 : acc.length + (ni k x.2.2).length ≤ lim := by unfold lim; omega
          refine ⟨_, (by (conv => lhs; simp [exs, ex, ev, evs, evo, eva, evi, evc, Tg.put, leaf?, bl?, int?, node?, tpl?, lsts?, T.isLeaf, T.frz, T.frzs, argOk, ioSlots, ioTs, ioPut, ME.mut, MEs.mut, MO.mut, ME.path, bfn, binop, cmpop, T.lst?, T.leaves, cc_run, cc_io, wipe, Option.bind_eq_bind, Option.bind_some, Option.map_some, Option.pure_def, List.getD_cons_zero, List.getD_cons_succ, List.set_cons_zero, List.set_cons_succ, List.map_cons, List.map_nil, List.mapM_cons, List.mapM_nil, List.length_cons, List.length_nil, List.cons_append, List.nil_append, Bool.or_false, Bool.false_or, Bool.or_true, Bool.true_or, Bool.and_true, Bool.true_and, Bool.and_false, Bool.false_and, Bool.not_true, Bool.not_false, Bool.false_eq_true, if_true, if_false, reduceIte, List.replicate_succ, List.replicate_zero, List.zip_cons_cons, List.zip_nil_right, List.foldlM_cons, List.foldlM_nil, List.nodup_nil]) <;> rfl), ends_nx (by (conv => lhs; simp [exs, ex, ev, evs, evo, eva, evi, evc, Tg.put, leaf?, bl?, int?, node?, tpl?, lsts?, T.isLeaf, T.frz, T.frzs, argOk, ioSlots, ioTs, ioPut, ME.mut, MEs.mut, MO.mut, ME.path, bfn, binop, cmpop, T.lst?, T.leaves, cc_run, cc_io, wipe, Option.bind_eq_bind, Option.bind_some, Option.map_some, Option.pure_def, List.getD_cons_zero, List.getD_cons_succ, List.set_cons_zero, List.set_cons_succ, List.map_cons, List.map_nil, List.mapM_cons, List.mapM_nil, List.length_cons, List.length_nil, List.cons_append, List.nil_append, Bool.or_false, Bool.false_or, Bool.or_true, Bool.true_or, Bool.and_true, Bool.true_and, Bool.and_false, Bool.false_and, Bool.not_true, Bool.not_false, Bool.false_eq_true, if_true, if_false, reduceIte, List.replicate_succ, List.replicate_zero, List.zip_cons_cons, List.zip_nil_right, List.foldlM_cons, List.foldlM_nil, List.nodup_nil, index, atI, ixN, io_names_in, f, l4]) <;> rfl) (ends_nil ⟨xs, acc ++ ni k x.2.2, some (.leaf (encD k x)), rfl, ?_, ?_, ?_⟩)⟩
          · simp
          · rw [← e3]; simp
          · simp; omega
      · rintro r1 ⟨xs, acc, a, e1, rfl, e3, e4⟩
        cases xs with
        | cons x xs => simp at e1
        | nil =>
          refine ends_rt (by (conv => lhs; simp [exs, ex, ev, evs, evo, eva, evi, evc, Tg.put, leaf?, bl?, int?, node?, tpl?, lsts?, T.isLeaf, T.frz, T.frzs, argOk, ioSlots, ioTs, ioPut, ME.mut, MEs.mut, MO.mut, ME.path, bfn, binop, cmpop, T.lst?, T.leaves, cc_run, cc_io, wipe, Option.bind_eq_bind, Option.bind_some, Option.map_some, Option.pure_def, List.getD_cons_zero, List.getD_cons_succ, List.set_cons_zero, List.set_cons_succ, List.map_cons, List.map_nil, List.mapM_cons, List.mapM_nil, List.length_cons, List.length_nil, List.cons_append, List.nil_append, Bool.or_false, Bool.false_or, Bool.or_true, Bool.true_or, Bool.and_true, Bool.true_and, Bool.and_false, Bool.false_and, Bool.not_true, Bool.not_false, Bool.false_eq_true, if_true, if_false, reduceIte, List.replicate_succ, List.replicate_zero, List.zip_cons_cons, List.zip_nil_right, List.foldlM_cons, List.foldlM_nil, List.nodup_nil]) <;> rfl) ?_
          rw [rx_rt, ← e3]
          simp
/-- what named finds: the first leaving up to which the name is told so often -/
structure NB (nm : Str) (k : Nat) (r : Rm k) (c m : Int) : Prop where
  one : 1 ≤ m
  ge : c ≤ nb nm k r m
  lt : ∀ j, 1 ≤ j → j < m → nb nm k r j < c
theorem inn_mem {nm : Str} : ∀ (xs : List Str), nm ∈ xs → (xs.map D.str).any (fun y => D.eqb y (.str nm)) = true
  | x :: xs, h => by
    rw [List.map_cons, List.any_cons, eqb_str]
    rcases List.mem_cons.mp h with rfl | h
    · simp
    · rw [inn_mem xs h, Bool.or_true]
theorem flat_strs : ∀ xs : List Str, (xs.map D.str).all D.flat = true
  | [] => rfl
  | x :: xs => by rw [List.map_cons, List.all_cons, flat_strs xs]; rfl
theorem named_run {k : Nat} {r : Rm k} {nm : Str} {c N : Int} (hn : k + 4 < n) (hk : k ≤ 900) (hW : 1000000000000000000000 < W) (ho : Ok k r) (h12 : nd k r ≤ 12) (hmem : nm ∈ ni k r) (h1 : 1 ≤ c) (h2 : c ≤ 1000000000000000) (hN : c ≤ nb nm k r N) (hN0 : 0 ≤ N) (hN1 : N ≤ 1000000000000000) :
    ∃ x, callD T0 W n f_named [.leaf (enc k r), .leaf (.str nm), .leaf (.int c)] = some (x, []) ∧ ∃ m, NB nm k r c m ∧ x = .leaf (.tup [.int (wb k r m - 1), .tup ((po k r m).1.map D.int)]) := by
  refine call_ex (by omega) (show T0 f_named = some b_named from rfl) rfl rfl ?_
  have fit := ho.fit
  have pl := (ni_ok ho nm hmem).plain
  have e1 := need_house_run (n := n - 1) (W := W) (by omega) (by omega) ho h12
  have e2 := need_far_run (n := n - 1) (W := W) (by omega) h1 h2
  obtain ⟨xs, e3, e4⟩ : ∃ xs, callD T0 W (n - 1) f_names_in [.leaf (enc k r)] = some (.node xs, []) ∧ inn (.str nm) (.lst (T.frzs xs)) = some true := by
    refine ⟨_, names_in_run (W := W) k (n - 1) r (by omega) (by omega), ?_⟩
    simp only [frz_fn, inn, flat_strs, inn_mem _ hmem]
    rfl
  refine ends_nx (by (conv => lhs; simp [exs, ex, ev, evs, evo, eva, evi, evc, Tg.put, leaf?, bl?, int?, node?, tpl?, lsts?, T.isLeaf, T.frz, T.frzs, argOk, ioSlots, ioTs, ioPut, ME.mut, MEs.mut, MO.mut, ME.path, bfn, binop, cmpop, T.lst?, T.leaves, cc_run, cc_io, wipe, Option.bind_eq_bind, Option.bind_some, Option.map_some, Option.pure_def, List.getD_cons_zero, List.getD_cons_succ, List.set_cons_zero, List.set_cons_succ, List.map_cons, List.map_nil, List.mapM_cons, List.mapM_nil, List.length_cons, List.length_nil, List.cons_append, List.nil_append, Bool.or_false, Bool.false_or, Bool.or_true, Bool.true_or, Bool.and_true, Bool.true_and, Bool.and_false, Bool.false_and, Bool.not_true, Bool.not_false, Bool.false_eq_true, if_true, if_false, reduceIte, List.replicate_succ, List.replicate_zero, List.zip_cons_cons, List.zip_nil_right, List.foldlM_cons, List.foldlM_nil, List.nodup_nil, io_need_house, e1]) <;> rfl) (ends_ff0 (by (conv => lhs; simp [exs, ex, ev, evs, evo, eva, evi, evc, Tg.put, leaf?, bl?, int?, node?, tpl?, lsts?, T.isLeaf, T.frz, T.frzs, argOk, ioSlots, ioTs, ioPut, ME.mut, MEs.mut, MO.mut, ME.path, bfn, binop, cmpop, T.lst?, T.leaves, cc_run, cc_io, wipe, Option.bind_eq_bind, Option.bind_some, Option.map_some, Option.pure_def, List.getD_cons_zero, List.getD_cons_succ, List.set_cons_zero, List.set_cons_succ, List.map_cons, List.map_nil, List.mapM_cons, List.mapM_nil, List.length_cons, List.length_nil, List.cons_append, List.nil_append, Bool.or_false, Bool.false_or, Bool.or_true, Bool.true_or, Bool.and_true, Bool.true_and, Bool.and_false, Bool.false_and, Bool.not_true, Bool.not_false, Bool.false_eq_true, if_true, if_false, reduceIte, List.replicate_succ, List.replicate_zero, List.zip_cons_cons, List.zip_nil_right, List.foldlM_cons, List.foldlM_nil, List.nodup_nil, io_names_in, e3, e4]) <;> rfl) (ends_nx (by (conv => lhs; simp [exs, ex, ev, evs, evo, eva, evi, evc, Tg.put, leaf?, bl?, int?, node?, tpl?, lsts?, T.isLeaf, T.frz, T.frzs, argOk, ioSlots, ioTs, ioPut, ME.mut, MEs.mut, MO.mut, ME.path, bfn, binop, cmpop, T.lst?, T.leaves, cc_run, cc_io, wipe, Option.bind_eq_bind, Option.bind_some, Option.map_some, Option.pure_def, List.getD_cons_zero, List.getD_cons_succ, List.set_cons_zero, List.set_cons_succ, List.map_cons, List.map_nil, List.mapM_cons, List.mapM_nil, List.length_cons, List.length_nil, List.cons_append, List.nil_append, Bool.or_false, Bool.false_or, Bool.or_true, Bool.true_or, Bool.and_true, Bool.true_and, Bool.and_false, Bool.false_and, Bool.not_true, Bool.not_false, Bool.false_eq_true, if_true, if_false, reduceIte, List.replicate_succ, List.replicate_zero, List.zip_cons_cons, List.zip_nil_right, List.foldlM_cons, List.foldlM_nil, List.nodup_nil, io_need_far, e2]) <;> rfl) (ends_nx (by (conv => lhs; simp [exs, ex, ev, evs, evo, eva, evi, evc, Tg.put, leaf?, bl?, int?, node?, tpl?, lsts?, T.isLeaf, T.frz, T.frzs, argOk, ioSlots, ioTs, ioPut, ME.mut, MEs.mut, MO.mut, ME.path, bfn, binop, cmpop, T.lst?, T.leaves, cc_run, cc_io, wipe, Option.bind_eq_bind, Option.bind_some, Option.map_some, Option.pure_def, List.getD_cons_zero, List.getD_cons_succ, List.set_cons_zero, List.set_cons_succ, List.map_cons, List.map_nil, List.mapM_cons, List.mapM_nil, List.length_cons, List.length_nil, List.cons_append, List.nil_append, Bool.or_false, Bool.false_or, Bool.or_true, Bool.true_or, Bool.and_true, Bool.true_and, Bool.and_false, Bool.false_and, Bool.not_true, Bool.not_false, Bool.false_eq_true, if_true, if_false, reduceIte, List.replicate_succ, List.replicate_zero, List.zip_cons_cons, List.zip_nil_right, List.foldlM_cons, List.foldlM_nil, List.nodup_nil, setAll]) <;> rfl) ?_)))
  have en : ∀ m, callD T0 W (n - 1) f_names_by [.leaf (enc k r), .leaf (.str nm), .leaf (.int m)] = some (.leaf (.int (nb nm k r m)), []) := fun m => names_by_run (W := W) pl k (n - 1) r m (by omega) ho
  refine ends_whl (fun i env => ∃ (lo hi : Int) (a : Option T), i = (2000000000000000 - hi).toNat ∧ env = [some (.leaf (enc k r)), some (.leaf (.str nm)), some (.leaf (.int c)), some (.leaf (.int lo)), some (.leaf (.int hi)), a] ∧ 1 ≤ lo ∧ lo ≤ hi ∧ hi ≤ 2000000000000000 ∧ (lo = 1 ∨ nb nm k r lo < c))
    (2000000000000000 - c).toNat (by omega) ⟨1, c, none, rfl, rfl, by omega, h1, by omega, .inl rfl⟩ ?_
  rintro i env ⟨lo, hi, a, rfl, rfl, l0, l1, l2, l3⟩
  by_cases q : nb nm k r hi < c
  · have hh : hi < N := by
      refine Int.not_le.mp fun z => ?_
      have := nb_mono (nm := nm) fit hN0 z
      omega
    have m1 : mulOk 2 hi = true := by simp [mulOk]
    refine ⟨true, _, (by (conv => lhs; simp [exs, ex, ev, evs, evo, eva, evi, evc, Tg.put, leaf?, bl?, int?, node?, tpl?, lsts?, T.isLeaf, T.frz, T.frzs, argOk, ioSlots, ioTs, ioPut, ME.mut, MEs.mut, MO.mut, ME.path, bfn, binop, cmpop, T.lst?, T.leaves, cc_run, cc_io, wipe, Option.bind_eq_bind, Option.bind_some, Option.map_some, Option.pure_def, List.getD_cons_zero, List.getD_cons_succ, List.set_cons_zero, List.set_cons_succ, List.map_cons, List.map_nil, List.mapM_cons, List.mapM_nil, List.length_cons, List.length_nil, List.cons_append, List.nil_append, Bool.or_false, Bool.false_or, Bool.or_true, Bool.true_or, Bool.and_true, Bool.true_and, Bool.and_false, Bool.false_and, Bool.not_true, Bool.not_false, Bool.false_eq_true, if_true, if_false, reduceIte, List.replicate_succ, List.replicate_zero, List.zip_cons_cons, List.zip_nil_right, List.foldlM_cons, List.foldlM_nil, List.nodup_nil, io_names_by, en, q]) <;> rfl), fun _ => ends_nx (by (conv => lhs; simp [exs, ex, ev, evs, evo, eva, evi, evc, Tg.put, leaf?, bl?, int?, node?, tpl?, lsts?, T.isLeaf, T.frz, T.frzs, argOk, ioSlots, ioTs, ioPut, ME.mut, MEs.mut, MO.mut, ME.path, bfn, binop, cmpop, T.lst?, T.leaves, cc_run, cc_io, wipe, Option.bind_eq_bind, Option.bind_some, Option.map_some, Option.pure_def, List.getD_cons_zero, List.getD_cons_succ, List.set_cons_zero, List.set_cons_succ, List.map_cons, List.map_nil, List.mapM_cons, List.mapM_nil, List.length_cons, List.length_nil, List.cons_append, List.nil_append, Bool.or_false, Bool.false_or, Bool.or_true, Bool.true_or, Bool.and_true, Bool.true_and, Bool.and_false, Bool.false_and, Bool.not_true, Bool.not_false, Bool.false_eq_true, if_true, if_false, reduceIte, List.replicate_succ, List.replicate_zero, List.zip_cons_cons, List.zip_nil_right, List.foldlM_cons, List.foldlM_nil, List.nodup_nil, setAll, m1]) <;> rfl) (ends_nil ⟨(2000000000000000 - 2 * hi).toNat, by omega, hi, 2 * hi, a, rfl, rfl, by omega, by omega, by omega, .inr q⟩), fun z => by cases z⟩
  · refine ⟨false, _, (by (conv => lhs; simp [exs, ex, ev, evs, evo, eva, evi, evc, Tg.put, leaf?, bl?, int?, node?, tpl?, lsts?, T.isLeaf, T.frz, T.frzs, argOk, ioSlots, ioTs, ioPut, ME.mut, MEs.mut, MO.mut, ME.path, bfn, binop, cmpop, T.lst?, T.leaves, cc_run, cc_io, wipe, Option.bind_eq_bind, Option.bind_some, Option.map_some, Option.pure_def, List.getD_cons_zero, List.getD_cons_succ, List.set_cons_zero, List.set_cons_succ, List.map_cons, List.map_nil, List.mapM_cons, List.mapM_nil, List.length_cons, List.length_nil, List.cons_append, List.nil_append, Bool.or_false, Bool.false_or, Bool.or_true, Bool.true_or, Bool.and_true, Bool.true_and, Bool.and_false, Bool.false_and, Bool.not_true, Bool.not_false, Bool.false_eq_true, if_true, if_false, reduceIte, List.replicate_succ, List.replicate_zero, List.zip_cons_cons, List.zip_nil_right, List.foldlM_cons, List.foldlM_nil, List.nodup_nil, io_names_by, en, q]) <;> rfl), (fun z => by cases z), fun _ => ?_⟩
    refine ends_whl (fun i env => ∃ (lo hi : Int) (a : Option T), i = (hi - lo).toNat ∧ env = [some (.leaf (enc k r)), some (.leaf (.str nm)), some (.leaf (.int c)), some (.leaf (.int lo)), some (.leaf (.int hi)), a] ∧ 1 ≤ lo ∧ lo ≤ hi ∧ c ≤ nb nm k r hi ∧ ∀ j, 1 ≤ j → j < lo → nb nm k r j < c)
      (hi - lo).toNat (by omega) ⟨lo, hi, a, rfl, rfl, l0, l1, by omega, fun j h3 h4 => ?_⟩ ?_
    · rcases l3 with z | z
      · omega
      · have := nb_mono (nm := nm) fit (show 0 ≤ j by omega) (show j ≤ lo by omega)
        omega
    rintro i env ⟨lo, hi, a, rfl, rfl, l0, l1, l2, l3⟩
    by_cases q : lo < hi
    · obtain ⟨mid, hmid⟩ : ∃ mid, mid = (lo + hi) / 2 := ⟨_, rfl⟩
      have m1 : lo ≤ mid := by omega
      have m2 : mid < hi := by omega
      refine ⟨true, _, (by (conv => lhs; simp [exs, ex, ev, evs, evo, eva, evi, evc, Tg.put, leaf?, bl?, int?, node?, tpl?, lsts?, T.isLeaf, T.frz, T.frzs, argOk, ioSlots, ioTs, ioPut, ME.mut, MEs.mut, MO.mut, ME.path, bfn, binop, cmpop, T.lst?, T.leaves, cc_run, cc_io, wipe, Option.bind_eq_bind, Option.bind_some, Option.map_some, Option.pure_def, List.getD_cons_zero, List.getD_cons_succ, List.set_cons_zero, List.set_cons_succ, List.map_cons, List.map_nil, List.mapM_cons, List.mapM_nil, List.length_cons, List.length_nil, List.cons_append, List.nil_append, Bool.or_false, Bool.false_or, Bool.or_true, Bool.true_or, Bool.and_true, Bool.true_and, Bool.and_false, Bool.false_and, Bool.not_true, Bool.not_false, Bool.false_eq_true, if_true, if_false, reduceIte, List.replicate_succ, List.replicate_zero, List.zip_cons_cons, List.zip_nil_right, List.foldlM_cons, List.foldlM_nil, List.nodup_nil, q]) <;> rfl), fun _ => ends_nx (by (conv => lhs; simp [exs, ex, ev, evs, evo, eva, evi, evc, Tg.put, leaf?, bl?, int?, node?, tpl?, lsts?, T.isLeaf, T.frz, T.frzs, argOk, ioSlots, ioTs, ioPut, ME.mut, MEs.mut, MO.mut, ME.path, bfn, binop, cmpop, T.lst?, T.leaves, cc_run, cc_io, wipe, Option.bind_eq_bind, Option.bind_some, Option.map_some, Option.pure_def, List.getD_cons_zero, List.getD_cons_succ, List.set_cons_zero, List.set_cons_succ, List.map_cons, List.map_nil, List.mapM_cons, List.mapM_nil, List.length_cons, List.length_nil, List.cons_append, List.nil_append, Bool.or_false, Bool.false_or, Bool.or_true, Bool.true_or, Bool.and_true, Bool.true_and, Bool.and_false, Bool.false_and, Bool.not_true, Bool.not_false, Bool.false_eq_true, if_true, if_false, reduceIte, List.replicate_succ, List.replicate_zero, List.zip_cons_cons, List.zip_nil_right, List.foldlM_cons, List.foldlM_nil, List.nodup_nil, ← hmid]) <;> rfl) ?_, fun z => by cases z⟩
      by_cases z : nb nm k r mid < c
      · refine ends_tt (by (conv => lhs; simp [exs, ex, ev, evs, evo, eva, evi, evc, Tg.put, leaf?, bl?, int?, node?, tpl?, lsts?, T.isLeaf, T.frz, T.frzs, argOk, ioSlots, ioTs, ioPut, ME.mut, MEs.mut, MO.mut, ME.path, bfn, binop, cmpop, T.lst?, T.leaves, cc_run, cc_io, wipe, Option.bind_eq_bind, Option.bind_some, Option.map_some, Option.pure_def, List.getD_cons_zero, List.getD_cons_succ, List.set_cons_zero, List.set_cons_succ, List.map_cons, List.map_nil, List.mapM_cons, List.mapM_nil, List.length_cons, List.length_nil, List.cons_append, List.nil_append, Bool.or_false, Bool.false_or, Bool.or_true, Bool.true_or, Bool.and_true, Bool.true_and, Bool.and_false, Bool.false_and, Bool.not_true, Bool.not_false, Bool.false_eq_true, if_true, if_false, reduceIte, List.replicate_succ, List.replicate_zero, List.zip_cons_cons, List.zip_nil_right, List.foldlM_cons, List.foldlM_nil, List.nodup_nil, io_names_by, en, z]) <;> rfl) (ends_nx (by (conv => lhs; simp [exs, ex, ev, evs, evo, eva, evi, evc, Tg.put, leaf?, bl?, int?, node?, tpl?, lsts?, T.isLeaf, T.frz, T.frzs, argOk, ioSlots, ioTs, ioPut, ME.mut, MEs.mut, MO.mut, ME.path, bfn, binop, cmpop, T.lst?, T.leaves, cc_run, cc_io, wipe, Option.bind_eq_bind, Option.bind_some, Option.map_some, Option.pure_def, List.getD_cons_zero, List.getD_cons_succ, List.set_cons_zero, List.set_cons_succ, List.map_cons, List.map_nil, List.mapM_cons, List.mapM_nil, List.length_cons, List.length_nil, List.cons_append, List.nil_append, Bool.or_false, Bool.false_or, Bool.or_true, Bool.true_or, Bool.and_true, Bool.true_and, Bool.and_false, Bool.false_and, Bool.not_true, Bool.not_false, Bool.false_eq_true, if_true, if_false, reduceIte, List.replicate_succ, List.replicate_zero, List.zip_cons_cons, List.zip_nil_right, List.foldlM_cons, List.foldlM_nil, List.nodup_nil]) <;> rfl) (ends_nil (ends_nil ⟨(hi - (mid + 1)).toNat, by omega, mid + 1, hi, some (.leaf (.int mid)), rfl, rfl, by omega, by omega, l2, fun j h3 h4 => ?_⟩)))
        have := nb_mono (nm := nm) fit (show 0 ≤ j by omega) (show j ≤ mid by omega)
        omega
      · exact ends_ff (by (conv => lhs; simp [exs, ex, ev, evs, evo, eva, evi, evc, Tg.put, leaf?, bl?, int?, node?, tpl?, lsts?, T.isLeaf, T.frz, T.frzs, argOk, ioSlots, ioTs, ioPut, ME.mut, MEs.mut, MO.mut, ME.path, bfn, binop, cmpop, T.lst?, T.leaves, cc_run, cc_io, wipe, Option.bind_eq_bind, Option.bind_some, Option.map_some, Option.pure_def, List.getD_cons_zero, List.getD_cons_succ, List.set_cons_zero, List.set_cons_succ, List.map_cons, List.map_nil, List.mapM_cons, List.mapM_nil, List.length_cons, List.length_nil, List.cons_append, List.nil_append, Bool.or_false, Bool.false_or, Bool.or_true, Bool.true_or, Bool.and_true, Bool.true_and, Bool.and_false, Bool.false_and, Bool.not_true, Bool.not_false, Bool.false_eq_true, if_true, if_false, reduceIte, List.replicate_succ, List.replicate_zero, List.zip_cons_cons, List.zip_nil_right, List.foldlM_cons, List.foldlM_nil, List.nodup_nil, io_names_by, en, z]) <;> rfl) (ends_nx (by (conv => lhs; simp [exs, ex, ev, evs, evo, eva, evi, evc, Tg.put, leaf?, bl?, int?, node?, tpl?, lsts?, T.isLeaf, T.frz, T.frzs, argOk, ioSlots, ioTs, ioPut, ME.mut, MEs.mut, MO.mut, ME.path, bfn, binop, cmpop, T.lst?, T.leaves, cc_run, cc_io, wipe, Option.bind_eq_bind, Option.bind_some, Option.map_some, Option.pure_def, List.getD_cons_zero, List.getD_cons_succ, List.set_cons_zero, List.set_cons_succ, List.map_cons, List.map_nil, List.mapM_cons, List.mapM_nil, List.length_cons, List.length_nil, List.cons_append, List.nil_append, Bool.or_false, Bool.false_or, Bool.or_true, Bool.true_or, Bool.and_true, Bool.true_and, Bool.and_false, Bool.false_and, Bool.not_true, Bool.not_false, Bool.false_eq_true, if_true, if_false, reduceIte, List.replicate_succ, List.replicate_zero, List.zip_cons_cons, List.zip_nil_right, List.foldlM_cons, List.foldlM_nil, List.nodup_nil]) <;> rfl) (ends_nil (ends_nil ⟨(mid - lo).toNat, by omega, lo, mid, some (.leaf (.int mid)), rfl, rfl, l0, m1, by omega, l3⟩)))
    · have e5 := walkers_by_run (W := W) k (n - 1) r lo (by omega) fit
      have e6 := path_of_run (W := W) (n := n - 1) (r := r) (m := lo) (by omega) (by omega) (by omega) fit
      have : hi = lo := by omega
      subst this
      exact ⟨false, _, (by (conv => lhs; simp [exs, ex, ev, evs, evo, eva, evi, evc, Tg.put, leaf?, bl?, int?, node?, tpl?, lsts?, T.isLeaf, T.frz, T.frzs, argOk, ioSlots, ioTs, ioPut, ME.mut, MEs.mut, MO.mut, ME.path, bfn, binop, cmpop, T.lst?, T.leaves, cc_run, cc_io, wipe, Option.bind_eq_bind, Option.bind_some, Option.map_some, Option.pure_def, List.getD_cons_zero, List.getD_cons_succ, List.set_cons_zero, List.set_cons_succ, List.map_cons, List.map_nil, List.mapM_cons, List.mapM_nil, List.length_cons, List.length_nil, List.cons_append, List.nil_append, Bool.or_false, Bool.false_or, Bool.or_true, Bool.true_or, Bool.and_true, Bool.true_and, Bool.and_false, Bool.false_and, Bool.not_true, Bool.not_false, Bool.false_eq_true, if_true, if_false, reduceIte, List.replicate_succ, List.replicate_zero, List.zip_cons_cons, List.zip_nil_right, List.foldlM_cons, List.foldlM_nil, List.nodup_nil, q]) <;> rfl), (fun z => by cases z), fun _ => ends_rt (by (conv => lhs; simp [exs, ex, ev, evs, evo, eva, evi, evc, Tg.put, leaf?, bl?, int?, node?, tpl?, lsts?, T.isLeaf, T.frz, T.frzs, argOk, ioSlots, ioTs, ioPut, ME.mut, MEs.mut, MO.mut, ME.path, bfn, binop, cmpop, T.lst?, T.leaves, cc_run, cc_io, wipe, Option.bind_eq_bind, Option.bind_some, Option.map_some, Option.pure_def, List.getD_cons_zero, List.getD_cons_succ, List.set_cons_zero, List.set_cons_succ, List.map_cons, List.map_nil, List.mapM_cons, List.mapM_nil, List.length_cons, List.length_nil, List.cons_append, List.nil_append, Bool.or_false, Bool.false_or, Bool.or_true, Bool.true_or, Bool.and_true, Bool.true_and, Bool.and_false, Bool.false_and, Bool.not_true, Bool.not_false, Bool.false_eq_true, if_true, if_false, reduceIte, List.replicate_succ, List.replicate_zero, List.zip_cons_cons, List.zip_nil_right, List.foldlM_cons, List.foldlM_nil, List.nodup_nil, io_walkers_by, io_path_of, e5, e6, lim, index, atI, ixN]) <;> rfl) ⟨hi, ⟨l0, l2, l3⟩, rfl⟩⟩
end
end PD

/-! What is drawn: _law_next. -/
namespace PD
open PySem

/-- what is drawn from: a number, the cells, a place -/
def Dw (t : T) : Prop := ∃ (a : Int) (ys : List T) (es : List Int) (i : Int), t = .node [.leaf (.int a), .node ys, .leaf (.int i)] ∧ ys = es.map (fun e => T.leaf (.int e)) ∧ ys.length ≤ 63
section
variable {W n : Nat}
theorem io_law_next : ((T0 f_law_next).map Def.io).getD [] = [true, false] := rfl
theorem next_run {t : T} {many : Int} (hn : 0 < n) (hd : Dw t) (hm : 0 < many) (hm2 : many < 18446744073709551616) :
    ∃ x outs, callD T0 W n f_law_next [t, .leaf (.int many)] = some (x, outs) ∧ ∃ v t', x = .leaf (.int v) ∧ outs = [t'] ∧ 0 ≤ v ∧ v < many ∧ Dw t' := by
  obtain ⟨a, ys, es, i, rfl, hy, h63⟩ := hd
  refine call_io (by omega) (show T0 f_law_next = some b_law_next from rfl) rfl ?_
  have hle : T.leaves ys = some (es.map D.int) := by rw [hy]; exact leaves_fn _ _
  have hlen : es.length = ys.length := by rw [hy]; simp
  obtain ⟨M, hM, M0, M1, M2⟩ : ∃ M : Int, (if 1 < ys.length then (ys.length : Int) else 1) = M ∧ 0 < M ∧ M ≤ ys.length + 1 ∧ (0 < ys.length → M = ys.length) := by
    refine ⟨_, rfl, ?_, ?_, ?_⟩ <;> split <;> omega
  have hM' : (if (1 : Int) < (ys.length : Int) then (ys.length : Int) else 1) = M := by rw [← hM]; congr 1; exact propext (by omega)
  have p0 := Int.emod_nonneg i (show M ≠ 0 by omega)
  have p1 := Int.emod_lt_of_pos i M0
  obtain ⟨j, hj⟩ : ∃ j, j = i % M := ⟨_, rfl⟩
  rw [← hj] at p0 p1
  obtain ⟨c, hc, hc2⟩ : ∃ c : Int, (es.map (T.leaf ∘ D.int) ++ [T.leaf (.int 0)])[j.toNat]? = some (.leaf (.int c)) ∧ (c ≠ 0 → 0 < ys.length) := by
    by_cases q : j.toNat < es.length
    · refine ⟨es[j.toNat], ?_, fun _ => by omega⟩
      rw [List.getElem?_append_left (by simpa using q)]
      simp [q]
    · refine ⟨0, ?_, fun z => absurd rfl z⟩
      have : j.toNat = es.length := by omega
      rw [List.getElem?_append_right (by simp; omega)]
      simp [this]
  have hcg : ∀ h, (es.map (T.leaf ∘ D.int) ++ [T.leaf (.int 0)])[j.toNat]'h = .leaf (.int c) := fun h => by
    rw [List.getElem?_eq_getElem h] at hc; exact Option.some.inj hc
  have l1 : es.length + 1 ≤ lim := by unfold lim; omega
  have q1 : j < (es.length : Int) + 1 := by omega
  have l2 : 1 ≤ lim := by decide
  refine ends_nx (by (conv => lhs; simp [exs, ex, ev, evs, evo, eva, evi, evc, Tg.put, leaf?, bl?, int?, node?, tpl?, lsts?, T.isLeaf, T.frz, T.frzs, argOk, ioSlots, ioTs, ioPut, ME.mut, MEs.mut, MO.mut, ME.path, bfn, binop, cmpop, T.lst?, T.leaves, cc_run, cc_io, wipe, Option.bind_eq_bind, Option.bind_some, Option.map_some, Option.pure_def, List.getD_cons_zero, List.getD_cons_succ, List.set_cons_zero, List.set_cons_succ, List.map_cons, List.map_nil, List.mapM_cons, List.mapM_nil, List.length_cons, List.length_nil, List.cons_append, List.nil_append, Bool.or_false, Bool.false_or, Bool.or_true, Bool.true_or, Bool.and_true, Bool.true_and, Bool.and_false, Bool.false_and, Bool.not_true, Bool.not_false, Bool.false_eq_true, if_true, if_false, reduceIte, List.replicate_succ, List.replicate_zero, List.zip_cons_cons, List.zip_nil_right, List.foldlM_cons, List.foldlM_nil, List.nodup_nil, index, atI, ixN, hle, hM, hM', M0, ← hj, p0, q1, l1, l2, hc, hcg]) <;> rfl) ?_
  by_cases big : 1000000000000000000 ≤ c
  · have hyl := hc2 (by omega)
    have e1 := M2 hyl
    have hyl' : (0 : Int) < ys.length := by omega
    have hj2 : j = i % (ys.length : Int) := by rw [hj, e1]
    have q2 : j < (ys.length : Int) := by omega
    refine ends_tt (by (conv => lhs; simp [exs, ex, ev, evs, evo, eva, evi, evc, Tg.put, leaf?, bl?, int?, node?, tpl?, lsts?, T.isLeaf, T.frz, T.frzs, argOk, ioSlots, ioTs, ioPut, ME.mut, MEs.mut, MO.mut, ME.path, bfn, binop, cmpop, T.lst?, T.leaves, cc_run, cc_io, wipe, Option.bind_eq_bind, Option.bind_some, Option.map_some, Option.pure_def, List.getD_cons_zero, List.getD_cons_succ, List.set_cons_zero, List.set_cons_succ, List.map_cons, List.map_nil, List.mapM_cons, List.mapM_nil, List.length_cons, List.length_nil, List.cons_append, List.nil_append, Bool.or_false, Bool.false_or, Bool.or_true, Bool.true_or, Bool.and_true, Bool.true_and, Bool.and_false, Bool.false_and, Bool.not_true, Bool.not_false, Bool.false_eq_true, if_true, if_false, reduceIte, List.replicate_succ, List.replicate_zero, List.zip_cons_cons, List.zip_nil_right, List.foldlM_cons, List.foldlM_nil, List.nodup_nil, big]) <;> rfl) (ends_nx (by (conv => lhs; simp [exs, ex, ev, evs, evo, eva, evi, evc, Tg.put, leaf?, bl?, int?, node?, tpl?, lsts?, T.isLeaf, T.frz, T.frzs, argOk, ioSlots, ioTs, ioPut, ME.mut, MEs.mut, MO.mut, ME.path, bfn, binop, cmpop, T.lst?, T.leaves, cc_run, cc_io, wipe, Option.bind_eq_bind, Option.bind_some, Option.map_some, Option.pure_def, List.getD_cons_zero, List.getD_cons_succ, List.set_cons_zero, List.set_cons_succ, List.map_cons, List.map_nil, List.mapM_cons, List.mapM_nil, List.length_cons, List.length_nil, List.cons_append, List.nil_append, Bool.or_false, Bool.false_or, Bool.or_true, Bool.true_or, Bool.and_true, Bool.true_and, Bool.and_false, Bool.false_and, Bool.not_true, Bool.not_false, Bool.false_eq_true, if_true, if_false, reduceIte, List.replicate_succ, List.replicate_zero, List.zip_cons_cons, List.zip_nil_right, List.foldlM_cons, List.foldlM_nil, List.nodup_nil, index, atI, ixN, hyl, hyl', ← hj2, p0, q2, hm, hm2, ints?, T.putAt]) <;> rfl) (ends_rt (by (conv => lhs; simp [exs, ex, ev, evs, evo, eva, evi, evc, Tg.put, leaf?, bl?, int?, node?, tpl?, lsts?, T.isLeaf, T.frz, T.frzs, argOk, ioSlots, ioTs, ioPut, ME.mut, MEs.mut, MO.mut, ME.path, bfn, binop, cmpop, T.lst?, T.leaves, cc_run, cc_io, wipe, Option.bind_eq_bind, Option.bind_some, Option.map_some, Option.pure_def, List.getD_cons_zero, List.getD_cons_succ, List.set_cons_zero, List.set_cons_succ, List.map_cons, List.map_nil, List.mapM_cons, List.mapM_nil, List.length_cons, List.length_nil, List.cons_append, List.nil_append, Bool.or_false, Bool.false_or, Bool.or_true, Bool.true_or, Bool.and_true, Bool.true_and, Bool.and_false, Bool.false_and, Bool.not_true, Bool.not_false, Bool.false_eq_true, if_true, if_false, reduceIte, List.replicate_succ, List.replicate_zero, List.zip_cons_cons, List.zip_nil_right, List.foldlM_cons, List.foldlM_nil, List.nodup_nil, hm]) <;> rfl) ?_))
    refine ⟨_, rfl, c % many, _, rfl, rfl, Int.emod_nonneg _ (by omega), Int.emod_lt_of_pos _ hm, a, _, es.set j.toNat (c / many), i, rfl, ?_, by simpa using h63⟩
    rw [hy, List.map_set]
  · refine ends_ff0 (by (conv => lhs; simp [exs, ex, ev, evs, evo, eva, evi, evc, Tg.put, leaf?, bl?, int?, node?, tpl?, lsts?, T.isLeaf, T.frz, T.frzs, argOk, ioSlots, ioTs, ioPut, ME.mut, MEs.mut, MO.mut, ME.path, bfn, binop, cmpop, T.lst?, T.leaves, cc_run, cc_io, wipe, Option.bind_eq_bind, Option.bind_some, Option.map_some, Option.pure_def, List.getD_cons_zero, List.getD_cons_succ, List.set_cons_zero, List.set_cons_succ, List.map_cons, List.map_nil, List.mapM_cons, List.mapM_nil, List.length_cons, List.length_nil, List.cons_append, List.nil_append, Bool.or_false, Bool.false_or, Bool.or_true, Bool.true_or, Bool.and_true, Bool.true_and, Bool.and_false, Bool.false_and, Bool.not_true, Bool.not_false, Bool.false_eq_true, if_true, if_false, reduceIte, List.replicate_succ, List.replicate_zero, List.zip_cons_cons, List.zip_nil_right, List.foldlM_cons, List.foldlM_nil, List.nodup_nil, big]) <;> rfl) (ends_nx (by (conv => lhs; simp [exs, ex, ev, evs, evo, eva, evi, evc, Tg.put, leaf?, bl?, int?, node?, tpl?, lsts?, T.isLeaf, T.frz, T.frzs, argOk, ioSlots, ioTs, ioPut, ME.mut, MEs.mut, MO.mut, ME.path, bfn, binop, cmpop, T.lst?, T.leaves, cc_run, cc_io, wipe, Option.bind_eq_bind, Option.bind_some, Option.map_some, Option.pure_def, List.getD_cons_zero, List.getD_cons_succ, List.set_cons_zero, List.set_cons_succ, List.map_cons, List.map_nil, List.mapM_cons, List.mapM_nil, List.length_cons, List.length_nil, List.cons_append, List.nil_append, Bool.or_false, Bool.false_or, Bool.or_true, Bool.true_or, Bool.and_true, Bool.true_and, Bool.and_false, Bool.false_and, Bool.not_true, Bool.not_false, Bool.false_eq_true, if_true, if_false, reduceIte, List.replicate_succ, List.replicate_zero, List.zip_cons_cons, List.zip_nil_right, List.foldlM_cons, List.foldlM_nil, List.nodup_nil, index, atI, ixN, mulOk, ints?, T.putAt]) <;> rfl) (ends_nx (by (conv => lhs; simp [exs, ex, ev, evs, evo, eva, evi, evc, Tg.put, leaf?, bl?, int?, node?, tpl?, lsts?, T.isLeaf, T.frz, T.frzs, argOk, ioSlots, ioTs, ioPut, ME.mut, MEs.mut, MO.mut, ME.path, bfn, binop, cmpop, T.lst?, T.leaves, cc_run, cc_io, wipe, Option.bind_eq_bind, Option.bind_some, Option.map_some, Option.pure_def, List.getD_cons_zero, List.getD_cons_succ, List.set_cons_zero, List.set_cons_succ, List.map_cons, List.map_nil, List.mapM_cons, List.mapM_nil, List.length_cons, List.length_nil, List.cons_append, List.nil_append, Bool.or_false, Bool.false_or, Bool.or_true, Bool.true_or, Bool.and_true, Bool.true_and, Bool.and_false, Bool.false_and, Bool.not_true, Bool.not_false, Bool.false_eq_true, if_true, if_false, reduceIte, List.replicate_succ, List.replicate_zero, List.zip_cons_cons, List.zip_nil_right, List.foldlM_cons, List.foldlM_nil, List.nodup_nil, index, atI, ixN, mulOk, ints?, T.putAt]) <;> rfl) (ends_rt (by (conv => lhs; simp [exs, ex, ev, evs, evo, eva, evi, evc, Tg.put, leaf?, bl?, int?, node?, tpl?, lsts?, T.isLeaf, T.frz, T.frzs, argOk, ioSlots, ioTs, ioPut, ME.mut, MEs.mut, MO.mut, ME.path, bfn, binop, cmpop, T.lst?, T.leaves, cc_run, cc_io, wipe, Option.bind_eq_bind, Option.bind_some, Option.map_some, Option.pure_def, List.getD_cons_zero, List.getD_cons_succ, List.set_cons_zero, List.set_cons_succ, List.map_cons, List.map_nil, List.mapM_cons, List.mapM_nil, List.length_cons, List.length_nil, List.cons_append, List.nil_append, Bool.or_false, Bool.false_or, Bool.or_true, Bool.true_or, Bool.and_true, Bool.true_and, Bool.and_false, Bool.false_and, Bool.not_true, Bool.not_false, Bool.false_eq_true, if_true, if_false, reduceIte, List.replicate_succ, List.replicate_zero, List.zip_cons_cons, List.zip_nil_right, List.foldlM_cons, List.foldlM_nil, List.nodup_nil, index, atI, ixN, hm]) <;> rfl) ?_)))
    exact ⟨_, rfl, _, _, rfl, rfl, Int.emod_nonneg _ (by omega), Int.emod_lt_of_pos _ hm, _, ys, es, _, rfl, hy, h63⟩
end
end PD

/-! What is drawn: _law_mix, _law_door. -/
namespace PD
open PySem
section
variable {W n : Nat}
theorem io_law_mix : ((T0 f_law_mix).map Def.io).getD [] = [false, false] := rfl
theorem io_law_door : ((T0 f_law_door).map Def.io).getD [] = [true, false] := rfl
theorem mix_run {ns : List Int} {s : Int} (hn : 0 < n) (hl : ns.length ≤ 63) : ∃ x, callD T0 W n f_law_mix [.leaf (.scr ns), .leaf (.int s)] = some (x, []) ∧ Dw x := by
  refine call_ex (by omega) (show T0 f_law_mix = some b_law_mix from rfl) rfl rfl ?_
  refine ends_nx (by (conv => lhs; simp [exs, ex, ev, evs, evo, eva, evi, evc, Tg.put, leaf?, bl?, int?, node?, tpl?, lsts?, T.isLeaf, T.frz, T.frzs, argOk, ioSlots, ioTs, ioPut, ME.mut, MEs.mut, MO.mut, ME.path, bfn, binop, cmpop, T.lst?, T.leaves, cc_run, cc_io, wipe, Option.bind_eq_bind, Option.bind_some, Option.map_some, Option.pure_def, List.getD_cons_zero, List.getD_cons_succ, List.set_cons_zero, List.set_cons_succ, List.map_cons, List.map_nil, List.mapM_cons, List.mapM_nil, List.length_cons, List.length_nil, List.cons_append, List.nil_append, Bool.or_false, Bool.false_or, Bool.or_true, Bool.true_or, Bool.and_true, Bool.true_and, Bool.and_false, Bool.false_and, Bool.not_true, Bool.not_false, Bool.false_eq_true, if_true, if_false, reduceIte, List.replicate_succ, List.replicate_zero, List.zip_cons_cons, List.zip_nil_right, List.foldlM_cons, List.foldlM_nil, List.nodup_nil]) <;> rfl) ?_
  refine ends_for (fun it env => ∃ (xs : List Int) (a : Int) (b : Option T), it = xs.map D.int ∧ env = [some (.leaf (.scr ns)), some (.leaf (.int s)), some (.leaf (.int a)), b]) (by (conv => lhs; simp [exs, ex, ev, evs, evo, eva, evi, evc, Tg.put, leaf?, bl?, int?, node?, tpl?, lsts?, T.isLeaf, T.frz, T.frzs, argOk, ioSlots, ioTs, ioPut, ME.mut, MEs.mut, MO.mut, ME.path, bfn, binop, cmpop, T.lst?, T.leaves, cc_run, cc_io, wipe, Option.bind_eq_bind, Option.bind_some, Option.map_some, Option.pure_def, List.getD_cons_zero, List.getD_cons_succ, List.set_cons_zero, List.set_cons_succ, List.map_cons, List.map_nil, List.mapM_cons, List.mapM_nil, List.length_cons, List.length_nil, List.cons_append, List.nil_append, Bool.or_false, Bool.false_or, Bool.or_true, Bool.true_or, Bool.and_true, Bool.true_and, Bool.and_false, Bool.false_and, Bool.not_true, Bool.not_false, Bool.false_eq_true, if_true, if_false, reduceIte, List.replicate_succ, List.replicate_zero, List.zip_cons_cons, List.zip_nil_right, List.foldlM_cons, List.foldlM_nil, List.nodup_nil, scr?]) <;> rfl) ⟨ns, s, none, rfl, rfl⟩ ?_ ?_
  · rintro d its r1 ⟨xs, a, b, e1, rfl⟩
    cases xs with
    | nil => simp at e1
    | cons x xs =>
      simp only [List.map_cons, List.cons.injEq] at e1
      obtain ⟨rfl, rfl⟩ := e1
      exact ⟨_, (by (conv => lhs; simp [exs, ex, ev, evs, evo, eva, evi, evc, Tg.put, leaf?, bl?, int?, node?, tpl?, lsts?, T.isLeaf, T.frz, T.frzs, argOk, ioSlots, ioTs, ioPut, ME.mut, MEs.mut, MO.mut, ME.path, bfn, binop, cmpop, T.lst?, T.leaves, cc_run, cc_io, wipe, Option.bind_eq_bind, Option.bind_some, Option.map_some, Option.pure_def, List.getD_cons_zero, List.getD_cons_succ, List.set_cons_zero, List.set_cons_succ, List.map_cons, List.map_nil, List.mapM_cons, List.mapM_nil, List.length_cons, List.length_nil, List.cons_append, List.nil_append, Bool.or_false, Bool.false_or, Bool.or_true, Bool.true_or, Bool.and_true, Bool.true_and, Bool.and_false, Bool.false_and, Bool.not_true, Bool.not_false, Bool.false_eq_true, if_true, if_false, reduceIte, List.replicate_succ, List.replicate_zero, List.zip_cons_cons, List.zip_nil_right, List.foldlM_cons, List.foldlM_nil, List.nodup_nil]) <;> rfl), ends_nx (by (conv => lhs; simp [exs, ex, ev, evs, evo, eva, evi, evc, Tg.put, leaf?, bl?, int?, node?, tpl?, lsts?, T.isLeaf, T.frz, T.frzs, argOk, ioSlots, ioTs, ioPut, ME.mut, MEs.mut, MO.mut, ME.path, bfn, binop, cmpop, T.lst?, T.leaves, cc_run, cc_io, wipe, Option.bind_eq_bind, Option.bind_some, Option.map_some, Option.pure_def, List.getD_cons_zero, List.getD_cons_succ, List.set_cons_zero, List.set_cons_succ, List.map_cons, List.map_nil, List.mapM_cons, List.mapM_nil, List.length_cons, List.length_nil, List.cons_append, List.nil_append, Bool.or_false, Bool.false_or, Bool.or_true, Bool.true_or, Bool.and_true, Bool.true_and, Bool.and_false, Bool.false_and, Bool.not_true, Bool.not_false, Bool.false_eq_true, if_true, if_false, reduceIte, List.replicate_succ, List.replicate_zero, List.zip_cons_cons, List.zip_nil_right, List.foldlM_cons, List.foldlM_nil, List.nodup_nil, mulOk]) <;> rfl) (ends_nil ⟨xs, _, some (.leaf (.int x)), rfl, rfl⟩)⟩
  · rintro r1 ⟨xs, a, b, e1, rfl⟩
    refine ends_rt (by (conv => lhs; simp [exs, ex, ev, evs, evo, eva, evi, evc, Tg.put, leaf?, bl?, int?, node?, tpl?, lsts?, T.isLeaf, T.frz, T.frzs, argOk, ioSlots, ioTs, ioPut, ME.mut, MEs.mut, MO.mut, ME.path, bfn, binop, cmpop, T.lst?, T.leaves, cc_run, cc_io, wipe, Option.bind_eq_bind, Option.bind_some, Option.map_some, Option.pure_def, List.getD_cons_zero, List.getD_cons_succ, List.set_cons_zero, List.set_cons_succ, List.map_cons, List.map_nil, List.mapM_cons, List.mapM_nil, List.length_cons, List.length_nil, List.cons_append, List.nil_append, Bool.or_false, Bool.false_or, Bool.or_true, Bool.true_or, Bool.and_true, Bool.true_and, Bool.and_false, Bool.false_and, Bool.not_true, Bool.not_false, Bool.false_eq_true, if_true, if_false, reduceIte, List.replicate_succ, List.replicate_zero, List.zip_cons_cons, List.zip_nil_right, List.foldlM_cons, List.foldlM_nil, List.nodup_nil, lim]) <;> rfl) ⟨a, _, ns, 0, rfl, rfl, by simpa using hl⟩
theorem door_run {t : T} {few : Int} (hn : 1 < n) (hd : Dw t) (h1 : 1 ≤ few) (h2 : few ≤ 99) :
    ∃ x outs, callD T0 W n f_law_door [t, .leaf (.int few)] = some (x, outs) ∧ ∃ a b t', x = .leaf (.tup [.int a, .int b]) ∧ outs = [t'] ∧ (1 ≤ a ∧ a ≤ 99 ∧ 0 ≤ b ∧ b ≤ a) ∧ Dw t' := by
  refine call_io (by omega) (show T0 f_law_door = some b_law_door from rfl) rfl ?_
  obtain ⟨x, o, e1, v1, t1, rfl, rfl, p1, p2, d1⟩ := next_run (W := W) (n := n - 1) (many := 4) (by omega) hd (by omega) (by omega)
  obtain ⟨m, hm, m1, m2⟩ : ∃ m : Int, (∀ r : Env, ev (CC T0 W (n - 1)) false (.idx (.lst (.cons (.var 1) (.cons (.cst (.int 99)) .nil))) (.bin .fdv (.call f_law_next (.io 0 (.val (.cst (.int 4)) .nil))) (.cst (.int 3)))) [some t, some (.leaf (.int few)), none] = some (.leaf (.int m), [some t1, some (.leaf (.int few)), none])) ∧ 1 ≤ m ∧ m ≤ 99 := by
    obtain ⟨w, hw⟩ : ∃ w, w = v1 / 3 := ⟨_, rfl⟩
    have : w = 0 ∨ w = 1 := by omega
    rcases this with q | q
    · exact ⟨few, fun _ => (by (conv => lhs; simp [exs, ex, ev, evs, evo, eva, evi, evc, Tg.put, leaf?, bl?, int?, node?, tpl?, lsts?, T.isLeaf, T.frz, T.frzs, argOk, ioSlots, ioTs, ioPut, ME.mut, MEs.mut, MO.mut, ME.path, bfn, binop, cmpop, T.lst?, T.leaves, cc_run, cc_io, wipe, Option.bind_eq_bind, Option.bind_some, Option.map_some, Option.pure_def, List.getD_cons_zero, List.getD_cons_succ, List.set_cons_zero, List.set_cons_succ, List.map_cons, List.map_nil, List.mapM_cons, List.mapM_nil, List.length_cons, List.length_nil, List.cons_append, List.nil_append, Bool.or_false, Bool.false_or, Bool.or_true, Bool.true_or, Bool.and_true, Bool.true_and, Bool.and_false, Bool.false_and, Bool.not_true, Bool.not_false, Bool.false_eq_true, if_true, if_false, reduceIte, List.replicate_succ, List.replicate_zero, List.zip_cons_cons, List.zip_nil_right, List.foldlM_cons, List.foldlM_nil, List.nodup_nil, io_law_next, e1, ← hw, q, index, atI, ixN, lim]) <;> rfl), h1, h2⟩
    · exact ⟨99, fun _ => (by (conv => lhs; simp [exs, ex, ev, evs, evo, eva, evi, evc, Tg.put, leaf?, bl?, int?, node?, tpl?, lsts?, T.isLeaf, T.frz, T.frzs, argOk, ioSlots, ioTs, ioPut, ME.mut, MEs.mut, MO.mut, ME.path, bfn, binop, cmpop, T.lst?, T.leaves, cc_run, cc_io, wipe, Option.bind_eq_bind, Option.bind_some, Option.map_some, Option.pure_def, List.getD_cons_zero, List.getD_cons_succ, List.set_cons_zero, List.set_cons_succ, List.map_cons, List.map_nil, List.mapM_cons, List.mapM_nil, List.length_cons, List.length_nil, List.cons_append, List.nil_append, Bool.or_false, Bool.false_or, Bool.or_true, Bool.true_or, Bool.and_true, Bool.true_and, Bool.and_false, Bool.false_and, Bool.not_true, Bool.not_false, Bool.false_eq_true, if_true, if_false, reduceIte, List.replicate_succ, List.replicate_zero, List.zip_cons_cons, List.zip_nil_right, List.foldlM_cons, List.foldlM_nil, List.nodup_nil, io_law_next, e1, ← hw, q, index, atI, ixN, lim]) <;> rfl), by omega, by omega⟩
  obtain ⟨x, o, e2, v2, t2, rfl, rfl, q1, q2, d2⟩ := next_run (W := W) (n := n - 1) (many := m) (by omega) d1 (by omega) (by omega)
  obtain ⟨a, ha⟩ : ∃ a, a = 1 + v2 := ⟨_, rfl⟩
  have s1 : ex (CC T0 W (n - 1)) W (.set 2 false (.bin .add (.cst (.int 1)) (.call f_law_next (.io 0 (.val (.idx (.lst (.cons (.var 1) (.cons (.cst (.int 99)) .nil))) (.bin .fdv (.call f_law_next (.io 0 (.val (.cst (.int 4)) .nil))) (.cst (.int 3)))) .nil))))) [some t, some (.leaf (.int few)), none] = some (.nx [some t2, some (.leaf (.int few)), some (.leaf (.int a))]) := by
    have hm' := hm []
    generalize (ME.idx (.lst (.cons (.var 1) (.cons (.cst (.int 99)) .nil))) (.bin .fdv (.call f_law_next (.io 0 (.val (.cst (.int 4)) .nil))) (.cst (.int 3)))) = g at hm' ⊢
    simp [exs, ex, ev, evs, evo, eva, evi, evc, Tg.put, leaf?, bl?, int?, node?, tpl?, lsts?, T.isLeaf, T.frz, T.frzs, argOk, ioSlots, ioTs, ioPut, ME.mut, MEs.mut, MO.mut, ME.path, bfn, binop, cmpop, T.lst?, T.leaves, cc_run, cc_io, wipe, Option.bind_eq_bind, Option.bind_some, Option.map_some, Option.pure_def, List.getD_cons_zero, List.getD_cons_succ, List.set_cons_zero, List.set_cons_succ, List.map_cons, List.map_nil, List.mapM_cons, List.mapM_nil, List.length_cons, List.length_nil, List.cons_append, List.nil_append, Bool.or_false, Bool.false_or, Bool.or_true, Bool.true_or, Bool.and_true, Bool.true_and, Bool.and_false, Bool.false_and, Bool.not_true, Bool.not_false, Bool.false_eq_true, if_true, if_false, reduceIte, List.replicate_succ, List.replicate_zero, List.zip_cons_cons, List.zip_nil_right, List.foldlM_cons, List.foldlM_nil, List.nodup_nil, hm', io_law_next, e2, ← ha]
  refine ends_nx s1 ?_
  obtain ⟨x, o, e3, v3, t3, rfl, rfl, r1, r2, d3⟩ := next_run (W := W) (n := n - 1) (many := a + 1) (by omega) d2 (by omega) (by omega)
  obtain ⟨x, o, e4, v4, t4, rfl, rfl, u1, u2, d4⟩ := next_run (W := W) (n := n - 1) (many := 3) (by omega) d3 (by omega) (by omega)
  have : v4 = 0 ∨ v4 = 1 ∨ v4 = 2 := by omega
  rcases this with q | q | q
  · exact ends_rt (by (conv => lhs; simp [exs, ex, ev, evs, evo, eva, evi, evc, Tg.put, leaf?, bl?, int?, node?, tpl?, lsts?, T.isLeaf, T.frz, T.frzs, argOk, ioSlots, ioTs, ioPut, ME.mut, MEs.mut, MO.mut, ME.path, bfn, binop, cmpop, T.lst?, T.leaves, cc_run, cc_io, wipe, Option.bind_eq_bind, Option.bind_some, Option.map_some, Option.pure_def, List.getD_cons_zero, List.getD_cons_succ, List.set_cons_zero, List.set_cons_succ, List.map_cons, List.map_nil, List.mapM_cons, List.mapM_nil, List.length_cons, List.length_nil, List.cons_append, List.nil_append, Bool.or_false, Bool.false_or, Bool.or_true, Bool.true_or, Bool.and_true, Bool.true_and, Bool.and_false, Bool.false_and, Bool.not_true, Bool.not_false, Bool.false_eq_true, if_true, if_false, reduceIte, List.replicate_succ, List.replicate_zero, List.zip_cons_cons, List.zip_nil_right, List.foldlM_cons, List.foldlM_nil, List.nodup_nil, io_law_next, e3, e4, q, index, atI, ixN, lim]) <;> rfl) ⟨_, rfl, a, 0, t4, rfl, rfl, by omega, d4⟩
  · exact ends_rt (by (conv => lhs; simp [exs, ex, ev, evs, evo, eva, evi, evc, Tg.put, leaf?, bl?, int?, node?, tpl?, lsts?, T.isLeaf, T.frz, T.frzs, argOk, ioSlots, ioTs, ioPut, ME.mut, MEs.mut, MO.mut, ME.path, bfn, binop, cmpop, T.lst?, T.leaves, cc_run, cc_io, wipe, Option.bind_eq_bind, Option.bind_some, Option.map_some, Option.pure_def, List.getD_cons_zero, List.getD_cons_succ, List.set_cons_zero, List.set_cons_succ, List.map_cons, List.map_nil, List.mapM_cons, List.mapM_nil, List.length_cons, List.length_nil, List.cons_append, List.nil_append, Bool.or_false, Bool.false_or, Bool.or_true, Bool.true_or, Bool.and_true, Bool.true_and, Bool.and_false, Bool.false_and, Bool.not_true, Bool.not_false, Bool.false_eq_true, if_true, if_false, reduceIte, List.replicate_succ, List.replicate_zero, List.zip_cons_cons, List.zip_nil_right, List.foldlM_cons, List.foldlM_nil, List.nodup_nil, io_law_next, e3, e4, q, index, atI, ixN, lim]) <;> rfl) ⟨_, rfl, a, a, t4, rfl, rfl, by omega, d4⟩
  · exact ends_rt (by (conv => lhs; simp [exs, ex, ev, evs, evo, eva, evi, evc, Tg.put, leaf?, bl?, int?, node?, tpl?, lsts?, T.isLeaf, T.frz, T.frzs, argOk, ioSlots, ioTs, ioPut, ME.mut, MEs.mut, MO.mut, ME.path, bfn, binop, cmpop, T.lst?, T.leaves, cc_run, cc_io, wipe, Option.bind_eq_bind, Option.bind_some, Option.map_some, Option.pure_def, List.getD_cons_zero, List.getD_cons_succ, List.set_cons_zero, List.set_cons_succ, List.map_cons, List.map_nil, List.mapM_cons, List.mapM_nil, List.length_cons, List.length_nil, List.cons_append, List.nil_append, Bool.or_false, Bool.false_or, Bool.or_true, Bool.true_or, Bool.and_true, Bool.true_and, Bool.and_false, Bool.false_and, Bool.not_true, Bool.not_false, Bool.false_eq_true, if_true, if_false, reduceIte, List.replicate_succ, List.replicate_zero, List.zip_cons_cons, List.zip_nil_right, List.foldlM_cons, List.foldlM_nil, List.nodup_nil, io_law_next, e3, e4, q, index, atI, ixN, lim]) <;> rfl) ⟨_, rfl, a, v3, t4, rfl, rfl, by omega, d4⟩
end
end PD

/-! What is drawn: _law_room, _law_house. -/
namespace PD
open PySem
def up : (k : Nat) → Str → Rm k
  | 0, s => s
  | _ + 1, s => Sum.inl s
theorem enc_up : ∀ (k : Nat) (s : Str), enc k (up k s) = .str s
  | 0, _ => rfl
  | _ + 1, _ => rfl
theorem ok_up : ∀ (k : Nat) (s : Str), NameOk s → Ok k (up k s)
  | 0, _, h => h
  | _ + 1, _, h => h
theorem nd_up : ∀ (k : Nat) (s : Str), nd k (up k s) = 0
  | 0, _ => rfl
  | _ + 1, _ => rfl
theorem nm_a : NameOk (Str.ofString "a") := ⟨by decide +kernel, by decide +kernel, by decide +kernel⟩
theorem nm_b : NameOk (Str.ofString "b") := ⟨by decide +kernel, by decide +kernel, by decide +kernel⟩
theorem nm_ab : NameOk (Str.ofString "ab") := ⟨by decide +kernel, by decide +kernel, by decide +kernel⟩
theorem nm_z : NameOk (Str.ofString "zzzzzz") := ⟨by decide +kernel, by decide +kernel, by decide +kernel⟩
section
variable {W n : Nat}
theorem io_law_room : ((T0 f_law_room).map Def.io).getD [] = [true, true, false, false] := rfl
theorem io_law_house : ((T0 f_law_house).map Def.io).getD [] = [true, false] := rfl
theorem room_run {W : Nat} {few : Int} (h1 : 1 ≤ few) (h2 : few ≤ 99) : ∀ (k n : Nat) (t : T) (sp dp : Int), k + 2 < n → Dw t → 0 ≤ sp → sp ≤ 12 → 0 ≤ dp → dp ≤ k →
    ∃ x outs, callD T0 W n f_law_room [t, .node [.leaf (.int sp)], .leaf (.int dp), .leaf (.int few)] = some (x, outs) ∧ ∃ (r : Rm k) (sp' : Int) (t' : T), x = .leaf (enc k r) ∧ outs = [t', .node [.leaf (.int sp')]] ∧ Ok k r ∧ 0 ≤ sp' ∧ (nd k r : Int) + sp' = sp ∧ Dw t' := by
  intro k
  have out : ∀ (k n : Nat) (t : T) (sp dp : Int), k + 2 < n → Dw t → 0 ≤ sp → (dp = 0 ∨ sp = 0) →
      ∃ x outs, callD T0 W n f_law_room [t, .node [.leaf (.int sp)], .leaf (.int dp), .leaf (.int few)] = some (x, outs) ∧ ∃ (r : Rm k) (sp' : Int) (t' : T), x = .leaf (enc k r) ∧ outs = [t', .node [.leaf (.int sp')]] ∧ Ok k r ∧ 0 ≤ sp' ∧ (nd k r : Int) + sp' = sp ∧ Dw t' := by
    intro k n t sp dp hn hd h0 hz
    refine call_io (by omega) (show T0 f_law_room = some b_law_room from rfl) rfl ?_
    obtain ⟨x, o, e1, v, t1, rfl, rfl, p1, p2, d1⟩ := next_run (W := W) (n := n - 1) (many := 4) (by omega) hd (by omega) (by omega)
    have hz' : (dp = 0 ∨ sp = 0) = True := eq_true hz
    have c1 : ev (CC T0 W (n - 1)) false (.or (.cmp .eq (.var 2) (.cst (.int 0))) (.cmp .eq (.idx (.var 1) (.cst (.int 0))) (.cst (.int 0)))) [some t, some (.node [.leaf (.int sp)]), some (.leaf (.int dp)), some (.leaf (.int few)), none, none, none, none, none, none] =
        some (.leaf (.bl true), [some t, some (.node [.leaf (.int sp)]), some (.leaf (.int dp)), some (.leaf (.int few)), none, none, none, none, none, none]) := by
      by_cases c : dp = 0
      · simp [exs, ex, ev, evs, evo, eva, evi, evc, Tg.put, leaf?, bl?, int?, node?, tpl?, lsts?, T.isLeaf, T.frz, T.frzs, argOk, ioSlots, ioTs, ioPut, ME.mut, MEs.mut, MO.mut, ME.path, bfn, binop, cmpop, T.lst?, T.leaves, cc_run, cc_io, wipe, Option.bind_eq_bind, Option.bind_some, Option.map_some, Option.pure_def, List.getD_cons_zero, List.getD_cons_succ, List.set_cons_zero, List.set_cons_succ, List.map_cons, List.map_nil, List.mapM_cons, List.mapM_nil, List.length_cons, List.length_nil, List.cons_append, List.nil_append, Bool.or_false, Bool.false_or, Bool.or_true, Bool.true_or, Bool.and_true, Bool.true_and, Bool.and_false, Bool.false_and, Bool.not_true, Bool.not_false, Bool.false_eq_true, if_true, if_false, reduceIte, List.replicate_succ, List.replicate_zero, List.zip_cons_cons, List.zip_nil_right, List.foldlM_cons, List.foldlM_nil, List.nodup_nil, D.plain, D.depth, eqb_int, c, index, atI, ixN]
      · have c2 : sp = 0 := by omega
        simp [exs, ex, ev, evs, evo, eva, evi, evc, Tg.put, leaf?, bl?, int?, node?, tpl?, lsts?, T.isLeaf, T.frz, T.frzs, argOk, ioSlots, ioTs, ioPut, ME.mut, MEs.mut, MO.mut, ME.path, bfn, binop, cmpop, T.lst?, T.leaves, cc_run, cc_io, wipe, Option.bind_eq_bind, Option.bind_some, Option.map_some, Option.pure_def, List.getD_cons_zero, List.getD_cons_succ, List.set_cons_zero, List.set_cons_succ, List.map_cons, List.map_nil, List.mapM_cons, List.mapM_nil, List.length_cons, List.length_nil, List.cons_append, List.nil_append, Bool.or_false, Bool.false_or, Bool.or_true, Bool.true_or, Bool.and_true, Bool.true_and, Bool.and_false, Bool.false_and, Bool.not_true, Bool.not_false, Bool.false_eq_true, if_true, if_false, reduceIte, List.replicate_succ, List.replicate_zero, List.zip_cons_cons, List.zip_nil_right, List.foldlM_cons, List.foldlM_nil, List.nodup_nil, D.plain, D.depth, eqb_int, c, c2, index, atI, ixN]
    refine ends_tt c1 ?_
    have : v = 0 ∨ v = 1 ∨ v = 2 ∨ v = 3 := by omega
    rcases this with q | q | q | q
    · exact ends_rt (by (conv => lhs; simp [exs, ex, ev, evs, evo, eva, evi, evc, Tg.put, leaf?, bl?, int?, node?, tpl?, lsts?, T.isLeaf, T.frz, T.frzs, argOk, ioSlots, ioTs, ioPut, ME.mut, MEs.mut, MO.mut, ME.path, bfn, binop, cmpop, T.lst?, T.leaves, cc_run, cc_io, wipe, Option.bind_eq_bind, Option.bind_some, Option.map_some, Option.pure_def, List.getD_cons_zero, List.getD_cons_succ, List.set_cons_zero, List.set_cons_succ, List.map_cons, List.map_nil, List.mapM_cons, List.mapM_nil, List.length_cons, List.length_nil, List.cons_append, List.nil_append, Bool.or_false, Bool.false_or, Bool.or_true, Bool.true_or, Bool.and_true, Bool.true_and, Bool.and_false, Bool.false_and, Bool.not_true, Bool.not_false, Bool.false_eq_true, if_true, if_false, reduceIte, List.replicate_succ, List.replicate_zero, List.zip_cons_cons, List.zip_nil_right, List.foldlM_cons, List.foldlM_nil, List.nodup_nil, io_law_next, e1, q, index, atI, ixN, lim]) <;> rfl) ⟨_, rfl, up k _, sp, t1, by rw [enc_up], rfl, ok_up k _ nm_a, h0, by rw [nd_up]; omega, d1⟩
    · exact ends_rt (by (conv => lhs; simp [exs, ex, ev, evs, evo, eva, evi, evc, Tg.put, leaf?, bl?, int?, node?, tpl?, lsts?, T.isLeaf, T.frz, T.frzs, argOk, ioSlots, ioTs, ioPut, ME.mut, MEs.mut, MO.mut, ME.path, bfn, binop, cmpop, T.lst?, T.leaves, cc_run, cc_io, wipe, Option.bind_eq_bind, Option.bind_some, Option.map_some, Option.pure_def, List.getD_cons_zero, List.getD_cons_succ, List.set_cons_zero, List.set_cons_succ, List.map_cons, List.map_nil, List.mapM_cons, List.mapM_nil, List.length_cons, List.length_nil, List.cons_append, List.nil_append, Bool.or_false, Bool.false_or, Bool.or_true, Bool.true_or, Bool.and_true, Bool.true_and, Bool.and_false, Bool.false_and, Bool.not_true, Bool.not_false, Bool.false_eq_true, if_true, if_false, reduceIte, List.replicate_succ, List.replicate_zero, List.zip_cons_cons, List.zip_nil_right, List.foldlM_cons, List.foldlM_nil, List.nodup_nil, io_law_next, e1, q, index, atI, ixN, lim]) <;> rfl) ⟨_, rfl, up k _, sp, t1, by rw [enc_up], rfl, ok_up k _ nm_b, h0, by rw [nd_up]; omega, d1⟩
    · exact ends_rt (by (conv => lhs; simp [exs, ex, ev, evs, evo, eva, evi, evc, Tg.put, leaf?, bl?, int?, node?, tpl?, lsts?, T.isLeaf, T.frz, T.frzs, argOk, ioSlots, ioTs, ioPut, ME.mut, MEs.mut, MO.mut, ME.path, bfn, binop, cmpop, T.lst?, T.leaves, cc_run, cc_io, wipe, Option.bind_eq_bind, Option.bind_some, Option.map_some, Option.pure_def, List.getD_cons_zero, List.getD_cons_succ, List.set_cons_zero, List.set_cons_succ, List.map_cons, List.map_nil, List.mapM_cons, List.mapM_nil, List.length_cons, List.length_nil, List.cons_append, List.nil_append, Bool.or_false, Bool.false_or, Bool.or_true, Bool.true_or, Bool.and_true, Bool.true_and, Bool.and_false, Bool.false_and, Bool.not_true, Bool.not_false, Bool.false_eq_true, if_true, if_false, reduceIte, List.replicate_succ, List.replicate_zero, List.zip_cons_cons, List.zip_nil_right, List.foldlM_cons, List.foldlM_nil, List.nodup_nil, io_law_next, e1, q, index, atI, ixN, lim]) <;> rfl) ⟨_, rfl, up k _, sp, t1, by rw [enc_up], rfl, ok_up k _ nm_ab, h0, by rw [nd_up]; omega, d1⟩
    · exact ends_rt (by (conv => lhs; simp [exs, ex, ev, evs, evo, eva, evi, evc, Tg.put, leaf?, bl?, int?, node?, tpl?, lsts?, T.isLeaf, T.frz, T.frzs, argOk, ioSlots, ioTs, ioPut, ME.mut, MEs.mut, MO.mut, ME.path, bfn, binop, cmpop, T.lst?, T.leaves, cc_run, cc_io, wipe, Option.bind_eq_bind, Option.bind_some, Option.map_some, Option.pure_def, List.getD_cons_zero, List.getD_cons_succ, List.set_cons_zero, List.set_cons_succ, List.map_cons, List.map_nil, List.mapM_cons, List.mapM_nil, List.length_cons, List.length_nil, List.cons_append, List.nil_append, Bool.or_false, Bool.false_or, Bool.or_true, Bool.true_or, Bool.and_true, Bool.true_and, Bool.and_false, Bool.false_and, Bool.not_true, Bool.not_false, Bool.false_eq_true, if_true, if_false, reduceIte, List.replicate_succ, List.replicate_zero, List.zip_cons_cons, List.zip_nil_right, List.foldlM_cons, List.foldlM_nil, List.nodup_nil, io_law_next, e1, q, index, atI, ixN, lim]) <;> rfl) ⟨_, rfl, up k _, sp, t1, by rw [enc_up], rfl, ok_up k _ nm_z, h0, by rw [nd_up]; omega, d1⟩
  induction k with
  | zero => exact fun n t sp dp hn hd h0 _ h3 h4 => out 0 n t sp dp hn hd h0 (.inl (by simp at h4; omega))
  | succ k ih =>
    intro n t sp dp hn hd h0 h12 h3 h4
    by_cases hz : dp = 0 ∨ sp = 0
    · exact out (k + 1) n t sp dp hn hd h0 hz
    refine call_io (by omega) (show T0 f_law_room = some b_law_room from rfl) rfl ?_
    have c1 : ¬ dp = 0 := fun z => hz (.inl z)
    have c2 : ¬ sp = 0 := fun z => hz (.inr z)
    obtain ⟨x, o, e1, v, t1, rfl, rfl, p1, p2, d1⟩ := next_run (W := W) (n := n - 1) (many := 4) (by omega) hd (by omega) (by omega)
    obtain ⟨m, hm, m1, m2, m3⟩ : ∃ m : Int, (if 1 + v < sp then 1 + v else sp) = m ∧ 1 ≤ m ∧ m ≤ sp ∧ m ≤ 4 := by
      refine ⟨_, rfl, ?_, ?_, ?_⟩ <;> split <;> omega
    refine ends_ff0 (by (conv => lhs; simp [exs, ex, ev, evs, evo, eva, evi, evc, Tg.put, leaf?, bl?, int?, node?, tpl?, lsts?, T.isLeaf, T.frz, T.frzs, argOk, ioSlots, ioTs, ioPut, ME.mut, MEs.mut, MO.mut, ME.path, bfn, binop, cmpop, T.lst?, T.leaves, cc_run, cc_io, wipe, Option.bind_eq_bind, Option.bind_some, Option.map_some, Option.pure_def, List.getD_cons_zero, List.getD_cons_succ, List.set_cons_zero, List.set_cons_succ, List.map_cons, List.map_nil, List.mapM_cons, List.mapM_nil, List.length_cons, List.length_nil, List.cons_append, List.nil_append, Bool.or_false, Bool.false_or, Bool.or_true, Bool.true_or, Bool.and_true, Bool.true_and, Bool.and_false, Bool.false_and, Bool.not_true, Bool.not_false, Bool.false_eq_true, if_true, if_false, reduceIte, List.replicate_succ, List.replicate_zero, List.zip_cons_cons, List.zip_nil_right, List.foldlM_cons, List.foldlM_nil, List.nodup_nil, D.plain, D.depth, eqb_int, c1, c2, index, atI, ixN]) <;> rfl) (ends_nx (by (conv => lhs; simp [exs, ex, ev, evs, evo, eva, evi, evc, Tg.put, leaf?, bl?, int?, node?, tpl?, lsts?, T.isLeaf, T.frz, T.frzs, argOk, ioSlots, ioTs, ioPut, ME.mut, MEs.mut, MO.mut, ME.path, bfn, binop, cmpop, T.lst?, T.leaves, cc_run, cc_io, wipe, Option.bind_eq_bind, Option.bind_some, Option.map_some, Option.pure_def, List.getD_cons_zero, List.getD_cons_succ, List.set_cons_zero, List.set_cons_succ, List.map_cons, List.map_nil, List.mapM_cons, List.mapM_nil, List.length_cons, List.length_nil, List.cons_append, List.nil_append, Bool.or_false, Bool.false_or, Bool.or_true, Bool.true_or, Bool.and_true, Bool.true_and, Bool.and_false, Bool.false_and, Bool.not_true, Bool.not_false, Bool.false_eq_true, if_true, if_false, reduceIte, List.replicate_succ, List.replicate_zero, List.zip_cons_cons, List.zip_nil_right, List.foldlM_cons, List.foldlM_nil, List.nodup_nil, io_law_next, e1, hm, index, atI, ixN]) <;> rfl) (ends_nx (by (conv => lhs; simp [exs, ex, ev, evs, evo, eva, evi, evc, Tg.put, leaf?, bl?, int?, node?, tpl?, lsts?, T.isLeaf, T.frz, T.frzs, argOk, ioSlots, ioTs, ioPut, ME.mut, MEs.mut, MO.mut, ME.path, bfn, binop, cmpop, T.lst?, T.leaves, cc_run, cc_io, wipe, Option.bind_eq_bind, Option.bind_some, Option.map_some, Option.pure_def, List.getD_cons_zero, List.getD_cons_succ, List.set_cons_zero, List.set_cons_succ, List.map_cons, List.map_nil, List.mapM_cons, List.mapM_nil, List.length_cons, List.length_nil, List.cons_append, List.nil_append, Bool.or_false, Bool.false_or, Bool.or_true, Bool.true_or, Bool.and_true, Bool.true_and, Bool.and_false, Bool.false_and, Bool.not_true, Bool.not_false, Bool.false_eq_true, if_true, if_false, reduceIte, List.replicate_succ, List.replicate_zero, List.zip_cons_cons, List.zip_nil_right, List.foldlM_cons, List.foldlM_nil, List.nodup_nil, index, atI, ixN, ints?, T.putAt]) <;> rfl) (ends_nx (by (conv => lhs; simp [exs, ex, ev, evs, evo, eva, evi, evc, Tg.put, leaf?, bl?, int?, node?, tpl?, lsts?, T.isLeaf, T.frz, T.frzs, argOk, ioSlots, ioTs, ioPut, ME.mut, MEs.mut, MO.mut, ME.path, bfn, binop, cmpop, T.lst?, T.leaves, cc_run, cc_io, wipe, Option.bind_eq_bind, Option.bind_some, Option.map_some, Option.pure_def, List.getD_cons_zero, List.getD_cons_succ, List.set_cons_zero, List.set_cons_succ, List.map_cons, List.map_nil, List.mapM_cons, List.mapM_nil, List.length_cons, List.length_nil, List.cons_append, List.nil_append, Bool.or_false, Bool.false_or, Bool.or_true, Bool.true_or, Bool.and_true, Bool.true_and, Bool.and_false, Bool.false_and, Bool.not_true, Bool.not_false, Bool.false_eq_true, if_true, if_false, reduceIte, List.replicate_succ, List.replicate_zero, List.zip_cons_cons, List.zip_nil_right, List.foldlM_cons, List.foldlM_nil, List.nodup_nil, lim]) <;> rfl) ?_)))
    have hr : rngOk m = true := by simp [rngOk]; omega
    refine ends_for (fun it env => ∃ (j : Int) (cnt : Nat) (xs : List (Int × Int × Rm k)) (t : T) (s' : Int) (x6 x7 x8 x9 : Option T), it = rngs j cnt ∧ xs.length + cnt = m.toNat ∧
        env = [some t, some (.node [.leaf (.int s')]), some (.leaf (.int dp)), some (.leaf (.int few)), some (.leaf (.int m)), some (.node (xs.map fun x => .leaf (encD k x))), x6, x7, x8, x9] ∧ Dw t ∧ 0 ≤ s' ∧ ((xs.map fun x => nd k x.2.2).sum : Nat) + s' = sp - m ∧
        ∀ x ∈ xs, (1 ≤ x.1 ∧ x.1 ≤ 99 ∧ 0 ≤ x.2.1 ∧ x.2.1 ≤ x.1) ∧ Ok k x.2.2) (by (conv => lhs; simp [exs, ex, ev, evs, evo, eva, evi, evc, Tg.put, leaf?, bl?, int?, node?, tpl?, lsts?, T.isLeaf, T.frz, T.frzs, argOk, ioSlots, ioTs, ioPut, ME.mut, MEs.mut, MO.mut, ME.path, bfn, binop, cmpop, T.lst?, T.leaves, cc_run, cc_io, wipe, Option.bind_eq_bind, Option.bind_some, Option.map_some, Option.pure_def, List.getD_cons_zero, List.getD_cons_succ, List.set_cons_zero, List.set_cons_succ, List.map_cons, List.map_nil, List.mapM_cons, List.mapM_nil, List.length_cons, List.length_nil, List.cons_append, List.nil_append, Bool.or_false, Bool.false_or, Bool.or_true, Bool.true_or, Bool.and_true, Bool.true_and, Bool.and_false, Bool.false_and, Bool.not_true, Bool.not_false, Bool.false_eq_true, if_true, if_false, reduceIte, List.replicate_succ, List.replicate_zero, List.zip_cons_cons, List.zip_nil_right, List.foldlM_cons, List.foldlM_nil, List.nodup_nil, hr]) <;> rfl) ⟨0, m.toNat, [], t1, sp - m, none, none, none, none, rfl, by simp, rfl, d1, by omega, by simp, fun x hx => nomatch hx⟩ ?_ ?_
    · rintro d its r1 ⟨j, cnt, xs, t, s', x6, x7, x8, x9, e, hc, rfl, hd, hs0, hs, hx⟩
      cases cnt with
      | zero => simp [rngs] at e
      | succ cnt =>
        simp only [rngs, List.cons.injEq] at e
        obtain ⟨rfl, rfl⟩ := e
        obtain ⟨x, o, e2, a, b, t2, rfl, rfl, hab, d2⟩ := door_run (W := W) (n := n - 1) (by omega) hd h1 h2
        obtain ⟨x, o, e3, v3, t3, rfl, rfl, p3, p4, d3⟩ := next_run (W := W) (n := n - 1) (many := 2) (by omega) d2 (by omega) (by omega)
        obtain ⟨dq, hdq, q1, q2⟩ : ∃ dq : Int, (∀ (x6 x7 : Option T), ev (CC T0 W (n - 1)) false (.ife (.cmp .eq (.call f_law_next (.io 0 (.val (.cst (.int 2)) .nil))) (.cst (.int 0))) (.bin .sub (.var 2) (.cst (.int 1))) (.cst (.int 0))) [some t2, some (.node [.leaf (.int s')]), some (.leaf (.int dp)), some (.leaf (.int few)), some (.leaf (.int m)), some (.node (xs.map fun x => .leaf (encD k x))), x6, x7, some (.leaf (.int a)), some (.leaf (.int b))] =
            some (.leaf (.int dq), [some t3, some (.node [.leaf (.int s')]), some (.leaf (.int dp)), some (.leaf (.int few)), some (.leaf (.int m)), some (.node (xs.map fun x => .leaf (encD k x))), x6, x7, some (.leaf (.int a)), some (.leaf (.int b))])) ∧ 0 ≤ dq ∧ dq ≤ k := by
          by_cases c : v3 = 0
          · exact ⟨dp - 1, fun x6 x7 => (by (conv => lhs; simp [exs, ex, ev, evs, evo, eva, evi, evc, Tg.put, leaf?, bl?, int?, node?, tpl?, lsts?, T.isLeaf, T.frz, T.frzs, argOk, ioSlots, ioTs, ioPut, ME.mut, MEs.mut, MO.mut, ME.path, bfn, binop, cmpop, T.lst?, T.leaves, cc_run, cc_io, wipe, Option.bind_eq_bind, Option.bind_some, Option.map_some, Option.pure_def, List.getD_cons_zero, List.getD_cons_succ, List.set_cons_zero, List.set_cons_succ, List.map_cons, List.map_nil, List.mapM_cons, List.mapM_nil, List.length_cons, List.length_nil, List.cons_append, List.nil_append, Bool.or_false, Bool.false_or, Bool.or_true, Bool.true_or, Bool.and_true, Bool.true_and, Bool.and_false, Bool.false_and, Bool.not_true, Bool.not_false, Bool.false_eq_true, if_true, if_false, reduceIte, List.replicate_succ, List.replicate_zero, List.zip_cons_cons, List.zip_nil_right, List.foldlM_cons, List.foldlM_nil, List.nodup_nil, io_law_next, e3, c, D.plain, D.depth, eqb_int]) <;> rfl), by omega, by omega⟩
          · exact ⟨0, fun x6 x7 => (by (conv => lhs; simp [exs, ex, ev, evs, evo, eva, evi, evc, Tg.put, leaf?, bl?, int?, node?, tpl?, lsts?, T.isLeaf, T.frz, T.frzs, argOk, ioSlots, ioTs, ioPut, ME.mut, MEs.mut, MO.mut, ME.path, bfn, binop, cmpop, T.lst?, T.leaves, cc_run, cc_io, wipe, Option.bind_eq_bind, Option.bind_some, Option.map_some, Option.pure_def, List.getD_cons_zero, List.getD_cons_succ, List.set_cons_zero, List.set_cons_succ, List.map_cons, List.map_nil, List.mapM_cons, List.mapM_nil, List.length_cons, List.length_nil, List.cons_append, List.nil_append, Bool.or_false, Bool.false_or, Bool.or_true, Bool.true_or, Bool.and_true, Bool.true_and, Bool.and_false, Bool.false_and, Bool.not_true, Bool.not_false, Bool.false_eq_true, if_true, if_false, reduceIte, List.replicate_succ, List.replicate_zero, List.zip_cons_cons, List.zip_nil_right, List.foldlM_cons, List.foldlM_nil, List.nodup_nil, io_law_next, e3, c, D.plain, D.depth, eqb_int]) <;> rfl), by omega, by omega⟩
        obtain ⟨x, o, e4, r, s2, t4, rfl, rfl, ho, hs2, hnd, d4⟩ := ih (n - 1) t3 s' dq (by omega) d3 hs0 (by omega) q1 q2
        have l3 : xs.length < 16777216 := by omega
        refine ⟨_, (by (conv => lhs; simp [exs, ex, ev, evs, evo, eva, evi, evc, Tg.put, leaf?, bl?, int?, node?, tpl?, lsts?, T.isLeaf, T.frz, T.frzs, argOk, ioSlots, ioTs, ioPut, ME.mut, MEs.mut, MO.mut, ME.path, bfn, binop, cmpop, T.lst?, T.leaves, cc_run, cc_io, wipe, Option.bind_eq_bind, Option.bind_some, Option.map_some, Option.pure_def, List.getD_cons_zero, List.getD_cons_succ, List.set_cons_zero, List.set_cons_succ, List.map_cons, List.map_nil, List.mapM_cons, List.mapM_nil, List.length_cons, List.length_nil, List.cons_append, List.nil_append, Bool.or_false, Bool.false_or, Bool.or_true, Bool.true_or, Bool.and_true, Bool.true_and, Bool.and_false, Bool.false_and, Bool.not_true, Bool.not_false, Bool.false_eq_true, if_true, if_false, reduceIte, List.replicate_succ, List.replicate_zero, List.zip_cons_cons, List.zip_nil_right, List.foldlM_cons, List.foldlM_nil, List.nodup_nil]) <;> rfl), ends_nx (by (conv => lhs; simp [exs, ex, ev, evs, evo, eva, evi, evc, Tg.put, leaf?, bl?, int?, node?, tpl?, lsts?, T.isLeaf, T.frz, T.frzs, argOk, ioSlots, ioTs, ioPut, ME.mut, MEs.mut, MO.mut, ME.path, bfn, binop, cmpop, T.lst?, T.leaves, cc_run, cc_io, wipe, Option.bind_eq_bind, Option.bind_some, Option.map_some, Option.pure_def, List.getD_cons_zero, List.getD_cons_succ, List.set_cons_zero, List.set_cons_succ, List.map_cons, List.map_nil, List.mapM_cons, List.mapM_nil, List.length_cons, List.length_nil, List.cons_append, List.nil_append, Bool.or_false, Bool.false_or, Bool.or_true, Bool.true_or, Bool.and_true, Bool.true_and, Bool.and_false, Bool.false_and, Bool.not_true, Bool.not_false, Bool.false_eq_true, if_true, if_false, reduceIte, List.replicate_succ, List.replicate_zero, List.zip_cons_cons, List.zip_nil_right, List.foldlM_cons, List.foldlM_nil, List.nodup_nil, io_law_door, e2]) <;> rfl) (ends_nx (r1 := [some t3, some (.node [.leaf (.int s')]), some (.leaf (.int dp)), some (.leaf (.int few)), some (.leaf (.int m)), some (.node (xs.map fun x => .leaf (encD k x))), some (.leaf (.int j)), some (.leaf (.int dq)), some (.leaf (.int a)), some (.leaf (.int b))]) ?_
          (ends_nx (by (conv => lhs; simp [exs, ex, ev, evs, evo, eva, evi, evc, Tg.put, leaf?, bl?, int?, node?, tpl?, lsts?, T.isLeaf, T.frz, T.frzs, argOk, ioSlots, ioTs, ioPut, ME.mut, MEs.mut, MO.mut, ME.path, bfn, binop, cmpop, T.lst?, T.leaves, cc_run, cc_io, wipe, Option.bind_eq_bind, Option.bind_some, Option.map_some, Option.pure_def, List.getD_cons_zero, List.getD_cons_succ, List.set_cons_zero, List.set_cons_succ, List.map_cons, List.map_nil, List.mapM_cons, List.mapM_nil, List.length_cons, List.length_nil, List.cons_append, List.nil_append, Bool.or_false, Bool.false_or, Bool.or_true, Bool.true_or, Bool.and_true, Bool.true_and, Bool.and_false, Bool.false_and, Bool.not_true, Bool.not_false, Bool.false_eq_true, if_true, if_false, reduceIte, List.replicate_succ, List.replicate_zero, List.zip_cons_cons, List.zip_nil_right, List.foldlM_cons, List.foldlM_nil, List.nodup_nil, io_law_room, e4, l3, lim]) <;> rfl) (ends_nil ⟨j + 1, cnt, xs ++ [(a, b, r)], t4, s2, some (.leaf (.int j)), some (.leaf (.int dq)), some (.leaf (.int a)), some (.leaf (.int b)), rfl, by simp; omega, ?_, d4, hs2, ?_, ?_⟩)))⟩
        · have q := hdq (some (.leaf (.int j))) x7
          generalize ME.ife (.cmp .eq (.call f_law_next (.io 0 (.val (.cst (.int 2)) .nil))) (.cst (.int 0))) (.bin .sub (.var 2) (.cst (.int 1))) (.cst (.int 0)) = g at q ⊢
          simp only [encD] at q
          simp [exs, ex, ev, evs, evo, eva, evi, evc, Tg.put, leaf?, bl?, int?, node?, tpl?, lsts?, T.isLeaf, T.frz, T.frzs, argOk, ioSlots, ioTs, ioPut, ME.mut, MEs.mut, MO.mut, ME.path, bfn, binop, cmpop, T.lst?, T.leaves, cc_run, cc_io, wipe, Option.bind_eq_bind, Option.bind_some, Option.map_some, Option.pure_def, List.getD_cons_zero, List.getD_cons_succ, List.set_cons_zero, List.set_cons_succ, List.map_cons, List.map_nil, List.mapM_cons, List.mapM_nil, List.length_cons, List.length_nil, List.cons_append, List.nil_append, Bool.or_false, Bool.false_or, Bool.or_true, Bool.true_or, Bool.and_true, Bool.true_and, Bool.and_false, Bool.false_and, Bool.not_true, Bool.not_false, Bool.false_eq_true, if_true, if_false, reduceIte, List.replicate_succ, List.replicate_zero, List.zip_cons_cons, List.zip_nil_right, List.foldlM_cons, List.foldlM_nil, List.nodup_nil, q]
        · simp
        · simp; omega
        · intro y hy
          rcases List.mem_append.mp hy with z | z
          · exact hx y z
          · rw [List.mem_singleton.mp z]; exact ⟨hab, ho⟩
    · rintro r1 ⟨j, cnt, xs, t, s', x6, x7, x8, x9, e, hc, rfl, hd, hs0, hs, hx⟩
      cases cnt with
      | succ cnt => simp [rngs] at e
      | zero =>
        obtain ⟨x, o, e5, v5, t5, rfl, rfl, p5, p6, d5⟩ := next_run (W := W) (n := n - 1) (many := m) (by omega) hd (by omega) (by omega)
        refine ends_rt (by (conv => lhs; simp [exs, ex, ev, evs, evo, eva, evi, evc, Tg.put, leaf?, bl?, int?, node?, tpl?, lsts?, T.isLeaf, T.frz, T.frzs, argOk, ioSlots, ioTs, ioPut, ME.mut, MEs.mut, MO.mut, ME.path, bfn, binop, cmpop, T.lst?, T.leaves, cc_run, cc_io, wipe, Option.bind_eq_bind, Option.bind_some, Option.map_some, Option.pure_def, List.getD_cons_zero, List.getD_cons_succ, List.set_cons_zero, List.set_cons_succ, List.map_cons, List.map_nil, List.mapM_cons, List.mapM_nil, List.length_cons, List.length_nil, List.cons_append, List.nil_append, Bool.or_false, Bool.false_or, Bool.or_true, Bool.true_or, Bool.and_true, Bool.true_and, Bool.and_false, Bool.false_and, Bool.not_true, Bool.not_false, Bool.false_eq_true, if_true, if_false, reduceIte, List.replicate_succ, List.replicate_zero, List.zip_cons_cons, List.zip_nil_right, List.foldlM_cons, List.foldlM_nil, List.nodup_nil, io_law_next, e5, leaves_fn, lim]) <;> rfl) ⟨_, rfl, Sum.inr (v5, xs), s', t5, rfl, rfl, ⟨by omega, by omega, p5, by omega, hx⟩, hs0, ?_, d5⟩
        show (((xs.map fun x => 1 + nd k x.2.2).sum : Nat) : Int) + s' = sp
        rw [sum_succ]
        omega
theorem house_run {W : Nat} {few : Int} {t : T} (h1 : 1 ≤ few) (h2 : few ≤ 99) (hn : 9 < n) (hd : Dw t) :
    ∃ x outs, callD T0 W n f_law_house [t, .leaf (.int few)] = some (x, outs) ∧ ∃ (r : Rm 6) (t' : T), x = .leaf (enc 6 r) ∧ outs = [t'] ∧ Ok 6 r ∧ nd 6 r ≤ 12 ∧ Dw t' := by
  refine call_io (by omega) (show T0 f_law_house = some b_law_house from rfl) rfl ?_
  obtain ⟨x, o, e1, v1, t1, rfl, rfl, p1, p2, d1⟩ := next_run (W := W) (n := n - 1) (many := 12) (by omega) hd (by omega) (by omega)
  obtain ⟨x, o, e2, v2, t2, rfl, rfl, p3, p4, d2⟩ := next_run (W := W) (n := n - 1) (many := 7) (by omega) d1 (by omega) (by omega)
  obtain ⟨x, o, e3, r, s', t3, rfl, rfl, ho, hs, hnd, d3⟩ := room_run (W := W) h1 h2 6 (n - 1) t2 (1 + v1) v2 (by omega) d2 (by omega) (by omega) p3 (by omega)
  exact ends_rt (by (conv => lhs; simp [exs, ex, ev, evs, evo, eva, evi, evc, Tg.put, leaf?, bl?, int?, node?, tpl?, lsts?, T.isLeaf, T.frz, T.frzs, argOk, ioSlots, ioTs, ioPut, ME.mut, MEs.mut, MO.mut, ME.path, bfn, binop, cmpop, T.lst?, T.leaves, cc_run, cc_io, wipe, Option.bind_eq_bind, Option.bind_some, Option.map_some, Option.pure_def, List.getD_cons_zero, List.getD_cons_succ, List.set_cons_zero, List.set_cons_succ, List.map_cons, List.map_nil, List.mapM_cons, List.mapM_nil, List.length_cons, List.length_nil, List.cons_append, List.nil_append, Bool.or_false, Bool.false_or, Bool.or_true, Bool.true_or, Bool.and_true, Bool.true_and, Bool.and_false, Bool.false_and, Bool.not_true, Bool.not_false, Bool.false_eq_true, if_true, if_false, reduceIte, List.replicate_succ, List.replicate_zero, List.zip_cons_cons, List.zip_nil_right, List.foldlM_cons, List.foldlM_nil, List.nodup_nil, io_law_next, io_law_room, e1, e2, e3, lim]) <;> rfl) ⟨_, rfl, r, t3, rfl, rfl, ho, by omega, d3⟩
end
end PD

/-! _law_harder. -/
namespace PD
open PySem
theorem F2.snoc {α β : Type} {R : α → β → Prop} {a : α} {b : β} (h : R a b) : ∀ {as : List α} {bs : List β}, F2 R as bs → F2 R (as ++ [a]) (bs ++ [b])
  | _, _, .nil => .cons h .nil
  | _, _, .cons x t => .cons x (F2.snoc h t)
/-- a house made harder -/
def RH (most a b a' b' : Int) : Prop := (1 ≤ a ∧ a ≤ 99 ∧ 0 ≤ b ∧ b ≤ a) ∧ a ≤ a' ∧ a' ≤ 99 ∧ b' = 0 ∧ (most = 0 → a' = a)
section
variable {W n : Nat}
theorem io_law_harder : ((T0 f_law_harder).map Def.io).getD [] = [true, false, false] := rfl
theorem harder_run {W : Nat} {most : Int} (h1 : 0 ≤ most) (h2 : most ≤ 99) : ∀ (k n : Nat) (t : T) (r : Rm k), k + 1 < n → Dw t → Ok k r →
    ∃ x outs, callD T0 W n f_law_harder [t, .leaf (enc k r), .leaf (.int most)] = some (x, outs) ∧ ∃ (r' : Rm k) (t' : T), x = .leaf (enc k r') ∧ outs = [t'] ∧ Ok k r' ∧ nd k r' = nd k r ∧ Sh (RH most) k r r' ∧ Dw t' := by
  intro k
  induction k with
  | zero =>
    intro n t r hn hd ho
    refine call_io (by omega) (show T0 f_law_harder = some b_law_harder from rfl) rfl ?_
    exact ends_tt (by (conv => lhs; simp [exs, ex, ev, evs, evo, eva, evi, evc, Tg.put, leaf?, bl?, int?, node?, tpl?, lsts?, T.isLeaf, T.frz, T.frzs, argOk, ioSlots, ioTs, ioPut, ME.mut, MEs.mut, MO.mut, ME.path, bfn, binop, cmpop, T.lst?, T.leaves, cc_run, cc_io, wipe, Option.bind_eq_bind, Option.bind_some, Option.map_some, Option.pure_def, List.getD_cons_zero, List.getD_cons_succ, List.set_cons_zero, List.set_cons_succ, List.map_cons, List.map_nil, List.mapM_cons, List.mapM_nil, List.length_cons, List.length_nil, List.cons_append, List.nil_append, Bool.or_false, Bool.false_or, Bool.or_true, Bool.true_or, Bool.and_true, Bool.true_and, Bool.and_false, Bool.false_and, Bool.not_true, Bool.not_false, Bool.false_eq_true, if_true, if_false, reduceIte, List.replicate_succ, List.replicate_zero, List.zip_cons_cons, List.zip_nil_right, List.foldlM_cons, List.foldlM_nil, List.nodup_nil, enc]) <;> rfl) (ends_rt (by (conv => lhs; simp [exs, ex, ev, evs, evo, eva, evi, evc, Tg.put, leaf?, bl?, int?, node?, tpl?, lsts?, T.isLeaf, T.frz, T.frzs, argOk, ioSlots, ioTs, ioPut, ME.mut, MEs.mut, MO.mut, ME.path, bfn, binop, cmpop, T.lst?, T.leaves, cc_run, cc_io, wipe, Option.bind_eq_bind, Option.bind_some, Option.map_some, Option.pure_def, List.getD_cons_zero, List.getD_cons_succ, List.set_cons_zero, List.set_cons_succ, List.map_cons, List.map_nil, List.mapM_cons, List.mapM_nil, List.length_cons, List.length_nil, List.cons_append, List.nil_append, Bool.or_false, Bool.false_or, Bool.or_true, Bool.true_or, Bool.and_true, Bool.true_and, Bool.and_false, Bool.false_and, Bool.not_true, Bool.not_false, Bool.false_eq_true, if_true, if_false, reduceIte, List.replicate_succ, List.replicate_zero, List.zip_cons_cons, List.zip_nil_right, List.foldlM_cons, List.foldlM_nil, List.nodup_nil]) <;> rfl) ⟨_, rfl, r, t, rfl, rfl, ho, rfl, rfl, hd⟩)
  | succ k ih =>
    intro n t r hn hd ho
    refine call_io (by omega) (show T0 f_law_harder = some b_law_harder from rfl) rfl ?_
    cases r with
    | inl s => exact ends_tt (by (conv => lhs; simp [exs, ex, ev, evs, evo, eva, evi, evc, Tg.put, leaf?, bl?, int?, node?, tpl?, lsts?, T.isLeaf, T.frz, T.frzs, argOk, ioSlots, ioTs, ioPut, ME.mut, MEs.mut, MO.mut, ME.path, bfn, binop, cmpop, T.lst?, T.leaves, cc_run, cc_io, wipe, Option.bind_eq_bind, Option.bind_some, Option.map_some, Option.pure_def, List.getD_cons_zero, List.getD_cons_succ, List.set_cons_zero, List.set_cons_succ, List.map_cons, List.map_nil, List.mapM_cons, List.mapM_nil, List.length_cons, List.length_nil, List.cons_append, List.nil_append, Bool.or_false, Bool.false_or, Bool.or_true, Bool.true_or, Bool.and_true, Bool.true_and, Bool.and_false, Bool.false_and, Bool.not_true, Bool.not_false, Bool.false_eq_true, if_true, if_false, reduceIte, List.replicate_succ, List.replicate_zero, List.zip_cons_cons, List.zip_nil_right, List.foldlM_cons, List.foldlM_nil, List.nodup_nil, enc]) <;> rfl) (ends_rt (by (conv => lhs; simp [exs, ex, ev, evs, evo, eva, evi, evc, Tg.put, leaf?, bl?, int?, node?, tpl?, lsts?, T.isLeaf, T.frz, T.frzs, argOk, ioSlots, ioTs, ioPut, ME.mut, MEs.mut, MO.mut, ME.path, bfn, binop, cmpop, T.lst?, T.leaves, cc_run, cc_io, wipe, Option.bind_eq_bind, Option.bind_some, Option.map_some, Option.pure_def, List.getD_cons_zero, List.getD_cons_succ, List.set_cons_zero, List.set_cons_succ, List.map_cons, List.map_nil, List.mapM_cons, List.mapM_nil, List.length_cons, List.length_nil, List.cons_append, List.nil_append, Bool.or_false, Bool.false_or, Bool.or_true, Bool.true_or, Bool.and_true, Bool.true_and, Bool.and_false, Bool.false_and, Bool.not_true, Bool.not_false, Bool.false_eq_true, if_true, if_false, reduceIte, List.replicate_succ, List.replicate_zero, List.zip_cons_cons, List.zip_nil_right, List.foldlM_cons, List.foldlM_nil, List.nodup_nil]) <;> rfl) ⟨_, rfl, Sum.inl s, t, rfl, rfl, ho, rfl, rfl, hd⟩)
    | inr q =>
      obtain ⟨h, ds⟩ := q
      obtain ⟨hl, hl4, c0, c1, hds⟩ := ho
      refine ends_ff0 (by (conv => lhs; simp [exs, ex, ev, evs, evo, eva, evi, evc, Tg.put, leaf?, bl?, int?, node?, tpl?, lsts?, T.isLeaf, T.frz, T.frzs, argOk, ioSlots, ioTs, ioPut, ME.mut, MEs.mut, MO.mut, ME.path, bfn, binop, cmpop, T.lst?, T.leaves, cc_run, cc_io, wipe, Option.bind_eq_bind, Option.bind_some, Option.map_some, Option.pure_def, List.getD_cons_zero, List.getD_cons_succ, List.set_cons_zero, List.set_cons_succ, List.map_cons, List.map_nil, List.mapM_cons, List.mapM_nil, List.length_cons, List.length_nil, List.cons_append, List.nil_append, Bool.or_false, Bool.false_or, Bool.or_true, Bool.true_or, Bool.and_true, Bool.true_and, Bool.and_false, Bool.false_and, Bool.not_true, Bool.not_false, Bool.false_eq_true, if_true, if_false, reduceIte, List.replicate_succ, List.replicate_zero, List.zip_cons_cons, List.zip_nil_right, List.foldlM_cons, List.foldlM_nil, List.nodup_nil, enc]) <;> rfl) (ends_nx (by (conv => lhs; simp [exs, ex, ev, evs, evo, eva, evi, evc, Tg.put, leaf?, bl?, int?, node?, tpl?, lsts?, T.isLeaf, T.frz, T.frzs, argOk, ioSlots, ioTs, ioPut, ME.mut, MEs.mut, MO.mut, ME.path, bfn, binop, cmpop, T.lst?, T.leaves, cc_run, cc_io, wipe, Option.bind_eq_bind, Option.bind_some, Option.map_some, Option.pure_def, List.getD_cons_zero, List.getD_cons_succ, List.set_cons_zero, List.set_cons_succ, List.map_cons, List.map_nil, List.mapM_cons, List.mapM_nil, List.length_cons, List.length_nil, List.cons_append, List.nil_append, Bool.or_false, Bool.false_or, Bool.or_true, Bool.true_or, Bool.and_true, Bool.true_and, Bool.and_false, Bool.false_and, Bool.not_true, Bool.not_false, Bool.false_eq_true, if_true, if_false, reduceIte, List.replicate_succ, List.replicate_zero, List.zip_cons_cons, List.zip_nil_right, List.foldlM_cons, List.foldlM_nil, List.nodup_nil, lim]) <;> rfl) ?_)
      refine ends_for (fun it env => ∃ (pre xs ys : List (Int × Int × Rm k)) (t : T) (x4 x5 x6 : Option T), it = xs.map (encD k) ∧ pre ++ xs = ds ∧
          env = [some t, some (.leaf (.tup [.int h, .tup (ds.map (encD k))])), some (.leaf (.int most)), some (.node (ys.map fun x => .leaf (encD k x))), x4, x5, x6] ∧ Dw t ∧
          F2 (fun x y => RH most x.1 x.2.1 y.1 y.2.1 ∧ Sh (RH most) k x.2.2 y.2.2) pre ys ∧ (ys.map fun x => 1 + nd k x.2.2).sum = (pre.map fun x => 1 + nd k x.2.2).sum ∧
          ∀ x ∈ ys, (1 ≤ x.1 ∧ x.1 ≤ 99 ∧ 0 ≤ x.2.1 ∧ x.2.1 ≤ x.1) ∧ Ok k x.2.2) (by (conv => lhs; simp [exs, ex, ev, evs, evo, eva, evi, evc, Tg.put, leaf?, bl?, int?, node?, tpl?, lsts?, T.isLeaf, T.frz, T.frzs, argOk, ioSlots, ioTs, ioPut, ME.mut, MEs.mut, MO.mut, ME.path, bfn, binop, cmpop, T.lst?, T.leaves, cc_run, cc_io, wipe, Option.bind_eq_bind, Option.bind_some, Option.map_some, Option.pure_def, List.getD_cons_zero, List.getD_cons_succ, List.set_cons_zero, List.set_cons_succ, List.map_cons, List.map_nil, List.mapM_cons, List.mapM_nil, List.length_cons, List.length_nil, List.cons_append, List.nil_append, Bool.or_false, Bool.false_or, Bool.or_true, Bool.true_or, Bool.and_true, Bool.true_and, Bool.and_false, Bool.false_and, Bool.not_true, Bool.not_false, Bool.false_eq_true, if_true, if_false, reduceIte, List.replicate_succ, List.replicate_zero, List.zip_cons_cons, List.zip_nil_right, List.foldlM_cons, List.foldlM_nil, List.nodup_nil, index, atI, ixN]) <;> rfl) ⟨[], ds, [], t, none, none, none, rfl, rfl, rfl, hd, .nil, rfl, fun x hx => nomatch hx⟩ ?_ ?_
      · rintro d its r1 ⟨pre, xs, ys, t, x4, x5, x6, e, hp, rfl, hd, hf, hn1, hy⟩
        cases xs with
        | nil => simp at e
        | cons x xs =>
          simp only [List.map_cons, List.cons.injEq] at e
          obtain ⟨rfl, rfl⟩ := e
          have hxd : x ∈ ds := by rw [← hp]; simp
          obtain ⟨hx1, hx2⟩ := hds x hxd
          obtain ⟨z, o, e1, v, t1, rfl, rfl, p1, p2, d1⟩ := next_run (W := W) (n := n - 1) (many := most + 1) (by omega) hd (by omega) (by omega)
          obtain ⟨z, o, e2, r', t2, rfl, rfl, ho', hnd, hsh, d2⟩ := ih (n - 1) t1 x.2.2 (by omega) d1 hx2
          obtain ⟨a, ha, a1, a2, a3⟩ : ∃ a : Int, (if x.1 + v < 99 then x.1 + v else 99) = a ∧ x.1 ≤ a ∧ a ≤ 99 ∧ (most = 0 → a = x.1) := by
            refine ⟨_, rfl, ?_, ?_, ?_⟩ <;> split <;> omega
          have l3 : ys.length < 16777216 := by
            have := hf.len
            have : pre.length ≤ ds.length := by rw [← hp]; simp
            omega
          refine ⟨_, (by (conv => lhs; simp [exs, ex, ev, evs, evo, eva, evi, evc, Tg.put, leaf?, bl?, int?, node?, tpl?, lsts?, T.isLeaf, T.frz, T.frzs, argOk, ioSlots, ioTs, ioPut, ME.mut, MEs.mut, MO.mut, ME.path, bfn, binop, cmpop, T.lst?, T.leaves, cc_run, cc_io, wipe, Option.bind_eq_bind, Option.bind_some, Option.map_some, Option.pure_def, List.getD_cons_zero, List.getD_cons_succ, List.set_cons_zero, List.set_cons_succ, List.map_cons, List.map_nil, List.mapM_cons, List.mapM_nil, List.length_cons, List.length_nil, List.cons_append, List.nil_append, Bool.or_false, Bool.false_or, Bool.or_true, Bool.true_or, Bool.and_true, Bool.true_and, Bool.and_false, Bool.false_and, Bool.not_true, Bool.not_false, Bool.false_eq_true, if_true, if_false, reduceIte, List.replicate_succ, List.replicate_zero, List.zip_cons_cons, List.zip_nil_right, List.foldlM_cons, List.foldlM_nil, List.nodup_nil]) <;> rfl), ends_nx (by (conv => lhs; simp [exs, ex, ev, evs, evo, eva, evi, evc, Tg.put, leaf?, bl?, int?, node?, tpl?, lsts?, T.isLeaf, T.frz, T.frzs, argOk, ioSlots, ioTs, ioPut, ME.mut, MEs.mut, MO.mut, ME.path, bfn, binop, cmpop, T.lst?, T.leaves, cc_run, cc_io, wipe, Option.bind_eq_bind, Option.bind_some, Option.map_some, Option.pure_def, List.getD_cons_zero, List.getD_cons_succ, List.set_cons_zero, List.set_cons_succ, List.map_cons, List.map_nil, List.mapM_cons, List.mapM_nil, List.length_cons, List.length_nil, List.cons_append, List.nil_append, Bool.or_false, Bool.false_or, Bool.or_true, Bool.true_or, Bool.and_true, Bool.true_and, Bool.and_false, Bool.false_and, Bool.not_true, Bool.not_false, Bool.false_eq_true, if_true, if_false, reduceIte, List.replicate_succ, List.replicate_zero, List.zip_cons_cons, List.zip_nil_right, List.foldlM_cons, List.foldlM_nil, List.nodup_nil, io_law_next, io_law_harder, e1, e2, ha, l3, lim]) <;> rfl) (ends_nil ⟨pre ++ [x], xs, ys ++ [(a, 0, r')], t2, some (.leaf (.int x.1)), some (.leaf (.int x.2.1)), some (.leaf (enc k x.2.2)), rfl, by simpa using hp, ?_, d2, F2.snoc ⟨⟨hx1, a1, a2, rfl, a3⟩, hsh⟩ hf, ?_, ?_⟩)⟩
          · simp
          · simp [hn1, hnd]
          · intro y hy'
            rcases List.mem_append.mp hy' with z | z
            · exact hy y z
            · rw [List.mem_singleton.mp z]; exact ⟨⟨by show 1 ≤ a; omega, a2, Int.le_refl 0, by show (0 : Int) ≤ a; omega⟩, ho'⟩
      · rintro r1 ⟨pre, xs, ys, t, x4, x5, x6, e, hp, rfl, hd, hf, hn1, hy⟩
        cases xs with
        | cons x xs => simp at e
        | nil =>
          rw [List.append_nil] at hp
          subst hp
          have hlen := hf.len
          exact ends_rt (by (conv => lhs; simp [exs, ex, ev, evs, evo, eva, evi, evc, Tg.put, leaf?, bl?, int?, node?, tpl?, lsts?, T.isLeaf, T.frz, T.frzs, argOk, ioSlots, ioTs, ioPut, ME.mut, MEs.mut, MO.mut, ME.path, bfn, binop, cmpop, T.lst?, T.leaves, cc_run, cc_io, wipe, Option.bind_eq_bind, Option.bind_some, Option.map_some, Option.pure_def, List.getD_cons_zero, List.getD_cons_succ, List.set_cons_zero, List.set_cons_succ, List.map_cons, List.map_nil, List.mapM_cons, List.mapM_nil, List.length_cons, List.length_nil, List.cons_append, List.nil_append, Bool.or_false, Bool.false_or, Bool.or_true, Bool.true_or, Bool.and_true, Bool.true_and, Bool.and_false, Bool.false_and, Bool.not_true, Bool.not_false, Bool.false_eq_true, if_true, if_false, reduceIte, List.replicate_succ, List.replicate_zero, List.zip_cons_cons, List.zip_nil_right, List.foldlM_cons, List.foldlM_nil, List.nodup_nil, leaves_fn, lim, index, atI, ixN]) <;> rfl) ⟨_, rfl, Sum.inr (h, ys), t, rfl, rfl, ⟨by omega, by omega, c0, by omega, hy⟩, hn1, ⟨rfl, hf⟩, hd⟩
end
end PD

/-! _law_one_more, _law_small, mean. -/
namespace PD
open PySem
section
variable {W n : Nat}
theorem io_law_one_more : ((T0 f_law_one_more).map Def.io).getD [] = [false] := rfl
theorem io_law_small : ((T0 f_law_small).map Def.io).getD [] = [false] := rfl
def om : (k : Nat) → Rm k → Rm k := mp fun n _ => (n + 1, 0)
def sm : (k : Nat) → Rm k → Rm k := mp fun n _ => (1 + n % 50, 0)
theorem one_more_run {W : Nat} : ∀ (k n : Nat) (r : Rm k), k < n → Fit k r → callD T0 W n f_law_one_more [.leaf (enc k r)] = some (.leaf (enc k (om k r)), []) := by
  intro k
  induction k with
  | zero =>
    intro n r hn _
    refine call_ends (by omega) (show T0 f_law_one_more = some b_law_one_more from rfl) rfl rfl ?_
    exact ends_tt (by (conv => lhs; simp [exs, ex, ev, evs, evo, eva, evi, evc, Tg.put, leaf?, bl?, int?, node?, tpl?, lsts?, T.isLeaf, T.frz, T.frzs, argOk, ioSlots, ioTs, ioPut, ME.mut, MEs.mut, MO.mut, ME.path, bfn, binop, cmpop, T.lst?, T.leaves, cc_run, cc_io, wipe, Option.bind_eq_bind, Option.bind_some, Option.map_some, Option.pure_def, List.getD_cons_zero, List.getD_cons_succ, List.set_cons_zero, List.set_cons_succ, List.map_cons, List.map_nil, List.mapM_cons, List.mapM_nil, List.length_cons, List.length_nil, List.cons_append, List.nil_append, Bool.or_false, Bool.false_or, Bool.or_true, Bool.true_or, Bool.and_true, Bool.true_and, Bool.and_false, Bool.false_and, Bool.not_true, Bool.not_false, Bool.false_eq_true, if_true, if_false, reduceIte, List.replicate_succ, List.replicate_zero, List.zip_cons_cons, List.zip_nil_right, List.foldlM_cons, List.foldlM_nil, List.nodup_nil, enc]) <;> rfl) (ends_rt (by (conv => lhs; simp [exs, ex, ev, evs, evo, eva, evi, evc, Tg.put, leaf?, bl?, int?, node?, tpl?, lsts?, T.isLeaf, T.frz, T.frzs, argOk, ioSlots, ioTs, ioPut, ME.mut, MEs.mut, MO.mut, ME.path, bfn, binop, cmpop, T.lst?, T.leaves, cc_run, cc_io, wipe, Option.bind_eq_bind, Option.bind_some, Option.map_some, Option.pure_def, List.getD_cons_zero, List.getD_cons_succ, List.set_cons_zero, List.set_cons_succ, List.map_cons, List.map_nil, List.mapM_cons, List.mapM_nil, List.length_cons, List.length_nil, List.cons_append, List.nil_append, Bool.or_false, Bool.false_or, Bool.or_true, Bool.true_or, Bool.and_true, Bool.true_and, Bool.and_false, Bool.false_and, Bool.not_true, Bool.not_false, Bool.false_eq_true, if_true, if_false, reduceIte, List.replicate_succ, List.replicate_zero, List.zip_cons_cons, List.zip_nil_right, List.foldlM_cons, List.foldlM_nil, List.nodup_nil]) <;> rfl) rfl)
  | succ k ih =>
    intro n r hn hf
    refine call_ends (by omega) (show T0 f_law_one_more = some b_law_one_more from rfl) rfl rfl ?_
    cases r with
    | inl s => exact ends_tt (by (conv => lhs; simp [exs, ex, ev, evs, evo, eva, evi, evc, Tg.put, leaf?, bl?, int?, node?, tpl?, lsts?, T.isLeaf, T.frz, T.frzs, argOk, ioSlots, ioTs, ioPut, ME.mut, MEs.mut, MO.mut, ME.path, bfn, binop, cmpop, T.lst?, T.leaves, cc_run, cc_io, wipe, Option.bind_eq_bind, Option.bind_some, Option.map_some, Option.pure_def, List.getD_cons_zero, List.getD_cons_succ, List.set_cons_zero, List.set_cons_succ, List.map_cons, List.map_nil, List.mapM_cons, List.mapM_nil, List.length_cons, List.length_nil, List.cons_append, List.nil_append, Bool.or_false, Bool.false_or, Bool.or_true, Bool.true_or, Bool.and_true, Bool.true_and, Bool.and_false, Bool.false_and, Bool.not_true, Bool.not_false, Bool.false_eq_true, if_true, if_false, reduceIte, List.replicate_succ, List.replicate_zero, List.zip_cons_cons, List.zip_nil_right, List.foldlM_cons, List.foldlM_nil, List.nodup_nil, enc]) <;> rfl) (ends_rt (by (conv => lhs; simp [exs, ex, ev, evs, evo, eva, evi, evc, Tg.put, leaf?, bl?, int?, node?, tpl?, lsts?, T.isLeaf, T.frz, T.frzs, argOk, ioSlots, ioTs, ioPut, ME.mut, MEs.mut, MO.mut, ME.path, bfn, binop, cmpop, T.lst?, T.leaves, cc_run, cc_io, wipe, Option.bind_eq_bind, Option.bind_some, Option.map_some, Option.pure_def, List.getD_cons_zero, List.getD_cons_succ, List.set_cons_zero, List.set_cons_succ, List.map_cons, List.map_nil, List.mapM_cons, List.mapM_nil, List.length_cons, List.length_nil, List.cons_append, List.nil_append, Bool.or_false, Bool.false_or, Bool.or_true, Bool.true_or, Bool.and_true, Bool.true_and, Bool.and_false, Bool.false_and, Bool.not_true, Bool.not_false, Bool.false_eq_true, if_true, if_false, reduceIte, List.replicate_succ, List.replicate_zero, List.zip_cons_cons, List.zip_nil_right, List.foldlM_cons, List.foldlM_nil, List.nodup_nil]) <;> rfl) rfl)
    | inr q =>
      obtain ⟨h, ds⟩ := q
      obtain ⟨hl, hl4, c0, c1, hd⟩ := hf
      refine ends_ff0 (by (conv => lhs; simp [exs, ex, ev, evs, evo, eva, evi, evc, Tg.put, leaf?, bl?, int?, node?, tpl?, lsts?, T.isLeaf, T.frz, T.frzs, argOk, ioSlots, ioTs, ioPut, ME.mut, MEs.mut, MO.mut, ME.path, bfn, binop, cmpop, T.lst?, T.leaves, cc_run, cc_io, wipe, Option.bind_eq_bind, Option.bind_some, Option.map_some, Option.pure_def, List.getD_cons_zero, List.getD_cons_succ, List.set_cons_zero, List.set_cons_succ, List.map_cons, List.map_nil, List.mapM_cons, List.mapM_nil, List.length_cons, List.length_nil, List.cons_append, List.nil_append, Bool.or_false, Bool.false_or, Bool.or_true, Bool.true_or, Bool.and_true, Bool.true_and, Bool.and_false, Bool.false_and, Bool.not_true, Bool.not_false, Bool.false_eq_true, if_true, if_false, reduceIte, List.replicate_succ, List.replicate_zero, List.zip_cons_cons, List.zip_nil_right, List.foldlM_cons, List.foldlM_nil, List.nodup_nil, enc]) <;> rfl) ?_
      obtain ⟨xs, es, q, h1, h2⟩ : ∃ xs es, ev (CC T0 W (n - 1)) true c_law_one_more_0 [some (.leaf (.tup [.int h, .tup (ds.map (encD k))])), none, none, none] = some (.node xs, [some (.leaf (.tup [.int h, .tup (ds.map (encD k))])), none, none, none]) ∧ T.leaves xs = some es ∧
          D.tup [.int h, .tup es] = enc (k + 1) (om (k + 1) (Sum.inr (h, ds))) := by
        refine ⟨_, _, evl_compN (encD k) (fun x => .leaf (.tup [.int (x.1 + 1), .int 0, enc k (om k x.2.2)])) (by (conv => lhs; simp [exs, ex, ev, evs, evo, eva, evi, evc, Tg.put, leaf?, bl?, int?, node?, tpl?, lsts?, T.isLeaf, T.frz, T.frzs, argOk, ioSlots, ioTs, ioPut, ME.mut, MEs.mut, MO.mut, ME.path, bfn, binop, cmpop, T.lst?, T.leaves, cc_run, cc_io, wipe, Option.bind_eq_bind, Option.bind_some, Option.map_some, Option.pure_def, List.getD_cons_zero, List.getD_cons_succ, List.set_cons_zero, List.set_cons_succ, List.map_cons, List.map_nil, List.mapM_cons, List.mapM_nil, List.length_cons, List.length_nil, List.cons_append, List.nil_append, Bool.or_false, Bool.false_or, Bool.or_true, Bool.true_or, Bool.and_true, Bool.true_and, Bool.and_false, Bool.false_and, Bool.not_true, Bool.not_false, Bool.false_eq_true, if_true, if_false, reduceIte, List.replicate_succ, List.replicate_zero, List.zip_cons_cons, List.zip_nil_right, List.foldlM_cons, List.foldlM_nil, List.nodup_nil, index, atI, ixN]) <;> rfl) rfl (by unfold lim; omega) (fun x hx => ?_), leaves_fn _ _, ?_⟩
        · have f := ih (n - 1) x.2.2 (by omega) (hd x hx).2.2.2.2
          exact ⟨_, (by (conv => lhs; simp [exs, ex, ev, evs, evo, eva, evi, evc, Tg.put, leaf?, bl?, int?, node?, tpl?, lsts?, T.isLeaf, T.frz, T.frzs, argOk, ioSlots, ioTs, ioPut, ME.mut, MEs.mut, MO.mut, ME.path, bfn, binop, cmpop, T.lst?, T.leaves, cc_run, cc_io, wipe, Option.bind_eq_bind, Option.bind_some, Option.map_some, Option.pure_def, List.getD_cons_zero, List.getD_cons_succ, List.set_cons_zero, List.set_cons_succ, List.map_cons, List.map_nil, List.mapM_cons, List.mapM_nil, List.length_cons, List.length_nil, List.cons_append, List.nil_append, Bool.or_false, Bool.false_or, Bool.or_true, Bool.true_or, Bool.and_true, Bool.true_and, Bool.and_false, Bool.false_and, Bool.not_true, Bool.not_false, Bool.false_eq_true, if_true, if_false, reduceIte, List.replicate_succ, List.replicate_zero, List.zip_cons_cons, List.zip_nil_right, List.foldlM_cons, List.foldlM_nil, List.nodup_nil]) <;> rfl), (by (conv => lhs; simp [exs, ex, ev, evs, evo, eva, evi, evc, Tg.put, leaf?, bl?, int?, node?, tpl?, lsts?, T.isLeaf, T.frz, T.frzs, argOk, ioSlots, ioTs, ioPut, ME.mut, MEs.mut, MO.mut, ME.path, bfn, binop, cmpop, T.lst?, T.leaves, cc_run, cc_io, wipe, Option.bind_eq_bind, Option.bind_some, Option.map_some, Option.pure_def, List.getD_cons_zero, List.getD_cons_succ, List.set_cons_zero, List.set_cons_succ, List.map_cons, List.map_nil, List.mapM_cons, List.mapM_nil, List.length_cons, List.length_nil, List.cons_append, List.nil_append, Bool.or_false, Bool.false_or, Bool.or_true, Bool.true_or, Bool.and_true, Bool.true_and, Bool.and_false, Bool.false_and, Bool.not_true, Bool.not_false, Bool.false_eq_true, if_true, if_false, reduceIte, List.replicate_succ, List.replicate_zero, List.zip_cons_cons, List.zip_nil_right, List.foldlM_cons, List.foldlM_nil, List.nodup_nil, f, io_law_one_more, lim]) <;> rfl), (by (conv => lhs; simp [exs, ex, ev, evs, evo, eva, evi, evc, Tg.put, leaf?, bl?, int?, node?, tpl?, lsts?, T.isLeaf, T.frz, T.frzs, argOk, ioSlots, ioTs, ioPut, ME.mut, MEs.mut, MO.mut, ME.path, bfn, binop, cmpop, T.lst?, T.leaves, cc_run, cc_io, wipe, Option.bind_eq_bind, Option.bind_some, Option.map_some, Option.pure_def, List.getD_cons_zero, List.getD_cons_succ, List.set_cons_zero, List.set_cons_succ, List.map_cons, List.map_nil, List.mapM_cons, List.mapM_nil, List.length_cons, List.length_nil, List.cons_append, List.nil_append, Bool.or_false, Bool.false_or, Bool.or_true, Bool.true_or, Bool.and_true, Bool.true_and, Bool.and_false, Bool.false_and, Bool.not_true, Bool.not_false, Bool.false_eq_true, if_true, if_false, reduceIte, List.replicate_succ, List.replicate_zero, List.zip_cons_cons, List.zip_nil_right, List.foldlM_cons, List.foldlM_nil, List.nodup_nil]) <;> rfl)⟩
        · rw [om, enc_mp]
      exact ends_rt (by (conv => lhs; simp [exs, ex, ev, evs, evo, eva, evi, evc, Tg.put, leaf?, bl?, int?, node?, tpl?, lsts?, T.isLeaf, T.frz, T.frzs, argOk, ioSlots, ioTs, ioPut, ME.mut, MEs.mut, MO.mut, ME.path, bfn, binop, cmpop, T.lst?, T.leaves, cc_run, cc_io, wipe, Option.bind_eq_bind, Option.bind_some, Option.map_some, Option.pure_def, List.getD_cons_zero, List.getD_cons_succ, List.set_cons_zero, List.set_cons_succ, List.map_cons, List.map_nil, List.mapM_cons, List.mapM_nil, List.length_cons, List.length_nil, List.cons_append, List.nil_append, Bool.or_false, Bool.false_or, Bool.or_true, Bool.true_or, Bool.and_true, Bool.true_and, Bool.and_false, Bool.false_and, Bool.not_true, Bool.not_false, Bool.false_eq_true, if_true, if_false, reduceIte, List.replicate_succ, List.replicate_zero, List.zip_cons_cons, List.zip_nil_right, List.foldlM_cons, List.foldlM_nil, List.nodup_nil, q, h1, lim, index, atI, ixN, c_law_one_more_0_m, c_law_one_more_0_p]) <;> rfl) (by rw [rx_rt, ← h2])
theorem small_run {W : Nat} : ∀ (k n : Nat) (r : Rm k), k < n → Fit k r → callD T0 W n f_law_small [.leaf (enc k r)] = some (.leaf (enc k (sm k r)), []) := by
  intro k
  induction k with
  | zero =>
    intro n r hn _
    refine call_ends (by omega) (show T0 f_law_small = some b_law_small from rfl) rfl rfl ?_
    exact ends_tt (by (conv => lhs; simp [exs, ex, ev, evs, evo, eva, evi, evc, Tg.put, leaf?, bl?, int?, node?, tpl?, lsts?, T.isLeaf, T.frz, T.frzs, argOk, ioSlots, ioTs, ioPut, ME.mut, MEs.mut, MO.mut, ME.path, bfn, binop, cmpop, T.lst?, T.leaves, cc_run, cc_io, wipe, Option.bind_eq_bind, Option.bind_some, Option.map_some, Option.pure_def, List.getD_cons_zero, List.getD_cons_succ, List.set_cons_zero, List.set_cons_succ, List.map_cons, List.map_nil, List.mapM_cons, List.mapM_nil, List.length_cons, List.length_nil, List.cons_append, List.nil_append, Bool.or_false, Bool.false_or, Bool.or_true, Bool.true_or, Bool.and_true, Bool.true_and, Bool.and_false, Bool.false_and, Bool.not_true, Bool.not_false, Bool.false_eq_true, if_true, if_false, reduceIte, List.replicate_succ, List.replicate_zero, List.zip_cons_cons, List.zip_nil_right, List.foldlM_cons, List.foldlM_nil, List.nodup_nil, enc]) <;> rfl) (ends_rt (by (conv => lhs; simp [exs, ex, ev, evs, evo, eva, evi, evc, Tg.put, leaf?, bl?, int?, node?, tpl?, lsts?, T.isLeaf, T.frz, T.frzs, argOk, ioSlots, ioTs, ioPut, ME.mut, MEs.mut, MO.mut, ME.path, bfn, binop, cmpop, T.lst?, T.leaves, cc_run, cc_io, wipe, Option.bind_eq_bind, Option.bind_some, Option.map_some, Option.pure_def, List.getD_cons_zero, List.getD_cons_succ, List.set_cons_zero, List.set_cons_succ, List.map_cons, List.map_nil, List.mapM_cons, List.mapM_nil, List.length_cons, List.length_nil, List.cons_append, List.nil_append, Bool.or_false, Bool.false_or, Bool.or_true, Bool.true_or, Bool.and_true, Bool.true_and, Bool.and_false, Bool.false_and, Bool.not_true, Bool.not_false, Bool.false_eq_true, if_true, if_false, reduceIte, List.replicate_succ, List.replicate_zero, List.zip_cons_cons, List.zip_nil_right, List.foldlM_cons, List.foldlM_nil, List.nodup_nil]) <;> rfl) rfl)
  | succ k ih =>
    intro n r hn hf
    refine call_ends (by omega) (show T0 f_law_small = some b_law_small from rfl) rfl rfl ?_
    cases r with
    | inl s => exact ends_tt (by (conv => lhs; simp [exs, ex, ev, evs, evo, eva, evi, evc, Tg.put, leaf?, bl?, int?, node?, tpl?, lsts?, T.isLeaf, T.frz, T.frzs, argOk, ioSlots, ioTs, ioPut, ME.mut, MEs.mut, MO.mut, ME.path, bfn, binop, cmpop, T.lst?, T.leaves, cc_run, cc_io, wipe, Option.bind_eq_bind, Option.bind_some, Option.map_some, Option.pure_def, List.getD_cons_zero, List.getD_cons_succ, List.set_cons_zero, List.set_cons_succ, List.map_cons, List.map_nil, List.mapM_cons, List.mapM_nil, List.length_cons, List.length_nil, List.cons_append, List.nil_append, Bool.or_false, Bool.false_or, Bool.or_true, Bool.true_or, Bool.and_true, Bool.true_and, Bool.and_false, Bool.false_and, Bool.not_true, Bool.not_false, Bool.false_eq_true, if_true, if_false, reduceIte, List.replicate_succ, List.replicate_zero, List.zip_cons_cons, List.zip_nil_right, List.foldlM_cons, List.foldlM_nil, List.nodup_nil, enc]) <;> rfl) (ends_rt (by (conv => lhs; simp [exs, ex, ev, evs, evo, eva, evi, evc, Tg.put, leaf?, bl?, int?, node?, tpl?, lsts?, T.isLeaf, T.frz, T.frzs, argOk, ioSlots, ioTs, ioPut, ME.mut, MEs.mut, MO.mut, ME.path, bfn, binop, cmpop, T.lst?, T.leaves, cc_run, cc_io, wipe, Option.bind_eq_bind, Option.bind_some, Option.map_some, Option.pure_def, List.getD_cons_zero, List.getD_cons_succ, List.set_cons_zero, List.set_cons_succ, List.map_cons, List.map_nil, List.mapM_cons, List.mapM_nil, List.length_cons, List.length_nil, List.cons_append, List.nil_append, Bool.or_false, Bool.false_or, Bool.or_true, Bool.true_or, Bool.and_true, Bool.true_and, Bool.and_false, Bool.false_and, Bool.not_true, Bool.not_false, Bool.false_eq_true, if_true, if_false, reduceIte, List.replicate_succ, List.replicate_zero, List.zip_cons_cons, List.zip_nil_right, List.foldlM_cons, List.foldlM_nil, List.nodup_nil]) <;> rfl) rfl)
    | inr q =>
      obtain ⟨h, ds⟩ := q
      obtain ⟨hl, hl4, c0, c1, hd⟩ := hf
      refine ends_ff0 (by (conv => lhs; simp [exs, ex, ev, evs, evo, eva, evi, evc, Tg.put, leaf?, bl?, int?, node?, tpl?, lsts?, T.isLeaf, T.frz, T.frzs, argOk, ioSlots, ioTs, ioPut, ME.mut, MEs.mut, MO.mut, ME.path, bfn, binop, cmpop, T.lst?, T.leaves, cc_run, cc_io, wipe, Option.bind_eq_bind, Option.bind_some, Option.map_some, Option.pure_def, List.getD_cons_zero, List.getD_cons_succ, List.set_cons_zero, List.set_cons_succ, List.map_cons, List.map_nil, List.mapM_cons, List.mapM_nil, List.length_cons, List.length_nil, List.cons_append, List.nil_append, Bool.or_false, Bool.false_or, Bool.or_true, Bool.true_or, Bool.and_true, Bool.true_and, Bool.and_false, Bool.false_and, Bool.not_true, Bool.not_false, Bool.false_eq_true, if_true, if_false, reduceIte, List.replicate_succ, List.replicate_zero, List.zip_cons_cons, List.zip_nil_right, List.foldlM_cons, List.foldlM_nil, List.nodup_nil, enc]) <;> rfl) ?_
      obtain ⟨xs, es, q, h1, h2⟩ : ∃ xs es, ev (CC T0 W (n - 1)) true c_law_small_0 [some (.leaf (.tup [.int h, .tup (ds.map (encD k))])), none, none, none] = some (.node xs, [some (.leaf (.tup [.int h, .tup (ds.map (encD k))])), none, none, none]) ∧ T.leaves xs = some es ∧
          D.tup [.int h, .tup es] = enc (k + 1) (sm (k + 1) (Sum.inr (h, ds))) := by
        refine ⟨_, _, evl_compN (encD k) (fun x => .leaf (.tup [.int (1 + x.1 % 50), .int 0, enc k (sm k x.2.2)])) (by (conv => lhs; simp [exs, ex, ev, evs, evo, eva, evi, evc, Tg.put, leaf?, bl?, int?, node?, tpl?, lsts?, T.isLeaf, T.frz, T.frzs, argOk, ioSlots, ioTs, ioPut, ME.mut, MEs.mut, MO.mut, ME.path, bfn, binop, cmpop, T.lst?, T.leaves, cc_run, cc_io, wipe, Option.bind_eq_bind, Option.bind_some, Option.map_some, Option.pure_def, List.getD_cons_zero, List.getD_cons_succ, List.set_cons_zero, List.set_cons_succ, List.map_cons, List.map_nil, List.mapM_cons, List.mapM_nil, List.length_cons, List.length_nil, List.cons_append, List.nil_append, Bool.or_false, Bool.false_or, Bool.or_true, Bool.true_or, Bool.and_true, Bool.true_and, Bool.and_false, Bool.false_and, Bool.not_true, Bool.not_false, Bool.false_eq_true, if_true, if_false, reduceIte, List.replicate_succ, List.replicate_zero, List.zip_cons_cons, List.zip_nil_right, List.foldlM_cons, List.foldlM_nil, List.nodup_nil, index, atI, ixN]) <;> rfl) rfl (by unfold lim; omega) (fun x hx => ?_), leaves_fn _ _, ?_⟩
        · have f := ih (n - 1) x.2.2 (by omega) (hd x hx).2.2.2.2
          exact ⟨_, (by (conv => lhs; simp [exs, ex, ev, evs, evo, eva, evi, evc, Tg.put, leaf?, bl?, int?, node?, tpl?, lsts?, T.isLeaf, T.frz, T.frzs, argOk, ioSlots, ioTs, ioPut, ME.mut, MEs.mut, MO.mut, ME.path, bfn, binop, cmpop, T.lst?, T.leaves, cc_run, cc_io, wipe, Option.bind_eq_bind, Option.bind_some, Option.map_some, Option.pure_def, List.getD_cons_zero, List.getD_cons_succ, List.set_cons_zero, List.set_cons_succ, List.map_cons, List.map_nil, List.mapM_cons, List.mapM_nil, List.length_cons, List.length_nil, List.cons_append, List.nil_append, Bool.or_false, Bool.false_or, Bool.or_true, Bool.true_or, Bool.and_true, Bool.true_and, Bool.and_false, Bool.false_and, Bool.not_true, Bool.not_false, Bool.false_eq_true, if_true, if_false, reduceIte, List.replicate_succ, List.replicate_zero, List.zip_cons_cons, List.zip_nil_right, List.foldlM_cons, List.foldlM_nil, List.nodup_nil]) <;> rfl), (by (conv => lhs; simp [exs, ex, ev, evs, evo, eva, evi, evc, Tg.put, leaf?, bl?, int?, node?, tpl?, lsts?, T.isLeaf, T.frz, T.frzs, argOk, ioSlots, ioTs, ioPut, ME.mut, MEs.mut, MO.mut, ME.path, bfn, binop, cmpop, T.lst?, T.leaves, cc_run, cc_io, wipe, Option.bind_eq_bind, Option.bind_some, Option.map_some, Option.pure_def, List.getD_cons_zero, List.getD_cons_succ, List.set_cons_zero, List.set_cons_succ, List.map_cons, List.map_nil, List.mapM_cons, List.mapM_nil, List.length_cons, List.length_nil, List.cons_append, List.nil_append, Bool.or_false, Bool.false_or, Bool.or_true, Bool.true_or, Bool.and_true, Bool.true_and, Bool.and_false, Bool.false_and, Bool.not_true, Bool.not_false, Bool.false_eq_true, if_true, if_false, reduceIte, List.replicate_succ, List.replicate_zero, List.zip_cons_cons, List.zip_nil_right, List.foldlM_cons, List.foldlM_nil, List.nodup_nil, f, io_law_small, lim]) <;> rfl), (by (conv => lhs; simp [exs, ex, ev, evs, evo, eva, evi, evc, Tg.put, leaf?, bl?, int?, node?, tpl?, lsts?, T.isLeaf, T.frz, T.frzs, argOk, ioSlots, ioTs, ioPut, ME.mut, MEs.mut, MO.mut, ME.path, bfn, binop, cmpop, T.lst?, T.leaves, cc_run, cc_io, wipe, Option.bind_eq_bind, Option.bind_some, Option.map_some, Option.pure_def, List.getD_cons_zero, List.getD_cons_succ, List.set_cons_zero, List.set_cons_succ, List.map_cons, List.map_nil, List.mapM_cons, List.mapM_nil, List.length_cons, List.length_nil, List.cons_append, List.nil_append, Bool.or_false, Bool.false_or, Bool.or_true, Bool.true_or, Bool.and_true, Bool.true_and, Bool.and_false, Bool.false_and, Bool.not_true, Bool.not_false, Bool.false_eq_true, if_true, if_false, reduceIte, List.replicate_succ, List.replicate_zero, List.zip_cons_cons, List.zip_nil_right, List.foldlM_cons, List.foldlM_nil, List.nodup_nil]) <;> rfl)⟩
        · rw [sm, enc_mp]
      exact ends_rt (by (conv => lhs; simp [exs, ex, ev, evs, evo, eva, evi, evc, Tg.put, leaf?, bl?, int?, node?, tpl?, lsts?, T.isLeaf, T.frz, T.frzs, argOk, ioSlots, ioTs, ioPut, ME.mut, MEs.mut, MO.mut, ME.path, bfn, binop, cmpop, T.lst?, T.leaves, cc_run, cc_io, wipe, Option.bind_eq_bind, Option.bind_some, Option.map_some, Option.pure_def, List.getD_cons_zero, List.getD_cons_succ, List.set_cons_zero, List.set_cons_succ, List.map_cons, List.map_nil, List.mapM_cons, List.mapM_nil, List.length_cons, List.length_nil, List.cons_append, List.nil_append, Bool.or_false, Bool.false_or, Bool.or_true, Bool.true_or, Bool.and_true, Bool.true_and, Bool.and_false, Bool.false_and, Bool.not_true, Bool.not_false, Bool.false_eq_true, if_true, if_false, reduceIte, List.replicate_succ, List.replicate_zero, List.zip_cons_cons, List.zip_nil_right, List.foldlM_cons, List.foldlM_nil, List.nodup_nil, q, h1, lim, index, atI, ixN, c_law_small_0_m, c_law_small_0_p]) <;> rfl) (by rw [rx_rt, ← h2])
theorem ok_sm : ∀ (k : Nat) (r : Rm k), Ok k r → Ok k (sm k r)
  | 0, _, h => h
  | _ + 1, Sum.inl _, h => h
  | k + 1, Sum.inr (h, ds), ⟨a, b, c, d, e⟩ => by
    refine ⟨by simpa using a, by simpa using b, c, by simpa using d, fun x hx => ?_⟩
    obtain ⟨y, hy, rfl⟩ := List.mem_map.mp hx
    obtain ⟨⟨h1, h2, h3, h4⟩, h5⟩ := e y hy
    refine ⟨?_, ok_sm k _ h5⟩
    show 1 ≤ 1 + y.1 % 50 ∧ 1 + y.1 % 50 ≤ 99 ∧ (0 : Int) ≤ 0 ∧ (0 : Int) ≤ 1 + y.1 % 50
    omega
theorem nd_mp {f : Int → Int → Int × Int} : ∀ (k : Nat) (r : Rm k), nd k (mp f k r) = nd k r
  | 0, _ => rfl
  | _ + 1, Sum.inl _ => rfl
  | k + 1, Sum.inr (h, ds) => by
    simp only [mp, nd, List.map_map]
    congr 1
    refine List.map_congr_left fun x _ => ?_
    show 1 + nd k (mp f k x.2.2) = _
    rw [nd_mp]
/-- the mean's two numbers: the walkers of a round and its leavings, made small -/
theorem mean_run {k : Nat} {r : Rm k} (hn : k + 5 < n) (hk : k ≤ 900) (hW : 100000000 < W) (ho : Ok k r) (h12 : nd k r ≤ 12) : ∃ (g : Nat) (w : Int), 0 < g ∧ g ∣ li k r ∧ (g : Int) ∣ w ∧ w = wb k (cl k r) (li k r) ∧
    callD T0 W n f_mean [.leaf (enc k r)] = some (.leaf (.tup [.int (w / g), .int ((li k r : Nat) / g)]), []) := by
  have hf := ho.fit
  have e1 := round_of_run (W := W) (n := n - 1) (r := r) (by omega) (by omega) hW ho h12
  have w0 : 0 ≤ wb k (cl k r) (li k r) := wb_nonneg (fit_cl k r hf) (by omega)
  obtain ⟨l0, l1⟩ := li_le k r hf
  have l2 : li k r ≤ 16777216 := Nat.le_trans (Nat.le_trans l1 (Nat.pow_le_pow_right (by omega) h12)) (by decide)
  obtain ⟨wn, hwn⟩ := Int.eq_ofNat_of_zero_le w0
  rw [hwn] at e1
  have e2 := greatest_both_run (W := W) (n := n - 1) (a := li k r) (b := wn) (by omega) (by omega)
  have g0 : 0 < Nat.gcd (li k r) wn := Nat.gcd_pos_of_pos_left wn l0
  have g1 : Nat.gcd (li k r) wn ≤ li k r := Nat.le_of_dvd l0 (Nat.gcd_dvd_left _ _)
  refine ⟨Nat.gcd (li k r) wn, wn, g0, Nat.gcd_dvd_left _ _, Int.natCast_dvd_natCast.mpr (Nat.gcd_dvd_right _ _), hwn.symm, ?_⟩
  have g2 : (0 : Int) < ((Nat.gcd (li k r) wn : Nat) : Int) := by omega
  have g3 : ((Nat.gcd (li k r) wn : Nat) : Int) < 18446744073709551616 := by omega
  generalize ((Nat.gcd (li k r) wn : Nat) : Int) = g at *
  generalize ((li k r : Nat) : Int) = a at *
  generalize (wn : Int) = b at *
  refine call_ends (by omega) (show T0 f_mean = some b_mean from rfl) rfl rfl ?_
  exact ends_nx (by (conv => lhs; simp [exs, ex, ev, evs, evo, eva, evi, evc, Tg.put, leaf?, bl?, int?, node?, tpl?, lsts?, T.isLeaf, T.frz, T.frzs, argOk, ioSlots, ioTs, ioPut, ME.mut, MEs.mut, MO.mut, ME.path, bfn, binop, cmpop, T.lst?, T.leaves, cc_run, cc_io, wipe, Option.bind_eq_bind, Option.bind_some, Option.map_some, Option.pure_def, List.getD_cons_zero, List.getD_cons_succ, List.set_cons_zero, List.set_cons_succ, List.map_cons, List.map_nil, List.mapM_cons, List.mapM_nil, List.length_cons, List.length_nil, List.cons_append, List.nil_append, Bool.or_false, Bool.false_or, Bool.or_true, Bool.true_or, Bool.and_true, Bool.true_and, Bool.and_false, Bool.false_and, Bool.not_true, Bool.not_false, Bool.false_eq_true, if_true, if_false, reduceIte, List.replicate_succ, List.replicate_zero, List.zip_cons_cons, List.zip_nil_right, List.foldlM_cons, List.foldlM_nil, List.nodup_nil, io_round_of, e1]) <;> rfl) (ends_nx (by (conv => lhs; simp [exs, ex, ev, evs, evo, eva, evi, evc, Tg.put, leaf?, bl?, int?, node?, tpl?, lsts?, T.isLeaf, T.frz, T.frzs, argOk, ioSlots, ioTs, ioPut, ME.mut, MEs.mut, MO.mut, ME.path, bfn, binop, cmpop, T.lst?, T.leaves, cc_run, cc_io, wipe, Option.bind_eq_bind, Option.bind_some, Option.map_some, Option.pure_def, List.getD_cons_zero, List.getD_cons_succ, List.set_cons_zero, List.set_cons_succ, List.map_cons, List.map_nil, List.mapM_cons, List.mapM_nil, List.length_cons, List.length_nil, List.cons_append, List.nil_append, Bool.or_false, Bool.false_or, Bool.or_true, Bool.true_or, Bool.and_true, Bool.true_and, Bool.and_false, Bool.false_and, Bool.not_true, Bool.not_false, Bool.false_eq_true, if_true, if_false, reduceIte, List.replicate_succ, List.replicate_zero, List.zip_cons_cons, List.zip_nil_right, List.foldlM_cons, List.foldlM_nil, List.nodup_nil, io_greatest_both, e2]) <;> rfl) (ends_rt (by (conv => lhs; simp [exs, ex, ev, evs, evo, eva, evi, evc, Tg.put, leaf?, bl?, int?, node?, tpl?, lsts?, T.isLeaf, T.frz, T.frzs, argOk, ioSlots, ioTs, ioPut, ME.mut, MEs.mut, MO.mut, ME.path, bfn, binop, cmpop, T.lst?, T.leaves, cc_run, cc_io, wipe, Option.bind_eq_bind, Option.bind_some, Option.map_some, Option.pure_def, List.getD_cons_zero, List.getD_cons_succ, List.set_cons_zero, List.set_cons_succ, List.map_cons, List.map_nil, List.mapM_cons, List.mapM_nil, List.length_cons, List.length_nil, List.cons_append, List.nil_append, Bool.or_false, Bool.false_or, Bool.or_true, Bool.true_or, Bool.and_true, Bool.true_and, Bool.and_false, Bool.false_and, Bool.not_true, Bool.not_false, Bool.false_eq_true, if_true, if_false, reduceIte, List.replicate_succ, List.replicate_zero, List.zip_cons_cons, List.zip_nil_right, List.foldlM_cons, List.foldlM_nil, List.nodup_nil, g2, g3, lim]) <;> rfl) rfl))
theorem io_mean' : ((T0 f_mean).map Def.io).getD [] = [false] := rfl
end
end PD

/-! _law_openings. -/
namespace PD
open PySem
def opL {α : Type} (f : α → Int → Int) (h len m : Int) : Int → List (Int × Int × α) → Int
  | _, [] => 0
  | i, x :: ds => (lf h len i m + f x.2.2 (lf h len i m)) + opL f h len m (i + 1) ds
def op : (k : Nat) → Rm k → Int → Int
  | 0, _, _ => 0
  | _ + 1, Sum.inl _, _ => 0
  | k + 1, Sum.inr (h, ds), m => if m = 0 then 0 else opL (op k) h ds.length m 0 ds
theorem lf_zero {h len i : Int} (hl : 0 < len) : lf h len i 0 = 0 := by
  unfold lf
  have h1 := Int.emod_nonneg (i - h) (show len ≠ 0 by omega)
  have h2 := Int.emod_lt_of_pos (i - h) hl
  exact Int.ediv_eq_zero_of_lt (by omega) (by omega)
theorem op_zero : ∀ (k : Nat) (r : Rm k), op k r 0 = 0
  | 0, _ => rfl
  | _ + 1, Sum.inl _ => rfl
  | _ + 1, Sum.inr _ => by simp [op]
/-- needs greater by one: as many more as there are openings -/
theorem wb_om : ∀ {k : Nat} {r : Rm k} {m : Int}, Fit k r → 0 ≤ m → wb k (om k (sm k r)) m = wb k (sm k r) m + op k (sm k r) m
  | 0, _, _, _, _ => by simp [om, sm, mp, wb, op]
  | _ + 1, Sum.inl _, _, _, _ => by simp [om, sm, mp, wb, op]
  | k + 1, Sum.inr (h, ds), m, ⟨a, b, c, d, e⟩, hm => by
    have hl : (0 : Int) < ds.length := by omega
    have key : ∀ (i : Int) (xs : List (Int × Int × Rm k)), (∀ x ∈ xs, Fit k x.2.2) →
        wbL (wb k) h ds.length m i ((xs.map fun x => (1 + x.1 % 50, (0 : Int), sm k x.2.2)).map fun x => (x.1 + 1, (0 : Int), om k x.2.2)) =
          wbL (wb k) h ds.length m i (xs.map fun x => (1 + x.1 % 50, (0 : Int), sm k x.2.2)) + opL (op k) h ds.length m i (xs.map fun x => (1 + x.1 % 50, (0 : Int), sm k x.2.2)) := by
      intro i xs hx
      induction xs generalizing i with
      | nil => rfl
      | cons x xs ih =>
        have q := ih (i + 1) fun y hy => hx y (List.mem_cons_of_mem _ hy)
        have l0 := lf_nonneg (h := h) (i := i) hl hm
        have w := wb_om (hx x List.mem_cons_self) l0
        simp only [List.map_cons, wbL, opL, q, w]
        by_cases z : 0 < lf h ds.length i m
        · rw [if_pos z, if_pos z]
          simp only [pu, if_neg (show ¬ lf h ds.length i m = 0 by omega)]
          rw [Int.mul_add]
          omega
        · have z0 : lf h ds.length i m = 0 := by omega
          rw [if_neg z, if_neg z, z0, op_zero]
          omega
    have q := key 0 ds fun x hx => (e x hx).2.2.2.2
    by_cases z : m = 0
    · subst z
      have zero : ∀ (i : Int) (xs : List (Int × Int × Rm k)), wbL (wb k) h ds.length 0 i xs = 0 := by
        intro i xs
        induction xs generalizing i with
        | nil => rfl
        | cons x xs ih => simp only [wbL, lf_zero hl, ih]; rfl
      simp only [om, sm, mp, wb, op, List.length_map, if_true]
      rw [zero, zero]; rfl
    · simp only [om, sm, mp, wb, op, List.length_map, if_neg z]
      exact q
section
variable {W n : Nat}
theorem io_law_openings : ((T0 f_law_openings).map Def.io).getD [] = [false, false] := rfl
theorem openings_run {W : Nat} : ∀ (k n : Nat) (r : Rm k) (m : Int), k < n → Fit k r → callD T0 W n f_law_openings [.leaf (enc k r), .leaf (.int m)] = some (.leaf (.int (op k r m)), []) := by
  intro k
  induction k with
  | zero =>
    intro n r m hn _
    refine call_ends (by omega) (show T0 f_law_openings = some b_law_openings from rfl) rfl rfl ?_
    exact ends_tt (by (conv => lhs; simp [exs, ex, ev, evs, evo, eva, evi, evc, Tg.put, leaf?, bl?, int?, node?, tpl?, lsts?, T.isLeaf, T.frz, T.frzs, argOk, ioSlots, ioTs, ioPut, ME.mut, MEs.mut, MO.mut, ME.path, bfn, binop, cmpop, T.lst?, T.leaves, cc_run, cc_io, wipe, Option.bind_eq_bind, Option.bind_some, Option.map_some, Option.pure_def, List.getD_cons_zero, List.getD_cons_succ, List.set_cons_zero, List.set_cons_succ, List.map_cons, List.map_nil, List.mapM_cons, List.mapM_nil, List.length_cons, List.length_nil, List.cons_append, List.nil_append, Bool.or_false, Bool.false_or, Bool.or_true, Bool.true_or, Bool.and_true, Bool.true_and, Bool.and_false, Bool.false_and, Bool.not_true, Bool.not_false, Bool.false_eq_true, if_true, if_false, reduceIte, List.replicate_succ, List.replicate_zero, List.zip_cons_cons, List.zip_nil_right, List.foldlM_cons, List.foldlM_nil, List.nodup_nil, enc]) <;> rfl) (ends_rt (by (conv => lhs; simp [exs, ex, ev, evs, evo, eva, evi, evc, Tg.put, leaf?, bl?, int?, node?, tpl?, lsts?, T.isLeaf, T.frz, T.frzs, argOk, ioSlots, ioTs, ioPut, ME.mut, MEs.mut, MO.mut, ME.path, bfn, binop, cmpop, T.lst?, T.leaves, cc_run, cc_io, wipe, Option.bind_eq_bind, Option.bind_some, Option.map_some, Option.pure_def, List.getD_cons_zero, List.getD_cons_succ, List.set_cons_zero, List.set_cons_succ, List.map_cons, List.map_nil, List.mapM_cons, List.mapM_nil, List.length_cons, List.length_nil, List.cons_append, List.nil_append, Bool.or_false, Bool.false_or, Bool.or_true, Bool.true_or, Bool.and_true, Bool.true_and, Bool.and_false, Bool.false_and, Bool.not_true, Bool.not_false, Bool.false_eq_true, if_true, if_false, reduceIte, List.replicate_succ, List.replicate_zero, List.zip_cons_cons, List.zip_nil_right, List.foldlM_cons, List.foldlM_nil, List.nodup_nil]) <;> rfl) rfl)
  | succ k ih =>
    intro n r m hn hf
    refine call_ends (by omega) (show T0 f_law_openings = some b_law_openings from rfl) rfl rfl ?_
    cases r with
    | inl s => exact ends_tt (by (conv => lhs; simp [exs, ex, ev, evs, evo, eva, evi, evc, Tg.put, leaf?, bl?, int?, node?, tpl?, lsts?, T.isLeaf, T.frz, T.frzs, argOk, ioSlots, ioTs, ioPut, ME.mut, MEs.mut, MO.mut, ME.path, bfn, binop, cmpop, T.lst?, T.leaves, cc_run, cc_io, wipe, Option.bind_eq_bind, Option.bind_some, Option.map_some, Option.pure_def, List.getD_cons_zero, List.getD_cons_succ, List.set_cons_zero, List.set_cons_succ, List.map_cons, List.map_nil, List.mapM_cons, List.mapM_nil, List.length_cons, List.length_nil, List.cons_append, List.nil_append, Bool.or_false, Bool.false_or, Bool.or_true, Bool.true_or, Bool.and_true, Bool.true_and, Bool.and_false, Bool.false_and, Bool.not_true, Bool.not_false, Bool.false_eq_true, if_true, if_false, reduceIte, List.replicate_succ, List.replicate_zero, List.zip_cons_cons, List.zip_nil_right, List.foldlM_cons, List.foldlM_nil, List.nodup_nil, enc]) <;> rfl) (ends_rt (by (conv => lhs; simp [exs, ex, ev, evs, evo, eva, evi, evc, Tg.put, leaf?, bl?, int?, node?, tpl?, lsts?, T.isLeaf, T.frz, T.frzs, argOk, ioSlots, ioTs, ioPut, ME.mut, MEs.mut, MO.mut, ME.path, bfn, binop, cmpop, T.lst?, T.leaves, cc_run, cc_io, wipe, Option.bind_eq_bind, Option.bind_some, Option.map_some, Option.pure_def, List.getD_cons_zero, List.getD_cons_succ, List.set_cons_zero, List.set_cons_succ, List.map_cons, List.map_nil, List.mapM_cons, List.mapM_nil, List.length_cons, List.length_nil, List.cons_append, List.nil_append, Bool.or_false, Bool.false_or, Bool.or_true, Bool.true_or, Bool.and_true, Bool.true_and, Bool.and_false, Bool.false_and, Bool.not_true, Bool.not_false, Bool.false_eq_true, if_true, if_false, reduceIte, List.replicate_succ, List.replicate_zero, List.zip_cons_cons, List.zip_nil_right, List.foldlM_cons, List.foldlM_nil, List.nodup_nil]) <;> rfl) rfl)
    | inr q =>
      obtain ⟨h, ds⟩ := q
      obtain ⟨hl, hl4, c0, c1, hd⟩ := hf
      by_cases z : m = 0
      · exact ends_tt (by (conv => lhs; simp [exs, ex, ev, evs, evo, eva, evi, evc, Tg.put, leaf?, bl?, int?, node?, tpl?, lsts?, T.isLeaf, T.frz, T.frzs, argOk, ioSlots, ioTs, ioPut, ME.mut, MEs.mut, MO.mut, ME.path, bfn, binop, cmpop, T.lst?, T.leaves, cc_run, cc_io, wipe, Option.bind_eq_bind, Option.bind_some, Option.map_some, Option.pure_def, List.getD_cons_zero, List.getD_cons_succ, List.set_cons_zero, List.set_cons_succ, List.map_cons, List.map_nil, List.mapM_cons, List.mapM_nil, List.length_cons, List.length_nil, List.cons_append, List.nil_append, Bool.or_false, Bool.false_or, Bool.or_true, Bool.true_or, Bool.and_true, Bool.true_and, Bool.and_false, Bool.false_and, Bool.not_true, Bool.not_false, Bool.false_eq_true, if_true, if_false, reduceIte, List.replicate_succ, List.replicate_zero, List.zip_cons_cons, List.zip_nil_right, List.foldlM_cons, List.foldlM_nil, List.nodup_nil, enc, z, D.plain, D.depth, eqb_int]) <;> rfl) (ends_rt (by (conv => lhs; simp [exs, ex, ev, evs, evo, eva, evi, evc, Tg.put, leaf?, bl?, int?, node?, tpl?, lsts?, T.isLeaf, T.frz, T.frzs, argOk, ioSlots, ioTs, ioPut, ME.mut, MEs.mut, MO.mut, ME.path, bfn, binop, cmpop, T.lst?, T.leaves, cc_run, cc_io, wipe, Option.bind_eq_bind, Option.bind_some, Option.map_some, Option.pure_def, List.getD_cons_zero, List.getD_cons_succ, List.set_cons_zero, List.set_cons_succ, List.map_cons, List.map_nil, List.mapM_cons, List.mapM_nil, List.length_cons, List.length_nil, List.cons_append, List.nil_append, Bool.or_false, Bool.false_or, Bool.or_true, Bool.true_or, Bool.and_true, Bool.true_and, Bool.and_false, Bool.false_and, Bool.not_true, Bool.not_false, Bool.false_eq_true, if_true, if_false, reduceIte, List.replicate_succ, List.replicate_zero, List.zip_cons_cons, List.zip_nil_right, List.foldlM_cons, List.foldlM_nil, List.nodup_nil]) <;> rfl) (by rw [sq_rt, rx_rt, op, if_pos z]))
      obtain ⟨L, hL⟩ : ∃ L : Int, L = (ds.length : Int) := ⟨_, rfl⟩
      have hr : rngOk L = true := by simp [rngOk]; omega
      have hop : op (k + 1) (Sum.inr (h, ds)) m = opL (op k) h L m 0 ds := by rw [op, if_neg z, hL]
      rw [hop]
      have hlen : (ds.map (encD k)).length = ds.length := by simp
      have hget : ∀ (i : Int) (x : Int × Int × Rm k), 0 ≤ i → ds[i.toNat]? = some x → index (.leaf (.tup (ds.map (encD k)))) i = some (.leaf (encD k x)) := fun i x p0 hx => by
        have q := (List.getElem?_eq_some_iff.mp hx).1
        have p1 : i < ((ds.map (encD k)).length : Int) := by rw [hlen]; omega
        simp only [index, atI, ixN, if_pos p0, if_pos p1, Option.bind_some, List.getElem?_map, hx, Option.map_some]
      have hL1 : bfn .len [.leaf (.tup (ds.map (encD k)))] = some (.leaf (.int L)) := by simp [bfn, hL]
      generalize hes : ds.map (encD k) = es at *
      refine ends_ff0 (by (conv => lhs; simp [exs, ex, ev, evs, evo, eva, evi, evc, Tg.put, leaf?, bl?, int?, node?, tpl?, lsts?, T.isLeaf, T.frz, T.frzs, argOk, ioSlots, ioTs, ioPut, ME.mut, MEs.mut, MO.mut, ME.path, bfn, binop, cmpop, T.lst?, T.leaves, cc_run, cc_io, wipe, Option.bind_eq_bind, Option.bind_some, Option.map_some, Option.pure_def, List.getD_cons_zero, List.getD_cons_succ, List.set_cons_zero, List.set_cons_succ, List.map_cons, List.map_nil, List.mapM_cons, List.mapM_nil, List.length_cons, List.length_nil, List.cons_append, List.nil_append, Bool.or_false, Bool.false_or, Bool.or_true, Bool.true_or, Bool.and_true, Bool.true_and, Bool.and_false, Bool.false_and, Bool.not_true, Bool.not_false, Bool.false_eq_true, if_true, if_false, reduceIte, List.replicate_succ, List.replicate_zero, List.zip_cons_cons, List.zip_nil_right, List.foldlM_cons, List.foldlM_nil, List.nodup_nil, enc, hes, z, D.plain, D.depth, eqb_int]) <;> rfl) ?_
      have hL2 : (es.length : Int) = L := by rw [hL, ← hlen]
      refine ends_nx (r1 := [some (.leaf (.tup [.int h, .tup es])), some (.leaf (.int m)), some (.leaf (.int 0)), some (.leaf (.int L)), none, none]) (by (conv => lhs; simp [exs, ex, ev, evs, evo, eva, evi, evc, Tg.put, leaf?, bl?, int?, node?, tpl?, lsts?, T.isLeaf, T.frz, T.frzs, argOk, ioSlots, ioTs, ioPut, ME.mut, MEs.mut, MO.mut, ME.path, bfn, binop, cmpop, T.lst?, T.leaves, cc_run, cc_io, wipe, Option.bind_eq_bind, Option.bind_some, Option.map_some, Option.pure_def, List.getD_cons_zero, List.getD_cons_succ, List.set_cons_zero, List.set_cons_succ, List.map_cons, List.map_nil, List.mapM_cons, List.mapM_nil, List.length_cons, List.length_nil, List.cons_append, List.nil_append, Bool.or_false, Bool.false_or, Bool.or_true, Bool.true_or, Bool.and_true, Bool.true_and, Bool.and_false, Bool.false_and, Bool.not_true, Bool.not_false, Bool.false_eq_true, if_true, if_false, reduceIte, List.replicate_succ, List.replicate_zero, List.zip_cons_cons, List.zip_nil_right, List.foldlM_cons, List.foldlM_nil, List.nodup_nil, index, atI, ixN, setAll, hL2]) <;> rfl) ?_
      refine ends_for (fun it env => ∃ (i : Int) (pre xs : List (Int × Int × Rm k)) (acc : Int) (x4 x5 : Option T), it = rngs i xs.length ∧ i = pre.length ∧ pre ++ xs = ds ∧
          env = [some (.leaf (.tup [.int h, .tup es])), some (.leaf (.int m)), some (.leaf (.int acc)), some (.leaf (.int L)), x4, x5] ∧
          acc + opL (op k) h L m i xs = opL (op k) h L m 0 ds) (by (conv => lhs; simp [exs, ex, ev, evs, evo, eva, evi, evc, Tg.put, leaf?, bl?, int?, node?, tpl?, lsts?, T.isLeaf, T.frz, T.frzs, argOk, ioSlots, ioTs, ioPut, ME.mut, MEs.mut, MO.mut, ME.path, bfn, binop, cmpop, T.lst?, T.leaves, cc_run, cc_io, wipe, Option.bind_eq_bind, Option.bind_some, Option.map_some, Option.pure_def, List.getD_cons_zero, List.getD_cons_succ, List.set_cons_zero, List.set_cons_succ, List.map_cons, List.map_nil, List.mapM_cons, List.mapM_nil, List.length_cons, List.length_nil, List.cons_append, List.nil_append, Bool.or_false, Bool.false_or, Bool.or_true, Bool.true_or, Bool.and_true, Bool.true_and, Bool.and_false, Bool.false_and, Bool.not_true, Bool.not_false, Bool.false_eq_true, if_true, if_false, reduceIte, List.replicate_succ, List.replicate_zero, List.zip_cons_cons, List.zip_nil_right, List.foldlM_cons, List.foldlM_nil, List.nodup_nil, hr]) <;> rfl) ⟨0, [], ds, 0, none, none, by rw [hL]; simp, rfl, rfl, rfl, by simp⟩ ?_ ?_
      · rintro d its r1 ⟨i, pre, xs, acc, x4, x5, e, hip, hp, rfl, ha⟩
        cases xs with
        | nil => simp [rngs] at e
        | cons x xs =>
          simp only [List.length_cons, rngs, List.cons.injEq] at e
          obtain ⟨rfl, rfl⟩ := e
          have hx : ds[i.toNat]? = some x := by rw [hip]; simp [← hp]
          have hxd : x ∈ ds := by rw [← hp]; simp
          have h2 : 0 < L := by omega
          have h3 : L < 18446744073709551616 := by omega
          have f := ih (n - 1) x.2.2 (lf h L i m) (by omega) (hd x hxd).2.2.2.2
          have gi := hget i x (by omega) hx
          obtain ⟨y, hy⟩ : ∃ y, y = lf h L i m := ⟨_, rfl⟩
          have e1 : (m - (i - h) % L + L - 1) / L = y := by
            rw [hy]; unfold lf; congr 1; omega
          rw [← hy] at f
          refine ⟨_, (by (conv => lhs; simp [exs, ex, ev, evs, evo, eva, evi, evc, Tg.put, leaf?, bl?, int?, node?, tpl?, lsts?, T.isLeaf, T.frz, T.frzs, argOk, ioSlots, ioTs, ioPut, ME.mut, MEs.mut, MO.mut, ME.path, bfn, binop, cmpop, T.lst?, T.leaves, cc_run, cc_io, wipe, Option.bind_eq_bind, Option.bind_some, Option.map_some, Option.pure_def, List.getD_cons_zero, List.getD_cons_succ, List.set_cons_zero, List.set_cons_succ, List.map_cons, List.map_nil, List.mapM_cons, List.mapM_nil, List.length_cons, List.length_nil, List.cons_append, List.nil_append, Bool.or_false, Bool.false_or, Bool.or_true, Bool.true_or, Bool.and_true, Bool.true_and, Bool.and_false, Bool.false_and, Bool.not_true, Bool.not_false, Bool.false_eq_true, if_true, if_false, reduceIte, List.replicate_succ, List.replicate_zero, List.zip_cons_cons, List.zip_nil_right, List.foldlM_cons, List.foldlM_nil, List.nodup_nil]) <;> rfl), ends_nx (r1 := [some (.leaf (.tup [.int h, .tup es])), some (.leaf (.int m)), some (.leaf (.int acc)), some (.leaf (.int L)), some (.leaf (.int i)), some (.leaf (.int y))]) (by (conv => lhs; simp [exs, ex, ev, evs, evo, eva, evi, evc, Tg.put, leaf?, bl?, int?, node?, tpl?, lsts?, T.isLeaf, T.frz, T.frzs, argOk, ioSlots, ioTs, ioPut, ME.mut, MEs.mut, MO.mut, ME.path, bfn, binop, cmpop, T.lst?, T.leaves, cc_run, cc_io, wipe, Option.bind_eq_bind, Option.bind_some, Option.map_some, Option.pure_def, List.getD_cons_zero, List.getD_cons_succ, List.set_cons_zero, List.set_cons_succ, List.map_cons, List.map_nil, List.mapM_cons, List.mapM_nil, List.length_cons, List.length_nil, List.cons_append, List.nil_append, Bool.or_false, Bool.false_or, Bool.or_true, Bool.true_or, Bool.and_true, Bool.true_and, Bool.and_false, Bool.false_and, Bool.not_true, Bool.not_false, Bool.false_eq_true, if_true, if_false, reduceIte, List.replicate_succ, List.replicate_zero, List.zip_cons_cons, List.zip_nil_right, List.foldlM_cons, List.foldlM_nil, List.nodup_nil, index, atI, ixN, h2, h3, e1]) <;> rfl) ?_⟩
          have g2 : ev (CC T0 W (n - 1)) false (.idx (.idx (.idx (.var 0) (.cst (.int 1))) (.var 4)) (.cst (.int 2))) [some (.leaf (.tup [.int h, .tup es])), some (.leaf (.int m)), some (.leaf (.int acc)), some (.leaf (.int L)), some (.leaf (.int i)), some (.leaf (.int y))] = some (.leaf (enc k x.2.2), [some (.leaf (.tup [.int h, .tup es])), some (.leaf (.int m)), some (.leaf (.int acc)), some (.leaf (.int L)), some (.leaf (.int i)), some (.leaf (.int y))]) := by
            have i1 : index (.leaf (.tup [.int h, .tup es])) 1 = some (.leaf (.tup es)) := rfl
            have i2 : index (.leaf (encD k x)) 2 = some (.leaf (enc k x.2.2)) := rfl
            simp only [exs, ex, ev, evs, evo, eva, evi, evc, Tg.put, leaf?, bl?, int?, node?, tpl?, lsts?, T.isLeaf, T.frz, T.frzs, argOk, ioSlots, ioTs, ioPut, ME.mut, MEs.mut, MO.mut, ME.path, bfn, binop, cmpop, T.lst?, T.leaves, cc_run, cc_io, wipe, Option.bind_eq_bind, Option.bind_some, Option.map_some, Option.pure_def, List.getD_cons_zero, List.getD_cons_succ, List.set_cons_zero, List.set_cons_succ, List.map_cons, List.map_nil, List.mapM_cons, List.mapM_nil, List.length_cons, List.length_nil, List.cons_append, List.nil_append, Bool.or_false, Bool.false_or, Bool.or_true, Bool.true_or, Bool.and_true, Bool.true_and, Bool.and_false, Bool.false_and, Bool.not_true, Bool.not_false, Bool.false_eq_true, if_true, if_false, reduceIte, List.replicate_succ, List.replicate_zero, List.zip_cons_cons, List.zip_nil_right, List.foldlM_cons, List.foldlM_nil, List.nodup_nil, i1, gi, i2]
          generalize (ME.idx (.idx (.idx (.var 0) (.cst (.int 1))) (.var 4)) (.cst (.int 2))) = g at g2 ⊢
          refine ends_nx (by (conv => lhs; simp [exs, ex, ev, evs, evo, eva, evi, evc, Tg.put, leaf?, bl?, int?, node?, tpl?, lsts?, T.isLeaf, T.frz, T.frzs, argOk, ioSlots, ioTs, ioPut, ME.mut, MEs.mut, MO.mut, ME.path, bfn, binop, cmpop, T.lst?, T.leaves, cc_run, cc_io, wipe, Option.bind_eq_bind, Option.bind_some, Option.map_some, Option.pure_def, List.getD_cons_zero, List.getD_cons_succ, List.set_cons_zero, List.set_cons_succ, List.map_cons, List.map_nil, List.mapM_cons, List.mapM_nil, List.length_cons, List.length_nil, List.cons_append, List.nil_append, Bool.or_false, Bool.false_or, Bool.or_true, Bool.true_or, Bool.and_true, Bool.true_and, Bool.and_false, Bool.false_and, Bool.not_true, Bool.not_false, Bool.false_eq_true, if_true, if_false, reduceIte, List.replicate_succ, List.replicate_zero, List.zip_cons_cons, List.zip_nil_right, List.foldlM_cons, List.foldlM_nil, List.nodup_nil, g2, io_law_openings, f]) <;> rfl) (ends_nil ⟨i + 1, pre ++ [x], xs, acc + y + op k x.2.2 y, some (.leaf (.int i)), some (.leaf (.int y)), rfl, by simp; omega, by simpa using hp, rfl, ?_⟩)
          rw [← ha, hy]
          simp only [opL]
          omega
      · rintro r1 ⟨i, pre, xs, acc, x4, x5, e, hip, hp, rfl, ha⟩
        cases xs with
        | cons x xs => simp [rngs] at e
        | nil => exact ends_rt (by (conv => lhs; simp [exs, ex, ev, evs, evo, eva, evi, evc, Tg.put, leaf?, bl?, int?, node?, tpl?, lsts?, T.isLeaf, T.frz, T.frzs, argOk, ioSlots, ioTs, ioPut, ME.mut, MEs.mut, MO.mut, ME.path, bfn, binop, cmpop, T.lst?, T.leaves, cc_run, cc_io, wipe, Option.bind_eq_bind, Option.bind_some, Option.map_some, Option.pure_def, List.getD_cons_zero, List.getD_cons_succ, List.set_cons_zero, List.set_cons_succ, List.map_cons, List.map_nil, List.mapM_cons, List.mapM_nil, List.length_cons, List.length_nil, List.cons_append, List.nil_append, Bool.or_false, Bool.false_or, Bool.or_true, Bool.true_or, Bool.and_true, Bool.true_and, Bool.and_false, Bool.false_and, Bool.not_true, Bool.not_false, Bool.false_eq_true, if_true, if_false, reduceIte, List.replicate_succ, List.replicate_zero, List.zip_cons_cons, List.zip_nil_right, List.foldlM_cons, List.foldlM_nil, List.nodup_nil]) <;> rfl) (by rw [rx_rt, ← ha]; simp [opL])
end
end PD

/-! Houses of one form compared. -/
namespace PD
open PySem
theorem F2.imp {α β : Type} {R R' : α → β → Prop} (f : ∀ a b, R a b → R' a b) : ∀ {as : List α} {bs : List β}, F2 R as bs → F2 R' as bs
  | _, _, .nil => .nil
  | _, _, .cons h t => .cons (f _ _ h) (F2.imp f t)
theorem F2.join {α β γ : Type} {R : α → β → Prop} {R' : α → γ → Prop} {R'' : β → γ → Prop} (f : ∀ a b c, R a b → R' a c → R'' b c) : ∀ {as : List α} {bs : List β} {cs : List γ}, F2 R as bs → F2 R' as cs → F2 R'' bs cs
  | _, _, _, .nil, .nil => .nil
  | _, _, _, .cons h t, .cons h' t' => .cons (f _ _ _ h h') (F2.join f t t')
theorem F2.map2 {α β γ δ : Type} {R : α → β → Prop} {R' : γ → δ → Prop} {g : α → γ} {g' : β → δ} (f : ∀ a b, R a b → R' (g a) (g' b)) : ∀ {as : List α} {bs : List β}, F2 R as bs → F2 R' (as.map g) (bs.map g')
  | _, _, .nil => .nil
  | _, _, .cons h t => .cons (f _ _ h) (F2.map2 f t)
theorem sh_imp {R R' : Int → Int → Int → Int → Prop} (f : ∀ a b c d, R a b c d → R' a b c d) : ∀ {k : Nat} {r r' : Rm k}, Sh R k r r' → Sh R' k r r'
  | 0, _, _, h => h
  | _ + 1, Sum.inl _, Sum.inl _, h => h
  | k + 1, Sum.inr (h, ds), Sum.inr (h', ds'), ⟨e, q⟩ => ⟨e, F2.imp (fun _ _ z => ⟨f _ _ _ _ z.1, sh_imp f z.2⟩) q⟩
  | _ + 1, Sum.inl _, Sum.inr _, h => h.elim
  | _ + 1, Sum.inr _, Sum.inl _, h => h.elim
theorem sh_join {R R' R'' : Int → Int → Int → Int → Prop} (f : ∀ a b c d e g, R a b c d → R' a b e g → R'' c d e g) : ∀ {k : Nat} {r r1 r2 : Rm k}, Sh R k r r1 → Sh R' k r r2 → Sh R'' k r1 r2
  | 0, _, _, _, h, h' => (show _ = _ from h).symm.trans h'
  | _ + 1, Sum.inl _, Sum.inl _, Sum.inl _, h, h' => (show _ = _ from h).symm.trans h'
  | k + 1, Sum.inr (_, _), Sum.inr (_, _), Sum.inr (_, _), ⟨e, q⟩, ⟨e', q'⟩ => ⟨e.symm.trans e', F2.join (fun _ _ _ z z' => ⟨f _ _ _ _ _ _ z.1 z'.1, sh_join f z.2 z'.2⟩) q q'⟩
  | _ + 1, Sum.inl _, Sum.inr _, _, h, _ => h.elim
  | _ + 1, Sum.inr _, Sum.inl _, _, h, _ => h.elim
  | _ + 1, Sum.inl _, Sum.inl _, Sum.inr _, _, h => h.elim
  | _ + 1, Sum.inr _, Sum.inr _, Sum.inl _, _, h => h.elim
theorem sh_cl {R : Int → Int → Int → Int → Prop} (f : ∀ a b c d, R a b c d → 0 ≤ a ∧ a ≤ c) : ∀ {k : Nat} {r r' : Rm k}, Sh R k r r' → Sh RLe k (cl k r) (cl k r')
  | 0, _, _, h => h
  | _ + 1, Sum.inl _, Sum.inl _, h => h
  | k + 1, Sum.inr (h, ds), Sum.inr (h', ds'), ⟨e, q⟩ => ⟨e, F2.map2 (fun x y z => ⟨by
      obtain ⟨h1, h2⟩ := f _ _ _ _ z.1
      exact ⟨h1, h2, Int.le_refl 0, Int.le_refl 0, h1, by show (0 : Int) ≤ y.1; omega⟩, sh_cl f z.2⟩) q⟩
  | _ + 1, Sum.inl _, Sum.inr _, h => h.elim
  | _ + 1, Sum.inr _, Sum.inl _, h => h.elim
theorem rle_of_rh {most : Int} : ∀ a b c d, RH most a b c d → RLe a b c d := fun a b c d ⟨⟨h1, h2, h3, h4⟩, h5, h6, h7, _⟩ => ⟨by omega, h5, by omega, by omega, h4, by omega⟩
theorem rle_of_rh2 {most : Int} : ∀ a b c d e g, RH 0 a b c d → RH most a b e g → RLe c d e g := fun a b c d e g ⟨⟨h1, h2, h3, h4⟩, h5, h6, h7, h8⟩ ⟨_, k5, k6, k7, _⟩ => by
  have := h8 rfl
  exact ⟨by omega, by omega, by omega, by omega, by omega, by omega⟩
theorem fit_om : ∀ {k : Nat} {r : Rm k}, Ok k r → Fit k (om k r)
  | 0, _, _ => trivial
  | _ + 1, Sum.inl _, _ => trivial
  | k + 1, Sum.inr (h, ds), ⟨a, b, c, d, e⟩ => by
    refine ⟨by simpa using a, by simpa using b, c, by simpa using d, fun x hx => ?_⟩
    obtain ⟨y, hy, rfl⟩ := List.mem_map.mp hx
    obtain ⟨⟨h1, h2, h3, h4⟩, h5⟩ := e y hy
    exact ⟨by show 1 ≤ y.1 + 1; omega, by show y.1 + 1 ≤ 100; omega, Int.le_refl 0, by show (0 : Int) ≤ y.1 + 1; omega, fit_om h5⟩
/-- what two searches by halves find -/
theorem lb_le_of {f g : Int → Int} {w a b : Int} (h : LB f w a) (h' : LB g w b) (le : ∀ m, 0 ≤ m → f m ≤ g m) : b ≤ a := by
  refine Int.not_lt.mp fun z => ?_
  have q := h.gt b z h'.hi
  rcases h'.le with c | c
  · have := h.lo; omega
  · have := le b h'.lo; omega
theorem nb_uniq {nm : Str} {k : Nat} {r r' : Rm k} {c a b : Int} (h : NB nm k r c a) (h' : NB nm k r' c b) (e : ∀ m, nb nm k r m = nb nm k r' m) : a = b := by
  rcases Int.lt_trichotomy a b with z | z | z
  · have := h'.lt a h.one z; have := h.ge; rw [e] at this; omega
  · exact z
  · have := h.lt b h'.one z; have := h'.ge; rw [← e] at this; omega
end PD

/-! The law k16. -/
namespace PD
open PySem
theorem ok_om_sm : ∀ (k : Nat) (r : Rm k), Ok k r → Ok k (om k (sm k r))
  | 0, _, h => h
  | _ + 1, Sum.inl _, h => h
  | k + 1, Sum.inr (h, ds), ⟨a, b, c, d, e⟩ => by
    refine ⟨by simpa using a, by simpa using b, c, by simpa using d, fun x hx => ?_⟩
    obtain ⟨z, hz, rfl⟩ := List.mem_map.mp hx
    obtain ⟨y, hy, rfl⟩ := List.mem_map.mp hz
    obtain ⟨⟨h1, h2, h3, h4⟩, h5⟩ := e y hy
    refine ⟨?_, ok_om_sm k _ h5⟩
    show 1 ≤ 1 + y.1 % 50 + 1 ∧ 1 + y.1 % 50 + 1 ≤ 99 ∧ (0 : Int) ≤ 0 ∧ (0 : Int) ≤ 1 + y.1 % 50 + 1
    omega
mutual
theorem eqb_refl : ∀ d : D, d.plain = true → D.eqb d d = true
  | .non, _ => by rw [D.eqb]
  | .bl b, _ => by rw [D.eqb]; exact beq_self_eq_true b
  | .int b, _ => by rw [D.eqb]; exact beq_self_eq_true b
  | .str b, _ => by rw [D.eqb]; exact decide_eq_true rfl
  | .tup ds, h => by rw [D.eqb]; rw [D.plain] at h; exact eqbs_refl ds h
  | .lst ds, h => by rw [D.eqb]; rw [D.plain] at h; exact eqbs_refl ds h
  | .scr _, h => by rw [D.plain] at h; cases h
theorem eqbs_refl : ∀ ds : List D, D.plains ds = true → D.eqbs ds ds = true
  | [], _ => by rw [D.eqbs]
  | d :: ds, h => by
    rw [D.plains, Bool.and_eq_true] at h
    rw [D.eqbs, eqb_refl d h.1, eqbs_refl ds h.2]; rfl
end
theorem plains_ints : ∀ xs : List Int, D.plains (xs.map D.int) = true
  | [] => by rw [List.map_nil, D.plains]
  | x :: xs => by rw [List.map_cons, D.plains, plains_ints xs]; simp [D.plain]
theorem depths_ints : ∀ xs : List Int, D.depths (xs.map D.int) = 0
  | [] => by rw [List.map_nil, D.depths]
  | x :: xs => by rw [List.map_cons, D.depths, depths_ints xs]; simp [D.depth]
section
variable {W n : Nat}
/-- one of two numbers is taken -/
theorem draw2 {a b : Int} {e1 e2 : ME} (hn : 0 < n) (h1 : ∀ r, ev (CC T0 W n) false e1 r = some (.leaf (.int a), r)) (h2 : ∀ r, ev (CC T0 W n) false e2 r = some (.leaf (.int b), r)) {t : T} (hd : Dw t) (s : Option T) (rest : Env) :
    ∃ w t1, (w = a ∨ w = b) ∧ Dw t1 ∧ ev (CC T0 W n) false (.idx (.lst (.cons e1 (.cons e2 .nil))) (.call f_law_next (.io 1 (.val (.cst (.int 2)) .nil)))) (s :: some t :: rest) = some (.leaf (.int w), s :: some t1 :: rest) := by
  obtain ⟨x, o, e, v, t1, rfl, rfl, p1, p2, d1⟩ := next_run (W := W) (n := n) (many := 2) hn hd (by omega) (by omega)
  have : v = 0 ∨ v = 1 := by omega
  rcases this with q | q
  · exact ⟨a, t1, .inl rfl, d1, (by (conv => lhs; simp [exs, ex, ev, evs, evo, eva, evi, evc, Tg.put, leaf?, bl?, int?, node?, tpl?, lsts?, T.isLeaf, T.frz, T.frzs, argOk, ioSlots, ioTs, ioPut, ME.mut, MEs.mut, MO.mut, ME.path, bfn, binop, cmpop, T.lst?, T.leaves, cc_run, cc_io, wipe, Option.bind_eq_bind, Option.bind_some, Option.map_some, Option.pure_def, List.getD_cons_zero, List.getD_cons_succ, List.set_cons_zero, List.set_cons_succ, List.map_cons, List.map_nil, List.mapM_cons, List.mapM_nil, List.length_cons, List.length_nil, List.cons_append, List.nil_append, Bool.or_false, Bool.false_or, Bool.or_true, Bool.true_or, Bool.and_true, Bool.true_and, Bool.and_false, Bool.false_and, Bool.not_true, Bool.not_false, Bool.false_eq_true, if_true, if_false, reduceIte, List.replicate_succ, List.replicate_zero, List.zip_cons_cons, List.zip_nil_right, List.foldlM_cons, List.foldlM_nil, List.nodup_nil, h1, h2, io_law_next, e, q, index, atI, ixN, lim]) <;> rfl)⟩
  · exact ⟨b, t1, .inr rfl, d1, (by (conv => lhs; simp [exs, ex, ev, evs, evo, eva, evi, evc, Tg.put, leaf?, bl?, int?, node?, tpl?, lsts?, T.isLeaf, T.frz, T.frzs, argOk, ioSlots, ioTs, ioPut, ME.mut, MEs.mut, MO.mut, ME.path, bfn, binop, cmpop, T.lst?, T.leaves, cc_run, cc_io, wipe, Option.bind_eq_bind, Option.bind_some, Option.map_some, Option.pure_def, List.getD_cons_zero, List.getD_cons_succ, List.set_cons_zero, List.set_cons_succ, List.map_cons, List.map_nil, List.mapM_cons, List.mapM_nil, List.length_cons, List.length_nil, List.cons_append, List.nil_append, Bool.or_false, Bool.false_or, Bool.or_true, Bool.true_or, Bool.and_true, Bool.true_and, Bool.and_false, Bool.false_and, Bool.not_true, Bool.not_false, Bool.false_eq_true, if_true, if_false, reduceIte, List.replicate_succ, List.replicate_zero, List.zip_cons_cons, List.zip_nil_right, List.foldlM_cons, List.foldlM_nil, List.nodup_nil, h1, h2, io_law_next, e, q, index, atI, ixN, lim]) <;> rfl)⟩
end
end PD

/-! The law k16: one time of asking. -/
namespace PD
open PySem
def k16_turn : MSs := match b_law_k16 with
  | .code _ _ (.cons _ (.cons (.for_ _ _ b) _)) => b
  | _ => .nil
def k16_time : MSs := match k16_turn with
  | .cons _ (.cons _ (.cons (.for_ _ _ b) _)) => b
  | _ => .nil
/-- the three houses of a turn -/
structure K16 (a b c : Rm 6) : Prop where
  oa : Ok 6 a
  na : nd 6 a ≤ 12
  ob : Ok 6 b
  nb : nd 6 b ≤ 12
  oc : Ok 6 c
  nc : nd 6 c ≤ 12
  ab : Sh (RH 0) 6 a b
  ac : Sh (RH 9) 6 a c
def tw (r : Rm 6) (m : Int) : D := .tup [.int (wb 6 r m - 1), .tup ((po 6 r m).1.map D.int), .str (po 6 r m).2]
section
variable {W n : Nat}
theorem k16_time_run {a b c : Rm 6} {t : T} {s x2 x4 x7 x8 x9 x10 x11 : Option T} {Q : Fl → Prop} (hn : 20 < n) (hW : 1000000000000000000000 < W) (hd : Dw t) (K : K16 a b c) :
    Ends (CC T0 W n) W k16_time [s, some t, x2, some (.leaf (enc 6 a)), x4, some (.leaf (enc 6 b)), some (.leaf (enc 6 c)), x7, x8, x9, x10, x11, none, none]
      (Lq (fun r => ∃ t' y7 y8 y9, Dw t' ∧ r = [s, some t', x2, some (.leaf (enc 6 a)), x4, some (.leaf (enc 6 b)), some (.leaf (enc 6 c)), y7, y8, y9, x10, x11, none, none]) Q) := by
  obtain ⟨w, t1, hw, d1, e1⟩ := draw2 (W := W) (n := n) (a := 20) (b := 1000000000000) (e1 := .cst (.int 20)) (e2 := .bin .pow (.cst (.int 10)) (.cst (.int 12))) (by omega) (fun r => (by (conv => lhs; simp [exs, ex, ev, evs, evo, eva, evi, evc, Tg.put, leaf?, bl?, int?, node?, tpl?, lsts?, T.isLeaf, T.frz, T.frzs, argOk, ioSlots, ioTs, ioPut, ME.mut, MEs.mut, MO.mut, ME.path, bfn, binop, cmpop, T.lst?, T.leaves, cc_run, cc_io, wipe, Option.bind_eq_bind, Option.bind_some, Option.map_some, Option.pure_def, List.getD_cons_zero, List.getD_cons_succ, List.set_cons_zero, List.set_cons_succ, List.map_cons, List.map_nil, List.mapM_cons, List.mapM_nil, List.length_cons, List.length_nil, List.cons_append, List.nil_append, Bool.or_false, Bool.false_or, Bool.or_true, Bool.true_or, Bool.and_true, Bool.true_and, Bool.and_false, Bool.false_and, Bool.not_true, Bool.not_false, Bool.false_eq_true, if_true, if_false, reduceIte, List.replicate_succ, List.replicate_zero, List.zip_cons_cons, List.zip_nil_right, List.foldlM_cons, List.foldlM_nil, List.nodup_nil]) <;> rfl)) (fun r => (by (conv => lhs; simp [exs, ex, ev, evs, evo, eva, evi, evc, Tg.put, leaf?, bl?, int?, node?, tpl?, lsts?, T.isLeaf, T.frz, T.frzs, argOk, ioSlots, ioTs, ioPut, ME.mut, MEs.mut, MO.mut, ME.path, bfn, binop, cmpop, T.lst?, T.leaves, cc_run, cc_io, wipe, Option.bind_eq_bind, Option.bind_some, Option.map_some, Option.pure_def, List.getD_cons_zero, List.getD_cons_succ, List.set_cons_zero, List.set_cons_succ, List.map_cons, List.map_nil, List.mapM_cons, List.mapM_nil, List.length_cons, List.length_nil, List.cons_append, List.nil_append, Bool.or_false, Bool.false_or, Bool.or_true, Bool.true_or, Bool.and_true, Bool.true_and, Bool.and_false, Bool.false_and, Bool.not_true, Bool.not_false, Bool.false_eq_true, if_true, if_false, reduceIte, List.replicate_succ, List.replicate_zero, List.zip_cons_cons, List.zip_nil_right, List.foldlM_cons, List.foldlM_nil, List.nodup_nil]) <;> rfl)) hd s [x2, some (.leaf (enc 6 a)), x4, some (.leaf (enc 6 b)), some (.leaf (enc 6 c)), x7, x8, x9, x10, x11, none, none]
  obtain ⟨x, o, e2, v, t2, rfl, rfl, p1, p2, d2⟩ := next_run (W := W) (n := n) (many := w) (by omega) d1 (by omega) (by omega)
  obtain ⟨m, hm⟩ : ∃ m, m = 1 + v := ⟨_, rfl⟩
  refine ends_nx (r1 := [s, some t2, x2, some (.leaf (enc 6 a)), x4, some (.leaf (enc 6 b)), some (.leaf (enc 6 c)), some (.leaf (.int m)), x8, x9, x10, x11, none, none]) ?_ ?_
  · generalize (ME.idx (.lst (.cons (.cst (.int 20)) (.cons (.bin .pow (.cst (.int 10)) (.cst (.int 12))) .nil))) (.call f_law_next (.io 1 (.val (.cst (.int 2)) .nil)))) = g at e1 ⊢
    simp [exs, ex, ev, evs, evo, eva, evi, evc, Tg.put, leaf?, bl?, int?, node?, tpl?, lsts?, T.isLeaf, T.frz, T.frzs, argOk, ioSlots, ioTs, ioPut, ME.mut, MEs.mut, MO.mut, ME.path, bfn, binop, cmpop, T.lst?, T.leaves, cc_run, cc_io, wipe, Option.bind_eq_bind, Option.bind_some, Option.map_some, Option.pure_def, List.getD_cons_zero, List.getD_cons_succ, List.set_cons_zero, List.set_cons_succ, List.map_cons, List.map_nil, List.mapM_cons, List.mapM_nil, List.length_cons, List.length_nil, List.cons_append, List.nil_append, Bool.or_false, Bool.false_or, Bool.or_true, Bool.true_or, Bool.and_true, Bool.true_and, Bool.and_false, Bool.false_and, Bool.not_true, Bool.not_false, Bool.false_eq_true, if_true, if_false, reduceIte, List.replicate_succ, List.replicate_zero, List.zip_cons_cons, List.zip_nil_right, List.foldlM_cons, List.foldlM_nil, List.nodup_nil, e1, io_law_next, e2, ← hm]
  have m1 : 1 ≤ m := by omega
  have m2 : m ≤ 1000000000000 := by omega
  have la := leaving_run (W := W) (n := n) (r := a) (m := m) (by omega) (by omega) (by omega) K.oa K.na m1 (by omega)
  have lb := leaving_run (W := W) (n := n) (r := b) (m := m) (by omega) (by omega) (by omega) K.ob K.nb m1 (by omega)
  have lc := leaving_run (W := W) (n := n) (r := c) (m := m) (by omega) (by omega) (by omega) K.oc K.nc m1 (by omega)
  have q1 : ev (CC T0 W n) false c_law_k16_1 [s, some t2, x2, some (.leaf (enc 6 a)), x4, some (.leaf (enc 6 b)), some (.leaf (enc 6 c)), some (.leaf (.int m)), x8, x9, x10, x11, none, none] =
      some (.node ([a, b, c].map fun r => .leaf (tw r m)), [s, some t2, x2, some (.leaf (enc 6 a)), x4, some (.leaf (enc 6 b)), some (.leaf (enc 6 c)), some (.leaf (.int m)), x8, x9, x10, x11, none, none]) := by
    refine evl_compN (enc 6) (fun r => .leaf (tw r m)) (by (conv => lhs; simp [exs, ex, ev, evs, evo, eva, evi, evc, Tg.put, leaf?, bl?, int?, node?, tpl?, lsts?, T.isLeaf, T.frz, T.frzs, argOk, ioSlots, ioTs, ioPut, ME.mut, MEs.mut, MO.mut, ME.path, bfn, binop, cmpop, T.lst?, T.leaves, cc_run, cc_io, wipe, Option.bind_eq_bind, Option.bind_some, Option.map_some, Option.pure_def, List.getD_cons_zero, List.getD_cons_succ, List.set_cons_zero, List.set_cons_succ, List.map_cons, List.map_nil, List.mapM_cons, List.mapM_nil, List.length_cons, List.length_nil, List.cons_append, List.nil_append, Bool.or_false, Bool.false_or, Bool.or_true, Bool.true_or, Bool.and_true, Bool.true_and, Bool.and_false, Bool.false_and, Bool.not_true, Bool.not_false, Bool.false_eq_true, if_true, if_false, reduceIte, List.replicate_succ, List.replicate_zero, List.zip_cons_cons, List.zip_nil_right, List.foldlM_cons, List.foldlM_nil, List.nodup_nil, lim]) <;> rfl) rfl (by simp [lim]) fun r hr => ?_
    have lr : callD T0 W n f_leaving [.leaf (enc 6 r), .leaf (.int m)] = some (.leaf (tw r m), []) := by
      simp only [List.mem_cons, List.mem_nil_iff, or_false] at hr
      rcases hr with rfl | rfl | rfl
      · exact la
      · exact lb
      · exact lc
    exact ⟨_, (by (conv => lhs; simp [exs, ex, ev, evs, evo, eva, evi, evc, Tg.put, leaf?, bl?, int?, node?, tpl?, lsts?, T.isLeaf, T.frz, T.frzs, argOk, ioSlots, ioTs, ioPut, ME.mut, MEs.mut, MO.mut, ME.path, bfn, binop, cmpop, T.lst?, T.leaves, cc_run, cc_io, wipe, Option.bind_eq_bind, Option.bind_some, Option.map_some, Option.pure_def, List.getD_cons_zero, List.getD_cons_succ, List.set_cons_zero, List.set_cons_succ, List.map_cons, List.map_nil, List.mapM_cons, List.mapM_nil, List.length_cons, List.length_nil, List.cons_append, List.nil_append, Bool.or_false, Bool.false_or, Bool.or_true, Bool.true_or, Bool.and_true, Bool.true_and, Bool.and_false, Bool.false_and, Bool.not_true, Bool.not_false, Bool.false_eq_true, if_true, if_false, reduceIte, List.replicate_succ, List.replicate_zero, List.zip_cons_cons, List.zip_nil_right, List.foldlM_cons, List.foldlM_nil, List.nodup_nil]) <;> rfl), (by (conv => lhs; simp [exs, ex, ev, evs, evo, eva, evi, evc, Tg.put, leaf?, bl?, int?, node?, tpl?, lsts?, T.isLeaf, T.frz, T.frzs, argOk, ioSlots, ioTs, ioPut, ME.mut, MEs.mut, MO.mut, ME.path, bfn, binop, cmpop, T.lst?, T.leaves, cc_run, cc_io, wipe, Option.bind_eq_bind, Option.bind_some, Option.map_some, Option.pure_def, List.getD_cons_zero, List.getD_cons_succ, List.set_cons_zero, List.set_cons_succ, List.map_cons, List.map_nil, List.mapM_cons, List.mapM_nil, List.length_cons, List.length_nil, List.cons_append, List.nil_append, Bool.or_false, Bool.false_or, Bool.or_true, Bool.true_or, Bool.and_true, Bool.true_and, Bool.and_false, Bool.false_and, Bool.not_true, Bool.not_false, Bool.false_eq_true, if_true, if_false, reduceIte, List.replicate_succ, List.replicate_zero, List.zip_cons_cons, List.zip_nil_right, List.foldlM_cons, List.foldlM_nil, List.nodup_nil, io_leaving, lr]) <;> rfl), (by (conv => lhs; simp [exs, ex, ev, evs, evo, eva, evi, evc, Tg.put, leaf?, bl?, int?, node?, tpl?, lsts?, T.isLeaf, T.frz, T.frzs, argOk, ioSlots, ioTs, ioPut, ME.mut, MEs.mut, MO.mut, ME.path, bfn, binop, cmpop, T.lst?, T.leaves, cc_run, cc_io, wipe, Option.bind_eq_bind, Option.bind_some, Option.map_some, Option.pure_def, List.getD_cons_zero, List.getD_cons_succ, List.set_cons_zero, List.set_cons_succ, List.map_cons, List.map_nil, List.mapM_cons, List.mapM_nil, List.length_cons, List.length_nil, List.cons_append, List.nil_append, Bool.or_false, Bool.false_or, Bool.or_true, Bool.true_or, Bool.and_true, Bool.true_and, Bool.and_false, Bool.false_and, Bool.not_true, Bool.not_false, Bool.false_eq_true, if_true, if_false, reduceIte, List.replicate_succ, List.replicate_zero, List.zip_cons_cons, List.zip_nil_right, List.foldlM_cons, List.foldlM_nil, List.nodup_nil]) <;> rfl)⟩
  have pb : po 6 b m = po 6 a m := (sh_po K.ab).symm
  have pc : po 6 c m = po 6 a m := (sh_po K.ac).symm
  have fa := K.oa.fit
  have fb := K.ob.fit
  have fc := K.oc.fit
  have l1 : wb 6 a m ≤ wb 6 b m := wb_le fa fb (sh_imp rle_of_rh K.ab) (by omega) (Int.le_refl m)
  have l2 : wb 6 b m ≤ wb 6 c m := wb_le fb fc (sh_join rle_of_rh2 K.ab K.ac) (by omega) (Int.le_refl m)
  have okn := ni_ok K.oa _ (po_ni (m := m) fa)
  -- named
  have nbb : 1 ≤ nb (po 6 a m).2 6 b m := by rw [← pb]; exact nb_own fb m1
  have nbc : 1 ≤ nb (po 6 a m).2 6 c m := by rw [← pc]; exact nb_own fc m1
  have mb : (po 6 a m).2 ∈ ni 6 b := by rw [← pb]; exact po_ni fb
  have mc : (po 6 a m).2 ∈ ni 6 c := by rw [← pc]; exact po_ni fc
  obtain ⟨y, n1, g1, hg1, rfl⟩ := named_run (W := W) (n := n) (r := b) (c := 1) (N := m) (by omega) (by omega) hW K.ob K.nb mb (by omega) (by omega) nbb (by omega) (by omega)
  obtain ⟨y, n2, g2, hg2, rfl⟩ := named_run (W := W) (n := n) (r := c) (c := 1) (N := m) (by omega) (by omega) hW K.oc K.nc mc (by omega) (by omega) nbc (by omega) (by omega)
  have shbc : Sh RLe 6 b c := sh_join rle_of_rh2 K.ab K.ac
  have gg : g1 = g2 := nb_uniq hg1 hg2 fun z => sh_nb shbc
  subst gg
  have pg : po 6 c g1 = po 6 b g1 := (sh_po shbc).symm
  rw [pg] at n2
  -- one more
  have r1 := small_run (W := W) 6 n a (by omega) fa
  have oks := ok_sm 6 a K.oa
  have r2 := one_more_run (W := W) 6 n (sm 6 a) (by omega) oks.fit
  have r3 := leaving_run (W := W) (n := n) (r := om 6 (sm 6 a)) (m := m) (by omega) (by omega) (by omega) (ok_om_sm 6 a K.oa) (by rw [om, nd_mp, sm, nd_mp]; exact K.na) m1 (by omega)
  have r4 := leaving_run (W := W) (n := n) (r := sm 6 a) (m := m) (by omega) (by omega) (by omega) oks (by rw [sm, nd_mp]; exact K.na) m1 (by omega)
  have r5 := openings_run (W := W) 6 n (sm 6 a) m (by omega) oks.fit
  have r6 := wb_om (r := a) (m := m) fa (by omega)
  rw [r6] at r3
  have tb : tw b m = .tup [.int (wb 6 b m - 1), .tup ((po 6 a m).1.map D.int), .str (po 6 a m).2] := by rw [tw, pb]
  have tc : tw c m = .tup [.int (wb 6 c m - 1), .tup ((po 6 a m).1.map D.int), .str (po 6 a m).2] := by rw [tw, pc]
  have ta : tw a m = .tup [.int (wb 6 a m - 1), .tup ((po 6 a m).1.map D.int), .str (po 6 a m).2] := rfl
  have X1 : (D.tup [.tup ((po 6 a m).1.map D.int), .str (po 6 a m).2]).plain = true := by
    rw [D.plain, D.plains, D.plains, D.plains, okn.plain, D.plain, plains_ints]; rfl
  have X2 : (D.tup [.tup ((po 6 a m).1.map D.int), .str (po 6 a m).2]).depth = 2 := by
    rw [D.depth, D.depths, D.depths, D.depths, D.depth, depths_ints]; simp [D.depth]
  have Y1 : (D.tup ((po 6 b g1).1.map D.int)).plain = true := by rw [D.plain, plains_ints]
  have Y2 : (D.tup ((po 6 b g1).1.map D.int)).depth = 1 := by rw [D.depth, depths_ints]
  have Y3 := eqb_refl _ Y1
  generalize D.tup ((po 6 b g1).1.map D.int) = Y at *
  obtain ⟨X, hX⟩ : ∃ X, X = D.tup [.tup ((po 6 a m).1.map D.int), .str (po 6 a m).2] := ⟨_, rfl⟩
  rw [← hX] at X1 X2
  have Z1 : (D.lst [X, X, X]).plain = true := by rw [D.plain, D.plains, D.plains, D.plains, D.plains, X1]; rfl
  have Z2 : (D.lst [X, X, X]).depth = 3 := by rw [D.depth, D.depths, D.depths, D.depths, D.depths, X2]; rfl
  have Z3 := eqb_refl _ Z1
  generalize D.tup ((po 6 a m).1.map D.int) = P at *
  generalize (po 6 a m).2 = nm at *
  generalize wb 6 a m = wa at *
  generalize wb 6 b m = wbb at *
  generalize wb 6 c m = wc at *
  refine ends_nx (r1 := [s, some t2, x2, some (.leaf (enc 6 a)), x4, some (.leaf (enc 6 b)), some (.leaf (enc 6 c)), some (.leaf (.int m)), some (.leaf (.lst [.tup [.int (wa - 1), P, .str nm], .tup [.int (wbb - 1), P, .str nm], .tup [.int (wc - 1), P, .str nm]])), x9, x10, x11, none, none]) (by (conv => lhs; simp [exs, ex, ev, evs, evo, eva, evi, evc, Tg.put, leaf?, bl?, int?, node?, tpl?, lsts?, T.isLeaf, T.frz, T.frzs, argOk, ioSlots, ioTs, ioPut, ME.mut, MEs.mut, MO.mut, ME.path, bfn, binop, cmpop, T.lst?, T.leaves, cc_run, cc_io, wipe, Option.bind_eq_bind, Option.bind_some, Option.map_some, Option.pure_def, List.getD_cons_zero, List.getD_cons_succ, List.set_cons_zero, List.set_cons_succ, List.map_cons, List.map_nil, List.mapM_cons, List.mapM_nil, List.length_cons, List.length_nil, List.cons_append, List.nil_append, Bool.or_false, Bool.false_or, Bool.or_true, Bool.true_or, Bool.and_true, Bool.true_and, Bool.and_false, Bool.false_and, Bool.not_true, Bool.not_false, Bool.false_eq_true, if_true, if_false, reduceIte, List.replicate_succ, List.replicate_zero, List.zip_cons_cons, List.zip_nil_right, List.foldlM_cons, List.foldlM_nil, List.nodup_nil, q1, ta, tb, tc]) <;> rfl) ?_
  have q2 : ev (CC T0 W n) true c_law_k16_0 [s, some t2, x2, some (.leaf (enc 6 a)), x4, some (.leaf (enc 6 b)), some (.leaf (enc 6 c)), some (.leaf (.int m)), some (.leaf (.lst [.tup [.int (wa - 1), P, .str nm], .tup [.int (wbb - 1), P, .str nm], .tup [.int (wc - 1), P, .str nm]])), x9, x10, x11, none, none] =
      some (.node ([wa, wbb, wc].map fun z => .leaf X), [s, some t2, x2, some (.leaf (enc 6 a)), x4, some (.leaf (enc 6 b)), some (.leaf (enc 6 c)), some (.leaf (.int m)), some (.leaf (.lst [.tup [.int (wa - 1), P, .str nm], .tup [.int (wbb - 1), P, .str nm], .tup [.int (wc - 1), P, .str nm]])), x9, x10, x11, none, none]) := by
    refine evl_compN (fun z => D.tup [.int (z - 1), P, .str nm]) (fun z => .leaf X) (by (conv => lhs; simp [exs, ex, ev, evs, evo, eva, evi, evc, Tg.put, leaf?, bl?, int?, node?, tpl?, lsts?, T.isLeaf, T.frz, T.frzs, argOk, ioSlots, ioTs, ioPut, ME.mut, MEs.mut, MO.mut, ME.path, bfn, binop, cmpop, T.lst?, T.leaves, cc_run, cc_io, wipe, Option.bind_eq_bind, Option.bind_some, Option.map_some, Option.pure_def, List.getD_cons_zero, List.getD_cons_succ, List.set_cons_zero, List.set_cons_succ, List.map_cons, List.map_nil, List.mapM_cons, List.mapM_nil, List.length_cons, List.length_nil, List.cons_append, List.nil_append, Bool.or_false, Bool.false_or, Bool.or_true, Bool.true_or, Bool.and_true, Bool.true_and, Bool.and_false, Bool.false_and, Bool.not_true, Bool.not_false, Bool.false_eq_true, if_true, if_false, reduceIte, List.replicate_succ, List.replicate_zero, List.zip_cons_cons, List.zip_nil_right, List.foldlM_cons, List.foldlM_nil, List.nodup_nil]) <;> rfl) rfl (by simp [lim]) fun z _ => ?_
    exact ⟨_, (by (conv => lhs; simp [exs, ex, ev, evs, evo, eva, evi, evc, Tg.put, leaf?, bl?, int?, node?, tpl?, lsts?, T.isLeaf, T.frz, T.frzs, argOk, ioSlots, ioTs, ioPut, ME.mut, MEs.mut, MO.mut, ME.path, bfn, binop, cmpop, T.lst?, T.leaves, cc_run, cc_io, wipe, Option.bind_eq_bind, Option.bind_some, Option.map_some, Option.pure_def, List.getD_cons_zero, List.getD_cons_succ, List.set_cons_zero, List.set_cons_succ, List.map_cons, List.map_nil, List.mapM_cons, List.mapM_nil, List.length_cons, List.length_nil, List.cons_append, List.nil_append, Bool.or_false, Bool.false_or, Bool.or_true, Bool.true_or, Bool.and_true, Bool.true_and, Bool.and_false, Bool.false_and, Bool.not_true, Bool.not_false, Bool.false_eq_true, if_true, if_false, reduceIte, List.replicate_succ, List.replicate_zero, List.zip_cons_cons, List.zip_nil_right, List.foldlM_cons, List.foldlM_nil, List.nodup_nil]) <;> rfl), (by (conv => lhs; simp [exs, ex, ev, evs, evo, eva, evi, evc, Tg.put, leaf?, bl?, int?, node?, tpl?, lsts?, T.isLeaf, T.frz, T.frzs, argOk, ioSlots, ioTs, ioPut, ME.mut, MEs.mut, MO.mut, ME.path, bfn, binop, cmpop, T.lst?, T.leaves, cc_run, cc_io, wipe, Option.bind_eq_bind, Option.bind_some, Option.map_some, Option.pure_def, List.getD_cons_zero, List.getD_cons_succ, List.set_cons_zero, List.set_cons_succ, List.map_cons, List.map_nil, List.mapM_cons, List.mapM_nil, List.length_cons, List.length_nil, List.cons_append, List.nil_append, Bool.or_false, Bool.false_or, Bool.or_true, Bool.true_or, Bool.and_true, Bool.true_and, Bool.and_false, Bool.false_and, Bool.not_true, Bool.not_false, Bool.false_eq_true, if_true, if_false, reduceIte, List.replicate_succ, List.replicate_zero, List.zip_cons_cons, List.zip_nil_right, List.foldlM_cons, List.foldlM_nil, List.nodup_nil, slice, cut, sIx, ← hX]) <;> rfl), (by (conv => lhs; simp [exs, ex, ev, evs, evo, eva, evi, evc, Tg.put, leaf?, bl?, int?, node?, tpl?, lsts?, T.isLeaf, T.frz, T.frzs, argOk, ioSlots, ioTs, ioPut, ME.mut, MEs.mut, MO.mut, ME.path, bfn, binop, cmpop, T.lst?, T.leaves, cc_run, cc_io, wipe, Option.bind_eq_bind, Option.bind_some, Option.map_some, Option.pure_def, List.getD_cons_zero, List.getD_cons_succ, List.set_cons_zero, List.set_cons_succ, List.map_cons, List.map_nil, List.mapM_cons, List.mapM_nil, List.length_cons, List.length_nil, List.cons_append, List.nil_append, Bool.or_false, Bool.false_or, Bool.or_true, Bool.true_or, Bool.and_true, Bool.true_and, Bool.and_false, Bool.false_and, Bool.not_true, Bool.not_false, Bool.false_eq_true, if_true, if_false, reduceIte, List.replicate_succ, List.replicate_zero, List.zip_cons_cons, List.zip_nil_right, List.foldlM_cons, List.foldlM_nil, List.nodup_nil]) <;> rfl)⟩
  have la1 : wa - 1 ≤ wbb - 1 := by omega
  have la2 : wbb - 1 ≤ wc - 1 := by omega
  refine ends_ff0 (by (conv => lhs; simp [exs, ex, ev, evs, evo, eva, evi, evc, Tg.put, leaf?, bl?, int?, node?, tpl?, lsts?, T.isLeaf, T.frz, T.frzs, argOk, ioSlots, ioTs, ioPut, ME.mut, MEs.mut, MO.mut, ME.path, bfn, binop, cmpop, T.lst?, T.leaves, cc_run, cc_io, wipe, Option.bind_eq_bind, Option.bind_some, Option.map_some, Option.pure_def, List.getD_cons_zero, List.getD_cons_succ, List.set_cons_zero, List.set_cons_succ, List.map_cons, List.map_nil, List.mapM_cons, List.mapM_nil, List.length_cons, List.length_nil, List.cons_append, List.nil_append, Bool.or_false, Bool.false_or, Bool.or_true, Bool.true_or, Bool.and_true, Bool.true_and, Bool.and_false, Bool.false_and, Bool.not_true, Bool.not_false, Bool.false_eq_true, if_true, if_false, reduceIte, List.replicate_succ, List.replicate_zero, List.zip_cons_cons, List.zip_nil_right, List.foldlM_cons, List.foldlM_nil, List.nodup_nil, q2, slice, cut, sIx, ← hX, Z1, Z2, Z3, la1, la2, index, atI, ixN, lim, c_law_k16_0_m, c_law_k16_0_p]) <;> rfl) ?_
  refine ends_ff0 (by (conv => lhs; simp [exs, ex, ev, evs, evo, eva, evi, evc, Tg.put, leaf?, bl?, int?, node?, tpl?, lsts?, T.isLeaf, T.frz, T.frzs, argOk, ioSlots, ioTs, ioPut, ME.mut, MEs.mut, MO.mut, ME.path, bfn, binop, cmpop, T.lst?, T.leaves, cc_run, cc_io, wipe, Option.bind_eq_bind, Option.bind_some, Option.map_some, Option.pure_def, List.getD_cons_zero, List.getD_cons_succ, List.set_cons_zero, List.set_cons_succ, List.map_cons, List.map_nil, List.mapM_cons, List.mapM_nil, List.length_cons, List.length_nil, List.cons_append, List.nil_append, Bool.or_false, Bool.false_or, Bool.or_true, Bool.true_or, Bool.and_true, Bool.true_and, Bool.and_false, Bool.false_and, Bool.not_true, Bool.not_false, Bool.false_eq_true, if_true, if_false, reduceIte, List.replicate_succ, List.replicate_zero, List.zip_cons_cons, List.zip_nil_right, List.foldlM_cons, List.foldlM_nil, List.nodup_nil, io_named, n1, n2, Y1, Y2, Y3, index, atI, ixN]) <;> rfl) ?_
  refine ends_nx (by (conv => lhs; simp [exs, ex, ev, evs, evo, eva, evi, evc, Tg.put, leaf?, bl?, int?, node?, tpl?, lsts?, T.isLeaf, T.frz, T.frzs, argOk, ioSlots, ioTs, ioPut, ME.mut, MEs.mut, MO.mut, ME.path, bfn, binop, cmpop, T.lst?, T.leaves, cc_run, cc_io, wipe, Option.bind_eq_bind, Option.bind_some, Option.map_some, Option.pure_def, List.getD_cons_zero, List.getD_cons_succ, List.set_cons_zero, List.set_cons_succ, List.map_cons, List.map_nil, List.mapM_cons, List.mapM_nil, List.length_cons, List.length_nil, List.cons_append, List.nil_append, Bool.or_false, Bool.false_or, Bool.or_true, Bool.true_or, Bool.and_true, Bool.true_and, Bool.and_false, Bool.false_and, Bool.not_true, Bool.not_false, Bool.false_eq_true, if_true, if_false, reduceIte, List.replicate_succ, List.replicate_zero, List.zip_cons_cons, List.zip_nil_right, List.foldlM_cons, List.foldlM_nil, List.nodup_nil, io_law_small, r1]) <;> rfl) ?_
  generalize wb 6 (sm 6 a) m = ws at *
  generalize op 6 (sm 6 a) m = os at *
  have la3 : ws + os - 1 = ws - 1 + os := by omega
  rw [la3] at r3
  refine ends_ff0 (by (conv => lhs; simp [exs, ex, ev, evs, evo, eva, evi, evc, Tg.put, leaf?, bl?, int?, node?, tpl?, lsts?, T.isLeaf, T.frz, T.frzs, argOk, ioSlots, ioTs, ioPut, ME.mut, MEs.mut, MO.mut, ME.path, bfn, binop, cmpop, T.lst?, T.leaves, cc_run, cc_io, wipe, Option.bind_eq_bind, Option.bind_some, Option.map_some, Option.pure_def, List.getD_cons_zero, List.getD_cons_succ, List.set_cons_zero, List.set_cons_succ, List.map_cons, List.map_nil, List.mapM_cons, List.mapM_nil, List.length_cons, List.length_nil, List.cons_append, List.nil_append, Bool.or_false, Bool.false_or, Bool.or_true, Bool.true_or, Bool.and_true, Bool.true_and, Bool.and_false, Bool.false_and, Bool.not_true, Bool.not_false, Bool.false_eq_true, if_true, if_false, reduceIte, List.replicate_succ, List.replicate_zero, List.zip_cons_cons, List.zip_nil_right, List.foldlM_cons, List.foldlM_nil, List.nodup_nil, io_leaving, io_law_one_more, io_law_openings, r2, r3, r4, r5, index, atI, ixN, D.plain, D.depth, eqb_int]) <;> rfl) ?_
  exact ends_nil ⟨t2, _, _, _, d2, rfl⟩
end
end PD

/-! The law k16: a turn, the whole. -/
namespace PD
open PySem
section
variable {W n : Nat}
theorem div_cross {g a b : Int} (g0 : 0 < g) (ha : g ∣ a) (hb : g ∣ b) : (b / g) * a = (a / g) * b := by
  obtain ⟨x, rfl⟩ := ha
  obtain ⟨y, rfl⟩ := hb
  rw [Int.mul_ediv_cancel_left _ (by omega), Int.mul_ediv_cancel_left _ (by omega), Int.mul_left_comm, Int.mul_left_comm x g y, Int.mul_comm y x]
theorem mulOk_left {z b : Int} (h0 : 0 ≤ z) (h1 : z ≤ 16777216) : mulOk z b = true := by simp [mulOk]; omega
theorem li_small {k : Nat} {r : Rm k} (f : Fit k r) (h : nd k r ≤ 12) : (0 : Int) < (li k r : Int) ∧ (li k r : Int) ≤ 16777216 := by
  obtain ⟨l0, l1⟩ := li_le k r f
  have l2 : li k r ≤ 16777216 := Nat.le_trans (Nat.le_trans l1 (Nat.pow_le_pow_right (by omega) h)) (by decide)
  omega
theorem ev_mul {C : Callees} {k : Bool} {g1 g2 : ME} {r : Env} {x y p : Int} (ea : ev C true g1 r = some (.leaf (.int x), r)) (eb : ev C true g2 r = some (.leaf (.int y), r)) (km : mulOk x y = true) (h : x * y = p) :
    ev C k (.bin .mul g1 g2) r = some (.leaf (.int p), r) := by
  rw [ev]
  simp only [ea, eb, Option.bind_eq_bind, Option.bind_some, T.isLeaf, Bool.not_true, Bool.and_false, Bool.false_eq_true, if_false]
  rw [binop]
  simp only [km, if_true, h, Option.map_some]
theorem ev_ne_int {C : Callees} {k : Bool} {g1 g2 : ME} {r : Env} {x y : Int} (ea : ev C true g1 r = some (.leaf (.int x), r)) (eb : ev C true g2 r = some (.leaf (.int y), r)) :
    ev C k (.cmp .ne g1 g2) r = some (.leaf (.bl (!decide (x = y))), r) := by
  rw [ev]
  simp only [ea, eb, Option.bind_eq_bind, Option.bind_some, T.isLeaf, Bool.not_true, Bool.and_false, Bool.false_eq_true, if_false]
  simp [cmpop, D.plain, D.depth, eqb_int, T.frz]
theorem k16_cond {a : D} {x y L w p : Int} {r0 r1 r2 r4 r5 r6 r7 r8 r9 r12 r13 : Option T}
    (e : callD T0 W n f_round_of [.leaf a] = some (.leaf (.tup [.int L, .int w]), [])) (k1 : mulOk x L = true) (k2 : mulOk y w = true) (h1 : x * L = p) (h2 : y * w = p) :
    ev (CC T0 W n) false (.cmp .ne (.bin .mul (.var 10) (.idx (.call f_round_of (.val (.var 3) .nil)) (.cst (.int 0)))) (.bin .mul (.var 11) (.idx (.call f_round_of (.val (.var 3) .nil)) (.cst (.int 1))))) [r0, r1, r2, some (.leaf a), r4, r5, r6, r7, r8, r9, some (.leaf (.int x)), some (.leaf (.int y)), r12, r13]
      = some (.leaf (.bl false), [r0, r1, r2, some (.leaf a), r4, r5, r6, r7, r8, r9, some (.leaf (.int x)), some (.leaf (.int y)), r12, r13]) := by
  have e4 := ev_mul (C := CC T0 W n) (k := true) (g1 := .var 10) (g2 := .idx (.call f_round_of (.val (.var 3) .nil)) (.cst (.int 0))) (r := [r0, r1, r2, some (.leaf a), r4, r5, r6, r7, r8, r9, some (.leaf (.int x)), some (.leaf (.int y)), r12, r13]) rfl (by (conv => lhs; simp [exs, ex, ev, evs, evo, eva, evi, evc, Tg.put, leaf?, bl?, int?, node?, tpl?, lsts?, T.isLeaf, T.frz, T.frzs, argOk, ioSlots, ioTs, ioPut, ME.mut, MEs.mut, MO.mut, ME.path, bfn, binop, cmpop, T.lst?, T.leaves, cc_run, cc_io, wipe, Option.bind_eq_bind, Option.bind_some, Option.map_some, Option.pure_def, List.getD_cons_zero, List.getD_cons_succ, List.set_cons_zero, List.set_cons_succ, List.map_cons, List.map_nil, List.mapM_cons, List.mapM_nil, List.length_cons, List.length_nil, List.cons_append, List.nil_append, Bool.or_false, Bool.false_or, Bool.or_true, Bool.true_or, Bool.and_true, Bool.true_and, Bool.and_false, Bool.false_and, Bool.not_true, Bool.not_false, Bool.false_eq_true, if_true, if_false, reduceIte, List.replicate_succ, List.replicate_zero, List.zip_cons_cons, List.zip_nil_right, List.foldlM_cons, List.foldlM_nil, List.nodup_nil, e, io_round_of, index, atI, ixN]) <;> rfl) k1 h1
  have e6 := ev_mul (C := CC T0 W n) (k := true) (g1 := .var 11) (g2 := .idx (.call f_round_of (.val (.var 3) .nil)) (.cst (.int 1))) (r := [r0, r1, r2, some (.leaf a), r4, r5, r6, r7, r8, r9, some (.leaf (.int x)), some (.leaf (.int y)), r12, r13]) rfl (by (conv => lhs; simp [exs, ex, ev, evs, evo, eva, evi, evc, Tg.put, leaf?, bl?, int?, node?, tpl?, lsts?, T.isLeaf, T.frz, T.frzs, argOk, ioSlots, ioTs, ioPut, ME.mut, MEs.mut, MO.mut, ME.path, bfn, binop, cmpop, T.lst?, T.leaves, cc_run, cc_io, wipe, Option.bind_eq_bind, Option.bind_some, Option.map_some, Option.pure_def, List.getD_cons_zero, List.getD_cons_succ, List.set_cons_zero, List.set_cons_succ, List.map_cons, List.map_nil, List.mapM_cons, List.mapM_nil, List.length_cons, List.length_nil, List.cons_append, List.nil_append, Bool.or_false, Bool.false_or, Bool.or_true, Bool.true_or, Bool.and_true, Bool.true_and, Bool.and_false, Bool.false_and, Bool.not_true, Bool.not_false, Bool.false_eq_true, if_true, if_false, reduceIte, List.replicate_succ, List.replicate_zero, List.zip_cons_cons, List.zip_nil_right, List.foldlM_cons, List.foldlM_nil, List.nodup_nil, e, io_round_of, index, atI, ixN]) <;> rfl) k2 h2
  rw [ev_ne_int e4 e6]
  simp
theorem k16_turn_run {t : T} {s x2 x3 x4 x5 x6 x7 x8 x9 x10 x11 : Option T} {Q : Fl → Prop} (hn : 20 < n) (hW : 1000000000000000000000 < W) (hd : Dw t) :
    Ends (CC T0 W n) W k16_turn [s, some t, x2, x3, x4, x5, x6, x7, x8, x9, x10, x11, none, none]
      (Lq (fun r => ∃ t' y3 y4 y5 y6 y7 y8 y9 y10 y11, Dw t' ∧ r = [s, some t', x2, y3, y4, y5, y6, y7, y8, y9, y10, y11, none, none]) Q) := by
  obtain ⟨w, t1, hw, d1, e1⟩ := draw2 (W := W) (n := n) (a := 3) (b := 40) (e1 := .cst (.int 3)) (e2 := .cst (.int 40)) (by omega) (fun r => (by (conv => lhs; simp [exs, ex, ev, evs, evo, eva, evi, evc, Tg.put, leaf?, bl?, int?, node?, tpl?, lsts?, T.isLeaf, T.frz, T.frzs, argOk, ioSlots, ioTs, ioPut, ME.mut, MEs.mut, MO.mut, ME.path, bfn, binop, cmpop, T.lst?, T.leaves, cc_run, cc_io, wipe, Option.bind_eq_bind, Option.bind_some, Option.map_some, Option.pure_def, List.getD_cons_zero, List.getD_cons_succ, List.set_cons_zero, List.set_cons_succ, List.map_cons, List.map_nil, List.mapM_cons, List.mapM_nil, List.length_cons, List.length_nil, List.cons_append, List.nil_append, Bool.or_false, Bool.false_or, Bool.or_true, Bool.true_or, Bool.and_true, Bool.true_and, Bool.and_false, Bool.false_and, Bool.not_true, Bool.not_false, Bool.false_eq_true, if_true, if_false, reduceIte, List.replicate_succ, List.replicate_zero, List.zip_cons_cons, List.zip_nil_right, List.foldlM_cons, List.foldlM_nil, List.nodup_nil]) <;> rfl)) (fun r => (by (conv => lhs; simp [exs, ex, ev, evs, evo, eva, evi, evc, Tg.put, leaf?, bl?, int?, node?, tpl?, lsts?, T.isLeaf, T.frz, T.frzs, argOk, ioSlots, ioTs, ioPut, ME.mut, MEs.mut, MO.mut, ME.path, bfn, binop, cmpop, T.lst?, T.leaves, cc_run, cc_io, wipe, Option.bind_eq_bind, Option.bind_some, Option.map_some, Option.pure_def, List.getD_cons_zero, List.getD_cons_succ, List.set_cons_zero, List.set_cons_succ, List.map_cons, List.map_nil, List.mapM_cons, List.mapM_nil, List.length_cons, List.length_nil, List.cons_append, List.nil_append, Bool.or_false, Bool.false_or, Bool.or_true, Bool.true_or, Bool.and_true, Bool.true_and, Bool.and_false, Bool.false_and, Bool.not_true, Bool.not_false, Bool.false_eq_true, if_true, if_false, reduceIte, List.replicate_succ, List.replicate_zero, List.zip_cons_cons, List.zip_nil_right, List.foldlM_cons, List.foldlM_nil, List.nodup_nil]) <;> rfl)) hd s [x2, x3, x4, x5, x6, x7, x8, x9, x10, x11, none, none]
  obtain ⟨x, o, e2, a, t2, rfl, rfl, oa, na, d2⟩ := house_run (W := W) (n := n) (few := w) (t := t1) (by omega) (by omega) (by omega) d1
  refine ends_nx (r1 := [s, some t2, x2, some (.leaf (enc 6 a)), x4, x5, x6, x7, x8, x9, x10, x11, none, none]) ?_ ?_
  · generalize (ME.idx (.lst (.cons (.cst (.int 3)) (.cons (.cst (.int 40)) .nil))) (.call f_law_next (.io 1 (.val (.cst (.int 2)) .nil)))) = g at e1 ⊢
    simp [exs, ex, ev, evs, evo, eva, evi, evc, Tg.put, leaf?, bl?, int?, node?, tpl?, lsts?, T.isLeaf, T.frz, T.frzs, argOk, ioSlots, ioTs, ioPut, ME.mut, MEs.mut, MO.mut, ME.path, bfn, binop, cmpop, T.lst?, T.leaves, cc_run, cc_io, wipe, Option.bind_eq_bind, Option.bind_some, Option.map_some, Option.pure_def, List.getD_cons_zero, List.getD_cons_succ, List.set_cons_zero, List.set_cons_succ, List.map_cons, List.map_nil, List.mapM_cons, List.mapM_nil, List.length_cons, List.length_nil, List.cons_append, List.nil_append, Bool.or_false, Bool.false_or, Bool.or_true, Bool.true_or, Bool.and_true, Bool.true_and, Bool.and_false, Bool.false_and, Bool.not_true, Bool.not_false, Bool.false_eq_true, if_true, if_false, reduceIte, List.replicate_succ, List.replicate_zero, List.zip_cons_cons, List.zip_nil_right, List.foldlM_cons, List.foldlM_nil, List.nodup_nil, e1, io_law_house, e2]
  obtain ⟨x, o, e3, b, t3, rfl, rfl, ob, nb', sb, d3⟩ := harder_run (W := W) (most := 0) (by omega) (by omega) 6 n t2 a (by omega) d2 oa
  obtain ⟨x, o, e4, c, t4, rfl, rfl, oc, nc', sc, d4⟩ := harder_run (W := W) (most := 9) (by omega) (by omega) 6 n t3 a (by omega) d3 oa
  have K : K16 a b c := ⟨oa, na, ob, by omega, oc, by omega, sb, sc⟩
  refine ends_nx (by (conv => lhs; simp [exs, ex, ev, evs, evo, eva, evi, evc, Tg.put, leaf?, bl?, int?, node?, tpl?, lsts?, T.isLeaf, T.frz, T.frzs, argOk, ioSlots, ioTs, ioPut, ME.mut, MEs.mut, MO.mut, ME.path, bfn, binop, cmpop, T.lst?, T.leaves, cc_run, cc_io, wipe, Option.bind_eq_bind, Option.bind_some, Option.map_some, Option.pure_def, List.getD_cons_zero, List.getD_cons_succ, List.set_cons_zero, List.set_cons_succ, List.map_cons, List.map_nil, List.mapM_cons, List.mapM_nil, List.length_cons, List.length_nil, List.cons_append, List.nil_append, Bool.or_false, Bool.false_or, Bool.or_true, Bool.true_or, Bool.and_true, Bool.true_and, Bool.and_false, Bool.false_and, Bool.not_true, Bool.not_false, Bool.false_eq_true, if_true, if_false, reduceIte, List.replicate_succ, List.replicate_zero, List.zip_cons_cons, List.zip_nil_right, List.foldlM_cons, List.foldlM_nil, List.nodup_nil, io_law_harder, e3, e4, setAll]) <;> rfl) ?_
  refine ends_for (fun it r => ∃ (t' : T) (y4 y7 y8 y9 : Option T), Dw t' ∧ r = [s, some t', x2, some (.leaf (enc 6 a)), y4, some (.leaf (enc 6 b)), some (.leaf (enc 6 c)), y7, y8, y9, x10, x11, none, none]) (by (conv => lhs; simp [exs, ex, ev, evs, evo, eva, evi, evc, Tg.put, leaf?, bl?, int?, node?, tpl?, lsts?, T.isLeaf, T.frz, T.frzs, argOk, ioSlots, ioTs, ioPut, ME.mut, MEs.mut, MO.mut, ME.path, bfn, binop, cmpop, T.lst?, T.leaves, cc_run, cc_io, wipe, Option.bind_eq_bind, Option.bind_some, Option.map_some, Option.pure_def, List.getD_cons_zero, List.getD_cons_succ, List.set_cons_zero, List.set_cons_succ, List.map_cons, List.map_nil, List.mapM_cons, List.mapM_nil, List.length_cons, List.length_nil, List.cons_append, List.nil_append, Bool.or_false, Bool.false_or, Bool.or_true, Bool.true_or, Bool.and_true, Bool.true_and, Bool.and_false, Bool.false_and, Bool.not_true, Bool.not_false, Bool.false_eq_true, if_true, if_false, reduceIte, List.replicate_succ, List.replicate_zero, List.zip_cons_cons, List.zip_nil_right, List.foldlM_cons, List.foldlM_nil, List.nodup_nil, rngOk]) <;> rfl) ⟨t4, x4, x7, x8, x9, d4, rfl⟩ ?_ ?_
  · rintro d its r ⟨t', y4, y7, y8, y9, d', rfl⟩
    refine ⟨_, (by (conv => lhs; simp [exs, ex, ev, evs, evo, eva, evi, evc, Tg.put, leaf?, bl?, int?, node?, tpl?, lsts?, T.isLeaf, T.frz, T.frzs, argOk, ioSlots, ioTs, ioPut, ME.mut, MEs.mut, MO.mut, ME.path, bfn, binop, cmpop, T.lst?, T.leaves, cc_run, cc_io, wipe, Option.bind_eq_bind, Option.bind_some, Option.map_some, Option.pure_def, List.getD_cons_zero, List.getD_cons_succ, List.set_cons_zero, List.set_cons_succ, List.map_cons, List.map_nil, List.mapM_cons, List.mapM_nil, List.length_cons, List.length_nil, List.cons_append, List.nil_append, Bool.or_false, Bool.false_or, Bool.or_true, Bool.true_or, Bool.and_true, Bool.true_and, Bool.and_false, Bool.false_and, Bool.not_true, Bool.not_false, Bool.false_eq_true, if_true, if_false, reduceIte, List.replicate_succ, List.replicate_zero, List.zip_cons_cons, List.zip_nil_right, List.foldlM_cons, List.foldlM_nil, List.nodup_nil]) <;> rfl), ?_⟩
    refine (k16_time_run (Q := Lq (fun r => ∃ t' y3 y4 y5 y6 y7 y8 y9 y10 y11, Dw t' ∧ r = [s, some t', x2, y3, y4, y5, y6, y7, y8, y9, y10, y11, none, none]) Q) hn hW d' K).mono fun fl h => ?_
    cases fl with
    | nx r => obtain ⟨t', y7, y8, y9, d', e⟩ := h; exact ⟨t', _, y7, y8, y9, d', e⟩
    | rt t r => exact h
  · rintro r ⟨t', y4, y7, y8, y9, d', rfl⟩
    have fa := oa.fit
    have ra := round_of_run (W := W) (n := n) (r := a) (by omega) (by omega) (by omega) oa na
    have rc := round_of_run (W := W) (n := n) (r := c) (by omega) (by omega) (by omega) oc K.nc
    obtain ⟨g, wv, g0, gl, gw, ew, me⟩ := mean_run (W := W) (n := n) (r := a) (by omega) (by omega) (by omega) oa na
    have mono := fun (r : Rm 6) (h : Ok 6 r) => wb_mono (r := r) h.fit
    obtain ⟨y, lea, va, La, rfl⟩ := left_run (W := W) (n := n) (r := a) (w := 1000000000000) (by omega) (by omega) (by omega) (by omega) (by omega) oa na (mono a oa)
    obtain ⟨y, leb, vb, Lb, rfl⟩ := left_run (W := W) (n := n) (r := b) (w := 1000000000000) (by omega) (by omega) (by omega) (by omega) (by omega) ob K.nb (mono b ob)
    obtain ⟨y, lec, vc, Lc, rfl⟩ := left_run (W := W) (n := n) (r := c) (w := 1000000000000) (by omega) (by omega) (by omega) (by omega) (by omega) oc K.nc (mono c oc)
    have va1 := lb_le_of La Lb fun m h => wb_le fa ob.fit (sh_imp rle_of_rh K.ab) h (Int.le_refl m)
    have vb1 := lb_le_of Lb Lc fun m h => wb_le ob.fit oc.fit (sh_join rle_of_rh2 K.ab K.ac) h (Int.le_refl m)
    have lic : li 6 c = li 6 a := (sh_li K.ac).symm
    rw [lic] at rc
    obtain ⟨l0, L1⟩ := li_small fa na
    have wle : wb 6 (cl 6 a) (li 6 a) ≤ wb 6 (cl 6 c) (li 6 a) := wb_le (fit_cl 6 a fa) (fit_cl 6 c oc.fit) (sh_cl (fun a b c d h => ⟨by have := h.1.1; omega, h.2.1⟩) K.ac) (by omega) (Int.le_refl _)
    rw [← ew] at ra wle
    have g1 : (0 : Int) < (g : Int) := by omega
    have gl' : (g : Int) ∣ (li 6 a : Int) := Int.natCast_dvd_natCast.mpr gl
    have cross := div_cross g1 gl' gw
    have L0 : (0 : Int) ≤ (li 6 a : Int) := by omega
    generalize wb 6 (cl 6 c) (li 6 a) = wc at *
    generalize ((li 6 a : Nat) : Int) = L at *
    generalize (g : Int) = gi at *
    have k1 : mulOk (wv / gi) L = true := mulOk_right L0 L1
    have k2 : mulOk (L / gi) wv = true := by
      have h1 : 0 ≤ L / gi := Int.ediv_nonneg L0 (by omega)
      have h2 : L / gi ≤ L := Int.ediv_le_self _ L0
      exact mulOk_left h1 (by omega)
    generalize wv / gi = qx at *
    generalize L / gi = qy at *
    generalize hp : qx * L = pp at *
    have hp2 : qy * wv = pp := cross.symm
    have wn : ¬ wc < wv := by omega
    have va2 : ¬ va < vb := by omega
    have vb2 : ¬ vb < vc := by omega
    refine ends_ff0 (by (conv => lhs; simp [exs, ex, ev, evs, evo, eva, evi, evc, Tg.put, leaf?, bl?, int?, node?, tpl?, lsts?, T.isLeaf, T.frz, T.frzs, argOk, ioSlots, ioTs, ioPut, ME.mut, MEs.mut, MO.mut, ME.path, bfn, binop, cmpop, T.lst?, T.leaves, cc_run, cc_io, wipe, Option.bind_eq_bind, Option.bind_some, Option.map_some, Option.pure_def, List.getD_cons_zero, List.getD_cons_succ, List.set_cons_zero, List.set_cons_succ, List.map_cons, List.map_nil, List.mapM_cons, List.mapM_nil, List.length_cons, List.length_nil, List.cons_append, List.nil_append, Bool.or_false, Bool.false_or, Bool.or_true, Bool.true_or, Bool.and_true, Bool.true_and, Bool.and_false, Bool.false_and, Bool.not_true, Bool.not_false, Bool.false_eq_true, if_true, if_false, reduceIte, List.replicate_succ, List.replicate_zero, List.zip_cons_cons, List.zip_nil_right, List.foldlM_cons, List.foldlM_nil, List.nodup_nil, io_round_of, ra, rc, index, atI, ixN, D.plain, D.depth, eqb_int, wn, wle]) <;> rfl) ?_
    refine ends_nx (by (conv => lhs; simp [exs, ex, ev, evs, evo, eva, evi, evc, Tg.put, leaf?, bl?, int?, node?, tpl?, lsts?, T.isLeaf, T.frz, T.frzs, argOk, ioSlots, ioTs, ioPut, ME.mut, MEs.mut, MO.mut, ME.path, bfn, binop, cmpop, T.lst?, T.leaves, cc_run, cc_io, wipe, Option.bind_eq_bind, Option.bind_some, Option.map_some, Option.pure_def, List.getD_cons_zero, List.getD_cons_succ, List.set_cons_zero, List.set_cons_succ, List.map_cons, List.map_nil, List.mapM_cons, List.mapM_nil, List.length_cons, List.length_nil, List.cons_append, List.nil_append, Bool.or_false, Bool.false_or, Bool.or_true, Bool.true_or, Bool.and_true, Bool.true_and, Bool.and_false, Bool.false_and, Bool.not_true, Bool.not_false, Bool.false_eq_true, if_true, if_false, reduceIte, List.replicate_succ, List.replicate_zero, List.zip_cons_cons, List.zip_nil_right, List.foldlM_cons, List.foldlM_nil, List.nodup_nil, io_mean, me]) <;> rfl) ?_
    refine ends_ff0 (k16_cond ra k1 k2 hp hp2) ?_
    refine ends_ff0 (by (conv => lhs; simp [exs, ex, ev, evs, evo, eva, evi, evc, Tg.put, leaf?, bl?, int?, node?, tpl?, lsts?, T.isLeaf, T.frz, T.frzs, argOk, ioSlots, ioTs, ioPut, ME.mut, MEs.mut, MO.mut, ME.path, bfn, binop, cmpop, T.lst?, T.leaves, cc_run, cc_io, wipe, Option.bind_eq_bind, Option.bind_some, Option.map_some, Option.pure_def, List.getD_cons_zero, List.getD_cons_succ, List.set_cons_zero, List.set_cons_succ, List.map_cons, List.map_nil, List.mapM_cons, List.mapM_nil, List.length_cons, List.length_nil, List.cons_append, List.nil_append, Bool.or_false, Bool.false_or, Bool.or_true, Bool.true_or, Bool.and_true, Bool.true_and, Bool.and_false, Bool.false_and, Bool.not_true, Bool.not_false, Bool.false_eq_true, if_true, if_false, reduceIte, List.replicate_succ, List.replicate_zero, List.zip_cons_cons, List.zip_nil_right, List.foldlM_cons, List.foldlM_nil, List.nodup_nil, io_left, lea, leb, lec, va1, vb1, va2, vb2]) <;> rfl) ?_
    exact ends_nil ⟨t', _, _, _, _, _, _, _, _, _, d', rfl⟩
end
end PD

/-! The law k16: the whole. -/
namespace PD
open PySem
theorem k16_law {W : Nat} (hW : 1000000000000000000000 < W) (ns : List Int) (h : ns.length ≤ 63) : ∃ outs, callD T0 W 64 f_law_k16 [.leaf (.scr ns)] = some (.leaf (.bl true), outs) := by
  refine ⟨[], call_ends (by omega) (show T0 f_law_k16 = some b_law_k16 from rfl) rfl rfl ?_⟩
  obtain ⟨t, e1, d1⟩ := mix_run (W := W) (n := 63) (ns := ns) (s := 59) (by omega) h
  refine ends_nx (by (conv => lhs; simp [exs, ex, ev, evs, evo, eva, evi, evc, Tg.put, leaf?, bl?, int?, node?, tpl?, lsts?, T.isLeaf, T.frz, T.frzs, argOk, ioSlots, ioTs, ioPut, ME.mut, MEs.mut, MO.mut, ME.path, bfn, binop, cmpop, T.lst?, T.leaves, cc_run, cc_io, wipe, Option.bind_eq_bind, Option.bind_some, Option.map_some, Option.pure_def, List.getD_cons_zero, List.getD_cons_succ, List.set_cons_zero, List.set_cons_succ, List.map_cons, List.map_nil, List.mapM_cons, List.mapM_nil, List.length_cons, List.length_nil, List.cons_append, List.nil_append, Bool.or_false, Bool.false_or, Bool.or_true, Bool.true_or, Bool.and_true, Bool.true_and, Bool.and_false, Bool.false_and, Bool.not_true, Bool.not_false, Bool.false_eq_true, if_true, if_false, reduceIte, List.replicate_succ, List.replicate_zero, List.zip_cons_cons, List.zip_nil_right, List.foldlM_cons, List.foldlM_nil, List.nodup_nil, io_law_mix, e1]) <;> rfl) ?_
  refine ends_for (fun it r => ∃ (t' : T) (y2 y3 y4 y5 y6 y7 y8 y9 y10 y11 : Option T), Dw t' ∧ r = [some (.leaf (.scr ns)), some t', y2, y3, y4, y5, y6, y7, y8, y9, y10, y11, none, none]) (by (conv => lhs; simp [exs, ex, ev, evs, evo, eva, evi, evc, Tg.put, leaf?, bl?, int?, node?, tpl?, lsts?, T.isLeaf, T.frz, T.frzs, argOk, ioSlots, ioTs, ioPut, ME.mut, MEs.mut, MO.mut, ME.path, bfn, binop, cmpop, T.lst?, T.leaves, cc_run, cc_io, wipe, Option.bind_eq_bind, Option.bind_some, Option.map_some, Option.pure_def, List.getD_cons_zero, List.getD_cons_succ, List.set_cons_zero, List.set_cons_succ, List.map_cons, List.map_nil, List.mapM_cons, List.mapM_nil, List.length_cons, List.length_nil, List.cons_append, List.nil_append, Bool.or_false, Bool.false_or, Bool.or_true, Bool.true_or, Bool.and_true, Bool.true_and, Bool.and_false, Bool.false_and, Bool.not_true, Bool.not_false, Bool.false_eq_true, if_true, if_false, reduceIte, List.replicate_succ, List.replicate_zero, List.zip_cons_cons, List.zip_nil_right, List.foldlM_cons, List.foldlM_nil, List.nodup_nil, rngOk]) <;> rfl) ⟨t, _, _, _, _, _, _, _, _, _, _, d1, rfl⟩ ?_ ?_
  · rintro d its r ⟨t', y2, y3, y4, y5, y6, y7, y8, y9, y10, y11, d', rfl⟩
    refine ⟨_, (by (conv => lhs; simp [exs, ex, ev, evs, evo, eva, evi, evc, Tg.put, leaf?, bl?, int?, node?, tpl?, lsts?, T.isLeaf, T.frz, T.frzs, argOk, ioSlots, ioTs, ioPut, ME.mut, MEs.mut, MO.mut, ME.path, bfn, binop, cmpop, T.lst?, T.leaves, cc_run, cc_io, wipe, Option.bind_eq_bind, Option.bind_some, Option.map_some, Option.pure_def, List.getD_cons_zero, List.getD_cons_succ, List.set_cons_zero, List.set_cons_succ, List.map_cons, List.map_nil, List.mapM_cons, List.mapM_nil, List.length_cons, List.length_nil, List.cons_append, List.nil_append, Bool.or_false, Bool.false_or, Bool.or_true, Bool.true_or, Bool.and_true, Bool.true_and, Bool.and_false, Bool.false_and, Bool.not_true, Bool.not_false, Bool.false_eq_true, if_true, if_false, reduceIte, List.replicate_succ, List.replicate_zero, List.zip_cons_cons, List.zip_nil_right, List.foldlM_cons, List.foldlM_nil, List.nodup_nil]) <;> rfl), ?_⟩
    refine (k16_turn_run (Q := Rx (.leaf (.bl true))) (n := 63) (by omega) hW d').mono fun fl h => ?_
    cases fl with
    | nx r => obtain ⟨t'', y3, y4, y5, y6, y7, y8, y9, y10, y11, d'', e⟩ := h; exact ⟨t'', _, y3, y4, y5, y6, y7, y8, y9, y10, y11, d'', e⟩
    | rt t r => exact h
  · rintro r ⟨t', y2, y3, y4, y5, y6, y7, y8, y9, y10, y11, d', rfl⟩
    exact ends_rt (by (conv => lhs; simp [exs, ex, ev, evs, evo, eva, evi, evc, Tg.put, leaf?, bl?, int?, node?, tpl?, lsts?, T.isLeaf, T.frz, T.frzs, argOk, ioSlots, ioTs, ioPut, ME.mut, MEs.mut, MO.mut, ME.path, bfn, binop, cmpop, T.lst?, T.leaves, cc_run, cc_io, wipe, Option.bind_eq_bind, Option.bind_some, Option.map_some, Option.pure_def, List.getD_cons_zero, List.getD_cons_succ, List.set_cons_zero, List.set_cons_succ, List.map_cons, List.map_nil, List.mapM_cons, List.mapM_nil, List.length_cons, List.length_nil, List.cons_append, List.nil_append, Bool.or_false, Bool.false_or, Bool.or_true, Bool.true_or, Bool.and_true, Bool.true_and, Bool.and_false, Bool.false_and, Bool.not_true, Bool.not_false, Bool.false_eq_true, if_true, if_false, reduceIte, List.replicate_succ, List.replicate_zero, List.zip_cons_cons, List.zip_nil_right, List.foldlM_cons, List.foldlM_nil, List.nodup_nil]) <;> rfl) rfl
end PD

namespace PD.Z16
open PySem PySem.W PyProof.Rows L2 PD
def top (i : Nat) : Stmt := PySem.Challenge.pw_pushdoors_k16_whole_needs_dont_turn_ways.main.body.getD i (.Pass ⟨0, 0, 0, 0⟩)
abbrev s_is_out : Stmt := top 11
abbrev s_is_name : Stmt := top 12
abbrev s_is_door : Stmt := top 13
abbrev s_is_room : Stmt := top 14
abbrev s_need_room : Stmt := top 15
abbrev s_all_paths : Stmt := top 16
abbrev s_need_house : Stmt := top 17
abbrev s_left_by : Stmt := top 19
abbrev s_pushes_by : Stmt := top 20
abbrev s_walkers_by : Stmt := top 21
abbrev s_leavings_by : Stmt := top 22
abbrev s_path_of : Stmt := top 23
abbrev s_names_by : Stmt := top 24
abbrev s_names_in : Stmt := top 25
abbrev s_need_far : Stmt := top 29
abbrev s_left : Stmt := top 30
abbrev s_leaving : Stmt := top 31
abbrev s_named : Stmt := top 32
abbrev s_clean : Stmt := top 34
abbrev s_greatest_both : Stmt := top 35
abbrev s_least_both : Stmt := top 36
abbrev s_leavings_in : Stmt := top 37
abbrev s_round_of : Stmt := top 38
abbrev s_mean : Stmt := top 39
abbrev s_law_mix : Stmt := top 41
abbrev s_law_next : Stmt := top 42
abbrev s_law_door : Stmt := top 43
abbrev s_law_room : Stmt := top 44
abbrev s_law_house : Stmt := top 45
abbrev s_law_harder : Stmt := top 46
abbrev s_law_one_more : Stmt := top 47
abbrev s_law_small : Stmt := top 48
abbrev s_law_openings : Stmt := top 49
abbrev s_law : Stmt := top 50
structure Txt (K : PySem.W.Frag) (mg : Str → Option Value) where
  a_is_out : Addr
  d_is_out : FuncData
  F_is_out : Fun K "is_out" "is_out" s_is_out a_is_out d_is_out
  B_is_out : Binds K d_is_out ["room"] []
  m_is_out : mg "is_out" = some (.ref a_is_out)
  a_is_name : Addr
  d_is_name : FuncData
  F_is_name : Fun K "is_name" "is_name" s_is_name a_is_name d_is_name
  B_is_name : Binds K d_is_name ["word"] []
  m_is_name : mg "is_name" = some (.ref a_is_name)
  a_is_door : Addr
  d_is_door : FuncData
  F_is_door : Fun K "is_door" "is_door" s_is_door a_is_door d_is_door
  B_is_door : Binds K d_is_door ["door"] []
  m_is_door : mg "is_door" = some (.ref a_is_door)
  a_is_room : Addr
  d_is_room : FuncData
  F_is_room : Fun K "is_room" "is_room" s_is_room a_is_room d_is_room
  B_is_room : Binds K d_is_room ["room"] []
  m_is_room : mg "is_room" = some (.ref a_is_room)
  a_need_room : Addr
  d_need_room : FuncData
  F_need_room : Fun K "need_room" "need_room" s_need_room a_need_room d_need_room
  B_need_room : Binds K d_need_room ["room", "path"] []
  m_need_room : mg "need_room" = some (.ref a_need_room)
  a_all_paths : Addr
  d_all_paths : FuncData
  e_all_paths : Addr
  F_all_paths : FunD K "all_paths" "all_paths" (defArgs s_all_paths) (defBody s_all_paths) (defScope s_all_paths) [.ref e_all_paths] [] a_all_paths d_all_paths
  D_all_paths : ∃ du, Binds K d_all_paths ["room", "path"] [du] ∧ RelV (.ref e_all_paths) du
  V_all_paths : ∀ H W, RI K H W (.ref e_all_paths) (.tup [])
  B_all_paths : Binds K d_all_paths ["room", "path"] []
  m_all_paths : mg "all_paths" = some (.ref a_all_paths)
  a_need_house : Addr
  d_need_house : FuncData
  F_need_house : Fun K "need_house" "need_house" s_need_house a_need_house d_need_house
  B_need_house : Binds K d_need_house ["house"] []
  m_need_house : mg "need_house" = some (.ref a_need_house)
  a_left_by : Addr
  d_left_by : FuncData
  F_left_by : Fun K "left_by" "left_by" s_left_by a_left_by d_left_by
  B_left_by : Binds K d_left_by ["room", "door", "leavings"] []
  m_left_by : mg "left_by" = some (.ref a_left_by)
  a_pushes_by : Addr
  d_pushes_by : FuncData
  F_pushes_by : Fun K "pushes_by" "pushes_by" s_pushes_by a_pushes_by d_pushes_by
  B_pushes_by : Binds K d_pushes_by ["door", "openings"] []
  m_pushes_by : mg "pushes_by" = some (.ref a_pushes_by)
  a_walkers_by : Addr
  d_walkers_by : FuncData
  F_walkers_by : Fun K "walkers_by" "walkers_by" s_walkers_by a_walkers_by d_walkers_by
  B_walkers_by : Binds K d_walkers_by ["room", "leavings"] []
  m_walkers_by : mg "walkers_by" = some (.ref a_walkers_by)
  a_leavings_by : Addr
  d_leavings_by : FuncData
  F_leavings_by : Fun K "leavings_by" "leavings_by" s_leavings_by a_leavings_by d_leavings_by
  B_leavings_by : Binds K d_leavings_by ["room", "walkers"] []
  m_leavings_by : mg "leavings_by" = some (.ref a_leavings_by)
  a_path_of : Addr
  d_path_of : FuncData
  F_path_of : Fun K "path_of" "path_of" s_path_of a_path_of d_path_of
  B_path_of : Binds K d_path_of ["room", "leaving"] []
  m_path_of : mg "path_of" = some (.ref a_path_of)
  a_names_by : Addr
  d_names_by : FuncData
  F_names_by : Fun K "names_by" "names_by" s_names_by a_names_by d_names_by
  B_names_by : Binds K d_names_by ["room", "name", "leavings"] []
  m_names_by : mg "names_by" = some (.ref a_names_by)
  a_names_in : Addr
  d_names_in : FuncData
  F_names_in : Fun K "names_in" "names_in" s_names_in a_names_in d_names_in
  B_names_in : Binds K d_names_in ["room"] []
  m_names_in : mg "names_in" = some (.ref a_names_in)
  a_need_far : Addr
  d_need_far : FuncData
  F_need_far : Fun K "need_far" "need_far" s_need_far a_need_far d_need_far
  B_need_far : Binds K d_need_far ["number", "least", "most"] []
  m_need_far : mg "need_far" = some (.ref a_need_far)
  a_left : Addr
  d_left : FuncData
  F_left : Fun K "left" "left" s_left a_left d_left
  B_left : Binds K d_left ["house", "many"] []
  m_left : mg "left" = some (.ref a_left)
  a_leaving : Addr
  d_leaving : FuncData
  F_leaving : Fun K "leaving" "leaving" s_leaving a_leaving d_leaving
  B_leaving : Binds K d_leaving ["house", "number"] []
  m_leaving : mg "leaving" = some (.ref a_leaving)
  a_named : Addr
  d_named : FuncData
  F_named : Fun K "named" "named" s_named a_named d_named
  B_named : Binds K d_named ["house", "name", "number"] []
  m_named : mg "named" = some (.ref a_named)
  a_clean : Addr
  d_clean : FuncData
  F_clean : Fun K "clean" "clean" s_clean a_clean d_clean
  B_clean : Binds K d_clean ["room"] []
  m_clean : mg "clean" = some (.ref a_clean)
  a_greatest_both : Addr
  d_greatest_both : FuncData
  F_greatest_both : Fun K "greatest_both" "greatest_both" s_greatest_both a_greatest_both d_greatest_both
  B_greatest_both : Binds K d_greatest_both ["one", "other"] []
  m_greatest_both : mg "greatest_both" = some (.ref a_greatest_both)
  a_least_both : Addr
  d_least_both : FuncData
  F_least_both : Fun K "least_both" "least_both" s_least_both a_least_both d_least_both
  B_least_both : Binds K d_least_both ["one", "other"] []
  m_least_both : mg "least_both" = some (.ref a_least_both)
  a_leavings_in : Addr
  d_leavings_in : FuncData
  F_leavings_in : Fun K "leavings_in" "leavings_in" s_leavings_in a_leavings_in d_leavings_in
  B_leavings_in : Binds K d_leavings_in ["room"] []
  m_leavings_in : mg "leavings_in" = some (.ref a_leavings_in)
  a_round_of : Addr
  d_round_of : FuncData
  F_round_of : Fun K "round_of" "round_of" s_round_of a_round_of d_round_of
  B_round_of : Binds K d_round_of ["house"] []
  m_round_of : mg "round_of" = some (.ref a_round_of)
  a_mean : Addr
  d_mean : FuncData
  F_mean : Fun K "mean" "mean" s_mean a_mean d_mean
  B_mean : Binds K d_mean ["house"] []
  m_mean : mg "mean" = some (.ref a_mean)
  a_law_mix : Addr
  d_law_mix : FuncData
  F_law_mix : Fun K "_law_mix" "_law_mix" s_law_mix a_law_mix d_law_mix
  B_law_mix : Binds K d_law_mix ["_law_script", "_law_seed"] []
  m_law_mix : mg "_law_mix" = some (.ref a_law_mix)
  a_law_next : Addr
  d_law_next : FuncData
  F_law_next : Fun K "_law_next" "_law_next" s_law_next a_law_next d_law_next
  B_law_next : Binds K d_law_next ["_law_h", "_law_many"] []
  m_law_next : mg "_law_next" = some (.ref a_law_next)
  a_law_door : Addr
  d_law_door : FuncData
  F_law_door : Fun K "_law_door" "_law_door" s_law_door a_law_door d_law_door
  B_law_door : Binds K d_law_door ["_law_h", "_law_few"] []
  m_law_door : mg "_law_door" = some (.ref a_law_door)
  a_law_room : Addr
  d_law_room : FuncData
  F_law_room : Fun K "_law_room" "_law_room" s_law_room a_law_room d_law_room
  B_law_room : Binds K d_law_room ["_law_h", "_law_spare", "_law_deep", "_law_few"] []
  m_law_room : mg "_law_room" = some (.ref a_law_room)
  a_law_house : Addr
  d_law_house : FuncData
  F_law_house : Fun K "_law_house" "_law_house" s_law_house a_law_house d_law_house
  B_law_house : Binds K d_law_house ["_law_h", "_law_few"] []
  m_law_house : mg "_law_house" = some (.ref a_law_house)
  a_law_harder : Addr
  d_law_harder : FuncData
  F_law_harder : Fun K "_law_harder" "_law_harder" s_law_harder a_law_harder d_law_harder
  B_law_harder : Binds K d_law_harder ["_law_h", "_law_room_here", "_law_most"] []
  m_law_harder : mg "_law_harder" = some (.ref a_law_harder)
  a_law_one_more : Addr
  d_law_one_more : FuncData
  F_law_one_more : Fun K "_law_one_more" "_law_one_more" s_law_one_more a_law_one_more d_law_one_more
  B_law_one_more : Binds K d_law_one_more ["_law_room_here"] []
  m_law_one_more : mg "_law_one_more" = some (.ref a_law_one_more)
  a_law_small : Addr
  d_law_small : FuncData
  F_law_small : Fun K "_law_small" "_law_small" s_law_small a_law_small d_law_small
  B_law_small : Binds K d_law_small ["_law_room_here"] []
  m_law_small : mg "_law_small" = some (.ref a_law_small)
  a_law_openings : Addr
  d_law_openings : FuncData
  F_law_openings : Fun K "_law_openings" "_law_openings" s_law_openings a_law_openings d_law_openings
  B_law_openings : Binds K d_law_openings ["_law_room_here", "_law_leavings"] []
  m_law_openings : mg "_law_openings" = some (.ref a_law_openings)
  a_law : Addr
  d_law : FuncData
  F_law : Fun K "law" "law" s_law a_law d_law
  B_law : Binds K d_law ["_law_script"] []
  m_law : mg "law" = some (.ref a_law)
  z_all : mg "all" = none
  z_enumerate : mg "enumerate" = none
  z_isinstance : mg "isinstance" = none
  z_len : mg "len" = none
  z_list : mg "list" = none
  z_max : mg "max" = none
  z_min : mg "min" = none
  z_range : mg "range" = none
  z_str : mg "str" = none
  z_sum : mg "sum" = none
  z_tuple : mg "tuple" = none
  c_LETTERS : ∃ u, mg "LETTERS" = some u ∧ RelV (.str (Str.ofString "abcdefghijklmnopqrstuvwxyz")) u
  c_MOST_DOORS : ∃ u, mg "MOST_DOORS" = some u ∧ RelV (.int 4) u
  c_MOST_FAR : ∃ u, mg "MOST_FAR" = some u ∧ RelV (.int 1000000000000000000) u
  c_MOST_IN_ALL : ∃ u, mg "MOST_IN_ALL" = some u ∧ RelV (.int 12) u
  c_MOST_LEAVINGS : ∃ u, mg "MOST_LEAVINGS" = some u ∧ RelV (.int 1000000000000000) u
  c_MOST_LETTERS : ∃ u, mg "MOST_LETTERS" = some u ∧ RelV (.int 6) u
  c_MOST_NEED : ∃ u, mg "MOST_NEED" = some u ∧ RelV (.int 99) u
variable {P : Program} {w : World} {K : PySem.W.Frag} {mg : Str → Option Value} {base : Heap} {d : Nat}
structure Oks (P : Program) (w : World) (K : PySem.W.Frag) (mg : Str → Option Value) (base : Heap) (t : Txt K mg) (d : Nat) : Prop where
  o_is_out : FnOk P w K mg base CX0 d t.a_is_out t.d_is_out ["room"] (spD K (CC T0 WW d) f_is_out)
  o_is_name : FnOk P w K mg base CX0 d t.a_is_name t.d_is_name ["word"] (spD K (CC T0 WW d) f_is_name)
  o_is_door : FnOk P w K mg base CX0 d t.a_is_door t.d_is_door ["door"] (spD K (CC T0 WW d) f_is_door)
  o_is_room : FnOk P w K mg base CX0 d t.a_is_room t.d_is_room ["room"] (spD K (CC T0 WW d) f_is_room)
  o_need_room : FnOk P w K mg base CX0 d t.a_need_room t.d_need_room ["room", "path"] (spD K (CC T0 WW d) f_need_room)
  o_all_paths : FnOk P w K mg base CX0 d t.a_all_paths t.d_all_paths ["room", "path"] (spD K (CC T0 WW d) f_all_paths)
  o_need_house : FnOk P w K mg base CX0 d t.a_need_house t.d_need_house ["house"] (spD K (CC T0 WW d) f_need_house)
  o_left_by : FnOk P w K mg base CX0 d t.a_left_by t.d_left_by ["room", "door", "leavings"] (spD K (CC T0 WW d) f_left_by)
  o_pushes_by : FnOk P w K mg base CX0 d t.a_pushes_by t.d_pushes_by ["door", "openings"] (spD K (CC T0 WW d) f_pushes_by)
  o_walkers_by : FnOk P w K mg base CX0 d t.a_walkers_by t.d_walkers_by ["room", "leavings"] (spD K (CC T0 WW d) f_walkers_by)
  o_leavings_by : FnOk P w K mg base CX0 d t.a_leavings_by t.d_leavings_by ["room", "walkers"] (spD K (CC T0 WW d) f_leavings_by)
  o_path_of : FnOk P w K mg base CX0 d t.a_path_of t.d_path_of ["room", "leaving"] (spD K (CC T0 WW d) f_path_of)
  o_names_by : FnOk P w K mg base CX0 d t.a_names_by t.d_names_by ["room", "name", "leavings"] (spD K (CC T0 WW d) f_names_by)
  o_names_in : FnOk P w K mg base CX0 d t.a_names_in t.d_names_in ["room"] (spD K (CC T0 WW d) f_names_in)
  o_need_far : FnOk P w K mg base CX0 d t.a_need_far t.d_need_far ["number", "least", "most"] (spD K (CC T0 WW d) f_need_far)
  o_left : FnOk P w K mg base CX0 d t.a_left t.d_left ["house", "many"] (spD K (CC T0 WW d) f_left)
  o_leaving : FnOk P w K mg base CX0 d t.a_leaving t.d_leaving ["house", "number"] (spD K (CC T0 WW d) f_leaving)
  o_named : FnOk P w K mg base CX0 d t.a_named t.d_named ["house", "name", "number"] (spD K (CC T0 WW d) f_named)
  o_clean : FnOk P w K mg base CX0 d t.a_clean t.d_clean ["room"] (spD K (CC T0 WW d) f_clean)
  o_greatest_both : FnOk P w K mg base CX0 d t.a_greatest_both t.d_greatest_both ["one", "other"] (spD K (CC T0 WW d) f_greatest_both)
  o_least_both : FnOk P w K mg base CX0 d t.a_least_both t.d_least_both ["one", "other"] (spD K (CC T0 WW d) f_least_both)
  o_leavings_in : FnOk P w K mg base CX0 d t.a_leavings_in t.d_leavings_in ["room"] (spD K (CC T0 WW d) f_leavings_in)
  o_round_of : FnOk P w K mg base CX0 d t.a_round_of t.d_round_of ["house"] (spD K (CC T0 WW d) f_round_of)
  o_mean : FnOk P w K mg base CX0 d t.a_mean t.d_mean ["house"] (spD K (CC T0 WW d) f_mean)
  o_law_mix : FnOk P w K mg base CX0 d t.a_law_mix t.d_law_mix ["_law_script", "_law_seed"] (spD K (CC T0 WW d) f_law_mix)
  o_law_next : FnOk P w K mg base CX0 d t.a_law_next t.d_law_next ["_law_h", "_law_many"] (spD K (CC T0 WW d) f_law_next)
  o_law_door : FnOk P w K mg base CX0 d t.a_law_door t.d_law_door ["_law_h", "_law_few"] (spD K (CC T0 WW d) f_law_door)
  o_law_room : FnOk P w K mg base CX0 d t.a_law_room t.d_law_room ["_law_h", "_law_spare", "_law_deep", "_law_few"] (spD K (CC T0 WW d) f_law_room)
  o_law_house : FnOk P w K mg base CX0 d t.a_law_house t.d_law_house ["_law_h", "_law_few"] (spD K (CC T0 WW d) f_law_house)
  o_law_harder : FnOk P w K mg base CX0 d t.a_law_harder t.d_law_harder ["_law_h", "_law_room_here", "_law_most"] (spD K (CC T0 WW d) f_law_harder)
  o_law_one_more : FnOk P w K mg base CX0 d t.a_law_one_more t.d_law_one_more ["_law_room_here"] (spD K (CC T0 WW d) f_law_one_more)
  o_law_small : FnOk P w K mg base CX0 d t.a_law_small t.d_law_small ["_law_room_here"] (spD K (CC T0 WW d) f_law_small)
  o_law_openings : FnOk P w K mg base CX0 d t.a_law_openings t.d_law_openings ["_law_room_here", "_law_leavings"] (spD K (CC T0 WW d) f_law_openings)
  o_law : FnOk P w K mg base CX0 d t.a_law t.d_law ["_law_script"] (spD K (CC T0 WW d) f_law_k16)
theorem sc_is_out : FnScope ["room"] ["room"] (defScope s_is_out) := ⟨rfl, rfl, rfl, by decide +kernel, rfl, by decide +kernel, by decide +kernel⟩
theorem ok_is_out (t : Txt K mg) (o : Oks P w K mg base t d) : FnOk P w K mg base CX0 (d + 1) t.a_is_out t.d_is_out ["room"] (spD K (CC T0 WW (d + 1)) f_is_out) := by
  have sc := sc_is_out
  refine ok_code (b := [false]) (k := 1) t.F_is_out sc (show T0 f_is_out = some b_is_out from rfl) rfl rfl fun cdv A outer s H E H0 IO Z0 iov ioP hr => ?_
  exact ss_one (s_ret (d_isa rfl isa_str (d_varO (pv 0)) (pe_bltn (v := .ty "str") (by rfl) t.z_str (by decide +kernel) rfl) rfl t.z_isinstance))
theorem sc_is_name : FnScope ["word", "sign"] ["word"] (defScope s_is_name) := ⟨rfl, rfl, rfl, by decide +kernel, rfl, by decide +kernel, by decide +kernel⟩
theorem ok_is_name (t : Txt K mg) (o : Oks P w K mg base t d) : FnOk P w K mg base CX0 (d + 1) t.a_is_name t.d_is_name ["word"] (spD K (CC T0 WW (d + 1)) f_is_name) := by
  have sc := sc_is_name
  refine ok_code (b := [false]) (k := 2) t.F_is_name sc (show T0 f_is_name = some b_is_name from rfl) rfl rfl fun cdv A outer s H E H0 IO Z0 iov ioP hr => ?_
  exact ss_one (s_ret (d_and (d_chn op_le op_le rfl rfl (d_int) (d_bi call_len ok_len rfl t.z_len PySem.boot_len (d_ocons (d_varO (pv 0)) (d_onil))) (d_gint (pe_con t.c_MOST_LETTERS)) (by rfl)) (d_one (d_bi (cr_all rfl) ok_all rfl t.z_all boot_all (d_ocons (d_op (d_comp rfl sc.nd (blkOk_by (own := [("sign", 1)]) (by rfl)) (d_itS (d_var (pv 0))) (fun _ _ _ _ _ => g_nm (pg_name (i := 1) sc.nd rfl (by first | exact Or.inl rfl | exact Or.inr rfl))) (fun _ _ _ _ _ => c_no) (fun _ _ _ _ _ => d_cmp op_innA ok_inn (d_varO (pv 1)) (d_op (d_gstr (pe_con t.c_LETTERS))) (by with_unfolding_all rfl)))) (d_onil))))))
theorem sc_is_door : FnScope ["door"] ["door"] (defScope s_is_door) := ⟨rfl, rfl, rfl, by decide +kernel, rfl, by decide +kernel, by decide +kernel⟩
theorem ok_is_door (t : Txt K mg) (o : Oks P w K mg base t d) : FnOk P w K mg base CX0 (d + 1) t.a_is_door t.d_is_door ["door"] (spD K (CC T0 WW (d + 1)) f_is_door) := by
  have sc := sc_is_door
  refine ok_code (b := [false]) (k := 1) t.F_is_door sc (show T0 f_is_door = some b_is_door from rfl) rfl rfl fun cdv A outer s H E H0 IO Z0 iov ioP hr => ?_
  exact ss_one (s_ret (d_and (d_cmp (op_eqD hr.units) ok_eq (d_op (d_bi call_len ok_len rfl t.z_len PySem.boot_len (d_ocons (d_varO (pv 0)) (d_onil)))) (d_op (d_int)) (nomark _)) (d_and (d_chn op_le op_le rfl rfl (d_int) (d_idx (d_varO (pv 0)) (d_int)) (d_gint (pe_con t.c_MOST_NEED)) (by rfl)) (d_one (d_chn op_le op_le rfl rfl (d_int) (d_idx (d_varO (pv 0)) (d_int)) (d_idx (d_varO (pv 0)) (d_int)) (by rfl))))))
theorem sc_is_room : FnScope ["room", "door"] ["room"] (defScope s_is_room) := ⟨rfl, rfl, rfl, by decide +kernel, rfl, by decide +kernel, by decide +kernel⟩
theorem ok_is_room (t : Txt K mg) (o : Oks P w K mg base t d) : FnOk P w K mg base CX0 (d + 1) t.a_is_room t.d_is_room ["room"] (spD K (CC T0 WW (d + 1)) f_is_room) := by
  have sc := sc_is_room
  refine ok_code (b := [false]) (k := 2) t.F_is_room sc (show T0 f_is_room = some b_is_room from rfl) rfl rfl fun cdv A outer s H E H0 IO Z0 iov ioP hr => ?_
  exact ss_cons (s_ife (t_val (d_call o.o_is_out hr rfl t.m_is_out t.F_is_out.kp t.B_is_out (a_val (d_var (pv 0)) (a_nil)))) (ss_one (s_ret (d_call o.o_is_name hr rfl t.m_is_name t.F_is_name.kp t.B_is_name (a_val (d_var (pv 0)) (a_nil))))) (ss_nil)) (ss_cons (s_ife (t_w (w_or (t_cmp (op_neD hr.units) ok_ne (d_op (d_bi call_len ok_len rfl t.z_len PySem.boot_len (d_ocons (d_varO (pv 0)) (d_onil)))) (d_op (d_int)) (nomark _)) (w_or (t_not (t_chn op_le op_le rfl rfl (d_int) (d_bi call_len ok_len rfl t.z_len PySem.boot_len (d_ocons (d_idxO (d_varO (pv 0)) (d_int)) (d_onil))) (d_gint (pe_con t.c_MOST_DOORS)) (by rfl))) (w_or1 (t_not (t_chn op_le op_lt rfl rfl (d_int) (d_idx (d_varO (pv 0)) (d_int)) (d_bi call_len ok_len rfl t.z_len PySem.boot_len (d_ocons (d_idxO (d_varO (pv 0)) (d_int)) (d_onil))) (by rfl))))))) (ss_one (s_ret (d_bl))) (ss_nil)) (ss_one (s_ret (d_bi (cr_all rfl) ok_all rfl t.z_all boot_all (d_ocons (d_op (d_comp rfl sc.nd (blkOk_by (own := [("door", 1)]) (by rfl)) (d_itT (d_idx (d_varO (pv 0)) (d_int))) (fun _ _ _ _ _ => g_nm (pg_name (i := 1) sc.nd rfl (by first | exact Or.inl rfl | exact Or.inr rfl))) (fun _ _ _ _ _ => c_no) (fun _ _ _ _ _ => d_call o.o_is_door hr rfl t.m_is_door t.F_is_door.kp t.B_is_door (a_val (d_var (pv 1)) (a_nil))))) (d_onil))))))
theorem sc_need_room : FnScope ["room", "path", "number", "door"] ["room", "path"] (defScope s_need_room) := ⟨rfl, rfl, rfl, by decide +kernel, rfl, by decide +kernel, by decide +kernel⟩
theorem ok_need_room (t : Txt K mg) (o : Oks P w K mg base t d) : FnOk P w K mg base CX0 (d + 1) t.a_need_room t.d_need_room ["room", "path"] (spD K (CC T0 WW (d + 1)) f_need_room) := by
  have sc := sc_need_room
  refine ok_code (b := [false, false]) (k := 4) t.F_need_room sc (show T0 f_need_room = some b_need_room from rfl) rfl rfl fun cdv A outer s H E H0 IO Z0 iov ioP hr => ?_
  exact ss_cons (s_ife (t_not (t_val (d_call o.o_is_room hr rfl t.m_is_room t.F_is_room.kp t.B_is_room (a_val (d_var (pv 0)) (a_nil))))) (ss_one (s_stuck)) (ss_nil)) (ss_one (s_ife (t_not (t_val (d_call o.o_is_out hr rfl t.m_is_out t.F_is_out.kp t.B_is_out (a_val (d_var (pv 0)) (a_nil))))) (ss_one (s_for PassesOwn.never rfl (d_enT (d_idx (d_varO (pv 0)) (d_int)) rfl t.z_enumerate) (g_tp rfl (gs_cons (g_nm (pg_name (i := 2) sc.nd rfl (by first | exact Or.inl rfl | exact Or.inr rfl))) (gs_cons (g_nm (pg_name (i := 3) sc.nd rfl (by first | exact Or.inl rfl | exact Or.inr rfl))) (gs_nil)))) (ss_one (s_drop (d_call o.o_need_room hr rfl t.m_need_room t.F_need_room.kp t.B_need_room (a_val (d_idx (d_varO (pv 3)) (d_int)) (a_val (d_bin op_addA ok_add (d_varO (pv 1)) (d_op (d_tup (d_cons (d_var (pv 2)) (d_nil))))) (a_nil)))))))) (ss_nil)))
theorem sc_all_paths : FnScope ["room", "path", "found", "number", "door"] ["room", "path"] (defScope s_all_paths) := ⟨rfl, rfl, rfl, by decide +kernel, rfl, by decide +kernel, by decide +kernel⟩
theorem ok_all_paths (t : Txt K mg) (o : Oks P w K mg base t d) : FnOk P w K mg base CX0 (d + 1) t.a_all_paths t.d_all_paths ["room", "path"] (spD K (CC T0 WW (d + 1)) f_all_paths) := by
  have sc := sc_all_paths
  refine ok_codeD (b := [false, false]) (k := 5) t.F_all_paths sc (show T0 f_all_paths = some b_all_paths from rfl) rfl rfl fun cdv A outer s H E H0 IO Z0 iov ioP hr => ?_
  obtain ⟨du, hD⟩ : ∃ du : Unit, True := ⟨(), trivial⟩
  obtain ⟨du_all_paths, hb_all_paths, hd_all_paths⟩ := t.D_all_paths
  exact ss_cons (s_set (i := 2) sc.nd rfl (by first | exact Or.inl rfl | exact Or.inr rfl) (d_lst (d_nil))) (ss_cons (s_ife (t_not (t_val (d_call o.o_is_out hr rfl t.m_is_out t.F_is_out.kp t.B_is_out (a_val (d_var (pv 0)) (a_nil))))) (ss_one (s_for PassesOwn.never rfl (d_enT (d_idx (d_varO (pv 0)) (d_int)) rfl t.z_enumerate) (g_tp rfl (gs_cons (g_nm (pg_name (i := 3) sc.nd rfl (by first | exact Or.inl rfl | exact Or.inr rfl))) (gs_cons (g_nm (pg_name (i := 4) sc.nd rfl (by first | exact Or.inl rfl | exact Or.inr rfl))) (gs_nil)))) (ss_one (s_ext (pv 2) (d_bin op_addA ok_add (d_op (d_lst (d_cons (d_bin op_addA ok_add (d_varO (pv 1)) (d_op (d_tup (d_cons (d_var (pv 3)) (d_nil))))) (d_nil)))) (d_op (d_call o.o_all_paths hr rfl t.m_all_paths t.F_all_paths.kp t.B_all_paths (a_val (d_idx (d_varO (pv 4)) (d_int)) (a_val (d_bin op_addA ok_add (d_varO (pv 1)) (d_op (d_tup (d_cons (d_var (pv 3)) (d_nil))))) (a_nil)))))))))) (ss_nil)) (ss_one (s_ret (d_mv (pv 2)))))
theorem sc_need_house : FnScope ["house"] ["house"] (defScope s_need_house) := ⟨rfl, rfl, rfl, by decide +kernel, rfl, by decide +kernel, by decide +kernel⟩
theorem ok_need_house (t : Txt K mg) (o : Oks P w K mg base t d) : FnOk P w K mg base CX0 (d + 1) t.a_need_house t.d_need_house ["house"] (spD K (CC T0 WW (d + 1)) f_need_house) := by
  have sc := sc_need_house
  refine ok_code (b := [false]) (k := 1) t.F_need_house sc (show T0 f_need_house = some b_need_house from rfl) rfl rfl fun cdv A outer s H E H0 IO Z0 iov ioP hr => ?_
  obtain ⟨du_all_paths, hb_all_paths, hd_all_paths⟩ := t.D_all_paths
  exact ss_cons (s_drop (d_call o.o_need_room hr rfl t.m_need_room t.F_need_room.kp t.B_need_room (a_val (d_var (pv 0)) (a_val (d_tup (d_nil)) (a_nil))))) (ss_one (s_ife (t_cmp op_gt ok_gt (d_op (d_bi call_len ok_len rfl t.z_len PySem.boot_len (d_ocons (d_op (d_call_d o.o_all_paths hr rfl t.m_all_paths t.F_all_paths.kp hb_all_paths hd_all_paths t.V_all_paths (a_val (d_var (pv 0)) a_nil))) (d_onil)))) (d_op (d_gint (pe_con t.c_MOST_IN_ALL))) (nomark _)) (ss_one (s_stuck)) (ss_nil)))
theorem sc_left_by : FnScope ["room", "door", "leavings", "hand", "doors"] ["room", "door", "leavings"] (defScope s_left_by) := ⟨rfl, rfl, rfl, by decide +kernel, rfl, by decide +kernel, by decide +kernel⟩
theorem ok_left_by (t : Txt K mg) (o : Oks P w K mg base t d) : FnOk P w K mg base CX0 (d + 1) t.a_left_by t.d_left_by ["room", "door", "leavings"] (spD K (CC T0 WW (d + 1)) f_left_by) := by
  have sc := sc_left_by
  refine ok_code (b := [false, false, false]) (k := 5) t.F_left_by sc (show T0 f_left_by = some b_left_by from rfl) rfl rfl fun cdv A outer s H E H0 IO Z0 iov ioP hr => ?_
  exact ss_cons (s_unp (d_var (pv 0)) (g_tp rfl (gs_cons (g_nm (pg_name (i := 3) sc.nd rfl (by first | exact Or.inl rfl | exact Or.inr rfl))) (gs_cons (g_nm (pg_name (i := 4) sc.nd rfl (by first | exact Or.inl rfl | exact Or.inr rfl))) (gs_nil))))) (ss_one (s_ret (d_bin op_fdivW ok_fdv (d_op (d_bin op_addA ok_add (d_op (d_bin op_sub ok_sub (d_op (d_bin op_sub ok_sub (d_varO (pv 2)) (d_op (d_int)))) (d_op (d_bin op_mod ok_md (d_op (d_bin op_sub ok_sub (d_varO (pv 1)) (d_varO (pv 3)))) (d_op (d_bi call_len ok_len rfl t.z_len PySem.boot_len (d_ocons (d_varO (pv 4)) (d_onil)))))))) (d_op (d_bi call_len ok_len rfl t.z_len PySem.boot_len (d_ocons (d_varO (pv 4)) (d_onil)))))) (d_op (d_bi call_len ok_len rfl t.z_len PySem.boot_len (d_ocons (d_varO (pv 4)) (d_onil)))))))
theorem sc_pushes_by : FnScope ["door", "openings", "need", "stands", "inner"] ["door", "openings"] (defScope s_pushes_by) := ⟨rfl, rfl, rfl, by decide +kernel, rfl, by decide +kernel, by decide +kernel⟩
theorem ok_pushes_by (t : Txt K mg) (o : Oks P w K mg base t d) : FnOk P w K mg base CX0 (d + 1) t.a_pushes_by t.d_pushes_by ["door", "openings"] (spD K (CC T0 WW (d + 1)) f_pushes_by) := by
  have sc := sc_pushes_by
  refine ok_code (b := [false, false]) (k := 5) t.F_pushes_by sc (show T0 f_pushes_by = some b_pushes_by from rfl) rfl rfl fun cdv A outer s H E H0 IO Z0 iov ioP hr => ?_
  exact ss_cons (s_unp (d_var (pv 0)) (g_tp rfl (gs_cons (g_nm (pg_name (i := 2) sc.nd rfl (by first | exact Or.inl rfl | exact Or.inr rfl))) (gs_cons (g_nm (pg_name (i := 3) sc.nd rfl (by first | exact Or.inl rfl | exact Or.inr rfl))) (gs_cons (g_nm (pg_name (i := 4) sc.nd rfl (by first | exact Or.inl rfl | exact Or.inr rfl))) (gs_nil)))))) (ss_one (s_ret (d_ife (t_cmp (op_eqD hr.units) ok_eq (d_varO (pv 1)) (d_op (d_int)) (nomark _)) (d_int) (d_bin op_sub ok_sub (d_op (d_bin op_mulA ok_mul (d_varO (pv 1)) (d_varO (pv 2)))) (d_varO (pv 3))))))
theorem sc_walkers_by : FnScope ["room", "leavings", "found", "number", "door", "many"] ["room", "leavings"] (defScope s_walkers_by) := ⟨rfl, rfl, rfl, by decide +kernel, rfl, by decide +kernel, by decide +kernel⟩
theorem ok_walkers_by (t : Txt K mg) (o : Oks P w K mg base t d) : FnOk P w K mg base CX0 (d + 1) t.a_walkers_by t.d_walkers_by ["room", "leavings"] (spD K (CC T0 WW (d + 1)) f_walkers_by) := by
  have sc := sc_walkers_by
  refine ok_code (b := [false, false]) (k := 6) t.F_walkers_by sc (show T0 f_walkers_by = some b_walkers_by from rfl) rfl rfl fun cdv A outer s H E H0 IO Z0 iov ioP hr => ?_
  exact ss_cons (s_ife (t_val (d_call o.o_is_out hr rfl t.m_is_out t.F_is_out.kp t.B_is_out (a_val (d_var (pv 0)) (a_nil)))) (ss_one (s_ret (d_var (pv 1)))) (ss_nil)) (ss_cons (s_set (i := 2) sc.nd rfl (by first | exact Or.inl rfl | exact Or.inr rfl) (d_int)) (ss_cons (s_for PassesOwn.never rfl (d_enT (d_idx (d_varO (pv 0)) (d_int)) rfl t.z_enumerate) (g_tp rfl (gs_cons (g_nm (pg_name (i := 3) sc.nd rfl (by first | exact Or.inl rfl | exact Or.inr rfl))) (gs_cons (g_nm (pg_name (i := 4) sc.nd rfl (by first | exact Or.inl rfl | exact Or.inr rfl))) (gs_nil)))) (ss_cons (s_set (i := 5) sc.nd rfl (by first | exact Or.inl rfl | exact Or.inr rfl) (d_call o.o_left_by hr rfl t.m_left_by t.F_left_by.kp t.B_left_by (a_val (d_var (pv 0)) (a_val (d_var (pv 3)) (a_val (d_var (pv 1)) (a_nil)))))) (ss_one (s_ife (t_cmp op_gt ok_gt (d_varO (pv 5)) (d_op (d_int)) (nomark _)) (ss_one (s_aug (i := 2) sc.nd rfl (by first | exact Or.inl rfl | exact Or.inr rfl) (d_bin op_addA ok_add (d_op (d_call o.o_pushes_by hr rfl t.m_pushes_by t.F_pushes_by.kp t.B_pushes_by (a_val (d_var (pv 4)) (a_val (d_var (pv 5)) (a_nil))))) (d_op (d_call o.o_walkers_by hr rfl t.m_walkers_by t.F_walkers_by.kp t.B_walkers_by (a_val (d_idx (d_varO (pv 4)) (d_int)) (a_val (d_var (pv 5)) (a_nil)))))))) (ss_nil))))) (ss_one (s_ret (d_var (pv 2))))))
theorem sc_leavings_by : FnScope ["room", "walkers", "low", "high", "middle"] ["room", "walkers"] (defScope s_leavings_by) := ⟨rfl, rfl, rfl, by decide +kernel, rfl, by decide +kernel, by decide +kernel⟩
theorem ok_leavings_by (t : Txt K mg) (o : Oks P w K mg base t d) : FnOk P w K mg base CX0 (d + 1) t.a_leavings_by t.d_leavings_by ["room", "walkers"] (spD K (CC T0 WW (d + 1)) f_leavings_by) := by
  have sc := sc_leavings_by
  refine ok_code (b := [false, false]) (k := 5) t.F_leavings_by sc (show T0 f_leavings_by = some b_leavings_by from rfl) rfl rfl fun cdv A outer s H E H0 IO Z0 iov ioP hr => ?_
  exact ss_cons (s_par (i := 2) (j := 3) rfl sc.nd rfl rfl (by decide) rfl rfl (d_cons (d_int) (d_cons (d_var (pv 1)) (d_nil))) rfl) (ss_cons (s_whl PassesOwn.never (t_cmp op_lt ok_lt (d_varO (pv 2)) (d_varO (pv 3)) (nomark _)) (ss_cons (s_set (i := 4) sc.nd rfl (by first | exact Or.inl rfl | exact Or.inr rfl) (d_bin op_fdivW ok_fdv (d_op (d_bin op_addA ok_add (d_op (d_bin op_addA ok_add (d_varO (pv 2)) (d_varO (pv 3)))) (d_op (d_int)))) (d_op (d_int)))) (ss_one (s_ife (t_cmp op_le ok_le (d_op (d_call o.o_walkers_by hr rfl t.m_walkers_by t.F_walkers_by.kp t.B_walkers_by (a_val (d_var (pv 0)) (a_val (d_var (pv 4)) (a_nil))))) (d_varO (pv 1)) (nomark _)) (ss_one (s_set (i := 2) sc.nd rfl (by first | exact Or.inl rfl | exact Or.inr rfl) (d_var (pv 4)))) (ss_one (s_set (i := 3) sc.nd rfl (by first | exact Or.inl rfl | exact Or.inr rfl) (d_bin op_sub ok_sub (d_varO (pv 4)) (d_op (d_int))))))))) (ss_one (s_ret (d_var (pv 2)))))
theorem sc_path_of : FnScope ["room", "leaving", "path", "door", "hand", "doors"] ["room", "leaving"] (defScope s_path_of) := ⟨rfl, rfl, rfl, by decide +kernel, rfl, by decide +kernel, by decide +kernel⟩
theorem ok_path_of (t : Txt K mg) (o : Oks P w K mg base t d) : FnOk P w K mg base CX0 (d + 1) t.a_path_of t.d_path_of ["room", "leaving"] (spD K (CC T0 WW (d + 1)) f_path_of) := by
  have sc := sc_path_of
  refine ok_code (b := [false, false]) (k := 6) t.F_path_of sc (show T0 f_path_of = some b_path_of from rfl) rfl rfl fun cdv A outer s H E H0 IO Z0 iov ioP hr => ?_
  exact ss_cons (s_set (i := 2) sc.nd rfl (by first | exact Or.inl rfl | exact Or.inr rfl) (d_tup (d_nil))) (ss_cons (s_whl PassesOwn.never (t_not (t_val (d_call o.o_is_out hr rfl t.m_is_out t.F_is_out.kp t.B_is_out (a_val (d_var (pv 0)) (a_nil))))) (ss_cons (s_unp (d_var (pv 0)) (g_tp rfl (gs_cons (g_nm (pg_name (i := 4) sc.nd rfl (by first | exact Or.inl rfl | exact Or.inr rfl))) (gs_cons (g_nm (pg_name (i := 5) sc.nd rfl (by first | exact Or.inl rfl | exact Or.inr rfl))) (gs_nil))))) (ss_cons (s_set (i := 3) sc.nd rfl (by first | exact Or.inl rfl | exact Or.inr rfl) (d_bin op_mod ok_md (d_op (d_bin op_sub ok_sub (d_op (d_bin op_addA ok_add (d_varO (pv 4)) (d_varO (pv 1)))) (d_op (d_int)))) (d_op (d_bi call_len ok_len rfl t.z_len PySem.boot_len (d_ocons (d_varO (pv 5)) (d_onil)))))) (ss_cons (s_set (i := 2) sc.nd rfl (by first | exact Or.inl rfl | exact Or.inr rfl) (d_bin op_addA ok_add (d_varO (pv 2)) (d_op (d_tup (d_cons (d_var (pv 3)) (d_nil)))))) (ss_cons (s_set (i := 1) sc.nd rfl (by first | exact Or.inl rfl | exact Or.inr rfl) (d_call o.o_left_by hr rfl t.m_left_by t.F_left_by.kp t.B_left_by (a_val (d_var (pv 0)) (a_val (d_var (pv 3)) (a_val (d_var (pv 1)) (a_nil)))))) (ss_one (s_set (i := 0) sc.nd rfl (by first | exact Or.inl rfl | exact Or.inr rfl) (d_idx (d_idxO (d_varO (pv 5)) (d_var (pv 3))) (d_int))))))))) (ss_one (s_ret (d_tup (d_cons (d_var (pv 2)) (d_cons (d_var (pv 0)) (d_nil)))))))
theorem sc_names_by : FnScope ["room", "name", "leavings", "some", "number", "door", "inner", "many"] ["room", "name", "leavings"] (defScope s_names_by) := ⟨rfl, rfl, rfl, by decide +kernel, rfl, by decide +kernel, by decide +kernel⟩
theorem ok_names_by (t : Txt K mg) (o : Oks P w K mg base t d) : FnOk P w K mg base CX0 (d + 1) t.a_names_by t.d_names_by ["room", "name", "leavings"] (spD K (CC T0 WW (d + 1)) f_names_by) := by
  have sc := sc_names_by
  refine ok_code (b := [false, false, false]) (k := 8) t.F_names_by sc (show T0 f_names_by = some b_names_by from rfl) rfl rfl fun cdv A outer s H E H0 IO Z0 iov ioP hr => ?_
  exact ss_cons (s_ife (t_val (d_call o.o_is_out hr rfl t.m_is_out t.F_is_out.kp t.B_is_out (a_val (d_var (pv 0)) (a_nil)))) (ss_one (s_ret (d_ife (t_cmp (op_eqD hr.units) ok_eq (d_varO (pv 0)) (d_varO (pv 1)) (nomark _)) (d_var (pv 2)) (d_int)))) (ss_nil)) (ss_cons (s_setLc (i := 3) rfl sc.nd rfl rfl rfl (blkOk_by (own := [("number", 4), ("door", 5)]) (by rfl)) (d_enT (d_idx (d_varO (pv 0)) (d_int)) rfl t.z_enumerate) (fun _ _ _ _ _ => g_tp rfl (gs_cons (g_nm (pg_name (i := 4) sc.nd rfl (by first | exact Or.inl rfl | exact Or.inr rfl))) (gs_cons (g_nm (pg_name (i := 5) sc.nd rfl (by first | exact Or.inl rfl | exact Or.inr rfl))) (gs_nil)))) (fun _ _ _ _ _ => c_no) (fun _ _ _ _ _ => d_tup (d_cons (d_idx (d_varO (pv 5)) (d_int)) (d_cons (d_call o.o_left_by hr rfl t.m_left_by t.F_left_by.kp t.B_left_by (a_val (d_var (pv 0)) (a_val (d_var (pv 4)) (a_val (d_var (pv 2)) (a_nil))))) (d_nil))))) (ss_one (s_ret (d_bi (cr_sum rfl) ok_sum rfl t.z_sum boot_sum (d_ocons (d_op (d_comp rfl sc.nd (blkOk_by (own := [("inner", 6), ("many", 7)]) (by rfl)) (d_itL (d_var (pv 3))) (fun _ _ _ _ _ => g_tp rfl (gs_cons (g_nm (pg_name (i := 6) sc.nd rfl (by first | exact Or.inl rfl | exact Or.inr rfl))) (gs_cons (g_nm (pg_name (i := 7) sc.nd rfl (by first | exact Or.inl rfl | exact Or.inr rfl))) (gs_nil)))) (fun _ _ _ _ _ => c_if (t_cmp op_gt ok_gt (d_varO (pv 7)) (d_op (d_int)) (nomark _))) (fun _ _ _ _ _ => d_call o.o_names_by hr rfl t.m_names_by t.F_names_by.kp t.B_names_by (a_val (d_var (pv 6)) (a_val (d_var (pv 1)) (a_val (d_var (pv 7)) (a_nil))))))) (d_onil))))))
theorem sc_names_in : FnScope ["room", "found", "door"] ["room"] (defScope s_names_in) := ⟨rfl, rfl, rfl, by decide +kernel, rfl, by decide +kernel, by decide +kernel⟩
theorem ok_names_in (t : Txt K mg) (o : Oks P w K mg base t d) : FnOk P w K mg base CX0 (d + 1) t.a_names_in t.d_names_in ["room"] (spD K (CC T0 WW (d + 1)) f_names_in) := by
  have sc := sc_names_in
  refine ok_code (b := [false]) (k := 3) t.F_names_in sc (show T0 f_names_in = some b_names_in from rfl) rfl rfl fun cdv A outer s H E H0 IO Z0 iov ioP hr => ?_
  exact ss_cons (s_ife (t_val (d_call o.o_is_out hr rfl t.m_is_out t.F_is_out.kp t.B_is_out (a_val (d_var (pv 0)) (a_nil)))) (ss_one (s_ret (d_lst (d_cons (d_var (pv 0)) (d_nil))))) (ss_nil)) (ss_cons (s_set (i := 1) sc.nd rfl (by first | exact Or.inl rfl | exact Or.inr rfl) (d_lst (d_nil))) (ss_cons (s_for PassesOwn.never rfl (d_itT (d_idx (d_varO (pv 0)) (d_int))) (g_nm (pg_name (i := 2) sc.nd rfl (by first | exact Or.inl rfl | exact Or.inr rfl))) (ss_one (s_ext (pv 1) (d_call o.o_names_in hr rfl t.m_names_in t.F_names_in.kp t.B_names_in (a_val (d_idx (d_varO (pv 2)) (d_int)) (a_nil)))))) (ss_one (s_ret (d_mv (pv 1))))))
theorem sc_need_far : FnScope ["number", "least", "most"] ["number", "least", "most"] (defScope s_need_far) := ⟨rfl, rfl, rfl, by decide +kernel, rfl, by decide +kernel, by decide +kernel⟩
theorem ok_need_far (t : Txt K mg) (o : Oks P w K mg base t d) : FnOk P w K mg base CX0 (d + 1) t.a_need_far t.d_need_far ["number", "least", "most"] (spD K (CC T0 WW (d + 1)) f_need_far) := by
  have sc := sc_need_far
  refine ok_code (b := [false, false, false]) (k := 3) t.F_need_far sc (show T0 f_need_far = some b_need_far from rfl) rfl rfl fun cdv A outer s H E H0 IO Z0 iov ioP hr => ?_
  exact ss_one (s_ife (t_not (t_chn op_le op_le rfl rfl (d_var (pv 1)) (d_var (pv 0)) (d_var (pv 2)) (by rfl))) (ss_one (s_stuck)) (ss_nil))
theorem sc_left : FnScope ["house", "many"] ["house", "many"] (defScope s_left) := ⟨rfl, rfl, rfl, by decide +kernel, rfl, by decide +kernel, by decide +kernel⟩
theorem ok_left (t : Txt K mg) (o : Oks P w K mg base t d) : FnOk P w K mg base CX0 (d + 1) t.a_left t.d_left ["house", "many"] (spD K (CC T0 WW (d + 1)) f_left) := by
  have sc := sc_left
  refine ok_code (b := [false, false]) (k := 2) t.F_left sc (show T0 f_left = some b_left from rfl) rfl rfl fun cdv A outer s H E H0 IO Z0 iov ioP hr => ?_
  exact ss_cons (s_drop (d_call o.o_need_house hr rfl t.m_need_house t.F_need_house.kp t.B_need_house (a_val (d_var (pv 0)) (a_nil)))) (ss_cons (s_drop (d_call o.o_need_far hr rfl t.m_need_far t.F_need_far.kp t.B_need_far (a_val (d_var (pv 1)) (a_val (d_int) (a_val (d_gint (pe_con t.c_MOST_FAR)) (a_nil)))))) (ss_one (s_ret (d_call o.o_leavings_by hr rfl t.m_leavings_by t.F_leavings_by.kp t.B_leavings_by (a_val (d_var (pv 0)) (a_val (d_var (pv 1)) (a_nil)))))))
theorem sc_leaving : FnScope ["house", "number"] ["house", "number"] (defScope s_leaving) := ⟨rfl, rfl, rfl, by decide +kernel, rfl, by decide +kernel, by decide +kernel⟩
theorem ok_leaving (t : Txt K mg) (o : Oks P w K mg base t d) : FnOk P w K mg base CX0 (d + 1) t.a_leaving t.d_leaving ["house", "number"] (spD K (CC T0 WW (d + 1)) f_leaving) := by
  have sc := sc_leaving
  refine ok_code (b := [false, false]) (k := 2) t.F_leaving sc (show T0 f_leaving = some b_leaving from rfl) rfl rfl fun cdv A outer s H E H0 IO Z0 iov ioP hr => ?_
  exact ss_cons (s_drop (d_call o.o_need_house hr rfl t.m_need_house t.F_need_house.kp t.B_need_house (a_val (d_var (pv 0)) (a_nil)))) (ss_cons (s_drop (d_call o.o_need_far hr rfl t.m_need_far t.F_need_far.kp t.B_need_far (a_val (d_var (pv 1)) (a_val (d_int) (a_val (d_gint (pe_con t.c_MOST_LEAVINGS)) (a_nil)))))) (ss_one (s_ret (d_bin op_addA ok_add (d_op (d_tup (d_cons (d_bin op_sub ok_sub (d_op (d_call o.o_walkers_by hr rfl t.m_walkers_by t.F_walkers_by.kp t.B_walkers_by (a_val (d_var (pv 0)) (a_val (d_var (pv 1)) (a_nil))))) (d_op (d_int))) (d_nil)))) (d_op (d_call o.o_path_of hr rfl t.m_path_of t.F_path_of.kp t.B_path_of (a_val (d_var (pv 0)) (a_val (d_var (pv 1)) (a_nil)))))))))
theorem sc_named : FnScope ["house", "name", "number", "low", "high", "middle"] ["house", "name", "number"] (defScope s_named) := ⟨rfl, rfl, rfl, by decide +kernel, rfl, by decide +kernel, by decide +kernel⟩
theorem ok_named (t : Txt K mg) (o : Oks P w K mg base t d) : FnOk P w K mg base CX0 (d + 1) t.a_named t.d_named ["house", "name", "number"] (spD K (CC T0 WW (d + 1)) f_named) := by
  have sc := sc_named
  refine ok_code (b := [false, false, false]) (k := 6) t.F_named sc (show T0 f_named = some b_named from rfl) rfl rfl fun cdv A outer s H E H0 IO Z0 iov ioP hr => ?_
  exact ss_cons (s_drop (d_call o.o_need_house hr rfl t.m_need_house t.F_need_house.kp t.B_need_house (a_val (d_var (pv 0)) (a_nil)))) (ss_cons (s_ife (t_cmp op_ninA ok_nin (d_varO (pv 1)) (d_op (d_call o.o_names_in hr rfl t.m_names_in t.F_names_in.kp t.B_names_in (a_val (d_var (pv 0)) (a_nil)))) (by with_unfolding_all rfl)) (ss_one (s_stuck)) (ss_nil)) (ss_cons (s_drop (d_call o.o_need_far hr rfl t.m_need_far t.F_need_far.kp t.B_need_far (a_val (d_var (pv 2)) (a_val (d_int) (a_val (d_gint (pe_con t.c_MOST_LEAVINGS)) (a_nil)))))) (ss_cons (s_par (i := 3) (j := 4) rfl sc.nd rfl rfl (by decide) rfl rfl (d_cons (d_int) (d_cons (d_var (pv 2)) (d_nil))) rfl) (ss_cons (s_whl PassesOwn.never (t_cmp op_lt ok_lt (d_op (d_call o.o_names_by hr rfl t.m_names_by t.F_names_by.kp t.B_names_by (a_val (d_var (pv 0)) (a_val (d_var (pv 1)) (a_val (d_var (pv 4)) (a_nil)))))) (d_varO (pv 2)) (nomark _)) (ss_one (s_par (i := 3) (j := 4) rfl sc.nd rfl rfl (by decide) rfl rfl (d_cons (d_var (pv 4)) (d_cons (d_bin op_mulA ok_mul (d_op (d_int)) (d_varO (pv 4))) (d_nil))) rfl))) (ss_cons (s_whl PassesOwn.never (t_cmp op_lt ok_lt (d_varO (pv 3)) (d_varO (pv 4)) (nomark _)) (ss_cons (s_set (i := 5) sc.nd rfl (by first | exact Or.inl rfl | exact Or.inr rfl) (d_bin op_fdivW ok_fdv (d_op (d_bin op_addA ok_add (d_varO (pv 3)) (d_varO (pv 4)))) (d_op (d_int)))) (ss_one (s_ife (t_cmp op_lt ok_lt (d_op (d_call o.o_names_by hr rfl t.m_names_by t.F_names_by.kp t.B_names_by (a_val (d_var (pv 0)) (a_val (d_var (pv 1)) (a_val (d_var (pv 5)) (a_nil)))))) (d_varO (pv 2)) (nomark _)) (ss_one (s_set (i := 3) sc.nd rfl (by first | exact Or.inl rfl | exact Or.inr rfl) (d_bin op_addA ok_add (d_varO (pv 5)) (d_op (d_int))))) (ss_one (s_set (i := 4) sc.nd rfl (by first | exact Or.inl rfl | exact Or.inr rfl) (d_var (pv 5)))))))) (ss_one (s_ret (d_tup (d_cons (d_bin op_sub ok_sub (d_op (d_call o.o_walkers_by hr rfl t.m_walkers_by t.F_walkers_by.kp t.B_walkers_by (a_val (d_var (pv 0)) (a_val (d_var (pv 3)) (a_nil))))) (d_op (d_int))) (d_cons (d_idx (d_op (d_call o.o_path_of hr rfl t.m_path_of t.F_path_of.kp t.B_path_of (a_val (d_var (pv 0)) (a_val (d_var (pv 3)) (a_nil))))) (d_int)) (d_nil)))))))))))
theorem sc_clean : FnScope ["room", "need", "stands", "inner"] ["room"] (defScope s_clean) := ⟨rfl, rfl, rfl, by decide +kernel, rfl, by decide +kernel, by decide +kernel⟩
theorem ok_clean (t : Txt K mg) (o : Oks P w K mg base t d) : FnOk P w K mg base CX0 (d + 1) t.a_clean t.d_clean ["room"] (spD K (CC T0 WW (d + 1)) f_clean) := by
  have sc := sc_clean
  refine ok_code (b := [false]) (k := 4) t.F_clean sc (show T0 f_clean = some b_clean from rfl) rfl rfl fun cdv A outer s H E H0 IO Z0 iov ioP hr => ?_
  exact ss_cons (s_ife (t_val (d_call o.o_is_out hr rfl t.m_is_out t.F_is_out.kp t.B_is_out (a_val (d_var (pv 0)) (a_nil)))) (ss_one (s_ret (d_var (pv 0)))) (ss_nil)) (ss_one (s_ret (d_tup (d_cons (d_idx (d_varO (pv 0)) (d_int)) (d_cons (d_bty call_tuple_of ok_tuple rfl t.z_tuple boot_tuple (d_ocons (d_op (d_comp rfl sc.nd (blkOk_by (own := [("need", 1), ("stands", 2), ("inner", 3)]) (by rfl)) (d_itT (d_idx (d_varO (pv 0)) (d_int))) (fun _ _ _ _ _ => g_tp rfl (gs_cons (g_nm (pg_name (i := 1) sc.nd rfl (by first | exact Or.inl rfl | exact Or.inr rfl))) (gs_cons (g_nm (pg_name (i := 2) sc.nd rfl (by first | exact Or.inl rfl | exact Or.inr rfl))) (gs_cons (g_nm (pg_name (i := 3) sc.nd rfl (by first | exact Or.inl rfl | exact Or.inr rfl))) (gs_nil))))) (fun _ _ _ _ _ => c_no) (fun _ _ _ _ _ => d_tup (d_cons (d_var (pv 1)) (d_cons (d_int) (d_cons (d_call o.o_clean hr rfl t.m_clean t.F_clean.kp t.B_clean (a_val (d_var (pv 3)) (a_nil))) (d_nil))))))) (d_onil))) (d_nil))))))
theorem sc_greatest_both : FnScope ["one", "other"] ["one", "other"] (defScope s_greatest_both) := ⟨rfl, rfl, rfl, by decide +kernel, rfl, by decide +kernel, by decide +kernel⟩
theorem ok_greatest_both (t : Txt K mg) (o : Oks P w K mg base t d) : FnOk P w K mg base CX0 (d + 1) t.a_greatest_both t.d_greatest_both ["one", "other"] (spD K (CC T0 WW (d + 1)) f_greatest_both) := by
  have sc := sc_greatest_both
  refine ok_code (b := [false, false]) (k := 2) t.F_greatest_both sc (show T0 f_greatest_both = some b_greatest_both from rfl) rfl rfl fun cdv A outer s H E H0 IO Z0 iov ioP hr => ?_
  exact ss_cons (s_whl PassesOwn.never (t_cmp (op_neD hr.units) ok_ne (d_varO (pv 1)) (d_op (d_int)) (nomark _)) (ss_one (s_par (i := 0) (j := 1) rfl sc.nd rfl rfl (by decide) rfl rfl (d_cons (d_var (pv 1)) (d_cons (d_bin op_mod ok_md (d_varO (pv 0)) (d_varO (pv 1))) (d_nil))) rfl))) (ss_one (s_ret (d_var (pv 0))))
theorem sc_least_both : FnScope ["one", "other"] ["one", "other"] (defScope s_least_both) := ⟨rfl, rfl, rfl, by decide +kernel, rfl, by decide +kernel, by decide +kernel⟩
theorem ok_least_both (t : Txt K mg) (o : Oks P w K mg base t d) : FnOk P w K mg base CX0 (d + 1) t.a_least_both t.d_least_both ["one", "other"] (spD K (CC T0 WW (d + 1)) f_least_both) := by
  have sc := sc_least_both
  refine ok_code (b := [false, false]) (k := 2) t.F_least_both sc (show T0 f_least_both = some b_least_both from rfl) rfl rfl fun cdv A outer s H E H0 IO Z0 iov ioP hr => ?_
  exact ss_one (s_ret (d_bin op_mulA ok_mul (d_op (d_bin op_fdivW ok_fdv (d_varO (pv 0)) (d_op (d_call o.o_greatest_both hr rfl t.m_greatest_both t.F_greatest_both.kp t.B_greatest_both (a_val (d_var (pv 0)) (a_val (d_var (pv 1)) (a_nil))))))) (d_varO (pv 1))))
theorem sc_leavings_in : FnScope ["room", "found", "need", "stands", "inner"] ["room"] (defScope s_leavings_in) := ⟨rfl, rfl, rfl, by decide +kernel, rfl, by decide +kernel, by decide +kernel⟩
theorem ok_leavings_in (t : Txt K mg) (o : Oks P w K mg base t d) : FnOk P w K mg base CX0 (d + 1) t.a_leavings_in t.d_leavings_in ["room"] (spD K (CC T0 WW (d + 1)) f_leavings_in) := by
  have sc := sc_leavings_in
  refine ok_code (b := [false]) (k := 5) t.F_leavings_in sc (show T0 f_leavings_in = some b_leavings_in from rfl) rfl rfl fun cdv A outer s H E H0 IO Z0 iov ioP hr => ?_
  exact ss_cons (s_ife (t_val (d_call o.o_is_out hr rfl t.m_is_out t.F_is_out.kp t.B_is_out (a_val (d_var (pv 0)) (a_nil)))) (ss_one (s_ret (d_int))) (ss_nil)) (ss_cons (s_set (i := 1) sc.nd rfl (by first | exact Or.inl rfl | exact Or.inr rfl) (d_int)) (ss_cons (s_for PassesOwn.never rfl (d_itT (d_idx (d_varO (pv 0)) (d_int))) (g_tp rfl (gs_cons (g_nm (pg_name (i := 2) sc.nd rfl (by first | exact Or.inl rfl | exact Or.inr rfl))) (gs_cons (g_nm (pg_name (i := 3) sc.nd rfl (by first | exact Or.inl rfl | exact Or.inr rfl))) (gs_cons (g_nm (pg_name (i := 4) sc.nd rfl (by first | exact Or.inl rfl | exact Or.inr rfl))) (gs_nil))))) (ss_one (s_set (i := 1) sc.nd rfl (by first | exact Or.inl rfl | exact Or.inr rfl) (d_call o.o_least_both hr rfl t.m_least_both t.F_least_both.kp t.B_least_both (a_val (d_var (pv 1)) (a_val (d_call o.o_leavings_in hr rfl t.m_leavings_in t.F_leavings_in.kp t.B_leavings_in (a_val (d_var (pv 4)) (a_nil))) (a_nil))))))) (ss_one (s_ret (d_bin op_mulA ok_mul (d_varO (pv 1)) (d_op (d_bi call_len ok_len rfl t.z_len PySem.boot_len (d_ocons (d_idxO (d_varO (pv 0)) (d_int)) (d_onil)))))))))
theorem sc_round_of : FnScope ["house", "many"] ["house"] (defScope s_round_of) := ⟨rfl, rfl, rfl, by decide +kernel, rfl, by decide +kernel, by decide +kernel⟩
theorem ok_round_of (t : Txt K mg) (o : Oks P w K mg base t d) : FnOk P w K mg base CX0 (d + 1) t.a_round_of t.d_round_of ["house"] (spD K (CC T0 WW (d + 1)) f_round_of) := by
  have sc := sc_round_of
  refine ok_code (b := [false]) (k := 2) t.F_round_of sc (show T0 f_round_of = some b_round_of from rfl) rfl rfl fun cdv A outer s H E H0 IO Z0 iov ioP hr => ?_
  exact ss_cons (s_drop (d_call o.o_need_house hr rfl t.m_need_house t.F_need_house.kp t.B_need_house (a_val (d_var (pv 0)) (a_nil)))) (ss_cons (s_set (i := 1) sc.nd rfl (by first | exact Or.inl rfl | exact Or.inr rfl) (d_call o.o_leavings_in hr rfl t.m_leavings_in t.F_leavings_in.kp t.B_leavings_in (a_val (d_var (pv 0)) (a_nil)))) (ss_one (s_ret (d_tup (d_cons (d_var (pv 1)) (d_cons (d_call o.o_walkers_by hr rfl t.m_walkers_by t.F_walkers_by.kp t.B_walkers_by (a_val (d_call o.o_clean hr rfl t.m_clean t.F_clean.kp t.B_clean (a_val (d_var (pv 0)) (a_nil))) (a_val (d_var (pv 1)) (a_nil)))) (d_nil)))))))
theorem sc_mean : FnScope ["house", "many", "walkers", "both"] ["house"] (defScope s_mean) := ⟨rfl, rfl, rfl, by decide +kernel, rfl, by decide +kernel, by decide +kernel⟩
theorem ok_mean (t : Txt K mg) (o : Oks P w K mg base t d) : FnOk P w K mg base CX0 (d + 1) t.a_mean t.d_mean ["house"] (spD K (CC T0 WW (d + 1)) f_mean) := by
  have sc := sc_mean
  refine ok_code (b := [false]) (k := 4) t.F_mean sc (show T0 f_mean = some b_mean from rfl) rfl rfl fun cdv A outer s H E H0 IO Z0 iov ioP hr => ?_
  exact ss_cons (s_unp (d_call o.o_round_of hr rfl t.m_round_of t.F_round_of.kp t.B_round_of (a_val (d_var (pv 0)) (a_nil))) (g_tp rfl (gs_cons (g_nm (pg_name (i := 1) sc.nd rfl (by first | exact Or.inl rfl | exact Or.inr rfl))) (gs_cons (g_nm (pg_name (i := 2) sc.nd rfl (by first | exact Or.inl rfl | exact Or.inr rfl))) (gs_nil))))) (ss_cons (s_set (i := 3) sc.nd rfl (by first | exact Or.inl rfl | exact Or.inr rfl) (d_call o.o_greatest_both hr rfl t.m_greatest_both t.F_greatest_both.kp t.B_greatest_both (a_val (d_var (pv 1)) (a_val (d_var (pv 2)) (a_nil))))) (ss_one (s_ret (d_tup (d_cons (d_bin op_fdivW ok_fdv (d_varO (pv 2)) (d_varO (pv 3))) (d_cons (d_bin op_fdivW ok_fdv (d_varO (pv 1)) (d_varO (pv 3))) (d_nil)))))))
theorem sc_law_mix : FnScope ["_law_script", "_law_seed", "_law_mixed", "_law_cell"] ["_law_script", "_law_seed"] (defScope s_law_mix) := ⟨rfl, rfl, rfl, by decide +kernel, rfl, by decide +kernel, by decide +kernel⟩
theorem ok_law_mix (t : Txt K mg) (o : Oks P w K mg base t d) : FnOk P w K mg base CX0 (d + 1) t.a_law_mix t.d_law_mix ["_law_script", "_law_seed"] (spD K (CC T0 WW (d + 1)) f_law_mix) := by
  have sc := sc_law_mix
  refine ok_code (b := [false, false]) (k := 4) t.F_law_mix sc (show T0 f_law_mix = some b_law_mix from rfl) rfl rfl fun cdv A outer s H E H0 IO Z0 iov ioP hr => ?_
  exact ss_cons (s_set (i := 2) sc.nd rfl (by first | exact Or.inl rfl | exact Or.inr rfl) (d_var (pv 1))) (ss_cons (s_for PassesOwn.never rfl (d_itR (d_var (pv 0))) (g_nm (pg_name (i := 3) sc.nd rfl (by first | exact Or.inl rfl | exact Or.inr rfl))) (ss_one (s_set (i := 2) sc.nd rfl (by first | exact Or.inl rfl | exact Or.inr rfl) (d_bin op_mod ok_md (d_op (d_bin op_addA ok_add (d_op (d_bin op_addA ok_add (d_op (d_bin op_mulA ok_mul (d_varO (pv 2)) (d_op (d_int)))) (d_op (d_bin op_mod ok_md (d_varO (pv 3)) (d_op (d_int)))))) (d_op (d_int)))) (d_op (d_int)))))) (ss_one (s_ret (d_lst (d_cons (d_var (pv 2)) (d_cons (d_bty call_list_of ok_list rfl t.z_list boot_list (d_ocons (d_varO (pv 0)) (d_onil))) (d_cons (d_int) (d_nil))))))))
theorem sc_law_next : FnScope ["_law_h", "_law_many", "_law_cell"] ["_law_h", "_law_many"] (defScope s_law_next) := ⟨rfl, rfl, rfl, by decide +kernel, rfl, by decide +kernel, by decide +kernel⟩
theorem ok_law_next (t : Txt K mg) (o : Oks P w K mg base t d) : FnOk P w K mg base CX0 (d + 1) t.a_law_next t.d_law_next ["_law_h", "_law_many"] (spD K (CC T0 WW (d + 1)) f_law_next) := by
  have sc := sc_law_next
  refine ok_code (b := [true, false]) (k := 3) t.F_law_next sc (show T0 f_law_next = some b_law_next from rfl) rfl rfl fun cdv A outer s H E H0 IO Z0 iov ioP hr => ?_
  exact ss_cons (s_set (i := 2) sc.nd rfl (by first | exact Or.inl rfl | exact Or.inr rfl) (d_idx (d_op (d_bin op_addA ok_add (d_idxO (d_varO (pv 0)) (d_int)) (d_op (d_lst (d_cons (d_int) (d_nil)))))) (d_bin op_mod ok_md (d_idxO (d_varO (pv 0)) (d_int)) (d_op (d_bi (call_max2 rfl) ok_max rfl t.z_max boot_max (d_ocons (d_op (d_int)) (d_ocons (d_op (d_bi call_len ok_len rfl t.z_len PySem.boot_len (d_ocons (d_idxO (d_varO (pv 0)) (d_int)) (d_onil)))) (d_onil)))))))) (ss_cons (s_ife (t_cmp op_ge ok_ge (d_varO (pv 2)) (d_op (d_bin op_pow ok_pow (d_op (d_int)) (d_op (d_int)))) (nomark _)) (ss_cons (s_put1 (pv 0) (d_int) (d_bin op_mod ok_md (d_idxO (d_varO (pv 0)) (d_int)) (d_op (d_bi call_len ok_len rfl t.z_len PySem.boot_len (d_ocons (d_idxO (d_varO (pv 0)) (d_int)) (d_onil))))) (d_bin op_fdivW ok_fdv (d_varO (pv 2)) (d_varO (pv 1)))) (ss_one (s_ret (d_bin op_mod ok_md (d_varO (pv 2)) (d_varO (pv 1)))))) (ss_nil)) (ss_cons (s_put0 (pv 0) (d_int) (d_bin op_mod ok_md (d_op (d_bin op_addA ok_add (d_op (d_bin op_addA ok_add (d_op (d_bin op_mulA ok_mul (d_idxO (d_varO (pv 0)) (d_int)) (d_op (d_int)))) (d_op (d_bin op_mulA ok_mul (d_varO (pv 2)) (d_op (d_int)))))) (d_op (d_int)))) (d_op (d_int)))) (ss_cons (s_put0 (pv 0) (d_int) (d_bin op_addA ok_add (d_idxO (d_varO (pv 0)) (d_int)) (d_op (d_int)))) (ss_one (s_ret (d_bin op_mod ok_md (d_op (d_bin op_fdivW ok_fdv (d_idxO (d_varO (pv 0)) (d_int)) (d_op (d_int)))) (d_varO (pv 1))))))))
theorem sc_law_door : FnScope ["_law_h", "_law_few", "_law_need"] ["_law_h", "_law_few"] (defScope s_law_door) := ⟨rfl, rfl, rfl, by decide +kernel, rfl, by decide +kernel, by decide +kernel⟩
theorem ok_law_door (t : Txt K mg) (o : Oks P w K mg base t d) : FnOk P w K mg base CX0 (d + 1) t.a_law_door t.d_law_door ["_law_h", "_law_few"] (spD K (CC T0 WW (d + 1)) f_law_door) := by
  have sc := sc_law_door
  refine ok_code (b := [true, false]) (k := 3) t.F_law_door sc (show T0 f_law_door = some b_law_door from rfl) rfl rfl fun cdv A outer s H E H0 IO Z0 iov ioP hr => ?_
  exact ss_cons (s_set (i := 2) sc.nd rfl (by first | exact Or.inl rfl | exact Or.inr rfl) (d_bin op_addA ok_add (d_op (d_int)) (d_op (d_call o.o_law_next hr rfl t.m_law_next t.F_law_next.kp t.B_law_next (a_io (pv 0) (a_val (d_idx (d_op (d_lst (d_cons (d_var (pv 1)) (d_cons (d_int) (d_nil))))) (d_bin op_fdivW ok_fdv (d_op (d_call o.o_law_next hr rfl t.m_law_next t.F_law_next.kp t.B_law_next (a_io (pv 0) (a_val (d_int) (a_nil))))) (d_op (d_int)))) (a_nil))))))) (ss_one (s_ret (d_tup (d_cons (d_var (pv 2)) (d_cons (d_idx (d_op (d_lst (d_cons (d_int) (d_cons (d_var (pv 2)) (d_cons (d_call o.o_law_next hr rfl t.m_law_next t.F_law_next.kp t.B_law_next (a_io (pv 0) (a_val (d_bin op_addA ok_add (d_varO (pv 2)) (d_op (d_int))) (a_nil)))) (d_nil)))))) (d_call o.o_law_next hr rfl t.m_law_next t.F_law_next.kp t.B_law_next (a_io (pv 0) (a_val (d_int) (a_nil))))) (d_nil))))))
theorem sc_law_room : FnScope ["_law_h", "_law_spare", "_law_deep", "_law_few", "_law_many", "_law_doors", "_law_k", "_law_deeper", "_law_need", "_law_stands"] ["_law_h", "_law_spare", "_law_deep", "_law_few"] (defScope s_law_room) := ⟨rfl, rfl, rfl, by decide +kernel, rfl, by decide +kernel, by decide +kernel⟩
theorem ok_law_room (t : Txt K mg) (o : Oks P w K mg base t d) : FnOk P w K mg base CX0 (d + 1) t.a_law_room t.d_law_room ["_law_h", "_law_spare", "_law_deep", "_law_few"] (spD K (CC T0 WW (d + 1)) f_law_room) := by
  have sc := sc_law_room
  refine ok_code (b := [true, true, false, false]) (k := 10) t.F_law_room sc (show T0 f_law_room = some b_law_room from rfl) rfl rfl fun cdv A outer s H E H0 IO Z0 iov ioP hr => ?_
  exact ss_cons (s_ife (t_w (w_or (t_cmp (op_eqD hr.units) ok_eq (d_varO (pv 2)) (d_op (d_int)) (nomark _)) (w_or1 (t_cmp (op_eqD hr.units) ok_eq (d_idxO (d_varO (pv 1)) (d_int)) (d_op (d_int)) (nomark _))))) (ss_one (s_ret (d_idx (d_op (d_lst (d_cons (d_str) (d_cons (d_str) (d_cons (d_str) (d_cons (d_str) (d_nil))))))) (d_call o.o_law_next hr rfl t.m_law_next t.F_law_next.kp t.B_law_next (a_io (pv 0) (a_val (d_int) (a_nil))))))) (ss_nil)) (ss_cons (s_set (i := 4) sc.nd rfl (by first | exact Or.inl rfl | exact Or.inr rfl) (d_bi (call_min2 rfl) ok_min rfl t.z_min boot_min (d_ocons (d_idxO (d_varO (pv 1)) (d_int)) (d_ocons (d_op (d_bin op_addA ok_add (d_op (d_int)) (d_op (d_call o.o_law_next hr rfl t.m_law_next t.F_law_next.kp t.B_law_next (a_io (pv 0) (a_val (d_int) (a_nil))))))) (d_onil))))) (ss_cons (s_put0 (pv 1) (d_int) (d_bin op_sub ok_sub (d_idxO (d_varO (pv 1)) (d_int)) (d_varO (pv 4)))) (ss_cons (s_set (i := 5) sc.nd rfl (by first | exact Or.inl rfl | exact Or.inr rfl) (d_lst (d_nil))) (ss_cons (s_for PassesOwn.never rfl (d_it1 (d_var (pv 4)) rfl t.z_range) (g_nm (pg_name (i := 6) sc.nd rfl (by first | exact Or.inl rfl | exact Or.inr rfl))) (ss_cons (s_unp (d_call o.o_law_door hr rfl t.m_law_door t.F_law_door.kp t.B_law_door (a_io (pv 0) (a_val (d_var (pv 3)) (a_nil)))) (g_tp rfl (gs_cons (g_nm (pg_name (i := 8) sc.nd rfl (by first | exact Or.inl rfl | exact Or.inr rfl))) (gs_cons (g_nm (pg_name (i := 9) sc.nd rfl (by first | exact Or.inl rfl | exact Or.inr rfl))) (gs_nil))))) (ss_cons (s_set (i := 7) sc.nd rfl (by first | exact Or.inl rfl | exact Or.inr rfl) (d_ife (t_cmp (op_eqD hr.units) ok_eq (d_op (d_call o.o_law_next hr rfl t.m_law_next t.F_law_next.kp t.B_law_next (a_io (pv 0) (a_val (d_int) (a_nil))))) (d_op (d_int)) (nomark _)) (d_bin op_sub ok_sub (d_varO (pv 2)) (d_op (d_int))) (d_int))) (ss_one (s_app (pv 5) (d_tup (d_cons (d_var (pv 8)) (d_cons (d_var (pv 9)) (d_cons (d_call o.o_law_room hr rfl t.m_law_room t.F_law_room.kp t.B_law_room (a_io (pv 0) (a_io (pv 1) (a_val (d_var (pv 7)) (a_val (d_var (pv 3)) (a_nil)))))) (d_nil)))))))))) (ss_one (s_ret (d_tup (d_cons (d_call o.o_law_next hr rfl t.m_law_next t.F_law_next.kp t.B_law_next (a_io (pv 0) (a_val (d_var (pv 4)) (a_nil)))) (d_cons (d_bty call_tuple_of ok_tuple rfl t.z_tuple boot_tuple (d_ocons (d_varO (pv 5)) (d_onil))) (d_nil))))))))))
theorem sc_law_house : FnScope ["_law_h", "_law_few"] ["_law_h", "_law_few"] (defScope s_law_house) := ⟨rfl, rfl, rfl, by decide +kernel, rfl, by decide +kernel, by decide +kernel⟩
theorem ok_law_house (t : Txt K mg) (o : Oks P w K mg base t d) : FnOk P w K mg base CX0 (d + 1) t.a_law_house t.d_law_house ["_law_h", "_law_few"] (spD K (CC T0 WW (d + 1)) f_law_house) := by
  have sc := sc_law_house
  refine ok_code (b := [true, false]) (k := 2) t.F_law_house sc (show T0 f_law_house = some b_law_house from rfl) rfl rfl fun cdv A outer s H E H0 IO Z0 iov ioP hr => ?_
  exact ss_one (s_ret (d_call o.o_law_room hr rfl t.m_law_room t.F_law_room.kp t.B_law_room (a_io (pv 0) (a_val (d_lst (d_cons (d_bin op_addA ok_add (d_op (d_int)) (d_op (d_call o.o_law_next hr rfl t.m_law_next t.F_law_next.kp t.B_law_next (a_io (pv 0) (a_val (d_int) (a_nil)))))) (d_nil))) (a_val (d_call o.o_law_next hr rfl t.m_law_next t.F_law_next.kp t.B_law_next (a_io (pv 0) (a_val (d_int) (a_nil)))) (a_val (d_var (pv 1)) (a_nil)))))))
theorem sc_law_harder : FnScope ["_law_h", "_law_room_here", "_law_most", "_law_doors", "_law_need", "_law_stands", "_law_inner"] ["_law_h", "_law_room_here", "_law_most"] (defScope s_law_harder) := ⟨rfl, rfl, rfl, by decide +kernel, rfl, by decide +kernel, by decide +kernel⟩
theorem ok_law_harder (t : Txt K mg) (o : Oks P w K mg base t d) : FnOk P w K mg base CX0 (d + 1) t.a_law_harder t.d_law_harder ["_law_h", "_law_room_here", "_law_most"] (spD K (CC T0 WW (d + 1)) f_law_harder) := by
  have sc := sc_law_harder
  refine ok_code (b := [true, false, false]) (k := 7) t.F_law_harder sc (show T0 f_law_harder = some b_law_harder from rfl) rfl rfl fun cdv A outer s H E H0 IO Z0 iov ioP hr => ?_
  exact ss_cons (s_ife (t_val (d_isa rfl isa_str (d_varO (pv 1)) (pe_bltn (v := .ty "str") (by rfl) t.z_str (by decide +kernel) rfl) rfl t.z_isinstance)) (ss_one (s_ret (d_var (pv 1)))) (ss_nil)) (ss_cons (s_set (i := 3) sc.nd rfl (by first | exact Or.inl rfl | exact Or.inr rfl) (d_lst (d_nil))) (ss_cons (s_for PassesOwn.never rfl (d_itT (d_idx (d_varO (pv 1)) (d_int))) (g_tp rfl (gs_cons (g_nm (pg_name (i := 4) sc.nd rfl (by first | exact Or.inl rfl | exact Or.inr rfl))) (gs_cons (g_nm (pg_name (i := 5) sc.nd rfl (by first | exact Or.inl rfl | exact Or.inr rfl))) (gs_cons (g_nm (pg_name (i := 6) sc.nd rfl (by first | exact Or.inl rfl | exact Or.inr rfl))) (gs_nil))))) (ss_one (s_app (pv 3) (d_tup (d_cons (d_bi (call_min2 rfl) ok_min rfl t.z_min boot_min (d_ocons (d_op (d_int)) (d_ocons (d_op (d_bin op_addA ok_add (d_varO (pv 4)) (d_op (d_call o.o_law_next hr rfl t.m_law_next t.F_law_next.kp t.B_law_next (a_io (pv 0) (a_val (d_bin op_addA ok_add (d_varO (pv 2)) (d_op (d_int))) (a_nil))))))) (d_onil)))) (d_cons (d_int) (d_cons (d_call o.o_law_harder hr rfl t.m_law_harder t.F_law_harder.kp t.B_law_harder (a_io (pv 0) (a_val (d_var (pv 6)) (a_val (d_var (pv 2)) (a_nil))))) (d_nil)))))))) (ss_one (s_ret (d_tup (d_cons (d_idx (d_varO (pv 1)) (d_int)) (d_cons (d_bty call_tuple_of ok_tuple rfl t.z_tuple boot_tuple (d_ocons (d_varO (pv 3)) (d_onil))) (d_nil))))))))
theorem sc_law_one_more : FnScope ["_law_room_here", "_law_need", "_law_stands", "_law_inner"] ["_law_room_here"] (defScope s_law_one_more) := ⟨rfl, rfl, rfl, by decide +kernel, rfl, by decide +kernel, by decide +kernel⟩
theorem ok_law_one_more (t : Txt K mg) (o : Oks P w K mg base t d) : FnOk P w K mg base CX0 (d + 1) t.a_law_one_more t.d_law_one_more ["_law_room_here"] (spD K (CC T0 WW (d + 1)) f_law_one_more) := by
  have sc := sc_law_one_more
  refine ok_code (b := [false]) (k := 4) t.F_law_one_more sc (show T0 f_law_one_more = some b_law_one_more from rfl) rfl rfl fun cdv A outer s H E H0 IO Z0 iov ioP hr => ?_
  exact ss_cons (s_ife (t_val (d_isa rfl isa_str (d_varO (pv 0)) (pe_bltn (v := .ty "str") (by rfl) t.z_str (by decide +kernel) rfl) rfl t.z_isinstance)) (ss_one (s_ret (d_var (pv 0)))) (ss_nil)) (ss_one (s_ret (d_tup (d_cons (d_idx (d_varO (pv 0)) (d_int)) (d_cons (d_bty call_tuple_of ok_tuple rfl t.z_tuple boot_tuple (d_ocons (d_op (d_comp rfl sc.nd (blkOk_by (own := [("_law_need", 1), ("_law_stands", 2), ("_law_inner", 3)]) (by rfl)) (d_itT (d_idx (d_varO (pv 0)) (d_int))) (fun _ _ _ _ _ => g_tp rfl (gs_cons (g_nm (pg_name (i := 1) sc.nd rfl (by first | exact Or.inl rfl | exact Or.inr rfl))) (gs_cons (g_nm (pg_name (i := 2) sc.nd rfl (by first | exact Or.inl rfl | exact Or.inr rfl))) (gs_cons (g_nm (pg_name (i := 3) sc.nd rfl (by first | exact Or.inl rfl | exact Or.inr rfl))) (gs_nil))))) (fun _ _ _ _ _ => c_no) (fun _ _ _ _ _ => d_tup (d_cons (d_bin op_addA ok_add (d_varO (pv 1)) (d_op (d_int))) (d_cons (d_int) (d_cons (d_call o.o_law_one_more hr rfl t.m_law_one_more t.F_law_one_more.kp t.B_law_one_more (a_val (d_var (pv 3)) (a_nil))) (d_nil))))))) (d_onil))) (d_nil))))))
theorem sc_law_small : FnScope ["_law_room_here", "_law_need", "_law_stands", "_law_inner"] ["_law_room_here"] (defScope s_law_small) := ⟨rfl, rfl, rfl, by decide +kernel, rfl, by decide +kernel, by decide +kernel⟩
theorem ok_law_small (t : Txt K mg) (o : Oks P w K mg base t d) : FnOk P w K mg base CX0 (d + 1) t.a_law_small t.d_law_small ["_law_room_here"] (spD K (CC T0 WW (d + 1)) f_law_small) := by
  have sc := sc_law_small
  refine ok_code (b := [false]) (k := 4) t.F_law_small sc (show T0 f_law_small = some b_law_small from rfl) rfl rfl fun cdv A outer s H E H0 IO Z0 iov ioP hr => ?_
  exact ss_cons (s_ife (t_val (d_isa rfl isa_str (d_varO (pv 0)) (pe_bltn (v := .ty "str") (by rfl) t.z_str (by decide +kernel) rfl) rfl t.z_isinstance)) (ss_one (s_ret (d_var (pv 0)))) (ss_nil)) (ss_one (s_ret (d_tup (d_cons (d_idx (d_varO (pv 0)) (d_int)) (d_cons (d_bty call_tuple_of ok_tuple rfl t.z_tuple boot_tuple (d_ocons (d_op (d_comp rfl sc.nd (blkOk_by (own := [("_law_need", 1), ("_law_stands", 2), ("_law_inner", 3)]) (by rfl)) (d_itT (d_idx (d_varO (pv 0)) (d_int))) (fun _ _ _ _ _ => g_tp rfl (gs_cons (g_nm (pg_name (i := 1) sc.nd rfl (by first | exact Or.inl rfl | exact Or.inr rfl))) (gs_cons (g_nm (pg_name (i := 2) sc.nd rfl (by first | exact Or.inl rfl | exact Or.inr rfl))) (gs_cons (g_nm (pg_name (i := 3) sc.nd rfl (by first | exact Or.inl rfl | exact Or.inr rfl))) (gs_nil))))) (fun _ _ _ _ _ => c_no) (fun _ _ _ _ _ => d_tup (d_cons (d_bin op_addA ok_add (d_op (d_int)) (d_op (d_bin op_mod ok_md (d_varO (pv 1)) (d_op (d_int))))) (d_cons (d_int) (d_cons (d_call o.o_law_small hr rfl t.m_law_small t.F_law_small.kp t.B_law_small (a_val (d_var (pv 3)) (a_nil))) (d_nil))))))) (d_onil))) (d_nil))))))
theorem sc_law_openings : FnScope ["_law_room_here", "_law_leavings", "_law_total", "_law_many", "_law_k", "_law_times"] ["_law_room_here", "_law_leavings"] (defScope s_law_openings) := ⟨rfl, rfl, rfl, by decide +kernel, rfl, by decide +kernel, by decide +kernel⟩
theorem ok_law_openings (t : Txt K mg) (o : Oks P w K mg base t d) : FnOk P w K mg base CX0 (d + 1) t.a_law_openings t.d_law_openings ["_law_room_here", "_law_leavings"] (spD K (CC T0 WW (d + 1)) f_law_openings) := by
  have sc := sc_law_openings
  refine ok_code (b := [false, false]) (k := 6) t.F_law_openings sc (show T0 f_law_openings = some b_law_openings from rfl) rfl rfl fun cdv A outer s H E H0 IO Z0 iov ioP hr => ?_
  exact ss_cons (s_ife (t_w (w_or (t_val (d_isa rfl isa_str (d_varO (pv 0)) (pe_bltn (v := .ty "str") (by rfl) t.z_str (by decide +kernel) rfl) rfl t.z_isinstance)) (w_or1 (t_cmp (op_eqD hr.units) ok_eq (d_varO (pv 1)) (d_op (d_int)) (nomark _))))) (ss_one (s_ret (d_int))) (ss_nil)) (ss_cons (s_par (i := 2) (j := 3) rfl sc.nd rfl rfl (by decide) rfl rfl (d_cons (d_int) (d_cons (d_bi call_len ok_len rfl t.z_len PySem.boot_len (d_ocons (d_idxO (d_varO (pv 0)) (d_int)) (d_onil))) (d_nil))) rfl) (ss_cons (s_for PassesOwn.never rfl (d_it1 (d_var (pv 3)) rfl t.z_range) (g_nm (pg_name (i := 4) sc.nd rfl (by first | exact Or.inl rfl | exact Or.inr rfl))) (ss_cons (s_set (i := 5) sc.nd rfl (by first | exact Or.inl rfl | exact Or.inr rfl) (d_bin op_fdivW ok_fdv (d_op (d_bin op_sub ok_sub (d_op (d_bin op_addA ok_add (d_op (d_bin op_sub ok_sub (d_varO (pv 1)) (d_op (d_bin op_mod ok_md (d_op (d_bin op_sub ok_sub (d_varO (pv 4)) (d_idxO (d_varO (pv 0)) (d_int)))) (d_varO (pv 3)))))) (d_varO (pv 3)))) (d_op (d_int)))) (d_varO (pv 3)))) (ss_one (s_set (i := 2) sc.nd rfl (by first | exact Or.inl rfl | exact Or.inr rfl) (d_bin op_addA ok_add (d_op (d_bin op_addA ok_add (d_varO (pv 2)) (d_varO (pv 5)))) (d_op (d_call o.o_law_openings hr rfl t.m_law_openings t.F_law_openings.kp t.B_law_openings (a_val (d_idx (d_idxO (d_idxO (d_varO (pv 0)) (d_int)) (d_var (pv 4))) (d_int)) (a_val (d_var (pv 5)) (a_nil)))))))))) (ss_one (s_ret (d_var (pv 2))))))
theorem sc_law : FnScope ["_law_script", "_law_h", "_law_turn", "_law_house_here", "_law_time", "_law_bare", "_law_hard", "_law_number", "_law_told", "_law_small_here", "_law_walkers", "_law_gone", "_law_some", "_law_one"] ["_law_script"] (defScope s_law) := ⟨rfl, rfl, rfl, by decide +kernel, rfl, by decide +kernel, by decide +kernel⟩
theorem ok_law (t : Txt K mg) (o : Oks P w K mg base t d) : FnOk P w K mg base CX0 (d + 1) t.a_law t.d_law ["_law_script"] (spD K (CC T0 WW (d + 1)) f_law_k16) := by
  have sc := sc_law
  refine ok_code (b := [false]) (k := 14) t.F_law sc (show T0 f_law_k16 = some b_law_k16 from rfl) rfl rfl fun cdv A outer s H E H0 IO Z0 iov ioP hr => ?_
  exact ss_cons (s_set (i := 1) sc.nd rfl (by first | exact Or.inl rfl | exact Or.inr rfl) (d_call o.o_law_mix hr rfl t.m_law_mix t.F_law_mix.kp t.B_law_mix (a_val (d_var (pv 0)) (a_val (d_int) (a_nil))))) (ss_cons (s_for PassesOwn.never rfl (d_it1 (d_int) rfl t.z_range) (g_nm (pg_name (i := 2) sc.nd rfl (by first | exact Or.inl rfl | exact Or.inr rfl))) (ss_cons (s_set (i := 3) sc.nd rfl (by first | exact Or.inl rfl | exact Or.inr rfl) (d_call o.o_law_house hr rfl t.m_law_house t.F_law_house.kp t.B_law_house (a_io (pv 1) (a_val (d_idx (d_op (d_lst (d_cons (d_int) (d_cons (d_int) (d_nil))))) (d_call o.o_law_next hr rfl t.m_law_next t.F_law_next.kp t.B_law_next (a_io (pv 1) (a_val (d_int) (a_nil))))) (a_nil))))) (ss_cons (s_par (i := 5) (j := 6) rfl sc.nd rfl rfl (by decide) rfl rfl (d_cons (d_call o.o_law_harder hr rfl t.m_law_harder t.F_law_harder.kp t.B_law_harder (a_io (pv 1) (a_val (d_var (pv 3)) (a_val (d_int) (a_nil))))) (d_cons (d_call o.o_law_harder hr rfl t.m_law_harder t.F_law_harder.kp t.B_law_harder (a_io (pv 1) (a_val (d_var (pv 3)) (a_val (d_int) (a_nil))))) (d_nil))) rfl) (ss_cons (s_for PassesOwn.never rfl (d_it1 (d_int) rfl t.z_range) (g_nm (pg_name (i := 4) sc.nd rfl (by first | exact Or.inl rfl | exact Or.inr rfl))) (ss_cons (s_set (i := 7) sc.nd rfl (by first | exact Or.inl rfl | exact Or.inr rfl) (d_bin op_addA ok_add (d_op (d_int)) (d_op (d_call o.o_law_next hr rfl t.m_law_next t.F_law_next.kp t.B_law_next (a_io (pv 1) (a_val (d_idx (d_op (d_lst (d_cons (d_int) (d_cons (d_bin op_pow ok_pow (d_op (d_int)) (d_op (d_int))) (d_nil))))) (d_call o.o_law_next hr rfl t.m_law_next t.F_law_next.kp t.B_law_next (a_io (pv 1) (a_val (d_int) (a_nil))))) (a_nil))))))) (ss_cons (s_setLc (i := 8) rfl sc.nd rfl rfl rfl (blkOk_by (own := [("_law_some", 12)]) (by rfl)) (d_itT (d_tup (d_cons (d_var (pv 3)) (d_cons (d_var (pv 5)) (d_cons (d_var (pv 6)) (d_nil)))))) (fun _ _ _ _ _ => g_nm (pg_name (i := 12) sc.nd rfl (by first | exact Or.inl rfl | exact Or.inr rfl))) (fun _ _ _ _ _ => c_no) (fun _ _ _ _ _ => d_call o.o_leaving hr rfl t.m_leaving t.F_leaving.kp t.B_leaving (a_val (d_var (pv 12)) (a_val (d_var (pv 7)) (a_nil))))) (ss_cons (s_ife (t_w (w_or (t_cmp (op_neD hr.units) ok_ne (d_op (d_comp rfl sc.nd (blkOk_by (own := [("_law_one", 13)]) (by rfl)) (d_itL (d_var (pv 8))) (fun _ _ _ _ _ => g_nm (pg_name (i := 13) sc.nd rfl (by first | exact Or.inl rfl | exact Or.inr rfl))) (fun _ _ _ _ _ => c_no) (fun _ _ _ _ _ => d_slc (d_varO (pv 13)) (d_ps (d_int)) d_pn))) (d_op (d_bin op_mulA ok_mul (d_op (d_lst (d_cons (d_slc (d_idxO (d_varO (pv 8)) (d_int)) (d_ps (d_int)) d_pn) (d_nil)))) (d_op (d_int)))) (nomark _)) (w_or1 (t_not (t_chn op_le op_le rfl rfl (d_idx (d_idxO (d_varO (pv 8)) (d_int)) (d_int)) (d_idx (d_idxO (d_varO (pv 8)) (d_int)) (d_int)) (d_idx (d_idxO (d_varO (pv 8)) (d_int)) (d_int)) (by rfl)))))) (ss_one (s_ret (d_bl))) (ss_nil)) (ss_cons (s_ife (t_cmp (op_neD hr.units) ok_ne (d_idxO (d_op (d_call o.o_named hr rfl t.m_named t.F_named.kp t.B_named (a_val (d_var (pv 5)) (a_val (d_idx (d_idxO (d_varO (pv 8)) (d_int)) (d_int)) (a_val (d_int) (a_nil)))))) (d_int)) (d_idxO (d_op (d_call o.o_named hr rfl t.m_named t.F_named.kp t.B_named (a_val (d_var (pv 6)) (a_val (d_idx (d_idxO (d_varO (pv 8)) (d_int)) (d_int)) (a_val (d_int) (a_nil)))))) (d_int)) (nomark _)) (ss_one (s_ret (d_bl))) (ss_nil)) (ss_cons (s_set (i := 9) sc.nd rfl (by first | exact Or.inl rfl | exact Or.inr rfl) (d_call o.o_law_small hr rfl t.m_law_small t.F_law_small.kp t.B_law_small (a_val (d_var (pv 3)) (a_nil)))) (ss_one (s_ife (t_cmp (op_neD hr.units) ok_ne (d_idxO (d_op (d_call o.o_leaving hr rfl t.m_leaving t.F_leaving.kp t.B_leaving (a_val (d_call o.o_law_one_more hr rfl t.m_law_one_more t.F_law_one_more.kp t.B_law_one_more (a_val (d_var (pv 9)) (a_nil))) (a_val (d_var (pv 7)) (a_nil))))) (d_int)) (d_op (d_bin op_addA ok_add (d_idxO (d_op (d_call o.o_leaving hr rfl t.m_leaving t.F_leaving.kp t.B_leaving (a_val (d_var (pv 9)) (a_val (d_var (pv 7)) (a_nil))))) (d_int)) (d_op (d_call o.o_law_openings hr rfl t.m_law_openings t.F_law_openings.kp t.B_law_openings (a_val (d_var (pv 9)) (a_val (d_var (pv 7)) (a_nil))))))) (nomark _)) (ss_one (s_ret (d_bl))) (ss_nil))))))))) (ss_cons (s_ife (t_w (w_or (t_cmp (op_neD hr.units) ok_ne (d_idxO (d_op (d_call o.o_round_of hr rfl t.m_round_of t.F_round_of.kp t.B_round_of (a_val (d_var (pv 6)) (a_nil)))) (d_int)) (d_idxO (d_op (d_call o.o_round_of hr rfl t.m_round_of t.F_round_of.kp t.B_round_of (a_val (d_var (pv 3)) (a_nil)))) (d_int)) (nomark _)) (w_or1 (t_cmp op_lt ok_lt (d_idxO (d_op (d_call o.o_round_of hr rfl t.m_round_of t.F_round_of.kp t.B_round_of (a_val (d_var (pv 6)) (a_nil)))) (d_int)) (d_idxO (d_op (d_call o.o_round_of hr rfl t.m_round_of t.F_round_of.kp t.B_round_of (a_val (d_var (pv 3)) (a_nil)))) (d_int)) (nomark _))))) (ss_one (s_ret (d_bl))) (ss_nil)) (ss_cons (s_unp (d_call o.o_mean hr rfl t.m_mean t.F_mean.kp t.B_mean (a_val (d_var (pv 3)) (a_nil))) (g_tp rfl (gs_cons (g_nm (pg_name (i := 10) sc.nd rfl (by first | exact Or.inl rfl | exact Or.inr rfl))) (gs_cons (g_nm (pg_name (i := 11) sc.nd rfl (by first | exact Or.inl rfl | exact Or.inr rfl))) (gs_nil))))) (ss_cons (s_ife (t_cmp (op_neD hr.units) ok_ne (d_op (d_bin op_mulA ok_mul (d_varO (pv 10)) (d_idxO (d_op (d_call o.o_round_of hr rfl t.m_round_of t.F_round_of.kp t.B_round_of (a_val (d_var (pv 3)) (a_nil)))) (d_int)))) (d_op (d_bin op_mulA ok_mul (d_varO (pv 11)) (d_idxO (d_op (d_call o.o_round_of hr rfl t.m_round_of t.F_round_of.kp t.B_round_of (a_val (d_var (pv 3)) (a_nil)))) (d_int)))) (nomark _)) (ss_one (s_ret (d_bl))) (ss_nil)) (ss_one (s_ife (t_w (w_or (t_cmp op_gt ok_gt (d_op (d_call o.o_left hr rfl t.m_left t.F_left.kp t.B_left (a_val (d_var (pv 5)) (a_val (d_bin op_pow ok_pow (d_op (d_int)) (d_op (d_int))) (a_nil))))) (d_op (d_call o.o_left hr rfl t.m_left t.F_left.kp t.B_left (a_val (d_var (pv 3)) (a_val (d_bin op_pow ok_pow (d_op (d_int)) (d_op (d_int))) (a_nil))))) (nomark _)) (w_or1 (t_cmp op_gt ok_gt (d_op (d_call o.o_left hr rfl t.m_left t.F_left.kp t.B_left (a_val (d_var (pv 6)) (a_val (d_bin op_pow ok_pow (d_op (d_int)) (d_op (d_int))) (a_nil))))) (d_op (d_call o.o_left hr rfl t.m_left t.F_left.kp t.B_left (a_val (d_var (pv 5)) (a_val (d_bin op_pow ok_pow (d_op (d_int)) (d_op (d_int))) (a_nil))))) (nomark _))))) (ss_one (s_ret (d_bl))) (ss_nil)))))))))) (ss_one (s_ret (d_bl))))
theorem all_ok (t : Txt K mg) : ∀ d, Oks P w K mg base t d
  | 0 => ⟨ok_zero, ok_zero, ok_zero, ok_zero, ok_zero, ok_zero, ok_zero, ok_zero, ok_zero, ok_zero, ok_zero, ok_zero, ok_zero, ok_zero, ok_zero, ok_zero, ok_zero, ok_zero, ok_zero, ok_zero, ok_zero, ok_zero, ok_zero, ok_zero, ok_zero, ok_zero, ok_zero, ok_zero, ok_zero, ok_zero, ok_zero, ok_zero, ok_zero, ok_zero⟩
  | d + 1 => have o := all_ok t d; ⟨ok_is_out t o, ok_is_name t o, ok_is_door t o, ok_is_room t o, ok_need_room t o, ok_all_paths t o, ok_need_house t o, ok_left_by t o, ok_pushes_by t o, ok_walkers_by t o, ok_leavings_by t o, ok_path_of t o, ok_names_by t o, ok_names_in t o, ok_need_far t o, ok_left t o, ok_leaving t o, ok_named t o, ok_clean t o, ok_greatest_both t o, ok_least_both t o, ok_leavings_in t o, ok_round_of t o, ok_mean t o, ok_law_mix t o, ok_law_next t o, ok_law_door t o, ok_law_room t o, ok_law_house t o, ok_law_harder t o, ok_law_one_more t o, ok_law_small t o, ok_law_openings t o, ok_law t o⟩
theorem all_mk {l : PySem.W.OpenLaw} {w : World} {K : PySem.W.Frag} {h : Heap} {mg : Str → Option Value} {fa : Addr} (X : K.In h) (G : h.Ns mainGlobals mg) (hfa : mg "law" = some (.ref fa))
    {a0 : Addr} {od0 an0 : Option Addr} {sl0 : Array (Option Value)} {oc0 kV0 dc0 pm0 cd0 ct0 : Value}
    {a1 : Addr} {od1 an1 : Option Addr} {sl1 : Array (Option Value)} {oc1 kV1 dc1 pm1 cd1 ct1 : Value}
    {a2 : Addr} {od2 an2 : Option Addr} {sl2 : Array (Option Value)} {oc2 kV2 dc2 pm2 cd2 ct2 : Value}
    {a3 : Addr} {od3 an3 : Option Addr} {sl3 : Array (Option Value)} {oc3 kV3 dc3 pm3 cd3 ct3 : Value}
    {a4 : Addr} {od4 an4 : Option Addr} {sl4 : Array (Option Value)} {oc4 kV4 dc4 pm4 cd4 ct4 : Value}
    {a5 : Addr} {od5 an5 : Option Addr} {sl5 : Array (Option Value)} {oc5 kV5 dc5 pm5 cd5 ct5 : Value}
    {D5 E5 : Addr} {oD5 oE5 : Obj} {nD5 nE5 : Nat}
    {a6 : Addr} {od6 an6 : Option Addr} {sl6 : Array (Option Value)} {oc6 kV6 dc6 pm6 cd6 ct6 : Value}
    {a7 : Addr} {od7 an7 : Option Addr} {sl7 : Array (Option Value)} {oc7 kV7 dc7 pm7 cd7 ct7 : Value}
    {a8 : Addr} {od8 an8 : Option Addr} {sl8 : Array (Option Value)} {oc8 kV8 dc8 pm8 cd8 ct8 : Value}
    {a9 : Addr} {od9 an9 : Option Addr} {sl9 : Array (Option Value)} {oc9 kV9 dc9 pm9 cd9 ct9 : Value}
    {a10 : Addr} {od10 an10 : Option Addr} {sl10 : Array (Option Value)} {oc10 kV10 dc10 pm10 cd10 ct10 : Value}
    {a11 : Addr} {od11 an11 : Option Addr} {sl11 : Array (Option Value)} {oc11 kV11 dc11 pm11 cd11 ct11 : Value}
    {a12 : Addr} {od12 an12 : Option Addr} {sl12 : Array (Option Value)} {oc12 kV12 dc12 pm12 cd12 ct12 : Value}
    {a13 : Addr} {od13 an13 : Option Addr} {sl13 : Array (Option Value)} {oc13 kV13 dc13 pm13 cd13 ct13 : Value}
    {a14 : Addr} {od14 an14 : Option Addr} {sl14 : Array (Option Value)} {oc14 kV14 dc14 pm14 cd14 ct14 : Value}
    {a15 : Addr} {od15 an15 : Option Addr} {sl15 : Array (Option Value)} {oc15 kV15 dc15 pm15 cd15 ct15 : Value}
    {a16 : Addr} {od16 an16 : Option Addr} {sl16 : Array (Option Value)} {oc16 kV16 dc16 pm16 cd16 ct16 : Value}
    {a17 : Addr} {od17 an17 : Option Addr} {sl17 : Array (Option Value)} {oc17 kV17 dc17 pm17 cd17 ct17 : Value}
    {a18 : Addr} {od18 an18 : Option Addr} {sl18 : Array (Option Value)} {oc18 kV18 dc18 pm18 cd18 ct18 : Value}
    {a19 : Addr} {od19 an19 : Option Addr} {sl19 : Array (Option Value)} {oc19 kV19 dc19 pm19 cd19 ct19 : Value}
    {a20 : Addr} {od20 an20 : Option Addr} {sl20 : Array (Option Value)} {oc20 kV20 dc20 pm20 cd20 ct20 : Value}
    {a21 : Addr} {od21 an21 : Option Addr} {sl21 : Array (Option Value)} {oc21 kV21 dc21 pm21 cd21 ct21 : Value}
    {a22 : Addr} {od22 an22 : Option Addr} {sl22 : Array (Option Value)} {oc22 kV22 dc22 pm22 cd22 ct22 : Value}
    {a23 : Addr} {od23 an23 : Option Addr} {sl23 : Array (Option Value)} {oc23 kV23 dc23 pm23 cd23 ct23 : Value}
    {a24 : Addr} {od24 an24 : Option Addr} {sl24 : Array (Option Value)} {oc24 kV24 dc24 pm24 cd24 ct24 : Value}
    {a25 : Addr} {od25 an25 : Option Addr} {sl25 : Array (Option Value)} {oc25 kV25 dc25 pm25 cd25 ct25 : Value}
    {a26 : Addr} {od26 an26 : Option Addr} {sl26 : Array (Option Value)} {oc26 kV26 dc26 pm26 cd26 ct26 : Value}
    {a27 : Addr} {od27 an27 : Option Addr} {sl27 : Array (Option Value)} {oc27 kV27 dc27 pm27 cd27 ct27 : Value}
    {a28 : Addr} {od28 an28 : Option Addr} {sl28 : Array (Option Value)} {oc28 kV28 dc28 pm28 cd28 ct28 : Value}
    {a29 : Addr} {od29 an29 : Option Addr} {sl29 : Array (Option Value)} {oc29 kV29 dc29 pm29 cd29 ct29 : Value}
    {a30 : Addr} {od30 an30 : Option Addr} {sl30 : Array (Option Value)} {oc30 kV30 dc30 pm30 cd30 ct30 : Value}
    {a31 : Addr} {od31 an31 : Option Addr} {sl31 : Array (Option Value)} {oc31 kV31 dc31 pm31 cd31 ct31 : Value}
    {a32 : Addr} {od32 an32 : Option Addr} {sl32 : Array (Option Value)} {oc32 kV32 dc32 pm32 cd32 ct32 : Value}
    {a33 : Addr} {od33 an33 : Option Addr} {sl33 : Array (Option Value)} {oc33 kV33 dc33 pm33 cd33 ct33 : Value}
    {u_LETTERS : Value}
    {u_MOST_DOORS : Value}
    {u_MOST_FAR : Value}
    {u_MOST_IN_ALL : Value}
    {u_MOST_LEAVINGS : Value}
    {u_MOST_LETTERS : Value}
    {u_MOST_NEED : Value}
    (h0 : PySem.W.nsIn K mainGlobals "is_out" = some (some (.ref a0)))
    (l0 : K.lookup a0 = some ⟨oc0, od0, .func (PySem.W.fnOf "is_out" "is_out" (defArgs s_is_out) (defBody s_is_out) (defScope s_is_out) .none kV0 dc0 pm0 an0 cd0 ct0), sl0⟩)
    (c0 : PySem.W.codeIn K cd0 "is_out" = true)
    (k0 : PySem.W.keepIn K (.ref a0) = true)
    (h1 : PySem.W.nsIn K mainGlobals "is_name" = some (some (.ref a1)))
    (l1 : K.lookup a1 = some ⟨oc1, od1, .func (PySem.W.fnOf "is_name" "is_name" (defArgs s_is_name) (defBody s_is_name) (defScope s_is_name) .none kV1 dc1 pm1 an1 cd1 ct1), sl1⟩)
    (c1 : PySem.W.codeIn K cd1 "is_name" = true)
    (k1 : PySem.W.keepIn K (.ref a1) = true)
    (h2 : PySem.W.nsIn K mainGlobals "is_door" = some (some (.ref a2)))
    (l2 : K.lookup a2 = some ⟨oc2, od2, .func (PySem.W.fnOf "is_door" "is_door" (defArgs s_is_door) (defBody s_is_door) (defScope s_is_door) .none kV2 dc2 pm2 an2 cd2 ct2), sl2⟩)
    (c2 : PySem.W.codeIn K cd2 "is_door" = true)
    (k2 : PySem.W.keepIn K (.ref a2) = true)
    (h3 : PySem.W.nsIn K mainGlobals "is_room" = some (some (.ref a3)))
    (l3 : K.lookup a3 = some ⟨oc3, od3, .func (PySem.W.fnOf "is_room" "is_room" (defArgs s_is_room) (defBody s_is_room) (defScope s_is_room) .none kV3 dc3 pm3 an3 cd3 ct3), sl3⟩)
    (c3 : PySem.W.codeIn K cd3 "is_room" = true)
    (k3 : PySem.W.keepIn K (.ref a3) = true)
    (h4 : PySem.W.nsIn K mainGlobals "need_room" = some (some (.ref a4)))
    (l4 : K.lookup a4 = some ⟨oc4, od4, .func (PySem.W.fnOf "need_room" "need_room" (defArgs s_need_room) (defBody s_need_room) (defScope s_need_room) .none kV4 dc4 pm4 an4 cd4 ct4), sl4⟩)
    (c4 : PySem.W.codeIn K cd4 "need_room" = true)
    (k4 : PySem.W.keepIn K (.ref a4) = true)
    (h5 : PySem.W.nsIn K mainGlobals "all_paths" = some (some (.ref a5)))
    (l5 : K.lookup a5 = some ⟨oc5, od5, .func (PySem.W.fnOf "all_paths" "all_paths" (defArgs s_all_paths) (defBody s_all_paths) (defScope s_all_paths) (.ref D5) kV5 dc5 pm5 an5 cd5 ct5), sl5⟩)
    (c5 : PySem.W.codeIn K cd5 "all_paths" = true)
    (k5 : PySem.W.keepIn K (.ref a5) = true)
    (ld5 : K.lookup D5 = some oD5) (dd5 : oD5.data = .seq #[.ref E5] nD5) (le5 : K.lookup E5 = some oE5) (ce5 : oE5.cls = .type "tuple") (de5 : oE5.data = .seq #[] nE5)
    (h6 : PySem.W.nsIn K mainGlobals "need_house" = some (some (.ref a6)))
    (l6 : K.lookup a6 = some ⟨oc6, od6, .func (PySem.W.fnOf "need_house" "need_house" (defArgs s_need_house) (defBody s_need_house) (defScope s_need_house) .none kV6 dc6 pm6 an6 cd6 ct6), sl6⟩)
    (c6 : PySem.W.codeIn K cd6 "need_house" = true)
    (k6 : PySem.W.keepIn K (.ref a6) = true)
    (h7 : PySem.W.nsIn K mainGlobals "left_by" = some (some (.ref a7)))
    (l7 : K.lookup a7 = some ⟨oc7, od7, .func (PySem.W.fnOf "left_by" "left_by" (defArgs s_left_by) (defBody s_left_by) (defScope s_left_by) .none kV7 dc7 pm7 an7 cd7 ct7), sl7⟩)
    (c7 : PySem.W.codeIn K cd7 "left_by" = true)
    (k7 : PySem.W.keepIn K (.ref a7) = true)
    (h8 : PySem.W.nsIn K mainGlobals "pushes_by" = some (some (.ref a8)))
    (l8 : K.lookup a8 = some ⟨oc8, od8, .func (PySem.W.fnOf "pushes_by" "pushes_by" (defArgs s_pushes_by) (defBody s_pushes_by) (defScope s_pushes_by) .none kV8 dc8 pm8 an8 cd8 ct8), sl8⟩)
    (c8 : PySem.W.codeIn K cd8 "pushes_by" = true)
    (k8 : PySem.W.keepIn K (.ref a8) = true)
    (h9 : PySem.W.nsIn K mainGlobals "walkers_by" = some (some (.ref a9)))
    (l9 : K.lookup a9 = some ⟨oc9, od9, .func (PySem.W.fnOf "walkers_by" "walkers_by" (defArgs s_walkers_by) (defBody s_walkers_by) (defScope s_walkers_by) .none kV9 dc9 pm9 an9 cd9 ct9), sl9⟩)
    (c9 : PySem.W.codeIn K cd9 "walkers_by" = true)
    (k9 : PySem.W.keepIn K (.ref a9) = true)
    (h10 : PySem.W.nsIn K mainGlobals "leavings_by" = some (some (.ref a10)))
    (l10 : K.lookup a10 = some ⟨oc10, od10, .func (PySem.W.fnOf "leavings_by" "leavings_by" (defArgs s_leavings_by) (defBody s_leavings_by) (defScope s_leavings_by) .none kV10 dc10 pm10 an10 cd10 ct10), sl10⟩)
    (c10 : PySem.W.codeIn K cd10 "leavings_by" = true)
    (k10 : PySem.W.keepIn K (.ref a10) = true)
    (h11 : PySem.W.nsIn K mainGlobals "path_of" = some (some (.ref a11)))
    (l11 : K.lookup a11 = some ⟨oc11, od11, .func (PySem.W.fnOf "path_of" "path_of" (defArgs s_path_of) (defBody s_path_of) (defScope s_path_of) .none kV11 dc11 pm11 an11 cd11 ct11), sl11⟩)
    (c11 : PySem.W.codeIn K cd11 "path_of" = true)
    (k11 : PySem.W.keepIn K (.ref a11) = true)
    (h12 : PySem.W.nsIn K mainGlobals "names_by" = some (some (.ref a12)))
    (l12 : K.lookup a12 = some ⟨oc12, od12, .func (PySem.W.fnOf "names_by" "names_by" (defArgs s_names_by) (defBody s_names_by) (defScope s_names_by) .none kV12 dc12 pm12 an12 cd12 ct12), sl12⟩)
    (c12 : PySem.W.codeIn K cd12 "names_by" = true)
    (k12 : PySem.W.keepIn K (.ref a12) = true)
    (h13 : PySem.W.nsIn K mainGlobals "names_in" = some (some (.ref a13)))
    (l13 : K.lookup a13 = some ⟨oc13, od13, .func (PySem.W.fnOf "names_in" "names_in" (defArgs s_names_in) (defBody s_names_in) (defScope s_names_in) .none kV13 dc13 pm13 an13 cd13 ct13), sl13⟩)
    (c13 : PySem.W.codeIn K cd13 "names_in" = true)
    (k13 : PySem.W.keepIn K (.ref a13) = true)
    (h14 : PySem.W.nsIn K mainGlobals "need_far" = some (some (.ref a14)))
    (l14 : K.lookup a14 = some ⟨oc14, od14, .func (PySem.W.fnOf "need_far" "need_far" (defArgs s_need_far) (defBody s_need_far) (defScope s_need_far) .none kV14 dc14 pm14 an14 cd14 ct14), sl14⟩)
    (c14 : PySem.W.codeIn K cd14 "need_far" = true)
    (k14 : PySem.W.keepIn K (.ref a14) = true)
    (h15 : PySem.W.nsIn K mainGlobals "left" = some (some (.ref a15)))
    (l15 : K.lookup a15 = some ⟨oc15, od15, .func (PySem.W.fnOf "left" "left" (defArgs s_left) (defBody s_left) (defScope s_left) .none kV15 dc15 pm15 an15 cd15 ct15), sl15⟩)
    (c15 : PySem.W.codeIn K cd15 "left" = true)
    (k15 : PySem.W.keepIn K (.ref a15) = true)
    (h16 : PySem.W.nsIn K mainGlobals "leaving" = some (some (.ref a16)))
    (l16 : K.lookup a16 = some ⟨oc16, od16, .func (PySem.W.fnOf "leaving" "leaving" (defArgs s_leaving) (defBody s_leaving) (defScope s_leaving) .none kV16 dc16 pm16 an16 cd16 ct16), sl16⟩)
    (c16 : PySem.W.codeIn K cd16 "leaving" = true)
    (k16 : PySem.W.keepIn K (.ref a16) = true)
    (h17 : PySem.W.nsIn K mainGlobals "named" = some (some (.ref a17)))
    (l17 : K.lookup a17 = some ⟨oc17, od17, .func (PySem.W.fnOf "named" "named" (defArgs s_named) (defBody s_named) (defScope s_named) .none kV17 dc17 pm17 an17 cd17 ct17), sl17⟩)
    (c17 : PySem.W.codeIn K cd17 "named" = true)
    (k17 : PySem.W.keepIn K (.ref a17) = true)
    (h18 : PySem.W.nsIn K mainGlobals "clean" = some (some (.ref a18)))
    (l18 : K.lookup a18 = some ⟨oc18, od18, .func (PySem.W.fnOf "clean" "clean" (defArgs s_clean) (defBody s_clean) (defScope s_clean) .none kV18 dc18 pm18 an18 cd18 ct18), sl18⟩)
    (c18 : PySem.W.codeIn K cd18 "clean" = true)
    (k18 : PySem.W.keepIn K (.ref a18) = true)
    (h19 : PySem.W.nsIn K mainGlobals "greatest_both" = some (some (.ref a19)))
    (l19 : K.lookup a19 = some ⟨oc19, od19, .func (PySem.W.fnOf "greatest_both" "greatest_both" (defArgs s_greatest_both) (defBody s_greatest_both) (defScope s_greatest_both) .none kV19 dc19 pm19 an19 cd19 ct19), sl19⟩)
    (c19 : PySem.W.codeIn K cd19 "greatest_both" = true)
    (k19 : PySem.W.keepIn K (.ref a19) = true)
    (h20 : PySem.W.nsIn K mainGlobals "least_both" = some (some (.ref a20)))
    (l20 : K.lookup a20 = some ⟨oc20, od20, .func (PySem.W.fnOf "least_both" "least_both" (defArgs s_least_both) (defBody s_least_both) (defScope s_least_both) .none kV20 dc20 pm20 an20 cd20 ct20), sl20⟩)
    (c20 : PySem.W.codeIn K cd20 "least_both" = true)
    (k20 : PySem.W.keepIn K (.ref a20) = true)
    (h21 : PySem.W.nsIn K mainGlobals "leavings_in" = some (some (.ref a21)))
    (l21 : K.lookup a21 = some ⟨oc21, od21, .func (PySem.W.fnOf "leavings_in" "leavings_in" (defArgs s_leavings_in) (defBody s_leavings_in) (defScope s_leavings_in) .none kV21 dc21 pm21 an21 cd21 ct21), sl21⟩)
    (c21 : PySem.W.codeIn K cd21 "leavings_in" = true)
    (k21 : PySem.W.keepIn K (.ref a21) = true)
    (h22 : PySem.W.nsIn K mainGlobals "round_of" = some (some (.ref a22)))
    (l22 : K.lookup a22 = some ⟨oc22, od22, .func (PySem.W.fnOf "round_of" "round_of" (defArgs s_round_of) (defBody s_round_of) (defScope s_round_of) .none kV22 dc22 pm22 an22 cd22 ct22), sl22⟩)
    (c22 : PySem.W.codeIn K cd22 "round_of" = true)
    (k22 : PySem.W.keepIn K (.ref a22) = true)
    (h23 : PySem.W.nsIn K mainGlobals "mean" = some (some (.ref a23)))
    (l23 : K.lookup a23 = some ⟨oc23, od23, .func (PySem.W.fnOf "mean" "mean" (defArgs s_mean) (defBody s_mean) (defScope s_mean) .none kV23 dc23 pm23 an23 cd23 ct23), sl23⟩)
    (c23 : PySem.W.codeIn K cd23 "mean" = true)
    (k23 : PySem.W.keepIn K (.ref a23) = true)
    (h24 : PySem.W.nsIn K mainGlobals "_law_mix" = some (some (.ref a24)))
    (l24 : K.lookup a24 = some ⟨oc24, od24, .func (PySem.W.fnOf "_law_mix" "_law_mix" (defArgs s_law_mix) (defBody s_law_mix) (defScope s_law_mix) .none kV24 dc24 pm24 an24 cd24 ct24), sl24⟩)
    (c24 : PySem.W.codeIn K cd24 "_law_mix" = true)
    (k24 : PySem.W.keepIn K (.ref a24) = true)
    (h25 : PySem.W.nsIn K mainGlobals "_law_next" = some (some (.ref a25)))
    (l25 : K.lookup a25 = some ⟨oc25, od25, .func (PySem.W.fnOf "_law_next" "_law_next" (defArgs s_law_next) (defBody s_law_next) (defScope s_law_next) .none kV25 dc25 pm25 an25 cd25 ct25), sl25⟩)
    (c25 : PySem.W.codeIn K cd25 "_law_next" = true)
    (k25 : PySem.W.keepIn K (.ref a25) = true)
    (h26 : PySem.W.nsIn K mainGlobals "_law_door" = some (some (.ref a26)))
    (l26 : K.lookup a26 = some ⟨oc26, od26, .func (PySem.W.fnOf "_law_door" "_law_door" (defArgs s_law_door) (defBody s_law_door) (defScope s_law_door) .none kV26 dc26 pm26 an26 cd26 ct26), sl26⟩)
    (c26 : PySem.W.codeIn K cd26 "_law_door" = true)
    (k26 : PySem.W.keepIn K (.ref a26) = true)
    (h27 : PySem.W.nsIn K mainGlobals "_law_room" = some (some (.ref a27)))
    (l27 : K.lookup a27 = some ⟨oc27, od27, .func (PySem.W.fnOf "_law_room" "_law_room" (defArgs s_law_room) (defBody s_law_room) (defScope s_law_room) .none kV27 dc27 pm27 an27 cd27 ct27), sl27⟩)
    (c27 : PySem.W.codeIn K cd27 "_law_room" = true)
    (k27 : PySem.W.keepIn K (.ref a27) = true)
    (h28 : PySem.W.nsIn K mainGlobals "_law_house" = some (some (.ref a28)))
    (l28 : K.lookup a28 = some ⟨oc28, od28, .func (PySem.W.fnOf "_law_house" "_law_house" (defArgs s_law_house) (defBody s_law_house) (defScope s_law_house) .none kV28 dc28 pm28 an28 cd28 ct28), sl28⟩)
    (c28 : PySem.W.codeIn K cd28 "_law_house" = true)
    (k28 : PySem.W.keepIn K (.ref a28) = true)
    (h29 : PySem.W.nsIn K mainGlobals "_law_harder" = some (some (.ref a29)))
    (l29 : K.lookup a29 = some ⟨oc29, od29, .func (PySem.W.fnOf "_law_harder" "_law_harder" (defArgs s_law_harder) (defBody s_law_harder) (defScope s_law_harder) .none kV29 dc29 pm29 an29 cd29 ct29), sl29⟩)
    (c29 : PySem.W.codeIn K cd29 "_law_harder" = true)
    (k29 : PySem.W.keepIn K (.ref a29) = true)
    (h30 : PySem.W.nsIn K mainGlobals "_law_one_more" = some (some (.ref a30)))
    (l30 : K.lookup a30 = some ⟨oc30, od30, .func (PySem.W.fnOf "_law_one_more" "_law_one_more" (defArgs s_law_one_more) (defBody s_law_one_more) (defScope s_law_one_more) .none kV30 dc30 pm30 an30 cd30 ct30), sl30⟩)
    (c30 : PySem.W.codeIn K cd30 "_law_one_more" = true)
    (k30 : PySem.W.keepIn K (.ref a30) = true)
    (h31 : PySem.W.nsIn K mainGlobals "_law_small" = some (some (.ref a31)))
    (l31 : K.lookup a31 = some ⟨oc31, od31, .func (PySem.W.fnOf "_law_small" "_law_small" (defArgs s_law_small) (defBody s_law_small) (defScope s_law_small) .none kV31 dc31 pm31 an31 cd31 ct31), sl31⟩)
    (c31 : PySem.W.codeIn K cd31 "_law_small" = true)
    (k31 : PySem.W.keepIn K (.ref a31) = true)
    (h32 : PySem.W.nsIn K mainGlobals "_law_openings" = some (some (.ref a32)))
    (l32 : K.lookup a32 = some ⟨oc32, od32, .func (PySem.W.fnOf "_law_openings" "_law_openings" (defArgs s_law_openings) (defBody s_law_openings) (defScope s_law_openings) .none kV32 dc32 pm32 an32 cd32 ct32), sl32⟩)
    (c32 : PySem.W.codeIn K cd32 "_law_openings" = true)
    (k32 : PySem.W.keepIn K (.ref a32) = true)
    (h33 : PySem.W.nsIn K mainGlobals "law" = some (some (.ref a33)))
    (l33 : K.lookup a33 = some ⟨oc33, od33, .func (PySem.W.fnOf "law" "law" (defArgs s_law) (defBody s_law) (defScope s_law) .none kV33 dc33 pm33 an33 cd33 ct33), sl33⟩)
    (c33 : PySem.W.codeIn K cd33 "law" = true)
    (k33 : PySem.W.keepIn K (.ref a33) = true)
    (z_all : PySem.W.nsIn K mainGlobals "all" = some none)
    (z_enumerate : PySem.W.nsIn K mainGlobals "enumerate" = some none)
    (z_isinstance : PySem.W.nsIn K mainGlobals "isinstance" = some none)
    (z_len : PySem.W.nsIn K mainGlobals "len" = some none)
    (z_list : PySem.W.nsIn K mainGlobals "list" = some none)
    (z_max : PySem.W.nsIn K mainGlobals "max" = some none)
    (z_min : PySem.W.nsIn K mainGlobals "min" = some none)
    (z_range : PySem.W.nsIn K mainGlobals "range" = some none)
    (z_str : PySem.W.nsIn K mainGlobals "str" = some none)
    (z_sum : PySem.W.nsIn K mainGlobals "sum" = some none)
    (z_tuple : PySem.W.nsIn K mainGlobals "tuple" = some none)
    (g_LETTERS : PySem.W.nsIn K mainGlobals "LETTERS" = some (some u_LETTERS)) (r_LETTERS : RelV (.str (Str.ofString "abcdefghijklmnopqrstuvwxyz")) u_LETTERS)
    (g_MOST_DOORS : PySem.W.nsIn K mainGlobals "MOST_DOORS" = some (some u_MOST_DOORS)) (r_MOST_DOORS : RelV (.int 4) u_MOST_DOORS)
    (g_MOST_FAR : PySem.W.nsIn K mainGlobals "MOST_FAR" = some (some u_MOST_FAR)) (r_MOST_FAR : RelV (.int 1000000000000000000) u_MOST_FAR)
    (g_MOST_IN_ALL : PySem.W.nsIn K mainGlobals "MOST_IN_ALL" = some (some u_MOST_IN_ALL)) (r_MOST_IN_ALL : RelV (.int 12) u_MOST_IN_ALL)
    (g_MOST_LEAVINGS : PySem.W.nsIn K mainGlobals "MOST_LEAVINGS" = some (some u_MOST_LEAVINGS)) (r_MOST_LEAVINGS : RelV (.int 1000000000000000) u_MOST_LEAVINGS)
    (g_MOST_LETTERS : PySem.W.nsIn K mainGlobals "MOST_LETTERS" = some (some u_MOST_LETTERS)) (r_MOST_LETTERS : RelV (.int 6) u_MOST_LETTERS)
    (g_MOST_NEED : PySem.W.nsIn K mainGlobals "MOST_NEED" = some (some u_MOST_NEED)) (r_MOST_NEED : RelV (.int 99) u_MOST_NEED)
    : ∃ fd : FuncData, (∀ (s : Shared) (v : Value), BindsTo s fd ⟨[v], []⟩ [("_law_script", v)]) ∧ ∀ base : Heap, K.In base → base.Ns mainGlobals mg → FnOk l.prog w K mg base CX0 64 fa fd ["_law_script"] (spD K (CC T0 WW 64) f_law_k16) := by
  have e := hfa.symm.trans (PySem.W.mg_of X G h33)
  cases e
  have F0 := fun_mk (st := s_is_out) l0 c0 k0
  have b0 := F0.binds (ps := ["room"]) fun _ _ _ _ _ _ us hl => match us, hl with | [_], _ => rfl
  have F1 := fun_mk (st := s_is_name) l1 c1 k1
  have b1 := F1.binds (ps := ["word"]) fun _ _ _ _ _ _ us hl => match us, hl with | [_], _ => rfl
  have F2 := fun_mk (st := s_is_door) l2 c2 k2
  have b2 := F2.binds (ps := ["door"]) fun _ _ _ _ _ _ us hl => match us, hl with | [_], _ => rfl
  have F3 := fun_mk (st := s_is_room) l3 c3 k3
  have b3 := F3.binds (ps := ["room"]) fun _ _ _ _ _ _ us hl => match us, hl with | [_], _ => rfl
  have F4 := fun_mk (st := s_need_room) l4 c4 k4
  have b4 := F4.binds (ps := ["room", "path"]) fun _ _ _ _ _ _ us hl => match us, hl with | [_, _], _ => rfl
  have F5 : FunD K "all_paths" "all_paths" (defArgs s_all_paths) (defBody s_all_paths) (defScope s_all_paths) [.ref E5] [] a5 (PySem.W.fnOf "all_paths" "all_paths" (defArgs s_all_paths) (defBody s_all_paths) (defScope s_all_paths) (.ref D5) kV5 dc5 pm5 an5 cd5 ct5) := ⟨⟨oc5, od5, _, kV5, dc5, pm5, an5, cd5, ct5, sl5, rfl, l5, c5, .inr ⟨by simp, D5, oD5, [.ref E5], nD5, rfl, ld5, dd5, .cons rfl .nil⟩, .inl rfl⟩, k5⟩
  have b5 : Binds K (PySem.W.fnOf "all_paths" "all_paths" (defArgs s_all_paths) (defBody s_all_paths) (defScope s_all_paths) (.ref D5) kV5 dc5 pm5 an5 cd5 ct5) ["room", "path"] [] := by
    obtain ⟨ds, h1, h2⟩ := F5.binds1 (ps := ["room", "path"]) 2 1 (by simp) rfl fun T kV doc pm an cdv ct us its hu hi => match us, its, hu, hi with | [_, _], [_], _, _ => ⟨_, rfl, rfl⟩
    cases h1
    exact h2
  have Q5 : ∃ du, Binds K (PySem.W.fnOf "all_paths" "all_paths" (defArgs s_all_paths) (defBody s_all_paths) (defScope s_all_paths) (.ref D5) kV5 dc5 pm5 an5 cd5 ct5) ["room", "path"] [du] ∧ RelV (.ref E5) du := by
    obtain ⟨ds, h1, h2⟩ := F5.binds1 (ps := ["room", "path"]) 1 0 (by simp) rfl fun T kV doc pm an cdv ct us its hu hi => match us, its, hu, hi with | [_], [_], _, _ => ⟨_, rfl, rfl⟩
    cases h1 with
    | cons r q => cases q; exact ⟨_, h2, r⟩
  have F6 := fun_mk (st := s_need_house) l6 c6 k6
  have b6 := F6.binds (ps := ["house"]) fun _ _ _ _ _ _ us hl => match us, hl with | [_], _ => rfl
  have F7 := fun_mk (st := s_left_by) l7 c7 k7
  have b7 := F7.binds (ps := ["room", "door", "leavings"]) fun _ _ _ _ _ _ us hl => match us, hl with | [_, _, _], _ => rfl
  have F8 := fun_mk (st := s_pushes_by) l8 c8 k8
  have b8 := F8.binds (ps := ["door", "openings"]) fun _ _ _ _ _ _ us hl => match us, hl with | [_, _], _ => rfl
  have F9 := fun_mk (st := s_walkers_by) l9 c9 k9
  have b9 := F9.binds (ps := ["room", "leavings"]) fun _ _ _ _ _ _ us hl => match us, hl with | [_, _], _ => rfl
  have F10 := fun_mk (st := s_leavings_by) l10 c10 k10
  have b10 := F10.binds (ps := ["room", "walkers"]) fun _ _ _ _ _ _ us hl => match us, hl with | [_, _], _ => rfl
  have F11 := fun_mk (st := s_path_of) l11 c11 k11
  have b11 := F11.binds (ps := ["room", "leaving"]) fun _ _ _ _ _ _ us hl => match us, hl with | [_, _], _ => rfl
  have F12 := fun_mk (st := s_names_by) l12 c12 k12
  have b12 := F12.binds (ps := ["room", "name", "leavings"]) fun _ _ _ _ _ _ us hl => match us, hl with | [_, _, _], _ => rfl
  have F13 := fun_mk (st := s_names_in) l13 c13 k13
  have b13 := F13.binds (ps := ["room"]) fun _ _ _ _ _ _ us hl => match us, hl with | [_], _ => rfl
  have F14 := fun_mk (st := s_need_far) l14 c14 k14
  have b14 := F14.binds (ps := ["number", "least", "most"]) fun _ _ _ _ _ _ us hl => match us, hl with | [_, _, _], _ => rfl
  have F15 := fun_mk (st := s_left) l15 c15 k15
  have b15 := F15.binds (ps := ["house", "many"]) fun _ _ _ _ _ _ us hl => match us, hl with | [_, _], _ => rfl
  have F16 := fun_mk (st := s_leaving) l16 c16 k16
  have b16 := F16.binds (ps := ["house", "number"]) fun _ _ _ _ _ _ us hl => match us, hl with | [_, _], _ => rfl
  have F17 := fun_mk (st := s_named) l17 c17 k17
  have b17 := F17.binds (ps := ["house", "name", "number"]) fun _ _ _ _ _ _ us hl => match us, hl with | [_, _, _], _ => rfl
  have F18 := fun_mk (st := s_clean) l18 c18 k18
  have b18 := F18.binds (ps := ["room"]) fun _ _ _ _ _ _ us hl => match us, hl with | [_], _ => rfl
  have F19 := fun_mk (st := s_greatest_both) l19 c19 k19
  have b19 := F19.binds (ps := ["one", "other"]) fun _ _ _ _ _ _ us hl => match us, hl with | [_, _], _ => rfl
  have F20 := fun_mk (st := s_least_both) l20 c20 k20
  have b20 := F20.binds (ps := ["one", "other"]) fun _ _ _ _ _ _ us hl => match us, hl with | [_, _], _ => rfl
  have F21 := fun_mk (st := s_leavings_in) l21 c21 k21
  have b21 := F21.binds (ps := ["room"]) fun _ _ _ _ _ _ us hl => match us, hl with | [_], _ => rfl
  have F22 := fun_mk (st := s_round_of) l22 c22 k22
  have b22 := F22.binds (ps := ["house"]) fun _ _ _ _ _ _ us hl => match us, hl with | [_], _ => rfl
  have F23 := fun_mk (st := s_mean) l23 c23 k23
  have b23 := F23.binds (ps := ["house"]) fun _ _ _ _ _ _ us hl => match us, hl with | [_], _ => rfl
  have F24 := fun_mk (st := s_law_mix) l24 c24 k24
  have b24 := F24.binds (ps := ["_law_script", "_law_seed"]) fun _ _ _ _ _ _ us hl => match us, hl with | [_, _], _ => rfl
  have F25 := fun_mk (st := s_law_next) l25 c25 k25
  have b25 := F25.binds (ps := ["_law_h", "_law_many"]) fun _ _ _ _ _ _ us hl => match us, hl with | [_, _], _ => rfl
  have F26 := fun_mk (st := s_law_door) l26 c26 k26
  have b26 := F26.binds (ps := ["_law_h", "_law_few"]) fun _ _ _ _ _ _ us hl => match us, hl with | [_, _], _ => rfl
  have F27 := fun_mk (st := s_law_room) l27 c27 k27
  have b27 := F27.binds (ps := ["_law_h", "_law_spare", "_law_deep", "_law_few"]) fun _ _ _ _ _ _ us hl => match us, hl with | [_, _, _, _], _ => rfl
  have F28 := fun_mk (st := s_law_house) l28 c28 k28
  have b28 := F28.binds (ps := ["_law_h", "_law_few"]) fun _ _ _ _ _ _ us hl => match us, hl with | [_, _], _ => rfl
  have F29 := fun_mk (st := s_law_harder) l29 c29 k29
  have b29 := F29.binds (ps := ["_law_h", "_law_room_here", "_law_most"]) fun _ _ _ _ _ _ us hl => match us, hl with | [_, _, _], _ => rfl
  have F30 := fun_mk (st := s_law_one_more) l30 c30 k30
  have b30 := F30.binds (ps := ["_law_room_here"]) fun _ _ _ _ _ _ us hl => match us, hl with | [_], _ => rfl
  have F31 := fun_mk (st := s_law_small) l31 c31 k31
  have b31 := F31.binds (ps := ["_law_room_here"]) fun _ _ _ _ _ _ us hl => match us, hl with | [_], _ => rfl
  have F32 := fun_mk (st := s_law_openings) l32 c32 k32
  have b32 := F32.binds (ps := ["_law_room_here", "_law_leavings"]) fun _ _ _ _ _ _ us hl => match us, hl with | [_, _], _ => rfl
  have F33 := fun_mk (st := s_law) l33 c33 k33
  have b33 := F33.binds (ps := ["_law_script"]) fun _ _ _ _ _ _ us hl => match us, hl with | [_], _ => rfl
  refine ⟨PySem.W.fnOf "law" "law" (defArgs s_law) (defBody s_law) (defScope s_law) .none kV33 dc33 pm33 an33 cd33 ct33, fun s v => .of_eq rfl, fun base _ _ => ?_⟩
  let t : Txt K mg := { a_is_out := a0, d_is_out := PySem.W.fnOf "is_out" "is_out" (defArgs s_is_out) (defBody s_is_out) (defScope s_is_out) .none kV0 dc0 pm0 an0 cd0 ct0, F_is_out := F0, B_is_out := b0, m_is_out := PySem.W.mg_of X G h0, a_is_name := a1, d_is_name := PySem.W.fnOf "is_name" "is_name" (defArgs s_is_name) (defBody s_is_name) (defScope s_is_name) .none kV1 dc1 pm1 an1 cd1 ct1, F_is_name := F1, B_is_name := b1, m_is_name := PySem.W.mg_of X G h1, a_is_door := a2, d_is_door := PySem.W.fnOf "is_door" "is_door" (defArgs s_is_door) (defBody s_is_door) (defScope s_is_door) .none kV2 dc2 pm2 an2 cd2 ct2, F_is_door := F2, B_is_door := b2, m_is_door := PySem.W.mg_of X G h2, a_is_room := a3, d_is_room := PySem.W.fnOf "is_room" "is_room" (defArgs s_is_room) (defBody s_is_room) (defScope s_is_room) .none kV3 dc3 pm3 an3 cd3 ct3, F_is_room := F3, B_is_room := b3, m_is_room := PySem.W.mg_of X G h3, a_need_room := a4, d_need_room := PySem.W.fnOf "need_room" "need_room" (defArgs s_need_room) (defBody s_need_room) (defScope s_need_room) .none kV4 dc4 pm4 an4 cd4 ct4, F_need_room := F4, B_need_room := b4, m_need_room := PySem.W.mg_of X G h4, a_all_paths := a5, d_all_paths := PySem.W.fnOf "all_paths" "all_paths" (defArgs s_all_paths) (defBody s_all_paths) (defScope s_all_paths) (.ref D5) kV5 dc5 pm5 an5 cd5 ct5, e_all_paths := E5, F_all_paths := F5, D_all_paths := Q5, V_all_paths := fun H W => .tup (.inr ⟨_, _, _, le5, ce5, de5, by decide, .nil⟩) .nil, B_all_paths := b5, m_all_paths := PySem.W.mg_of X G h5, a_need_house := a6, d_need_house := PySem.W.fnOf "need_house" "need_house" (defArgs s_need_house) (defBody s_need_house) (defScope s_need_house) .none kV6 dc6 pm6 an6 cd6 ct6, F_need_house := F6, B_need_house := b6, m_need_house := PySem.W.mg_of X G h6, a_left_by := a7, d_left_by := PySem.W.fnOf "left_by" "left_by" (defArgs s_left_by) (defBody s_left_by) (defScope s_left_by) .none kV7 dc7 pm7 an7 cd7 ct7, F_left_by := F7, B_left_by := b7, m_left_by := PySem.W.mg_of X G h7, a_pushes_by := a8, d_pushes_by := PySem.W.fnOf "pushes_by" "pushes_by" (defArgs s_pushes_by) (defBody s_pushes_by) (defScope s_pushes_by) .none kV8 dc8 pm8 an8 cd8 ct8, F_pushes_by := F8, B_pushes_by := b8, m_pushes_by := PySem.W.mg_of X G h8, a_walkers_by := a9, d_walkers_by := PySem.W.fnOf "walkers_by" "walkers_by" (defArgs s_walkers_by) (defBody s_walkers_by) (defScope s_walkers_by) .none kV9 dc9 pm9 an9 cd9 ct9, F_walkers_by := F9, B_walkers_by := b9, m_walkers_by := PySem.W.mg_of X G h9, a_leavings_by := a10, d_leavings_by := PySem.W.fnOf "leavings_by" "leavings_by" (defArgs s_leavings_by) (defBody s_leavings_by) (defScope s_leavings_by) .none kV10 dc10 pm10 an10 cd10 ct10, F_leavings_by := F10, B_leavings_by := b10, m_leavings_by := PySem.W.mg_of X G h10, a_path_of := a11, d_path_of := PySem.W.fnOf "path_of" "path_of" (defArgs s_path_of) (defBody s_path_of) (defScope s_path_of) .none kV11 dc11 pm11 an11 cd11 ct11, F_path_of := F11, B_path_of := b11, m_path_of := PySem.W.mg_of X G h11, a_names_by := a12, d_names_by := PySem.W.fnOf "names_by" "names_by" (defArgs s_names_by) (defBody s_names_by) (defScope s_names_by) .none kV12 dc12 pm12 an12 cd12 ct12, F_names_by := F12, B_names_by := b12, m_names_by := PySem.W.mg_of X G h12, a_names_in := a13, d_names_in := PySem.W.fnOf "names_in" "names_in" (defArgs s_names_in) (defBody s_names_in) (defScope s_names_in) .none kV13 dc13 pm13 an13 cd13 ct13, F_names_in := F13, B_names_in := b13, m_names_in := PySem.W.mg_of X G h13, a_need_far := a14, d_need_far := PySem.W.fnOf "need_far" "need_far" (defArgs s_need_far) (defBody s_need_far) (defScope s_need_far) .none kV14 dc14 pm14 an14 cd14 ct14, F_need_far := F14, B_need_far := b14, m_need_far := PySem.W.mg_of X G h14, a_left := a15, d_left := PySem.W.fnOf "left" "left" (defArgs s_left) (defBody s_left) (defScope s_left) .none kV15 dc15 pm15 an15 cd15 ct15, F_left := F15, B_left := b15, m_left := PySem.W.mg_of X G h15, a_leaving := a16, d_leaving := PySem.W.fnOf "leaving" "leaving" (defArgs s_leaving) (defBody s_leaving) (defScope s_leaving) .none kV16 dc16 pm16 an16 cd16 ct16, F_leaving := F16, B_leaving := b16, m_leaving := PySem.W.mg_of X G h16, a_named := a17, d_named := PySem.W.fnOf "named" "named" (defArgs s_named) (defBody s_named) (defScope s_named) .none kV17 dc17 pm17 an17 cd17 ct17, F_named := F17, B_named := b17, m_named := PySem.W.mg_of X G h17, a_clean := a18, d_clean := PySem.W.fnOf "clean" "clean" (defArgs s_clean) (defBody s_clean) (defScope s_clean) .none kV18 dc18 pm18 an18 cd18 ct18, F_clean := F18, B_clean := b18, m_clean := PySem.W.mg_of X G h18, a_greatest_both := a19, d_greatest_both := PySem.W.fnOf "greatest_both" "greatest_both" (defArgs s_greatest_both) (defBody s_greatest_both) (defScope s_greatest_both) .none kV19 dc19 pm19 an19 cd19 ct19, F_greatest_both := F19, B_greatest_both := b19, m_greatest_both := PySem.W.mg_of X G h19, a_least_both := a20, d_least_both := PySem.W.fnOf "least_both" "least_both" (defArgs s_least_both) (defBody s_least_both) (defScope s_least_both) .none kV20 dc20 pm20 an20 cd20 ct20, F_least_both := F20, B_least_both := b20, m_least_both := PySem.W.mg_of X G h20, a_leavings_in := a21, d_leavings_in := PySem.W.fnOf "leavings_in" "leavings_in" (defArgs s_leavings_in) (defBody s_leavings_in) (defScope s_leavings_in) .none kV21 dc21 pm21 an21 cd21 ct21, F_leavings_in := F21, B_leavings_in := b21, m_leavings_in := PySem.W.mg_of X G h21, a_round_of := a22, d_round_of := PySem.W.fnOf "round_of" "round_of" (defArgs s_round_of) (defBody s_round_of) (defScope s_round_of) .none kV22 dc22 pm22 an22 cd22 ct22, F_round_of := F22, B_round_of := b22, m_round_of := PySem.W.mg_of X G h22, a_mean := a23, d_mean := PySem.W.fnOf "mean" "mean" (defArgs s_mean) (defBody s_mean) (defScope s_mean) .none kV23 dc23 pm23 an23 cd23 ct23, F_mean := F23, B_mean := b23, m_mean := PySem.W.mg_of X G h23, a_law_mix := a24, d_law_mix := PySem.W.fnOf "_law_mix" "_law_mix" (defArgs s_law_mix) (defBody s_law_mix) (defScope s_law_mix) .none kV24 dc24 pm24 an24 cd24 ct24, F_law_mix := F24, B_law_mix := b24, m_law_mix := PySem.W.mg_of X G h24, a_law_next := a25, d_law_next := PySem.W.fnOf "_law_next" "_law_next" (defArgs s_law_next) (defBody s_law_next) (defScope s_law_next) .none kV25 dc25 pm25 an25 cd25 ct25, F_law_next := F25, B_law_next := b25, m_law_next := PySem.W.mg_of X G h25, a_law_door := a26, d_law_door := PySem.W.fnOf "_law_door" "_law_door" (defArgs s_law_door) (defBody s_law_door) (defScope s_law_door) .none kV26 dc26 pm26 an26 cd26 ct26, F_law_door := F26, B_law_door := b26, m_law_door := PySem.W.mg_of X G h26, a_law_room := a27, d_law_room := PySem.W.fnOf "_law_room" "_law_room" (defArgs s_law_room) (defBody s_law_room) (defScope s_law_room) .none kV27 dc27 pm27 an27 cd27 ct27, F_law_room := F27, B_law_room := b27, m_law_room := PySem.W.mg_of X G h27, a_law_house := a28, d_law_house := PySem.W.fnOf "_law_house" "_law_house" (defArgs s_law_house) (defBody s_law_house) (defScope s_law_house) .none kV28 dc28 pm28 an28 cd28 ct28, F_law_house := F28, B_law_house := b28, m_law_house := PySem.W.mg_of X G h28, a_law_harder := a29, d_law_harder := PySem.W.fnOf "_law_harder" "_law_harder" (defArgs s_law_harder) (defBody s_law_harder) (defScope s_law_harder) .none kV29 dc29 pm29 an29 cd29 ct29, F_law_harder := F29, B_law_harder := b29, m_law_harder := PySem.W.mg_of X G h29, a_law_one_more := a30, d_law_one_more := PySem.W.fnOf "_law_one_more" "_law_one_more" (defArgs s_law_one_more) (defBody s_law_one_more) (defScope s_law_one_more) .none kV30 dc30 pm30 an30 cd30 ct30, F_law_one_more := F30, B_law_one_more := b30, m_law_one_more := PySem.W.mg_of X G h30, a_law_small := a31, d_law_small := PySem.W.fnOf "_law_small" "_law_small" (defArgs s_law_small) (defBody s_law_small) (defScope s_law_small) .none kV31 dc31 pm31 an31 cd31 ct31, F_law_small := F31, B_law_small := b31, m_law_small := PySem.W.mg_of X G h31, a_law_openings := a32, d_law_openings := PySem.W.fnOf "_law_openings" "_law_openings" (defArgs s_law_openings) (defBody s_law_openings) (defScope s_law_openings) .none kV32 dc32 pm32 an32 cd32 ct32, F_law_openings := F32, B_law_openings := b32, m_law_openings := PySem.W.mg_of X G h32, a_law := fa, d_law := PySem.W.fnOf "law" "law" (defArgs s_law) (defBody s_law) (defScope s_law) .none kV33 dc33 pm33 an33 cd33 ct33, F_law := F33, B_law := b33, m_law := PySem.W.mg_of X G h33, z_all := PySem.W.mg_none_of X G z_all, z_enumerate := PySem.W.mg_none_of X G z_enumerate, z_isinstance := PySem.W.mg_none_of X G z_isinstance, z_len := PySem.W.mg_none_of X G z_len, z_list := PySem.W.mg_none_of X G z_list, z_max := PySem.W.mg_none_of X G z_max, z_min := PySem.W.mg_none_of X G z_min, z_range := PySem.W.mg_none_of X G z_range, z_str := PySem.W.mg_none_of X G z_str, z_sum := PySem.W.mg_none_of X G z_sum, z_tuple := PySem.W.mg_none_of X G z_tuple, c_LETTERS := ⟨_, PySem.W.mg_of X G g_LETTERS, r_LETTERS⟩, c_MOST_DOORS := ⟨_, PySem.W.mg_of X G g_MOST_DOORS, r_MOST_DOORS⟩, c_MOST_FAR := ⟨_, PySem.W.mg_of X G g_MOST_FAR, r_MOST_FAR⟩, c_MOST_IN_ALL := ⟨_, PySem.W.mg_of X G g_MOST_IN_ALL, r_MOST_IN_ALL⟩, c_MOST_LEAVINGS := ⟨_, PySem.W.mg_of X G g_MOST_LEAVINGS, r_MOST_LEAVINGS⟩, c_MOST_LETTERS := ⟨_, PySem.W.mg_of X G g_MOST_LETTERS, r_MOST_LETTERS⟩, c_MOST_NEED := ⟨_, PySem.W.mg_of X G g_MOST_NEED, r_MOST_NEED⟩ }
  exact (all_ok t 64).o_law
theorem law (ns : List Int) (h : ns.length ≤ 63) : ∃ outs, PD.callD PD.T0 PD.WW 64 PD.f_law_k16 [.leaf (.scr ns)] = some (.leaf (.bl true), outs) :=
  PD.k16_law PD.ww_big ns h
end PD.Z16
open PySem PySem.W PyProof.Rows
set_option maxRecDepth 100000 in
set_option maxHeartbeats 0 in
theorem PD.Z16.head : PySem.Challenge.rw_pushdoors_k16_whole_needs_dont_turn_ways.Holds := by
  w_on; o_law; k_head; (case hw => w_witness2)
  k_fill
  refine PD.law_walk (l := PySem.Challenge.rw_pushdoors_k16_whole_needs_dont_turn_ways) (tb := PD.T0) (W := PD.WW) (fid := PD.f_law_k16) rfl rfl (fun w h Y => PySem.W.kIn_of Y) rfl PD.Z16.law ?F
  case F =>
    intro w mg fa h KX G hmg
    refine' PD.Z16.all_mk KX G hmg ?h0 ?l0 ?c0 ?k0 ?h1 ?l1 ?c1 ?k1 ?h2 ?l2 ?c2 ?k2 ?h3 ?l3 ?c3 ?k3 ?h4 ?l4 ?c4 ?k4 ?h5 ?l5 ?c5 ?k5 ?ld5 ?dd5 ?le5 ?ce5 ?de5 ?h6 ?l6 ?c6 ?k6 ?h7 ?l7 ?c7 ?k7 ?h8 ?l8 ?c8 ?k8 ?h9 ?l9 ?c9 ?k9 ?h10 ?l10 ?c10 ?k10 ?h11 ?l11 ?c11 ?k11 ?h12 ?l12 ?c12 ?k12 ?h13 ?l13 ?c13 ?k13 ?h14 ?l14 ?c14 ?k14 ?h15 ?l15 ?c15 ?k15 ?h16 ?l16 ?c16 ?k16 ?h17 ?l17 ?c17 ?k17 ?h18 ?l18 ?c18 ?k18 ?h19 ?l19 ?c19 ?k19 ?h20 ?l20 ?c20 ?k20 ?h21 ?l21 ?c21 ?k21 ?h22 ?l22 ?c22 ?k22 ?h23 ?l23 ?c23 ?k23 ?h24 ?l24 ?c24 ?k24 ?h25 ?l25 ?c25 ?k25 ?h26 ?l26 ?c26 ?k26 ?h27 ?l27 ?c27 ?k27 ?h28 ?l28 ?c28 ?k28 ?h29 ?l29 ?c29 ?k29 ?h30 ?l30 ?c30 ?k30 ?h31 ?l31 ?c31 ?k31 ?h32 ?l32 ?c32 ?k32 ?h33 ?l33 ?c33 ?k33 ?z_all ?z_enumerate ?z_isinstance ?z_len ?z_list ?z_max ?z_min ?z_range ?z_str ?z_sum ?z_tuple ?g_LETTERS ?r_LETTERS ?g_MOST_DOORS ?r_MOST_DOORS ?g_MOST_FAR ?r_MOST_FAR ?g_MOST_IN_ALL ?r_MOST_IN_ALL ?g_MOST_LEAVINGS ?r_MOST_LEAVINGS ?g_MOST_LETTERS ?r_MOST_LETTERS ?g_MOST_NEED ?r_MOST_NEED
    (case h0 => k_is)
    (case l0 => k_is)
    (case c0 => k_is)
    (case k0 => k_is)
    (case h1 => k_is)
    (case l1 => k_is)
    (case c1 => k_is)
    (case k1 => k_is)
    (case h2 => k_is)
    (case l2 => k_is)
    (case c2 => k_is)
    (case k2 => k_is)
    (case h3 => k_is)
    (case l3 => k_is)
    (case c3 => k_is)
    (case k3 => k_is)
    (case h4 => k_is)
    (case l4 => k_is)
    (case c4 => k_is)
    (case k4 => k_is)
    (case h5 => k_is)
    (case l5 => k_is)
    (case c5 => k_is)
    (case k5 => k_is)
    (case ld5 => k_is)
    (case dd5 => rfl)
    (case le5 => k_is)
    (case ce5 => rfl)
    (case de5 => rfl)
    (case h6 => k_is)
    (case l6 => k_is)
    (case c6 => k_is)
    (case k6 => k_is)
    (case h7 => k_is)
    (case l7 => k_is)
    (case c7 => k_is)
    (case k7 => k_is)
    (case h8 => k_is)
    (case l8 => k_is)
    (case c8 => k_is)
    (case k8 => k_is)
    (case h9 => k_is)
    (case l9 => k_is)
    (case c9 => k_is)
    (case k9 => k_is)
    (case h10 => k_is)
    (case l10 => k_is)
    (case c10 => k_is)
    (case k10 => k_is)
    (case h11 => k_is)
    (case l11 => k_is)
    (case c11 => k_is)
    (case k11 => k_is)
    (case h12 => k_is)
    (case l12 => k_is)
    (case c12 => k_is)
    (case k12 => k_is)
    (case h13 => k_is)
    (case l13 => k_is)
    (case c13 => k_is)
    (case k13 => k_is)
    (case h14 => k_is)
    (case l14 => k_is)
    (case c14 => k_is)
    (case k14 => k_is)
    (case h15 => k_is)
    (case l15 => k_is)
    (case c15 => k_is)
    (case k15 => k_is)
    (case h16 => k_is)
    (case l16 => k_is)
    (case c16 => k_is)
    (case k16 => k_is)
    (case h17 => k_is)
    (case l17 => k_is)
    (case c17 => k_is)
    (case k17 => k_is)
    (case h18 => k_is)
    (case l18 => k_is)
    (case c18 => k_is)
    (case k18 => k_is)
    (case h19 => k_is)
    (case l19 => k_is)
    (case c19 => k_is)
    (case k19 => k_is)
    (case h20 => k_is)
    (case l20 => k_is)
    (case c20 => k_is)
    (case k20 => k_is)
    (case h21 => k_is)
    (case l21 => k_is)
    (case c21 => k_is)
    (case k21 => k_is)
    (case h22 => k_is)
    (case l22 => k_is)
    (case c22 => k_is)
    (case k22 => k_is)
    (case h23 => k_is)
    (case l23 => k_is)
    (case c23 => k_is)
    (case k23 => k_is)
    (case h24 => k_is)
    (case l24 => k_is)
    (case c24 => k_is)
    (case k24 => k_is)
    (case h25 => k_is)
    (case l25 => k_is)
    (case c25 => k_is)
    (case k25 => k_is)
    (case h26 => k_is)
    (case l26 => k_is)
    (case c26 => k_is)
    (case k26 => k_is)
    (case h27 => k_is)
    (case l27 => k_is)
    (case c27 => k_is)
    (case k27 => k_is)
    (case h28 => k_is)
    (case l28 => k_is)
    (case c28 => k_is)
    (case k28 => k_is)
    (case h29 => k_is)
    (case l29 => k_is)
    (case c29 => k_is)
    (case k29 => k_is)
    (case h30 => k_is)
    (case l30 => k_is)
    (case c30 => k_is)
    (case k30 => k_is)
    (case h31 => k_is)
    (case l31 => k_is)
    (case c31 => k_is)
    (case k31 => k_is)
    (case h32 => k_is)
    (case l32 => k_is)
    (case c32 => k_is)
    (case k32 => k_is)
    (case h33 => k_is)
    (case l33 => k_is)
    (case c33 => k_is)
    (case k33 => k_is)
    (case z_all => k_is)
    (case z_enumerate => k_is)
    (case z_isinstance => k_is)
    (case z_len => k_is)
    (case z_list => k_is)
    (case z_max => k_is)
    (case z_min => k_is)
    (case z_range => k_is)
    (case z_str => k_is)
    (case z_sum => k_is)
    (case z_tuple => k_is)
    (case g_LETTERS => k_is)
    (case r_LETTERS => first | exact ⟨_, rfl⟩ | rfl)
    (case g_MOST_DOORS => k_is)
    (case r_MOST_DOORS => first | exact ⟨_, rfl⟩ | rfl)
    (case g_MOST_FAR => k_is)
    (case r_MOST_FAR => first | exact ⟨_, rfl⟩ | rfl)
    (case g_MOST_IN_ALL => k_is)
    (case r_MOST_IN_ALL => first | exact ⟨_, rfl⟩ | rfl)
    (case g_MOST_LEAVINGS => k_is)
    (case r_MOST_LEAVINGS => first | exact ⟨_, rfl⟩ | rfl)
    (case g_MOST_LETTERS => k_is)
    (case r_MOST_LETTERS => first | exact ⟨_, rfl⟩ | rfl)
    (case g_MOST_NEED => k_is)
    (case r_MOST_NEED => first | exact ⟨_, rfl⟩ | rfl)

theorem PySem.Challenge.cw_pushdoors_k16_whole_needs_dont_turn_ways_holds : PySem.Challenge.rw_pushdoors_k16_whole_needs_dont_turn_ways.Holds := by
  exact PD.Z16.head
