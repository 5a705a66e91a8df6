/- A function's text carried out on plain data: the plain values that stand in the slots, the memory of the call's own, and the steps. No condition of its own. -/
import Derived.Test.YtbdokiecpmhjmaaGreatDoorPvTy
namespace Go.Proofs.YtbdokiecpmhjmaaGreatDoor
set_option linter.unusedSimpArgs false
set_option linter.unusedVariables false
open Go.RowKit

/-- What a function's value has captured. -/
inductive Cap where
  | vptr (id off : Nat)
  | own (id : Nat)
  | dat (τ : Ty) (x : τ.den)
  deriving Inhabited

/-- What is known of one cell. -/
inductive AC where
  | bad
  | und
  | int (k : IntKind) (n : Int)
  | bool (b : Bool)
  | str (s : ByteArray)
  | slc (e : Ty) (xs : List e.den)
  | nils
  | nilp
  | ptr (e : Ty) (p : Option e.den)
  | own (id : Nat)
  | vptr (id off : Nat)
  | eptr (id : Nat) (e : Ty) (i off : Nat)
  | dptr (e : Ty) (x : e.den) (off : Nat)
  | clo (g : FuncId) (t : Ty) (x : t.den)
  | cloA (g : FuncId) (cs : List Cap)
  | inn (id i : Nat)
  | sln (e : Ty) (xs : List e.den)
  | slz (e : Ty)
  | osub (id : Nat) (e : Ty) (lo : Nat)
  | opre (id : Nat) (e : Ty) (n : Nat)
  | gl (g : Nat)
  | gidx (g i : Nat)
  deriving Inhabited

/-- What is known of a slot. -/
inductive AV where
  | one (c : AC)
  | agg (cs : List AC)
  | tup (vs : List (Bool × List AC))
  deriving Inhabited

/-- A block of the call's own. -/
inductive Ob where
  | var (cs : List AC)
  | row (e : Ty) (xs : List e.den)
  | gone
  | frame (k : Nat) (l : List (Nat × AV))
  | tree (e : Ty) (xs : List (List e.den)) (p : Option Nat)
  | drow (e : Ty) (xs : List e.den)
  deriving Inhabited

structure Env where
  t : List (Nat × AV)
  h : List (Nat × Ob)

def nth {α : Type} : List α → Nat → α → α
  | [], _, d => d
  | a :: _, 0, _ => a
  | _ :: l, n + 1, d => nth l n d
def setN {α : Type} : List α → Nat → α → List α
  | [], _, _ => []
  | _ :: l, 0, b => b :: l
  | a :: l, n + 1, b => a :: setN l n b
def sub {α : Type} (l : List α) (off n : Nat) : List α := (l.drop off).take n
def putN {α : Type} : List α → Nat → List α → List α
  | l, _, [] => l
  | l, o, b :: bs => putN (setN l o b) (o + 1) bs

def obind {α ρ : Type} : Option α → (α → Option ρ) → Option ρ
  | none, _ => none
  | some x, k => k x
def atI {α : Type} (xs : List α) (i : Int) : Option α := bif decide (0 ≤ i) then xs[i.toNat]? else none
def inI (i : Int) (n : Nat) : Bool := decide (0 ≤ i) && decide (i < n)
def byteAt (s : ByteArray) (i : Int) : Option Int := bif decide (0 ≤ i) then (s.data.toList[i.toNat]?).map (fun b => (b.toNat : Int)) else none
/-- More than so many elements no slice of the call's own may grow to. -/
def lim : Nat := 4294967296
/-- No string of the call's grows longer. -/
def limS : Nat := 140737488355328
def fixN {S ρ : Type} : Nat → ((S → Option ρ) → S → Option ρ) → S → Option ρ
  | 0, _, _ => none
  | n + 1, f, s => f (fixN n f) s

def Ty.acs : (τ : Ty) → τ.den → List AC
  | .int k, n => [.int k n]
  | .bool, b => [.bool b]
  | .str, s => [.str s]
  | .slice e, xs => [.slc e xs]
  | .ptr e, p => [.ptr e p]
  | .agg t, x => t.acs x
  | .nil, _ => []
  | .pair a b, x => a.acs x.1 ++ b.acs x.2
  | .clo g t, x => [.clo g t x]
def Ty.av : (τ : Ty) → τ.den → AV
  | .int k, n => .one (.int k n)
  | .bool, b => .one (.bool b)
  | .str, s => .one (.str s)
  | .slice e, xs => .one (.slc e xs)
  | .ptr e, p => .one (.ptr e p)
  | .agg t, x => .agg (t.acs x)
  | .nil, _ => .agg []
  | .pair a b, x => .agg (a.acs x.1 ++ b.acs x.2)
  | .clo g t, x => .one (.clo g t x)
def Ty.isAgg : Ty → Bool
  | .agg _ => true
  | _ => false
/-- A list of parameters, or of results. -/
def Ty.avs : (τ : Ty) → τ.den → List AV
  | .pair a b, x => a.av x.1 :: b.avs x.2
  | _, _ => []

/-- Data out of cells; what lies in the call's own memory is read. -/
def ofInt (k : IntKind) : List AC → Option Int
  | [.int k' n] => bif decide (k' = k) then some n else none
  | _ => none
def ofBool : List AC → Option Bool
  | [.bool b] => some b
  | _ => none
def ofStr : List AC → Option ByteArray
  | [.str s] => some s
  | _ => none
def ofSlice (h : List (Nat × Ob)) (e : Ty) : List AC → Option (List e.den)
  | [.slc _ xs] => Ty.castL (b := e) xs
  | [.nils] => some []
  | [.own id] => match (nth h id (0, .gone)).2 with
    | .row _ xs => Ty.castL (b := e) xs
    | .drow _ xs => Ty.castL (b := e) xs
    | _ => none
  | _ => none
def ofPtr (h : List (Nat × Ob)) (e : Ty) (rec : List AC → Option e.den) : List AC → Option (Option e.den)
  | [.ptr _ p] => Ty.castO (b := e) p
  | [.nilp] => some none
  | [.vptr id off] => match (nth h id (0, .gone)).2 with
    | .var cs => (rec (sub cs off e.sz)).map some
    | _ => none
  | [.dptr e' x off] => (rec (sub (e'.acs x) off e.sz)).map some
  | _ => none
def ofClo (g : FuncId) (t : Ty) : List AC → Option t.den
  | [.clo g' _ x] => bif Nat.beq g' g then Ty.castD (b := t) x else none
  | _ => none
def ofNil : List AC → Option Unit
  | [] => some ()
  | _ => none
def both {α β : Type} : Option α → Option β → Option (α × β)
  | some x, some y => some (x, y)
  | _, _ => none
def Ty.ofAcs (h : List (Nat × Ob)) : (τ : Ty) → List AC → Option τ.den
  | .int k, cs => ofInt k cs
  | .bool, cs => ofBool cs
  | .str, cs => ofStr cs
  | .slice e, cs => ofSlice h e cs
  | .ptr e, cs => ofPtr h e (fun ds => e.ofAcs h ds) cs
  | .agg t, cs => t.ofAcs h cs
  | .nil, cs => ofNil cs
  | .pair a b, cs => both (a.ofAcs h (cs.take a.sz)) (b.ofAcs h (cs.drop a.sz))
  | .clo g t, cs => ofClo g t cs

def AV.cells : AV → List AC
  | .one c => [c]
  | .agg cs => cs
  | _ => [.bad]
def AV.isAgg : AV → Bool
  | .agg _ => true
  | _ => false

/-- A constant. -/
def acOf : Value → AC
  | .int k n => bif (Lit.int k n).wf then .int k n else .bad
  | .bool b => .bool b
  | .string s => bif decide (s.size ≤ maxLen) then .str s else .bad
  | .pointer none => .nilp
  | .slice none 0 0 => .nils
  | _ => .bad
def avOf : Value → AV
  | .agg cs => .agg (cs.toList.map acOf)
  | v => .one (acOf v)

def Env.ev (σ : Env) : Operand → AV
  | .tmp i => (nth σ.t i (0, .one .bad)).2
  | .const v => avOf v
  | .func f => .one (.clo f .nil ())
  | .global g => .one (.gl g)
def Env.put (σ : Env) (d : Option Nat) (v : AV) : Env := match d with
  | none => σ
  | some i => { σ with t := setN σ.t i ((nth σ.t i (0, .one .bad)).1 + 1, v) }
/-- A test's answer is known: its slot holds it. -/
def Env.refine (σ : Env) (x : Operand) (b : Bool) : Env := match x with
  | .tmp i => { σ with t := setN σ.t i ((nth σ.t i (0, .one .bad)).1, .one (.bool b)) }
  | _ => σ
def Env.ob (σ : Env) (id : Nat) : Ob := (nth σ.h id (0, .gone)).2
def Env.setOb (σ : Env) (id : Nat) (ob : Ob) : Env := { σ with h := setN σ.h id ((nth σ.h id (0, .gone)).1 + 1, ob) }
def Env.newOb (σ : Env) (ob : Ob) : Env := { σ with h := σ.h ++ [(0, ob)] }

def Cap.has (id : Nat) : Cap → Bool
  | .vptr i _ => Nat.beq i id
  | .own i => Nat.beq i id
  | .dat _ _ => false
def Cap.below (n : Nat) : Cap → Bool
  | .vptr i _ => Nat.blt i n
  | .own i => Nat.blt i n
  | .dat _ _ => true
def AC.kill (id : Nat) : AC → AC
  | .own i => bif Nat.beq i id then .bad else .own i
  | .eptr i e k o => bif Nat.beq i id then .bad else .eptr i e k o
  | .vptr i o => bif Nat.beq i id then .bad else .vptr i o
  | .cloA g cs => bif cs.any (Cap.has id) then .bad else .cloA g cs
  | .inn i k => bif Nat.beq i id then .bad else .inn i k
  | .osub i e k => bif Nat.beq i id then .bad else .osub i e k
  | .opre i e k => bif Nat.beq i id then .bad else .opre i e k
  | c => c
def AC.good : AC → Bool
  | .bad => false
  | .und => false
  | _ => true
def AV.mapC (f : AC → AC) : AV → AV
  | .one c => .one (f c)
  | .agg cs => .agg (cs.map f)
  | .tup vs => .tup (vs.map fun p => (p.1, p.2.map f))
def Ob.mapC (f : AC → AC) : Ob → Ob
  | .var cs => .var (cs.map f)
  | .frame k l => .frame k (l.map fun p => (p.1, p.2.mapC f))
  | .row e xs => .row e xs
  | .tree e xs p => .tree e xs p
  | .drow e xs => .drow e xs
  | .gone => .gone
def Env.mapC (σ : Env) (f : AC → AC) : Env := ⟨σ.t.map fun p => (p.1, p.2.mapC f), σ.h.map fun p => (p.1, p.2.mapC f)⟩

def AC.has (id : Nat) : AC → Bool
  | .own i => Nat.beq i id
  | .eptr i _ _ _ => Nat.beq i id
  | .vptr i _ => Nat.beq i id
  | .cloA _ cs => cs.any (Cap.has id)
  | .inn i _ => Nat.beq i id
  | .osub i _ _ => Nat.beq i id
  | .opre i _ _ => Nat.beq i id
  | _ => false
def AC.hasI (id : Nat) : AC → Bool
  | .inn i _ => Nat.beq i id
  | _ => false
def AC.killI (id : Nat) : AC → AC
  | .inn i k => bif Nat.beq i id then .bad else .inn i k
  | c => c
def AV.anyC (f : AC → Bool) : AV → Bool
  | .one c => f c
  | .agg cs => cs.any f
  | .tup vs => vs.any fun p => p.2.any f
def Ob.anyC (f : AC → Bool) : Ob → Bool
  | .var cs => cs.any f
  | .frame _ l => l.any fun p => p.2.anyC f
  | _ => false
/-- Whatever leads to a block is forgotten. -/
def Env.kill (σ : Env) (id : Nat) : Env :=
  ⟨σ.t.map fun p => bif p.2.anyC (AC.has id) then (p.1 + 1, p.2.mapC (AC.kill id)) else p, σ.h.map fun p => bif p.2.anyC (AC.has id) then (p.1 + 1, p.2.mapC (AC.kill id)) else p⟩

/-- The rows within a row are no longer known. -/
def Env.killI (σ : Env) (id : Nat) : Env :=
  ⟨σ.t.map fun p => bif p.2.anyC (AC.hasI id) then (p.1 + 1, p.2.mapC (AC.killI id)) else p, σ.h.map fun p => bif p.2.anyC (AC.hasI id) then (p.1 + 1, p.2.mapC (AC.killI id)) else p⟩

/-- What leads to a block of the call's own is put otherwise. -/
def AC.swap (id : Nat) (c : AC) (f : Nat → AC) : AC → AC
  | .own i => bif Nat.beq i id then c else .own i
  | .eptr i e k o => bif Nat.beq i id then .bad else .eptr i e k o
  | .vptr i o => bif Nat.beq i id then f o else .vptr i o
  | .cloA g cs => bif cs.any (Cap.has id) then .bad else .cloA g cs
  | .inn i k => bif Nat.beq i id then .bad else .inn i k
  | .osub i e k => bif Nat.beq i id then .bad else .osub i e k
  | .opre i e k => bif Nat.beq i id then .bad else .opre i e k
  | d => d
def Env.swap (σ : Env) (id : Nat) (c : AC) (f : Nat → AC) : Env :=
  Env.setOb ⟨σ.t.map fun p => bif p.2.anyC (AC.has id) then (p.1 + 1, p.2.mapC (AC.swap id c f)) else p, σ.h.map fun p => bif p.2.anyC (AC.has id) then (p.1 + 1, p.2.mapC (AC.swap id c f)) else p⟩ id .gone
/-- A block of the call's own is written no more: it is data from here on. -/
def Env.freeze (σ : Env) (z : Nat × Option Ty) : Option Env := match (nth σ.t z.1 (0, .one .bad)).2 with
  | .one (.own id) => match σ.ob id with
    | .row e xs => some (σ.swap id (.slc e xs) fun _ => .bad)
    | .tree e xs none => some (σ.swap id (.slc (.slice e) xs) fun _ => .bad)
    | .drow e xs => some (σ.swap id (.slc e xs) fun _ => .bad)
    | _ => none
  | .one (.opre id _ n) => match σ.ob id with
    | .row e xs => some ((((σ.kill id).setOb id (.row e (xs.take n))).put (some z.1) (.one (.own id))).swap id (.slc e (xs.take n)) fun _ => .bad)
    | _ => none
  | .one (.vptr id _) => match z.2, σ.ob id with
    | some e, .var cs => match e.ofAcs [] cs with
      | some x => some (σ.swap id .bad fun o => .dptr e x o)
      | none => none
    | _, _ => none
  | _ => some σ
def Env.freezes (σ : Env) : List (Nat × Option Ty) → Option Env
  | [] => some σ
  | z :: zs => match σ.freeze z with
    | some σ' => Env.freezes σ' zs
    | none => none

/-- A contract on plain data. -/
structure FnSpec where
  ps : Ty
  rs : Ty
  own : List Bool
  fn : ps.den → Option rs.den
  deep : Bool := false
/-- No memory in it. -/
def Ty.flat : Ty → Bool
  | .slice _ => false
  | .ptr _ => false
  | .clo _ _ => false
  | .agg t => t.flat
  | .pair a b => a.flat && b.flat
  | _ => true
/-- A parameter's or a result's code. -/
def Ty.proper : Ty → Bool
  | .pair _ _ => false
  | .nil => false
  | _ => true
def properL : Ty → Bool
  | .pair a b => a.proper && properL b
  | .nil => true
  | _ => false
abbrev CtxL := List ((FuncId × List FuncId) × FnSpec)
def keyEq : List FuncId → List FuncId → Bool
  | [], [] => true
  | a :: as, b :: bs => Nat.beq a b && keyEq as bs
  | _, _ => false
def CtxL.find : CtxL → FuncId → List FuncId → Option FnSpec
  | [], _, _ => none
  | (g, s) :: r, f, k => bif Nat.beq g.1 f && keyEq g.2 k then some s else CtxL.find r f k
/-- What a loop carries from round to round. -/
inductive ShI where
  | tmp (i : Nat) (τ : Ty)
  | var (id : Nat) (ks : List (Option Ty))
  | row (id : Nat) (e : Ty)
  | tree (id : Nat) (e : Ty)
  | drow (id : Nat) (e : Ty)
structure LHint where
  sh : List ShI
  drop : List Nat
  fresh : List (Nat × Ty)
  cells : List (Nat × Nat × Ty) := []

structure Hints where
  loops : List (Nat × LHint)
  frz : List (Nat × List (Nat × Option Ty))
  rets : List (Nat × Ty)
  retc : List (Nat × Nat × Ty) := []
/-- What is gone through in place: its text, its hints, its raw slots. -/
structure InF where
  fid : FuncId
  fn : Func
  H : Hints
  raw : List Nat
  drop : Bool := false
/-- The contracts of what is called, each with the functions handed to it; and the slots whose new rows are not the call's own to write. -/
structure Ctx where
  fns : CtxL
  raw : List Nat
  inl : List InF := []
  tabs : List (Nat × List ByteArray) := []
def tabFind : List (Nat × List ByteArray) → Nat → Option (List ByteArray)
  | [], _ => none
  | (k, xs) :: l, g => bif Nat.beq k g then some xs else tabFind l g
def Ctx.isRaw (C : Ctx) : Option Nat → Bool
  | some d => C.raw.any fun e => Nat.beq e d
  | none => false
def keyOf : List AC → List FuncId
  | [] => []
  | .clo g _ _ :: cs => g :: keyOf cs
  | _ :: cs => keyOf cs

/-- The results of a contract: flagged slices are rows of the caller's own. -/
def mkRow (d : Bool) (e : Ty) (xs : List e.den) : Ob := bif d && !e.flat then .drow e xs else .row e xs
def ownAcs (dp : Bool) : List Bool → Nat → List AC → List AC × List (Nat × Ob)
  | true :: fs, id, .slc e xs :: cs => let r := ownAcs dp fs (id + 1) cs; (.own id :: r.1, (0, mkRow dp e xs) :: r.2)
  | _ :: fs, id, c :: cs => let r := ownAcs dp fs id cs; (c :: r.1, r.2)
  | _, _, cs => (cs, [])
def Ty.resAV : (τ : Ty) → List AC → List (Bool × List AC)
  | .pair a b, cs => (a.isAgg, cs.take a.sz) :: b.resAV (cs.drop a.sz)
  | _, _ => []
def tupAV : List (Bool × List AC) → AV
  | [(true, cs)] => .agg cs
  | [(false, [c])] => .one c
  | l => .tup l

/-- A Go type as a code. -/
def Ty.rep (e : Ty) : Nat → Ty
  | 0 => .nil
  | n + 1 => .pair e (e.rep n)
def tyOf (P : Program) : Nat → TypeId → Option Ty
  | 0, _ => none
  | n + 1, t => match P.underlying t with
    | some .bool => some .bool
    | some (.int k) => some (.int k)
    | some .string => some .str
    | some (.slice e) => (tyOf P n e).map .slice
    | some (.pointer e) => (tyOf P n e).map .ptr
    | some (.array k e) => (tyOf P n e).map fun a => .agg (a.rep k)
    | some (.struct fs) => (fs.toList.foldr (fun f acc => match tyOf P n f.type, acc with | some a, some b => some (Ty.pair a b) | _, _ => none) (some Ty.nil)).map .agg
    | _ => none

def aggD : TypeDesc → Bool
  | .struct _ => true
  | .array _ _ => true
  | _ => false
def sizeT (P : Program) (t : TypeId) : Nat := match P.info? t with
  | some i => i.size
  | none => 0

section
variable {ρ : Type} (P : Program) (C : Ctx)

def loadK (σ : Env) (t : TypeId) (cs : List AC) (off : Nat) (K : AV → Env → Option ρ) : Option ρ :=
  match P.underlying t with
  | some d => bif aggD d then (bif decide (off + sizeT P t ≤ cs.length) then K (.agg (sub cs off (sizeT P t))) σ else none) else (bif decide (off < cs.length) then K (.one (nth cs off .bad)) σ else none)
  | none => none

def intK (op : BinOp) (k : IntKind) (a b : Int) (σ : Env) (K : AV → Env → Option ρ) : Option ρ :=
  match op with
  | .add => K (.one (.int k (k.wrap (a + b)))) σ
  | .sub => K (.one (.int k (k.wrap (a - b)))) σ
  | .mul => K (.one (.int k (k.wrap (a * b)))) σ
  | .quo => bif decide (b = 0) then none else K (.one (.int k (k.wrap (a.tdiv b)))) σ
  | .rem => bif decide (b = 0) then none else K (.one (.int k (a.tmod b))) σ
  | .eql => K (.one (.bool (decide (a = b)))) σ
  | .neq => K (.one (.bool (!decide (a = b)))) σ
  | .lss => K (.one (.bool (decide (a < b)))) σ
  | .leq => K (.one (.bool (decide (a ≤ b)))) σ
  | .gtr => K (.one (.bool (decide (b < a)))) σ
  | .geq => K (.one (.bool (decide (b ≤ a)))) σ
  | .shl => bif decide (0 ≤ b) then K (.one (.int k (k.wrap (a * 2 ^ (min b.toNat k.bits))))) σ else none
  | .shr => bif decide (0 ≤ b) then K (.one (.int k (a.fdiv (2 ^ (min b.toNat k.bits))))) σ else none
  | _ => none

/-- Structs compared cell by cell. -/
def partA (t : TypeId) (cs : List AC) (off : Nat) : Option AV := match P.underlying t with
  | some d => bif aggD d then (bif decide (off + sizeT P t ≤ cs.length) then some (.agg (sub cs off (sizeT P t))) else none) else (bif decide (off < cs.length) then some (.one (nth cs off .bad)) else none)
  | none => none
def eqFs (g : Field → Option Bool) : List Field → Option Bool
  | [] => some true
  | f :: fs => bif decide (f.name = "_") then none else match g f, eqFs g fs with
    | some a, some b => some (a && b)
    | _, _ => none
def eqA : Nat → TypeId → AV → AV → Option Bool
  | 0, _, _, _ => none
  | n + 1, t, x, y => match P.underlying t, x, y with
    | some (.int _), .one (.int k a), .one (.int k' b) => bif decide (k = k') then some (decide (a = b)) else none
    | some .bool, .one (.bool a), .one (.bool b) => some (a == b)
    | some .string, .one (.str a), .one (.str b) => some (decide (a = b))
    | some (.struct fs), .agg xs, .agg ys => bif P.stoodInHeld t then none else eqFs (fun f => match partA P f.type xs f.offset, partA P f.type ys f.offset with
      | some u, some v => eqA n f.type u v
      | _, _ => none) fs.toList
    | _, _, _ => none
def isSl (st : TypeId) : Bool := match P.underlying st with
  | some (.slice _) => true
  | _ => false
def isPt (st : TypeId) : Bool := match P.underlying st with
  | some (.pointer _) => true
  | _ => false
def binK (op : BinOp) (t : TypeId) (σ : Env) (x y : AV) (K : AV → Env → Option ρ) : Option ρ :=
  match x, y with
  | .one (.int k a), .one (.int k' b) => bif decide (k = k') then intK op k a b σ K else bif (match op with | .shl | .shr => true | _ => false) then intK op k a b σ K else none
  | .one (.bool a), .one (.bool b) => match op, P.underlying t with
    | .eql, some .bool => K (.one (.bool (a == b))) σ
    | .neq, some .bool => K (.one (.bool (!(a == b)))) σ
    | _, _ => none
  | .one (.str a), .one (.str b) => match op with
    | .eql => K (.one (.bool (decide (a = b)))) σ
    | .neq => K (.one (.bool (!decide (a = b)))) σ
    | .add => bif decide (a.size + b.size ≤ limS) then K (.one (.str (a ++ b))) σ else none
    | _ => none
  | .one (.sln _ _), .one .nils => bif isSl P t then (match op with
    | .eql => K (.one (.bool false)) σ
    | .neq => K (.one (.bool true)) σ
    | _ => none) else none
  | .one (.slz _), .one .nils => bif isSl P t then (match op with
    | .eql => K (.one (.bool true)) σ
    | .neq => K (.one (.bool false)) σ
    | _ => none) else none
  | .one (.ptr _ p), .one .nilp => bif isPt P t then (match op with
    | .eql => K (.one (.bool p.isNone)) σ
    | .neq => K (.one (.bool p.isSome)) σ
    | _ => none) else none
  | .agg xs, .agg ys => match op with
    | .eql => bif P.eqGuardType P.depth t then none else match eqA P 8 t (.agg xs) (.agg ys) with
      | some c => K (.one (.bool c)) σ
      | none => none
    | .neq => bif P.eqGuardType P.depth t then none else match eqA P 8 t (.agg xs) (.agg ys) with
      | some c => K (.one (.bool (!c))) σ
      | none => none
    | _ => none
  | _, _ => none

def fieldOf (s : TypeId) (f : Nat) : Option (Nat × TypeId) := match P.underlying s with
  | some (.struct fs) => match fs.toList[f]? with
    | some fd => some (fd.offset, fd.type)
    | none => none
  | _ => none

def argCells (σ : Env) : List Operand → List AC
  | [] => []
  | x :: xs => (σ.ev x).cells ++ argCells σ xs
def argAggs (σ : Env) : Ty → List Operand → List AC → Bool
  | .pair a b, x :: xs, cs => (σ.ev x).isAgg == a.isAgg && Nat.beq (σ.ev x).cells.length a.sz && a.proper && argAggs σ b xs cs
  | .pair a b, [], _ :: cs => false == a.isAgg && Nat.beq 1 a.sz && a.proper && argAggs σ b [] cs
  | .nil, [], [] => true
  | _, _, _ => false

def AC.flatC : AC → Bool
  | .int _ _ => true
  | .bool _ => true
  | .str _ => true
  | .own _ => true
  | _ => false
def Ob.flatO : Ob → Bool
  | .row e _ => e.flat
  | .drow _ _ => true
  | _ => false
/-- Functions whose text is gone through in place. -/
abbrev Inl (ρ : Type) := FuncId → List AV → Env → (AV → Env → Option ρ) → Option ρ
def noInl {ρ : Type} : Inl ρ := fun _ _ _ _ => none
variable (I : Inl ρ)
def callK (σ : Env) (d : Option Nat) (f : FuncId) (ct : Ty) (cx : ct.den) (args : List Operand) (K : AV → Env → Option ρ) : Option ρ :=
  match C.fns.find f (keyOf (argCells σ args)) with
  | none => I f (args.map σ.ev ++ (ct.acs cx).map .one) σ K
  | some S => bif argAggs σ S.ps args (ct.acs cx) && properL S.rs then
      match S.ps.ofAcs [] (argCells σ args ++ ct.acs cx) with
      | some x => obind (S.fn x) fun r =>
        K (tupAV (S.rs.resAV (ownAcs S.deep (bif C.isRaw d then [] else S.own) σ.h.length (S.rs.acs r)).1)) { σ with h := σ.h ++ (ownAcs S.deep (bif C.isRaw d then [] else S.own) σ.h.length (S.rs.acs r)).2 }
      | none => match S.ps.ofAcs σ.h (argCells σ args ++ ct.acs cx) with
        | some x => obind (S.fn x) fun r =>
          bif (ownAcs S.deep (bif C.isRaw d then [] else S.own) σ.h.length (S.rs.acs r)).1.all AC.flatC && (ownAcs S.deep (bif C.isRaw d then [] else S.own) σ.h.length (S.rs.acs r)).2.all (fun p => p.2.flatO) then
            K (tupAV (S.rs.resAV (ownAcs S.deep (bif C.isRaw d then [] else S.own) σ.h.length (S.rs.acs r)).1)) { σ with h := σ.h ++ (ownAcs S.deep (bif C.isRaw d then [] else S.own) σ.h.length (S.rs.acs r)).2 }
          else none
        | none => none
    else none

/-- Cells without memory but rows of the call's own. -/
def AC.soleC : AC → Bool
  | .int _ _ => true
  | .bool _ => true
  | .str _ => true
  | .own _ => true
  | .nils => true
  | _ => false
def ownIdsC : List AC → List Nat
  | [] => []
  | .own id :: cs => id :: ownIdsC cs
  | _ :: cs => ownIdsC cs
/-- All its memory is its own. -/
def Ob.sole : Ob → Bool
  | .row e _ => e.flat
  | .drow _ _ => true
  | _ => false
/-- Rows, each named once, whose memory is their own. -/
def takesOk (h : List (Nat × Ob)) : List Nat → Bool
  | [] => true
  | id :: ids => !(ids.any (Nat.beq id)) && ((nth h id (0, .gone)).2.sole && takesOk h ids)
/-- The blocks with these numbers alone. -/
def onlyH (ids : List Nat) : List (Nat × Ob) → Nat → List (Nat × Ob)
  | [], _ => []
  | p :: l, i => (bif ids.any (Nat.beq i) then p else (0, .gone)) :: onlyH ids l (i + 1)
/-- These rows are the call's own no more. -/
def Env.takes : Env → List Nat → Env
  | σ, [] => σ
  | σ, id :: ids => Env.takes ((σ.kill id).setOb id .gone) ids

/-- The element's type and the code agree. -/
def rowOk (et : TypeId) (e : Ty) : Bool := match P.info? et with
  | some i => Nat.beq i.size e.sz && decide (0 < e.sz) && decide (i.bytes ≤ 4096) && (match i.zero with
    | some z => Nat.beq z.cells.size e.sz
    | none => false)
  | none => false
def idxOk (t : TypeId) (e : Ty) : Bool := match P.underlying t with
  | some (.slice et) => (P.info? et).isSome && Nat.beq (sizeT P et) e.sz
  | _ => false
def elemT (st : TypeId) : TypeId := match P.underlying st with
  | some (.slice et) => et
  | _ => 0
def rowOf (σ : Env) (e : Ty) : AC → Option (List e.den)
  | .slc _ xs => Ty.castL (b := e) xs
  | .sln _ xs => Ty.castL (b := e) xs
  | .nils => some []
  | .own id => match σ.ob id with
    | .row _ xs => Ty.castL (b := e) xs
    | _ => none
  | _ => none

def appendK (σ : Env) (st : TypeId) (s x : AC) (K : AV → Env → Option ρ) : Option ρ :=
  match s with
  | .own id => match σ.ob id with
    | .row e xs => match rowOf σ e x with
      | some ys => bif isSl P st && (rowOk P (elemT P st) e && decide ((xs ++ ys).length ≤ lim)) then
          K (.one (.own id)) ((σ.kill id).setOb id (.row e (xs ++ ys)))
        else none
      | none => none
    | _ => none
  | .inn id i => match σ.ob id with
    | .tree e xss none => match rowOf σ e x with
      | some ys => obind xss[i]? fun xs => bif isSl P st && (rowOk P (elemT P st) e && decide ((xs ++ ys).length ≤ lim)) then
          K (.one (.inn id i)) ((σ.killI id).setOb id (.tree e (xss.set i (xs ++ ys)) (some i)))
        else none
      | none => none
    | _ => none
  | .nils => match tyOf P 16 st with
    | some (.slice e) => match rowOf σ e x with
      | some ys => bif isSl P st && (rowOk P (elemT P st) e && decide (ys.length ≤ lim)) then K (.one (.own σ.h.length)) (σ.newOb (.row e ys)) else none
      | none => none
    | _ => none
  | _ => none

def buildCells (places : List (Nat × Nat)) : List AC → List (Nat × AV) → Option (List AC)
  | cs, [] => some cs
  | cs, (i, v) :: rest => match places[i]? with
    | some (off, n) => bif v.cells.all AC.good && Nat.beq v.cells.length n && decide (off + n ≤ cs.length) then buildCells places (putN cs off v.cells) rest else none
    | none => none

def repN {α : Type} : Nat → List α → List α
  | 0, _ => []
  | n + 1, l => l ++ repN n l

def zeroOf (t : TypeId) : Option AV := match P.info? t with
  | some i => i.zero.map avOf
  | none => none

def chunks (e : Ty) (h : List (Nat × Ob)) : Nat → List AC → Option (List e.den)
  | 0, _ => some []
  | n + 1, cs => match e.ofAcs h (cs.take e.sz), chunks e h n (cs.drop e.sz) with
    | some x, some xs => some (x :: xs)
    | _, _ => none

def foldR (f : Int → Int → Int) (k : IntKind) : Int → List AV → Option (IntKind × Int)
  | n, [] => some (k, n)
  | n, .one (.int k' m) :: l => bif decide (k' = k) then foldR f k (f n m) l else none
  | _, _ => none
def foldI (f : Int → Int → Int) : List AV → Option (IntKind × Int)
  | .one (.int k n) :: l => foldR f k n l
  | _ => none
/-- The string of so many bytes. -/
def strOf (xs : List Int) : ByteArray := xs.foldl (fun r n => r.push (UInt8.ofNat n.toNat)) ByteArray.empty
/-- A bound of a slice expression. -/
def bndK (σ : Env) (d : Int) : Option Operand → Option Int
  | none => some d
  | some x => match σ.ev x with
    | .one (.int _ n) => some n
    | _ => none
/-- The data of captured variables. -/
def AC.data : AC → Option ((τ : Ty) × τ.den)
  | .int k n => some ⟨.int k, n⟩
  | .bool b => some ⟨.bool, b⟩
  | .str s => some ⟨.str, s⟩
  | .slc e xs => some ⟨.slice e, xs⟩
  | .ptr e p => some ⟨.ptr e, p⟩
  | .dptr e x 0 => some ⟨.ptr e, some x⟩
  | .clo g t x => some ⟨.clo g t, x⟩
  | _ => none
def capsOf (σ : Env) : List Operand → Option ((τ : Ty) × τ.den)
  | [] => some ⟨.nil, ()⟩
  | x :: xs => match σ.ev x with
    | .one c => match c.data, capsOf σ xs with
      | some d, some ds => some ⟨.pair d.1 ds.1, (d.2, ds.2)⟩
      | _, _ => none
    | _ => none
def capsA (σ : Env) : List Operand → Option (List Cap)
  | [] => some []
  | x :: xs => match σ.ev x, capsA σ xs with
    | .one (.vptr id off), some cs => some (.vptr id off :: cs)
    | .one (.own id), some cs => some (.own id :: cs)
    | .one c, some cs => match c.data with
      | some d => some (.dat d.1 d.2 :: cs)
      | none => none
    | _, _ => none
def Cap.ac : Cap → AC
  | .vptr id off => .vptr id off
  | .own id => .own id
  | .dat τ x => match τ.acs x with
    | [c] => c
    | _ => .bad
def opK (σ : Env) (o : Oper) (K : AV → Env → Option ρ) : Option ρ :=
  match o.op with
  | .move x => K (σ.ev x) σ
  | .assign x => K (σ.ev x) σ
  | .pick c a b => match σ.ev c with
    | .one (.bool t) => bif t then K (σ.ev a) σ else K (σ.ev b) σ
    | _ => none
  | .alloc t => match zeroOf P t with
    | some v => bif v.cells.all AC.good then K (.one (.vptr σ.h.length 0)) (σ.newOb (.var v.cells)) else none
    | none => none
  | .box t x => bif (σ.ev x).cells.all AC.good then
      bif C.isRaw o.dst then match tyOf P 16 t with
        | some e => match e.ofAcs [] (σ.ev x).cells with
          | some y => K (.one (.dptr e y 0)) σ
          | none => none
        | none => none
      else K (.one (.vptr σ.h.length 0)) (σ.newOb (.var (σ.ev x).cells))
    else none
  | .build t parts => match zeroOf P t, P.underlying t with
    | some z, some (.struct fs) => bif fs.toList.all (fun f => (P.info? f.type).isSome) then match buildCells (fs.toList.map fun f => (f.offset, sizeT P f.type)) z.cells (parts.toList.map fun p => (p.1, σ.ev p.2)) with
      | some cs => bif z.isAgg then K (.agg cs) σ else none
      | none => none
      else none
    | some z, some (.array n e) => bif (P.info? e).isSome then match buildCells ((List.range n).map fun i => (i * sizeT P e, sizeT P e)) z.cells (parts.toList.map fun p => (p.1, σ.ev p.2)) with
      | some cs => bif z.isAgg then K (.agg cs) σ else none
      | none => none
      else none
    | _, _ => none
  | .buildSlice t len parts => match P.underlying t with
    | some (.slice et) => match tyOf P 16 et, zeroOf P et with
      | some e, some z => bif rowOk P et e && decide (len * e.sz ≤ 16777216) then match buildCells ((List.range len).map fun i => (i * e.sz, e.sz)) (repN len z.cells) (parts.toList.map fun p => (p.1, σ.ev p.2)) with
        | some cs => match chunks e [] len cs with
          | some xs => bif C.isRaw o.dst then K (.one (.slc e xs)) σ else K (.one (.own σ.h.length)) (σ.newOb (.row e xs))
          | none => none
        | none => none
        else none
      | _, _ => none
    | _ => none
  | .load t a => match σ.ev a with
    | .one (.vptr id off) => match σ.ob id with
      | .var cs => loadK P σ t cs off K
      | _ => none
    | .one (.dptr e x off) => loadK P σ t (e.acs x) off K
    | .one (.ptr e p) => obind p fun x => loadK P σ t (e.acs x) 0 K
    | .one (.gidx g i) => match tabFind C.tabs g with
      | some xs => obind xs[i]? fun s => loadK P σ t [.str s] 0 K
      | none => none
    | .one (.eptr id e i off) => match σ.ob id with
      | .row _ xs => match Ty.castL (b := e) xs with
        | some ys => obind ys[i]? fun x => loadK P σ t (e.acs x) off K
        | none => none
      | .tree e' xss none => bif Nat.beq off 0 && (Nat.beq e.sz 1 && isSl P t) then obind xss[i]? fun _ => K (.one (.inn id i)) σ else none
      | _ => none
    | _ => none
  | .store t a v => bif (σ.ev v).cells.all AC.good && (Nat.beq (σ.ev v).cells.length (sizeT P t) && (P.info? t).isSome) then match σ.ev a with
    | .one (.vptr id off) => match σ.ob id with
      | .var cs => bif decide (off + (σ.ev v).cells.length ≤ cs.length) then K (.one .und) (σ.setOb id (.var (putN cs off (σ.ev v).cells))) else none
      | _ => none
    | .one (.eptr id e i off) => match σ.ob id with
      | .row _ xs => match Ty.castL (b := e) xs with
        | some ys => obind ys[i]? fun x => match e.ofAcs [] (putN (e.acs x) off (σ.ev v).cells) with
          | some y => bif decide (off + (σ.ev v).cells.length ≤ e.sz) then K (.one .und) (σ.setOb id (.row e (ys.set i y))) else none
          | none => none
        | none => none
      | .tree e' xss (some k) => match σ.ev v with
        | .one (.inn id' j) => bif Nat.beq off 0 && (Nat.beq e.sz 1 && Nat.beq id' id) && (decide (k = j) && decide (i = j)) then obind xss[i]? fun _ => K (.one .und) (σ.setOb id (.tree e' xss none)) else none
        | _ => none
      | .drow _ xs => bif Nat.beq off 0 && (Nat.beq (σ.ev v).cells.length e.sz && ((σ.ev v).cells.all AC.soleC && takesOk σ.h (id :: ownIdsC (σ.ev v).cells))) then
          match Ty.castL (b := e) xs, e.ofAcs (onlyH (ownIdsC (σ.ev v).cells) σ.h 0) (σ.ev v).cells with
          | some ys, some y => obind ys[i]? fun _ => K (.one .und) ((σ.takes (ownIdsC (σ.ev v).cells)).setOb id (.drow e (ys.set i y)))
          | _, _ => none
        else none
      | _ => none
    | _ => none
    else none
  | .nilCheck x => match σ.ev x with
    | .one (.vptr id off) => K (.one (.vptr id off)) σ
    | .one (.dptr e y off) => K (.one (.dptr e y off)) σ
    | .one (.eptr id e i off) => K (.one (.eptr id e i off)) σ
    | .one (.ptr e p) => obind p fun y => K (.one (.dptr e y 0)) σ
    | _ => none
  | .binOp op t x y _ => binK P op t σ (σ.ev x) (σ.ev y) K
  | .unOp op _ x => match op, σ.ev x with
    | .not, .one (.bool b) => K (.one (.bool (!b))) σ
    | .neg, .one (.int k n) => K (.one (.int k (k.wrap (0 - n)))) σ
    | _, _ => none
  | .convert src dst x => match σ.ev x, P.underlying src, P.underlying dst with
    | .one (.int _ n), some _, some (.int k) => K (.one (.int k (k.wrap n))) σ
    | .one c, some (.slice e), some .string => match P.underlying e, (Ty.slice (.int .u8)).ofAcs σ.h [c] with
      | some (.int .u8), some xs => K (.one (.str (strOf xs))) σ
      | _, _ => none
    | _, _, _ => none
  | .makeFunc (.func g) first caps => bif first.toList.isEmpty then
      match capsOf σ caps.toList with
      | some d => K (.one (.clo g d.1 d.2)) σ
      | none => match capsA σ caps.toList with
        | some cs => K (.one (.cloA g cs)) σ
        | none => none
    else none
  | .makeSlice t l c => match P.underlying t with
    | some (.slice et) => match tyOf P 16 et, zeroOf P et with
      | some e, some z => match e.ofAcs [] z.cells, σ.ev l, σ.ev c with
        | some x, .one (.int _ n), .one (.int _ m) => bif rowOk P et e && (decide (0 ≤ n) && (decide (n ≤ lim) && decide (n = m))) then bif C.isRaw o.dst then (match e, z with
            | .slice e', .one .nils => K (.one (.own σ.h.length)) (σ.newOb (.tree e' (List.replicate n.toNat []) none))
            | .agg τ, _ => K (.one (.own σ.h.length)) (σ.newOb (.drow (.agg τ) (List.replicate n.toNat x)))
            | _, _ => none) else K (.one (.own σ.h.length)) (σ.newOb (.row e (List.replicate n.toNat x))) else none
        | _, _, _ => none
      | _, _ => none
    | _ => none
  | .fieldAddr s x f => match fieldOf P s f, σ.ev x with
    | some (fo, ft), .one (.vptr id off) => bif Nat.blt 0 (sizeT P ft) then K (.one (.vptr id (off + fo))) σ else none
    | some (fo, ft), .one (.dptr e y off) => bif Nat.blt 0 (sizeT P ft) then K (.one (.dptr e y (off + fo))) σ else none
    | some (fo, ft), .one (.eptr id e i off) => bif Nat.blt 0 (sizeT P ft) then K (.one (.eptr id e i (off + fo))) σ else none
    | some (fo, ft), .one (.ptr e p) => bif Nat.blt 0 (sizeT P ft) then obind p fun y => K (.one (.dptr e y fo)) σ else none
    | _, _ => none
  | .field s x f => match fieldOf P s f, σ.ev x with
    | some (fo, ft), .agg cs => loadK P σ ft cs fo K
    | _, _ => none
  | .indexAddr t x ix => match σ.ev x, σ.ev ix with
    | .one (.slc e xs), .one (.int _ i) => bif idxOk P t e then obind (atI xs i) fun y => K (.one (.dptr e y 0)) σ else none
    | .one (.own id), .one (.int _ i) => match σ.ob id with
      | .row e xs => bif idxOk P t e && inI i xs.length then K (.one (.eptr id e i.toNat 0)) σ else none
      | .tree e xs _ => bif idxOk P t (.slice e) && inI i xs.length then K (.one (.eptr id (.slice e) i.toNat 0)) σ else none
      | .drow e xs => bif idxOk P t e && inI i xs.length then K (.one (.eptr id e i.toNat 0)) σ else none
      | _ => none
    | .one (.vptr id off), .one (.int _ i) => match P.underlying t with
      | some (.array n e) => bif (P.info? e).isSome && (decide (0 ≤ i) && decide (i < (n : Int))) then K (.one (.vptr id (off + i.toNat * sizeT P e))) σ else none
      | _ => none
    | .one (.gl g), .one (.int _ i) => match P.underlying t, tabFind C.tabs g with
      | some (.array n e), some _ => bif (P.info? e).isSome && (Nat.beq (sizeT P e) 1 && (decide (0 ≤ i) && decide (i < (n : Int)))) then K (.one (.gidx g i.toNat)) σ else none
      | _, _ => none
    | _, _ => none
  | .index t x ix => match σ.ev x, σ.ev ix, P.underlying t with
    | .one (.str s), .one (.int _ i), some .string => obind (byteAt s i) fun b => K (.one (.int .u8 b)) σ
    | _, _, _ => none
  | .slice t x lo hi mx => bif mx.isNone then match σ.ev x, P.underlying t with
    | .one (.str s), some .string => match bndK σ 0 lo, bndK σ s.size hi with
      | some l, some h => bif (decide (0 ≤ l) && decide (l ≤ h)) && decide (h ≤ (s.size : Int)) then K (.one (.str (s.extract l.toNat h.toNat))) σ else none
      | _, _ => none
    | .one (.slc e xs), some (.slice _) => match bndK σ 0 lo, bndK σ xs.length hi with
      | some l, some h => bif idxOk P t e && ((decide (0 ≤ l) && decide (l ≤ h)) && decide (h ≤ (xs.length : Int))) then K (.one (.slc e ((xs.take h.toNat).drop l.toNat))) σ else none
      | _, _ => none
    | .one (.own id), some (.slice _) => bif hi.isSome then (match σ.ob id, bndK σ 0 lo, bndK σ 0 hi with
      | .row e xs, some l, some h => bif idxOk P t e && (decide (l = 0) && (decide (0 ≤ h) && decide (h ≤ (xs.length : Int)))) then K (.one (.opre id e h.toNat)) σ else none
      | _, _, _ => none) else match σ.ob id, bndK σ 0 lo, hi with
      | .row e xs, some l, none => bif idxOk P t e && (decide (0 ≤ l) && decide (l ≤ (xs.length : Int))) then K (.one (.osub id e l.toNat)) σ else none
      | _, _, _ => none
    | _, _ => none
    else none
  | .extract x i => match σ.ev x with
    | .tup vs => match vs[i]? with
      | some p => K (tupAV [p]) σ
      | none => none
    | _ => none
  | .call c => match c.callee with
    | .value f => match σ.ev f with
      | .one (.clo g t x) => callK C I σ o.dst g t x c.args.toList K
      | .one (.cloA g cs) => I g (c.args.toList.map σ.ev ++ cs.map fun c => .one c.ac) σ K
      | _ => none
    | .builtin .len => match c.args.toList.map σ.ev, c.argTypes.toList.map P.underlying with
      | [.one (.slc _ xs)], [some (.slice _)] => K (.one (.int .i64 xs.length)) σ
      | [.one .nils], [some (.slice _)] => K (.one (.int .i64 0)) σ
      | [.one (.own id)], [some (.slice _)] => match σ.ob id with
        | .row _ xs => K (.one (.int .i64 xs.length)) σ
        | .drow _ xs => K (.one (.int .i64 xs.length)) σ
        | _ => none
      | [.one (.str s)], [some .string] => K (.one (.int .i64 s.size)) σ
      | _, _ => none
    | .builtin .append => match c.args.toList.map σ.ev, c.argTypes.toList with
      | [.one s, .one x], [st, st'] => bif Nat.beq st st' then appendK P σ st s x K else none
      | _, _ => none
    | .builtin .clear => match c.args.toList.map σ.ev, c.argTypes.toList with
      | [.one (.osub id e lo)], [st] => match σ.ob id, zeroOf P (elemT P st) with
        | .row e' xs, some z => match e'.ofAcs [] z.cells with
          | some x => bif decide (e = e') && (isSl P st && (rowOk P (elemT P st) e' && z.cells.all AC.good)) then K (.one .und) (σ.setOb id (.row e' (xs.take lo ++ List.replicate (xs.length - lo) x))) else none
          | none => none
        | _, _ => none
      | _, _ => none
    | .builtin .min => match foldI (fun x y => bif decide (y < x) then y else x) (c.args.toList.map σ.ev) with
      | some (k, n) => K (.one (.int k n)) σ
      | none => none
    | .builtin .max => match foldI (fun x y => bif decide (x < y) then y else x) (c.args.toList.map σ.ev) with
      | some (k, n) => K (.one (.int k n)) σ
      | none => none
    | _ => none
  | _ => none

def isApp (o : Oper) : Bool := o.guard.isNone && (match o.op with
  | .call { callee := .builtin .append, .. } => true
  | _ => false)
/-- An append whose slot is raw gives data: its row is written no more. -/
def frzAfter (C : Ctx) (o : Oper) (σ : Env) (K : Env → Option ρ) : Option ρ := bif isApp o && C.isRaw o.dst then (match o.dst with
  | some d => (match σ.freeze (d, none) with
    | some σ' => K σ'
    | none => none)
  | none => none) else K σ
def guardTmp (ops : List Oper) (j : Nat) : Option Nat := match ops[j]? with
  | some o => o.dst
  | none => none

def regK (ops : List Oper) : List Oper → Env → (Env → Option ρ) → Option ρ
  | [], σ, K => K σ
  | o :: rest, σ, K => match o.guard with
    | none => opK P C I σ o fun v σ' => frzAfter C o (σ'.put o.dst v) fun σ'' => regK ops rest σ'' K
    | some (j, want) => match guardTmp ops j with
      | none => none
      | some d => match (nth σ.t d (0, .one .bad)).2 with
        | .one .und => regK ops rest (σ.put o.dst (.one .und)) K
        | .one (.bool b) =>
          match want with
          | true => bif b then opK P C I (σ.refine (.tmp d) true) o fun v σ' => regK ops rest (σ'.put o.dst v) K
            else regK ops rest ((σ.refine (.tmp d) false).put o.dst (.one .und)) K
          | false => bif b then regK ops rest ((σ.refine (.tmp d) true).put o.dst (.one .und)) K
            else opK P C I (σ.refine (.tmp d) false) o fun v σ' => regK ops rest (σ'.put o.dst v) K
        | _ => none
end

/-- An operation that overwrites nothing. -/
def stableB (o : Oper) : Bool := match o.op with
  | .store _ _ _ => false
  | .call { callee := .builtin .append, .. } => false
  | .call { callee := .builtin .clear, .. } => false
  | _ => true
def bindsB (e : Edge) : Bool := Region.binds .any e
def dependsOn (o : Oper) (k : Nat) : Bool := o.after.toList.any fun e => bindsB e && Nat.beq e.on k
def dstOf : List Oper → Nat → Nat → Option Nat
  | [], _, _ => none
  | o :: os, i, t => bif (match o.dst with | some d => Nat.beq d t | none => false) then some i else dstOf os (i + 1) t
/-- What an operation looks at has come up ahead of it, or comes up behind it. -/
def lateOk (ops : List Oper) (j k : Nat) : Bool := Nat.blt j k && (match ops[k]? with
  | some o => dependsOn o j
  | none => false)
def looksOk (ops : List Oper) (j : Nat) (o : Oper) : Bool := (o.op.operands.toList.all fun x => match x with
  | .tmp t => match dstOf ops 0 t with
    | some k => dependsOn o k || lateOk ops j k
    | none => true
  | _ => true) && (match o.guard with
  | some (g, _) => dependsOn o g
  | none => true)
def edgesOk (o : Oper) (j : Nat) : Bool := o.after.toList.all fun e => !bindsB e || Nat.blt e.on j
def dstsOk : List Oper → Bool
  | [] => true
  | o :: os => (match o.dst with
    | some d => (dstOf os 0 d).isNone
    | none => true) && dstsOk os
/-- The operations that must have come up ahead of number j. -/
def ancs (ops : List Oper) : Nat → Nat → List Nat
  | 0, _ => []
  | n + 1, j => match ops[j]? with
    | some o => (o.after.toList.filter bindsB).flatMap fun e => e.on :: ancs ops n e.on
    | none => []
def tailOk (ops : List Oper) (j : Nat) : Bool := (List.range j).all fun k => (ancs ops j j).contains k
def splitAt (ops : List Oper) : List Oper → Nat → Nat
  | [], j => j
  | o :: os, j => bif stableB o then splitAt ops os (j + 1) else j
def drawOk (ops : List Oper) : Bool :=
  dstsOk ops && ((List.range ops.length).all fun j => match ops[j]? with
    | some o => edgesOk o j && looksOk ops j o && (bif Nat.blt j (splitAt ops ops 0) then true else tailOk ops j)
    | none => false)

/-- An append may come up ahead of operations that only look up where its value goes. -/
def lateOp (ops : List Oper) (k : Nat) : Bool := match ops[k]? with
  | some o => o.guard.isNone && (match o.op with
    | .move (.tmp t) | .fieldAddr _ (.tmp t) _ | .load _ (.tmp t) => (match dstOf ops 0 t with
      | some k' => Nat.blt k' k
      | none => true)
    | _ => false)
  | none => false
def drawOk2 (ops : List Oper) : Bool :=
  Nat.blt (splitAt ops ops 0) ops.length && (dstsOk ops && (List.range ops.length).all fun j => match ops[j]? with
    | some o => edgesOk o j && looksOk ops j o && (bif Nat.blt j (splitAt ops ops 0) then true else bif Nat.beq j (splitAt ops ops 0) then isApp o && (List.range j).all (fun k => (ancs ops j j).contains k || lateOp ops k) else tailOk ops j)
    | none => false)
def varAt (σ : Env) (x : Operand) : Bool := match σ.ev x with
  | .one (.vptr id _) => match σ.ob id with
    | .var _ => true
    | _ => false
  | _ => false
def lateE (σ : Env) (ops : List Oper) (s : Nat) : Bool := (List.range s).all fun k => (ancs ops s s).contains k || (match ops[k]? with
  | some o => (match o.op with
    | .move _ => true
    | .fieldAddr _ x _ => varAt σ x
    | .load _ x => varAt σ x
    | _ => false)
  | none => false)

@[reducible] def ksDen : List (Option Ty) → Type
  | [] => Unit
  | some τ :: ks => τ.den × ksDen ks
  | none :: ks => ksDen ks
@[reducible] def ShI.den : ShI → Type
  | .tmp _ τ => τ.den
  | .var _ ks => ksDen ks
  | .row _ e => List e.den
  | .tree _ e => List (List e.den)
  | .drow _ e => List e.den
@[reducible] def shDen : List ShI → Type
  | [] => Unit
  | i :: is => i.den × shDen is
def decVar : (ks : List (Option Ty)) → List AC → Option (ksDen ks)
  | [], [] => some ()
  | some τ :: ks, c :: cs => both (τ.ofAcs [] [c]) (decVar ks cs)
  | none :: ks, _ :: cs => decVar ks cs
  | _, _ => none
def encVar : (ks : List (Option Ty)) → ksDen ks → List AC → List AC
  | some τ :: ks, x, _ :: cs => τ.acs x.1 ++ encVar ks x.2 cs
  | none :: ks, x, c :: cs => c :: encVar ks x cs
  | _, _, _ => []
def ShI.dec (σ : Env) : (i : ShI) → Option i.den
  | .tmp i τ => bif (nth σ.t i (0, .one .bad)).2.isAgg == τ.isAgg && τ.proper then τ.ofAcs [] (nth σ.t i (0, .one .bad)).2.cells else none
  | .var id ks => match σ.ob id with
    | .var cs => decVar ks cs
    | _ => none
  | .row id e => match σ.ob id with
    | .row _ xs => Ty.castL (b := e) xs
    | _ => none
  | .tree id e => match σ.ob id with
    | .tree e' xs none => Ty.castL (a := .slice e') (b := .slice e) xs
    | _ => none
  | .drow id e => match σ.ob id with
    | .drow _ xs => Ty.castL (b := e) xs
    | _ => none
def shDec (σ : Env) : (l : List ShI) → Option (shDen l)
  | [] => some ()
  | i :: is => both (i.dec σ) (shDec σ is)
def ShI.enc (σ : Env) : (i : ShI) → i.den → Env
  | .tmp i τ, x => σ.put (some i) (τ.av x)
  | .var id ks, x => match σ.ob id with
    | .var cs => σ.setOb id (.var (encVar ks x cs))
    | _ => σ
  | .row id e, x => σ.setOb id (.row e x)
  | .tree id e, x => σ.setOb id (.tree e x none)
  | .drow id e, x => σ.setOb id (.drow e x)
def shEnc (σ : Env) : (l : List ShI) → shDen l → Env
  | [], _ => σ
  | i :: is, x => shEnc (i.enc σ x.1) is x.2

def AC.cut (n : Nat) : AC → AC
  | .own i => bif Nat.blt i n then .own i else .bad
  | .vptr i o => bif Nat.blt i n then .vptr i o else .bad
  | .eptr i e k o => bif Nat.blt i n then .eptr i e k o else .bad
  | .cloA g cs => bif cs.all (Cap.below n) then .cloA g cs else .bad
  | .inn i k => bif Nat.blt i n then .inn i k else .bad
  | .osub i e k => bif Nat.blt i n then .osub i e k else .bad
  | .opre i e k => bif Nat.blt i n then .opre i e k else .bad
  | c => c
def AC.below (n : Nat) : AC → Bool
  | .own i => Nat.blt i n
  | .vptr i _ => Nat.blt i n
  | .eptr i _ _ _ => Nat.blt i n
  | .cloA _ cs => cs.all (Cap.below n)
  | .inn i _ => Nat.blt i n
  | .osub i _ _ => Nat.blt i n
  | .opre i _ _ => Nat.blt i n
  | _ => true
def Env.dropT (σ : Env) : List Nat → Env
  | [] => σ
  | i :: is => Env.dropT (σ.put (some i) (.one .bad)) is
def Env.mkOwn (σ : Env) : List (Nat × Ty) → Env
  | [] => σ
  | (i, e) :: is => match (nth σ.t i (0, .one .bad)).2 with
    | .one .nils => Env.mkOwn ((σ.newOb (.row e [])).put (some i) (.one (.own σ.h.length))) is
    | .one (.opre id _ n) => match σ.ob id with
      | .row e' xs => Env.mkOwn (((σ.kill id).setOb id (.row e' (xs.take n))).put (some i) (.one (.own id))) is
      | _ => Env.mkOwn σ is
    | _ => Env.mkOwn σ is
/-- Cells of variables that hold nil: rows of the call's own. -/
def Env.mkOwnC (σ : Env) : List (Nat × Nat × Ty) → Env
  | [] => σ
  | (id, i, e) :: is => match σ.ob id with
    | .var cs => match nth cs i .bad with
      | .nils => Env.mkOwnC ((σ.newOb (.row e [])).setOb id (.var (setN cs i (.own σ.h.length)))) is
      | _ => Env.mkOwnC σ is
    | _ => Env.mkOwnC σ is
def Env.head (σ : Env) (hi : LHint) : Env := ((σ.dropT hi.drop).mkOwn hi.fresh).mkOwnC hi.cells
/-- Blocks from number n on are forgotten. -/
def Env.cut (σ : Env) (n : Nat) : Env := ⟨σ.t.map fun p => (p.1, p.2.mapC (AC.cut n)), (σ.h.take n).map fun p => (p.1, p.2.mapC (AC.cut n))⟩
def isBad : AV → Bool
  | .one .bad => true
  | _ => false
def sameC : AC → AC → Bool
  | .own i, .own j => Nat.beq i j
  | .vptr i o, .vptr j p => Nat.beq i j && Nat.beq o p
  | .nils, .nils => true
  | .nilp, .nilp => true
  | .und, .und => true
  | _, _ => false
def sameV : AV → AV → Bool
  | .one c, .one d => sameC c d
  | _, _ => false
def ShI.hasT (i : Nat) : ShI → Bool
  | .tmp j _ => Nat.beq j i
  | _ => false
def ShI.obj : ShI → Option Nat
  | .var id _ => some id
  | .row id _ => some id
  | .tree id _ => some id
  | .drow id _ => some id
  | .tmp _ _ => none
def distinctObj : List ShI → Bool
  | [] => true
  | i :: is => (match i.obj with
    | some n => !(is.any fun j => match j.obj with
      | some m => Nat.beq m n
      | none => false)
    | none => true) && distinctObj is
/-- What is not carried is as it was at the head. -/
def sameT (sh : List ShI) (n : Nat) : Nat → List (Nat × AV) → List (Nat × AV) → Bool
  | _, [], [] => true
  | i, a :: as, b :: bs => (sh.any (ShI.hasT i) || isBad a.2 || ((Nat.beq a.1 b.1 || sameV a.2 b.2) && a.2.anyC (fun c => !c.below n) == false)) && sameT sh n (i + 1) as bs
  | _, _, _ => false
def keepVar (n : Nat) : List (Option Ty) → List AC → List AC → Bool
  | [], [], [] => true
  | some _ :: ks, _ :: cs, _ :: ds => keepVar n ks cs ds
  | none :: ks, c :: cs, d :: ds => sameC c d && c.below n && keepVar n ks cs ds
  | _, _, _ => false
def ShI.hasH (n id : Nat) (a b : Ob) : ShI → Bool
  | .var j ks => Nat.beq j id && (match a, b with
    | .var cs, .var ds => keepVar n ks cs ds
    | _, _ => false)
  | .row j _ => Nat.beq j id
  | .tree j _ => Nat.beq j id
  | .drow j _ => Nat.beq j id
  | _ => false
def sameH (sh : List ShI) (n : Nat) : Nat → List (Nat × Ob) → List (Nat × Ob) → Bool
  | _, [], [] => true
  | i, a :: as, b :: bs => (sh.any (ShI.hasH n i a.2 b.2) || (Nat.beq a.1 b.1 && a.2.anyC (fun c => !c.below n) == false)) && sameH sh n (i + 1) as bs
  | _, _, _ => false

def frzOf : List (Nat × List (Nat × Option Ty)) → Nat → List (Nat × Option Ty)
  | [], _ => []
  | (k, l) :: r, i => bif Nat.beq k i then l else frzOf r i
def hintOf : List (Nat × LHint) → Nat → Option LHint
  | [], _ => none
  | (k, h) :: r, i => bif Nat.beq k i then some h else hintOf r i

section
variable {ρ : Type} (P : Program) (C : Ctx) (I : Inl ρ) (N : Nat) (H : Hints)

/-- At a round's end. -/
def backK (hi : LHint) (σ0 : Env) (next : shDen hi.sh → Option ρ) (K : Exit → Env → Option ρ) : Exit → Env → Option ρ
  | .normal, σ' =>
    bif distinctObj hi.sh && (sameT hi.sh σ0.h.length 0 σ0.t σ'.t && sameH hi.sh σ0.h.length 0 σ0.h (σ'.h.take σ0.h.length)) then
      match shDec (σ'.cut σ0.h.length) hi.sh with
      | none => none
      | some s' => next s'
    else none
  | e, σ' => K e σ'

def pev : Code → Nat → Env → (Exit → Env → Option ρ) → Option ρ
  | .skip, _, σ, K => K .normal σ
  | .label _, _, σ, K => K .normal σ
  | .region id ops draw, _, σ, K => bif !draw || drawOk ops.toList then
      match σ.freezes (frzOf H.frz id) with
      | some σ' => regK P C (bif draw then noInl else I) ops.toList ops.toList σ' (K .normal)
      | none => none
    else bif drawOk2 ops.toList then
      match σ.freezes (frzOf H.frz id) with
      | some σ' => regK P C noInl ops.toList (ops.toList.take (splitAt ops.toList ops.toList 0)) σ' fun σp => bif lateE σp ops.toList (splitAt ops.toList ops.toList 0) then
          regK P C noInl ops.toList (ops.toList.drop (splitAt ops.toList ops.toList 0)) σp (K .normal)
        else none
      | none => none
    else none
  | .seq a b, _, σ, K => pev a 0 σ fun e σ' => match e with
    | .normal => pev b 0 σ' K
    | e => K e σ'
  | .cond c x y, _, σ, K => match σ.ev c with
    | .one (.bool t) => bif t then pev x 0 (σ.refine c true) K else pev y 0 (σ.refine c false) K
    | _ => none
  | .block id c, _, σ, K => pev c id σ fun e σ' => match e with
    | .exit id' => bif Nat.beq id' id then K .normal σ' else K (.exit id') σ'
    | e => K e σ'
  | .loop c, bid, σ, K => match hintOf H.loops bid, σ.freezes (frzOf H.frz (1000000 + bid)) with
    | some hi, some σ1 =>
      match shDec (σ1.head hi) hi.sh with
      | none => none
      | some s0 => fixN N (fun next s => pev c 0 (shEnc (σ1.head hi) hi.sh s) fun e σ' => backK hi (σ1.head hi) next K e σ') s0
    | _, _ => none
  | .exit id, _, σ, K => K (.exit id) σ
  | .ret, _, σ, K => K .ret σ
  | _, _, _, _ => none
end

/-- The results at the end. -/
def resAVs (P : Program) (σ : Env) : List ResultVar → Option (List AV)
  | [] => some []
  | .tmp t :: rs => (resAVs P σ rs).map fun vs => (nth σ.t t (0, .one .bad)).2 :: vs
  | .cell a ty :: rs => match (nth σ.t a (0, .one .bad)).2 with
    | .one (.vptr id off) => match σ.ob id with
      | .var cs => loadK P σ ty cs off fun v _ => (resAVs P σ rs).map fun vs => v :: vs
      | _ => none
    | _ => none
def isBadC : AC → Bool
  | .bad => true
  | _ => false
def aggsOk : Ty → List AV → Bool
  | .pair a b, v :: vs => v.isAgg == a.isAgg && Nat.beq v.cells.length a.sz && a.proper && aggsOk b vs
  | .nil, [] => true
  | _, _ => false
/-- The flagged results are read, and then no longer the call's own. -/
def takeOwn (dp : Bool) (h : List (Nat × Ob)) : List Bool → List AC → Option (List Nat × List AC)
  | true :: fs, .own id :: cs => match (nth h id (0, .gone)).2, takeOwn dp h fs cs with
    | .row e xs, some (ids, cs') => bif ids.contains id || (dp && !e.flat) then none else some (id :: ids, .slc e xs :: cs')
    | .drow e xs, some (ids, cs') => bif ids.contains id || !(dp && !e.flat) then none else some (id :: ids, .slc e xs :: cs')
    | _, _ => none
  | true :: _, _ => none
  | false :: fs, c :: cs => match takeOwn dp h fs cs with
    | some (ids, cs') => some (ids, c :: cs')
    | none => none
  | [], cs => some ([], cs)
  | _, _ => none
def dropIds : List Nat → List (Nat × Ob) → List (Nat × Ob)
  | [], h => h
  | id :: ids, h => dropIds ids (setN h id (0, .gone))
def retK (P : Program) (S : FnSpec) (fn : Func) (e : Exit) (σ : Env) : Option S.rs.den :=
  match e with
  | .normal | .ret => match resAVs P σ fn.results.toList with
    | some vs => bif aggsOk S.rs vs && !(vs.flatMap AV.cells).any isBadC then
        match takeOwn S.deep σ.h S.own (vs.flatMap AV.cells) with
        | some (ids, cs) => S.rs.ofAcs (dropIds ids σ.h) cs
        | none => none
      else none
    | none => none
  | _ => none
def entry (S : FnSpec) (fn : Func) (x : S.ps.den) : Env := ⟨(S.ps.avs x ++ List.replicate (fn.ntmps - (S.ps.avs x).length) (AV.one AC.und)).map fun v => (0, v), []⟩
def findI : List InF → FuncId → Option InF
  | [], _ => none
  | x :: r, f => bif Nat.beq x.fid f then some x else findI r f
def resV : List AV → AV
  | [v] => v
  | vs => .tup (vs.map fun v => (v.isAgg, v.cells))
/-- The slots of a call that has waited, with new numbers. -/
def zipB : List (Nat × AV) → List (Nat × AV) → List (Nat × AV)
  | [], _ => []
  | p :: ps, [] => (p.1 + 1, .one .bad) :: zipB ps []
  | p :: ps, q :: qs => (p.1 + 1, q.2) :: zipB ps qs
/-- Every call that waits bears a higher number. -/
def frAbove (n : Nat) (h : List (Nat × Ob)) : Bool := h.all fun p => match p.2 with
  | .frame k _ => Nat.blt n k
  | _ => true
def popK {ρ : Type} (P : Program) (m k : Nat) (t0 : List (Nat × AV)) (fn : Func) (K : AV → Env → Option ρ) (e : Exit) (σ : Env) : Option ρ :=
  match e with
  | .normal | .ret => match resAVs P σ fn.results.toList, nth σ.h m (0, .gone) with
    | some vs, (n, .frame k' l) => bif Nat.beq k' k && frAbove k (setN σ.h m (n + 1, .gone)) then K ((resV vs).mapC (AC.kill m)) (Env.kill ⟨bif Nat.beq n 0 then t0 else zipB t0 l, setN σ.h m (n + 1, .gone)⟩ m) else none
    | _, _ => none
  | _ => none
def inEntry (k : Nat) (fn : Func) (vs : List AV) (σ : Env) : Env := ⟨(vs ++ List.replicate (fn.ntmps - vs.length) (AV.one AC.und)).map fun v => (0, v), σ.h ++ [(0, .frame k σ.t)]⟩
def ownIds : List AV → List Nat
  | [] => []
  | .one (.own id) :: vs => id :: ownIds vs
  | _ :: vs => ownIds vs
def ownSlots (ids : List Nat) : List (Nat × AV) → Nat → List Nat
  | [], _ => []
  | (_, .one (.own id)) :: t, i => bif ids.any (Nat.beq id) then i :: ownSlots ids t (i + 1) else ownSlots ids t (i + 1)
  | _ :: t, i => ownSlots ids t (i + 1)
/-- The caller's own words for rows that are handed over are forgotten. -/
def dropS (x : InF) (vs : List AV) (σ : Env) : Env := bif x.drop then σ.dropT (ownSlots (ownIds vs) σ.t 0) else σ
def inlK {ρ : Type} (P : Program) (fns : CtxL) (N : Nat) (L : List InF) : Nat → Inl ρ
  | 0 => noInl
  | n + 1 => fun f vs σ K => match findI L f with
    | some x => match x.fn.body with
      | some c => bif frAbove n (dropS x vs σ).h then pev P ⟨fns, x.raw, [], []⟩ (inlK P fns N L n) N x.H c 0 (inEntry n x.fn vs (dropS x vs σ)) (popK P (dropS x vs σ).h.length n (dropS x vs σ).t x.fn K) else none
      | none => none
    | none => none
def pevFn (P : Program) (C : Ctx) (N : Nat) (H : Hints) (S : FnSpec) (fn : Func) (x : S.ps.den) : Option S.rs.den :=
  match fn.body with
  | some c => pev P C (inlK P C.fns N C.inl 4) N H c 0 (entry S fn x) fun e σ => retK P S fn e ((σ.mkOwn H.rets).mkOwnC H.retc)
  | none => none
/-- The parameters told one by one. -/
def entryW (fn : Func) (vs : List AV) : Env := ⟨(vs ++ List.replicate (fn.ntmps - vs.length) (AV.one AC.und)).map fun v => (0, v), []⟩
def pevFnW (P : Program) (C : Ctx) (N : Nat) (H : Hints) (S : FnSpec) (fn : Func) (vs : List AV) : Option S.rs.den :=
  match fn.body with
  | some c => pev P C (inlK P C.fns N C.inl 4) N H c 0 (entryW fn vs) fun e σ => retK P S fn e ((σ.mkOwn H.rets).mkOwnC H.retc)
  | none => none
end Go.Proofs.YtbdokiecpmhjmaaGreatDoor
