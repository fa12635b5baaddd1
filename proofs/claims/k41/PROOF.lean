import PyProof.Rows.All
import Wide.All
import OpenK.AllK
import Wide.FinOn
import KE.DataAny
import KE.DataEq
import KE.DataIsa
import HandS.ForMost
import PyProof.ReprReads
import PyProof.EqKinds
import PyProof.ReprRoads
import HandS.TupAny
import HandS.TupMul
import HandS.Wide
import HandS.Flow
import HandS.Walk
import PyProof.CallFns
import HandS.Text
import KE.GoesEnum
import HandS.Style
import HandS.Ends
import HandS.Defaults
import HandS.Words
import HandS.HeadEnd
import HandS.Head2
import HandS.HeadHook2
import PySem.Challenge.RW_latewires_k41_what_is_a_loose_row

set_option Elab.async false
set_option linter.all false
set_option maxRecDepth 100000

-- part EvA
set_option maxHeartbeats 200000
/-! EvA: a small syntax of the author's own for defs of a text, and its evaluator over plain data and a store of numbered lists. No model in sight. -/
namespace Ev
open PySem

/-- values: frozen data; a mutable thing of the store; a tuple that holds such; a def of the table -/
inductive W where
  | d (x : PyData) | ref (n : Nat) | tup (ws : List W) | fn (i : Nat)

inductive Cell where
  | lst (ws : List W)
  | gone
abbrev Store := List Cell
inductive Out (α : Type) where
  | ok (a : α) (S : Store)
  | exc (c : Nat) (p : Option W) (S : Store)
  | bad
def M (α : Type) := Store → Out α
@[inline] def M.pr {α : Type} (a : α) : M α := fun S => .ok a S
@[inline] def M.bd {α β : Type} (x : M α) (f : α → M β) : M β := fun S => match x S with
  | .ok a S' => f a S'
  | .exc c p S' => .exc c p S'
  | .bad => .bad
instance : Monad M where
  pure := M.pr
  bind := M.bd
theorem pure_at {α : Type} (a : α) (S : Store) : (pure a : M α) S = .ok a S := rfl
theorem bind_at {α β : Type} (x : M α) (f : α → M β) (S : Store) : (x >>= f) S = (match x S with
  | .ok a S' => f a S'
  | .exc c p S' => .exc c p S'
  | .bad => .bad) := rfl
def bad {α : Type} : M α := fun _ => .bad
theorem bad_at {α : Type} (S : Store) : (bad : M α) S = .bad := rfl
def guard (b : Bool) : M Unit := fun S => if b then .ok () S else .bad
theorem guard_at (b : Bool) (S : Store) : guard b S = if b then .ok () S else .bad := rfl
def lift {α : Type} (o : Option α) : M α := fun S => match o with
  | some a => .ok a S
  | none => .bad

abbrev Env := List (Option W)

/-- built-in functions and types that are called by their names -/
inductive Ty where
  | int | bool | str | tup | lst | dct
  deriving DecidableEq
inductive Blt where
  | len | isa (t : Ty) | int1 | bool1 | sum | all | any | min2 | max2 | listOf | tupleOf | repr | abs | str1
  deriving DecidableEq
/-- methods of built-in types -/
inductive Mt where
  | append | pop | popAt | extend | join | split | startswith
  deriving DecidableEq
/-- what a loop walks -/
inductive Ik where
  | seq | rng1 | rng2 | rng3 | enum | zip
  deriving DecidableEq
/-- targets -/
inductive Tg where
  | nm (i : Nat)
  | tp (ts : List Tg)

inductive Ex where
  | var (i : Nat)
  | con (x : PyData)
  | glo (k : Nat)
  | fn (x : Str) (i : Nat)
  | tup (es : List Ex)
  | lst (own : Bool) (es : List Ex)
  | dic
  | bin (own : Bool) (op : Operator) (a b : Ex)
  | neg (a : Ex)
  | cmp (op : CmpOp) (a b : Ex)
  | chn (op op' : CmpOp) (a b c : Ex)
  | and (a b : Ex)
  | or (a b : Ex)
  | not (a : Ex)
  | ite (c a b : Ex)
  | call (i : Nat) (es : List Ex)
  | callk (i : Nat) (es : List Ex) (ks : List Str) (kes : List Ex)
  | blt (own : Bool) (b : Blt) (es : List Ex)
  | met (m : Mt) (o : Ex) (es : List Ex)
  | sub (a i : Ex)
  | slc (own : Bool) (a lo hi : Ex)
  | nop
  | comp (own : Bool) (elt : Ex) (tg : Tg) (k : Ik) (its : List Ex) (ifs : List Ex) (vs : List Nat)

/-- flat tuples where they can be -/
def W.data? : W → Option PyData
  | .d x => some x
  | _ => none
def allData : List W → Option (List PyData)
  | [] => some []
  | w :: ws => match w.data?, allData ws with
    | some x, some xs => some (x :: xs)
    | _, _ => none
mutual
def W.old (b : Nat) : W → Bool
  | .d _ => true
  | .ref n => decide (n < b)
  | .tup ws => W.oldAll b ws
  | .fn _ => true
def W.oldAll (b : Nat) : List W → Bool
  | [] => true
  | w :: ws => w.old b && W.oldAll b ws
end

def mkTup (ws : List W) : W := match allData ws with
  | some xs => .d (.tuple xs)
  | none => .tup ws
def alloc (c : Cell) : M W := fun S => .ok (.ref S.length) (S ++ [c])
def mkLst (own : Bool) (ws : List W) : M W :=
  if own then alloc (.lst ws) else match allData ws with
    | some xs => pure (.d (.list xs))
    | none => bad
/-- the items of a list or a tuple -/
def seqW : W → M (List W)
  | .d (.list xs) => pure (xs.map .d)
  | .d (.tuple xs) => pure (xs.map .d)
  | .tup ws => pure ws
  | .ref n => fun S => match S[n]? with
    | some (.lst ws) => .ok ws S
    | _ => .bad
  | _ => bad
/-- .. of what stands still -/
def stillW : W → M (List W)
  | .d (.list xs) => pure (xs.map .d)
  | .d (.tuple xs) => pure (xs.map .d)
  | .tup ws => pure ws
  | _ => bad
def intW : W → M Int
  | .d (.int i) => pure i
  | _ => bad
def toD : W → M PyData
  | .d x => pure x
  | .ref n => fun S => match S[n]? with
    | some (.lst ws) => (match allData ws with
      | some xs => .ok (.list xs) S
      | none => .bad)
    | _ => .bad
  | _ => bad

def line : Nat := sizeLine
/-- 2 to the 4000th -/
def lim4 : Nat := 13182040934309431001038897942365913631840191610932727690928034502417569281128344551079752123172122033140940756480716823038446817694240581281731062452512184038544674444386888956328970642771993930036586552924249514488832183389415832375620009284922608946111038578754077913265440918583125586050431647284603636490823850007826811672468900210689104488089485347192152708820119765006125944858397761874669301278745233504796586994514054435217053803732703240283400815926169348364799472716094576894007243168662568886603065832486830606125017643356469732407252874567217733694824236675323341755681839221954693820456072020253884371226826844858636194212875139566587445390068014747975813971748114770439248826688667129237954128555841874460665729630492658600179338272579110020881228767361200603478973120168893997574353727653998969223092798255701666067972698906236921628764772837915526086464389161570534616956703744840502975279094087587298968423516531626090898389351449020056851221079048966718878943309232071978575639877208621237040940126912767610658141079378758043403611425454744180577150855204937163460902512732551260539639221457005977247266676344018155647509515396711351487546062479444592779055555421362722504575706910949376
/-- where a product is reckoned -/
def mulOk (i j : Int) : Bool := (decide (-(2 ^ 64) < i) && decide (i < 2 ^ 64)) || (decide (-(2 ^ 64) < j) && decide (j < 2 ^ 64)) || (decide (i.natAbs < lim4) && decide (j.natAbs < lim4))
def divOk (j : Int) : Bool := decide (j ≠ 0) && decide (j.natAbs < lim4)
def powOk (i j : Int) : Bool := decide (0 ≤ j) && decide (j ≤ 1000000) && decide (i.natAbs < 2 ^ 64)
def rep {α : Type} (k : Nat) (xs : List α) : List α := (List.replicate k xs).flatten

def binop (own : Bool) : Operator → W → W → M W
  | .Add, .d (.int i), .d (.int j) => pure (.d (.int (i + j)))
  | .Add, .d (.str a), .d (.str b) => do guard (decide (a.length + b.length ≤ sizeLine)); pure (.d (.str (a ++ b)))
  | .Add, .d (.tuple a), .d (.tuple b) => do guard (decide (a.length + b.length ≤ sizeLine)); pure (.d (.tuple (a ++ b)))
  | .Add, .d (.list a), .d (.list b) => do guard (decide (a.length + b.length ≤ sizeLine)); mkLst own (a.map .d ++ b.map .d)
  | .Add, .d (.list a), .ref n => do let ws ← seqW (.ref n); guard (decide (a.length + ws.length ≤ sizeLine)); mkLst own (a.map .d ++ ws)
  | .Add, .ref n, .d (.list b) => do let ws ← seqW (.ref n); guard (decide (ws.length + b.length ≤ sizeLine)); mkLst own (ws ++ b.map .d)
  | .Add, .ref n, .ref m => do let ws ← seqW (.ref n); let us ← seqW (.ref m); guard (decide (ws.length + us.length ≤ sizeLine)); mkLst own (ws ++ us)
  | .Sub, .d (.int i), .d (.int j) => pure (.d (.int (i - j)))
  | .Mult, .d (.int i), .d (.int j) => do guard (mulOk i j); pure (.d (.int (i * j)))
  | .Mult, .d (.tuple a), .d (.int k) => do guard (decide (2 ≤ k) && decide (k ≤ 1000) && decide (a.length ≤ 1000) && !a.isEmpty); pure (.d (.tuple (rep k.toNat a)))
  | .Mult, .d (.list a), .d (.int k) => do guard (decide (-(2 ^ 62) ≤ k) && decide (k < 2 ^ 62) && decide (a.length * k.toNat ≤ sizeLine)); mkLst own (rep k.toNat (a.map .d))
  | .FloorDiv, .d (.int i), .d (.int j) => do guard (divOk j); pure (.d (.int (i.fdiv j)))
  | .Mod, .d (.int i), .d (.int j) => do guard (decide (j ≠ 0)); pure (.d (.int (i.fmod j)))
  | .Pow, .d (.int i), .d (.int j) => do guard (powOk i j); pure (.d (.int (i ^ j.toNat)))
  | _, _, _ => bad

mutual
/-- == can be told: a dict meets texts and tuples alone -/
def eqOk : PyData → PyData → Bool
  | .dict _, .str _ => true
  | .dict _, .tuple _ => true
  | .dict _, _ => false
  | .str _, .dict _ => true
  | .tuple _, .dict _ => true
  | _, .dict _ => false
  | .list xs, .list ys => eqOkAll xs ys
  | .tuple xs, .tuple ys => eqOkAll xs ys
  | _, _ => true
def eqOkAll : List PyData → List PyData → Bool
  | x :: xs, y :: ys => eqOk x y && eqOkAll xs ys
  | _, _ => true
end
def eqM (x y : PyData) : M Bool := do guard (eqOk x y && decide (min x.depth y.depth ≤ 64)); pure (x.eqv y)
def inStr (a b : Str) : Bool := !(Builtin.Str.occurrences b a 0 b.length 1).isEmpty
def inM (x : PyData) (ys : List PyData) : M Bool := do guard (ys.all fun y => eqOk y x && decide (min y.depth x.depth ≤ 64)); pure (ys.any fun y => y.eqv x)
def cmpop : CmpOp → W → W → M Bool
  | .Eq, x, y => do let a ← toD x; let b ← toD y; eqM a b
  | .NotEq, x, y => do let a ← toD x; let b ← toD y; guard (a.plain && b.plain && decide (min a.depth b.depth ≤ 64)); pure (!a.eqv b)
  | .Lt, .d (.int i), .d (.int j) => pure (decide (i < j))
  | .LtE, .d (.int i), .d (.int j) => pure (decide (i ≤ j))
  | .Gt, .d (.int i), .d (.int j) => pure (decide (j < i))
  | .GtE, .d (.int i), .d (.int j) => pure (decide (j ≤ i))
  | .Is, x, .d .none => (match x with
    | .d .none => pure true
    | _ => pure false)
  | .IsNot, x, .d .none => (match x with
    | .d .none => pure false
    | _ => pure true)
  | .In, .d (.str a), .d (.str b) => pure (inStr a b)
  | .NotIn, .d (.str a), .d (.str b) => pure (!inStr a b)
  | .In, x, .d (.list ys) => do let a ← toD x; inM a ys
  | .In, x, .d (.tuple ys) => do let a ← toD x; inM a ys
  | .NotIn, x, .d (.list ys) => do let a ← toD x; let k ← inM a ys; pure (!k)
  | .NotIn, x, .d (.tuple ys) => do let a ← toD x; let k ← inM a ys; pure (!k)
  | _, _, _ => bad

def truthD : PyData → M Bool
  | .str s => do guard (decide (s.length ≤ sizeLine)); pure (PyData.truthy (.str s))
  | .dict _ => bad
  | x => pure x.truthy
def truthW : W → M Bool
  | .d x => truthD x
  | .ref n => do let ws ← seqW (.ref n); pure (!ws.isEmpty)
  | .tup ws => pure (!ws.isEmpty)
  | .fn _ => bad

def isaD : Ty → PyData → Bool
  | .int, x => x.isInt
  | .bool, x => x.isBool
  | .str, x => x.isStr
  | .tup, x => x.isTuple
  | .lst, x => x.isList
  | .dct, x => x.isDict
def isaW (t : Ty) : W → M Bool
  | .d x => pure (isaD t x)
  | .ref n => do let _ ← seqW (.ref n); pure (decide (t = .lst))
  | _ => bad

def intsOf : List W → Option (List Int)
  | [] => some []
  | .d (.int i) :: ws => (intsOf ws).map (i :: ·)
  | _ => none
def boolsOf : List W → Option (List Bool)
  | [] => some []
  | .d (.bool i) :: ws => (boolsOf ws).map (i :: ·)
  | _ => none
def lenW : W → M Nat
  | .d (.str s) => do guard (decide (s.length ≤ sizeLine)); pure s.length
  | w => do let ws ← seqW w; pure ws.length
def listW : W → M (List W)
  | .d (.list xs) => pure (xs.map .d)
  | .ref n => seqW (.ref n)
  | _ => bad

def bltin (own : Bool) : Blt → List W → M W
  | .len, [w] => do let n ← lenW w; pure (.d (.int n))
  | .isa t, [w] => do let k ← isaW t w; pure (.d (.bool k))
  | .int1, [.d (.int i)] => pure (.d (.int i))
  | .int1, [.d (.bool k)] => pure (.d (.int (if k then 1 else 0)))
  | .bool1, [.d (.int i)] => pure (.d (.bool (i != 0)))
  | .bool1, [.d (.bool k)] => pure (.d (.bool k))
  | .sum, [w] => do let ws ← listW w; let ns ← lift (intsOf ws); pure (.d (.int ns.sum))
  | .all, [w] => do let ws ← listW w; let bs ← lift (boolsOf ws); pure (.d (.bool (bs.all id)))
  | .any, [w] => do let ws ← listW w; let bs ← lift (boolsOf ws); pure (.d (.bool (bs.any id)))
  | .min2, [.d (.int i), .d (.int j)] => pure (.d (.int (if j < i then j else i)))
  | .max2, [.d (.int i), .d (.int j)] => pure (.d (.int (if j > i then j else i)))
  | .listOf, [w] => do let ws ← seqW w; mkLst own ws
  | .tupleOf, [w] => do let ws ← seqW w; pure (mkTup ws)
  | .repr, [w] => do let x ← toD w; guard (x.showable && decide (x.shown.length ≤ sizeLine) && decide (x.depth ≤ 64)); pure (.d (.str x.shown))
  | .abs, [.d (.int i)] => pure (.d (.int (if i < 0 then -i else i)))
  | .str1, [.d (.int i)] => do guard (decide (i.natAbs.log2 < 1920)); pure (.d (.str (toString i)))
  | _, _ => bad

def upd (n : Nat) (ws : List W) : M Unit := fun S => .ok () (S.set n (.lst ws))
def cellW (n : Nat) : M (List W) := seqW (.ref n)
/-- methods; b: the frame's base (what stood ahead of the call takes nothing younger) -/
def method (b : Nat) : Mt → W → List W → M W
  | .append, .ref n, [w] => do
    let ws ← cellW n
    guard (decide (ws.length < sizeLine) && (decide (b ≤ n) || w.old n))
    upd n (ws ++ [w])
    pure (.d .none)
  | .extend, .ref n, [w] => do
    let ws ← cellW n
    let us ← listW w
    guard (decide (ws.length + us.length ≤ sizeLine) && (decide (b ≤ n) || W.oldAll n us))
    upd n (ws ++ us)
    pure (.d .none)
  | .pop, .ref n, [] => do
    let ws ← cellW n
    let y ← lift ws[ws.length - 1]?
    upd n ws.dropLast
    pure y
  | .popAt, .ref n, [.d (.int 0)] => do
    let ws ← cellW n
    let y ← lift ws[0]?
    upd n (ws.eraseIdx 0)
    pure y
  | _, _, _ => bad

/-- the receiver -/
def recv : Mt → W → M Unit
  | .append, .ref n => do let _ ← seqW (.ref n); pure ()
  | .extend, .ref n => do let _ ← seqW (.ref n); pure ()
  | .pop, .ref n => do let _ ← seqW (.ref n); pure ()
  | .popAt, .ref n => do let _ ← seqW (.ref n); pure ()
  | _, _ => bad
def subW : W → W → M W
  | .d (.str s), .d (.int i) => do
    guard (decide (s.length ≤ sizeLine))
    let c ← lift (L2.atI s.cps.toList i)
    pure (.d (.str ⟨#[c]⟩))
  | w, .d (.int i) => do let ws ← seqW w; lift (L2.atI ws i)
  | _, _ => bad
def cut {α : Type} (xs : List α) (lo hi : Option Int) : List α := (xs.drop (HT.sIx xs.length 0 lo)).take (HT.sIx xs.length xs.length hi - HT.sIx xs.length 0 lo)
def sliceW (own : Bool) : W → Option Int → Option Int → M W
  | .d (.tuple xs), lo, hi => pure (.d (.tuple (cut xs lo hi)))
  | .d (.list xs), lo, hi => mkLst own ((cut xs lo hi).map .d)
  | .ref n, lo, hi => do let ws ← seqW (.ref n); mkLst own (cut ws lo hi)
  | .d (.str s), lo, hi => do guard (decide (s.length ≤ sizeLine)); pure (.d (.str (L2.cutS s lo hi)))
  | _, _, _ => bad

mutual
def assignTg : Tg → W → Env → Option Env
  | .nm i, w, ρ => if i < ρ.length then some (ρ.set i (some w)) else none
  | .tp ts, w, ρ => match w with
    | .d (.tuple xs) => assignTgs ts (xs.map .d) ρ
    | .tup ws => assignTgs ts ws ρ
    | _ => none
def assignTgs : List Tg → List W → Env → Option Env
  | [], [], ρ => some ρ
  | t :: ts, w :: ws, ρ => match assignTg t w ρ with
    | some ρ' => assignTgs ts ws ρ'
    | none => none
  | _, _, _ => none
end

def rangeL (lo : Int) (n : Nat) : List W := (List.range n).map fun (i : Nat) => W.d (.int (lo + i))
def inSmall (i : Int) : Bool := decide (-(2 ^ 62) ≤ i) && decide (i < 2 ^ 62)
def zipW : List W → List W → List W
  | x :: xs, y :: ys => mkTup [x, y] :: zipW xs ys
  | _, _ => []
def enumW : Nat → List W → List W
  | _, [] => []
  | i, x :: xs => mkTup [.d (.int (i : Nat)), x] :: enumW (i + 1) xs
/-- what is given, turn by turn -/
def yields : Ik → List W → M (List W)
  | .seq, [w] => stillW w
  | .rng1, [.d (.int j)] => do guard (inSmall j); pure (rangeL 0 j.toNat)
  | .rng2, [.d (.int i), .d (.int j)] => do guard (inSmall i && inSmall j); pure (rangeL i (j - i).toNat)
  | .enum, [w] => do let ws ← stillW w; pure (enumW 0 ws)
  | .zip, [w, u] => do let ws ← stillW w; let us ← stillW u; pure (zipW ws us)
  | _, _ => bad

def wipeR (ρ : Env) : List Nat → Env
  | [] => ρ
  | v :: vs => (wipeR ρ vs).set v none

def compLoop (t : Env → M Bool) (f : Env → M W) (tg : Tg) (ρ : Env) : List W → M (List W)
  | [] => pure []
  | w :: ws => do
    let ρ' ← lift (assignTg tg w ρ)
    let b ← t ρ'
    if b then do
      let y ← f ρ'
      let ys ← compLoop t f tg ρ ws
      pure (y :: ys)
    else compLoop t f tg ρ ws

structure C where
  G : List (Str × PyData)
  Φ : Nat → List W → M W
  Φk : Nat → List W → List Str → List W → M W
  b : Nat
  F : Nat

def optInt : W → Option (Option Int)
  | .d .none => some none
  | .d (.int i) => some (some i)
  | _ => none

def asInt (m : M W) : M W := m >>= fun w => match w with
  | .d (.int i) => pure (.d (.int i))
  | _ => bad
/-- a part of a slice -/
def part : Ex → M W → M W
  | .nop, _ => pure (.d .none)
  | _, m => asInt m
mutual
def ev (c : C) : Ex → Env → M W
  | .var i, ρ => (match ρ[i]? with
    | some (some w) => pure w
    | _ => bad)
  | .con x, _ => pure (.d x)
  | .glo k, _ => (match c.G[k]? with
    | some p => pure (.d p.2)
    | none => bad)
  | .fn _ i, _ => pure (.fn i)
  | .tup es, ρ => do let ws ← evs c es ρ; pure (mkTup ws)
  | .lst own es, ρ => do let ws ← evs c es ρ; mkLst own ws
  | .dic, _ => pure (.d (.dict []))
  | .bin own op a b, ρ => do let x ← ev c a ρ; let y ← ev c b ρ; binop own op x y
  | .neg a, ρ => do let x ← ev c a ρ; let i ← intW x; pure (.d (.int (-i)))
  | .cmp op a b, ρ => do let x ← ev c a ρ; let y ← ev c b ρ; let k ← cmpop op x y; pure (.d (.bool k))
  | .chn op op' a b e, ρ => do
    let x ← ev c a ρ
    let y ← ev c b ρ
    let k ← cmpop op x y
    if k then do let z ← ev c e ρ; let k' ← cmpop op' y z; pure (.d (.bool k')) else pure (.d (.bool false))
  | .and a b, ρ => do let x ← ev c a ρ; let k ← truthW x; if k then ev c b ρ else pure x
  | .or a b, ρ => do let x ← ev c a ρ; let k ← truthW x; if k then pure x else ev c b ρ
  | .not a, ρ => do let x ← ev c a ρ; let k ← truthW x; pure (.d (.bool (!k)))
  | .ite e a b, ρ => do let x ← ev c e ρ; let k ← truthW x; if k then ev c a ρ else ev c b ρ
  | .call i es, ρ => do let ws ← evs c es ρ; c.Φ i ws
  | .callk i es ks kes, ρ => do let ws ← evs c es ρ; let us ← evs c kes ρ; c.Φk i ws ks us
  | .blt own b es, ρ => do let ws ← evs c es ρ; bltin own b ws
  | .met m o es, ρ => do let w ← ev c o ρ; let _ ← recv m w; let ws ← evs c es ρ; method c.b m w ws
  | .sub a i, ρ => do let x ← ev c a ρ; let y ← ev c i ρ; subW x y
  | .slc own a lo hi, ρ => do
    let x ← ev c a ρ
    let l ← part lo (ev c lo ρ)
    let lo' ← lift (optInt l)
    let u ← part hi (ev c hi ρ)
    let hi' ← lift (optInt u)
    sliceW own x lo' hi'
  | .nop, _ => pure (.d .none)
  | .comp own elt tg k its ifs vs, ρ => do
    let ws ← evs c its ρ
    let ys ← yields k ws
    guard (decide (ys.length ≤ sizeLine))
    let zs ← compLoop (fun ρ' => tsts c ifs ρ') (fun ρ' => ev c elt ρ') tg (wipeR ρ vs) ys
    mkLst own zs
def evs (c : C) : List Ex → Env → M (List W)
  | [], _ => pure []
  | e :: es, ρ => do let w ← ev c e ρ; let ws ← evs c es ρ; pure (w :: ws)
/-- all tests of a clause -/
def tsts (c : C) : List Ex → Env → M Bool
  | [], _ => pure true
  | e :: es, ρ => do
    let x ← ev c e ρ
    let k ← truthW x
    if k then tsts c es ρ else pure false
end

inductive St where
  | exp (e : Ex)
  | set (t : Tg) (e : Ex)
  | setS (o i e : Ex)
  | aug (i : Nat) (op : Operator) (e : Ex)
  | ret (e : Ex)
  | retN
  | iff (c : Ex) (a b : List St)
  | forr (tg : Tg) (k : Ik) (its : List Ex) (body : List St)
  | whl (c : Ex) (body : List St)
  | brk
  | cnt
  | pas
  | frz (i : Nat)
inductive Fl where
  | nx | rt (w : W) | bk | ct

def setItem (b : Nat) : W → W → W → M Unit
  | .ref n, .d (.int i), w => do
    let ws ← cellW n
    let j ← lift (L2.ixN ws.length i)
    guard (decide (b ≤ n) || w.old n)
    upd n (ws.set j w)
  | _, _, _ => bad
def freeze : W → M W
  | .ref n => fun S => match S[n]? with
    | some (.lst ws) => (match allData ws with
      | some xs => .ok (.d (.list xs)) (S.set n .gone)
      | none => .bad)
    | _ => .bad
  | w => pure w

def forLoop (f : Env → M (Fl × Env)) (tg : Tg) : List W → Env → M (Fl × Env)
  | [], ρ => pure (.nx, ρ)
  | w :: ws, ρ => do
    let ρ' ← lift (assignTg tg w ρ)
    let r ← f ρ'
    match r with
    | (.nx, ρ2) => forLoop f tg ws ρ2
    | (.ct, ρ2) => forLoop f tg ws ρ2
    | (.bk, ρ2) => pure (.nx, ρ2)
    | (.rt v, ρ2) => pure (.rt v, ρ2)
def whlLoop (t : Env → M Bool) (f : Env → M (Fl × Env)) : Nat → Env → M (Fl × Env)
  | 0, _ => bad
  | n + 1, ρ => do
    let k ← t ρ
    if k then do
      let r ← f ρ
      match r with
      | (.nx, ρ2) => whlLoop t f n ρ2
      | (.ct, ρ2) => whlLoop t f n ρ2
      | (.bk, ρ2) => pure (.nx, ρ2)
      | (.rt v, ρ2) => pure (.rt v, ρ2)
    else pure (.nx, ρ)

mutual
def ex (c : C) : St → Env → M (Fl × Env)
  | .exp e, ρ => do let _ ← ev c e ρ; pure (.nx, ρ)
  | .set t e, ρ => do let w ← ev c e ρ; let ρ' ← lift (assignTg t w ρ); pure (.nx, ρ')
  | .setS o i e, ρ => do let w ← ev c e ρ; let x ← ev c o ρ; let y ← ev c i ρ; setItem c.b x y w; pure (.nx, ρ)
  | .aug i op e, ρ => do
    let x ← lift (ρ[i]?.bind id)
    let p ← intW x
    let y ← ev c e ρ
    let q ← intW y
    let z ← (match op with
      | .Add => pure (p + q)
      | .Sub => pure (p - q)
      | _ => bad)
    let ρ' ← lift (assignTg (.nm i) (.d (.int z)) ρ)
    pure (.nx, ρ')
  | .ret e, ρ => do let w ← ev c e ρ; pure (.rt w, ρ)
  | .retN, ρ => pure (.rt (.d .none), ρ)
  | .iff t a b, ρ => do let x ← ev c t ρ; let k ← truthW x; if k then exs c a ρ else exs c b ρ
  | .forr tg k its body, ρ => do
    let ws ← evs c its ρ
    let ys ← yields k ws
    forLoop (fun ρ' => exs c body ρ') tg ys ρ
  | .whl t body, ρ => whlLoop (fun ρ' => do let x ← ev c t ρ'; truthW x) (fun ρ' => exs c body ρ') c.F ρ
  | .brk, ρ => pure (.bk, ρ)
  | .cnt, ρ => pure (.ct, ρ)
  | .pas, ρ => pure (.nx, ρ)
  | .frz i, ρ => do
    let x ← lift (ρ[i]?.bind id)
    let w ← freeze x
    pure (.nx, ρ.set i (some w))
def exs (c : C) : List St → Env → M (Fl × Env)
  | [], ρ => pure (.nx, ρ)
  | s :: ss, ρ => do
    let r ← ex c s ρ
    match r with
    | (.nx, ρ') => exs c ss ρ'
    | r => pure r
end

/-- a def: its name, its parameters, its slots' names (parameters first), its body -/
structure DefM where
  name : Str
  ps : List Str
  N : List Str
  body : List St
def startE (n : Nat) (ws : List W) : Env := ws.map some ++ List.replicate (n - ws.length) none
def fin (n : Nat) (w : W) (S : Store) : Out W := if w.old n then .ok w (S.take n) else .ok w S
def fin' (n : Nat) : Out (Fl × Env) → Out W
  | .ok (.rt w, _) S' => fin n w S'
  | .ok (.nx, _) S' => fin n (.d .none) S'
  | .ok _ _ => .bad
  | .exc _ _ _ => .bad
  | .bad => .bad
/-- keywords put to their places -/
def kwR {α : Type} (ps : List Str) (np : Nat) (ks : List Str) (ws : List α) : Option (List α) := (ps.drop np).mapM fun p => (ks.zip ws).lookup p
def kwF (T : List DefM) (Φ : Nat → List W → M W) : Nat → List W → List Str → List W → M W := fun i us ks ws => match T[i]? with
  | none => bad
  | some df => (match kwR df.ps us.length ks ws with
    | some r => Φ i (us ++ r)
    | none => bad)
def runDef (G : List (Str × PyData)) (T : List DefM) (F : Nat) (Φ : Nat → List W → M W) (Φk : Nat → List W → List Str → List W → M W) (i : Nat) (ws : List W) : M W := fun S => match T[i]? with
  | none => .bad
  | some df => if ws.length = df.ps.length then fin' S.length (exs ⟨G, Φ, Φk, S.length, F⟩ df.body (startE df.N.length ws) S) else .bad
/-- by levels of calls -/
def lvl (G : List (Str × PyData)) (T : List DefM) (F : Nat) : Nat → Nat → List W → M W
  | 0 => fun _ _ => bad
  | n + 1 => runDef G T F (lvl G T F n) (kwF T (lvl G T F n))
end Ev

-- part EvB
set_option maxHeartbeats 200000
/-! EvB: how data and the store stand in the abstract heap. -/
namespace Ev
open PySem PySem.Spec PyProof.Rows L2

/-- a list that is read: frozen, or one of the text's own -/
def LsR (K : PySem.W.Frag) (h : Hp) (a : Addr) (xs : List V) : Prop :=
  Rd h a (.lst xs) ∨ ∃ (its : List Value) (n : Nat), K.lookup a = some { cls := .type "list", data := .seq its.toArray n } ∧ its.length ≤ sizeLine ∧ Vals xs its
def RepKey : PyData → Key → Prop
  | .int i, k => k = .inl i
  | .str s, k => k = .inr s
  | _, _ => False
mutual
def RepD (K : PySem.W.Frag) (h : Hp) : PyData → V → Prop
  | .none, v => v = .non
  | .bool b, v => v = .bl b
  | .int i, v => v = .int i
  | .str s, v => v = .str s
  | .list ds, v => ds.length ≤ sizeLine ∧ ∃ a xs, v = .ref a ∧ LsR K h a xs ∧ RepDs K h ds xs
  | .tuple ds, v => ds.length ≤ sizeLine ∧ ∃ a xs, v = .ref a ∧ SqT K h a xs ∧ RepDs K h ds xs
  | .dict kvs, v => ∃ a es, v = .ref a ∧ h a = some (.dK es) ∧ RepKs K h kvs es
def RepDs (K : PySem.W.Frag) (h : Hp) : List PyData → List V → Prop
  | [], xs => xs = []
  | d :: ds, xs => ∃ x r, xs = x :: r ∧ RepD K h d x ∧ RepDs K h ds r
def RepKs (K : PySem.W.Frag) (h : Hp) : List (PyData × PyData) → List (Key × V) → Prop
  | [], es => es = []
  | (k, d) :: kvs, es => ∃ q x r, es = (q, x) :: r ∧ RepKey k q ∧ RepD K h d x ∧ RepKs K h kvs r
end

/-- the frozen part of the abstract heap, the addresses of the store's things -/
structure Gh where
  h : Hp
  m : Nat → Option Addr
mutual
def RepW (K : PySem.W.Frag) (g : Gh) : W → V → Prop
  | .d x, v => RepD K g.h x v
  | .ref n, v => ∃ a, g.m n = some a ∧ v = .ref a
  | .tup ws, v => ws.length ≤ sizeLine ∧ ∃ a xs, v = .ref a ∧ SqT K g.h a xs ∧ RepWs K g ws xs
  | .fn _, _ => False
def RepWs (K : PySem.W.Frag) (g : Gh) : List W → List V → Prop
  | [], xs => xs = []
  | w :: ws, xs => ∃ x r, xs = x :: r ∧ RepW K g w x ∧ RepWs K g ws r
end

def HLe (h h' : Hp) : Prop := ∀ a o, h a = some o → h' a = some o
def Gh.le (g g' : Gh) : Prop := HLe g.h g'.h ∧ ∀ n a, g.m n = some a → g'.m n = some a
theorem HLe.refl (h : Hp) : HLe h h := fun _ _ e => e
theorem HLe.trans {a b c : Hp} (x : HLe a b) (y : HLe b c) : HLe a c := fun _ _ e => y _ _ (x _ _ e)
theorem Gh.le.refl (g : Gh) : g.le g := ⟨HLe.refl _, fun _ _ e => e⟩
theorem Gh.le.trans {a b c : Gh} (x : a.le b) (y : b.le c) : a.le c := ⟨x.1.trans y.1, fun _ _ e => y.2 _ _ (x.2 _ _ e)⟩
section
variable {K : PySem.W.Frag} {h h' : Hp} {g g' : Gh}
theorem Rd.le {a : Addr} {u : HO} (l : HLe h h') (r : Rd h a u) : Rd h' a u := by
  rcases r with r | ⟨o, r⟩
  · exact .inl (l _ _ r)
  · exact .inr ⟨o, l _ _ r⟩
theorem LsR.le {a : Addr} {xs : List V} (l : HLe h h') (r : LsR K h a xs) : LsR K h' a xs := by
  rcases r with r | r
  · exact .inl (Rd.le l r)
  · exact .inr r
theorem LsR.sq {a : Addr} {xs : List V} (r : LsR K h a xs) : SqL K h a xs := by
  rcases r with r | ⟨its, n, e, z, q⟩
  · exact .inl r
  · exact .inr ⟨_, its.toArray, n, e, rfl, rfl, rfl, by simpa using z, by simpa using q⟩
theorem SqL.le {a : Addr} {xs : List V} (l : HLe h h') (r : SqL K h a xs) : SqL K h' a xs := by
  rcases r with r | r
  · exact .inl (Rd.le l r)
  · exact .inr r
theorem SqT.le {a : Addr} {xs : List V} (l : HLe h h') (r : SqT K h a xs) : SqT K h' a xs := by
  rcases r with r | r
  · exact .inl (Rd.le l r)
  · exact .inr r
mutual
theorem RepD.le (l : HLe h h') : ∀ (d : PyData) {v : V}, RepD K h d v → RepD K h' d v
  | .none, _, r => r
  | .bool _, _, r => r
  | .int _, _, r => r
  | .str _, _, r => r
  | .list ds, _, r => by
    obtain ⟨z, a, xs, e, s, q⟩ := r
    exact ⟨z, a, xs, e, LsR.le l s, RepDs.le l ds q⟩
  | .tuple ds, _, r => by
    obtain ⟨z, a, xs, e, s, q⟩ := r
    exact ⟨z, a, xs, e, SqT.le l s, RepDs.le l ds q⟩
  | .dict kvs, _, r => by
    obtain ⟨a, es, e, s, q⟩ := r
    exact ⟨a, es, e, l _ _ s, RepKs.le l kvs q⟩
theorem RepDs.le (l : HLe h h') : ∀ (ds : List PyData) {xs : List V}, RepDs K h ds xs → RepDs K h' ds xs
  | [], _, r => r
  | d :: ds, _, r => by
    obtain ⟨x, t, e, p, q⟩ := r
    exact ⟨x, t, e, RepD.le l d p, RepDs.le l ds q⟩
theorem RepKs.le (l : HLe h h') : ∀ (ds : List (PyData × PyData)) {xs : List (Key × V)}, RepKs K h ds xs → RepKs K h' ds xs
  | [], _, r => r
  | (k, d) :: ds, _, r => by
    obtain ⟨q, x, t, e, p0, p, z⟩ := r
    exact ⟨q, x, t, e, p0, RepD.le l d p, RepKs.le l ds z⟩
end
mutual
theorem RepW.le (l : g.le g') : ∀ (w : W) {v : V}, RepW K g w v → RepW K g' w v
  | .d x, _, r => RepD.le l.1 x r
  | .ref n, _, ⟨a, e, q⟩ => ⟨a, l.2 _ _ e, q⟩
  | .tup ws, _, r => by
    obtain ⟨z, a, xs, e, s, q⟩ := r
    exact ⟨z, a, xs, e, SqT.le l.1 s, RepWs.le l ws q⟩
  | .fn _, _, r => r.elim
theorem RepWs.le (l : g.le g') : ∀ (ws : List W) {xs : List V}, RepWs K g ws xs → RepWs K g' ws xs
  | [], _, r => r
  | w :: ws, _, r => by
    obtain ⟨x, t, e, p, q⟩ := r
    exact ⟨x, t, e, RepW.le l w p, RepWs.le l ws q⟩
end
theorem RepDs.length : ∀ {ds : List PyData} {xs : List V}, RepDs K h ds xs → xs.length = ds.length
  | [], _, r => by cases (show _ = [] from r); rfl
  | _ :: ds, _, r => by
    obtain ⟨x, t, e, _, q⟩ := r
    subst e
    rw [List.length_cons, List.length_cons, RepDs.length q]
theorem RepWs.length : ∀ {ds : List W} {xs : List V}, RepWs K g ds xs → xs.length = ds.length
  | [], _, r => by cases (show _ = [] from r); rfl
  | _ :: ds, _, r => by
    obtain ⟨x, t, e, _, q⟩ := r
    subst e
    rw [List.length_cons, List.length_cons, RepWs.length q]
theorem RepDs.get : ∀ {ds : List PyData} {xs : List V} {i : Nat} {d : PyData}, RepDs K h ds xs → ds[i]? = some d → ∃ x, xs[i]? = some x ∧ RepD K h d x
  | [], _, _, _, _, e => by simp at e
  | _ :: ds, _, 0, d, r, e => by
    obtain ⟨x, t, q, p, _⟩ := r
    subst q
    simp at e; subst e
    exact ⟨x, rfl, p⟩
  | _ :: ds, _, i + 1, d, r, e => by
    obtain ⟨x, t, q, _, p⟩ := r
    subst q
    obtain ⟨y, h1, h2⟩ := RepDs.get (i := i) (d := d) p (by simpa using e)
    exact ⟨y, by simpa using h1, h2⟩
theorem RepWs.get : ∀ {ds : List W} {xs : List V} {i : Nat} {d : W}, RepWs K g ds xs → ds[i]? = some d → ∃ x, xs[i]? = some x ∧ RepW K g d x
  | [], _, _, _, _, e => by simp at e
  | _ :: ds, _, 0, d, r, e => by
    obtain ⟨x, t, q, p, _⟩ := r
    subst q
    simp at e; subst e
    exact ⟨x, rfl, p⟩
  | _ :: ds, _, i + 1, d, r, e => by
    obtain ⟨x, t, q, _, p⟩ := r
    subst q
    obtain ⟨y, h1, h2⟩ := RepWs.get (i := i) (d := d) p (by simpa using e)
    exact ⟨y, by simpa using h1, h2⟩
theorem RepWs.append : ∀ {as bs : List W} {xs ys : List V}, RepWs K g as xs → RepWs K g bs ys → RepWs K g (as ++ bs) (xs ++ ys)
  | [], _, _, _, r, q => by cases (show _ = [] from r); exact q
  | _ :: as, _, _, _, r, q => by
    obtain ⟨x, t, e, p, r⟩ := r
    subst e
    exact ⟨x, t ++ _, rfl, p, RepWs.append r q⟩
theorem RepDs.append : ∀ {as bs : List PyData} {xs ys : List V}, RepDs K h as xs → RepDs K h bs ys → RepDs K h (as ++ bs) (xs ++ ys)
  | [], _, _, _, r, q => by cases (show _ = [] from r); exact q
  | _ :: as, _, _, _, r, q => by
    obtain ⟨x, t, e, p, r⟩ := r
    subst e
    exact ⟨x, t ++ _, rfl, p, RepDs.append r q⟩
theorem RepWs.map : ∀ {ds : List PyData} {xs : List V}, RepDs K g.h ds xs → RepWs K g (ds.map .d) xs
  | [], _, r => r
  | _ :: ds, _, r => by
    obtain ⟨x, t, e, p, r⟩ := r
    exact ⟨x, t, e, p, RepWs.map r⟩
theorem RepWs.unmap : ∀ {ds : List PyData} {xs : List V}, RepWs K g (ds.map .d) xs → RepDs K g.h ds xs
  | [], _, r => r
  | _ :: ds, _, r => by
    obtain ⟨x, t, e, p, r⟩ := r
    exact ⟨x, t, e, p, RepWs.unmap r⟩
theorem allData_some : ∀ {ws : List W} {ds : List PyData}, allData ws = some ds → ws = ds.map .d
  | [], _, e => by cases e; rfl
  | w :: ws, ds, e => by
    unfold allData at e
    cases w with
    | d x =>
      cases q : allData ws with
      | none => rw [q] at e; simp [W.data?] at e
      | some xs =>
        rw [q] at e
        simp [W.data?] at e
        subst e
        rw [List.map_cons, allData_some q]
    | _ => simp [W.data?] at e
theorem allData_map : ∀ ds : List PyData, allData (ds.map .d) = some ds
  | [] => rfl
  | d :: ds => by simp [allData, W.data?, allData_map ds]
theorem RepWs.take : ∀ {ds : List W} {xs : List V} (n : Nat), RepWs K g ds xs → RepWs K g (ds.take n) (xs.take n)
  | _, _, 0, _ => rfl
  | [], _, n + 1, r => by cases (show _ = [] from r); rfl
  | _ :: ds, _, n + 1, r => by
    obtain ⟨x, t, e, p, r⟩ := r
    subst e
    exact ⟨x, _, rfl, p, RepWs.take n r⟩
theorem RepWs.drop : ∀ {ds : List W} {xs : List V} (n : Nat), RepWs K g ds xs → RepWs K g (ds.drop n) (xs.drop n)
  | _, _, 0, r => r
  | [], _, n + 1, r => by cases (show _ = [] from r); rfl
  | _ :: ds, _, n + 1, r => by
    obtain ⟨x, t, e, p, r⟩ := r
    subst e
    exact RepWs.drop n r
theorem RepWs.dropLast {ds : List W} {xs : List V} (r : RepWs K g ds xs) : RepWs K g ds.dropLast xs.dropLast := by
  rw [List.dropLast_eq_take, List.dropLast_eq_take, r.length]
  exact r.take _
theorem RepWs.set {w : W} {v : V} (p : RepW K g w v) : ∀ {ds : List W} {xs : List V} (n : Nat), RepWs K g ds xs → RepWs K g (ds.set n w) (xs.set n v)
  | [], _, _, r => by cases (show _ = [] from r); rfl
  | _ :: ds, _, 0, r => by
    obtain ⟨x, t, e, _, r⟩ := r
    subst e
    exact ⟨v, t, rfl, p, r⟩
  | _ :: ds, _, n + 1, r => by
    obtain ⟨x, t, e, q, r⟩ := r
    subst e
    exact ⟨x, t.set n v, rfl, q, RepWs.set p n r⟩
theorem RepWs.eraseIdx : ∀ {ds : List W} {xs : List V} (n : Nat), RepWs K g ds xs → RepWs K g (ds.eraseIdx n) (xs.eraseIdx n)
  | [], _, _, r => by cases (show _ = [] from r); rfl
  | _ :: ds, _, 0, r => by
    obtain ⟨x, t, e, _, r⟩ := r
    subst e
    exact r
  | _ :: ds, _, n + 1, r => by
    obtain ⟨x, t, e, q, r⟩ := r
    subst e
    exact ⟨x, t.eraseIdx n, rfl, q, RepWs.eraseIdx n r⟩
theorem RepWs.rep {ds : List W} {xs : List V} (r : RepWs K g ds xs) : ∀ k, RepWs K g (rep k ds) (rep k xs)
  | 0 => rfl
  | k + 1 => by
    show RepWs K g (List.replicate (k + 1) ds).flatten (List.replicate (k + 1) xs).flatten
    rw [List.replicate_succ, List.replicate_succ, List.flatten_cons, List.flatten_cons]
    exact r.append (RepWs.rep r k)
theorem RepWs.cut {ds : List W} {xs : List V} (lo hi : Option Int) (r : RepWs K g ds xs) : RepWs K g (cut ds lo hi) (cut xs lo hi) := by
  unfold Ev.cut
  rw [r.length]
  exact (r.drop _).take _
theorem cut_length {α : Type} (xs : List α) (lo hi : Option Int) : (cut xs lo hi).length ≤ xs.length := by
  unfold cut
  rw [List.length_take, List.length_drop]
  omega
theorem map_cut {α β : Type} (f : α → β) (xs : List α) (lo hi : Option Int) : (cut xs lo hi).map f = cut (xs.map f) lo hi := by
  unfold cut
  rw [List.map_take, List.map_drop, List.length_map]
theorem map_rep {α β : Type} (f : α → β) (xs : List α) : ∀ k, (rep k xs).map f = rep k (xs.map f)
  | 0 => rfl
  | k + 1 => by
    have ih := map_rep f xs k
    unfold rep at ih ⊢
    rw [List.replicate_succ, List.replicate_succ, List.flatten_cons, List.flatten_cons, List.map_append, ih]
theorem rep_length {α : Type} (xs : List α) : ∀ k, (rep k xs).length = k * xs.length
  | 0 => by simp [rep]
  | k + 1 => by
    have ih := rep_length xs k
    unfold rep at ih ⊢
    rw [List.replicate_succ, List.flatten_cons, List.length_append, ih, Nat.succ_mul]
    omega
end

/-- the store stands in the abstract heap; B: the bases of the frames that run -/
structure Sim (K : PySem.W.Frag) (B : List Nat) (g : Gh) (S : Store) (H : Hp) : Prop where
  sub : HLe g.h H
  dom : ∀ n, n < S.length → ∃ a, g.m n = some a ∧ H a ≠ none
  top : ∀ n, S.length ≤ n → g.m n = none
  inj : ∀ i j a, g.m i = some a → g.m j = some a → i = j
  cell : ∀ n ws, S[n]? = some (.lst ws) → ∃ a xs, g.m n = some a ∧ g.h a = none ∧ ws.length ≤ sizeLine ∧ H a = some (.lst xs) ∧ RepWs K g ws xs
  base : ∀ b ∈ B, b ≤ S.length
  old : ∀ b ∈ B, ∀ n ws, n < b → S[n]? = some (.lst ws) → W.oldAll b ws = true
/-- from (g, H) to (g', H'): nothing is lost, what is neither frozen nor of the store is left alone -/
def Step (g : Gh) (H : Hp) (g' : Gh) (H' : Hp) : Prop :=
  g.le g' ∧ ∀ a o, H a = some o → g.h a = none → (∀ n, g.m n ≠ some a) → H' a = some o ∧ g'.h a = none ∧ ∀ n, g'.m n ≠ some a
theorem Step.refl (g : Gh) (H : Hp) : Step g H g H := ⟨.refl _, fun _ _ e n k => ⟨e, n, k⟩⟩
theorem Step.trans {g g1 g2 : Gh} {H H1 H2 : Hp} (x : Step g H g1 H1) (y : Step g1 H1 g2 H2) : Step g H g2 H2 :=
  ⟨x.1.trans y.1, fun a o e n k => let ⟨e1, n1, k1⟩ := x.2 a o e n k; y.2 a o e1 n1 k1⟩
section
variable {K : PySem.W.Frag} {B : List Nat} {g g' : Gh} {S : Store} {H : Hp} {p : Addr} {o : HO}
theorem Sim.fresh (x : Sim K B g S H) (hp : H p = none) : g.h p = none ∧ ∀ n, g.m n ≠ some p := by
  constructor
  · cases e : g.h p with
    | none => rfl
    | some u => rw [x.sub _ _ e] at hp; cases hp
  · intro n e
    by_cases hn : n < S.length
    · obtain ⟨a, e1, e2⟩ := x.dom n hn
      rw [e] at e1; cases e1
      exact e2 hp
    · rw [x.top n (by omega)] at e; cases e
/-- a new frozen object -/
theorem Sim.froze (x : Sim K B g S H) (hp : H p = none) : Sim K B ⟨L2.upd g.h p o, g.m⟩ S (L2.upd H p o) ∧ Step g H ⟨L2.upd g.h p o, g.m⟩ (L2.upd H p o) := by
  obtain ⟨f1, f2⟩ := x.fresh hp
  have hle : HLe g.h (L2.upd g.h p o) := fun a u e => by rw [upd_ne (ne_of_none e f1)]; exact e
  have gle : g.le ⟨L2.upd g.h p o, g.m⟩ := ⟨hle, fun _ _ e => e⟩
  have nem : ∀ n a, g.m n = some a → a ≠ p := fun n a e z => f2 n (z ▸ e)
  refine ⟨⟨fun a u e => ?_, fun n hn => ?_, x.top, x.inj, fun n ws e => ?_, x.base, x.old⟩, gle, fun a u e n k => ?_⟩
  · have e : L2.upd g.h p o a = some u := e
    by_cases z : a = p
    · subst z; rw [upd_same] at e ⊢; exact e
    · rw [upd_ne z] at e ⊢; exact x.sub _ _ e
  · obtain ⟨a, e1, e3⟩ := x.dom n hn
    exact ⟨a, e1, by rw [upd_ne (nem n a e1)]; exact e3⟩
  · obtain ⟨a, xs, e1, e2, z, e3, r⟩ := x.cell n ws e
    exact ⟨a, xs, e1, by show L2.upd g.h p o a = none; rw [upd_ne (nem n a e1)]; exact e2, z, by rw [upd_ne (nem n a e1)]; exact e3, RepWs.le gle ws r⟩
  · have z : a ≠ p := ne_of_none e hp
    exact ⟨by rw [upd_ne z]; exact e, by show L2.upd g.h p o a = none; rw [upd_ne z]; exact n, k⟩
/-- an object laid that is neither frozen nor of the store -/
theorem Sim.beside (x : Sim K B g S H) (hp : g.h p = none) (hm : ∀ n, g.m n ≠ some p) : Sim K B g S (L2.upd H p o) := by
  have nem : ∀ n a, g.m n = some a → a ≠ p := fun n a e z => hm n (z ▸ e)
  refine ⟨fun a u e => ?_, fun n hn => ?_, x.top, x.inj, fun n ws e => ?_, x.base, x.old⟩
  · rw [upd_ne (ne_of_none e hp)]; exact x.sub _ _ e
  · obtain ⟨a, e1, e3⟩ := x.dom n hn
    exact ⟨a, e1, by rw [upd_ne (nem n a e1)]; exact e3⟩
  · obtain ⟨a, xs, e1, e2, z, e3, r⟩ := x.cell n ws e
    exact ⟨a, xs, e1, e2, z, by rw [upd_ne (nem n a e1)]; exact e3, r⟩
mutual
theorem W.old_of (x : Sim K B g S H) : ∀ (w : W) {v : V}, RepW K g w v → w.old S.length = true
  | .d _, _, _ => rfl
  | .ref n, _, ⟨a, e, _⟩ => by
    show decide (n < S.length) = true
    refine decide_eq_true (Nat.lt_of_not_le fun h => ?_)
    rw [x.top n h] at e; cases e
  | .tup ws, _, r => by
    obtain ⟨_, a, xs, _, _, q⟩ := r
    exact W.oldAll_of x ws q
  | .fn _, _, r => r.elim
theorem W.oldAll_of (x : Sim K B g S H) : ∀ (ws : List W) {xs : List V}, RepWs K g ws xs → W.oldAll S.length ws = true
  | [], _, _ => rfl
  | w :: ws, _, r => by
    obtain ⟨y, t, _, p, q⟩ := r
    show (w.old S.length && W.oldAll S.length ws) = true
    rw [W.old_of x w p, W.oldAll_of x ws q]; rfl
end
/-- a new thing of the store -/
theorem Sim.alloc {ws : List W} {xs : List V} (x : Sim K B g S H) (hp : H p = none) (hz : ws.length ≤ sizeLine) (r : RepWs K g ws xs) :
    ∃ g', Sim K B g' (S ++ [.lst ws]) (L2.upd H p (.lst xs)) ∧ Step g H g' (L2.upd H p (.lst xs)) ∧ g'.m S.length = some p := by
  obtain ⟨f1, f2⟩ := x.fresh hp
  let g' : Gh := ⟨g.h, fun n => if n = S.length then some p else g.m n⟩
  have m1 : g'.m S.length = some p := if_pos rfl
  have m2 : ∀ n, n ≠ S.length → g'.m n = g.m n := fun n h => if_neg h
  have mlt : ∀ n a, g.m n = some a → n < S.length := fun n a e => Nat.lt_of_not_le fun h => by rw [x.top n h] at e; cases e
  have gle : g.le g' := ⟨HLe.refl _, fun n a e => by rw [m2 n (Nat.ne_of_lt (mlt n a e))]; exact e⟩
  have nem : ∀ n a, g.m n = some a → a ≠ p := fun n a e z => f2 n (z ▸ e)
  refine ⟨g', ⟨fun a u e => ?_, fun n hn => ?_, fun n hn => ?_, fun i j a ei ej => ?_, fun n us e => ?_, fun b hb => ?_, fun b hb n us hn e => ?_⟩, ⟨gle, fun a u e n k => ?_⟩, m1⟩
  · have : a ≠ p := ne_of_none (show g.h a = some u from e) f1
    rw [upd_ne this]; exact x.sub _ _ e
  · rw [List.length_append, List.length_singleton] at hn
    by_cases z : n = S.length
    · subst z
      exact ⟨p, m1, by rw [upd_same]; exact fun q => nomatch q⟩
    · obtain ⟨a, e1, e3⟩ := x.dom n (by omega)
      exact ⟨a, by rw [m2 n z]; exact e1, by rw [upd_ne (nem n a e1)]; exact e3⟩
  · rw [List.length_append, List.length_singleton] at hn
    rw [m2 n (by omega)]
    exact x.top n (by omega)
  · by_cases zi : i = S.length
    · by_cases zj : j = S.length
      · rw [zi, zj]
      · rw [zi, m1] at ei
        rw [m2 j zj] at ej
        exact absurd (Option.some.inj ei).symm (nem j a ej)
    · rw [m2 i zi] at ei
      by_cases zj : j = S.length
      · rw [zj, m1] at ej
        exact absurd (Option.some.inj ej).symm (nem i a ei)
      · rw [m2 j zj] at ej
        exact x.inj i j a ei ej
  · by_cases z : n < S.length
    · rw [List.getElem?_append_left z] at e
      obtain ⟨a, ys, e1, e2, z1, e3, q⟩ := x.cell n us e
      exact ⟨a, ys, by rw [m2 n (Nat.ne_of_lt z)]; exact e1, e2, z1, by rw [upd_ne (nem n a e1)]; exact e3, RepWs.le gle us q⟩
    · by_cases z2 : n = S.length
      · subst z2
        rw [List.getElem?_append_right (Nat.le_refl _), Nat.sub_self] at e
        have e' : Cell.lst ws = Cell.lst us := Option.some.inj e
        cases e'
        exact ⟨p, xs, m1, f1, hz, upd_same, RepWs.le gle ws r⟩
      · rw [List.getElem?_eq_none (by simp; omega)] at e; cases e
  · have := x.base b hb
    rw [List.length_append]; omega
  · have := x.base b hb
    rw [List.getElem?_append_left (by omega)] at e
    exact x.old b hb n us hn e
  · have z : a ≠ p := ne_of_none e hp
    refine ⟨by rw [upd_ne z]; exact e, n, fun i q => ?_⟩
    by_cases zi : i = S.length
    · rw [zi, m1] at q; exact z (Option.some.inj q).symm
    · rw [m2 i zi] at q; exact k i q
mutual
theorem W.old_le {b c : Nat} (h : b ≤ c) : ∀ w : W, w.old b = true → w.old c = true
  | .d _, _ => rfl
  | .ref n, e => by
    have : n < b := of_decide_eq_true e
    exact decide_eq_true (by omega)
  | .tup ws, e => W.oldAll_le h ws e
  | .fn _, _ => rfl
theorem W.oldAll_le {b c : Nat} (h : b ≤ c) : ∀ ws : List W, W.oldAll b ws = true → W.oldAll c ws = true
  | [], _ => rfl
  | w :: ws, e => by
    have e' : (w.old b && W.oldAll b ws) = true := e
    rw [Bool.and_eq_true] at e'
    show (w.old c && W.oldAll c ws) = true
    rw [W.old_le h w e'.1, W.oldAll_le h ws e'.2]; rfl
end
theorem oldAll_append {b : Nat} : ∀ {as bs : List W}, W.oldAll b as = true → W.oldAll b bs = true → W.oldAll b (as ++ bs) = true
  | [], _, _, q => q
  | w :: as, bs, r, q => by
    have e' : (w.old b && W.oldAll b as) = true := r
    rw [Bool.and_eq_true] at e'
    show (w.old b && W.oldAll b (as ++ bs)) = true
    rw [e'.1, oldAll_append e'.2 q]; rfl
theorem oldAll_mem {b : Nat} : ∀ {as : List W}, W.oldAll b as = true → ∀ w ∈ as, w.old b = true
  | [], _, _, h => nomatch h
  | w :: as, r, u, h => by
    have e' : (w.old b && W.oldAll b as) = true := r
    rw [Bool.and_eq_true] at e'
    rcases List.mem_cons.mp h with z | z
    · rw [z]; exact e'.1
    · exact oldAll_mem e'.2 u z
theorem oldAll_of_mem {b : Nat} : ∀ {as : List W}, (∀ w ∈ as, w.old b = true) → W.oldAll b as = true
  | [], _ => rfl
  | w :: as, r => by
    show (w.old b && W.oldAll b as) = true
    rw [r w List.mem_cons_self, oldAll_of_mem fun u h => r u (List.mem_cons_of_mem _ h)]; rfl
theorem oldAll_map {b : Nat} (xs : List PyData) : W.oldAll b (xs.map .d) = true := oldAll_of_mem fun w h => by
  obtain ⟨x, _, rfl⟩ := List.mem_map.mp h
  rfl
/-- a thing of the store is written -/
theorem Sim.write {n : Nat} {a : Addr} {ws us : List W} {xs ys : List V} (x : Sim K B g S H) (hc : S[n]? = some (.lst ws)) (hm : g.m n = some a) (hH : H a = some (.lst xs)) (hz : us.length ≤ sizeLine) (r : RepWs K g us ys)
    (ho : ∀ b ∈ B, n < b → W.oldAll b us = true) : Sim K B g (S.set n (.lst us)) (L2.upd H a (.lst ys)) ∧ Step g H g (L2.upd H a (.lst ys)) := by
  have hn : n < S.length := (List.getElem?_eq_some_iff.mp hc).1
  obtain ⟨a', _, e1, ha, _⟩ := x.cell n _ hc
  rw [hm] at e1; cases e1
  have nea : ∀ i c, i ≠ n → g.m i = some c → c ≠ a := fun i c hi e z => hi (x.inj i n a (z ▸ e) hm)
  refine ⟨⟨fun c u e => ?_, fun i hi => ?_, fun i hi => x.top i (by simpa using hi), x.inj, fun i vs e => ?_, fun b hb => by simpa using x.base b hb, fun b hb i vs hi e => ?_⟩, .refl _, fun c u e k1 k2 => ?_⟩
  · rw [upd_ne (ne_of_none e ha)]; exact x.sub _ _ e
  · obtain ⟨c, e1, e3⟩ := x.dom i (by simpa using hi)
    refine ⟨c, e1, ?_⟩
    by_cases z : c = a
    · subst z; rw [upd_same]; exact fun q => nomatch q
    · rw [upd_ne z]; exact e3
  · by_cases z : i = n
    · subst z
      rw [List.getElem?_set_self hn] at e
      have e' : Cell.lst us = Cell.lst vs := Option.some.inj e
      cases e'
      exact ⟨a, ys, hm, ha, hz, upd_same, r⟩
    · rw [List.getElem?_set_ne (Ne.symm z)] at e
      obtain ⟨c, zs, e1, e2, z1, e3, q⟩ := x.cell i vs e
      exact ⟨c, zs, e1, e2, z1, by rw [upd_ne (nea i c z e1)]; exact e3, q⟩
  · by_cases z : i = n
    · subst z
      rw [List.getElem?_set_self hn] at e
      have e' : Cell.lst us = Cell.lst vs := Option.some.inj e
      cases e'
      exact ho b hb hi
    · rw [List.getElem?_set_ne (Ne.symm z)] at e
      exact x.old b hb i vs hi e
  · have z : c ≠ a := fun z => k2 n (z ▸ hm)
    exact ⟨by rw [upd_ne z]; exact e, k1, k2⟩
/-- a thing of the store is frozen -/
theorem Sim.freeze {n : Nat} {ds : List PyData} (x : Sim K B g S H) (hc : S[n]? = some (.lst (ds.map .d))) : ∃ g' v, Sim K B g' (S.set n .gone) H ∧ Step g H g' H ∧ g.m n = some v ∧ RepW K g' (.d (.list ds)) (.ref v) := by
  have hn : n < S.length := (List.getElem?_eq_some_iff.mp hc).1
  obtain ⟨a, xs, hm, ha, hz, hH, r⟩ := x.cell n _ hc
  have nea : ∀ i c, i ≠ n → g.m i = some c → c ≠ a := fun i c hi e z => hi (x.inj i n a (z ▸ e) hm)
  let g' : Gh := ⟨L2.upd g.h a (.lst xs), g.m⟩
  have gle : g.le g' := ⟨fun c u e => by show L2.upd g.h a (.lst xs) c = some u; rw [upd_ne (ne_of_none e ha)]; exact e, fun _ _ e => e⟩
  have hzd : ds.length ≤ sizeLine := by rw [List.length_map] at hz; exact hz
  refine ⟨g', a, ⟨fun c u e => ?_, fun i hi => ?_, fun i hi => x.top i (by simpa using hi), x.inj, fun i vs e => ?_, fun b hb => by simpa using x.base b hb, fun b hb i vs hi e => ?_⟩, ⟨gle, fun c u e k1 k2 => ?_⟩, hm,
    ⟨hzd, a, xs, rfl, .inl (.inl upd_same), RepDs.le gle.1 ds r.unmap⟩⟩
  · have e : L2.upd g.h a (.lst xs) c = some u := e
    by_cases z : c = a
    · subst z; rw [upd_same] at e; cases e; exact hH
    · rw [upd_ne z] at e; exact x.sub _ _ e
  · exact x.dom i (by simpa using hi)
  · by_cases z : i = n
    · subst z
      rw [List.getElem?_set_self hn] at e
      cases e
    · rw [List.getElem?_set_ne (Ne.symm z)] at e
      obtain ⟨c, zs, e1, e2, z1, e3, q⟩ := x.cell i vs e
      exact ⟨c, zs, e1, by show L2.upd g.h a (.lst xs) c = none; rw [upd_ne (nea i c z e1)]; exact e2, z1, e3, RepWs.le gle vs q⟩
  · by_cases z : i = n
    · subst z
      rw [List.getElem?_set_self hn] at e
      cases e
    · rw [List.getElem?_set_ne (Ne.symm z)] at e
      exact x.old b hb i vs hi e
  · have z : c ≠ a := fun z => k2 n (z ▸ hm)
    exact ⟨e, by show L2.upd g.h a (.lst xs) c = none; rw [upd_ne z]; exact k1, k2⟩
end
end Ev

-- part EvC
set_option maxHeartbeats 200000
/-! EvC: calls of defs, where it is known that no repr runs around. -/
namespace Ev
open PySem PySem.Spec PyProof.Rows L2

/-- room for k calls, and no guard is up -/
structure Roomy (k : Nat) (A : Around) : Prop where
  room : Room k A
  clear : A.guards = some []
theorem Roomy.down {k : Nat} {A : Around} (r : Roomy (k + 1) A) (env : PySem.Env) : Roomy k (A.deeper env) := ⟨r.room.deeper env, r.clear⟩
theorem Roomy.mono {j k : Nat} {A : Around} (r : Roomy k A) (h : j ≤ k) : Roomy j A := ⟨r.room.mono h, r.clear⟩
/-- a def's promise under these -/
structure FnG (P : Program) (w : World) (K : PySem.W.Frag) (mg : Str → Option Value) (base : Heap) (CX : CXT) (k : Nat) (f : Addr) (fd : FuncData) (ps : List Str) (sp : Sp) : Prop where
  len : ∀ {vs H Q E}, sp vs H Q E → vs.length = ps.length
  go : ∀ {A : Around} {outer : List PySem.Env} {s : Shared} {H : Hp} {args : Args} {us : List Value} {vs : List V} {Q : VK} {E : XK}, Roomy k A → Env0 P w K mg base A outer s H →
    BindsTo s fd args (ps.zip us) → Vals vs us → sp vs H Q E → codeAny (model P w) A (.call (.ref f) args) (CR CX outer P w H s Q E) s

section
variable {X : Cx} {CX : CXT} {k : Nat} {f : Addr} {fd : FuncData} {ps : List Str} {sp : Sp} {E : XK}
theorem FnG.runs {pins : List (Addr × Obj)} {σ : L2.St} {H : Hp} {s : Shared} {Q : VK} {args : Args} {us : List Value} {vs : List V} (F : FnG X.prog X.w X.K X.mg X.base CX k f fd ps sp) (hr : Roomy k X.A) (hx : Passes CX X E)
    (I : Inv X pins σ H s) (hb : BindsTo s fd args (ps.zip us)) (r : Vals vs us) (h : sp vs H Q E) : wpAny (model X.prog X.w) X.A (call (.ref f) args.pos args.kw) (EP X pins σ Q) X.xe s := by
  have key := F.go hr I.env0 hb r h
  refine wpAny_call (codeAny_mono key fun res s' hq => ?_)
  match res, hq with
  | .error e, hq => exact hx pins σ H s e s' I hq
  | .ok (.ret u), hq => exact I.after hq
  | .ok .next, hq => exact hq.elim
  | .ok .brk, hq => exact hq.elim
  | .ok .cont, hq => exact hq.elim
end

theorem noArgs {M : Model} {A : Around} {E : Value → Shared → Prop} {s : Shared} {f : Value} {Q : Args → Shared → Prop} (h : wpAny M A (spliced ([] : List (Bool × Sem Value))) (fun us s' => Q ⟨us, []⟩ s') E s) :
    wpAny M A (evalArgs f true [] []) Q E s := by
  unfold evalArgs
  show wpAny M A (spliced [] >>= _) Q E s
  refine wpAny_bind (wpAny_mono h (fun us s' h' => wpAny_holding ?_) fun _ _ z => z)
  exact wpAny_bind (wpAny_pure (wpAny_bind (wpAny_pure (wpAny_pure h'))))
/-- no starred item -/
def plainE : Expr → Bool
  | .Starred .. => false
  | _ => true
theorem star_cons {e : Expr} {es : List Expr} {env : PySem.Env} (h : plainE e = true) : starEach (e :: es) env = (false, eval e env) :: starEach es env := by
  cases e <;> first
    | rfl
    | cases h
theorem star_all {env : PySem.Env} {pos : Pos} : ∀ {es : List Expr}, es.all plainE = true → (backTo pos (starEach es env)).any (fun q => q.1) = false
  | [], _ => rfl
  | e :: es, h => by
    rw [List.all_cons, Bool.and_eq_true] at h
    have ih := star_all (env := env) (pos := pos) h.2
    rw [star_cons h.1]
    show (false || (backTo pos (starEach es env)).any fun q => q.1) = false
    rw [ih]; rfl

section
variable {X : Cx} {CX : CXT} {k : Nat} {f : Addr} {fd : FuncData} {ps : List Str} {sp : Sp} {E : XK} {x : Str} {p pos : Pos} {es : List Expr} {t : TA}
/-- f(e, ..), any number of them -/
theorem pe_callG (F : FnG X.prog X.w X.K X.mg X.base CX k f fd ps sp) (hr : Roomy k X.A) (hg : Gl X x) (hm : X.mg x = some (.ref f)) (hk : PySem.W.keepIn X.K (.ref f) = true) (hb : Binds X.K fd ps []) (hx : Passes CX X E)
    (ha : PA X es t) (hpl : es.all plainE = true) (hdb : (x == ("__debug__" : Str)) = false) : PE X (.Call (.Name x p) es [] pos) (fun σ H Q => t σ H fun vs H1 => sp vs H1 Q E) := by
  have tail : ∀ {pins : List (Addr × Obj)} {σ : L2.St} {H1 : Hp} {s1 : Shared} {us : List Value} {vs : List V} {Q : VK}, Inv X pins σ H1 s1 → Vals vs us → sp vs H1 Q E → wpAny (model X.prog X.w) X.A (call (.ref f) us []) (EP X pins σ Q) X.xe s1 := by
    intro pins σ H1 s1 us vs Q I1 r q
    have hl : (us ++ []).length = ps.length := by
      rw [List.append_nil, ← r.length]
      exact F.len q
    have hb1 := hb s1 us I1.kIn hl
    rw [List.append_nil] at hb1
    exact F.runs (args := ⟨us, []⟩) hr hx I1 hb1 r q
  refine ⟨fun pins s σ H Q I h => wpAny_Call_Name_kw (ld_glob I hg hm ?_ hdb)⟩
  cases es with
  | nil =>
    have h2 := ha.run pos pins s σ H _ I h
    refine PySem.W.callWith_of rfl (PySem.W.keeps_K hk) ?_
    have h3 : wpAny (model X.prog X.w) X.A (spliced ([] : List (Bool × Sem Value))) (fun us s1 => PySem.W.Frag.In X.K s1.heap ∧ wpAny (model X.prog X.w) X.A (call (.ref f) us []) (EP X pins σ Q) X.xe s1) X.xe s :=
      thn h2 fun us s1 ⟨vs, H1, I1, r, q⟩ => ⟨I1.kIn, tail I1 r q⟩
    exact noArgs h3
  | cons e r =>
    rw [List.all_cons, Bool.and_eq_true] at hpl
    refine PySem.W.callWith_K (h₀ := X.base) I.ok.mod.kin hk (thn (ha.run pos pins s σ H _ I h) fun us s1 ⟨vs, H1, I1, r, q⟩ => ⟨I1.kIn, ?_⟩) (star_cons hpl.1) (star_all hpl.2)
    exact tail I1 r q
end

section
variable {CX : CXT} {P : Program} {w : World} {K : PySem.W.Frag} {mg : Str → Option Value} {base : Heap} {k : Nat} {f : Addr} {name qual : Str} {params : Arguments} {body : List Stmt} {scope : Scope} {dV kV doc pm cdv ct oc : Value} {an od : Option Addr}
    {osl : Array (Option Value)} {N ps : List Str} {sp : Sp}
/-- a def by its body -/
theorem FnG.of (lk : K.lookup f = some ⟨oc, od, .func (PySem.W.fnOf name qual params body scope dV kV doc pm an cdv ct), osl⟩) (hcd : PySem.W.codeIn K cdv qual = true) (S : FnScope N ps scope)
    (len : ∀ {vs H Q E}, sp vs H Q E → vs.length = ps.length)
    (hbody : ∀ (A : Around) (outer : List PySem.Env) (s : Shared) (H : Hp) (vs : List V) (Q : VK) (E : XK), Roomy k (A.deeper (envOfC qual scope s.heap.objs.size f cdv)) → sp vs H Q E →
      ∃ t, PSs (cxOf CX P w K mg base N qual scope f cdv A outer s H E) body t ∧ t { nx := fun _ H' => Q .non H', rt := Q } (start N vs) H) :
    FnG P w K mg base CX (k + 1) f (PySem.W.fnOf name qual params body scope dV kV doc pm an cdv ct) ps sp := by
  refine ⟨len, fun {A outer s H args us vs Q E} hr e0 hb r hsp => ?_⟩
  have hl := len hsp
  have inH : K.In s.heap := e0.mod.kin.keeps fun b o e => (e0.bs b o e).1
  have noLim : s.heap.NoLimit := e0.mod.nolimit.keeps fun b o e => (e0.bs b o e).1
  obtain ⟨t, ht, hq⟩ := hbody A outer s H vs Q E (hr.down _) hsp
  refine codeAny_call_function hr.room.depth (inH _ _ lk) rfl S.co S.gen rfl (PySem.W.codeRec_of inH hcd) (hb _ _ _ _ (wpAny_newFunctionEnv_cells S.kind (fun y hy => ?_) fun env he s1 x => ?_))
  · have hy1 : y.1 ∈ ps := (List.of_mem_zip (a := y.1) (b := y.2) hy).1
    exact (S.par y.1 hy1).elim (fun q => .inl q) fun q => .inr ⟨q, PySem.W.cellsFrom_some _ _ _ (.inl q)⟩
  · subst he
    have I : Inv (cxOf CX P w K mg base N qual scope f cdv A outer s H E) [] (start N vs) H s1 := inv_start S hr.room.hd e0 hl r x
    refine ⟨noLim.keeps x.toInCall.keep, codeAny_func (wpAny_mono (ht.run [] s1 (start N vs) H _ I hq) (fun fl s' hs => ?_) fun e s' hs => hs)⟩
    match fl, hs with
    | .ret u, ⟨v, σ', H', J, rv, q⟩ => exact ⟨v, H', J.os, J.bare, J.base, J.hok, rv, q⟩
    | .next, ⟨σ', H', J, q⟩ => exact ⟨V.non, H', J.os, J.bare, J.base, J.hok, rfl, q⟩
    | .brk, ⟨_, _, _, q⟩ => exact q.elim
    | .cont, ⟨_, _, _, q⟩ => exact q.elim
end
end Ev

-- part EvQ
set_option maxHeartbeats 200000
/-! EvQ: == of data among which dicts may stand. -/
namespace Ev
open PySem PySem.SeqAt PySem.AutoSeq1 PySem.MeetsSeq
section
theorem dict_declines_str (l : Addr) (es : Array DictEntry) (n : Nat) (dd : Option Addr) (sl : Array (Option Value)) (b : Str) (u : Tok) :
    Meets (Builtin.«dict.__eq__» ⟨[.ref l, .str b u], []⟩) (fun _ R s => s.heap.get? l = some { cls := .type "dict", dict := dd, data := .dict es n, slots := sl } ∧ R (.ok (.ret .notImplemented)) s) :=
  .of_wp fun prog w A R s h => by obtain ⟨hp, g, d, tk, os⟩ := s; obtain ⟨hl, h⟩ := h; have f1 := F.sub_str_dict; wp_walk using wpAny_loadPart' hl; exact ⟨_, rfl, h⟩
theorem str_declines_dict (b : Str) (u : Tok) (l : Addr) (es : Array DictEntry) (n : Nat) (dd : Option Addr) (sl : Array (Option Value)) :
    Meets (Builtin.«str.__eq__» ⟨[.str b u, .ref l], []⟩) (fun _ R s => s.heap.get? l = some { cls := .type "dict", dict := dd, data := .dict es n, slots := sl } ∧ R (.ok (.ret .notImplemented)) s) :=
  .of_wp fun prog w A R s h => by obtain ⟨hp, g, d, tk, os⟩ := s; obtain ⟨hl, h⟩ := h; have f1 := F.sub_dict_str; wp_walk using wpAny_loadPart' hl; exact ⟨_, rfl, h⟩
theorem dict_declines_tuple (l b : Addr) (es : Array DictEntry) (items2 : Array Value) (n n2 : Nat) (dd dd2 : Option Addr) (sl sl2 : Array (Option Value)) :
    Meets (Builtin.«dict.__eq__» ⟨[.ref l, .ref b], []⟩) (fun _ R s => s.heap.get? l = some { cls := .type "dict", dict := dd, data := .dict es n, slots := sl } ∧ s.heap.get? b = some { cls := .type "tuple", dict := dd2, data := .seq items2 n2, slots := sl2 } ∧ R (.ok (.ret .notImplemented)) s) :=
  .of_wp fun prog w A R s h => by obtain ⟨hp, g, d, tk, os⟩ := s; obtain ⟨hl, hb, h⟩ := h; have f1 := F.sub_tuple_dict; wp_walk using wpAny_loadPart' hl, wpAny_loadPart' hb; exact ⟨_, rfl, h⟩
theorem tuple_declines_dict (l b : Addr) (items : Array Value) (es : Array DictEntry) (n n2 : Nat) (dd dd2 : Option Addr) (sl sl2 : Array (Option Value)) :
    Meets (Builtin.«tuple.__eq__» ⟨[.ref l, .ref b], []⟩) (fun _ R s => s.heap.get? l = some { cls := .type "tuple", dict := dd, data := .seq items n, slots := sl } ∧ s.heap.get? b = some { cls := .type "dict", dict := dd2, data := .dict es n2, slots := sl2 } ∧ R (.ok (.ret .notImplemented)) s) :=
  .of_wp fun prog w A R s h => by obtain ⟨hp, g, d, tk, os⟩ := s; obtain ⟨hl, hb, h⟩ := h; have f1 := F.sub_dict_tuple; wp_walk using wpAny_loadPart' hl, wpAny_loadPart' hb; exact ⟨_, rfl, h⟩
variable {A : Around} {s : Shared} {l b : Addr} {o o2 : Obj} {es : Array DictEntry} {n : Nat} {items : Array Value}
theorem rc_dict_str (ho : s.heap.get? l = some o) (hc : o.cls = .type "dict") (hd : o.data = .dict es n) (x : Str) (u : Tok) (hu : A.units < cLine) : RcAt A s (.ref l) (.str x u) false := fun prog w E Q h => by
  obtain ⟨cls, dd, data, sl⟩ := o
  simp only at hc hd
  subst hc hd
  exact rc_eq_decline_or (k := false) ⟨_, ho, rfl⟩ rfl (by decide) F.sub_str_dict F.slot_dict_eq F.slot_str_eq_refl
    (fun _ hq => call_meets F.slot_dict_eq ⟨_, ho, rfl⟩ F.entry_dict_eq (F.args_dict_eq_2 _ _) (dict_declines_str l es n dd sl x u) ⟨ho, hq⟩)
    (fun _ hq => call_meets F.slot_str_eq_refl rfl F.entry_str_eq (F.args_str_eq_2 _ _) (str_declines_dict x u l es n dd sl) ⟨ho, hq⟩)
    (fun _ hq => wpAny_of_eq (rfl : isSame (.ref l) (.str x u) = pure false) hq) (.inr hu) h
theorem rc_str_dict (ho : s.heap.get? l = some o) (hc : o.cls = .type "dict") (hd : o.data = .dict es n) (x : Str) (u : Tok) (hu : A.units < cLine) : RcAt A s (.str x u) (.ref l) false := fun prog w E Q h => by
  obtain ⟨cls, dd, data, sl⟩ := o
  simp only at hc hd
  subst hc hd
  exact rc_eq_decline_or (k := false) rfl ⟨_, ho, rfl⟩ (by decide) F.sub_dict_str F.slot_str_eq F.slot_dict_eq_refl
    (fun _ hq => call_meets F.slot_str_eq rfl F.entry_str_eq (F.args_str_eq_2 _ _) (str_declines_dict x u l es n dd sl) ⟨ho, hq⟩)
    (fun _ hq => call_meets F.slot_dict_eq_refl ⟨_, ho, rfl⟩ F.entry_dict_eq (F.args_dict_eq_2 _ _) (dict_declines_str l es n dd sl x u) ⟨ho, hq⟩)
    (fun _ hq => wpAny_of_eq (rfl : isSame (.str x u) (.ref l) = pure false) hq) (.inr hu) h
theorem dict_ne_tuple (ho : s.heap.get? l = some o) (hc : o.cls = .type "dict") (hb : s.heap.IsTuple b items) : l ≠ b := fun e => by
  subst e
  obtain ⟨o2, h2, c2, _⟩ := hb
  rw [ho] at h2; cases h2
  rw [hc] at c2
  exact absurd c2 (by simp)
theorem rc_dict_tuple (ho : s.heap.get? l = some o) (hc : o.cls = .type "dict") (hd : o.data = .dict es n) (hb : s.heap.IsTuple b items) (hu : A.units < cLine) : RcAt A s (.ref l) (.ref b) false := fun prog w E Q h => by
  have hne := dict_ne_tuple ho hc hb
  obtain ⟨cls, dd, data, sl⟩ := o
  obtain ⟨⟨cls2, dd2, data2, sl2⟩, ho2, hc2, n2, hd2⟩ := id hb
  simp only at hc hd hc2 hd2
  subst hc hd hc2 hd2
  exact rc_eq_decline_or (k := false) ⟨_, ho, rfl⟩ ⟨_, ho2, rfl⟩ (by decide) F.sub_tuple_dict F.slot_dict_eq F.slot_tuple_eq_refl
    (fun _ hq => call_meets F.slot_dict_eq ⟨_, ho, rfl⟩ F.entry_dict_eq (F.args_dict_eq_2 _ _) (dict_declines_tuple l b es items n n2 dd dd2 sl sl2) ⟨ho, ho2, hq⟩)
    (fun _ hq => call_meets F.slot_tuple_eq_refl ⟨_, ho2, rfl⟩ F.entry_tuple_eq (F.args_tuple_eq_2 _ _) (tuple_declines_dict b l items es n2 n dd2 dd sl2 sl) ⟨ho2, ho, hq⟩)
    (fun _ hq => wpAny_isSame_ref_other hne ho ho2 (by simp) hq) (.inr hu) h
theorem rc_tuple_dict (ho : s.heap.get? l = some o) (hc : o.cls = .type "dict") (hd : o.data = .dict es n) (hb : s.heap.IsTuple b items) (hu : A.units < cLine) : RcAt A s (.ref b) (.ref l) false := fun prog w E Q h => by
  have hne : b ≠ l := (dict_ne_tuple ho hc hb).symm
  obtain ⟨cls, dd, data, sl⟩ := o
  obtain ⟨⟨cls2, dd2, data2, sl2⟩, ho2, hc2, n2, hd2⟩ := id hb
  simp only at hc hd hc2 hd2
  subst hc hd hc2 hd2
  exact rc_eq_decline_or (k := false) ⟨_, ho2, rfl⟩ ⟨_, ho, rfl⟩ (by decide) F.sub_dict_tuple F.slot_tuple_eq F.slot_dict_eq_refl
    (fun _ hq => call_meets F.slot_tuple_eq ⟨_, ho2, rfl⟩ F.entry_tuple_eq (F.args_tuple_eq_2 _ _) (tuple_declines_dict b l items es n2 n dd2 dd sl2 sl) ⟨ho2, ho, hq⟩)
    (fun _ hq => call_meets F.slot_dict_eq_refl ⟨_, ho, rfl⟩ F.entry_dict_eq (F.args_dict_eq_2 _ _) (dict_declines_tuple l b es items n n2 dd dd2 sl sl2) ⟨ho, ho2, hq⟩)
    (fun _ hq => wpAny_isSame_ref_other' hne ho2 ho (by simp) hq) (.inr hu) h
theorem eq_dict_str (ho : s.heap.get? l = some o) (hc : o.cls = .type "dict") (hd : o.data = .dict es n) (x : Str) (u : Tok) (hu : A.units < cLine) : EqAt A s (.ref l) (.str x u) false := fun prog w E Q hq => by
  unfold eqBool
  refine wpAny_holding ?_
  refine wpAny_ite_split (fun hab => absurd (eq_of_beq hab) nofun) (fun _ => ?_)
  exact wpAny_bind (rc_dict_str ho hc hd x u hu prog w E _ (wpAny_truthy_bool hq))
theorem eq_str_dict (ho : s.heap.get? l = some o) (hc : o.cls = .type "dict") (hd : o.data = .dict es n) (x : Str) (u : Tok) (hu : A.units < cLine) : EqAt A s (.str x u) (.ref l) false := fun prog w E Q hq => by
  unfold eqBool
  refine wpAny_holding ?_
  refine wpAny_ite_split (fun hab => absurd (eq_of_beq hab) nofun) (fun _ => ?_)
  exact wpAny_bind (rc_str_dict ho hc hd x u hu prog w E _ (wpAny_truthy_bool hq))
mutual
theorem eqv_self : ∀ d : PyData, eqOk d d = true → PyData.eqv d d = true
  | .none, _ => rfl
  | .bool b, _ => by simp [PyData.eqv]
  | .int i, _ => by simp [PyData.eqv]
  | .str x, _ => by simp [PyData.eqv]
  | .list xs, h => eqvAll_self xs h
  | .tuple xs, h => eqvAll_self xs h
  | .dict _, h => by cases h
theorem eqvAll_self : ∀ ds : List PyData, eqOkAll ds ds = true → PyData.eqvAll ds ds = true
  | [], _ => rfl
  | d :: ds, h => by
    have h' : (eqOk d d && eqOkAll ds ds) = true := h
    rw [Bool.and_eq_true] at h'
    rw [PyData.eqvAll, eqv_self d h'.1, eqvAll_self ds h'.2]; rfl
end
mutual
theorem eqAt_x : ∀ (da db : PyData) (A : Around) (s : Shared) (a b : Value) (as bs : List Addr), Reads s.heap a da as → Reads s.heap b db bs → eqOk da db = true →
    A.units + min da.depth db.depth < cLine → EqAt A s a b (PyData.eqv da db)
  | .none, _, A, s, _, _, _, _, ra, rb, h, hu => by
    cases ra
    cases rb with
    | list k1 k2 k3 k4 => exact EqAt.none_list ⟨_, k1, k2, _, k3⟩ (room_here hu)
    | tuple k1 k2 k3 k4 => exact EqAt.none_tuple ⟨_, k1, k2, _, k3⟩ (room_here hu)
    | dict => exact nomatch h
    | _ => exact eqAt_plain _ _ A s _ _ _ _ .none (by constructor) rfl rfl hu
  | .bool x, _, A, s, _, _, _, _, ra, rb, h, hu => by
    cases ra
    cases rb with
    | list k1 k2 k3 k4 => exact EqAt.bool_list x ⟨_, k1, k2, _, k3⟩ (room_here hu)
    | tuple k1 k2 k3 k4 => exact EqAt.bool_tuple x ⟨_, k1, k2, _, k3⟩ (room_here hu)
    | dict => exact nomatch h
    | _ => exact eqAt_plain _ _ A s _ _ _ _ (.bool x) (by constructor) rfl rfl hu
  | .int x, _, A, s, _, _, _, _, ra, rb, h, hu => by
    cases ra with
    | int _ t =>
      cases rb with
      | list k1 k2 k3 k4 => exact EqAt.int_list x t ⟨_, k1, k2, _, k3⟩ (room_here hu)
      | tuple k1 k2 k3 k4 => exact EqAt.int_tuple x t ⟨_, k1, k2, _, k3⟩ (room_here hu)
      | dict => exact nomatch h
      | _ => exact eqAt_plain _ _ A s _ _ _ _ (.int x t) (by constructor) rfl rfl hu
  | .str x, _, A, s, _, _, _, _, ra, rb, h, hu => by
    cases ra with
    | str _ t =>
      cases rb with
      | list k1 k2 k3 k4 => exact EqAt.str_list x t ⟨_, k1, k2, _, k3⟩ (room_here hu)
      | tuple k1 k2 k3 k4 => exact EqAt.str_tuple x t ⟨_, k1, k2, _, k3⟩ (room_here hu)
      | dict k1 k2 k3 k4 k5 => exact eq_str_dict k1 k2 k3 x t (room_here hu)
      | _ => exact eqAt_plain _ _ A s _ _ _ _ (.str x t) (by constructor) rfl rfl hu
  | .dict kvs, _, A, s, _, _, _, _, ra, rb, h, hu => by
    cases ra with
    | dict h1 h2 h3 h4 h5 =>
      cases rb with
      | tuple k1 k2 k3 k4 => exact EqAt.of_refs (dict_ne_tuple h1 h2 ⟨_, k1, k2, _, k3⟩) (rc_dict_tuple h1 h2 h3 ⟨_, k1, k2, _, k3⟩ (room_here hu))
      | str y u => exact eq_dict_str h1 h2 h3 y u (room_here hu)
      | _ => exact nomatch h
  | .list xs, _, A, s, _, _, _, _, ra, rb, h, hu => by
    cases ra with
    | @list l o vs n _ as₁ h1 h2 h3 h4 =>
      have hl : s.heap.IsList l vs := ⟨_, h1, h2, _, h3⟩
      cases rb with
      | none => exact EqAt.list_none hl (room_here hu)
      | bool y => exact EqAt.list_bool y hl (room_here hu)
      | int y u => exact EqAt.list_int y u hl (room_here hu)
      | str y u => exact EqAt.list_str y u hl (room_here hu)
      | tuple k1 k2 k3 k4 => exact EqAt.list_tuple hl ⟨_, k1, k2, _, k3⟩ (room_here hu)
      | dict => exact nomatch h
      | @list l' o' vs' n' ys bs₁ k1 k2 k3 k4 =>
        have n1 : vs.size = xs.length := by simpa using ReadsAll.length _ _ _ h4
        have n2 : vs'.size = ys.length := by simpa using ReadsAll.length _ _ _ k4
        have each := eqAt_xAll xs ys A.in1 s vs.toList vs'.toList _ _ h4 k4 h (room_in hu)
        show EqAt A s (.ref l) (.ref l') (PyData.eqvAll xs ys)
        by_cases hll : l = l'
        · subst hll
          obtain ⟨e, _⟩ := PyProof.Rows.reads_det (fun _ _ e _ => e) (Reads.list h1 h2 h3 h4) (Reads.list k1 k2 k3 k4)
          injection e with e
          subst e
          rw [eqvAll_self _ h]
          exact EqAt.same _
        · have hl' : s.heap.IsList l' vs' := ⟨_, k1, k2, _, k3⟩
          by_cases hsz : vs.size = vs'.size
          · rw [← eqvAll_same_length (by omega : xs.length = ys.length), ← n1]
            exact EqAt.of_refs hll (RcAt.lists hl hl' hsz (room_here hu) fun j j1 j2 => by
            have t := each j (by simpa using j1) (by simpa using j2)
            simpa using t)
          · rw [eqvAll_other_length (by omega : xs.length ≠ ys.length)]
            exact EqAt.of_refs hll (RcAt.lists_lengths hl hl' (by simpa using hsz) (room_here hu))
  | .tuple xs, _, A, s, _, _, _, _, ra, rb, h, hu => by
    cases ra with
    | @tuple l o vs n _ as₁ h1 h2 h3 h4 =>
      have hl : s.heap.IsTuple l vs := ⟨_, h1, h2, _, h3⟩
      cases rb with
      | none => exact EqAt.tuple_none hl (room_here hu)
      | bool y => exact EqAt.tuple_bool y hl (room_here hu)
      | int y u => exact EqAt.tuple_int y u hl (room_here hu)
      | str y u => exact EqAt.tuple_str y u hl (room_here hu)
      | list k1 k2 k3 k4 => exact EqAt.tuple_list hl ⟨_, k1, k2, _, k3⟩ (room_here hu)
      | dict k1 k2 k3 k4 k5 => exact EqAt.of_refs (dict_ne_tuple k1 k2 hl).symm (rc_tuple_dict k1 k2 k3 hl (room_here hu))
      | @tuple l' o' vs' n' ys bs₁ k1 k2 k3 k4 =>
        have n1 : vs.size = xs.length := by simpa using ReadsAll.length _ _ _ h4
        have n2 : vs'.size = ys.length := by simpa using ReadsAll.length _ _ _ k4
        have each := eqAt_xAll xs ys A.in1 s vs.toList vs'.toList _ _ h4 k4 h (room_in hu)
        show EqAt A s (.ref l) (.ref l') (PyData.eqvAll xs ys)
        by_cases hll : l = l'
        · subst hll
          obtain ⟨e, _⟩ := PyProof.Rows.reads_det (fun _ _ e _ => e) (Reads.tuple h1 h2 h3 h4) (Reads.tuple k1 k2 k3 k4)
          injection e with e
          subst e
          rw [eqvAll_self _ h]
          exact EqAt.same _
        · rw [← eqvAll_eq xs ys, ← n1, ← n2]
          exact EqAt.of_refs hll (RcAt.tuples hl ⟨_, k1, k2, _, k3⟩ (room_here hu) fun j j1 j2 => by
            have t := each j (by simpa using j1) (by simpa using j2)
            simpa using t)
theorem eqAt_xAll : ∀ (xs ys : List PyData) (A : Around) (s : Shared) (vs ws : List Value) (as bs : List Addr), ReadsAll s.heap vs xs as → ReadsAll s.heap ws ys bs → eqOkAll xs ys = true →
    A.units + min (PyData.depthAll xs) (PyData.depthAll ys) < cLine → ∀ j (h1 : j < vs.length) (h2 : j < ws.length), EqAt A s vs[j] ws[j] (pairEq xs ys j)
  | [], _, _, _, _, _, _, _, ra, _, _, _, j, h1, _ => by cases ra; exact absurd h1 (Nat.not_lt_zero _)
  | _ :: _, [], _, _, _, _, _, _, _, rb, _, _, j, _, h2 => by cases rb; exact absurd h2 (Nat.not_lt_zero _)
  | x :: xs, y :: ys, A, s, _, _, _, _, ra, rb, h, hu, j, h1, h2 => by
    have h' : (eqOk x y && eqOkAll xs ys) = true := h
    rw [Bool.and_eq_true] at h'
    cases ra with
    | cons r rs =>
      cases rb with
      | cons r' rs' =>
        cases j with
        | zero => exact eqAt_x x y A s _ _ _ _ r r' h'.1 (room_head hu)
        | succ j => exact eqAt_xAll xs ys A s _ _ _ _ rs rs' h'.2 (room_tail hu) j (Nat.lt_of_succ_lt_succ h1) (Nat.lt_of_succ_lt_succ h2)
end
theorem rcAt_x {da db : PyData} {A : Around} {s : Shared} {a b : Value} {as bs : List Addr} (ra : Reads s.heap a da as) (rb : Reads s.heap b db bs) (h : eqOk da db = true) (hu : A.units + min da.depth db.depth < cLine) : RcAt A s a b (PyData.eqv da db) := by
  cases ra with
  | none =>
    cases rb with
    | list k1 k2 k3 k4 => exact RcAt.none_list ⟨_, k1, k2, _, k3⟩ (room_here hu)
    | tuple k1 k2 k3 k4 => exact RcAt.none_tuple ⟨_, k1, k2, _, k3⟩ (room_here hu)
    | dict => exact nomatch h
    | _ => exact rcAt_plain .none (by constructor) rfl rfl hu
  | bool x =>
    cases rb with
    | list k1 k2 k3 k4 => exact RcAt.bool_list x ⟨_, k1, k2, _, k3⟩ (room_here hu)
    | tuple k1 k2 k3 k4 => exact RcAt.bool_tuple x ⟨_, k1, k2, _, k3⟩ (room_here hu)
    | dict => exact nomatch h
    | _ => exact rcAt_plain (.bool x) (by constructor) rfl rfl hu
  | int x t =>
    cases rb with
    | list k1 k2 k3 k4 => exact RcAt.int_list x t ⟨_, k1, k2, _, k3⟩ (room_here hu)
    | tuple k1 k2 k3 k4 => exact RcAt.int_tuple x t ⟨_, k1, k2, _, k3⟩ (room_here hu)
    | dict => exact nomatch h
    | _ => exact rcAt_plain (.int x t) (by constructor) rfl rfl hu
  | str x t =>
    cases rb with
    | list k1 k2 k3 k4 => exact RcAt.str_list x t ⟨_, k1, k2, _, k3⟩ (room_here hu)
    | tuple k1 k2 k3 k4 => exact RcAt.str_tuple x t ⟨_, k1, k2, _, k3⟩ (room_here hu)
    | dict k1 k2 k3 k4 k5 => exact rc_str_dict k1 k2 k3 x t (room_here hu)
    | _ => exact rcAt_plain (.str x t) (by constructor) rfl rfl hu
  | dict h1 h2 h3 h4 h5 =>
    cases rb with
    | tuple k1 k2 k3 k4 => exact rc_dict_tuple h1 h2 h3 ⟨_, k1, k2, _, k3⟩ (room_here hu)
    | str y u => exact rc_dict_str h1 h2 h3 y u (room_here hu)
    | _ => exact nomatch h
  | @list l o vs n xs as₁ h1 h2 h3 h4 =>
    have hl : s.heap.IsList l vs := ⟨_, h1, h2, _, h3⟩
    cases rb with
    | none => exact RcAt.list_none hl (room_here hu)
    | bool y => exact RcAt.list_bool y hl (room_here hu)
    | int y u => exact RcAt.list_int y u hl (room_here hu)
    | str y u => exact RcAt.list_str y u hl (room_here hu)
    | tuple k1 k2 k3 k4 => exact RcAt.list_tuple hl ⟨_, k1, k2, _, k3⟩ (room_here hu)
    | dict => exact nomatch h
    | @list l' o' vs' n' ys bs₁ k1 k2 k3 k4 =>
      have n1 : vs.size = xs.length := by simpa using ReadsAll.length _ _ _ h4
      have n2 : vs'.size = ys.length := by simpa using ReadsAll.length _ _ _ k4
      have each := eqAt_xAll xs ys A.in1 s vs.toList vs'.toList _ _ h4 k4 h (room_in hu)
      have hl' : s.heap.IsList l' vs' := ⟨_, k1, k2, _, k3⟩
      show RcAt A s (.ref l) (.ref l') (PyData.eqvAll xs ys)
      by_cases hsz : vs.size = vs'.size
      · rw [← eqvAll_same_length (by omega : xs.length = ys.length), ← n1]
        exact RcAt.lists hl hl' hsz (room_here hu) fun j j1 j2 => by
            have t := each j (by simpa using j1) (by simpa using j2)
            simpa using t
      · rw [eqvAll_other_length (by omega : xs.length ≠ ys.length)]
        exact RcAt.lists_lengths hl hl' (by simpa using hsz) (room_here hu)
  | @tuple l o vs n xs as₁ h1 h2 h3 h4 =>
    have hl : s.heap.IsTuple l vs := ⟨_, h1, h2, _, h3⟩
    cases rb with
    | none => exact RcAt.tuple_none hl (room_here hu)
    | bool y => exact RcAt.tuple_bool y hl (room_here hu)
    | int y u => exact RcAt.tuple_int y u hl (room_here hu)
    | str y u => exact RcAt.tuple_str y u hl (room_here hu)
    | list k1 k2 k3 k4 => exact RcAt.tuple_list hl ⟨_, k1, k2, _, k3⟩ (room_here hu)
    | dict k1 k2 k3 k4 k5 => exact rc_tuple_dict k1 k2 k3 hl (room_here hu)
    | @tuple l' o' vs' n' ys bs₁ k1 k2 k3 k4 =>
      have n1 : vs.size = xs.length := by simpa using ReadsAll.length _ _ _ h4
      have n2 : vs'.size = ys.length := by simpa using ReadsAll.length _ _ _ k4
      have each := eqAt_xAll xs ys A.in1 s vs.toList vs'.toList _ _ h4 k4 h (room_in hu)
      show RcAt A s (.ref l) (.ref l') (PyData.eqvAll xs ys)
      rw [← eqvAll_eq xs ys, ← n1, ← n2]
      exact RcAt.tuples hl ⟨_, k1, k2, _, k3⟩ (room_here hu) fun j j1 j2 => by
            have t := each j (by simpa using j1) (by simpa using j2)
            simpa using t
end
end Ev

-- part EvD
set_option maxHeartbeats 200000
/-! EvD: the evaluator's operations stand for the model's. -/
namespace Ev
open PySem PySem.Spec PyProof.Rows L2

/-- what is wanted behind an outcome -/
def PostR {α β : Type} (K : PySem.W.Frag) (B : List Nat) (R : Gh → α → β → Prop) (g : Gh) (H : Hp) (o : Out α) (Q : β → Hp → Prop) : Prop := match o with
  | .ok a S' => ∀ g' b H', Step g H g' H' → Sim K B g' S' H' → R g' a b → Q b H'
  | _ => False
section
variable {α β γ δ : Type} {K : PySem.W.Frag} {B : List Nat} {R : Gh → α → β → Prop} {R' : Gh → γ → δ → Prop} {g g1 : Gh} {H H1 : Hp} {S : Store}
theorem PostR.step {o : Out α} {Q : β → Hp → Prop} (h : PostR K B R g H o Q) (st : Step g H g1 H1) : PostR K B R g1 H1 o Q := by
  cases o with
  | ok a S' => exact fun g' b H' s' => h g' b H' (st.trans s')
  | exc _ _ _ => exact h
  | bad => exact h
theorem PostR.mono {o : Out α} {Q Q' : β → Hp → Prop} (h : PostR K B R g H o Q) (hq : ∀ b H', Q b H' → Q' b H') : PostR K B R g H o Q' := by
  cases o with
  | ok a S' => exact fun g' b H' s' x r => hq _ _ (h g' b H' s' x r)
  | exc _ _ _ => exact h
  | bad => exact h
theorem PostR.bind {x : M α} {f : α → M γ} {Q : δ → Hp → Prop} (h : PostR K B R' g H ((x >>= f) S) Q) :
    PostR K B R g H (x S) fun b H1 => ∃ g1 a S1, Step g H g1 H1 ∧ Sim K B g1 S1 H1 ∧ R g1 a b ∧ PostR K B R' g1 H1 (f a S1) Q := by
  rw [bind_at] at h
  cases e : x S with
  | ok a S1 =>
    rw [e] at h
    exact fun g' b H' st sm r => ⟨g', a, S1, st, sm, r, PostR.step h st⟩
  | exc _ _ _ => rw [e] at h; exact h
  | bad => rw [e] at h; exact h
/-- where the first part says a plain thing and leaves the store -/
theorem PostR.guard {b : Bool} {f : Unit → M γ} {Q : δ → Hp → Prop} (h : PostR K B R' g H ((guard b >>= f) S) Q) : b = true ∧ PostR K B R' g H (f () S) Q := by
  rw [bind_at, guard_at] at h
  cases b with
  | true => exact ⟨rfl, h⟩
  | false => exact h.elim
theorem PostR.lift {o : Option α} {f : α → M γ} {Q : δ → Hp → Prop} (h : PostR K B R' g H ((lift o >>= f) S) Q) : ∃ a, o = some a ∧ PostR K B R' g H (f a S) Q := by
  rw [bind_at] at h
  cases o with
  | some a => exact ⟨a, rfl, h⟩
  | none => exact h.elim
theorem PostR.bad {Q : δ → Hp → Prop} (h : PostR K B R' g H ((bad : M γ) S) Q) : False := h
theorem PostR.pure {a : γ} {Q : δ → Hp → Prop} (h : PostR K B R' g H ((pure a : M γ) S) Q) : PostR K B R' g H (.ok a S) Q := h
theorem pure_bind_at {a : α} {f : α → M γ} : ((pure a : M α) >>= f) S = f a S := rfl
end

section
variable {X : Cx} {B : List Nat} {pins : List (Addr × Obj)} {σ : L2.St} {H : Hp} {s : Shared} {g : Gh} {S : Store}
abbrev PW' (K : PySem.W.Frag) (B : List Nat) (g : Gh) (H : Hp) (o : Out W) (Q : VK) : Prop := PostR K B (RepW K) g H o Q
/-- an operation on two values, by the evaluator -/
def rOp (K : PySem.W.Frag) (B : List Nat) (F : W → W → M W) : R2 := fun x y H Q => ∃ g S a b, Sim K B g S H ∧ RepW K g a x ∧ RepW K g b y ∧ PostR K B (RepW K) g H (F a b S) Q
theorem LsR.got {a : Addr} {xs : List V} (I : Inv X pins σ H s) (l : HLe g.h H) (r : LsR X.K g.h a xs) : ∃ its n, Vals xs its ∧ s.heap.get? a = some { cls := .type "list", data := .seq its.toArray n } ∧ xs.length ≤ sizeLine := by
  rcases r with r | ⟨its, n, e, z, q⟩
  · obtain ⟨z, its, n, q, e⟩ := (Rd.le l r).ok I.hok
    exact ⟨its, n, q, e, z⟩
  · exact ⟨its, n, q, I.kIn a _ e, by rw [q.length]; exact z⟩
/-- a list: frozen data or a thing of the store, its items -/
theorem seq_got {w : W} {v : V} {ws : List W} {S' : Store} (I : Inv X pins σ H s) (x : Sim X.K B g S H) (r : RepW X.K g w v) (e : seqW w S = .ok ws S') : S' = S ∧ ws.length ≤ sizeLine ∧ ∃ a xs, v = .ref a ∧ RepWs X.K g ws xs ∧
    (((∃ its n, Vals xs its ∧ s.heap.get? a = some { cls := .type "list", data := .seq its.toArray n }) ∧ SqL X.K H a xs) ∨ SqT X.K H a xs) := by
  cases w with
  | d x0 =>
    cases x0 with
    | list ds =>
      cases e
      obtain ⟨z, a, xs, ev, l, q⟩ := r
      obtain ⟨its, n, rv, ho, _⟩ := LsR.got I x.sub l
      exact ⟨rfl, by simpa using z, a, xs, ev, RepWs.map q, .inl ⟨⟨its, n, rv, ho⟩, SqL.le x.sub l.sq⟩⟩
    | tuple ds =>
      cases e
      obtain ⟨z, a, xs, ev, l, q⟩ := r
      exact ⟨rfl, by simpa using z, a, xs, ev, RepWs.map q, .inr (SqT.le x.sub l)⟩
    | _ => cases e
  | tup us =>
    cases e
    obtain ⟨z, a, xs, ev, l, q⟩ := r
    exact ⟨rfl, z, a, xs, ev, q, .inr (SqT.le x.sub l)⟩
  | fn i => cases e
  | ref n =>
    have e : (match S[n]? with
      | some (.lst ws) => Out.ok ws S
      | _ => Out.bad) = .ok ws S' := e
    obtain ⟨a, ea, rfl⟩ := r
    cases q : S[n]? with
    | none => rw [q] at e; cases e
    | some c =>
      rw [q] at e
      cases c with
      | gone => cases e
      | lst us =>
        cases e
        obtain ⟨a', xs, em, _, z, hH, rw'⟩ := x.cell n _ q
        rw [ea] at em; cases em
        obtain ⟨z2, its, n2, rv, ho⟩ := I.hok a _ hH
        exact ⟨rfl, z, a, xs, rfl, rw', .inl ⟨⟨its, n2, rv, ho⟩, SqL.of hH⟩⟩
/-- a new list out of values: kept as a thing, or frozen -/
theorem made_list {own : Bool} {ws : List W} {xs : List V} {Q : VK} (x : Sim X.K B g S H) (hz : ws.length ≤ sizeLine) (r : RepWs X.K g ws xs) (h : PostR X.K B (RepW X.K) g H (mkLst own ws S) Q) : ∀ p, H p = none → Q (.ref p) (L2.upd H p (.lst xs)) := by
  intro p hp
  unfold mkLst at h
  cases own with
  | true =>
    obtain ⟨g', sm, st, em⟩ := x.alloc hp hz r
    exact h g' (.ref p) _ st sm ⟨p, em, rfl⟩
  | false =>
    rw [if_neg Bool.false_ne_true] at h
    cases e : allData ws with
    | none => rw [e] at h; exact h.elim
    | some ds =>
      rw [e] at h
      have ew := allData_some e
      subst ew
      obtain ⟨sm, st⟩ := x.froze (o := .lst xs) hp
      refine h ⟨L2.upd g.h p (.lst xs), g.m⟩ (.ref p) _ st sm ?_
      exact ⟨by simpa using hz, p, xs, rfl, .inl (.inl upd_same), RepDs.le st.1.1 ds r.unmap⟩
/-- a new tuple out of values -/
theorem made_tup {ws : List W} {xs : List V} {p : Addr} (x : Sim X.K B g S H) (hz : ws.length ≤ sizeLine) (r : RepWs X.K g ws xs) (hp : H p = none) :
    ∃ g', Sim X.K B g' S (L2.upd H p (.tup xs)) ∧ Step g H g' (L2.upd H p (.tup xs)) ∧ RepW X.K g' (mkTup ws) (.ref p) := by
  obtain ⟨sm, st⟩ := x.froze (o := .tup xs) hp
  refine ⟨_, sm, st, ?_⟩
  unfold mkTup
  cases e : allData ws with
  | none => exact ⟨hz, p, xs, rfl, .inl (.inl upd_same), RepWs.le st.1 ws r⟩
  | some ds =>
    have ew := allData_some e
    subst ew
    exact ⟨by simpa using hz, p, xs, rfl, .inl (.inl upd_same), RepDs.le st.1.1 ds r.unmap⟩
theorem RepDs.nil_iff {K : PySem.W.Frag} {h : Hp} {ds : List PyData} {xs : List V} (r : RepDs K h ds xs) : xs = [] ↔ ds = [] := by
  have := r.length
  constructor
  · intro e; subst e; exact List.eq_nil_of_length_eq_zero this.symm
  · intro e; subst e; exact r

/-! ### + - * // % ** -/
theorem lim4_eq : lim4 = 2 ^ 4000 := by decide +kernel
theorem mulOk_of {i j : Int} (h : mulOk i j = true) : IntMulOk i j := by
  unfold mulOk at h
  simp only [Bool.or_eq_true, Bool.and_eq_true, decide_eq_true_eq] at h
  rcases h with (h | h) | h
  · exact CMul.ok (.inl h)
  · exact CMul.ok (.inr h)
  · rw [lim4_eq] at h
    exact CMulW.ok (wide_mul h.1 h.2 (by decide) (by decide) (by decide))
theorem cat_lists {a b : Addr} {xs ys : List V} {its its2 : List Value} {n n2 : Nat} {Q : VK} (I : Inv X pins σ H s) (r1 : Vals xs its) (e1 : s.heap.get? a = some { cls := .type "list", data := .seq its.toArray n }) (r2 : Vals ys its2)
    (e2 : s.heap.get? b = some { cls := .type "list", data := .seq its2.toArray n2 }) (hz : xs.length + ys.length ≤ sizeLine) (q : ∀ p, H p = none → Q (.ref p) (L2.upd H p (.lst (xs ++ ys)))) :
    wpAny (model X.prog X.w) X.A (binaryOp .Add (.ref a) (.ref b)) (EP X pins σ Q) X.xe s := by
  have l1 := r1.length
  have l2 := r2.length
  refine PySem.P.add_list e1 e2 ?_ (by rw [List.size_toArray, List.size_toArray, ← l1, ← l2]; exact hz)
  have ea : its.toArray ++ its2.toArray = (its ++ its2).toArray := by simp
  rw [ea]
  exact ⟨.ref _, _, I.lnew (t' := s.toks) (r1.append r2) (by rw [List.length_append]; exact hz), rfl, q _ I.fresh⟩

theorem seqW_same {w : W} {ws : List W} {S' : Store} (e : seqW w S = .ok ws S') : S' = S := by
  cases w with
  | d x => cases x <;> first
    | (cases e; rfl)
    | cases e
  | tup us => cases e; rfl
  | fn i => cases e
  | ref n =>
    have e : (match S[n]? with
      | some (.lst ws) => Out.ok ws S
      | _ => Out.bad) = .ok ws S' := e
    split at e
    · cases e; rfl
    · cases e
theorem PostR.seq {γ δ : Type} {K : PySem.W.Frag} {R' : Gh → γ → δ → Prop} {w : W} {f : List W → M γ} {Q : δ → Hp → Prop} (h : PostR K B R' g H ((seqW w >>= f) S) Q) : ∃ ws, seqW w S = .ok ws S ∧ PostR K B R' g H (f ws S) Q := by
  rw [bind_at] at h
  cases e : seqW w S with
  | ok ws S' =>
    have := seqW_same e
    subst this
    rw [e] at h
    exact ⟨ws, rfl, h⟩
  | exc _ _ _ => rw [e] at h; exact h.elim
  | bad => rw [e] at h; exact h.elim
theorem rep_lists {a : Addr} {k : Int} {t : Tok} {xs : List V} {its : List Value} {n : Nat} {Q : VK} (I : Inv X pins σ H s) (r : Vals xs its) (e : s.heap.get? a = some { cls := .type "list", data := .seq its.toArray n }) (h1 : -(2 ^ 62) ≤ k) (h2 : k < 2 ^ 62)
    (hz : xs.length * k.toNat ≤ sizeLine) (q : ∀ p, H p = none → Q (.ref p) (L2.upd H p (.lst (rep k.toNat xs)))) : wpAny (model X.prog X.w) X.A (binaryOp .Mult (.ref a) (.int k t)) (EP X pins σ Q) X.xe s := by
  have l1 : its.toArray.size = xs.length := by rw [List.size_toArray]; exact r.length.symm
  have hcap : ¬ its.toArray.size * k.toNat > (2 ^ 63 - 1) / 8 := by
    have : (sizeLine : Nat) ≤ (2 ^ 63 - 1) / 8 := by decide
    rw [l1]; omega
  have hfit : ¬ (!Builtin.List.listFitsIndex k) = true := by
    rw [fitsIndex_both (by omega) (by omega)]
    exact Bool.false_ne_true
  have hlong : ¬ Builtin.List.listTooLong (its.toArray.size * k.toNat) = true := by
    rw [notLongL (by rw [l1]; exact hz)]
    exact Bool.false_ne_true
  have hnew : List.foldl (fun x1 x2 => x1 ++ x2) #[] (List.replicate (if its.toArray.isEmpty = true then 0 else k.toNat) its.toArray) = (rep k.toNat its).toArray := by
    have f0 := fun m : Nat => foldl_rep its m []
    cases its with
    | nil =>
      have := f0 0
      unfold rep
      simp
    | cons a r' =>
      rw [if_neg (by simp)]
      have := f0 k.toNat
      rw [List.nil_append] at this
      exact this
  refine wpAny_binaryOp_repeat_ref (T := "list") (U := "int") (by decide) ⟨_, e, rfl⟩ (fun s' => typeIs_int s' k t) noFill_list_mul F.fills_int_mul F.slot_int_rmul repeat_list F.slot_int_index.lookup
    (call_meets F.slot_int_rmul (typeIs_int s k t) F.entry_int_rmul (F.args_int_rmul_2 _ _) (int___rmul___int_list k t a its.toArray n)
      ⟨e, rfl, ⟨_, e, rfl⟩, call_meets F.slot_list_mul ⟨_, e, rfl⟩ F.entry_list_mul (F.args_list_mul_2 _ _) (AutoListH.list___mul___list_int_3 a its.toArray n k t hfit hcap hlong) ⟨e, ?_⟩⟩)
  rw [hnew]
  exact ⟨.ref _, _, I.lnew (t' := s.toks) (r.rep k.toNat) (by show (rep k.toNat xs).length ≤ _; rw [rep_length, Nat.mul_comm]; exact hz), rfl, q _ I.fresh⟩
/-- the items of a list by the evaluator, in the model's heap -/
theorem list_got {n : Nat} {v : V} {ws : List W} (I : Inv X pins σ H s) (x : Sim X.K B g S H) (r : RepW X.K g (.ref n) v) (e : seqW (.ref n) S = .ok ws S) : ws.length ≤ sizeLine ∧ ∃ a xs its m, v = .ref a ∧ RepWs X.K g ws xs ∧
    Vals xs its ∧ s.heap.get? a = some { cls := .type "list", data := .seq its.toArray m } ∧ H a = some (.lst xs) ∧ g.m n = some a ∧ S[n]? = some (.lst ws) := by
  obtain ⟨a, ea, rfl⟩ := r
  have e : (match S[n]? with
    | some (.lst ws) => Out.ok ws S
    | _ => Out.bad) = .ok ws S := e
  cases q : S[n]? with
  | none => rw [q] at e; cases e
  | some c =>
    rw [q] at e
    cases c with
    | gone => cases e
    | lst us =>
      cases e
      obtain ⟨a', xs, em, _, z, hH, rw'⟩ := x.cell n _ q
      rw [ea] at em; cases em
      obtain ⟨z2, its, n2, rv, ho⟩ := I.hok a _ hH
      exact ⟨z, a, xs, its, n2, rfl, rw', rv, ho, hH, ea, rfl⟩
theorem op_bin (own : Bool) (op : Operator) : OpR X (binaryOp op) (rOp X.K B (binop own op)) := by
  intro pins s σ H x y v u Q I rx ry ⟨g, S, a, b, sm, ra, rb, h⟩
  unfold binop at h
  split at h
  · cases ra; cases rb
    exact op_add pins s σ H _ _ v u Q I rx ry ⟨_, _, rfl, rfl, h g _ H (.refl _ _) sm rfl⟩
  · obtain ⟨k, h⟩ := h.guard
    cases ra; cases rb
    exact op_add_str pins s σ H _ _ v u Q I rx ry ⟨_, _, rfl, rfl, of_decide_eq_true k, h g _ H (.refl _ _) sm rfl⟩
  · obtain ⟨k, h⟩ := h.guard
    have k := of_decide_eq_true k
    obtain ⟨z1, a1, xs, rfl, s1, q1⟩ := ra
    obtain ⟨z2, a2, ys, rfl, s2, q2⟩ := rb
    have l1 := q1.length
    have l2 := q2.length
    refine op_catA pins s σ H _ _ v u Q I rx ry ⟨a1, a2, xs, ys, rfl, rfl, SqT.le sm.sub s1, SqT.le sm.sub s2, by rw [l1, l2]; exact k, fun e => ?_, fun e1 e2 => ?_, fun e1 e2 p hp => ?_⟩
    · have e' := q1.nil_iff.mp e
      subst e'
      exact h g _ H (.refl _ _) sm ⟨by simpa using z2, a2, ys, rfl, s2, q2⟩
    · have e' := q2.nil_iff.mp e2
      subst e'
      exact h g _ H (.refl _ _) sm ⟨by simpa using z1, a1, xs, rfl, s1, by simpa using q1⟩
    · obtain ⟨sm', st⟩ := sm.froze (o := .tup (xs ++ ys)) hp
      exact h _ _ _ st sm' ⟨by rw [List.length_append]; exact k, p, _, rfl, .inl (.inl upd_same), RepDs.le st.1.1 _ (q1.append q2)⟩
  · obtain ⟨k, h⟩ := h.guard
    have k := of_decide_eq_true k
    obtain ⟨z1, a1, xs, rfl, s1, q1⟩ := ra
    obtain ⟨z2, a2, ys, rfl, s2, q2⟩ := rb
    cases rx; cases ry
    obtain ⟨its, n, r1, e1, _⟩ := LsR.got I sm.sub s1
    obtain ⟨its2, n2, r2, e2, _⟩ := LsR.got I sm.sub s2
    have l1 := q1.length
    have l2 := q2.length
    exact cat_lists I r1 e1 r2 e2 (by rw [l1, l2]; exact k) (made_list sm (by simpa using k) ((RepWs.map q1).append (RepWs.map q2)) h)
  · obtain ⟨ws, e, h⟩ := h.seq
    obtain ⟨k, h⟩ := h.guard
    have k := of_decide_eq_true k
    obtain ⟨z1, a1, xs, rfl, s1, q1⟩ := ra
    obtain ⟨z2, a2, ys, its2, n2, rfl, q2, r2, e2, _⟩ := list_got I sm rb e
    cases rx; cases ry
    obtain ⟨its, n, r1, e1, _⟩ := LsR.got I sm.sub s1
    have l1 := q1.length
    have l2 := q2.length
    exact cat_lists I r1 e1 r2 e2 (by rw [l1, l2]; exact k) (made_list sm (by simpa using k) ((RepWs.map q1).append q2) h)
  · obtain ⟨ws, e, h⟩ := h.seq
    obtain ⟨k, h⟩ := h.guard
    have k := of_decide_eq_true k
    obtain ⟨z1, a1, xs, rfl, s1, q1⟩ := rb
    obtain ⟨z2, a2, ys, its2, n2, rfl, q2, r2, e2, _⟩ := list_got I sm ra e
    cases rx; cases ry
    obtain ⟨its, n, r1, e1, _⟩ := LsR.got I sm.sub s1
    have l1 := q1.length
    have l2 := q2.length
    exact cat_lists I r2 e2 r1 e1 (by rw [l1, l2]; exact k) (made_list sm (by simpa using k) (q2.append (RepWs.map q1)) h)
  · obtain ⟨ws, e, h⟩ := h.seq
    obtain ⟨us, e', h⟩ := h.seq
    obtain ⟨k, h⟩ := h.guard
    have k := of_decide_eq_true k
    obtain ⟨z1, a1, xs, its, n, rfl, q1, r1, e1, _⟩ := list_got I sm ra e
    obtain ⟨z2, a2, ys, its2, n2, rfl, q2, r2, e2, _⟩ := list_got I sm rb e'
    cases rx; cases ry
    have l1 := q1.length
    have l2 := q2.length
    exact cat_lists I r1 e1 r2 e2 (by rw [l1, l2]; exact k) (made_list sm (by simpa using k) (q1.append q2) h)
  · cases ra; cases rb
    exact op_sub pins s σ H _ _ v u Q I rx ry ⟨_, _, rfl, rfl, h g _ H (.refl _ _) sm rfl⟩
  · obtain ⟨k, h⟩ := h.guard
    cases ra; cases rb
    obtain ⟨t, rfl⟩ := rx
    obtain ⟨t', rfl⟩ := ry
    exact mul_int ⟨.int _, H, I.tok _, ⟨_, rfl⟩, h g _ H (.refl _ _) sm rfl⟩ (mulOk_of k)
  · obtain ⟨k, h⟩ := h.guard
    simp only [Bool.and_eq_true, decide_eq_true_eq, Bool.not_eq_true'] at k
    obtain ⟨⟨⟨k1, k2⟩, k3⟩, k4⟩ := k
    obtain ⟨z1, a1, xs, rfl, s1, q1⟩ := ra
    cases rb
    have l1 := q1.length
    refine op_repT pins s σ H _ _ v u Q I rx ry ⟨a1, _, xs, rfl, rfl, SqT.le sm.sub s1, fun e => ?_, k1, k2, by rw [l1]; exact k3, fun p hp => ?_⟩
    · have := q1.nil_iff.mp e
      subst this
      cases k4
    · obtain ⟨sm', st⟩ := sm.froze (o := .tup (List.replicate _ xs).flatten) hp
      refine h _ _ _ st sm' ⟨?_, p, _, rfl, .inl (.inl upd_same), RepDs.le st.1.1 _ ?_⟩
      · rw [rep_length]
        have : (1000 : Nat) * 1000 ≤ sizeLine := by decide
        exact Nat.le_trans (Nat.mul_le_mul (show _ ≤ 1000 by omega) k3) this
      · refine RepWs.unmap (g := g) ?_
        rw [map_rep]
        exact (RepWs.map q1).rep _
  · obtain ⟨k, h⟩ := h.guard
    simp only [Bool.and_eq_true, decide_eq_true_eq] at k
    obtain ⟨⟨k1, k2⟩, k3⟩ := k
    obtain ⟨z1, a1, xs, rfl, s1, q1⟩ := ra
    cases rb
    have l1 := q1.length
    cases rx
    obtain ⟨t, rfl⟩ := ry
    obtain ⟨its, n, r1, e1, _⟩ := LsR.got I sm.sub s1
    exact rep_lists I r1 e1 k1 k2 (by rw [l1]; exact k3) (made_list sm (by rw [rep_length, List.length_map, Nat.mul_comm]; exact k3) ((RepWs.map q1).rep _) h)
  · obtain ⟨k, h⟩ := h.guard
    simp only [divOk, Bool.and_eq_true, decide_eq_true_eq] at k
    rw [lim4_eq] at k
    cases ra; cases rb
    obtain ⟨t, rfl⟩ := rx
    obtain ⟨t', rfl⟩ := ry
    exact floordiv_int k.1 ⟨.int _, H, I.tok _, ⟨_, rfl⟩, h g _ H (.refl _ _) sm rfl⟩ (.inl (PyProof.noPylong_of_log2 (Nat.lt_of_lt_of_le (PySem.Flt.log2_lt_of (by decide) k.2) (by decide))))
  · obtain ⟨k, h⟩ := h.guard
    cases ra; cases rb
    exact op_modN pins s σ H _ _ v u Q I rx ry ⟨_, _, rfl, rfl, of_decide_eq_true k, h g _ H (.refl _ _) sm rfl⟩
  · obtain ⟨k, h⟩ := h.guard
    simp only [powOk, Bool.and_eq_true, decide_eq_true_eq] at k
    cases ra; cases rb
    exact op_pow pins s σ H _ _ v u Q I rx ry ⟨_, _, rfl, rfl, ⟨k.1.1, k.1.2, k.2⟩, h g _ H (.refl _ _) sm rfl⟩
  · exact h.elim

/-! ### data in the model's heap -/
/-- what is known of the machine at hand -/
structure Bk (X : Cx) : Prop where
  un : X.A.units + 130 < cLine
  clear : X.A.guards = some []
  calm : X.calm = true
  sys : ∃ o, X.base.get? sysModules = some o ∧ o.cls = .type "dict"
theorem RepKs.two {K : PySem.W.Frag} {h : Hp} : ∀ {kvs : List (PyData × PyData)} {es : List (Key × V)}, RepKs K h kvs es → RepDs K h (kvs.map (·.1)) (es.map fun q => kV q.1) ∧ RepDs K h (kvs.map (·.2)) (es.map (·.2))
  | [], _, r => by cases (show _ = [] from r); exact ⟨rfl, rfl⟩
  | (k, d) :: kvs, _, r => by
    obtain ⟨q, x, t, rfl, p0, p, z⟩ := r
    obtain ⟨i1, i2⟩ := RepKs.two z
    refine ⟨⟨_, _, rfl, ?_, i1⟩, ⟨_, _, rfl, p, i2⟩⟩
    cases k <;> first
      | (cases p0; rfl)
      | cases p0
mutual
theorem RepD.reads (I : Inv X pins σ H s) (bk : ∃ o, X.base.get? sysModules = some o ∧ o.cls = .type "dict") (l : HLe g.h H) : ∀ (d : PyData) {v : V} {u : Value}, RepD X.K g.h d v → RelV v u → ∃ as, Reads s.heap u d as ∧ sysModules ∉ as
  | .none, _, _, r, ru => by cases r; cases ru; exact ⟨_, .none, by simp⟩
  | .bool b, _, _, r, ru => by cases r; cases ru; exact ⟨_, .bool b, by simp⟩
  | .int i, _, _, r, ru => by cases r; obtain ⟨t, rfl⟩ := ru; exact ⟨_, .int i t, by simp⟩
  | .str x, _, _, r, ru => by cases r; obtain ⟨t, rfl⟩ := ru; exact ⟨_, .str x t, by simp⟩
  | .list ds, _, _, r, ru => by
    obtain ⟨z, a, xs, rfl, q, p⟩ := r
    cases ru
    obtain ⟨its, n, rv, ho, _⟩ := LsR.got I l q
    obtain ⟨as, hr, hn⟩ := RepDs.reads I bk l ds p rv
    refine ⟨_, .list ho rfl rfl (by simpa using hr), ?_⟩
    simp only [List.mem_cons, not_or]
    refine ⟨fun e => ?_, hn⟩
    obtain ⟨o, e1, e2⟩ := bk
    have := I.bk _ _ e1
    rw [e, ho] at this
    cases this
    exact absurd e2 (by simp)
  | .tuple ds, _, _, r, ru => by
    obtain ⟨z, a, xs, rfl, q, p⟩ := r
    cases ru
    obtain ⟨its, rv, ⟨o, ho, hc, n, hd⟩, _⟩ := I.tuple (SqT.le l q)
    obtain ⟨as, hr, hn⟩ := RepDs.reads I bk l ds p rv
    exact ⟨_, .tuple ho hc hd (by simpa using hr), hn⟩
  | .dict kvs, _, _, r, ru => by
    obtain ⟨a, es, rfl, q, p⟩ := r
    cases ru
    obtain ⟨z, hsm, vs, rkv, o, ens, ep, ho, hx, hd, _, hes, _⟩ := I.hok a _ (l _ _ q)
    obtain ⟨as, bs, h1, h2, n1, n2⟩ := RepKs.reads I bk l kvs p rkv hes
    refine ⟨_, .dict ho hx.1 hd h1 h2, ?_⟩
    have na : sysModules ≠ a := fun e => by rw [e] at hsm; simp at hsm
    simp [na, n1, n2]
theorem RepDs.reads (I : Inv X pins σ H s) (bk : ∃ o, X.base.get? sysModules = some o ∧ o.cls = .type "dict") (l : HLe g.h H) : ∀ (ds : List PyData) {xs : List V} {us : List Value}, RepDs X.K g.h ds xs → Vals xs us → ∃ as, ReadsAll s.heap us ds as ∧ sysModules ∉ as
  | [], _, _, r, ru => by cases (show _ = [] from r); cases ru; exact ⟨_, .nil, by simp⟩
  | d :: ds, _, _, r, ru => by
    obtain ⟨x, t, rfl, p, q⟩ := r
    cases ru with
    | cons r1 r2 =>
      obtain ⟨as, h1, n1⟩ := RepD.reads I bk l d p r1
      obtain ⟨bs, h2, n2⟩ := RepDs.reads I bk l ds q r2
      exact ⟨_, .cons h1 h2, by simp [n1, n2]⟩
theorem RepKs.reads (I : Inv X pins σ H s) (bk : ∃ o, X.base.get? sysModules = some o ∧ o.cls = .type "dict") (l : HLe g.h H) : ∀ (ds : List (PyData × PyData)) {xs : List (Key × V)} {us : List (Key × Value)} {es : List DictEntry}, RepKs X.K g.h ds xs → KV xs us →
    Pairs (mixKind X.prog X.w) es us → ∃ as bs, ReadsAll s.heap (es.map (·.key)) (ds.map (·.1)) as ∧ ReadsAll s.heap (es.map (·.val)) (ds.map (·.2)) bs ∧ sysModules ∉ as ∧ sysModules ∉ bs
  | [], _, _, _, r, ru, rp => by cases (show _ = [] from r); cases ru; cases rp; exact ⟨_, _, .nil, .nil, by simp, by simp⟩
  | (k, d) :: ds, _, _, _, r, ru, rp => by
    obtain ⟨q, x, t, rfl, p0, p, z⟩ := r
    cases ru with
    | cons r1 r2 =>
      cases rp with
      | cons e1 e2 e3 =>
        obtain ⟨as, bs, h1, h2, n1, n2⟩ := RepKs.reads I bk l ds z r2 e3
        obtain ⟨cs, h3, n3⟩ := RepD.reads I bk l d p r1.2
        rw [← e2] at h3
        obtain ⟨r11, _⟩ := r1
        have r11 : q = _ := r11
        rw [← r11] at e1
        rcases keyIs_shape e1 with ⟨i, tk, ei, ev⟩ | ⟨y, tk, ei, ev⟩
        · rw [ei] at p0
          cases k <;> first
            | cases p0
            | skip
          refine ⟨_, _, .cons (show Reads s.heap (DictEntry.key _) (.int i) [] by rw [ev]; exact .int i tk) h1, .cons h3 h2, by simp [n1], by simp [n2, n3]⟩
        · rw [ei] at p0
          cases k <;> first
            | cases p0
            | skip
          refine ⟨_, _, .cons (show Reads s.heap (DictEntry.key _) (.str y) [] by rw [ev]; exact .str y tk) h1, .cons h3 h2, by simp [n1], by simp [n2, n3]⟩
end
end
end Ev

-- part EvD2
set_option maxHeartbeats 200000
/-! EvD2: comparisons, truth, built-in functions. -/
namespace Ev
open PySem PySem.Spec PyProof.Rows L2

section
variable {X : Cx} {B : List Nat} {pins : List (Addr × Obj)} {σ : L2.St} {H : Hp} {s : Shared} {g : Gh} {S : Store}
theorem not_sys {a : Addr} {o : Obj} (I : Inv X pins σ H s) (bk : ∃ o, X.base.get? sysModules = some o ∧ o.cls = .type "dict") (ho : s.heap.get? a = some o) (hc : o.cls = .type "list") : sysModules ≠ a := fun e => by
  obtain ⟨o', e1, e2⟩ := bk
  have := I.bk _ _ e1
  rw [e, ho] at this
  cases this
  rw [hc] at e2
  exact absurd e2 (by simp)
theorem toD_same {w : W} {x : PyData} {S' : Store} (e : toD w S = .ok x S') : S' = S := by
  cases w with
  | d y => cases e; rfl
  | tup _ => cases e
  | fn _ => cases e
  | ref n =>
    have e : (match S[n]? with
      | some (.lst ws) => (match allData ws with
        | some xs => Out.ok (PyData.list xs) S
        | none => .bad)
      | _ => .bad) = .ok x S' := e
    split at e
    · split at e
      · cases e; rfl
      · cases e
    · cases e
theorem toD_got {w : W} {v : V} {u : Value} {x : PyData} {S' : Store} (bk : Bk X) (I : Inv X pins σ H s) (sm : Sim X.K B g S H) (r : RepW X.K g w v) (ru : RelV v u) (e : toD w S = .ok x S') : ∃ as, Reads s.heap u x as ∧ sysModules ∉ as := by
  cases w with
  | d y => cases e; exact RepD.reads I bk.sys sm.sub _ r ru
  | tup _ => cases e
  | fn _ => cases e
  | ref n =>
    have e : (match S[n]? with
      | some (.lst ws) => (match allData ws with
        | some xs => Out.ok (PyData.list xs) S
        | none => .bad)
      | _ => .bad) = .ok x S' := e
    obtain ⟨a, ea, rfl⟩ := r
    cases q : S[n]? with
    | none => rw [q] at e; cases e
    | some c =>
      rw [q] at e
      cases c with
      | gone => cases e
      | lst ws =>
        have e : (match allData ws with
          | some xs => Out.ok (PyData.list xs) S
          | none => .bad) = .ok x S' := e
        cases q2 : allData ws with
        | none => rw [q2] at e; cases e
        | some xs =>
          rw [q2] at e
          cases e
          obtain ⟨a', ys, em, _, z, hH, rw'⟩ := sm.cell n _ q
          rw [ea] at em; cases em
          have ew := allData_some q2
          subst ew
          obtain ⟨z2, its, n2, rv, ho⟩ := I.hok a _ hH
          cases ru
          obtain ⟨as, hr, hn⟩ := RepDs.reads I bk.sys sm.sub xs rw'.unmap rv
          refine ⟨_, .list ho rfl rfl (by simpa using hr), ?_⟩
          simp only [List.mem_cons, not_or]
          exact ⟨not_sys I bk.sys ho rfl, hn⟩
theorem PostR.toD {γ δ : Type} {K : PySem.W.Frag} {R' : Gh → γ → δ → Prop} {w : W} {f : PyData → M γ} {Q : δ → Hp → Prop} (h : PostR K B R' g H ((toD w >>= f) S) Q) : ∃ x, Ev.toD w S = .ok x S ∧ PostR K B R' g H (f x S) Q := by
  rw [bind_at] at h
  cases e : Ev.toD w S with
  | ok x S' =>
    have := toD_same e
    subst this
    rw [e] at h
    exact ⟨x, rfl, h⟩
  | exc _ _ _ => rw [e] at h; exact h.elim
  | bad => rw [e] at h; exact h.elim

/-! ### comparisons -/
abbrev RB : Gh → Bool → V → Prop := fun _ k v => v = .bl k
def rC (K : PySem.W.Frag) (B : List Nat) (F : W → W → M Bool) : R2 := fun x y H Q => ∃ g S a b, Sim K B g S H ∧ RepW K g a x ∧ RepW K g b y ∧ PostR K B RB g H (F a b S) Q
theorem readOf_eq {h : Heap} {v : Value} {d : PyData} {as : List Addr} (r : Reads h v d as) : SeqAt.readOf h v = d := by
  have hx : ∃ d as, Reads h v d as := ⟨d, as, r⟩
  unfold SeqAt.readOf
  rw [dif_pos hx]
  obtain ⟨as', r'⟩ := hx.choose_spec
  exact (reads_det (fun _ _ e _ => e) r r').1
theorem readOf_all {h : Heap} : ∀ {ds : List PyData} {vs : List Value} {as : List Addr}, ReadsAll h vs ds as → vs.map (SeqAt.readOf h) = ds ∧ ∀ v ∈ vs, ∃ d as', d ∈ ds ∧ Reads h v d as'
  | [], _, _, r => by cases r; exact ⟨rfl, fun _ z => nomatch z⟩
  | d :: ds, _, _, r => by
    cases r with
    | cons r1 r2 =>
      obtain ⟨i1, i2⟩ := readOf_all r2
      refine ⟨by rw [List.map_cons, readOf_eq r1, i1], fun v hv => ?_⟩
      rcases List.mem_cons.mp hv with z | z
      · subst z; exact ⟨d, _, List.mem_cons_self, r1⟩
      · obtain ⟨d', as', m, r'⟩ := i2 v z
        exact ⟨d', as', List.mem_cons_of_mem _ m, r'⟩
theorem bk_un1 (bk : Bk X) {n : Nat} (h : n ≤ 64) : X.A.in1.units + n < cLine := by
  have := bk.un
  show X.A.units + 1 + n < cLine
  omega
theorem items_in {x : PyData} {ys : List PyData} {u : Value} {its : List Value} {as bs : List Addr} (bk : Bk X) (rx : Reads s.heap u x as) (rys : ReadsAll s.heap its ys bs) (hk : (ys.all fun y => eqOk y x && decide (min y.depth x.depth ≤ 64)) = true) :
    (∀ y, y ∈ its.toArray → SeqAt.EqAt X.A.in1 s y u (PyData.eqv (SeqAt.readOf s.heap y) x)) ∧ (its.toArray.any fun y => PyData.eqv (SeqAt.readOf s.heap y) x) = ys.any fun y => y.eqv x := by
  obtain ⟨e1, e2⟩ := readOf_all rys
  refine ⟨fun y hy => ?_, ?_⟩
  · obtain ⟨d, as', m, r⟩ := e2 y (by simpa using hy)
    have k := List.all_eq_true.mp hk d m
    rw [Bool.and_eq_true, decide_eq_true_eq] at k
    rw [readOf_eq r]
    exact eqAt_x d x _ _ _ _ _ _ r rx k.1 (bk_un1 bk k.2)
  · rw [List.any_toArray, ← e1, List.any_map]
    rfl
theorem PostR.inM {γ δ : Type} {K : PySem.W.Frag} {R' : Gh → γ → δ → Prop} {x : PyData} {ys : List PyData} {f : Bool → M γ} {Q : δ → Hp → Prop} (h : PostR K B R' g H ((Ev.inM x ys >>= f) S) Q) :
    (ys.all fun y => eqOk y x && decide (min y.depth x.depth ≤ 64)) = true ∧ PostR K B R' g H (f (ys.any fun y => y.eqv x) S) Q := by
  rw [bind_at] at h
  unfold Ev.inM at h
  rw [bind_at, guard_at] at h
  cases e : (ys.all fun y => eqOk y x && decide (min y.depth x.depth ≤ 64)) with
  | true => rw [e] at h; exact ⟨rfl, h⟩
  | false => rw [e] at h; exact h.elim
theorem rep_non {K : PySem.W.Frag} {a : W} (r : RepW K g a .non) : a = .d .none := by
  cases a with
  | d y =>
    cases y with
    | none => rfl
    | bool k => cases (show V.non = V.bl k from r)
    | int k => cases (show V.non = V.int k from r)
    | str k => cases (show V.non = V.str k from r)
    | list ds => obtain ⟨_, _, _, z, _⟩ := r; cases z
    | tuple ds => obtain ⟨_, _, _, z, _⟩ := r; cases z
    | dict ds => obtain ⟨_, _, z, _⟩ := r; cases z
  | ref n => obtain ⟨_, _, z⟩ := r; cases z
  | tup ws => obtain ⟨_, _, _, z, _⟩ := r; cases z
  | fn i => exact r.elim
theorem op_cmp (bk : Bk X) (op : CmpOp) : OpR X (compareOp op) (rC X.K B (cmpop op)) := by
  intro pins s σ H x y v u Q I rx ry ⟨g, S, a, b, sm, ra, rb, h⟩
  have fb : ∀ {k : Bool}, Q (.bl k) H → EP X pins σ Q (.bool k) s := fun q => ⟨.bl _, H, I, rfl, q⟩
  unfold cmpop at h
  split at h
  · obtain ⟨dx, e1, h⟩ := h.toD
    obtain ⟨dy, e2, h⟩ := h.toD
    obtain ⟨k, h⟩ := h.guard
    rw [Bool.and_eq_true, decide_eq_true_eq] at k
    obtain ⟨as, r1, _⟩ := toD_got bk I sm ra rx e1
    obtain ⟨bs, r2, _⟩ := toD_got bk I sm rb ry e2
    exact rcAt_x r1 r2 k.1 (by have := bk.un; omega) _ _ _ _ (fb (h g _ H (.refl _ _) sm rfl))
  · obtain ⟨dx, e1, h⟩ := h.toD
    obtain ⟨dy, e2, h⟩ := h.toD
    obtain ⟨k, h⟩ := h.guard
    simp only [Bool.and_eq_true, decide_eq_true_eq] at k
    obtain ⟨as, r1, _⟩ := toD_got bk I sm ra rx e1
    obtain ⟨bs, r2, _⟩ := toD_got bk I sm rb ry e2
    exact SeqAt.ne_plain r1 r2 k.1.1 k.1.2 (by have := bk.un; omega) (fb (h g _ H (.refl _ _) sm rfl))
  · cases ra; cases rb
    exact op_lt pins s σ H _ _ v u Q I rx ry ⟨_, _, rfl, rfl, h g _ H (.refl _ _) sm rfl⟩
  · cases ra; cases rb
    exact op_le pins s σ H _ _ v u Q I rx ry ⟨_, _, rfl, rfl, h g _ H (.refl _ _) sm rfl⟩
  · cases ra; cases rb
    exact op_gt pins s σ H _ _ v u Q I rx ry ⟨_, _, rfl, rfl, h g _ H (.refl _ _) sm rfl⟩
  · cases ra; cases rb
    exact op_ge pins s σ H _ _ v u Q I rx ry ⟨_, _, rfl, rfl, h g _ H (.refl _ _) sm rfl⟩
  · cases rb
    refine op_isN pins s σ H _ _ v u Q I rx ry ⟨rfl, ?_⟩
    split at h
    · cases ra
      exact h g _ H (.refl _ _) sm rfl
    · rename_i hne
      have : x ≠ .non := fun e => by
        subst e
        exact hne (rep_non ra)
      rw [decide_eq_false this]
      exact h g _ H (.refl _ _) sm rfl
  · cases rb
    refine op_notN pins s σ H _ _ v u Q I rx ry ⟨rfl, ?_⟩
    split at h
    · cases ra
      exact h g _ H (.refl _ _) sm rfl
    · rename_i hne
      have : x ≠ .non := fun e => by
        subst e
        exact hne (rep_non ra)
      rw [decide_eq_false this]
      exact h g _ H (.refl _ _) sm rfl
  · cases ra; cases rb
    exact op_in_str pins s σ H _ _ v u Q I rx ry ⟨_, _, rfl, rfl, h g _ H (.refl _ _) sm rfl⟩
  · cases ra; cases rb
    exact op_notin_str pins s σ H _ _ v u Q I rx ry ⟨_, _, rfl, rfl, h g _ H (.refl _ _) sm rfl⟩
  · obtain ⟨dx, e1, h⟩ := h.toD
    obtain ⟨k, h⟩ := h.guard
    obtain ⟨as, r1, _⟩ := toD_got bk I sm ra rx e1
    obtain ⟨z, p, xs, rfl, l, q⟩ := rb
    cases ry
    obtain ⟨its, n, rv, ho, _⟩ := LsR.got I sm.sub l
    obtain ⟨bs, r2, _⟩ := RepDs.reads I bk.sys sm.sub _ q rv
    obtain ⟨i1, i2⟩ := items_in bk r1 r2 k
    refine SeqAt.in_listAt _ ⟨_, ho, rfl, n, rfl⟩ i1 ?_
    rw [i2]
    exact fb (h g _ H (.refl _ _) sm rfl)
  · obtain ⟨dx, e1, h⟩ := h.toD
    obtain ⟨k, h⟩ := h.guard
    obtain ⟨as, r1, _⟩ := toD_got bk I sm ra rx e1
    obtain ⟨z, p, xs, rfl, l, q⟩ := rb
    cases ry
    obtain ⟨its, rv, ho, _⟩ := I.tuple (SqT.le sm.sub l)
    obtain ⟨bs, r2, _⟩ := RepDs.reads I bk.sys sm.sub _ q rv
    obtain ⟨i1, i2⟩ := items_in bk r1 r2 k
    refine SeqAt.in_tupleAt _ ho i1 ?_
    rw [i2]
    exact fb (h g _ H (.refl _ _) sm rfl)
  · obtain ⟨dx, e1, h⟩ := h.toD
    obtain ⟨k, h⟩ := h.inM
    obtain ⟨as, r1, _⟩ := toD_got bk I sm ra rx e1
    obtain ⟨z, p, xs, rfl, l, q⟩ := rb
    cases ry
    obtain ⟨its, n, rv, ho, _⟩ := LsR.got I sm.sub l
    obtain ⟨bs, r2, _⟩ := RepDs.reads I bk.sys sm.sub _ q rv
    obtain ⟨i1, i2⟩ := items_in bk r1 r2 k
    refine SeqAt.notIn_listAt _ ⟨_, ho, rfl, n, rfl⟩ i1 ?_
    rw [i2]
    exact fb (h g _ H (.refl _ _) sm rfl)
  · obtain ⟨dx, e1, h⟩ := h.toD
    obtain ⟨k, h⟩ := h.inM
    obtain ⟨as, r1, _⟩ := toD_got bk I sm ra rx e1
    obtain ⟨z, p, xs, rfl, l, q⟩ := rb
    cases ry
    obtain ⟨its, rv, ho, _⟩ := I.tuple (SqT.le sm.sub l)
    obtain ⟨bs, r2, _⟩ := RepDs.reads I bk.sys sm.sub _ q rv
    obtain ⟨i1, i2⟩ := items_in bk r1 r2 k
    refine SeqAt.notIn_tupleAt _ ho i1 ?_
    rw [i2]
    exact fb (h g _ H (.refl _ _) sm rfl)
  · exact h.elim

/-! ### truth -/
abbrev REq {α : Type} : Gh → α → α → Prop := fun _ a b => b = a
def rT (K : PySem.W.Frag) (B : List Nat) : V → Hp → (Bool → Hp → Prop) → Prop := fun x H Q => ∃ g S a, Sim K B g S H ∧ RepW K g a x ∧ PostR K B REq g H (truthW a S) Q
theorem emp_len {α β : Type} {xs : List α} {ys : List β} (h : xs.length = ys.length) : (!xs.isEmpty) = !ys.isEmpty := by
  cases xs <;> cases ys <;> first
    | rfl
    | cases h
theorem tru_w : TruR X (rT X.K B) := by
  intro pins s σ H x v Q I rx ⟨g, S, a, sm, ra, h⟩
  refine tru_ok pins s σ H x v Q I rx ?_
  cases a with
  | d y =>
    have h : PostR X.K B REq g H (truthD y S) Q := h
    cases y with
    | none => cases ra; exact ⟨_, rfl, h g _ H (.refl _ _) sm rfl⟩
    | bool k => cases ra; exact ⟨_, rfl, h g _ H (.refl _ _) sm rfl⟩
    | int i => cases ra; exact ⟨_, rfl, h g _ H (.refl _ _) sm rfl⟩
    | str z =>
      obtain ⟨k, h⟩ := PostR.guard (f := fun _ => (pure _ : M Bool)) h
      cases ra; exact ⟨_, ⟨of_decide_eq_true k, rfl⟩, h g _ H (.refl _ _) sm rfl⟩
    | list ds =>
      obtain ⟨z, p, xs, rfl, l, q⟩ := ra
      refine ⟨_, .inl ⟨xs, SqL.le sm.sub l.sq, emp_len q.length.symm⟩, h g _ H (.refl _ _) sm rfl⟩
    | tuple ds =>
      obtain ⟨z, p, xs, rfl, l, q⟩ := ra
      refine ⟨_, .inr (.inl ⟨xs, SqT.le sm.sub l, emp_len q.length.symm⟩), h g _ H (.refl _ _) sm rfl⟩
    | dict _ => exact h.elim
  | ref n =>
    obtain ⟨ws, e, h⟩ := PostR.seq (f := fun ws => (pure (!ws.isEmpty) : M Bool)) h
    obtain ⟨z, a, xs, its, m, rfl, q, _, _, hH, _, _⟩ := list_got I sm ra e
    refine ⟨_, .inl ⟨xs, SqL.of hH, emp_len q.length.symm⟩, h g _ H (.refl _ _) sm rfl⟩
  | tup ws =>
    obtain ⟨z, p, xs, rfl, l, q⟩ := ra
    refine ⟨_, .inr (.inl ⟨xs, SqT.le sm.sub l, emp_len q.length.symm⟩), PostR.pure (R' := REq) (a := !ws.isEmpty) h g _ H (.refl _ _) sm rfl⟩
  | fn i => exact ra.elim
end
end Ev

-- part EvD3
set_option maxHeartbeats 200000
/-! EvD3: built-in functions, methods, subscripts, slices. -/
namespace Ev
open PySem PySem.Spec PyProof.Rows L2

section
variable {X : Cx} {B : List Nat} {pins : List (Addr × Obj)} {σ : L2.St} {H : Hp} {s : Shared} {g : Gh} {S : Store} {own : Bool}
theorem RepWs.one {K : PySem.W.Frag} {w : W} {vs : List V} (r : RepWs K g [w] vs) : ∃ x, vs = [x] ∧ RepW K g w x := by
  obtain ⟨x, t, rfl, p, q⟩ := r
  cases (show t = [] from q)
  exact ⟨x, rfl, p⟩
theorem RepWs.two {K : PySem.W.Frag} {w w' : W} {vs : List V} (r : RepWs K g [w, w'] vs) : ∃ x y, vs = [x, y] ∧ RepW K g w x ∧ RepW K g w' y := by
  obtain ⟨x, t, rfl, p, q⟩ := r
  obtain ⟨y, rfl, q2⟩ := RepWs.one q
  exact ⟨x, y, rfl, p, q2⟩
theorem RepW.mk {K : PySem.W.Frag} {ws : List W} {v : V} (r : RepW K g (.tup ws) v) : RepW K g (mkTup ws) v := by
  unfold mkTup
  cases e : allData ws with
  | none => exact r
  | some ds =>
    have ew := allData_some e
    subst ew
    obtain ⟨z, a, xs, ev, l, q⟩ := r
    exact ⟨by simpa using z, a, xs, ev, l, RepWs.unmap q⟩
theorem mkTup_map (ds : List PyData) : mkTup (ds.map .d) = .d (.tuple ds) := by
  unfold mkTup
  rw [allData_map]
def rBl (K : PySem.W.Frag) (B : List Nat) (own : Bool) (b : Blt) : List V → Hp → VK → Prop := fun vs H Q => ∃ g S ws, Sim K B g S H ∧ RepWs K g ws vs ∧ PostR K B (RepW K) g H (bltin own b ws S) Q
/-- a list, or a tuple that stays -/
theorem seq_cases {w : W} {v : V} {ws : List W} {S' : Store} (I : Inv X pins σ H s) (x : Sim X.K B g S H) (r : RepW X.K g w v) (e : seqW w S = .ok ws S') : ws.length ≤ sizeLine ∧ ∃ a xs, v = .ref a ∧ RepWs X.K g ws xs ∧
    (SqL X.K H a xs ∨ (SqT X.K H a xs ∧ RepW X.K g (mkTup ws) v)) := by
  cases w with
  | d x0 =>
    cases x0 with
    | list ds =>
      cases e
      obtain ⟨z, a, xs, ev, l, q⟩ := r
      exact ⟨by simpa using z, a, xs, ev, RepWs.map q, .inl (SqL.le x.sub l.sq)⟩
    | tuple ds =>
      cases e
      have r0 := r
      obtain ⟨z, a, xs, ev, l, q⟩ := r
      exact ⟨by simpa using z, a, xs, ev, RepWs.map q, .inr ⟨SqT.le x.sub l, by rw [mkTup_map]; exact r0⟩⟩
    | _ => cases e
  | tup us =>
    cases e
    have r0 := r
    obtain ⟨z, a, xs, ev, l, q⟩ := r
    exact ⟨z, a, xs, ev, q, .inr ⟨SqT.le x.sub l, r0.mk⟩⟩
  | fn i => cases e
  | ref n =>
    have := seqW_same e
    subst this
    obtain ⟨z, a, xs, its, m, rfl, q, _, _, hH, _, _⟩ := list_got I x r e
    exact ⟨z, a, xs, rfl, q, .inl (SqL.of hH)⟩
theorem PostR.listW {γ δ : Type} {K : PySem.W.Frag} {R' : Gh → γ → δ → Prop} {w : W} {f : List W → M γ} {Q : δ → Hp → Prop} (h : PostR K B R' g H ((Ev.listW w >>= f) S) Q) : ∃ ws, seqW w S = .ok ws S ∧ (∀ ds, w ≠ .d (.tuple ds)) ∧ (∀ us, w ≠ .tup us) ∧ PostR K B R' g H (f ws S) Q := by
  cases w with
  | d x =>
    cases x with
    | list ds => exact ⟨_, rfl, (fun _ e => by cases e), (fun _ e => by cases e), h⟩
    | _ => exact h.elim
  | ref n =>
    have h : PostR K B R' g H ((seqW (.ref n) >>= f) S) Q := h
    obtain ⟨ws, e, h⟩ := h.seq
    exact ⟨ws, e, (fun _ e => by cases e), (fun _ e => by cases e), h⟩
  | tup us => exact h.elim
  | fn i => exact h.elim
theorem sqL_got {w : W} {v : V} {ws : List W} (I : Inv X pins σ H s) (x : Sim X.K B g S H) (r : RepW X.K g w v) (e : seqW w S = .ok ws S) (n1 : ∀ ds, w ≠ .d (.tuple ds)) (n2 : ∀ us, w ≠ .tup us) :
    ∃ a xs, v = .ref a ∧ RepWs X.K g ws xs ∧ SqL X.K H a xs := by
  cases w with
  | d x0 =>
    cases x0 with
    | list ds =>
      cases e
      obtain ⟨z, a, xs, ev, l, q⟩ := r
      exact ⟨a, xs, ev, RepWs.map q, SqL.le x.sub l.sq⟩
    | tuple ds => exact absurd rfl (n1 _)
    | _ => cases e
  | tup us => exact absurd rfl (n2 _)
  | fn i => cases e
  | ref n =>
    obtain ⟨z, a, xs, its, m, rfl, q, _, _, hH, _, _⟩ := list_got I x r e
    exact ⟨a, xs, rfl, q, SqL.of hH⟩
theorem ints_of {K : PySem.W.Frag} : ∀ {ws : List W} {ns : List Int} {xs : List V}, intsOf ws = some ns → RepWs K g ws xs → xs = ns.map V.int
  | [], _, _, e, r => by cases e; exact r
  | w :: ws, ns, _, e, r => by
    obtain ⟨x, t, rfl, p, q⟩ := r
    cases w with
    | d y =>
      cases y with
      | int i =>
        have e : (intsOf ws).map (i :: ·) = some ns := e
        cases z : intsOf ws with
        | none => rw [z] at e; cases e
        | some ms =>
          rw [z] at e
          cases e
          rw [ints_of z q, show x = V.int i from p]
          rfl
      | _ => cases e
    | _ => cases e
theorem bools_of {K : PySem.W.Frag} : ∀ {ws : List W} {ns : List Bool} {xs : List V}, boolsOf ws = some ns → RepWs K g ws xs → xs = ns.map V.bl
  | [], _, _, e, r => by cases e; exact r
  | w :: ws, ns, _, e, r => by
    obtain ⟨x, t, rfl, p, q⟩ := r
    cases w with
    | d y =>
      cases y with
      | bool i =>
        have e : (boolsOf ws).map (i :: ·) = some ns := e
        cases z : boolsOf ws with
        | none => rw [z] at e; cases e
        | some ms =>
          rw [z] at e
          cases e
          rw [bools_of z q, show x = V.bl i from p]
          rfl
      | _ => cases e
    | _ => cases e

theorem blt_sum (bk : Bk X) : CallR X (.builtin "sum") (rBl X.K B own .sum) := by
  intro pins s σ H vs us Q I r ⟨g, S, ws, sm, rw', h⟩
  match ws, rw', h with
  | [w], rw', h =>
    obtain ⟨x, rfl, rx⟩ := rw'.one
    have h : PostR X.K B (RepW X.K) g H ((Ev.listW w >>= fun ws => do let ns ← lift (intsOf ws); pure (.d (.int ns.sum))) S) Q := h
    obtain ⟨ws, e, n1, n2, h⟩ := h.listW
    obtain ⟨ns, e2, h⟩ := h.lift
    obtain ⟨a, xs, rfl, q, l⟩ := sqL_got I sm rx e n1 n2
    have := ints_of e2 q
    subst this
    exact cr_sum bk.calm pins s σ H _ us Q I r ⟨a, ns, rfl, l, h g _ H (.refl _ _) sm rfl⟩
  | [], _, h => exact h.elim
  | _ :: _ :: _, _, h => exact h.elim
theorem blt_all (bk : Bk X) : CallR X (.builtin "all") (rBl X.K B own .all) := by
  intro pins s σ H vs us Q I r ⟨g, S, ws, sm, rw', h⟩
  match ws, rw', h with
  | [w], rw', h =>
    obtain ⟨x, rfl, rx⟩ := rw'.one
    have h : PostR X.K B (RepW X.K) g H ((Ev.listW w >>= fun ws => do let ns ← lift (boolsOf ws); pure (.d (.bool (ns.all id)))) S) Q := h
    obtain ⟨ws, e, n1, n2, h⟩ := h.listW
    obtain ⟨ns, e2, h⟩ := h.lift
    obtain ⟨a, xs, rfl, q, l⟩ := sqL_got I sm rx e n1 n2
    have := bools_of e2 q
    subst this
    exact cr_all bk.calm pins s σ H _ us Q I r ⟨a, ns, rfl, l, h g _ H (.refl _ _) sm rfl⟩
  | [], _, h => exact h.elim
  | _ :: _ :: _, _, h => exact h.elim
theorem blt_any (bk : Bk X) : CallR X (.builtin "any") (rBl X.K B own .any) := by
  intro pins s σ H vs us Q I r ⟨g, S, ws, sm, rw', h⟩
  match ws, rw', h with
  | [w], rw', h =>
    obtain ⟨x, rfl, rx⟩ := rw'.one
    have h : PostR X.K B (RepW X.K) g H ((Ev.listW w >>= fun ws => do let ns ← lift (boolsOf ws); pure (.d (.bool (ns.any id)))) S) Q := h
    obtain ⟨ws, e, n1, n2, h⟩ := h.listW
    obtain ⟨ns, e2, h⟩ := h.lift
    obtain ⟨a, xs, rfl, q, l⟩ := sqL_got I sm rx e n1 n2
    have := bools_of e2 q
    subst this
    exact cr_any bk.calm pins s σ H _ us Q I r ⟨a, ns, rfl, l, h g _ H (.refl _ _) sm rfl⟩
  | [], _, h => exact h.elim
  | _ :: _ :: _, _, h => exact h.elim
theorem blt_len : CallR X (.builtin "len") (rBl X.K B own .len) := by
  intro pins s σ H vs us Q I r ⟨g, S, ws, sm, rw', h⟩
  match ws, rw', h with
  | [w], rw', h =>
    obtain ⟨x, rfl, rx⟩ := rw'.one
    have h : PostR X.K B (RepW X.K) g H ((lenW w >>= fun n => pure (.d (.int n))) S) Q := h
    by_cases hs : ∃ z, w = .d (.str z)
    · obtain ⟨z, rfl⟩ := hs
      have h : PostR X.K B (RepW X.K) g H ((guard (decide (z.length ≤ sizeLine)) >>= fun _ => pure (.d (.int z.length))) S) Q := by
        have e0 : lenW (.d (.str z)) = (guard (decide (z.length ≤ sizeLine)) >>= fun _ => pure z.length) := rfl
        rw [e0] at h
        rw [bind_at, guard_at]
        rw [bind_at, bind_at, guard_at] at h
        cases e : decide (z.length ≤ sizeLine) with
        | true => rw [e] at h; exact h
        | false => rw [e] at h; exact h
      obtain ⟨k, h⟩ := h.guard
      cases rx
      exact call_len pins s σ H _ us Q I r ⟨_, _, rfl, ⟨of_decide_eq_true k, rfl⟩, h g _ H (.refl _ _) sm rfl⟩
    · have e0 : lenW w = (seqW w >>= fun ws => pure ws.length) := by
        unfold lenW
        split
        · exact absurd ⟨_, rfl⟩ hs
        · rfl
      rw [e0] at h
      have h : PostR X.K B (RepW X.K) g H ((seqW w >>= fun ws => pure (.d (.int ws.length))) S) Q := by
        rw [bind_at] at h ⊢
        rw [bind_at] at h
        cases e : seqW w S with
        | ok ws S' => rw [e] at h; exact h
        | exc _ _ _ => rw [e] at h; exact h
        | bad => rw [e] at h; exact h
      obtain ⟨ws, e, h⟩ := h.seq
      obtain ⟨_, a, xs, rfl, q, l⟩ := seq_cases I sm rx e
      refine call_len pins s σ H _ us Q I r ⟨_, ws.length, rfl, ?_, h g _ H (.refl _ _) sm rfl⟩
      rcases l with l | ⟨l, _⟩
      · exact .inl ⟨xs, l, q.length.symm⟩
      · exact .inr ⟨xs, l, q.length.symm⟩
  | [], _, h => exact h.elim
  | _ :: _ :: _, _, h => exact h.elim
theorem blt_list : CallR X (.type "list") (rBl X.K B own .listOf) := by
  intro pins s σ H vs us Q I r ⟨g, S, ws, sm, rw', h⟩
  match ws, rw', h with
  | [w], rw', h =>
    obtain ⟨x, rfl, rx⟩ := rw'.one
    have h : PostR X.K B (RepW X.K) g H ((seqW w >>= fun ws => mkLst own ws) S) Q := h
    obtain ⟨ws, e, h⟩ := h.seq
    obtain ⟨hz, a, xs, rfl, q, l⟩ := seq_cases I sm rx e
    refine call_list_of pins s σ H _ us Q I r ⟨a, xs, rfl, ?_, made_list sm hz q h⟩
    rcases l with l | ⟨l, _⟩
    · exact .inl l
    · exact .inr l
  | [], _, h => exact h.elim
  | _ :: _ :: _, _, h => exact h.elim
theorem blt_tuple : CallR X (.type "tuple") (rBl X.K B own .tupleOf) := by
  intro pins s σ H vs us Q I r ⟨g, S, ws, sm, rw', h⟩
  match ws, rw', h with
  | [w], rw', h =>
    obtain ⟨x, rfl, rx⟩ := rw'.one
    have h : PostR X.K B (RepW X.K) g H ((seqW w >>= fun ws => pure (mkTup ws)) S) Q := h
    obtain ⟨ws, e, h⟩ := h.seq
    obtain ⟨hz, a, xs, rfl, q, l⟩ := seq_cases I sm rx e
    refine call_tuple_of pins s σ H _ us Q I r ⟨a, xs, rfl, ?_⟩
    rcases l with l | ⟨l, l2⟩
    · refine .inl ⟨l, fun p hp => ?_⟩
      obtain ⟨g', sm', st, rp⟩ := made_tup sm hz q hp
      exact h g' _ _ st sm' rp
    · exact .inr ⟨l, h g _ H (.refl _ _) sm l2⟩
  | [], _, h => exact h.elim
  | _ :: _ :: _, _, h => exact h.elim
theorem blt_int1 : CallR X (.type "int") (rBl X.K B own .int1) := by
  intro pins s σ H vs us Q I r ⟨g, S, ws, sm, rw', h⟩
  generalize hb : Blt.int1 = b at h
  unfold bltin at h
  split at h <;> try (cases hb; done)
  · obtain ⟨x, rfl, rx⟩ := rw'.one
    cases rx
    exact call_int1 pins s σ H _ us Q I r (.inl ⟨_, rfl, h g _ H (.refl _ _) sm rfl⟩)
  · obtain ⟨x, rfl, rx⟩ := rw'.one
    cases rx
    exact call_int1 pins s σ H _ us Q I r (.inr ⟨_, rfl, h g _ H (.refl _ _) sm rfl⟩)
  · exact h.elim
theorem blt_bool1 : CallR X (.type "bool") (rBl X.K B own .bool1) := by
  intro pins s σ H vs us Q I r ⟨g, S, ws, sm, rw', h⟩
  generalize hb : Blt.bool1 = b at h
  unfold bltin at h
  split at h <;> try (cases hb; done)
  · obtain ⟨x, rfl, rx⟩ := rw'.one
    cases rx
    exact call_bool1 pins s σ H _ us Q I r (.inl ⟨_, rfl, h g _ H (.refl _ _) sm rfl⟩)
  · obtain ⟨x, rfl, rx⟩ := rw'.one
    cases rx
    exact call_bool1 pins s σ H _ us Q I r (.inr ⟨_, rfl, h g _ H (.refl _ _) sm rfl⟩)
  · exact h.elim
theorem blt_min2 (bk : Bk X) : CallR X (.builtin "min") (rBl X.K B own .min2) := by
  intro pins s σ H vs us Q I r ⟨g, S, ws, sm, rw', h⟩
  generalize hb : Blt.min2 = b at h
  unfold bltin at h
  split at h <;> try (cases hb; done)
  · obtain ⟨x, y, rfl, rx, ry⟩ := rw'.two
    cases rx; cases ry
    exact call_min2 bk.calm pins s σ H _ us Q I r ⟨_, _, rfl, h g _ H (.refl _ _) sm rfl⟩
  · exact h.elim
theorem blt_max2 (bk : Bk X) : CallR X (.builtin "max") (rBl X.K B own .max2) := by
  intro pins s σ H vs us Q I r ⟨g, S, ws, sm, rw', h⟩
  generalize hb : Blt.max2 = b at h
  unfold bltin at h
  split at h <;> try (cases hb; done)
  · obtain ⟨x, y, rfl, rx, ry⟩ := rw'.two
    cases rx; cases ry
    exact call_max2 bk.calm pins s σ H _ us Q I r ⟨_, _, rfl, h g _ H (.refl _ _) sm rfl⟩
  · exact h.elim
theorem blt_abs : CallR X (.builtin "abs") (rBl X.K B own .abs) := by
  intro pins s σ H vs us Q I r ⟨g, S, ws, sm, rw', h⟩
  generalize hb : Blt.abs = b at h
  unfold bltin at h
  split at h <;> try (cases hb; done)
  · obtain ⟨x, rfl, rx⟩ := rw'.one
    cases rx
    exact call_abs pins s σ H _ us Q I r ⟨_, rfl, h g _ H (.refl _ _) sm rfl⟩
  · exact h.elim
theorem blt_str1 : CallR X (.type "str") (rBl X.K B own .str1) := by
  intro pins s σ H vs us Q I r ⟨g, S, ws, sm, rw', h⟩
  generalize hb : Blt.str1 = b at h
  unfold bltin at h
  split at h <;> try (cases hb; done)
  · obtain ⟨k, h⟩ := h.guard
    obtain ⟨x, rfl, rx⟩ := rw'.one
    cases rx
    exact call_str_int pins s σ H _ us Q I r ⟨_, rfl, of_decide_eq_true k, h g _ H (.refl _ _) sm rfl⟩
  · exact h.elim
theorem blt_repr (bk : Bk X) : CallR X (.builtin "repr") (rBl X.K B own .repr) := by
  intro pins s σ H vs us Q I r ⟨g, S, ws, sm, rw', h⟩
  generalize hb : Blt.repr = b at h
  unfold bltin at h
  split at h <;> try (cases hb; done)
  · obtain ⟨x, e, h⟩ := h.toD
    obtain ⟨k, h⟩ := h.guard
    simp only [Bool.and_eq_true, decide_eq_true_eq] at k
    obtain ⟨⟨k1, k2⟩, k3⟩ := k
    obtain ⟨v, rfl, rx⟩ := rw'.one
    obtain ⟨u, rfl, ru⟩ := vals1 r
    obtain ⟨as, rd, hn⟩ := toD_got bk I sm rx ru e
    have q := h g _ H (.refl _ _) sm rfl
    have fin : ∀ {t : Tok} {h' : Heap} {t' : Nat}, (∀ b o, s.heap.get? b = some o → h'.get? b = some o) → EP X pins σ Q (.str x.shown t) { s with heap := h', toks := t' } := fun kp => ⟨.str _, H, I.kept kp, ⟨_, rfl⟩, q⟩
    have big : ∀ {a : Addr}, u = .ref a → wpAny (model X.prog X.w) X.A (call (.builtin "repr") [u]) (EP X pins σ Q) X.xe s := fun e => by
      subst e
      exact repr_of_reads' rd k1 (fun _ => hn) bk.clear (by have := bk.un; omega) (fun _ _ z => z) (fun h' u tk kp => fin kp) k2
    cases rd with
    | none => exact PySem.P.repr_of_none (fin fun _ _ z => z)
    | bool b => exact PySem.P.repr_of_bool (fin fun _ _ z => z)
    | int i t => exact PySem.P.repr_of_int (by simpa [PyData.showable] using k1) (fin fun _ _ z => z)
    | str y t => exact PySem.P.repr_of_str (fin fun _ _ z => z) (hsz := k2)
    | list _ _ _ _ => exact big rfl
    | tuple _ _ _ _ => exact big rfl
    | dict _ _ _ _ _ => exact big rfl
  · exact h.elim
def tyName : Ty → String
  | .int => "int"
  | .bool => "bool"
  | .str => "str"
  | .tup => "tuple"
  | .lst => "list"
  | .dct => "dict"
theorem blt_isa (bk : Bk X) (t : Ty) : CallR X (.builtin "isinstance") (fun vs H Q => ∃ x, vs = [x, .ty (tyName t)] ∧ rBl X.K B own (.isa t) [x] H Q) := by
  rintro pins s σ H vs us Q I r ⟨x, rfl, g, S, ws, sm, rw', h⟩
  obtain ⟨u, w2, rfl, ru, rt⟩ := vals2 r
  cases rt
  generalize hb : Blt.isa t = b at h
  unfold bltin at h
  split at h <;> try (cases hb; done)
  · rename_i t' w
    cases hb
    obtain ⟨v, ev, rx⟩ := rw'.one
    cases ev
    cases w with
    | d y =>
      obtain ⟨as, rd, _⟩ := RepD.reads I bk.sys sm.sub _ rx ru
      have q := h g _ H (.refl _ _) sm rfl
      have fin : ∀ {tk : Nat}, EP X pins σ Q (.bool (isaD t y)) { s with toks := tk } := ⟨.bl _, H, I.tok _, rfl, q⟩
      cases t with
      | int => exact PySem.W.isinstance_int_data rd fun _ _ => fin
      | bool => exact PySem.W.isinstance_bool_data rd fun _ _ => fin
      | str => exact PySem.W.isinstance_str_data rd fun _ _ => fin
      | tup => exact PySem.W.isinstance_tuple_data rd fun _ _ => fin
      | lst => exact PySem.W.isinstance_list_data rd fun _ _ => fin
      | dct => exact PySem.W.isinstance_dict_data rd fun _ _ => fin
    | ref n =>
      have h : PostR X.K B (RepW X.K) g H ((seqW (.ref n) >>= fun _ => pure (.d (.bool (decide (t = .lst))))) S) Q := by
        have e0 : isaW t (.ref n) = (seqW (.ref n) >>= fun _ => pure (decide (t = .lst))) := rfl
        rw [e0, bind_at, bind_at] at h
        rw [bind_at]
        cases e : seqW (.ref n) S with
        | ok ws S' => rw [e] at h; exact h
        | exc _ _ _ => rw [e] at h; exact h
        | bad => rw [e] at h; exact h
      obtain ⟨ws, e, h⟩ := h.seq
      obtain ⟨z, a, xs, its, m, rfl, q', _, _, hH, _, _⟩ := list_got I sm rx e
      have q := h g _ H (.refl _ _) sm rfl
      have fin : ∀ {tk : Nat}, EP X pins σ Q (.bool (decide (t = .lst))) { s with toks := tk } := ⟨.bl _, H, I.tok _, rfl, q⟩
      cases t <;> exact isinst_ok I ru (.lst hH) rfl fun _ => fin
    | tup _ => exact h.elim
    | fn _ => exact h.elim
  · exact h.elim
end
end Ev

-- part EvD4
set_option maxHeartbeats 200000
/-! EvD4: methods, subscripts, slices, stores. -/
namespace Ev
open PySem PySem.Spec PyProof.Rows L2

section
variable {X : Cx} {B : List Nat} {pins : List (Addr × Obj)} {σ : L2.St} {H : Hp} {s : Shared} {g : Gh} {S : Store} {own : Bool} {b : Nat}
theorem RepWs.atI {K : PySem.W.Frag} {ws : List W} {xs : List V} {i : Int} {w : W} (r : RepWs K g ws xs) (e : L2.atI ws i = some w) : ∃ v, L2.atI xs i = some v ∧ RepW K g w v := by
  unfold L2.atI at e ⊢
  rw [r.length]
  cases q : ixN ws.length i with
  | none => rw [q] at e; cases e
  | some j =>
    rw [q] at e
    exact r.get e
def rIw (K : PySem.W.Frag) (B : List Nat) : R2 := fun x y H Q => ∃ g S a b, Sim K B g S H ∧ RepW K g a x ∧ RepW K g b y ∧ PostR K B (RepW K) g H (subW a b S) Q
theorem ix_w : IxR X (rIw X.K B) := by
  intro value slice pins s σ H x y v u Q I rx ry ⟨g, S, a, b, sm, ra, rb, h⟩ hs
  unfold subW at h
  split at h
  · obtain ⟨k, h⟩ := h.guard
    obtain ⟨c, e, h⟩ := h.lift
    cases ra; cases rb
    exact ix_str value slice pins s σ H _ _ v u Q I rx ry ⟨_, _, c, rfl, rfl, of_decide_eq_true k, e, h g _ H (.refl _ _) sm rfl⟩ hs
  · obtain ⟨ws, e, h⟩ := h.seq
    cases rb
    obtain ⟨z, p, xs, rfl, q, l⟩ := seq_cases I sm ra e
    cases e2 : L2.atI ws _ with
    | none => rw [e2] at h; exact h.elim
    | some w =>
      rw [e2] at h
      obtain ⟨v', e3, rv⟩ := q.atI e2
      have fin := h g _ H (.refl _ _) sm rv
      rcases l with l | ⟨l, _⟩
      · exact ix_list value slice pins s σ H _ _ v u Q I rx ry ⟨p, xs, _, v', rfl, rfl, l, e3, fin⟩ hs
      · exact ix_tup value slice pins s σ H _ _ v u Q I rx ry ⟨p, xs, _, v', rfl, rfl, l, e3, fin⟩ hs
  · exact h.elim
def rSw (K : PySem.W.Frag) (B : List Nat) (own : Bool) : V → Option Int → Option Int → Hp → VK → Prop := fun x lo hi H Q => ∃ g S a, Sim K B g S H ∧ RepW K g a x ∧ PostR K B (RepW K) g H (sliceW own a lo hi S) Q
theorem cut_whole {α : Type} (xs : List α) (lo hi : Option Int) (h : HT.sIx xs.length 0 lo = 0 ∧ HT.sIx xs.length xs.length hi = xs.length) : cut xs lo hi = xs := by
  unfold cut
  rw [h.1, h.2]
  simp
theorem sl_w : SlR X (rSw X.K B own) := by
  intro pins s σ H x v vl vu lo hi sl Q I rx hs pl pu ⟨g, S, a, sm, ra, h⟩
  unfold sliceW at h
  split at h
  · obtain ⟨z, p, xs, rfl, l, q⟩ := ra
    have hl := q.length
    refine sl_tupA pins s σ H _ v vl vu lo hi sl Q I rx hs pl pu ⟨p, xs, rfl, SqT.le sm.sub l, fun e => ?_, fun _ r hr => ?_⟩
    · rename_i ds
      have : cut ds lo hi = ds := cut_whole _ _ _ (by rw [← hl]; exact e)
      rw [this] at h
      exact h g _ H (.refl _ _) sm ⟨z, p, xs, rfl, l, q⟩
    · obtain ⟨sm', st⟩ := sm.froze (o := .tup (cutV xs lo hi)) hr
      refine h _ _ _ st sm' ⟨Nat.le_trans (cut_length _ _ _) z, r, _, rfl, .inl (.inl upd_same), RepDs.le st.1.1 _ ?_⟩
      refine RepWs.unmap (g := g) ?_
      rw [map_cut]
      exact (RepWs.map q).cut lo hi
  · obtain ⟨z, p, xs, rfl, l, q⟩ := ra
    exact sl_list pins s σ H _ v vl vu lo hi sl Q I rx hs pl pu ⟨p, xs, rfl, SqL.le sm.sub l.sq, made_list sm (by rw [List.length_map]; exact Nat.le_trans (cut_length _ _ _) z) (by rw [map_cut]; exact (RepWs.map q).cut lo hi) h⟩
  · obtain ⟨ws, e, h⟩ := h.seq
    obtain ⟨z, p, xs, its, m, rfl, q, _, _, hH, _, _⟩ := list_got I sm ra e
    exact sl_list pins s σ H _ v vl vu lo hi sl Q I rx hs pl pu ⟨p, xs, rfl, SqL.of hH, made_list sm (Nat.le_trans (cut_length _ _ _) z) (q.cut lo hi) h⟩
  · obtain ⟨k, h⟩ := h.guard
    cases ra
    exact sl_str pins s σ H _ v vl vu lo hi sl Q I rx hs pl pu ⟨_, rfl, of_decide_eq_true k, h g _ H (.refl _ _) sm rfl⟩
  · exact h.elim

/-! ### methods -/
def rMt (K : PySem.W.Frag) (B : List Nat) (b : Nat) (m : Mt) : V → List V → Hp → VK → Prop := fun x vs H Q => ∃ g S w ws, Sim K B g S H ∧ RepW K g w x ∧ RepWs K g ws vs ∧ PostR K B (RepW K) g H (method b m w ws S) Q
theorem old_set {n : Nat} {ws us : List W} (sm : Sim X.K B g S H) (hB : ∀ b' ∈ B, b' ≤ b) (e : S[n]? = some (.lst ws)) (k : (decide (b ≤ n) || W.oldAll n us) = true) :
    ∀ b' ∈ B, n < b' → W.oldAll b' (ws ++ us) = true := fun b' hb hn => by
  have h1 := hB b' hb
  rw [Bool.or_eq_true, decide_eq_true_eq] at k
  rcases k with k | k
  · omega
  · exact oldAll_append (sm.old b' hb n ws hn e) (W.oldAll_le (Nat.le_of_lt hn) us k)
theorem old_sub {n : Nat} {ws us : List W} (sm : Sim X.K B g S H) (e : S[n]? = some (.lst ws)) (k : ∀ u ∈ us, u ∈ ws) : ∀ b' ∈ B, n < b' → W.oldAll b' us = true := fun b' hb hn =>
  oldAll_of_mem fun w hw => oldAll_mem (sm.old b' hb n ws hn e) w (k w hw)
theorem PostR.upd {γ δ : Type} {K : PySem.W.Frag} {R' : Gh → γ → δ → Prop} {n : Nat} {ws : List W} {f : Unit → M γ} {Q : δ → Hp → Prop} (h : PostR K B R' g H ((Ev.upd n ws >>= f) S) Q) : PostR K B R' g H (f () (S.set n (.lst ws))) Q := h
theorem mt_app (hB : ∀ b' ∈ B, b' ≤ b) : MtM X "list.append" (rMt X.K B b .append) := by
  intro pins s σ H x vs v us Q I rx rv ⟨g, S, w, ws, sm, ra, rs, h⟩
  generalize hb : Mt.append = m at h
  unfold method at h
  split at h <;> try (cases hb; done)
  · obtain ⟨zs, e, h⟩ := PostR.seq h
    obtain ⟨k, h⟩ := h.guard
    rw [Bool.and_eq_true, decide_eq_true_eq] at k
    have h := h.upd
    obtain ⟨y, rfl, ry⟩ := rs.one
    obtain ⟨z, p, xs, its, m, rfl, q, _, _, hH, hm, hS⟩ := list_got I sm ra e
    have q2 : RepWs X.K g (zs ++ [_]) (xs ++ [y]) := q.append ⟨y, [], rfl, ry, rfl⟩
    obtain ⟨sm', st⟩ := sm.write hS hm hH (us := zs ++ [_]) (by rw [List.length_append, List.length_singleton]; omega) q2 (old_set sm hB hS (by simpa [W.oldAll] using k.2))
    exact mt_append pins s σ H _ _ v us Q I rx rv ⟨p, xs, y, rfl, rfl, hH, by rw [q.length]; exact k.1, h g _ _ st sm' rfl⟩
  · exact h.elim
theorem lst_got {w : W} {v : V} {ws : List W} (I : Inv X pins σ H s) (x : Sim X.K B g S H) (r : RepW X.K g w v) (e : seqW w S = .ok ws S) (n1 : ∀ ds, w ≠ .d (.tuple ds)) (n2 : ∀ us, w ≠ .tup us) :
    ∃ a xs its n, v = .ref a ∧ RepWs X.K g ws xs ∧ Vals xs its ∧ s.heap.get? a = some { cls := .type "list", data := .seq its.toArray n } := by
  cases w with
  | d x0 =>
    cases x0 with
    | list ds =>
      cases e
      obtain ⟨z, a, xs, ev, l, q⟩ := r
      obtain ⟨its, n, rv, ho, _⟩ := LsR.got I x.sub l
      exact ⟨a, xs, its, n, ev, RepWs.map q, rv, ho⟩
    | tuple ds => exact absurd rfl (n1 _)
    | _ => cases e
  | tup us => exact absurd rfl (n2 _)
  | fn i => cases e
  | ref n =>
    obtain ⟨z, a, xs, its, m, rfl, q, rv, ho, _, _, _⟩ := list_got I x r e
    exact ⟨a, xs, its, m, rfl, q, rv, ho⟩
theorem mt_ext (hB : ∀ b' ∈ B, b' ≤ b) : MtM X "list.extend" (rMt X.K B b .extend) := by
  intro pins s σ H x vs v us Q I rx rv ⟨g, S, w, ws, sm, ra, rs, h⟩
  generalize hb : Mt.extend = m at h
  unfold method at h
  split at h <;> try (cases hb; done)
  · obtain ⟨zs, e, h⟩ := PostR.seq h
    obtain ⟨ys, e1, n1, n2, h⟩ := PostR.listW h
    obtain ⟨k, h⟩ := h.guard
    rw [Bool.and_eq_true, decide_eq_true_eq] at k
    have h := h.upd
    obtain ⟨y, rfl, ry⟩ := rs.one
    obtain ⟨z, p, xs, its, m, rfl, q, rits, ho, hH, hm, hS⟩ := list_got I sm ra e
    obtain ⟨a2, xs3, its2, n2', rfl, q3, r2, o2⟩ := lst_got I sm ry e1 n1 n2
    cases rx
    obtain ⟨u, rfl, ru⟩ := rv.one
    cases ru
    have hl := rits.length
    have hl2 := r2.length
    have hq := q.length
    have hq3 := q3.length
    have hsz : its.toArray.size + its2.toArray.size ≤ sizeLine := by rw [List.size_toArray, List.size_toArray]; omega
    have hlong : ¬ (!its.toArray.isEmpty && Builtin.List.listTooLong (its.toArray.size + its2.toArray.size)) = true := by
      rw [notLongL hsz, Bool.and_false]
      exact Bool.false_ne_true
    obtain ⟨sm', st⟩ := sm.write hS hm hH (us := zs ++ ys) (by rw [List.length_append]; omega) (q.append q3) (old_set sm hB hS (by simpa using k.2))
    refine call_meets F.slot_list_extend ⟨_, ho, rfl⟩ F.entry_list_extend (F.args_list_extend_2 _ _)
      (AutoSeq1.list_extend_list_list_0 p its.toArray m a2 its2.toArray n2' hlong (by simp only [List.size_toArray]; omega) (by simp only [List.size_toArray]; omega)) ⟨ho, o2, ?_⟩
    refine ⟨.non, _, I.lset (its' := its ++ its2) hH ho (by simp) (rits.append r2) ?_, rfl, h g _ _ st sm' rfl⟩
    rw [List.length_append]
    omega
  · exact h.elim
theorem mt_pop_ : MtM X "list.pop" (rMt X.K B b .pop) := by
  intro pins s σ H x vs v us Q I rx rv ⟨g, S, w, ws, sm, ra, rs, h⟩
  generalize hb : Mt.pop = m at h
  unfold method at h
  split at h <;> try (cases hb; done)
  · obtain ⟨zs, e, h⟩ := PostR.seq h
    obtain ⟨y, e1, h⟩ := h.lift
    have h := h.upd
    cases (show vs = [] from rs)
    obtain ⟨z, p, xs, its, m, rfl, q, _, _, hH, hm, hS⟩ := list_got I sm ra e
    obtain ⟨yv, e2, ry⟩ := q.get e1
    obtain ⟨sm', st⟩ := sm.write hS hm hH (us := zs.dropLast) (by rw [List.length_dropLast]; omega) q.dropLast (old_sub sm hS fun u hu => List.dropLast_subset _ hu)
    exact mt_pop pins s σ H _ _ v us Q I rx rv ⟨p, xs, yv, rfl, rfl, hH, by rw [q.length]; exact e2, h g _ _ st sm' ry⟩
  · exact h.elim
theorem mt_pop0 : MtM X "list.pop" (rMt X.K B b .popAt) := by
  intro pins s σ H x vs v us Q I rx rv ⟨g, S, w, ws, sm, ra, rs, h⟩
  generalize hb : Mt.popAt = m at h
  unfold method at h
  split at h <;> try (cases hb; done)
  · obtain ⟨zs, e, h⟩ := PostR.seq h
    obtain ⟨y, e1, h⟩ := h.lift
    have h := h.upd
    obtain ⟨i, rfl, ri⟩ := rs.one
    cases ri
    obtain ⟨z, p, xs, its, m, rfl, q, _, _, hH, hm, hS⟩ := list_got I sm ra e
    obtain ⟨yv, e2, ry⟩ := q.get e1
    obtain ⟨sm', st⟩ := sm.write hS hm hH (us := zs.eraseIdx 0) (Nat.le_trans (len_erase _ _) z) (q.eraseIdx 0) (old_sub sm hS fun u hu => List.mem_of_mem_eraseIdx hu)
    have hpos : 0 < xs.length := (List.getElem?_eq_some_iff.mp e2).1
    refine mt_popAt pins s σ H _ _ v us Q I rx rv ⟨p, xs, 0, 0, yv, rfl, rfl, hH, by decide, by decide, ?_, e2, h g _ _ st sm' ry⟩
    have := seqIndex_of (k := 0) (n := xs.length) (by decide) (by omega)
    exact this
  · exact h.elim

/-! ### o[i] = v -/
def rSt (K : PySem.W.Frag) (B : List Nat) (b : Nat) : TSet := fun o i v H Q => ∃ g S wo wi w, Sim K B g S H ∧ RepW K g wo o ∧ RepW K g wi i ∧ RepW K g w v ∧ PostR K B (fun _ _ (_ : Unit) => True) g H (setItem b wo wi w S) fun _ H' => Q H'
theorem set_w (hB : ∀ b' ∈ B, b' ≤ b) : PSet X (rSt X.K B b) := by
  intro pins s σ H o i v ov iv u Q I ro ri rv ⟨g, S, wo, wi, w, sm, ra, rb, rw', h⟩
  unfold setItem at h
  split at h
  · obtain ⟨zs, e, h⟩ := PostR.seq h
    obtain ⟨j, e1, h⟩ := h.lift
    obtain ⟨k, h⟩ := h.guard
    cases rb
    obtain ⟨z, p, xs, its, m, rfl, q, _, _, hH, hm, hS⟩ := list_got I sm ra e
    have ho : ∀ b' ∈ B, _ < b' → W.oldAll b' (zs.set j w) = true := fun b' hb hn => by
      have := old_set sm hB hS (us := [w]) (by simpa [W.oldAll] using k) b' hb hn
      refine oldAll_of_mem fun u hu => oldAll_mem this u ?_
      rcases List.mem_or_eq_of_mem_set hu with c | c
      · exact List.mem_append_left _ c
      · subst c; simp
    obtain ⟨sm', st⟩ := sm.write hS hm hH (us := zs.set j w) (by rw [List.length_set]; exact z) (RepWs.set rw' j q) ho
    exact set_list pins s σ H _ _ _ ov iv u Q I ro ri rv ⟨p, xs, _, j, rfl, rfl, hH, by rw [q.length]; exact e1, h g () _ st sm' trivial⟩
  · exact h.elim
end
end Ev

-- part EvI
set_option maxHeartbeats 200000
/-! EvI: what is walked: any list or tuple, enumerate of either. -/
namespace Ev
open PySem PySem.Spec PyProof.Rows L2

set_option maxHeartbeats 1000000 in
theorem enum_new1 {v : Value} {ob : Obj} {HH : Heap → Prop} (B0 : Begins v ob HH) :
    Meets (Builtin.«enumerate.__new__» ⟨[.type "enumerate", v], []⟩) (fun _ R s => HH s.heap ∧
      R (.ok (.ret (.ref (s.heap.push ob).objs.size))) { s with heap := (s.heap.push ob).push { cls := .type "enumerate", data := .fields #[.none, .bool false, .ref s.heap.objs.size, rawInt 0, .none, .none] } }) :=
  .of_wp fun prog w A R s hh => by
    obtain ⟨hp, gg, dd, tt, oo⟩ := s; obtain ⟨hh1, hh⟩ := hh
    have hsub0 := sub_enumerate
    have walk1 : ∀ {A' : Around} {E : Value → Shared → Prop} {Q : Value → Shared → Prop}, Q (.ref hp.objs.size) ⟨hp.push ob, gg, dd, tt, oo⟩ → wpAny (model prog w) A' (pyIter v) Q E ⟨hp, gg, dd, tt, oo⟩ :=
      fun q => B0.iter prog w _ _ ⟨hp, gg, dd, tt, oo⟩ _ hh1 q
    wp_walk using walk1
    refine wpAny_stack_any fun stk => wpAny_pure ?_
    split
    · rename_i cc _ _ _ _ _
      cases (cc == Value.type "enumerate")
      · wp_walk using walk1
        exact ⟨_, rfl, hh⟩
      · wp_walk using walk1
        exact ⟨_, rfl, hh⟩
    · wp_walk using walk1
      exact ⟨_, rfl, hh⟩
theorem enum_call1 {prog : Program} {w : World} {A : Around} {E : Value → Shared → Prop} {s : Shared} {v : Value} {ob : Obj} {HH : Heap → Prop} {Q : Value → Shared → Prop} (B0 : Begins v ob HH) (h1 : HH s.heap)
    (hq : ∀ h', IsEnum h' (s.heap.objs.size + 1) s.heap.objs.size 0 .none → h'.get? s.heap.objs.size = some ob → h'.objs.size = s.heap.objs.size + 2 →
      (∀ b o', s.heap.get? b = some o' → h'.get? b = some o') → Q (.ref (s.heap.objs.size + 1)) { s with heap := h' }) : wpAny (model prog w) A (call (.type "enumerate") [v]) Q E s := by
  have sz : (s.heap.push ob).objs.size = s.heap.objs.size + 1 := Heap.size_push ..
  refine callType_new F.called_enumerate (by decide) (F.typeCall_enumerate_1 _) (F.newCall_enumerate_1 _) (fun obj => F.args_object_init_2 obj _) F.entry_enumerate_new (enum_new1 B0) ⟨h1, ?_⟩
  show _ ∧ _
  rw [sz]
  have e0 := Heap.get?_push_size (s.heap.push ob) (o := { cls := .type "enumerate", data := .fields #[.none, .bool false, .ref s.heap.objs.size, rawInt 0, .none, .none] }) rfl
  rw [sz] at e0
  refine ⟨⟨_, e0, rfl⟩, hq _ e0 (Heap.get?_push_of_some _ (Heap.get?_push_size _ B0.free)) (by rw [Heap.size_push, sz]) fun b o' z => Heap.get?_push_of_some _ (Heap.get?_push_of_some _ z)⟩

/-- the tuple at a, each item in a new pair -/
def IteT (K : PySem.W.Frag) (a : Addr) : It :=
  ⟨fun i H => ∃ (xs : List V) (x : V), SqT K H a xs ∧ xs[i]? = some x, fun i H v H' => ∃ T x, v = .ref T ∧ H T = none ∧ H' = L2.upd H T (.tup [.int (i : Nat), x]) ∧ ∀ xs, SqT K H a xs → xs[i]? = some x, fun i H => ∃ xs : List V, SqT K H a xs ∧ xs.length = i⟩
theorem turn_enumT {P : Program} {w : World} {K : PySem.W.Frag} {elts : List Expr} {kk : Nat} {tpos : Pos} (a e it : Addr) (na : a ≠ it) :
    Turn P w K (.Tuple elts kk tpos) (IteT K a) [e, it] e (fun i h => (∃ old, IsEnum h e it ((i : Nat) : Int) old) ∧ h.IsTupleIter it a i ∧ e ≠ it) where
  mem := by simp
  obj := fun i h st b hb => by
    obtain ⟨⟨old, he⟩, ⟨o, ho, hc, hd⟩, _⟩ := st
    rcases (show b = e ∨ b = it by simpa using hb) with z | z
    · subst z; exact ⟨_, he, fun v q => nomatch q⟩
    · subst z; exact ⟨o, ho, fun v q => by rw [hd] at q; cases q⟩
  keep := fun i h h' st k => let ⟨⟨old, he⟩, hi, hne⟩ := st; ⟨⟨old, k e (by simp) _ he⟩, hi.at fun o q => k it (by simp) o q, hne⟩
  item := by
    intro X hP hw hK hc i pins s σ H E I hf st hg
    subst hP hw hK
    obtain ⟨⟨old, he⟩, hit, hne⟩ := st
    obtain ⟨xs, x, hq, hx⟩ := hg
    obtain ⟨its, rv, p, hz⟩ := I.tuple hq
    have D := Draws.tuple (prog := X.prog) (w := X.w) (A := X.A.in1) (I.ok.hd hc) it a na its.toArray
    have hl : its.toArray.size = xs.length := by rw [List.size_toArray]; exact rv.length.symm
    have hlt : i < its.toArray.size := by rw [hl]; exact (List.getElem?_eq_some_iff.mp hx).1
    have lt1 : e < s.heap.objs.size := Heap.lt_size he
    have lt2 : it < s.heap.objs.size := by obtain ⟨_, q, _⟩ := hit; exact Heap.lt_size q
    have ht : s.heap.IsTuple a its.toArray := p
    have nea : e ≠ a := fun z => by
      obtain ⟨o, h1, h2, _⟩ := ht
      rw [← z, he] at h1
      cases h1
      exact absurd (show Value.type "enumerate" = Value.type "tuple" from h2) (by decide +kernel)
    refine wpAny_pyNext_enum_itemD D he ⟨hit, ht⟩ hlt hne (by simp [hne, nea]) fun u h' tk hP ho hst' hT hsz hk => ?_
    have hu : its[i]? = some u := by simpa using hP
    have ru : RelV x u := by
      obtain ⟨u', e1, r1⟩ := rv.get hx
      rw [hu] at e1; cases e1; exact r1
    refine ⟨_, rfl, wpAny_letOwnedTupleGo_enum (s := { s with heap := h', toks := tk + 1 }) ho fun h'' he' sb => ?_⟩
    have hT2 : h''.get? s.heap.objs.size = some { cls := .type "tuple", data := .seq #[.int i tk, u] } := (sb.2 _ (Nat.ne_of_gt lt1)).trans hT
    have new : ObjOk X.prog X.w (L2.upd H s.heap.objs.size (.tup [.int (i : Nat), x])) h'' s.heap.objs.size (.tup [.int (i : Nat), x]) :=
      ⟨by show 2 ≤ sizeLine; decide, [.int i tk, u], .cons ⟨_, rfl⟩ (.cons ru .nil), ⟨_, hT2, rfl, _, rfl⟩⟩
    have J : Inv X pins σ (L2.upd H s.heap.objs.size (.tup [.int (i : Nat), x])) { s with heap := h'', toks := tk + 1 } :=
      I.turnedNew (ch := [e, it]) (fun b ob hb q => (sb.2 b (fun z => hb (by simp [z]))).trans (hk b ob (fun z => hb (by simp [z])) (fun z => hb (by simp [z])) q)) hf (Nat.le_refl _) new
    refine ⟨.ref s.heap.objs.size, _, J, rfl, ⟨_, x, rfl, I.hok.fresh (Nat.le_refl _), rfl, fun ys hy => by rw [I.tuple_inj hy hq]; exact hx⟩, ⟨⟨u, ?_⟩, hst'.1.at fun o q => (sb.2 it (Ne.symm hne)).trans q, hne⟩, fun b hb => ?_⟩
    · have e1 : ((i + 1 : Nat) : Int) = (i : Int) + 1 := by omega
      rw [e1]; exact he'
    · have lt : b < s.heap.objs.size := by
        rcases (show b = e ∨ b = it by simpa using hb) with z | z
        · rw [z]; exact lt1
        · rw [z]; exact lt2
      rw [upd_ne (Nat.ne_of_lt lt)]
      exact (hf b hb).1
  done := by
    intro X hP hw hK hc i pins s σ H E I hf st hg
    subst hP hw hK
    obtain ⟨⟨old, he⟩, hit, hne⟩ := st
    obtain ⟨xs, hq, hx⟩ := hg
    obtain ⟨its, rv, p, hz⟩ := I.tuple hq
    have D := Draws.tuple (prog := X.prog) (w := X.w) (A := X.A.in1) (I.ok.hd hc) it a na its.toArray
    have hl : its.toArray.size = i := by rw [List.size_toArray, ← rv.length]; exact hx
    obtain ⟨f0, f1, f2, f3, f4, f5⟩ := hf it (by simp)
    exact wpAny_pyNext_enum_endD D he (by rw [hl]; exact ⟨hit, p⟩) fun h' eb => ⟨rfl, I.turned (t' := s.toks) (fun b o hb q => eb b o hb q) f0 f1 f3 f4 f5⟩
  self := fun A i s Q E st h => let ⟨⟨_, he⟩, _⟩ := st; wpAny_pyIter_enum he h
theorem walk_enumT {K : PySem.W.Frag} {a : Addr} {xs : List V} : Walk (IteT K a) xs.length (fun H => SqT K H a xs) (YPair (fun i => some (.int (i : Nat))) (fun i => xs[i]?)) := by
  refine ⟨fun i _ hi q => ⟨xs, xs[i], q, by simp [hi]⟩, fun _ q => ⟨xs, q, rfl⟩, fun i H v H' _ q y => ?_⟩
  obtain ⟨T, x, h1, h2, h3, h4⟩ := y
  exact ⟨T, .int (i : Nat), x, h1, h2, h3, rfl, h4 xs q⟩

section
variable {X : Cx} {tg : Expr}
/-- a list or a tuple that is known -/
def iSeq (K : PySem.W.Frag) (tl : TE) : TI := fun σ H R => tl σ H fun x H1 => ∃ a xs, x = .ref a ∧ ((SqL K H1 a xs ∧ R (Itl K a) H1) ∨ (SqT K H1 a xs ∧ R (Itt K a) H1))
theorem pi_seq {l : Expr} {tl : TE} (hl : PE X l tl) : PI X tg l (iSeq X.K tl) := by
  refine ⟨fun pins s σ H R I h => ?_⟩
  refine thn (hl.run pins s σ H _ I h) fun v s1 ⟨x, H1, I1, r1, a, xs, ex, q1⟩ => ?_
  subst ex
  cases r1
  have fp : ∀ b ∈ [s1.heap.objs.size], FpOk X pins H1 b := fun b hb => by
    have e : b = s1.heap.objs.size := by simpa using hb
    subst e
    exact I1.fpOk (Nat.le_refl _) I1.fresh
  rcases q1 with ⟨hq, q⟩ | ⟨hq, q⟩
  · obtain ⟨its, rv, p, hz⟩ := I1.list hq
    refine wpAny_pyIter_list p.isList ?_
    exact ⟨s1.heap.objs.size, [s1.heap.objs.size], _, _, H1, rfl, I1.kept (t' := s1.toks) fun b o e => Heap.get?_push_of_some _ e, turn_list a _, ⟨_, Heap.get?_push_size _ rfl, rfl, rfl⟩, fp, q⟩
  · obtain ⟨its, rv, p, hz⟩ := I1.tuple hq
    refine wpAny_pyIter_tuple (show s1.heap.IsTuple a its.toArray from p) ?_
    exact ⟨s1.heap.objs.size, [s1.heap.objs.size], _, _, H1, rfl, I1.kept (t' := s1.toks) fun b o e => Heap.get?_push_of_some _ e, turn_tuple a _, ⟨_, Heap.get?_push_size _ rfl, rfl, rfl⟩, fp, q⟩
def iEnumS (K : PySem.W.Frag) (ta : TA) : TI := fun σ H R => ta σ H fun vs H1 => ∃ a xs, vs = [.ref a] ∧ ((SqL K H1 a xs ∧ R (Ite K a) H1) ∨ (SqT K H1 a xs ∧ R (IteT K a) H1))
theorem pi_enumS {e : Expr} {ta : TA} {p pos tpos : Pos} {elts : List Expr} {kk : Nat} (hg : Gl X "enumerate") (hm : X.mg "enumerate" = none) (ha : PA X [e] ta) (hs : starEach [e] X.env = [(false, eval e X.env)]) :
    PI X (.Tuple elts kk tpos) (.Call (.Name "enumerate" p) [e] [] pos) (iEnumS X.K ta) := by
  refine ⟨fun pins s σ H R I h => ?_⟩
  refine Call_ (ld_blt I hg hm boot_enumerate (PyProof.Rows.callWith_type1 (thn (ha.run pos pins s σ H _ I h) fun us s1 ⟨vs, H1, I1, r1, a, xs, ex, q1⟩ => ?_) hs rfl))
  subst ex
  rw [Vals.ref1 r1]
  have fp : ∀ b ∈ [s1.heap.objs.size + 1, s1.heap.objs.size], FpOk X pins H1 b := fun b hb => by
    have hle : s1.heap.objs.size ≤ b := by
      rcases (show b = s1.heap.objs.size + 1 ∨ b = s1.heap.objs.size by simpa using hb) with z | z <;> omega
    exact I1.fpOk hle (I1.hok.fresh hle)
  rcases q1 with ⟨hq, q⟩ | ⟨hq, q⟩
  · obtain ⟨its, rv, p', hz⟩ := I1.list hq
    refine call_enumerate_list p'.isList fun h' he hit hsz hk => wpAny_pyIter_enum he ?_
    exact ⟨s1.heap.objs.size + 1, [s1.heap.objs.size + 1, s1.heap.objs.size], _, _, H1, rfl, I1.kept (t' := s1.toks) hk, turn_enum a (s1.heap.objs.size + 1) s1.heap.objs.size, ⟨⟨.none, he⟩, hit, Nat.succ_ne_self _⟩, fp, q⟩
  · obtain ⟨its, rv, p', hz⟩ := I1.tuple hq
    have ht : s1.heap.IsTuple a its.toArray := p'
    have na : a ≠ s1.heap.objs.size := Nat.ne_of_lt (by obtain ⟨o, e1, _⟩ := ht; exact Heap.lt_size e1)
    refine enum_call1 (begins_tuple a its.toArray) ht fun h' he hit hsz hk => wpAny_pyIter_enum he ?_
    exact ⟨s1.heap.objs.size + 1, [s1.heap.objs.size + 1, s1.heap.objs.size], _, _, H1, rfl, I1.kept (t' := s1.toks) hk, turn_enumT a (s1.heap.objs.size + 1) s1.heap.objs.size na, ⟨⟨.none, he⟩, ⟨_, hit, rfl, rfl⟩, Nat.succ_ne_self _⟩, fp, q⟩
end
end Ev

-- part EvE
set_option maxHeartbeats 200000
/-! EvE: the evaluator's readings of expressions, one rule for each kind. -/
namespace Ev
open PySem PySem.Spec PyProof.Rows L2

section
variable {α β γ δ : Type} {K : PySem.W.Frag} {B : List Nat} {R : Gh → α → β → Prop} {R' : Gh → γ → δ → Prop} {g g0 g1 : Gh} {H H0 H1 : Hp} {S : Store}
/-- the first part, its end's wish with all that is known; the rest's base stays -/
theorem PostR.at_ {x : M α} {f : α → M γ} {Q : δ → Hp → Prop} (h : PostR K B R' g0 H0 ((x >>= f) S) Q) :
    PostR K B R g H (x S) fun b H1 => ∃ g1 a S1, x S = .ok a S1 ∧ Step g H g1 H1 ∧ Sim K B g1 S1 H1 ∧ R g1 a b ∧ PostR K B R' g0 H0 (f a S1) Q := by
  rw [bind_at] at h
  cases e : x S with
  | ok a S1 =>
    rw [e] at h
    exact fun g' b H' st sm r => ⟨g', a, S1, rfl, st, sm, r, h⟩
  | exc _ _ _ => rw [e] at h; exact h
  | bad => rw [e] at h; exact h
/-- .. the rest's base moved -/
theorem PostR.on {x : M α} {f : α → M γ} {Q : δ → Hp → Prop} (h : PostR K B R' g H ((x >>= f) S) Q) :
    PostR K B R g H (x S) fun b H1 => ∃ g1 a S1, x S = .ok a S1 ∧ Step g H g1 H1 ∧ Sim K B g1 S1 H1 ∧ R g1 a b ∧ PostR K B R' g1 H1 (f a S1) Q :=
  PostR.mono h.at_ fun b H1 ⟨g1, a, S1, e, st, sm, r, q⟩ => ⟨g1, a, S1, e, st, sm, r, q.step st⟩
end
theorem M.assoc {α β γ : Type} (x : M α) (f : α → M β) (h : β → M γ) : ((x >>= f) >>= h) = (x >>= fun a => f a >>= h) := by
  funext S
  rw [bind_at, bind_at, bind_at]
  cases x S <;> rfl
theorem M.pure_bind' {α β : Type} (a : α) (f : α → M β) : ((pure a : M α) >>= f) = f a := rfl

/-- slots -/
structure RepR (K : PySem.W.Frag) (g : Gh) (ρ : Env) (σ : L2.St) : Prop where
  len : ρ.length = σ.length
  at_ : ∀ (i : Nat) (w : W), ρ[i]? = some (some w) → ∃ v, σ[i]? = some (some v) ∧ RepW K g w v
section
variable {K : PySem.W.Frag} {B : List Nat} {g g' : Gh} {H : Hp} {S : Store} {ρ ρ' : Env} {σ : L2.St}
theorem RepR.le (l : g.le g') (r : RepR K g ρ σ) : RepR K g' ρ σ := ⟨r.len, fun i w e => let ⟨v, e1, r1⟩ := r.at_ i w e; ⟨v, e1, RepW.le l w r1⟩⟩
theorem RepR.set {i : Nat} {w : W} {v : V} (r : RepR K g ρ σ) (rw' : RepW K g w v) : RepR K g (ρ.set i (some w)) (σ.set i (some v)) := by
  refine ⟨by simp [r.len], fun j u e => ?_⟩
  by_cases h : i = j
  · subst h
    have hl : i < ρ.length := by
      have := (List.getElem?_eq_some_iff.mp e).1
      simpa using this
    rw [List.getElem?_set_self hl] at e
    have e := Option.some.inj (Option.some.inj e)
    subst e
    exact ⟨v, by rw [List.getElem?_set_self (by rw [← r.len]; exact hl)], rw'⟩
  · rw [List.getElem?_set_ne h] at e ⊢
    exact r.at_ j u e
theorem RepR.setN {i : Nat} (r : RepR K g ρ σ) : RepR K g (ρ.set i none) (σ.set i none) := by
  refine ⟨by simp [r.len], fun j u e => ?_⟩
  by_cases h : i = j
  · subst h
    have hl : i < ρ.length := by
      have := (List.getElem?_eq_some_iff.mp e).1
      simpa using this
    rw [List.getElem?_set_self hl] at e
    cases e
  · rw [List.getElem?_set_ne h] at e ⊢
    exact r.at_ j u e
theorem RepR.wipe (r : RepR K g ρ σ) : ∀ vs, RepR K g (wipeR ρ vs) (L2.wipe σ vs)
  | [] => r
  | _ :: vs => (RepR.wipe r vs).setN
end

/-- what an expression, a list of them, a test do by the evaluator -/
def tE (K : PySem.W.Frag) (B : List Nat) (f : Env → M W) : TE := fun σ H Q => ∃ g ρ S, RepR K g ρ σ ∧ Sim K B g S H ∧ PostR K B (RepW K) g H (f ρ S) Q
def tA (K : PySem.W.Frag) (B : List Nat) (f : Env → M (List W)) : TA := fun σ H Q => ∃ g ρ S, RepR K g ρ σ ∧ Sim K B g S H ∧ PostR K B (RepWs K) g H (f ρ S) Q
def tT (K : PySem.W.Frag) (B : List Nat) (f : Env → M Bool) : TT := fun σ H Q => ∃ g ρ S, RepR K g ρ σ ∧ Sim K B g S H ∧ PostR K B REq g H (f ρ S) Q
theorem _root_.L2.PE.imp {X : Cx} {e : Expr} {t t' : TE} (h : PE X e t) (q : ∀ σ H Q, t' σ H Q → t σ H Q) : PE X e t' := ⟨fun pins s σ H Q I hw => h.run pins s σ H Q I (q σ H Q hw)⟩
theorem _root_.L2.PT.imp {X : Cx} {e : Expr} {t t' : TT} (h : PT X e t) (q : ∀ σ H Q, t' σ H Q → t σ H Q) : PT X e t' := ⟨fun pins s σ H Q I hw => h.run pins s σ H Q I (q σ H Q hw)⟩
theorem _root_.L2.PW.imp {X : Cx} {e : Expr} {t t' : TT} (h : PW X e t) (q : ∀ σ H Q, t' σ H Q → t σ H Q) : PW X e t' := ⟨fun wh pins s σ H Q I hw => h.run wh pins s σ H Q I (q σ H Q hw)⟩
theorem _root_.L2.PA.imp {X : Cx} {e : List Expr} {t t' : TA} (h : PA X e t) (q : ∀ σ H Q, t' σ H Q → t σ H Q) : PA X e t' := ⟨fun pos pins s σ H Q I hw => h.run pos pins s σ H Q I (q σ H Q hw)⟩
theorem _root_.L2.PI.imp {X : Cx} {tg e : Expr} {t t' : TI} (h : PI X tg e t) (q : ∀ σ H Q, t' σ H Q → t σ H Q) : PI X tg e t' := ⟨fun pins s σ H Q I hw => h.run pins s σ H Q I (q σ H Q hw)⟩

section
variable {X : Cx} {B : List Nat} {a b e : Expr} {es : List Expr} {pos p : Pos} {fa fb fc : Env → M W} {fs : Env → M (List W)}
/-- the first of more, in a reading -/
theorem tE.on {K : PySem.W.Frag} {α' β' : Type} {R' : Gh → α' → β' → Prop} {σ : L2.St} {H : Hp} {Q : β' → Hp → Prop} {f : W → M α'} {g : Gh} {ρ : Env} {S : Store} (rr : RepR K g ρ σ) (sm : Sim K B g S H) (h : PostR K B R' g H ((fa ρ >>= f) S) Q)
    {Q' : VK} (k : ∀ g1 w v S1 H1, RepR K g1 ρ σ → Sim K B g1 S1 H1 → RepW K g1 w v → Step g H g1 H1 → PostR K B R' g1 H1 (f w S1) Q → Q' v H1) : tE K B fa σ H Q' :=
  ⟨g, ρ, S, rr, sm, PostR.mono h.on fun v H1 ⟨g1, w, S1, _, st, sm1, r, q⟩ => k g1 w v S1 H1 (rr.le st.1) sm1 r st q⟩
theorem tA.on {K : PySem.W.Frag} {α' β' : Type} {R' : Gh → α' → β' → Prop} {σ : L2.St} {H : Hp} {Q : β' → Hp → Prop} {f : List W → M α'} {g : Gh} {ρ : Env} {S : Store} (rr : RepR K g ρ σ) (sm : Sim K B g S H) (h : PostR K B R' g H ((fs ρ >>= f) S) Q)
    {Q' : List V → Hp → Prop} (k : ∀ g1 w v S1 H1, fs ρ S = .ok w S1 → RepR K g1 ρ σ → Sim K B g1 S1 H1 → RepWs K g1 w v → Step g H g1 H1 → PostR K B R' g1 H1 (f w S1) Q → Q' v H1) : tA K B fs σ H Q' :=
  ⟨g, ρ, S, rr, sm, PostR.mono h.on fun v H1 ⟨g1, w, S1, e, st, sm1, r, q⟩ => k g1 w v S1 H1 e (rr.le st.1) sm1 r st q⟩
theorem tT.on {K : PySem.W.Frag} {α' β' : Type} {R' : Gh → α' → β' → Prop} {σ : L2.St} {H : Hp} {Q : β' → Hp → Prop} {ft : Env → M Bool} {f : Bool → M α'} {g : Gh} {ρ : Env} {S : Store} (rr : RepR K g ρ σ) (sm : Sim K B g S H) (h : PostR K B R' g H ((ft ρ >>= f) S) Q)
    {Q' : Bool → Hp → Prop} (k : ∀ g1 w S1 H1, RepR K g1 ρ σ → Sim K B g1 S1 H1 → Step g H g1 H1 → PostR K B R' g1 H1 (f w S1) Q → Q' w H1) : tT K B ft σ H Q' :=
  ⟨g, ρ, S, rr, sm, PostR.mono (h.on (R := REq)) fun v H1 ⟨g1, w, S1, _, st, sm1, r, q⟩ => by
    cases (show v = w from r)
    exact k g1 v S1 H1 (rr.le st.1) sm1 st q⟩

/-! ### names, constants, displays -/
theorem e_var {i : Nat} {x : Str} (hN : X.N[i]? = some x) (hv : Vis X.env.scope x) (hd : (x == ("__debug__" : Str)) = false) (hcd : (x == ("__classdict__" : Str)) = false) {f : Env → M W}
    (hf : ∀ ρ : Env, f ρ = (match ρ[i]? with
      | some (some w) => pure w
      | _ => bad)) : PE X (.Name x p) (tE X.K B f) := by
  refine (pe_var hN hv hd hcd).imp fun σ H Q ⟨g, ρ, S, rr, sm, h⟩ => ?_
  rw [hf] at h
  split at h
  · rename_i w e
    obtain ⟨v, e1, r⟩ := rr.at_ i w e
    exact ⟨v, e1, h g v H (.refl _ _) sm r⟩
  · exact h.elim
theorem e_con {c : Expr} {v : V} {w : W} (hp : PE X c (tC v)) (hr : ∀ g : Gh, RepW X.K g w v) {f : Env → M W} (hf : ∀ ρ, f ρ = pure w) : PE X c (tE X.K B f) :=
  hp.imp fun σ H Q ⟨g, ρ, S, rr, sm, h⟩ => by
    rw [hf] at h
    exact h g v H (.refl _ _) sm (hr g)
theorem a_nil {f : Env → M (List W)} (hf : ∀ ρ, f ρ = pure []) : PA X [] (tA X.K B f) := pa_nil.imp fun σ H Q ⟨g, ρ, S, rr, sm, h⟩ => by
  rw [hf] at h
  exact h g [] H (.refl _ _) sm rfl
theorem a_cons (hp : plainE e = true) (ha : PE X e (tE X.K B fa)) (hr : PA X es (tA X.K B fs)) {f : Env → M (List W)} (hf : ∀ ρ, f ρ = (do let w ← fa ρ; let ws ← fs ρ; pure (w :: ws))) : PA X (e :: es) (tA X.K B f) :=
  (pa_cons ha hr (star_cons hp)).imp fun σ H Q ⟨g, ρ, S, rr, sm, h⟩ => by
    rw [hf] at h
    refine tE.on rr sm h fun g1 w v S1 H1 rr1 sm1 r1 _ h => ?_
    refine tA.on rr1 sm1 h fun g2 ws vs S2 H2 _ rr2 sm2 r2 st h => ?_
    exact h g2 (v :: vs) H2 (.refl _ _) sm2 ⟨v, vs, rfl, RepW.le st.1 w r1, r2⟩
theorem e_tup {k : Nat} (ha : PA X es (tA X.K B fs)) (hz : ∀ ρ S ws S', fs ρ S = .ok ws S' → ws.length ≤ sizeLine) {f : Env → M W} (hf : ∀ ρ, f ρ = (do let ws ← fs ρ; pure (mkTup ws))) : PE X (.Tuple es k pos) (tE X.K B f) :=
  (pe_tup ha).imp fun σ H Q ⟨g, ρ, S, rr, sm, h⟩ => by
    rw [hf] at h
    refine tA.on rr sm h fun g1 ws vs S1 H1 e _ sm1 r1 _ h => ?_
    have z := hz _ _ _ _ e
    refine ⟨by rw [r1.length]; exact z, fun q hq => ?_⟩
    obtain ⟨g', sm', st, rp⟩ := made_tup sm1 z r1 hq
    exact h g' _ _ st sm' rp
theorem e_lst {own : Bool} (ha : PA X es (tA X.K B fs)) (hz : ∀ ρ S ws S', fs ρ S = .ok ws S' → ws.length ≤ sizeLine) {f : Env → M W} (hf : ∀ ρ, f ρ = (do let ws ← fs ρ; mkLst own ws)) : PE X (.List es pos) (tE X.K B f) :=
  (pe_lst ha).imp fun σ H Q ⟨g, ρ, S, rr, sm, h⟩ => by
    rw [hf] at h
    refine tA.on rr sm h fun g1 ws vs S1 H1 e _ sm1 r1 _ h => ?_
    have z := hz _ _ _ _ e
    exact ⟨by rw [r1.length]; exact z, made_list sm1 z r1 h⟩
theorem e_dic {f : Env → M W} (hf : ∀ ρ, f ρ = pure (.d (.dict []))) : PE X (.Dict [] [] pos) (tE X.K B f) :=
  pe_dnewK.imp fun σ H Q ⟨g, ρ, S, rr, sm, h⟩ => by
    rw [hf] at h
    intro q hq
    obtain ⟨sm', st⟩ := sm.froze (o := .dK []) hq
    exact h _ _ _ st sm' ⟨q, [], rfl, upd_same, rfl⟩

/-! ### operators -/
theorem e_bin {own : Bool} {op : Operator} (ha : PE X a (tE X.K B fa)) (hb : PE X b (tE X.K B fb)) {f : Env → M W} (hf : ∀ ρ, f ρ = (do let x ← fa ρ; let y ← fb ρ; binop own op x y)) : PE X (.BinOp a op b pos) (tE X.K B f) :=
  (pe_op (op_bin (B := B) own op) ha hb).imp fun σ H Q ⟨g, ρ, S, rr, sm, h⟩ => by
    rw [hf] at h
    refine tE.on rr sm h fun g1 x v S1 H1 rr1 sm1 r1 _ h => ?_
    refine tE.on rr1 sm1 h fun g2 y u S2 H2 rr2 sm2 r2 st h => ?_
    exact ⟨g2, S2, x, y, sm2, RepW.le st.1 x r1, r2, h⟩
theorem e_neg (ha : PE X a (tE X.K B fa)) {f : Env → M W} (hf : ∀ ρ, f ρ = (do let x ← fa ρ; let i ← intW x; pure (.d (.int (-i))))) : PE X (.UnaryOp .USub a pos) (tE X.K B f) :=
  (pe_un un_neg ha).imp fun σ H Q ⟨g, ρ, S, rr, sm, h⟩ => by
    rw [hf] at h
    refine tE.on rr sm h fun g1 x v S1 H1 rr1 sm1 r1 _ h => ?_
    cases x with
    | d y =>
      cases y with
      | int i => cases r1; exact ⟨i, rfl, h g1 _ H1 (.refl _ _) sm1 rfl⟩
      | _ => exact h.elim
    | _ => exact h.elim
theorem e_cmp {op : CmpOp} (bk : Bk X) (hm : behindInMarks op b = false) (ha : PE X a (tE X.K B fa)) (hb : PE X b (tE X.K B fb)) {f : Env → M W} (hf : ∀ ρ, f ρ = (do let x ← fa ρ; let y ← fb ρ; let k ← cmpop op x y; pure (.d (.bool k)))) :
    PE X (.Compare a [op] [b] pos) (tE X.K B f) :=
  (pe_cmpR (op_cmp (B := B) bk op) ha hb hm).imp fun σ H Q ⟨g, ρ, S, rr, sm, h⟩ => by
    rw [hf] at h
    refine tE.on rr sm h fun g1 x v S1 H1 rr1 sm1 r1 _ h => ?_
    refine tE.on rr1 sm1 h fun g2 y u S2 H2 rr2 sm2 r2 st h => ?_
    refine ⟨g2, S2, x, y, sm2, RepW.le st.1 x r1, r2, PostR.mono h.on fun z H3 ⟨g3, k, S3, _, st3, sm3, r3, q⟩ => ?_⟩
    cases (show z = .bl k from r3)
    exact q g3 _ H3 (.refl _ _) sm3 rfl
theorem t_cmp {op : CmpOp} (bk : Bk X) (hm : behindInMarks op b = false) (ha : PE X a (tE X.K B fa)) (hb : PE X b (tE X.K B fb)) {f : Env → M Bool} (hf : ∀ ρ, f ρ = (do let x ← fa ρ; let y ← fb ρ; cmpop op x y)) :
    PT X (.Compare a [op] [b] pos) (tT X.K B f) :=
  (pt_cmpR (op_cmp (B := B) bk op) ha hb hm).imp fun σ H Q ⟨g, ρ, S, rr, sm, h⟩ => by
    rw [hf] at h
    refine tE.on rr sm h fun g1 x v S1 H1 rr1 sm1 r1 _ h => ?_
    refine tE.on rr1 sm1 h fun g2 y u S2 H2 rr2 sm2 r2 st h => ?_
    refine ⟨g2, S2, x, y, sm2, RepW.le st.1 x r1, r2, ?_⟩
    cases e : cmpop op x y S2 with
    | ok k S3 => rw [e] at h; exact fun g3 z H3 st3 sm3 r3 => ⟨k, r3, h g3 k H3 st3 sm3 rfl⟩
    | exc _ _ _ => rw [e] at h; exact h
    | bad => rw [e] at h; exact h
theorem t_chn {c : Expr} {op op' : CmpOp} (bk : Bk X) (hm : lastMarks [op, op'] [b, c] = false) (ha : PE X a (tE X.K B fa)) (hb : PE X b (tE X.K B fb)) (hc : PE X c (tE X.K B fc)) {f : Env → M Bool}
    (hf : ∀ ρ, f ρ = (do let x ← fa ρ; let y ← fb ρ; let k ← cmpop op x y; if k then do let z ← fc ρ; cmpop op' y z else pure false)) : PT X (.Compare a [op, op'] [b, c] pos) (tT X.K B f) :=
  (pt_chain (op_cmp (B := B) bk op) (op_cmp (B := B) bk op') ha hb hc hm).imp fun σ H Q ⟨g, ρ, S, rr, sm, h⟩ => by
    rw [hf] at h
    refine tE.on rr sm h fun g1 x v S1 H1 rr1 sm1 r1 _ h => ?_
    refine tE.on rr1 sm1 h fun g2 y u S2 H2 rr2 sm2 r2 st h => ?_
    refine ⟨g2, S2, x, y, sm2, RepW.le st.1 x r1, r2, PostR.mono h.on fun z H3 ⟨g3, k, S3, _, st3, sm3, r3, h⟩ => ⟨k, r3, ?_⟩⟩
    cases k with
    | false => exact ⟨false, rfl, h g3 false H3 (.refl _ _) sm3 rfl⟩
    | true =>
      rw [if_pos rfl] at h ⊢
      refine tE.on (rr2.le st3.1) sm3 h fun g4 w x' S4 H4 _ sm4 r4 st4 h => ?_
      refine ⟨g4, S4, y, w, sm4, RepW.le (st3.trans st4).1 y r2, r4, ?_⟩
      cases e : cmpop op' y w S4 with
      | ok k S3 => rw [e] at h; exact fun g3 z H3 st3 sm3 r3 => ⟨k, r3, h g3 k H3 st3 sm3 rfl⟩
      | exc _ _ _ => rw [e] at h; exact h
      | bad => rw [e] at h; exact h
theorem e_chn {c : Expr} {op op' : CmpOp} (bk : Bk X) (hm : lastMarks [op, op'] [b, c] = false) (ha : PE X a (tE X.K B fa)) (hb : PE X b (tE X.K B fb)) (hc : PE X c (tE X.K B fc)) {f : Env → M W}
    (hf : ∀ ρ, f ρ = (do let x ← fa ρ; let y ← fb ρ; let k ← cmpop op x y; if k then do let z ← fc ρ; let k' ← cmpop op' y z; pure (.d (.bool k')) else pure (.d (.bool false)))) : PE X (.Compare a [op, op'] [b, c] pos) (tE X.K B f) :=
  (pe_chain (op_cmp (B := B) bk op) (op_cmp (B := B) bk op') ha hb hc hm).imp fun σ H Q ⟨g, ρ, S, rr, sm, h⟩ => by
    rw [hf] at h
    refine tE.on rr sm h fun g1 x v S1 H1 rr1 sm1 r1 _ h => ?_
    refine tE.on rr1 sm1 h fun g2 y u S2 H2 rr2 sm2 r2 st h => ?_
    refine ⟨g2, S2, x, y, sm2, RepW.le st.1 x r1, r2, PostR.mono h.on fun z H3 ⟨g3, k, S3, _, st3, sm3, r3, h⟩ => ⟨k, r3, ?_⟩⟩
    cases k with
    | false => exact h g3 _ H3 (.refl _ _) sm3 rfl
    | true =>
      rw [if_pos rfl] at h ⊢
      refine tE.on (rr2.le st3.1) sm3 h fun g4 w x' S4 H4 _ sm4 r4 st4 h => ?_
      refine ⟨g4, S4, y, w, sm4, RepW.le (st3.trans st4).1 y r2, r4, PostR.mono h.on fun z H5 ⟨g5, k, S5, _, st5, sm5, r5, q⟩ => ?_⟩
      cases (show z = .bl k from r5)
      exact q g5 _ H5 (.refl _ _) sm5 rfl

/-! ### truth -/
theorem truthD_same {x : PyData} {S S' : Store} {k : Bool} (e : truthD x S = .ok k S') : S' = S := by
  cases x with
  | str z =>
    have e : (guard (decide (z.length ≤ sizeLine)) >>= fun _ => (pure (PyData.truthy (.str z)) : M Bool)) S = .ok k S' := e
    rw [bind_at, guard_at] at e
    split at e
    · rename_i q
      split at q
      · cases q; cases e; rfl
      · cases q
    · cases e
    · cases e
  | dict _ => cases e
  | _ => cases e; rfl
theorem truthW_same {w : W} {S S' : Store} {k : Bool} (e : truthW w S = .ok k S') : S' = S := by
  cases w with
  | d x => exact truthD_same e
  | ref n =>
    have e : (seqW (.ref n) >>= fun ws => (pure (!ws.isEmpty) : M Bool)) S = .ok k S' := e
    rw [bind_at] at e
    cases q : seqW (.ref n) S with
    | ok ws S1 =>
      have := seqW_same q
      subst this
      rw [q] at e
      cases e; rfl
    | exc _ _ _ => rw [q] at e; cases e
    | bad => rw [q] at e; cases e
  | tup ws => cases e; rfl
  | fn i => cases e
theorem t_tru (he : ∀ whole, isTrue a X.env whole = (do let v ← whole; standAt a.pos; holding [v] (truthy v))) (ha : PE X a (tE X.K B fa)) {f : Env → M Bool} (hf : ∀ ρ, f ρ = (do let x ← fa ρ; truthW x)) : PT X a (tT X.K B f) := by
  refine ⟨fun pins s σ H Q I ⟨g, ρ, S, rr, sm, h⟩ => ?_⟩
  rw [hf] at h
  have h0 : tE X.K B fa σ H fun x H1 => rT X.K B x H1 Q := tE.on rr sm h fun g1 w v S1 H1 _ sm1 r1 _ h => ⟨g1, S1, w, sm1, r1, h⟩
  exact isTrue_plain (thn (ha.run pins s σ H _ I h0) fun v s1 ⟨x, H1, I1, r1, q1⟩ => tru_w pins s1 σ H1 x v Q I1 r1 q1) (he _)
theorem t_not {ft : Env → M Bool} (ha : PT X a (tT X.K B ft)) {f : Env → M Bool} (hf : ∀ ρ, f ρ = (do let k ← ft ρ; pure (!k))) : PT X (.UnaryOp .Not a pos) (tT X.K B f) :=
  (pt_not ha).imp fun σ H Q ⟨g, ρ, S, rr, sm, h⟩ => by
    rw [hf] at h
    exact tT.on rr sm h fun g1 k S1 H1 _ sm1 _ h => h g1 _ H1 (.refl _ _) sm1 rfl
theorem e_not (ha : PE X a (tE X.K B fa)) {f : Env → M W} (hf : ∀ ρ, f ρ = (do let x ← fa ρ; let k ← truthW x; pure (.d (.bool (!k))))) : PE X (.UnaryOp .Not a pos) (tE X.K B f) := by
  refine ⟨fun pins s σ H Q I ⟨g, ρ, S, rr, sm, h⟩ => ?_⟩
  rw [hf] at h
  have h0 : tE X.K B fa σ H fun x H1 => rT X.K B x H1 fun k H2 => Q (.bl (!k)) H2 := tE.on rr sm h fun g1 w v S1 H1 _ sm1 r1 _ h =>
    ⟨g1, S1, w, sm1, r1, PostR.mono (h.on (R := REq)) fun k H2 ⟨g2, k', S2, _, _, sm2, r, q⟩ => by
      cases (show k = k' from r)
      exact q g2 _ H2 (.refl _ _) sm2 rfl⟩
  refine UnaryOp_ (thn (ha.run pins s σ H _ I h0) fun v s1 ⟨x, H1, I1, r1, q1⟩ => not_of (thn (tru_w pins s1 σ H1 x v _ I1 r1 q1) fun k s2 ⟨H2, I2, q2⟩ => ⟨.bl (!k), H2, I2, rfl, q2⟩))
theorem e_and {rest : List Expr} (ha : PE X a (tE X.K B fa)) (hb : PE X (.BoolOp .And (b :: rest) pos) (tE X.K B fb)) {f : Env → M W} (hf : ∀ ρ, f ρ = (do let x ← fa ρ; let k ← truthW x; if k then fb ρ else pure x)) :
    PE X (.BoolOp .And (a :: b :: rest) pos) (tE X.K B f) := by
  refine ⟨fun pins s σ H Q I ⟨g, ρ, S, rr, sm, h⟩ => ?_⟩
  rw [hf] at h
  have h0 : tE X.K B fa σ H fun x H1 => rT X.K B x H1 fun k H2 => if k = true then tE X.K B fb σ H2 Q else Q x H2 := tE.on rr sm h fun g1 w v S1 H1 rr1 sm1 r1 _ h =>
    ⟨g1, S1, w, sm1, r1, PostR.mono (h.on (R := REq)) fun k H2 ⟨g2, k', S2, _, st2, sm2, r, q⟩ => by
      cases (show k = k' from r)
      cases k with
      | true => rw [if_pos rfl] at q ⊢; exact ⟨g2, ρ, S2, rr1.le st2.1, sm2, q⟩
      | false => exact q g2 _ H2 (.refl _ _) sm2 (RepW.le st2.1 w r1)⟩
  refine BoolOp_and (thn (ha.run pins s σ H _ I h0) fun v s1 ⟨x, H1, I1, r1, q1⟩ => thn (tru_w pins s1 σ H1 x v _ I1 r1 q1) fun k s2 ⟨H2, I2, q2⟩ => ?_)
  cases k with
  | true => exact hb.run pins s2 σ H2 Q I2 q2
  | false => exact ⟨x, H2, I2, r1, q2⟩
theorem e_or {rest : List Expr} (ha : PE X a (tE X.K B fa)) (hb : PE X (.BoolOp .Or (b :: rest) pos) (tE X.K B fb)) {f : Env → M W} (hf : ∀ ρ, f ρ = (do let x ← fa ρ; let k ← truthW x; if k then pure x else fb ρ)) :
    PE X (.BoolOp .Or (a :: b :: rest) pos) (tE X.K B f) := by
  refine ⟨fun pins s σ H Q I ⟨g, ρ, S, rr, sm, h⟩ => ?_⟩
  rw [hf] at h
  have h0 : tE X.K B fa σ H fun x H1 => rT X.K B x H1 fun k H2 => if k = true then Q x H2 else tE X.K B fb σ H2 Q := tE.on rr sm h fun g1 w v S1 H1 rr1 sm1 r1 _ h =>
    ⟨g1, S1, w, sm1, r1, PostR.mono (h.on (R := REq)) fun k H2 ⟨g2, k', S2, _, st2, sm2, r, q⟩ => by
      cases (show k = k' from r)
      cases k with
      | false => exact ⟨g2, ρ, S2, rr1.le st2.1, sm2, q⟩
      | true => rw [if_pos rfl] at q ⊢; exact q g2 _ H2 (.refl _ _) sm2 (RepW.le st2.1 w r1)⟩
  refine BoolOp_or (thn (ha.run pins s σ H _ I h0) fun v s1 ⟨x, H1, I1, r1, q1⟩ => thn (tru_w pins s1 σ H1 x v _ I1 r1 q1) fun k s2 ⟨H2, I2, q2⟩ => ?_)
  cases k with
  | false => exact hb.run pins s2 σ H2 Q I2 q2
  | true => exact ⟨x, H2, I2, r1, q2⟩
/-- a truth that was asked for is asked for again -/
theorem again {γ δ : Type} {K : PySem.W.Frag} {R' : Gh → γ → δ → Prop} {w : W} {S S' : Store} {k : Bool} {g : Gh} {H : Hp} {f : Bool → M γ} {Q : δ → Hp → Prop} (e : truthW w S = .ok k S') (h : PostR K B R' g H ((truthW w >>= f) S') Q) : PostR K B R' g H (f k S') Q := by
  have := truthW_same e
  subst this
  rw [bind_at, e] at h
  exact h
theorem w_and {ftb : Env → M Bool} {rest : List Expr} (ha : PT X a (tT X.K B fun ρ => do let x ← fa ρ; truthW x)) (hb : PW X (.BoolOp .And (b :: rest) pos) (tT X.K B ftb)) (hfb : ∀ ρ, ftb ρ = (do let x ← fb ρ; truthW x)) {f : Env → M Bool}
    (hf : ∀ ρ, f ρ = (do let x ← (do let x ← fa ρ; let k ← truthW x; if k then fb ρ else pure x); truthW x)) : PW X (.BoolOp .And (a :: b :: rest) pos) (tT X.K B f) :=
  (pw_and ha hb).imp fun σ H Q ⟨g, ρ, S, rr, sm, h⟩ => by
    rw [hf, M.assoc] at h
    refine ⟨g, ρ, S, rr, sm, ?_⟩
    dsimp only
    rw [bind_at]
    rw [bind_at] at h
    cases e : fa ρ S with
    | ok w S1 =>
      rw [e] at h
      dsimp only at h ⊢
      rw [M.assoc, bind_at] at h
      cases e1 : truthW w S1 with
      | ok k S2 =>
        rw [e1] at h
        intro g1 k' H1 st sm1 r
        cases (show k' = k from r)
        cases k with
        | true =>
          rw [if_pos rfl]
          refine ⟨g1, ρ, S2, rr.le st.1, sm1, ?_⟩
          rw [hfb]
          exact PostR.step h st
        | false =>
          rw [if_neg Bool.false_ne_true]
          have h : PostR X.K B REq g H ((truthW w >>= fun k => pure k) S2) Q := by
            have := truthW_same e1
            subst this
            have h : PostR X.K B REq g H (truthW w S2) Q := h
            rw [bind_at, e1]
            rw [e1] at h
            exact h
          exact again e1 h g1 false H1 st sm1 rfl
      | exc _ _ _ => rw [e1] at h; exact h
      | bad => rw [e1] at h; exact h
    | exc _ _ _ => rw [e] at h; exact h
    | bad => rw [e] at h; exact h
theorem w_or {ftb : Env → M Bool} {rest : List Expr} (ha : PT X a (tT X.K B fun ρ => do let x ← fa ρ; truthW x)) (hb : PW X (.BoolOp .Or (b :: rest) pos) (tT X.K B ftb)) (hfb : ∀ ρ, ftb ρ = (do let x ← fb ρ; truthW x)) {f : Env → M Bool}
    (hf : ∀ ρ, f ρ = (do let x ← (do let x ← fa ρ; let k ← truthW x; if k then pure x else fb ρ); truthW x)) : PW X (.BoolOp .Or (a :: b :: rest) pos) (tT X.K B f) :=
  (pw_or ha hb).imp fun σ H Q ⟨g, ρ, S, rr, sm, h⟩ => by
    rw [hf, M.assoc] at h
    refine ⟨g, ρ, S, rr, sm, ?_⟩
    dsimp only
    rw [bind_at]
    rw [bind_at] at h
    cases e : fa ρ S with
    | ok w S1 =>
      rw [e] at h
      dsimp only at h ⊢
      rw [M.assoc, bind_at] at h
      cases e1 : truthW w S1 with
      | ok k S2 =>
        rw [e1] at h
        intro g1 k' H1 st sm1 r
        cases (show k' = k from r)
        cases k with
        | false =>
          rw [if_neg Bool.false_ne_true]
          refine ⟨g1, ρ, S2, rr.le st.1, sm1, ?_⟩
          rw [hfb]
          exact PostR.step h st
        | true =>
          rw [if_pos rfl]
          have h : PostR X.K B REq g H ((truthW w >>= fun k => pure k) S2) Q := by
            have := truthW_same e1
            subst this
            have h : PostR X.K B REq g H (truthW w S2) Q := h
            rw [bind_at, e1]
            rw [e1] at h
            exact h
          exact again e1 h g1 true H1 st sm1 rfl
      | exc _ _ _ => rw [e1] at h; exact h
      | bad => rw [e1] at h; exact h
    | exc _ _ _ => rw [e] at h; exact h
    | bad => rw [e] at h; exact h
theorem e_ite {c : Expr} {fx fy : Env → M W} {ft : Env → M Bool} (hc : PT X c (tT X.K B ft)) (ha : PE X a (tE X.K B fx)) (hb : PE X b (tE X.K B fy)) {f : Env → M W} (hf : ∀ ρ, f ρ = (do let k ← ft ρ; if k then fx ρ else fy ρ)) :
    PE X (.IfExp c a b pos) (tE X.K B f) :=
  (pe_ifExp hc ha hb).imp fun σ H Q ⟨g, ρ, S, rr, sm, h⟩ => by
    rw [hf] at h
    refine tT.on rr sm h fun g1 k S1 H1 rr1 sm1 _ h => ?_
    cases k with
    | true => exact ⟨g1, ρ, S1, rr1, sm1, h⟩
    | false => exact ⟨g1, ρ, S1, rr1, sm1, h⟩
end
end Ev

-- part EvF
set_option maxHeartbeats 200000
/-! EvF: calls, methods, subscripts, targets, comprehensions. -/
namespace Ev
open PySem PySem.Spec PyProof.Rows L2

section
variable {X : Cx} {B : List Nat} {a b e : Expr} {es : List Expr} {pos p apos : Pos} {fa fb fc : Env → M W} {fs fs' : Env → M (List W)} {own : Bool}
/-! ### built-in functions -/
theorem bi_red {f : Env → M W} {bt : Blt} (hf : ∀ ρ, f ρ = (do let ws ← fs ρ; bltin own bt ws)) {σ : L2.St} {H : Hp} {Q : VK} (h : tE X.K B f σ H Q) : tCB (rBl X.K B own bt) (tA X.K B fs) σ H Q := by
  obtain ⟨g, ρ, S, rr, sm, h⟩ := h
  rw [hf] at h
  exact tA.on rr sm h fun g1 ws vs S1 H1 _ _ sm1 r1 _ h => ⟨g1, S1, ws, sm1, r1, h⟩
theorem e_bi {id : String} {x : Str} {bt : Blt} (hc : CallR X (.builtin id) (rBl X.K B own bt)) (hv : bootBuiltins x = some (.builtin id)) (hg : Gl X x) (hm : X.mg x = none) (hn : x ≠ "__name__") (hdb : (x == ("__debug__" : Str)) = false)
    (hp : (e :: es).all plainE = true) (ha : PA X (e :: es) (tA X.K B fs)) {f : Env → M W} (hf : ∀ ρ, f ρ = (do let ws ← fs ρ; bltin own bt ws)) : PE X (.Call (.Name x p) (e :: es) [] pos) (tE X.K B f) := by
  rw [List.all_cons, Bool.and_eq_true] at hp
  exact (pe_callB hc hg hm hv ha hn hdb (star_cons hp.1) (star_all hp.2)).imp fun σ H Q h => bi_red hf h
theorem e_ty {T : String} {x : Str} {bt : Blt} (hc : CallR X (.type T) (rBl X.K B own bt)) (hv : bootBuiltins x = some (.type T)) (hg : Gl X x) (hm : X.mg x = none) (hn : x ≠ "__name__") (hdb : (x == ("__debug__" : Str)) = false)
    (hp : (e :: es).all plainE = true) (ha : PA X (e :: es) (tA X.K B fs)) {f : Env → M W} (hf : ∀ ρ, f ρ = (do let ws ← fs ρ; bltin own bt ws)) : PE X (.Call (.Name x p) (e :: es) [] pos) (tE X.K B f) := by
  rw [List.all_cons, Bool.and_eq_true] at hp
  exact (pe_callTy hc hg hm hv ha hn hdb (star_cons hp.1) (star_all hp.2)).imp fun σ H Q h => bi_red hf h
theorem ty_plain {T : Ty} {u : Str} {p2 : Pos} (hu : bootBuiltins u = some (.type (tyName T))) (hg : Gl X u) (hm : X.mg u = none) (hn : u ≠ "__name__") (hdb : (u == ("__debug__" : Str)) = false) : PE X (.Name u p2) (tC (.ty (tyName T))) :=
  pe_bltn hg hm hu rfl hn hdb
theorem e_isa {T : Ty} {u : Str} {p2 : Pos} (bk : Bk X) (hg : Gl X "isinstance") (hm : X.mg "isinstance" = none) (hv : bootBuiltins "isinstance" = some (.builtin "isinstance")) (hu : PE X (.Name u p2) (tC (.ty (tyName T)))) (hp : plainE a = true) (ha : PE X a (tE X.K B fa))
    {f : Env → M W} (hf : ∀ ρ, f ρ = (do let w ← fa ρ; bltin own (.isa T) [w])) : PE X (.Call (.Name "isinstance" p) [a, .Name u p2] [] pos) (tE X.K B f) := by
  refine (pe_callB (blt_isa (own := own) (B := B) bk T) hg hm hv (pa_cons ha (pa_cons hu pa_nil) (star_cons hp)) (by decide) (by decide) (star_cons hp) rfl).imp fun σ H Q ⟨g, ρ, S, rr, sm, h⟩ => ?_
  rw [hf] at h
  exact tE.on rr sm h fun g1 w v S1 H1 _ sm1 r1 _ h => ⟨v, rfl, g1, S1, [w], sm1, ⟨v, [], rfl, r1, rfl⟩, h⟩

/-! ### methods of lists -/
theorem recv_on {γ δ : Type} {K : PySem.W.Frag} {R' : Gh → γ → δ → Prop} {m : Mt} {w : W} {v : V} {g : Gh} {S : Store} {H : Hp} {pins : List (Addr × Obj)} {σ : L2.St} {s : Shared} {f : Unit → M γ} {Q : δ → Hp → Prop} (h : PostR K B R' g H ((recv m w >>= f) S) Q)
    (sm : Sim K B g S H) (r : RepW K g w v) : tyV K "list" v H ∧ PostR K B R' g H (f () S) Q := by
  have key : ∀ n, w = .ref n → PostR K B R' g H ((seqW (.ref n) >>= fun _ => f ()) S) Q → tyV K "list" v H ∧ PostR K B R' g H (f () S) Q := fun n e h' => by
    subst e
    obtain ⟨ws, e, h2⟩ := PostR.seq h'
    refine ⟨?_, h2⟩
    obtain ⟨a, ea, rfl⟩ := r
    have e : (match S[n]? with
      | some (.lst ws) => Out.ok ws S
      | _ => Out.bad) = .ok ws S := e
    cases q : S[n]? with
    | none => rw [q] at e; cases e
    | some c =>
      rw [q] at e
      cases c with
      | gone => cases e
      | lst us =>
        obtain ⟨a', xs, em, _, z, hH, rw'⟩ := sm.cell n _ q
        rw [ea] at em; cases em
        exact .inl ⟨rfl, xs, SqL.of hH⟩
  have fix : ∀ n, PostR K B R' g H (((seqW (.ref n) >>= fun _ => (pure () : M Unit)) >>= f) S) Q → PostR K B R' g H ((seqW (.ref n) >>= fun _ => f ()) S) Q := fun n h => by
    rw [M.assoc] at h
    exact h
  cases w with
  | ref n => cases m <;> first
    | exact key n rfl (fix n h)
    | exact h.elim
  | d x => cases m <;> exact h.elim
  | tup x => cases m <;> exact h.elim
  | fn x => cases m <;> exact h.elim
def noSup : Expr → Bool
  | .Call (.Name _ _) [] [] _ => false
  | _ => true
theorem attr_base {o : Expr} {name : Str} {env : PySem.Env} {whole : Sem Value} (h : noSup o = true) : attributeBase o name env whole = whole := by
  unfold attributeBase
  split
  · exact absurd (show false = true from h) Bool.false_ne_true
  · rfl
theorem lt30 {n : Nat} (h : n < 30) : decide (n + ([] : List Keyword).length + (if ([] : List Keyword).isEmpty then 0 else 1) < 30) = true := by
  simpa using h
theorem few_ok {cpos : Pos} {env : PySem.Env} (hp : es.all plainE = true) (hn : es.length < 30) : ((backTo cpos (starEach es env)).all (fun x => !x.1) && (backToKw cpos (keywordEach [] env)).all (fun x => x.1.isSome)
    && decide (es.length + ([] : List Keyword).length + (if ([] : List Keyword).isEmpty then 0 else 1) < 30)) = true := by
  have h1 : (backTo cpos (starEach es env)).all (fun x => !x.1) = true := by
    have := star_all (env := env) (pos := cpos) hp
    rw [List.any_eq_false] at this
    rw [List.all_eq_true]
    intro x hx
    simpa using this x hx
  rw [h1, lt30 hn]
  rfl
theorem e_met {m : Mt} {id : String} {name : Str} {ba : Nat} (slot : Slot "list" name id) (hty : typeOf (.builtin id) = pure (.type "method_descriptor")) (hmt : MtM X id (rMt X.K B ba m))
    (hb : noSup a = true) (hl : (apos.endLine == pos.line) = true) (hp : (e :: es).all plainE = true) (hn : (e :: es).length < 30) (ho : PE X a (tE X.K B fa)) (ha : PA X (e :: es) (tA X.K B fs)) {f : Env → M W}
    (hf : ∀ ρ, f ρ = (do let w ← fa ρ; let _ ← recv m w; let ws ← fs ρ; method ba m w ws)) : PE X (.Call (.Attribute a name apos) (e :: es) [] pos) (tE X.K B f) := by
  have hp' := hp
  rw [List.all_cons, Bool.and_eq_true] at hp'
  refine (pe_bm PySem.F.plainAttrs_list slot hty hmt ho ha (attr_base hb) (few_ok hp hn) hl (star_cons hp'.1) (star_all hp'.2)).imp fun σ H Q ⟨g, ρ, S, rr, sm, h⟩ => ?_
  rw [hf] at h
  refine tE.on rr sm h fun g1 w v S1 H1 rr1 sm1 r1 _ h => ?_
  obtain ⟨ty, h⟩ := recv_on (pins := []) (σ := []) (s := X.s_0) h sm1 r1
  exact ⟨ty, tA.on rr1 sm1 h fun g2 ws vs S2 H2 _ _ sm2 r2 st h => ⟨g2, S2, w, ws, sm2, RepW.le st.1 w r1, r2, h⟩⟩
theorem e_met0 {m : Mt} {id : String} {name : Str} {ba : Nat} (slot : Slot "list" name id) (hty : typeOf (.builtin id) = pure (.type "method_descriptor")) (hmt : MtM X id (rMt X.K B ba m))
    (hb : noSup a = true) (hl : (apos.endLine == pos.line) = true) (ho : PE X a (tE X.K B fa)) {f : Env → M W}
    (hf : ∀ ρ, f ρ = (do let w ← fa ρ; let _ ← recv m w; let ws ← (pure [] : M (List W)); method ba m w ws)) : PE X (.Call (.Attribute a name apos) [] [] pos) (tE X.K B f) := by
  refine (pe_bm0 PySem.F.plainAttrs_list slot hty hmt ho (attr_base hb) hl).imp fun σ H Q ⟨g, ρ, S, rr, sm, h⟩ => ?_
  rw [hf] at h
  refine tE.on rr sm h fun g1 w v S1 H1 rr1 sm1 r1 _ h => ?_
  obtain ⟨ty, h⟩ := recv_on (pins := []) (σ := []) (s := X.s_0) h sm1 r1
  exact ⟨ty, g1, S1, w, [], sm1, r1, rfl, h⟩

/-! ### subscripts -/
theorem e_sub (hs : PlainIx b) (ha : PE X a (tE X.K B fa)) (hb : PE X b (tE X.K B fb)) {f : Env → M W} (hf : ∀ ρ, f ρ = (do let x ← fa ρ; let y ← fb ρ; subW x y)) : PE X (.Subscript a b pos) (tE X.K B f) :=
  (pe_ix (ix_w (B := B)) ha hb hs).imp fun σ H Q ⟨g, ρ, S, rr, sm, h⟩ => by
    rw [hf] at h
    refine tE.on rr sm h fun g1 x v S1 H1 rr1 sm1 r1 _ h => ?_
    refine tE.on rr1 sm1 h fun g2 y u S2 H2 rr2 sm2 r2 st h => ?_
    exact ⟨g2, S2, x, y, sm2, RepW.le st.1 x r1, r2, h⟩
/-- a part of a slice: none, or an int -/
def tO (K : PySem.W.Frag) (B : List Nat) (f : Env → M W) : TO := fun σ H Q => ∃ g ρ S, RepR K g ρ σ ∧ Sim K B g S H ∧ PostR K B (fun _ w (o : Option Int) => optInt w = some o) g H (f ρ S) Q
theorem o_none {f : Env → M W} (hf : ∀ ρ, f ρ = pure (.d .none)) : PO X none (tO X.K B f) := ⟨fun pins s σ H Q I ⟨g, ρ, S, rr, sm, h⟩ => po_none.run pins s σ H Q I (by rw [hf] at h; exact h g none H (.refl _ _) sm rfl)⟩
theorem asInt_ok {m : M W} {S S' : Store} {w : W} (e : asInt m S = .ok w S') : m S = .ok w S' ∧ ∃ i, w = .d (.int i) := by
  unfold asInt at e
  rw [bind_at] at e
  cases q : m S with
  | ok u S1 =>
    rw [q] at e
    cases u with
    | d x =>
      cases x with
      | int i => cases e; exact ⟨rfl, i, rfl⟩
      | _ => cases e
    | _ => cases e
  | exc _ _ _ => rw [q] at e; cases e
  | bad => rw [q] at e; cases e
/-- an int alone -/
theorem o_some {f : Env → M W} (ha : PE X a (tE X.K B fa)) (hf : ∀ ρ, f ρ = asInt (fa ρ)) : PO X (some a) (tO X.K B f) := ⟨fun pins s σ H Q I ⟨g, ρ, S, rr, sm, h⟩ => (po_some ha).run pins s σ H Q I (by
    rw [hf] at h
    refine ⟨g, ρ, S, rr, sm, ?_⟩
    cases e : asInt (fa ρ) S with
    | ok w S1 =>
      rw [e] at h
      obtain ⟨e1, i, rfl⟩ := asInt_ok e
      rw [e1]
      intro g1 v H1 st sm1 r
      cases (show v = .int i from r)
      exact ⟨i, rfl, h g1 (some i) H1 st sm1 rfl⟩
    | exc _ _ _ => rw [e] at h; exact h.elim
    | bad => rw [e] at h; exact h.elim)⟩
theorem tO.on {K : PySem.W.Frag} {α' β' : Type} {R' : Gh → α' → β' → Prop} {σ : L2.St} {H : Hp} {Q : β' → Hp → Prop} {f : Option Int → M α'} {g : Gh} {ρ : Env} {S : Store} (rr : RepR K g ρ σ) (sm : Sim K B g S H) (h : PostR K B R' g H ((fa ρ >>= fun w => lift (optInt w) >>= f) S) Q)
    {Q' : Option Int → Hp → Prop} (k : ∀ g1 o S1 H1, RepR K g1 ρ σ → Sim K B g1 S1 H1 → Step g H g1 H1 → PostR K B R' g1 H1 (f o S1) Q → Q' o H1) : tO K B fa σ H Q' := by
  refine ⟨g, ρ, S, rr, sm, PostR.mono (h.on (R := fun _ w (o : Option Int) => optInt w = some o)) fun o H1 ⟨g1, w, S1, _, st, sm1, r, q⟩ => ?_⟩
  have r : optInt w = some o := r
  rw [bind_at] at q
  unfold lift at q
  rw [r] at q
  exact k g1 o S1 H1 (rr.le st.1) sm1 st q
theorem e_slc {lo hi : Option Expr} {fl fu : Env → M W} {p2 : Pos} (ha : PE X a (tE X.K B fa)) (hl : PO X lo (tO X.K B fl)) (hu : PO X hi (tO X.K B fu)) {f : Env → M W}
    (hf : ∀ ρ, f ρ = (do let x ← fa ρ; let l ← fl ρ; let lo' ← lift (optInt l); let u ← fu ρ; let hi' ← lift (optInt u); sliceW own x lo' hi')) : PE X (.Subscript a (.Slice lo hi none p2) pos) (tE X.K B f) :=
  (pe_slice (sl_w (B := B) (own := own)) ha hl hu).imp fun σ H Q ⟨g, ρ, S, rr, sm, h⟩ => by
    rw [hf] at h
    refine tE.on rr sm h fun g1 x v S1 H1 rr1 sm1 r1 _ h => ?_
    refine tO.on rr1 sm1 h fun g2 l S2 H2 rr2 sm2 st2 h => ?_
    refine tO.on rr2 sm2 h fun g3 u S3 H3 rr3 sm3 st3 h => ?_
    exact ⟨g3, S3, x, sm3, RepW.le (st2.trans st3).1 x r1, h⟩

/-! ### calls of defs -/
/-- what a def promises by the evaluator -/
def spF (K : PySem.W.Frag) (n : Nat) (φ : List W → M W) : Sp := fun vs H Q E => vs.length = n ∧ ∃ B g S ws, Sim K B g S H ∧ RepWs K g ws vs ∧ PostR K B (RepW K) g H (φ ws S) Q
theorem e_call {k : Nat} {f : Addr} {fd : FuncData} {ps : List Str} {x : Str} {φ : List W → M W} (F : FnG X.prog X.w X.K X.mg X.base CX0 k f fd ps (spF X.K ps.length φ)) (hr : Roomy k X.A) (hg : Gl X x) (hm : X.mg x = some (.ref f)) (hk : PySem.W.keepIn X.K (.ref f) = true)
    (hb : Binds X.K fd ps []) (hdb : (x == ("__debug__" : Str)) = false) (hp : es.all plainE = true) (hl : ∀ ρ S ws S', fs ρ S = .ok ws S' → ws.length = ps.length) (ha : PA X es (tA X.K B fs)) {ff : Env → M W} (hf : ∀ ρ, ff ρ = (do let ws ← fs ρ; φ ws)) :
    PE X (.Call (.Name x p) es [] pos) (tE X.K B ff) :=
  (pe_callG F hr hg hm hk hb (E := E0) (fun _ _ _ _ _ _ _ h => h.elim) ha hp hdb).imp fun σ H Q ⟨g, ρ, S, rr, sm, h⟩ => by
    rw [hf] at h
    exact tA.on rr sm h fun g1 ws vs S1 H1 e _ sm1 r1 _ h => ⟨by rw [r1.length]; exact hl _ _ _ _ e, B, g1, S1, ws, sm1, r1, h⟩
theorem kw_look {p : Str} : ∀ {vs : List V} {us : List Value}, Vals vs us → ∀ (ks : List Str), (∀ v, (ks.zip vs).lookup p = some v → ∃ u, (ks.zip us).lookup p = some u ∧ RelV v u) ∧ ((ks.zip vs).lookup p = none → (ks.zip us).lookup p = none)
  | [], _, .nil, ks => by simp
  | v :: vs, _, .cons r t, [] => by simp
  | v :: vs, u :: us, .cons r t, k :: ks => by
    obtain ⟨i1, i2⟩ := kw_look (p := p) t ks
    rw [List.zip_cons_cons, List.zip_cons_cons, List.lookup_cons, List.lookup_cons]
    cases hk : (p == k) with
    | true => exact ⟨fun v e => by cases e; exact ⟨u, rfl, r⟩, fun e => by cases e⟩
    | false => exact ⟨i1, i2⟩
theorem kw_lookW {K : PySem.W.Frag} {g : Gh} {p : Str} : ∀ {ws : List W} {vs : List V}, RepWs K g ws vs → ∀ (ks : List Str) {w : W}, (ks.zip ws).lookup p = some w → ∃ v, (ks.zip vs).lookup p = some v ∧ RepW K g w v
  | [], _, r, ks, w, e => by simp at e
  | w :: ws, _, r, [], _, e => by simp at e
  | w :: ws, _, r, k :: ks, w', e => by
    obtain ⟨v, vs, rfl, r1, r2⟩ := r
    rw [List.zip_cons_cons, List.lookup_cons] at e ⊢
    cases hk : (p == k) with
    | true => rw [hk] at e; cases e; exact ⟨v, rfl, r1⟩
    | false => rw [hk] at e; exact kw_lookW r2 ks e
theorem kwR_W {K : PySem.W.Frag} {g : Gh} {ks : List Str} {ws : List W} {vs : List V} (r : RepWs K g ws vs) : ∀ {ps : List Str} {rw' : List W}, (ps.mapM fun p => (ks.zip ws).lookup p) = some rw' → ∃ rv, (ps.mapM fun p => (ks.zip vs).lookup p) = some rv ∧ RepWs K g rw' rv
  | [], _, e => by
    rw [List.mapM_nil] at e
    cases e
    exact ⟨[], by rw [List.mapM_nil]; rfl, rfl⟩
  | p :: ps, _, e => by
    rw [List.mapM_cons] at e
    cases e1 : (ks.zip ws).lookup p with
    | none => rw [e1] at e; cases e
    | some w =>
      rw [e1] at e
      cases e2 : (ps.mapM fun p => (ks.zip ws).lookup p) with
      | none =>
        have e : ((ps.mapM fun p => (ks.zip ws).lookup p) >>= fun y => pure (w :: y)) = some _ := e
        rw [e2] at e; cases e
      | some r' =>
        have e : ((ps.mapM fun p => (ks.zip ws).lookup p) >>= fun y => pure (w :: y)) = some _ := e
        rw [e2] at e
        cases e
        obtain ⟨v, q1, q2⟩ := kw_lookW r ks e1
        obtain ⟨rv, q3, q4⟩ := kwR_W r e2
        exact ⟨v :: rv, by rw [List.mapM_cons, q1, q3]; rfl, ⟨v, rv, rfl, q2, q4⟩⟩
theorem kwR_V {ks : List Str} {vs : List V} {us : List Value} (r : Vals vs us) : ∀ {ps : List Str} {rv : List V}, (ps.mapM fun p => (ks.zip vs).lookup p) = some rv → ∃ ru, (ps.mapM fun p => (ks.zip us).lookup p) = some ru ∧ Vals rv ru
  | [], _, e => by
    rw [List.mapM_nil] at e
    cases e
    exact ⟨[], by rw [List.mapM_nil]; rfl, .nil⟩
  | p :: ps, _, e => by
    rw [List.mapM_cons] at e
    cases e1 : (ks.zip vs).lookup p with
    | none => rw [e1] at e; cases e
    | some w =>
      rw [e1] at e
      cases e2 : (ps.mapM fun p => (ks.zip vs).lookup p) with
      | none =>
        have e : ((ps.mapM fun p => (ks.zip vs).lookup p) >>= fun y => pure (w :: y)) = some _ := e
        rw [e2] at e; cases e
      | some r' =>
        have e : ((ps.mapM fun p => (ks.zip vs).lookup p) >>= fun y => pure (w :: y)) = some _ := e
        rw [e2] at e
        cases e
        obtain ⟨u, q1, q2⟩ := (kw_look r ks).1 w e1
        obtain ⟨rv, q3, q4⟩ := kwR_V r e2
        exact ⟨u :: rv, by rw [List.mapM_cons, q1, q3]; rfl, .cons q2 q4⟩
/-- how a call with these keywords binds -/
def KwB (K : PySem.W.Frag) (fd : FuncData) (ps : List Str) (np : Nat) (ks : List Str) : Prop :=
  ∀ (s : Shared) (us ws r : List Value), K.In s.heap → us.length = np → ws.length = ks.length → kwR ps np ks ws = some r → BindsTo s fd ⟨us, ks.zip ws⟩ (ps.zip (us ++ r))
def kwNames : List Keyword → List Str
  | [] => []
  | ⟨some n, _, _⟩ :: r => n :: kwNames r
  | ⟨none, _, _⟩ :: r => kwNames r
def kwVals : List Keyword → List Expr
  | [] => []
  | ⟨_, v, _⟩ :: r => v :: kwVals r
def kwAll : List Keyword → Bool
  | [] => true
  | ⟨some _, _, _⟩ :: r => kwAll r
  | ⟨none, _, _⟩ :: _ => false
theorem kw_facts {env : PySem.Env} : ∀ {kws : List Keyword}, kwAll kws = true → (backToKw pos (keywordEach kws env)).all (·.1.isSome) = true ∧ (backToKw pos (keywordEach kws env)).filterMap (·.1) = kwNames kws ∧ (backToKw pos (keywordEach kws env)).any (·.1.isNone) = false
  | [], _ => ⟨rfl, rfl, rfl⟩
  | ⟨some n, v, q⟩ :: r, h => by
    obtain ⟨h1, h2, h3⟩ := kw_facts (env := env) (kws := r) h
    refine ⟨?_, ?_, ?_⟩
    · show (true && (backToKw pos (keywordEach r env)).all (·.1.isSome)) = true
      rw [h1]; rfl
    · show n :: (backToKw pos (keywordEach r env)).filterMap (·.1) = n :: kwNames r
      rw [h2]
    · show (false || (backToKw pos (keywordEach r env)).any (·.1.isNone)) = false
      rw [h3]; rfl
  | ⟨none, v, q⟩ :: r, h => by cases h
theorem k_nil {f : Env → M (List W)} (hf : ∀ ρ, f ρ = pure []) : PK X [] (tA X.K B f) := ⟨fun pos pins s σ H Q I ⟨g, ρ, S, rr, sm, h⟩ => pk_nil.run pos pins s σ H Q I (by
    rw [hf] at h
    exact h g [] H (.refl _ _) sm rfl)⟩
theorem k_cons {kws : List Keyword} {nm : Option Str} {kp : Pos} (ha : PE X e (tE X.K B fa)) (hr : PK X kws (tA X.K B fs)) {f : Env → M (List W)} (hf : ∀ ρ, f ρ = (do let w ← fa ρ; let ws ← fs ρ; pure (w :: ws))) : PK X (⟨nm, e, kp⟩ :: kws) (tA X.K B f) :=
  ⟨fun pos pins s σ H Q I ⟨g, ρ, S, rr, sm, h⟩ => (pk_cons ha hr).run pos pins s σ H Q I (by
    rw [hf] at h
    refine tE.on rr sm h fun g1 w v S1 H1 rr1 sm1 r1 _ h => ?_
    refine tA.on rr1 sm1 h fun g2 ws vs S2 H2 _ rr2 sm2 r2 st h => ?_
    exact h g2 (v :: vs) H2 (.refl _ _) sm2 ⟨v, vs, rfl, RepW.le st.1 w r1, r2⟩)⟩
theorem mapM_len {α : Type} {f : Str → Option α} : ∀ {ps : List Str} {r : List α}, ps.mapM f = some r → r.length = ps.length
  | [], _, e => by rw [List.mapM_nil] at e; cases e; rfl
  | p :: ps, _, e => by
    rw [List.mapM_cons] at e
    cases e1 : f p with
    | none => rw [e1] at e; cases e
    | some w =>
      rw [e1] at e
      cases e2 : ps.mapM f with
      | none =>
        have e : (ps.mapM f >>= fun y => pure (w :: y)) = some _ := e
        rw [e2] at e; cases e
      | some r' =>
        have e : (ps.mapM f >>= fun y => pure (w :: y)) = some _ := e
        rw [e2] at e
        cases e
        rw [List.length_cons, List.length_cons, mapM_len e2]
theorem e_callk {k : Nat} {f : Addr} {fd : FuncData} {ps ks : List Str} {kws : List Keyword} {x : Str} {φ : List W → M W} {φk : List W → List W → M W} {fk : Env → M (List W)} (F : FnG X.prog X.w X.K X.mg X.base CX0 k f fd ps (spF X.K ps.length φ)) (hr : Roomy k X.A)
    (hg : Gl X x) (hm : X.mg x = some (.ref f)) (hk : PySem.W.keepIn X.K (.ref f) = true) (hb : KwB X.K fd ps es.length ks) (hdb : (x == ("__debug__" : Str)) = false) (hp : es.all plainE = true) (hnp : es.length ≤ ps.length) (hall : kwAll kws = true) (hks : kwNames kws = ks)
    (hl : ∀ ρ S ws S', fs ρ S = .ok ws S' → ws.length = es.length) (hlk : ∀ ρ S ws S', fk ρ S = .ok ws S' → ws.length = ks.length) (ha : PA X es (tA X.K B fs)) (h0 : es = [] → ∀ ρ, fs ρ = pure []) (hkw : PK X kws (tA X.K B fk))
    (hφ : ∀ ws us, φk ws us = (match kwR ps ws.length ks us with
      | some r => φ (ws ++ r)
      | none => bad)) {ff : Env → M W} (hf : ∀ ρ, ff ρ = (do let ws ← fs ρ; let us ← fk ρ; φk ws us)) : PE X (.Call (.Name x p) es kws pos) (tE X.K B ff) := by
  refine ⟨fun pins s σ H Q I ⟨g, ρ, S, rr, sm, h⟩ => wpAny_Call_Name_kw (ld_glob I hg hm ?_ hdb)⟩
  rw [hf] at h
  obtain ⟨h1, h2, h3⟩ := kw_facts (pos := pos) (env := X.env) hall
  have fin : ∀ {s2 : Shared} {H2 : Hp} {g1 g2 : Gh} {ws us : List W} {vs zs : List V} {as bs : List Value} {S1 S2 : Store}, Inv X pins σ H2 s2 → Vals vs as → Vals zs bs → Sim X.K B g2 S2 H2 → RepWs X.K g2 ws vs → RepWs X.K g2 us zs → ws.length = es.length → us.length = ks.length →
      PostR X.K B (RepW X.K) g2 H2 (φk ws us S2) Q → wpAny (model X.prog X.w) X.A (call (.ref f) as (ks.zip bs)) (EP X pins σ Q) X.xe s2 := fun {s2 H2 g1 g2 ws us vs zs as bs S1 S2} I2 rv rz sm2 r1 r2 l1 l2 h => by
    rw [hφ] at h
    cases e : kwR ps ws.length ks us with
    | none => rw [e] at h; exact h.elim
    | some r =>
      rw [e] at h
      rw [l1] at e
      obtain ⟨rV, e1, q1⟩ := kwR_W r2 e
      obtain ⟨rU, e2, q2⟩ := kwR_V rz e1
      have lv := rv.length
      have lz := rz.length
      have lw := r1.length
      have lu := r2.length
      refine F.runs (args := ⟨as, ks.zip bs⟩) (E := E0) hr (fun _ _ _ _ _ _ _ h => h.elim) I2 (hb s2 as bs rU I2.kIn (by omega) (by omega) e2) (rv.append q2) ⟨?_, B, g2, S2, ws ++ r, sm2, r1.append q1, h⟩
      have := mapM_len e1
      rw [List.length_append, this, List.length_drop]
      omega
  cases es with
  | nil =>
    rw [h0 rfl, M.pure_bind'] at h
    refine PySem.W.callWith_KW0 (h₀ := X.base) I.ok.mod.kin hk h1 ?_ (by rw [h3]; rfl)
    rw [h2, hks]
    refine thn (hkw.run pos pins s σ H (fun zs H2 => ∃ g2 S2 us, Sim X.K B g2 S2 H2 ∧ RepWs X.K g2 us zs ∧ us.length = ks.length ∧ PostR X.K B (RepW X.K) g2 H2 (φk [] us S2) Q) I
      (tA.on rr sm h fun g2 us zs S2 H2 e2 _ sm2 r2 st h => ⟨g2, S2, us, sm2, r2, hlk _ _ _ _ e2, h⟩)) fun bs s2 ⟨zs, H2, I2, rz, g2, S2, us, sm2, r2, l2, h⟩ => ⟨I2.kIn, ?_⟩
    exact fin (g1 := g2) (S1 := S2) (vs := []) (ws := []) I2 .nil rz sm2 rfl r2 rfl l2 h
  | cons e r =>
    have hp' := hp
    rw [List.all_cons, Bool.and_eq_true] at hp'
    refine PySem.W.callWith_KW (h₀ := X.base) I.ok.mod.kin hk h1 (thn (ha.run pos pins s σ H (fun vs H1 => tA X.K B fk σ H1 fun zs H2 => ∃ g2 S2 ws us, Sim X.K B g2 S2 H2 ∧ RepWs X.K g2 ws vs ∧ RepWs X.K g2 us zs ∧ ws.length = (e :: r).length ∧ us.length = ks.length ∧ PostR X.K B (RepW X.K) g2 H2 (φk ws us S2) Q) I
      (tA.on rr sm h fun g1 ws vs S1 H1 e1 rr1 sm1 r1 _ h => tA.on rr1 sm1 h fun g2 us zs S2 H2 e2 _ sm2 r2 st h => ⟨g2, S2, ws, us, sm2, RepWs.le st.1 ws r1, r2, hl _ _ _ _ e1, hlk _ _ _ _ e2, h⟩)) fun as s1 ⟨vs, H1, I1, rv, q⟩ => ?_)
      (by rw [h3, star_all hp]; rfl) (star_cons hp'.1)
    refine thn (hkw.run pos pins s1 σ H1 _ I1 q) fun bs s2 ⟨zs, H2, I2, rz, g2, S2, ws, us, sm2, r1, r2, l1, l2, h⟩ => ⟨I2.kIn, ?_⟩
    rw [h2, hks]
    exact fin (g1 := g2) (S1 := S2) I2 rv rz sm2 r1 r2 l1 l2 h
end
end Ev

-- part EvG
set_option maxHeartbeats 200000
/-! EvG: targets, what is walked, comprehensions. -/
namespace Ev
open PySem PySem.Spec PyProof.Rows L2

/-! ### targets -/
mutual
def tgVars : Tg → List Nat
  | .nm i => [i]
  | .tp ts => tgsVars ts
def tgsVars : List Tg → List Nat
  | [] => []
  | t :: ts => tgVars t ++ tgsVars ts
end
/-- outside of vs nothing is changed -/
def Out1 (vs : List Nat) (σ σ' : L2.St) : Prop := ∀ j : Nat, j ∉ vs → σ'[j]? = σ[j]?
def gT (K : PySem.W.Frag) (t : Tg) : TG := fun v σ H Q => ∃ g ρ ρ' w, RepR K g ρ σ ∧ HLe g.h H ∧ RepW K g w v ∧ assignTg t w ρ = some ρ' ∧ ∀ σ', RepR K g ρ' σ' → Out1 (tgVars t) σ σ' → Q σ' H
def gTs (K : PySem.W.Frag) (ts : List Tg) : TGs := fun vs σ H Q => ∃ g ρ ρ' ws, RepR K g ρ σ ∧ HLe g.h H ∧ RepWs K g ws vs ∧ assignTgs ts ws ρ = some ρ' ∧ ∀ σ', RepR K g ρ' σ' → Out1 (tgsVars ts) σ σ' → Q σ' H
theorem _root_.L2.PG.imp {X : Cx} {e : Expr} {t t' : TG} (h : PG X e t) (q : ∀ v σ H Q, t' v σ H Q → t v σ H Q) : PG X e t' := ⟨fun pins s σ H v u Q I r hw => h.run pins s σ H v u Q I r (q v σ H Q hw)⟩
theorem _root_.L2.PGs.imp {X : Cx} {e : List Expr} {t t' : TGs} (h : PGs X e t) (q : ∀ v σ H Q, t' v σ H Q → t v σ H Q) : PGs X e t' := ⟨fun pins s σ H v u Q I r hw => h.run pins s σ H v u Q I r (q v σ H Q hw)⟩
section
variable {X : Cx} {B : List Nat} {e : Expr} {es : List Expr} {pos p : Pos}
theorem g_nm {i : Nat} {x : Str} (hN : X.N.Nodup) (hi : X.N[i]? = some x) (hx : Loc X.env.scope x) (hf : X.fn x = true ∨ X.env.scope.names.lookup x = some .local) : PG X (.Name x pos) (gT X.K (.nm i)) :=
  (pg_name hN hi hx hf).imp fun v σ H Q ⟨g, ρ, ρ', w, rr, hl, r, e, q⟩ => by
    have e : (if i < ρ.length then some (ρ.set i (some w)) else none) = some ρ' := e
    split at e
    · cases e
      exact q _ (rr.set r) fun j hj => List.getElem?_set_ne fun z => hj (by rw [z]; exact List.mem_singleton.mpr rfl)
    · cases e
theorem gs_nil : PGs X [] (gTs X.K []) := pgs_nil.imp fun vs σ H Q ⟨g, ρ, ρ', ws, rr, hl, r, e, q⟩ => by
  cases ws with
  | nil => cases e; exact ⟨r, q σ rr fun _ _ => rfl⟩
  | cons _ _ => cases e
theorem assign_cons {env : PySem.Env} (hp : plainE e = true) : (assignEach (e :: es) env).map (·.2) = assign e env :: (assignEach es env).map (·.2) := by
  cases e <;> first
    | rfl
    | cases hp
theorem gs_cons {t : Tg} {ts : List Tg} (hp : plainE e = true) (h1 : PG X e (gT X.K t)) (h2 : PGs X es (gTs X.K ts)) : PGs X (e :: es) (gTs X.K (t :: ts)) :=
  (pgs_cons h1 h2 (assign_cons hp)).imp fun vs σ H Q ⟨g, ρ, ρ', ws, rr, hl, r, e, q⟩ => by
    cases ws with
    | nil => cases e
    | cons w ws =>
      obtain ⟨v, vs', rfl, r1, r2⟩ := r
      have e : (match assignTg t w ρ with
        | some ρ1 => assignTgs ts ws ρ1
        | none => none) = some ρ' := e
      cases e1 : assignTg t w ρ with
      | none => rw [e1] at e; cases e
      | some ρ1 =>
        rw [e1] at e
        refine ⟨v, vs', rfl, g, ρ, ρ1, w, rr, hl, r1, e1, fun σ1 rr1 o1 => ⟨g, ρ1, ρ', ws, rr1, hl, r2, e, fun σ2 rr2 o2 => q σ2 rr2 fun j hj => ?_⟩⟩
        have hj : j ∉ tgVars t ++ tgsVars ts := hj
        rw [List.mem_append, not_or] at hj
        rw [o2 j hj.2, o1 j hj.1]
theorem assigns_len : ∀ {ts : List Tg} {ws : List W} {ρ ρ' : Env}, assignTgs ts ws ρ = some ρ' → ws.length = ts.length
  | [], [], _, _, _ => rfl
  | [], _ :: _, _, _, e => by cases e
  | _ :: _, [], _, _, e => by cases e
  | t :: ts, w :: ws, ρ, ρ', e => by
    have e : (match assignTg t w ρ with
      | some ρ1 => assignTgs ts ws ρ1
      | none => none) = some ρ' := e
    split at e
    · rw [List.length_cons, List.length_cons, assigns_len e]
    · cases e
theorem assign_each {env : PySem.Env} : ∀ {es : List Expr}, es.all plainE = true → (assignEach es env).length = es.length ∧ (assignEach es env).findIdx? (·.1) = none
  | [], _ => ⟨rfl, rfl⟩
  | e :: es, h => by
    rw [List.all_cons, Bool.and_eq_true] at h
    obtain ⟨h1, h2⟩ := assign_each (env := env) h.2
    have e0 : assignEach (e :: es) env = (false, assign e env) :: assignEach es env := by
      cases e <;> first
        | rfl
        | cases h.1
    rw [e0]
    refine ⟨by rw [List.length_cons, List.length_cons, h1], ?_⟩
    rw [List.findIdx?_cons]
    simp [h2]
theorem g_tp {ts : List Tg} {k : Nat} (hc : X.calm = true) (hl : es.length = ts.length) (hp : es.all plainE = true) (h : PGs X es (gTs X.K ts)) : PG X (.Tuple es k pos) (gT X.K (.tp ts)) := by
  obtain ⟨h1, h2⟩ := assign_each (env := X.env) hp
  refine (pg_tup hc h (h1.trans hl) h2).imp fun v σ H Q ⟨g, ρ, ρ', w, rr, hle, r, e, q⟩ => ?_
  cases w with
  | d x =>
    cases x with
    | tuple ds =>
      have e : assignTgs ts (ds.map .d) ρ = some ρ' := e
      obtain ⟨z, a, xs, rfl, l, r⟩ := r
      exact ⟨a, xs, rfl, SqT.le hle l, by rw [r.length]; simpa using assigns_len e, g, ρ, ρ', _, rr, hle, RepWs.map r, e, q⟩
    | _ => cases e
  | tup ws =>
    have e : assignTgs ts ws ρ = some ρ' := e
    obtain ⟨z, a, xs, rfl, l, r⟩ := r
    exact ⟨a, xs, rfl, SqT.le hle l, by rw [r.length]; exact assigns_len e, g, ρ, ρ', _, rr, hle, r, e, q⟩
  | ref n => cases e
  | fn i => cases e
theorem assign_mk {ts : List Tg} {ws : List W} {ρ : Env} : assignTg (.tp ts) (mkTup ws) ρ = assignTgs ts ws ρ := by
  unfold mkTup
  cases e : allData ws with
  | none => rfl
  | some ds =>
    rw [allData_some e]
    rfl
end

/-! ### what is walked -/
structure WalkOk (K : PySem.W.Frag) (B : List Nat) (g : Gh) (ys : List W) (J : It) : Prop where
  to : ∃ (G : Hp → Prop) (Y : Nat → Hp → V → Hp → Prop), Walk J ys.length G Y ∧ (∀ g' S' H', g.le g' → Sim K B g' S' H' → G H') ∧
    ∀ i H x H' g' S' w, Y i H x H' → g.le g' → Sim K B g' S' H → ys[i]? = some w → ∃ g2, Step g' H g2 H' ∧ Sim K B g2 S' H' ∧ RepW K g2 w x
def tI (K : PySem.W.Frag) (B : List Nat) (f : Env → M (List W)) : TI := fun σ H R => ∃ g ρ S, RepR K g ρ σ ∧ Sim K B g S H ∧ PostR K B (WalkOk K B) g H (f ρ S) R
section
variable {X : Cx} {B : List Nat} {e tg : Expr} {es : List Expr} {pos p : Pos} {fa : Env → M W} {fs : Env → M (List W)}
theorem still_on {γ δ : Type} {K : PySem.W.Frag} {R' : Gh → γ → δ → Prop} {w : W} {v : V} {g : Gh} {S : Store} {H : Hp} {f : List W → M γ} {Q : δ → Hp → Prop} (h : PostR K B R' g H ((stillW w >>= f) S) Q) (r : RepW K g w v) :
    ∃ ws, PostR K B R' g H (f ws S) Q ∧ ws.length ≤ sizeLine ∧ ∃ a xs, v = .ref a ∧ RepWs K g ws xs ∧ (SqL K g.h a xs ∨ SqT K g.h a xs) := by
  cases w with
  | d x =>
    cases x with
    | list ds => obtain ⟨z, a, xs, rfl, l, q⟩ := r; exact ⟨_, h, by simpa using z, a, xs, rfl, RepWs.map q, .inl l.sq⟩
    | tuple ds => obtain ⟨z, a, xs, rfl, l, q⟩ := r; exact ⟨_, h, by simpa using z, a, xs, rfl, RepWs.map q, .inr l⟩
    | _ => exact h.elim
  | tup ws => obtain ⟨z, a, xs, rfl, l, q⟩ := r; exact ⟨_, h, z, a, xs, rfl, q, .inr l⟩
  | ref n => exact h.elim
  | fn i => exact h.elim
theorem walk_at {K : PySem.W.Frag} {g : Gh} {ws : List W} {xs : List V} (r : RepWs K g ws xs) {i : Nat} {H : Hp} {x : V} {H' : Hp} {g' : Gh} {S' : Store} {w : W} (y : YAt xs i H x H') (l : g.le g') (sm : Sim K B g' S' H) (e : ws[i]? = some w) :
    ∃ g2, Step g' H g2 H' ∧ Sim K B g2 S' H' ∧ RepW K g2 w x := by
  obtain ⟨rfl, e2⟩ := y
  obtain ⟨v, e3, rv⟩ := r.get e
  rw [e3] at e2; cases e2
  exact ⟨g', .refl _ _, sm, RepW.le l w rv⟩
theorem walk_pair {a b : W} {xs ys : Nat → Option V} {i : Nat} {H : Hp} {x : V} {H' : Hp} {g' : Gh} {S' : Store} (y : YPair xs ys i H x H') (sm : Sim X.K B g' S' H) (ra : ∀ v, xs i = some v → RepW X.K g' a v) (rb : ∀ v, ys i = some v → RepW X.K g' b v) :
    ∃ g2, Step g' H g2 H' ∧ Sim X.K B g2 S' H' ∧ RepW X.K g2 (mkTup [a, b]) x := by
  obtain ⟨T, u, v, rfl, hT, rfl, e1, e2⟩ := y
  obtain ⟨g2, sm2, st, r⟩ := made_tup (ws := [a, b]) sm (by show 2 ≤ sizeLine; decide) ⟨u, [v], rfl, ra u e1, v, [], rfl, rb v e2, rfl⟩ hT
  exact ⟨g2, st, sm2, r⟩
theorem walk_seq {K : PySem.W.Frag} {g : Gh} {ws : List W} {xs : List V} {a : Addr} (r : RepWs K g ws xs) (h : SqL K g.h a xs) : WalkOk K B g ws (Itl K a) :=
  ⟨fun H => SqL K H a xs, YAt xs, by rw [← r.length]; exact walk_list, fun g' S' H' l sm => SqL.le (fun b o e => sm.sub _ _ (l.1 _ _ e)) h, fun i H x H' g' S' w y l sm e => walk_at r y l sm e⟩
theorem walk_seqT {K : PySem.W.Frag} {g : Gh} {ws : List W} {xs : List V} {a : Addr} (r : RepWs K g ws xs) (h : SqT K g.h a xs) : WalkOk K B g ws (Itt K a) :=
  ⟨fun H => SqT K H a xs, YAt xs, by rw [← r.length]; exact walk_tup, fun g' S' H' l sm => SqT.le (fun b o e => sm.sub _ _ (l.1 _ _ e)) h, fun i H x H' g' S' w y l sm e => walk_at r y l sm e⟩
theorem enumW_len : ∀ (k : Nat) (ws : List W), (enumW k ws).length = ws.length
  | _, [] => rfl
  | k, w :: ws => by unfold enumW; rw [List.length_cons, List.length_cons, enumW_len (k + 1) ws]
theorem enumW_at : ∀ (k : Nat) (ws : List W) (i : Nat) (w : W), (enumW k ws)[i]? = some w → ∃ u, ws[i]? = some u ∧ w = mkTup [.d (.int ((k + i : Nat) : Int)), u]
  | k, [], i, w, e => by simp [enumW] at e
  | k, u :: ws, 0, w, e => by
    unfold enumW at e
    simp at e
    exact ⟨u, rfl, e.symm⟩
  | k, u :: ws, i + 1, w, e => by
    unfold enumW at e
    rw [List.getElem?_cons_succ] at e
    obtain ⟨u', e1, e2⟩ := enumW_at (k + 1) ws i w e
    refine ⟨u', by rw [List.getElem?_cons_succ]; exact e1, ?_⟩
    rw [e2, show k + 1 + i = k + (i + 1) by omega]
theorem walk_en {g : Gh} {ws : List W} {xs : List V} {a : Addr} (r : RepWs X.K g ws xs) (h : SqL X.K g.h a xs) : WalkOk X.K B g (enumW 0 ws) (Ite X.K a) :=
  ⟨fun H => SqL X.K H a xs, YPair (fun i => some (.int (i : Nat))) (fun i => xs[i]?), by rw [enumW_len, ← r.length]; exact walk_enum, fun g' S' H' l sm => SqL.le (fun b o e => sm.sub _ _ (l.1 _ _ e)) h, fun i H x H' g' S' w y l sm e => by
    obtain ⟨u, e1, rfl⟩ := enumW_at 0 ws i w e
    obtain ⟨v, e3, rv⟩ := r.get e1
    refine walk_pair y sm (fun v' q => by cases q; show V.int _ = V.int _; rw [Nat.zero_add]) fun v' q => ?_
    rw [e3] at q; cases q
    exact RepW.le l u rv⟩
theorem walk_enT {g : Gh} {ws : List W} {xs : List V} {a : Addr} (r : RepWs X.K g ws xs) (h : SqT X.K g.h a xs) : WalkOk X.K B g (enumW 0 ws) (IteT X.K a) :=
  ⟨fun H => SqT X.K H a xs, YPair (fun i => some (.int (i : Nat))) (fun i => xs[i]?), by rw [enumW_len, ← r.length]; exact walk_enumT, fun g' S' H' l sm => SqT.le (fun b o e => sm.sub _ _ (l.1 _ _ e)) h, fun i H x H' g' S' w y l sm e => by
    obtain ⟨u, e1, rfl⟩ := enumW_at 0 ws i w e
    obtain ⟨v, e3, rv⟩ := r.get e1
    refine walk_pair y sm (fun v' q => by cases q; show V.int _ = V.int _; rw [Nat.zero_add]) fun v' q => ?_
    rw [e3] at q; cases q
    exact RepW.le l u rv⟩
theorem rangeL_at {lo : Int} {n i : Nat} {w : W} (e : (rangeL lo n)[i]? = some w) : w = .d (.int (lo + i)) := by
  unfold rangeL at e
  rw [List.getElem?_map] at e
  cases q : (List.range n)[i]? with
  | none => rw [q] at e; cases e
  | some j =>
    rw [q] at e
    have := List.getElem?_eq_some_iff.mp q
    obtain ⟨h1, h2⟩ := this
    simp at h2
    subst h2
    exact (Option.some.inj e).symm
theorem rangeL_len {lo : Int} {n : Nat} : (rangeL lo n).length = n := by unfold rangeL; simp
theorem walk_rg {K : PySem.W.Frag} {g : Gh} {lo : Int} {n : Nat} : WalkOk K B g (rangeL lo n) (Itr lo n) :=
  ⟨fun _ => True, YFn fun i => .int (lo + i), by rw [rangeL_len]; exact walk_range, fun _ _ _ _ _ => trivial, fun i H x H' g' S' w y l sm e => by
    obtain ⟨rfl, rfl⟩ := y
    rw [rangeL_at e]
    exact ⟨g', .refl _ _, sm, rfl⟩⟩
theorem i_seq (ha : PE X e (tE X.K B fa)) {f : Env → M (List W)} (hf : ∀ ρ, f ρ = (do let w ← fa ρ; yields .seq [w])) : PI X tg e (tI X.K B f) :=
  (pi_seq ha).imp fun σ H R ⟨g, ρ, S, rr, sm, h⟩ => by
    rw [hf] at h
    refine tE.on rr sm h fun g1 w v S1 H1 _ sm1 r1 _ h => ?_
    have h : PostR X.K B (WalkOk X.K B) g1 H1 ((stillW w >>= pure) S1) R := by
      have h : PostR X.K B (WalkOk X.K B) g1 H1 (stillW w S1) R := h
      rw [bind_at]
      cases e : stillW w S1 <;> rw [e] at h <;> exact h
    obtain ⟨ws, h, _, a, xs, rfl, r2, l⟩ := still_on h r1
    refine ⟨a, xs, rfl, ?_⟩
    rcases l with l | l
    · exact .inl ⟨SqL.le sm1.sub l, h g1 _ H1 (.refl _ _) sm1 (walk_seq r2 l)⟩
    · exact .inr ⟨SqT.le sm1.sub l, h g1 _ H1 (.refl _ _) sm1 (walk_seqT r2 l)⟩
theorem i_enum {elts : List Expr} {kk : Nat} {tpos : Pos} (hg : Gl X "enumerate") (hm : X.mg "enumerate" = none) (hp : plainE e = true) (ha : PE X e (tE X.K B fa)) {f : Env → M (List W)} (hf : ∀ ρ, f ρ = (do let w ← fa ρ; yields .enum [w])) :
    PI X (.Tuple elts kk tpos) (.Call (.Name "enumerate" p) [e] [] pos) (tI X.K B f) :=
  (pi_enumS hg hm (pa_cons ha pa_nil (star_cons hp)) (star_cons hp)).imp fun σ H R ⟨g, ρ, S, rr, sm, h⟩ => by
    rw [hf] at h
    refine tE.on rr sm h fun g1 w v S1 H1 _ sm1 r1 _ h => ?_
    have h : PostR X.K B (WalkOk X.K B) g1 H1 ((stillW w >>= fun ws => pure (enumW 0 ws)) S1) R := h
    obtain ⟨ws, h, _, a, xs, rfl, r2, l⟩ := still_on h r1
    refine ⟨a, xs, rfl, ?_⟩
    rcases l with l | l
    · exact .inl ⟨SqL.le sm1.sub l, h g1 _ H1 (.refl _ _) sm1 (walk_en r2 l)⟩
    · exact .inr ⟨SqT.le sm1.sub l, h g1 _ H1 (.refl _ _) sm1 (walk_enT r2 l)⟩
theorem small_of {i : Int} (h : inSmall i = true) : -(2 ^ 62) ≤ i ∧ i < 2 ^ 62 := by
  unfold inSmall at h
  rw [Bool.and_eq_true, decide_eq_true_eq, decide_eq_true_eq] at h
  exact h
theorem i_rng1 (hg : Gl X "range") (hm : X.mg "range" = none) (hp : plainE e = true) (ha : PE X e (tE X.K B fa)) {f : Env → M (List W)} (hf : ∀ ρ, f ρ = (do let w ← fa ρ; yields .rng1 [w])) : PI X tg (.Call (.Name "range" p) [e] [] pos) (tI X.K B f) :=
  (pi_range1 hg hm (pa_cons ha pa_nil (star_cons hp)) (star_cons hp)).imp fun σ H R ⟨g, ρ, S, rr, sm, h⟩ => by
    rw [hf] at h
    refine tE.on rr sm h fun g1 w v S1 H1 _ sm1 r1 _ h => ?_
    cases w with
    | d y =>
      cases y with
      | int j =>
        have h : PostR X.K B (WalkOk X.K B) g1 H1 ((guard (inSmall j) >>= fun _ => pure (rangeL 0 j.toNat)) S1) R := h
        obtain ⟨k, h⟩ := h.guard
        cases r1
        exact ⟨j, rfl, (small_of k).1, (small_of k).2, h g1 _ H1 (.refl _ _) sm1 walk_rg⟩
      | _ => exact h.elim
    | _ => exact h.elim
theorem i_rng2 {e2 : Expr} {fb : Env → M W} (hg : Gl X "range") (hm : X.mg "range" = none) (hp : plainE e = true) (hp2 : plainE e2 = true) (ha : PE X e (tE X.K B fa)) (hb : PE X e2 (tE X.K B fb)) {f : Env → M (List W)} (hf : ∀ ρ, f ρ = (do let w ← fa ρ; let u ← fb ρ; yields .rng2 [w, u])) :
    PI X tg (.Call (.Name "range" p) [e, e2] [] pos) (tI X.K B f) :=
  (pi_range2 hg hm (pa_cons ha (pa_cons hb pa_nil (star_cons hp2)) (star_cons hp)) (by rw [star_cons hp, star_cons hp2]; rfl) (star_cons hp2)).imp fun σ H R ⟨g, ρ, S, rr, sm, h⟩ => by
    rw [hf] at h
    refine tE.on rr sm h fun g1 w v S1 H1 rr1 sm1 r1 _ h => ?_
    refine tE.on rr1 sm1 h fun g2 w' v' S2 H2 rr2 sm2 r2 st h => ?_
    cases w with
    | d y =>
      cases y with
      | int i =>
        cases w' with
        | d y' =>
          cases y' with
          | int j =>
            have h : PostR X.K B (WalkOk X.K B) g2 H2 ((guard (inSmall i && inSmall j) >>= fun _ => pure (rangeL i (j - i).toNat)) S2) R := h
            obtain ⟨k, h⟩ := h.guard
            rw [Bool.and_eq_true] at k
            cases r1
            cases r2
            exact ⟨i, j, rfl, ⟨(small_of k.1).1, (small_of k.1).2, (small_of k.2).1, (small_of k.2).2⟩, h g2 _ H2 (.refl _ _) sm2 walk_rg⟩
          | _ => exact h.elim
        | _ => exact h.elim
      | _ => cases w' with
        | d y' => cases y' <;> exact h.elim
        | _ => exact h.elim
    | _ => exact h.elim
end
end Ev

-- part EvH
set_option maxHeartbeats 200000
/-! EvH: comprehensions. -/
namespace Ev
open PySem PySem.Spec PyProof.Rows L2

section
variable {K : PySem.W.Frag} {B : List Nat} {g g1 : Gh} {S : Store} {H H1 : Hp} {D : Addr}
/-- a list that stands beside becomes a thing of the store -/
theorem Sim.adopt {zs : List W} {acc : List V} (x : Sim K B g S H) (hg : g.h D = none) (hm : ∀ n, g.m n ≠ some D) (hH : H D = some (.lst acc)) (hz : zs.length ≤ sizeLine) (r : RepWs K g zs acc) :
    ∃ g', Sim K B g' (S ++ [.lst zs]) H ∧ g'.m S.length = some D ∧ g'.h = g.h ∧ (∀ n a, g.m n = some a → g'.m n = some a) ∧ ∀ n a, g'.m n = some a → a = D ∨ g.m n = some a := by
  let g' : Gh := ⟨g.h, fun n => if n = S.length then some D else g.m n⟩
  have m1 : g'.m S.length = some D := if_pos rfl
  have m2 : ∀ n, n ≠ S.length → g'.m n = g.m n := fun n h => if_neg h
  have mlt : ∀ n a, g.m n = some a → n < S.length := fun n a e => Nat.lt_of_not_le fun h => by rw [x.top n h] at e; cases e
  have up : ∀ n a, g.m n = some a → g'.m n = some a := fun n a e => by rw [m2 n (Nat.ne_of_lt (mlt n a e))]; exact e
  have gle : g.le g' := ⟨HLe.refl _, up⟩
  refine ⟨g', ⟨x.sub, fun n hn => ?_, fun n hn => ?_, fun i j a ei ej => ?_, fun n us e => ?_, fun b hb => ?_, fun b hb n us hn e => ?_⟩, m1, rfl, up, fun n a e => ?_⟩
  · rw [List.length_append, List.length_singleton] at hn
    by_cases z : n = S.length
    · subst z
      exact ⟨D, m1, by rw [hH]; exact fun q => nomatch q⟩
    · obtain ⟨a, e1, e3⟩ := x.dom n (by omega)
      exact ⟨a, by rw [m2 n z]; exact e1, e3⟩
  · rw [List.length_append, List.length_singleton] at hn
    rw [m2 n (by omega)]
    exact x.top n (by omega)
  · by_cases zi : i = S.length
    · by_cases zj : j = S.length
      · rw [zi, zj]
      · rw [zi, m1] at ei
        rw [m2 j zj] at ej
        exact absurd (by rw [Option.some.inj ei]; exact ej) (hm j)
    · rw [m2 i zi] at ei
      by_cases zj : j = S.length
      · rw [zj, m1] at ej
        exact absurd (by rw [Option.some.inj ej]; exact ei) (hm i)
      · rw [m2 j zj] at ej
        exact x.inj i j a ei ej
  · by_cases z : n < S.length
    · rw [List.getElem?_append_left z] at e
      obtain ⟨a, ys, e1, e2, z1, e3, q⟩ := x.cell n us e
      exact ⟨a, ys, up n a e1, e2, z1, e3, RepWs.le gle us q⟩
    · by_cases z2 : n = S.length
      · subst z2
        rw [List.getElem?_append_right (Nat.le_refl _), Nat.sub_self] at e
        have e' : Cell.lst zs = Cell.lst us := Option.some.inj e
        cases e'
        exact ⟨D, acc, m1, hg, hz, hH, RepWs.le gle zs r⟩
      · rw [List.getElem?_eq_none (by simp; omega)] at e; cases e
  · have := x.base b hb
    rw [List.length_append]; omega
  · have := x.base b hb
    rw [List.getElem?_append_left (by omega)] at e
    exact x.old b hb n us hn e
  · by_cases z : n = S.length
    · rw [z, m1] at e; exact .inl (Option.some.inj e).symm
    · rw [m2 n z] at e; exact .inr e
/-- .. or is frozen -/
theorem Sim.frozen {o : HO} (x : Sim K B g S H) (hg : g.h D = none) (hm : ∀ n, g.m n ≠ some D) (hH : H D = some o) : Sim K B ⟨L2.upd g.h D o, g.m⟩ S H ∧ g.le ⟨L2.upd g.h D o, g.m⟩ := by
  have nem : ∀ n a, g.m n = some a → a ≠ D := fun n a e z => hm n (z ▸ e)
  have gle : g.le ⟨L2.upd g.h D o, g.m⟩ := ⟨fun a u e => by show L2.upd g.h D o a = some u; rw [upd_ne (ne_of_none e hg)]; exact e, fun _ _ e => e⟩
  refine ⟨⟨fun a u e => ?_, x.dom, x.top, x.inj, fun n ws e => ?_, x.base, x.old⟩, gle⟩
  · have e : L2.upd g.h D o a = some u := e
    by_cases z : a = D
    · subst z; rw [upd_same] at e; rw [← e]; exact hH
    · rw [upd_ne z] at e; exact x.sub _ _ e
  · obtain ⟨a, xs, e1, e2, z, e3, r⟩ := x.cell n ws e
    exact ⟨a, xs, e1, by show L2.upd g.h D o a = none; rw [upd_ne (nem n a e1)]; exact e2, z, e3, RepWs.le gle ws r⟩
/-- a list that stood beside, kept -/
theorem kept_list {own : Bool} {zs : List W} {acc : List V} {Q : VK} (x : Sim K B g S H) (st : Step g1 H1 g H) (h1 : H1 D = none) (hg : g.h D = none) (hm : ∀ n, g.m n ≠ some D) (hH : H D = some (.lst acc)) (hz : zs.length ≤ sizeLine) (r : RepWs K g zs acc)
    (h : PostR K B (RepW K) g1 H1 (mkLst own zs S) Q) : Q (.ref D) H := by
  unfold mkLst at h
  cases own with
  | true =>
    obtain ⟨g', sm, m1, eh, up, back⟩ := x.adopt hg hm hH hz r
    refine h g' (.ref D) H ⟨st.1.trans ⟨by rw [eh]; exact HLe.refl _, up⟩, fun a o e n k => ?_⟩ sm ⟨D, m1, rfl⟩
    obtain ⟨q1, q2, q3⟩ := st.2 a o e n k
    refine ⟨q1, by rw [eh]; exact q2, fun i z => ?_⟩
    rcases back i a z with z | z
    · subst z; rw [h1] at e; cases e
    · exact q3 i z
  | false =>
    rw [if_neg Bool.false_ne_true] at h
    cases e : allData zs with
    | none => rw [e] at h; exact h.elim
    | some ds =>
      rw [e] at h
      have ew := allData_some e
      subst ew
      obtain ⟨sm, gle⟩ := x.frozen hg hm hH
      refine h _ (.ref D) H ⟨st.1.trans gle, fun a o e n k => ?_⟩ sm ⟨by simpa using hz, D, acc, rfl, .inl (.inl upd_same), RepDs.le gle.1 ds r.unmap⟩
      obtain ⟨q1, q2, q3⟩ := st.2 a o e n k
      exact ⟨q1, by show L2.upd g.h D _ a = none; rw [upd_ne (fun z => by subst z; rw [h1] at e; cases e)]; exact q2, q3⟩
end
mutual
theorem assign_len : ∀ (t : Tg) {w : W} {ρ ρ' : Env}, assignTg t w ρ = some ρ' → ρ'.length = ρ.length
  | .nm i, w, ρ, ρ', e => by
    have e : (if i < ρ.length then some (ρ.set i (some w)) else none) = some ρ' := e
    split at e
    · cases e; simp
    · cases e
  | .tp ts, w, ρ, ρ', e => by
    cases w with
    | d x => cases x <;> first
      | exact assigns_len2 ts e
      | cases e
    | tup ws => exact assigns_len2 ts e
    | _ => cases e
theorem assigns_len2 : ∀ (ts : List Tg) {ws : List W} {ρ ρ' : Env}, assignTgs ts ws ρ = some ρ' → ρ'.length = ρ.length
  | [], [], _, _, e => by cases e; rfl
  | [], _ :: _, _, _, e => by cases e
  | _ :: _, [], _, _, e => by cases e
  | t :: ts, w :: ws, ρ, ρ', e => by
    have e : (match assignTg t w ρ with
      | some ρ1 => assignTgs ts ws ρ1
      | none => none) = some ρ' := e
    cases q : assignTg t w ρ with
    | none => rw [q] at e; cases e
    | some ρ1 =>
      rw [q] at e
      rw [assigns_len2 ts e, assign_len t q]
end
theorem wipe_get (σ : L2.St) : ∀ (vs : List Nat) (j : Nat), (L2.wipe σ vs)[j]? = if j ∈ vs then (if j < σ.length then some none else none) else σ[j]?
  | [], j => by simp [L2.wipe]
  | v :: vs, j => by
    unfold L2.wipe
    by_cases h : v = j
    · subst h
      rw [if_pos List.mem_cons_self]
      by_cases hl : v < σ.length
      · rw [if_pos hl, List.getElem?_set_self (by rw [wipe_length]; exact hl)]
      · rw [if_neg hl, List.getElem?_eq_none (by rw [List.length_set, wipe_length]; omega)]
    · rw [List.getElem?_set_ne h, wipe_get σ vs j]
      have : j ∈ v :: vs ↔ j ∈ vs := by
        rw [List.mem_cons]
        exact ⟨fun q => q.elim (fun z => absurd z.symm h) id, .inr⟩
      by_cases hj : j ∈ vs
      · rw [if_pos hj, if_pos (this.mpr hj)]
      · rw [if_neg hj, if_neg (fun q => hj (this.mp q))]
theorem wipe_again {σ σ' : L2.St} {vs us : List Nat} (hl : σ'.length = σ.length) (hu : ∀ j ∈ us, j ∈ vs) (o : Out1 us (L2.wipe σ vs) σ') : L2.wipe σ' vs = L2.wipe σ vs := by
  refine List.ext_getElem? fun j => ?_
  rw [wipe_get, wipe_get]
  by_cases h : j ∈ vs
  · rw [if_pos h, if_pos h, hl]
  · rw [if_neg h, if_neg h, o j fun z => h (hu j z), wipe_get, if_neg h]
theorem wipeR_len (ρ : Env) : ∀ vs, (wipeR ρ vs).length = ρ.length
  | [] => rfl
  | v :: vs => by unfold wipeR; rw [List.length_set, wipeR_len ρ vs]

section
variable {X : Cx} {B : List Nat} {elt tg iter : Expr} {ifs : List Expr} {scope : Scope} {pos : Pos} {fi : Env → M (List W)} {ft : Env → M Bool} {fe : Env → M W} {t : Tg} {vs : List Nat} {own : Bool}
/-- the reading of a comprehension -/
theorem lc_red (hv : ∀ j ∈ tgVars t, j ∈ vs) {f : Env → M W} (hf : ∀ ρ, f ρ = (do let ys ← fi ρ; guard (decide (ys.length ≤ sizeLine)); let zs ← compLoop ft fe t (wipeR ρ vs) ys; mkLst own zs)) {σ : L2.St} {H : Hp} {Q : VK} (h : tE X.K B f σ H Q) :
    tLc (tI X.K B fi) (gT X.K t) (tT X.K B ft) (tE X.K B fe) vs σ H Q := by
  obtain ⟨g, ρ, S, rr, sm, h⟩ := h
  rw [hf] at h
  refine ⟨g, ρ, S, rr, sm, PostR.mono h.on fun J H1 ⟨g1, ys, S1, _, st1, sm1, wk, h⟩ D hD => ?_⟩
  obtain ⟨hz, h⟩ := h.guard
  have hz := of_decide_eq_true hz
  obtain ⟨G, Y, w, wG, wY⟩ := wk.to
  have rr1 := rr.le st1.1
  obtain ⟨d1, d2⟩ := sm1.fresh hD
  refine lc_it w (fun i Hx => ∃ g2 S2 zs acc, Step g1 H1 g2 Hx ∧ Sim X.K B g2 S2 Hx ∧ RepWs X.K g2 zs acc ∧ zs.length ≤ i ∧ Hx D = some (.lst acc) ∧ g2.h D = none ∧ (∀ n, g2.m n ≠ some D) ∧
    PostR X.K B (RepW X.K) g1 H1 ((compLoop ft fe t (wipeR ρ vs) (ys.drop i) >>= fun r => mkLst own (zs ++ r)) S2) Q) ?_ ?_ ?_ ?_
  · refine ⟨g1, S1, [], [], ⟨.refl _, fun a o e n k => ⟨by rw [upd_ne (fun z => by subst z; rw [hD] at e; cases e)]; exact e, n, k⟩⟩, sm1.beside d1 d2, rfl, Nat.zero_le _, upd_same, d1, d2, h⟩
  · exact fun i Hx _ ⟨g2, S2, zs, acc, st, sm2, _⟩ => wG g2 S2 Hx st.1 sm2
  · rintro i x Hx H' hi ⟨g2, S2, zs, acc, st, sm2, r2, l2, hDx, e2, m2, h⟩ y
    obtain ⟨g3, st3, sm3, r3⟩ := wY i Hx x H' g2 S2 ys[i] y st.1 sm2 (by simp [hi])
    rw [List.drop_eq_getElem_cons hi] at h
    have h : PostR X.K B (RepW X.K) g1 H1 (((lift (assignTg t ys[i] (wipeR ρ vs)) >>= fun ρ' => ft ρ' >>= fun b => if b then (do
        let y ← fe ρ'
        let ys ← compLoop ft fe t (wipeR ρ vs) (ys.drop (i + 1))
        pure (y :: ys)) else compLoop ft fe t (wipeR ρ vs) (ys.drop (i + 1))) >>= fun r => mkLst own (zs ++ r)) S2) Q := h
    rw [M.assoc] at h
    obtain ⟨ρ', e, h⟩ := h.lift
    refine ⟨g3, wipeR ρ vs, ρ', ys[i], ((rr1.le (st.trans st3).1).wipe vs), sm3.sub, r3, e, fun σ' rr' o => ⟨wipe_again ?_ hv o, ?_⟩⟩
    · rw [← rr'.len, assign_len t e, wipeR_len, rr.len]
    obtain ⟨a1, a2, a3⟩ := st3.2 D _ hDx e2 m2
    rw [M.assoc] at h
    refine ⟨g3, ρ', S2, rr', sm3, PostR.mono (h.at_ (R := REq)) fun b H3 ⟨g4, b', S4, _, st4, sm4, rb, h⟩ => ?_⟩
    cases (show b = b' from rb)
    obtain ⟨b1, b2, b3⟩ := st4.2 D _ a1 a2 a3
    cases b with
    | false =>
      rw [if_neg Bool.false_ne_true] at h ⊢
      exact ⟨g4, S4, zs, acc, (st.trans st3).trans st4, sm4, RepWs.le (st3.trans st4).1 zs r2, by omega, b1, b2, b3, h⟩
    | true =>
      rw [if_pos rfl] at h ⊢
      rw [M.assoc] at h
      refine ⟨g4, ρ', S4, rr'.le st4.1, sm4, PostR.mono h.at_ fun yv H4 ⟨g5, yw, S5, _, st5, sm5, ry, h⟩ => ?_⟩
      obtain ⟨c1, c2, c3⟩ := st5.2 D _ b1 b2 b3
      have st' := ((st.trans st3).trans st4).trans st5
      have r5 := RepWs.le ((st3.trans st4).trans st5).1 zs r2
      refine ⟨acc, c1, by rw [r5.length]; omega, g5, S5, zs ++ [yw], acc ++ [yv], ⟨st'.1, fun a o e n k => ?_⟩, sm5.beside c2 c3, r5.append ⟨yv, [], rfl, ry, rfl⟩, by rw [List.length_append, List.length_singleton]; omega, upd_same, c2, c3, ?_⟩
      · obtain ⟨q1, q2, q3⟩ := st'.2 a o e n k
        exact ⟨by rw [upd_ne (fun z => by subst z; rw [hD] at e; cases e)]; exact q1, q2, q3⟩
      · rw [M.assoc] at h
        have e0 : (fun r => mkLst own ((zs ++ [yw]) ++ r)) = fun r => ((pure (yw :: r) : M (List W)) >>= fun r' => mkLst own (zs ++ r')) := by
          funext r
          rw [M.pure_bind', List.append_assoc]
          rfl
        rw [e0]
        exact h
  · rintro Hx ⟨g2, S2, zs, acc, st, sm2, r2, l2, hDx, e2, m2, h⟩
    rw [List.drop_length] at h
    have h : PostR X.K B (RepW X.K) g1 H1 (mkLst own (zs ++ []) S2) Q := h
    rw [List.append_nil] at h
    exact kept_list sm2 st hD e2 m2 hDx (Nat.le_trans l2 hz) r2 h
end
end Ev

-- part EvJ
set_option maxHeartbeats 200000
/-! EvJ: the check that an expression of the text is what the small syntax says, and that it is sound. -/
namespace Ev
open PySem PySem.Spec PyProof.Rows L2

structure SI where
  N : List Str
  sc : Scope
  fnB : Str → Bool
  nones : List Str
  T : List DefM
  G : List (Str × PyData)
  kwl : List (Nat × Nat × List Str)
def SI.blk (I : SI) (scope : Scope) : SI := { I with sc := relS scope I.sc, fnB := fun x => scope.names.lookup x == some .cell }
def visB (sc : Scope) (x : Str) : Bool := match sc.names.lookup x with
  | some .local => true
  | some .cell => true
  | some .free => true
  | _ => false
def locB (I : SI) (x : Str) : Bool := match I.sc.names.lookup x with
  | some .local => true
  | some .cell => I.fnB x
  | _ => false
def glB (sc : Scope) (x : Str) : Bool := match sc.names.lookup x with
  | some .globalImplicit => true
  | _ => false
def okN (x : Str) : Bool := !(x == ("__debug__" : Str)) && !(x == ("__classdict__" : Str)) && !(x == ("__name__" : Str))
def bltOk (I : SI) (x : Str) : Bool := glB I.sc x && okN x && I.nones.contains x
def bname : Blt → Str
  | .len => "len"
  | .isa _ => "isinstance"
  | .int1 => "int"
  | .bool1 => "bool"
  | .sum => "sum"
  | .all => "all"
  | .any => "any"
  | .min2 => "min"
  | .max2 => "max"
  | .listOf => "list"
  | .tupleOf => "tuple"
  | .repr => "repr"
  | .abs => "abs"
  | .str1 => "str"
def tyStr : Ty → Str
  | .int => "int"
  | .bool => "bool"
  | .str => "str"
  | .tup => "tuple"
  | .lst => "list"
  | .dct => "dict"
def noSlice : Expr → Bool
  | .Slice .. => false
  | _ => true
def noSet : Expr → Bool
  | .Set .. => false
  | _ => true
mutual
def chkTg (I : SI) : Tg → Expr → Bool
  | .nm i, E => (match E with
    | .Name x _ => decide (I.N[i]? = some x) && locB I x
    | _ => false)
  | .tp ts, E => (match E with
    | .Tuple es _ _ => chkTgs I ts es && es.all plainE
    | _ => false)
def chkTgs (I : SI) : List Tg → List Expr → Bool
  | [], es => (match es with
    | [] => true
    | _ => false)
  | t :: ts, es => (match es with
    | e :: es => chkTg I t e && chkTgs I ts es
    | _ => false)
end
def iterArgs (I : SI) (k : Ik) (tg it : Expr) : Option (List Expr) := match k, it with
  | .seq, e => some [e]
  | .rng1, .Call (.Name x _) [a] [] _ => if x = "range" ∧ bltOk I x = true then some [a] else none
  | .rng2, .Call (.Name x _) [a, b] [] _ => if x = "range" ∧ bltOk I x = true then some [a, b] else none
  | .enum, .Call (.Name x _) [a] [] _ => (match tg with
    | .Tuple .. => if x = "enumerate" ∧ bltOk I x = true then some [a] else none
    | _ => none)
  | _, _ => none
def ownOf (N : List Str) (vs : List Nat) : List (Str × Nat) := vs.map fun v => ((N[v]?).getD Str.empty, v)
def mname : Mt → Str
  | .append => "append"
  | .extend => "extend"
  | .pop => "pop"
  | .popAt => "pop"
  | _ => "?"
def chkC : PyData → Expr → Bool
  | .none, .Constant .none _ _ => true
  | .bool b, .Constant (.bool k) _ _ => b == k
  | .int i, .Constant (.int j) _ _ => i == j
  | .str s, .Constant (.str z) _ _ => s == z
  | _, _ => false
/-- what a built-in function is given, its types apart -/
def bltArgs (I : SI) (b : Blt) (as : List Expr) : Option (List Expr) := match b with
  | .isa t => (match as with
    | [a, .Name u _] => if u = tyStr t ∧ bltOk I u = true ∧ plainE a = true then some [a] else none
    | _ => none)
  | _ => if as.isEmpty = false ∧ as.all plainE = true then some as else none
def metN : Mt → Nat → Bool
  | .append, n => decide (n = 1)
  | .extend, n => decide (n = 1)
  | .pop, n => decide (n = 0)
  | .popAt, n => decide (n = 1)
  | _, _ => false
def isNop : Ex → Bool
  | .nop => true
  | _ => false
mutual
def chkE (I : SI) : Ex → Expr → Bool
  | .var i, E => (match E with
    | .Name x _ => decide (I.N[i]? = some x) && visB I.sc x && okN x
    | _ => false)
  | .con d, E => chkC d E
  | .glo k, E => (match E with
    | .Name x _ => (match I.G[k]? with
      | some p => decide (p.1 = x)
      | none => false) && glB I.sc x && okN x
    | _ => false)
  | .fn _ _, _ => false
  | .tup es, E => (match E with
    | .Tuple as _ _ => chkEs I es as && as.all plainE && decide (es.length ≤ 1000)
    | _ => false)
  | .lst _ es, E => (match E with
    | .List as _ => chkEs I es as && as.all plainE && decide (es.length ≤ 1000)
    | _ => false)
  | .dic, E => (match E with
    | .Dict [] [] _ => true
    | _ => false)
  | .bin _ op a b, E => (match E with
    | .BinOp a' op' b' _ => decide (op = op') && chkE I a a' && chkE I b b'
    | _ => false)
  | .neg a, E => (match E with
    | .UnaryOp .USub a' _ => chkE I a a'
    | _ => false)
  | .cmp op a b, E => (match E with
    | .Compare a' [op'] [b'] _ => decide (op = op') && chkE I a a' && chkE I b b' && !behindInMarks op b'
    | _ => false)
  | .chn op1 op2 a b c, E => (match E with
    | .Compare a' [op1', op2'] [b', c'] _ => decide (op1 = op1') && decide (op2 = op2') && chkE I a a' && chkE I b b' && chkE I c c' && !lastMarks [op1, op2] [b', c']
    | _ => false)
  | .and a b, E => (match E with
    | .BoolOp .And [a', b'] _ => chkE I a a' && chkE I b b'
    | .BoolOp .And (a' :: b' :: c' :: r) p => chkE I a a' && chkE I b (.BoolOp .And (b' :: c' :: r) p)
    | _ => false)
  | .or a b, E => (match E with
    | .BoolOp .Or [a', b'] _ => chkE I a a' && chkE I b b'
    | .BoolOp .Or (a' :: b' :: c' :: r) p => chkE I a a' && chkE I b (.BoolOp .Or (b' :: c' :: r) p)
    | _ => false)
  | .not a, E => (match E with
    | .UnaryOp .Not a' _ => chkE I a a'
    | _ => false)
  | .ite c a b, E => (match E with
    | .IfExp c' a' b' _ => chkE I c c' && chkE I a a' && chkE I b b'
    | _ => false)
  | .call i es, E => (match E with
    | .Call (.Name x _) as [] _ => (match I.T[i]? with
      | some df => decide (df.name = x) && decide (es.length = df.ps.length)
      | none => false) && glB I.sc x && okN x && chkEs I es as && as.all plainE
    | _ => false)
  | .callk i es ks kes, E => (match E with
    | .Call (.Name x _) as kws _ => (match I.T[i]? with
      | some df => decide (df.name = x) && decide (es.length ≤ df.ps.length)
      | none => false) && glB I.sc x && okN x && chkEs I es as && as.all plainE && decide (kwNames kws = ks) && kwAll kws && decide (kes.length = ks.length) && chkEs I kes (kwVals kws) && I.kwl.contains (i, es.length, ks)
    | _ => false)
  | .blt _ b es, E => (match E with
    | .Call (.Name x _) as [] _ => decide (x = bname b) && bltOk I x && (match bltArgs I b as with
      | some bs => chkEs I es bs
      | none => false)
    | _ => false)
  | .met m o es, E => (match E with
    | .Call (.Attribute a name apos) as [] pos => decide (name = mname m) && noSup a && (apos.endLine == pos.line) && as.all plainE && decide (as.length < 30) && chkE I o a && chkEs I es as && metN m es.length
    | _ => false)
  | .sub a i, E => (match E with
    | .Subscript a' i' _ => chkE I a a' && chkE I i i' && noSlice i'
    | _ => false)
  | .slc _ a lo hi, E => (match E with
    | .Subscript a' (.Slice lo' hi' none _) _ => chkE I a a' && (match lo' with
      | none => isNop lo
      | some l => chkE I lo l) && (match hi' with
      | none => isNop hi
      | some l => chkE I hi l)
    | _ => false)
  | .nop, _ => false
  | .comp _ elt tg k its ifs vs, E => (match E with
    | .ListComp elt' [⟨tg', iter', ifs', az⟩] scope _ => decide (az = 0) && blkC I.N I.sc scope (ownOf I.N vs) && chkE (I.blk scope) elt elt' && chkTg (I.blk scope) tg tg' && (tgVars tg).all (fun j => vs.contains j) && chkEs (I.blk scope) ifs ifs' && decide (ifs.length ≤ 1) && noSet iter' &&
      (match iterArgs I k tg' iter' with
      | some as => chkEs I its as && as.all plainE
      | none => false)
    | _ => false)
def chkEs (I : SI) : List Ex → List Expr → Bool
  | [], as => (match as with
    | [] => true
    | _ => false)
  | e :: es, as => (match as with
    | a :: as => chkE I e a && chkEs I es as
    | _ => false)
end
end Ev

-- part EvK
set_option maxHeartbeats 200000
/-! EvK: the check of expressions is sound. -/
namespace Ev
open PySem PySem.Spec PyProof.Rows L2

structure XOk (X : Cx) (I : SI) (c : C) (B : List Nat) (k : Nat) : Prop where
  hN : X.N = I.N
  nd : I.N.Nodup
  sc : X.env.scope = I.sc
  fnB : ∀ x, I.fnB x = true → X.fn x = true
  bk : Bk X
  glo : ∀ (k : Nat) (p : Str × PyData), I.G[k]? = some p → ∃ u v, X.mg p.1 = some u ∧ RelV v u ∧ ∀ g : Gh, RepW X.K g (.d p.2) v
  non : ∀ x ∈ I.nones, X.mg x = none
  room : Roomy k X.A
  fns : ∀ (i : Nat) (df : DefM), I.T[i]? = some df → ∃ f fd, X.mg df.name = some (.ref f) ∧ PySem.W.keepIn X.K (.ref f) = true ∧ Binds X.K fd df.ps [] ∧ (∀ np ks, (i, np, ks) ∈ I.kwl → KwB X.K fd df.ps np ks) ∧
    FnG X.prog X.w X.K X.mg X.base CX0 k f fd df.ps (spF X.K df.ps.length (c.Φ i))
  hB : ∀ b' ∈ B, b' ≤ c.b
  cG : c.G = I.G
  cK : c.Φk = kwF I.T c.Φ

section
variable {X : Cx} {I : SI} {c : C} {B : List Nat} {k : Nat}
theorem XOk.calm (x : XOk X I c B k) : X.calm = true := x.bk.calm
theorem XOk.nd' (x : XOk X I c B k) : X.N.Nodup := by rw [x.hN]; exact x.nd
theorem XOk.vis (x : XOk X I c B k) {y : Str} (h : visB I.sc y = true) : Vis X.env.scope y := by
  rw [x.sc]
  unfold visB at h
  unfold Vis
  split at h
  · rename_i q; exact .inl q
  · rename_i q; exact .inr (.inl q)
  · rename_i q; exact .inr (.inr q)
  · cases h
theorem XOk.loc (x : XOk X I c B k) {y : Str} (h : locB I y = true) : L2.Loc X.env.scope y ∧ (X.fn y = true ∨ X.env.scope.names.lookup y = some .local) := by
  unfold locB at h
  unfold L2.Loc
  rw [x.sc]
  split at h
  · rename_i q; exact ⟨.inl q, .inr q⟩
  · rename_i q; exact ⟨.inr q, .inl (x.fnB y h)⟩
  · cases h
theorem XOk.gl (x : XOk X I c B k) {y : Str} (h : glB I.sc y = true) : Gl X y := by
  show X.env.scope.names.lookup y = some .globalImplicit
  rw [x.sc]
  unfold glB at h
  split at h
  · assumption
  · cases h
theorem okN_of {y : Str} (h : okN y = true) : (y == ("__debug__" : Str)) = false ∧ (y == ("__classdict__" : Str)) = false ∧ y ≠ "__name__" := by
  unfold okN at h
  simp only [Bool.and_eq_true, Bool.not_eq_true'] at h
  exact ⟨h.1.1, h.1.2, beq_eq_false_iff_ne.mp h.2⟩
theorem XOk.blt (x : XOk X I c B k) {y : Str} (h : bltOk I y = true) : Gl X y ∧ X.mg y = none ∧ (y == ("__debug__" : Str)) = false ∧ y ≠ "__name__" := by
  unfold bltOk at h
  rw [Bool.and_eq_true, Bool.and_eq_true] at h
  obtain ⟨h1, h2, h3⟩ := okN_of h.1.2
  exact ⟨x.gl h.1.1, x.non y (List.contains_iff_mem.mp h.2), h1, h3⟩
theorem XOk.blk (x : XOk X I c B k) (s : Shared) (H : Hp) (scope : Scope) (C : Addr) (cl : List (Str × Addr)) (fp : List Addr) : XOk (X.blk s H scope (compEnvC scope cl C X.env) fp) (I.blk scope) c B k where
  hN := x.hN
  nd := x.nd
  sc := by show relS scope X.env.scope = relS scope I.sc; rw [x.sc]
  fnB := fun y h => h
  bk := ⟨x.bk.un, x.bk.clear, x.bk.calm, x.bk.sys⟩
  glo := x.glo
  non := x.non
  room := x.room
  fns := x.fns
  hB := x.hB
  cG := x.cG
  cK := x.cK

def fT (c : C) (e : Ex) : Env → M Bool := fun ρ => do let x ← ev c e ρ; truthW x
def notBool : Expr → Bool
  | .BoolOp .. => false
  | _ => true
structure EOk (X : Cx) (c : C) (B : List Nat) (e : Ex) (E : Expr) : Prop where
  pe : PE X E (tE X.K B (ev c e))
  pt : PT X E (tT X.K B (fT c e))
  pw : notBool E = false → PW X E (tT X.K B (fT c e))
def EsOk (X : Cx) (c : C) (B : List Nat) : List Ex → List Expr → Prop
  | [], [] => True
  | e :: es, E :: Es => EOk X c B e E ∧ EsOk X c B es Es
  | _, _ => False
def OOk (X : Cx) (c : C) (B : List Nat) (e : Ex) (o : Option Expr) : Prop := PO X o (tO X.K B fun ρ => part e (ev c e ρ))
theorem EOk.plain {e : Ex} {E : Expr} (h : PE X E (tE X.K B (ev c e))) (ht : ∀ whole, isTrue E X.env whole = (do let v ← whole; standAt E.pos; holding [v] (truthy v))) (hn : notBool E = true) : EOk X c B e E :=
  ⟨h, t_tru ht h fun _ => rfl, fun q => by rw [hn] at q; cases q⟩
theorem evs_cons {e : Ex} {es : List Ex} (ρ : Env) : evs c (e :: es) ρ = (do let w ← ev c e ρ; let ws ← evs c es ρ; pure (w :: ws)) := rfl
theorem EsOk.pa : ∀ {es : List Ex} {Es : List Expr}, EsOk X c B es Es → Es.all plainE = true → PA X Es (tA X.K B (evs c es))
  | [], [], _, _ => a_nil fun _ => rfl
  | e :: es, E :: Es, h, hp => by
    rw [List.all_cons, Bool.and_eq_true] at hp
    exact a_cons hp.1 h.1.pe (EsOk.pa h.2 hp.2) fun _ => rfl
  | [], _ :: _, h, _ => h.elim
  | _ :: _, [], h, _ => h.elim
theorem EsOk.pk : ∀ {es : List Ex} {kws : List Keyword}, EsOk X c B es (kwVals kws) → PK X kws (tA X.K B (evs c es))
  | [], [], _ => k_nil fun _ => rfl
  | e :: es, ⟨nm, v, p⟩ :: kws, h => k_cons (h : EOk X c B e v ∧ EsOk X c B es (kwVals kws)).1.pe (EsOk.pk (h : EOk X c B e v ∧ EsOk X c B es (kwVals kws)).2) fun _ => rfl
  | [], ⟨_, _, _⟩ :: _, h => (h : False).elim
  | _ :: _, [], h => (h : False).elim
theorem EsOk.len : ∀ {es : List Ex} {Es : List Expr}, EsOk X c B es Es → es.length = Es.length
  | [], [], _ => rfl
  | _ :: es, _ :: Es, h => by rw [List.length_cons, List.length_cons, EsOk.len h.2]
  | [], _ :: _, h => h.elim
  | _ :: _, [], h => h.elim
theorem EsOk.one {es : List Ex} {E : Expr} (h : EsOk X c B es [E]) : ∃ e, es = [e] ∧ EOk X c B e E := by
  match es, h with
  | [e], h => exact ⟨e, rfl, h.1⟩
  | [], h => exact h.elim
  | _ :: _ :: _, h => exact h.2.elim
theorem EsOk.two {es : List Ex} {E E' : Expr} (h : EsOk X c B es [E, E']) : ∃ e e', es = [e, e'] ∧ EOk X c B e E ∧ EOk X c B e' E' := by
  match es, h with
  | [e, e'], h => exact ⟨e, e', rfl, h.1, h.2.1⟩
  | [], h => exact h.elim
  | [_], h => exact h.2.elim
  | _ :: _ :: _ :: _, h => exact h.2.2.elim
theorem evs_len : ∀ {es : List Ex} {ρ : Env} {S S' : Store} {ws : List W}, evs c es ρ S = .ok ws S' → ws.length = es.length
  | [], _, _, _, _, e => by cases e; rfl
  | e :: es, ρ, S, S', ws, h => by
    rw [evs_cons, bind_at] at h
    cases q : ev c e ρ S with
    | ok w S1 =>
      rw [q] at h
      dsimp only at h
      rw [bind_at] at h
      cases q2 : evs c es ρ S1 with
      | ok us S2 =>
        rw [q2] at h
        cases h
        rw [List.length_cons, List.length_cons, evs_len q2]
      | exc _ _ _ => rw [q2] at h; cases h
      | bad => rw [q2] at h; cases h
    | exc _ _ _ => rw [q] at h; cases h
    | bad => rw [q] at h; cases h
theorem small_len {n : Nat} (h : n ≤ 1000) : n ≤ sizeLine := by
  have : (1000 : Nat) ≤ sizeLine := by decide
  omega
theorem own_map (N : List Str) (vs : List Nat) : (ownOf N vs).map (·.2) = vs := by
  unfold ownOf
  rw [List.map_map]
  show vs.map (fun v => v) = vs
  simp
theorem fold_set {e : Expr} {env : PySem.Env} (h : noSet e = true) (x : Value) : foldedSetIterable e env x = pure x := by
  unfold foldedSetIterable
  split
  · cases h
  · rfl
theorem plain_ix {b : Expr} (h : noSlice b = true) : PlainIx b := by
  intro o i
  cases b <;> first
    | rfl
    | cases h
theorem M.bind_pure {α : Type} (x : M α) : (x >>= fun a => pure a) = x := by
  funext S
  rw [bind_at]
  cases x S <;> rfl
/-! ### targets -/
mutual
theorem chkTg_ok (x : XOk X I c B k) : ∀ (t : Tg) {E : Expr}, chkTg I t E = true → PG X E (gT X.K t)
  | .nm i, E, h => by
    cases E with
    | Name y p =>
      have h : (decide (I.N[i]? = some y) && locB I y) = true := h
      rw [Bool.and_eq_true, decide_eq_true_eq] at h
      obtain ⟨h1, h2⟩ := x.loc h.2
      exact g_nm x.nd' (by rw [x.hN]; exact h.1) h1 h2
    | _ => exact absurd (show false = true from h) Bool.false_ne_true
  | .tp ts, E, h => by
    cases E with
    | Tuple es kk p =>
      have h : (chkTgs I ts es && es.all plainE) = true := h
      rw [Bool.and_eq_true] at h
      obtain ⟨h1, h2⟩ := chkTgs_ok x ts h.1
      exact g_tp x.calm h2 h.2 (h1 h.2)
    | _ => exact absurd (show false = true from h) Bool.false_ne_true
theorem chkTgs_ok (x : XOk X I c B k) : ∀ (ts : List Tg) {Es : List Expr}, chkTgs I ts Es = true → (Es.all plainE = true → PGs X Es (gTs X.K ts)) ∧ Es.length = ts.length
  | [], [], h => ⟨fun _ => gs_nil, rfl⟩
  | [], _ :: _, h => absurd (show false = true from h) Bool.false_ne_true
  | _ :: _, [], h => absurd (show false = true from h) Bool.false_ne_true
  | t :: ts, E :: Es, h => by
    have h : (chkTg I t E && chkTgs I ts Es) = true := h
    rw [Bool.and_eq_true] at h
    obtain ⟨h1, h2⟩ := chkTgs_ok x ts h.2
    refine ⟨fun hp => ?_, by rw [List.length_cons, List.length_cons, h2]⟩
    rw [List.all_cons, Bool.and_eq_true] at hp
    exact gs_cons hp.1 (chkTg_ok x t h.1) (h1 hp.2)
end
/-- what is walked -/
theorem iter_ok (x : XOk X I c B k) {ik : Ik} {its : List Ex} {tg it : Expr} {as : List Expr} (h : iterArgs I ik tg it = some as) (hp : as.all plainE = true) (es : EsOk X c B its as) : PI X tg it (tI X.K B fun ρ => do let ws ← evs c its ρ; yields ik ws) := by
  unfold iterArgs at h
  split at h
  · cases h
    obtain ⟨e, rfl, o⟩ := es.one
    exact i_seq o.pe fun ρ => by rw [evs_cons, M.assoc]; rfl
  · rename_i y p a q
    split at h
    · rename_i hy
      obtain ⟨rfl, hb⟩ := hy
      cases h
      obtain ⟨e, rfl, o⟩ := es.one
      obtain ⟨b1, b2, b3, b4⟩ := x.blt hb
      rw [List.all_cons, Bool.and_eq_true] at hp
      exact i_rng1 b1 b2 hp.1 o.pe fun ρ => by rw [evs_cons, M.assoc]; rfl
    · cases h
  · rename_i y p a a' q
    split at h
    · rename_i hy
      obtain ⟨rfl, hb⟩ := hy
      cases h
      obtain ⟨e, e', rfl, o, o'⟩ := es.two
      obtain ⟨b1, b2, b3, b4⟩ := x.blt hb
      rw [List.all_cons, List.all_cons, Bool.and_eq_true, Bool.and_eq_true] at hp
      refine i_rng2 b1 b2 hp.1 hp.2.1 o.pe o'.pe fun ρ => ?_
      rw [evs_cons, M.assoc]
      congr 1
      funext w
      rw [M.assoc, evs_cons, M.assoc]
      rfl
    · cases h
  · split at h
    · split at h
      · rename_i hy
        obtain ⟨rfl, hb⟩ := hy
        cases h
        obtain ⟨e, rfl, o⟩ := es.one
        obtain ⟨b1, b2, b3, b4⟩ := x.blt hb
        rw [List.all_cons, Bool.and_eq_true] at hp
        exact i_enum b1 b2 hp.1 o.pe fun ρ => by rw [evs_cons, M.assoc]; rfl
      · cases h
    · cases h
  · cases h
end
end Ev

-- part EvL
set_option maxHeartbeats 200000
/-! EvL: every expression that the check lets by does what the evaluator says. -/
namespace Ev
open PySem PySem.Spec PyProof.Rows L2

theorem bt_len : bootBuiltins "len" = some (.builtin "len") := by decide +kernel
theorem bt_isa : bootBuiltins "isinstance" = some (.builtin "isinstance") := by decide +kernel
theorem bt_int : bootBuiltins "int" = some (.type "int") := by decide +kernel
theorem bt_bool : bootBuiltins "bool" = some (.type "bool") := by decide +kernel
theorem bt_sum : bootBuiltins "sum" = some (.builtin "sum") := by decide +kernel
theorem bt_all : bootBuiltins "all" = some (.builtin "all") := by decide +kernel
theorem bt_any : bootBuiltins "any" = some (.builtin "any") := by decide +kernel
theorem bt_min : bootBuiltins "min" = some (.builtin "min") := by decide +kernel
theorem bt_max : bootBuiltins "max" = some (.builtin "max") := by decide +kernel
theorem bt_list : bootBuiltins "list" = some (.type "list") := by decide +kernel
theorem bt_tuple : bootBuiltins "tuple" = some (.type "tuple") := by decide +kernel
theorem bt_repr : bootBuiltins "repr" = some (.builtin "repr") := by decide +kernel
theorem bt_abs : bootBuiltins "abs" = some (.builtin "abs") := by decide +kernel
theorem bt_str : bootBuiltins "str" = some (.type "str") := by decide +kernel
theorem bt_dict : bootBuiltins "dict" = some (.type "dict") := by decide +kernel
theorem bt_ty (t : Ty) : bootBuiltins (tyStr t) = some (.type (tyName t)) := by
  cases t
  · exact bt_int
  · exact bt_bool
  · exact bt_str
  · exact bt_tuple
  · exact bt_list
  · exact bt_dict

section
variable {X : Cx} {I : SI} {c : C} {B : List Nat} {k : Nat}
theorem t_ite {t a b : Expr} {pos : Pos} {ft fa fb : Env → M Bool} (hc : PT X t (tT X.K B ft)) (ha : PT X a (tT X.K B fa)) (hb : PT X b (tT X.K B fb)) {f : Env → M Bool} (hf : ∀ ρ, f ρ = (do let k ← ft ρ; if k then fa ρ else fb ρ)) : PT X (.IfExp t a b pos) (tT X.K B f) := by
  refine ⟨fun pins s σ H Q J ⟨g, ρ, S, rr, sm, h⟩ => ?_⟩
  rw [hf] at h
  have h0 : tT X.K B ft σ H fun k H1 => if k = true then tT X.K B fa σ H1 Q else tT X.K B fb σ H1 Q := tT.on rr sm h fun g1 k S1 H1 rr1 sm1 _ h => by
    cases k with
    | true => exact ⟨g1, ρ, S1, rr1, sm1, h⟩
    | false => exact ⟨g1, ρ, S1, rr1, sm1, h⟩
  show wpAny _ _ (do if ← isTrue t X.env (eval t X.env) then isTrue a X.env (eval a X.env) else isTrue b X.env (eval b X.env)) _ _ s
  refine wpAny_bind (thn (hc.run pins s σ H _ J h0) fun k s1 ⟨H1, J1, q1⟩ => ?_)
  cases k with
  | true => exact ha.run pins s1 σ H1 Q J1 q1
  | false => exact hb.run pins s1 σ H1 Q J1 q1
theorem fT_bool {e : Ex} {f : Env → M Bool} (h : ∀ ρ, ev c e ρ = (f ρ >>= fun k => pure (.d (.bool k)))) (ρ : Env) : fT c e ρ = f ρ := by
  show (ev c e ρ >>= truthW) = f ρ
  rw [h, M.assoc]
  exact M.bind_pure _
theorem M.bind_congr {α β : Type} {x : M α} {f h : α → M β} (e : ∀ a, f a = h a) : (x >>= f) = (x >>= h) := by
  rw [show f = h from funext e]
theorem blt_ok (x : XOk X I c B k) {own : Bool} {b : Blt} {es : List Ex} {as : List Expr} {p pos : Pos} (hb : bltOk I (bname b) = true) (hi : ∀ t, b ≠ .isa t) (hne : as ≠ []) (hp : as.all plainE = true) (o : EsOk X c B es as) : PE X (.Call (.Name (bname b) p) as [] pos) (tE X.K B (ev c (.blt own b es))) := by
  obtain ⟨b1, b2, b3, b4⟩ := x.blt hb
  cases as with
  | nil => exact absurd rfl hne
  | cons a as =>
    have pa := o.pa hp
    have hf : ∀ ρ, ev c (.blt own b es) ρ = (do let ws ← evs c es ρ; bltin own b ws) := fun _ => rfl
    cases b with
    | len => exact e_bi blt_len bt_len b1 b2 b4 b3 hp pa hf
    | isa t => exact absurd rfl (hi t)
    | int1 => exact e_ty blt_int1 bt_int b1 b2 b4 b3 hp pa hf
    | bool1 => exact e_ty blt_bool1 bt_bool b1 b2 b4 b3 hp pa hf
    | sum => exact e_bi (blt_sum x.bk) bt_sum b1 b2 b4 b3 hp pa hf
    | all => exact e_bi (blt_all x.bk) bt_all b1 b2 b4 b3 hp pa hf
    | any => exact e_bi (blt_any x.bk) bt_any b1 b2 b4 b3 hp pa hf
    | min2 => exact e_bi (blt_min2 x.bk) bt_min b1 b2 b4 b3 hp pa hf
    | max2 => exact e_bi (blt_max2 x.bk) bt_max b1 b2 b4 b3 hp pa hf
    | listOf => exact e_ty blt_list bt_list b1 b2 b4 b3 hp pa hf
    | tupleOf => exact e_ty blt_tuple bt_tuple b1 b2 b4 b3 hp pa hf
    | repr => exact e_bi (blt_repr x.bk) bt_repr b1 b2 b4 b3 hp pa hf
    | abs => exact e_bi blt_abs bt_abs b1 b2 b4 b3 hp pa hf
    | str1 => exact e_ty blt_str1 bt_str b1 b2 b4 b3 hp pa hf
theorem isa_ok (x : XOk X I c B k) {own : Bool} {t : Ty} {e : Ex} {a : Expr} {p p2 pos : Pos} (hb : bltOk I "isinstance" = true) (hu : bltOk I (tyStr t) = true) (hp : plainE a = true) (o : EOk X c B e a) : PE X (.Call (.Name "isinstance" p) [a, .Name (tyStr t) p2] [] pos) (tE X.K B (ev c (.blt own (.isa t) [e]))) := by
  obtain ⟨b1, b2, b3, b4⟩ := x.blt hb
  obtain ⟨u1, u2, u3, u4⟩ := x.blt hu
  refine e_isa (own := own) x.bk b1 b2 bt_isa (ty_plain (bt_ty t) u1 u2 u4 u3) hp o.pe fun ρ => ?_
  show (evs c [e] ρ >>= fun ws => bltin own (.isa t) ws) = _
  rw [evs_cons, M.assoc]
  rfl
theorem bi_ok (x : XOk X I c B k) {own : Bool} {b : Blt} {es : List Ex} {as bs : List Expr} {p pos : Pos} (hb : bltOk I (bname b) = true) (q : bltArgs I b as = some bs) (o : EsOk X c B es bs) : PE X (.Call (.Name (bname b) p) as [] pos) (tE X.K B (ev c (.blt own b es))) := by
  by_cases hi : ∃ t, b = .isa t
  · obtain ⟨t, rfl⟩ := hi
    unfold bltArgs at q
    dsimp only at q
    split at q
    · split at q
      · rename_i hq
        cases q
        obtain ⟨rfl, u1, u2⟩ := hq
        obtain ⟨e, rfl, o1⟩ := o.one
        exact isa_ok x hb u1 u2 o1
      · cases q
    · cases q
  · have hi : ∀ t, b ≠ .isa t := fun t e => hi ⟨t, e⟩
    have q : (if as.isEmpty = false ∧ as.all plainE = true then some as else none) = some bs := by
      cases b <;> first
        | exact q
        | exact absurd rfl (hi _)
    split at q
    · rename_i hq
      cases q
      exact blt_ok x hb hi (fun e => by subst e; cases hq.1) hq.2 o
    · cases q
theorem met_ok (x : XOk X I c B k) {m : Mt} {oe : Ex} {es : List Ex} {a : Expr} {as : List Expr} {apos pos : Pos} (hs : noSup a = true) (hl : (apos.endLine == pos.line) = true) (hp : as.all plainE = true) (hn : as.length < 30) (o : EOk X c B oe a) (os : EsOk X c B es as)
    (hm : metN m es.length = true) : PE X (.Call (.Attribute a (mname m) apos) as [] pos) (tE X.K B (ev c (.met m oe es))) := by
  have hlen := os.len
  cases m with
  | append =>
    cases as with
    | nil => rw [hlen] at hm; cases hm
    | cons a' as => exact e_met (ba := c.b) PySem.F.slot_list_append PySem.F.type_list_append (mt_app x.hB) hs hl hp hn o.pe (os.pa hp) fun _ => rfl
  | extend =>
    cases as with
    | nil => rw [hlen] at hm; cases hm
    | cons a' as => exact e_met (ba := c.b) PySem.F.slot_list_extend PySem.F.type_list_extend (mt_ext x.hB) hs hl hp hn o.pe (os.pa hp) fun _ => rfl
  | popAt =>
    cases as with
    | nil => rw [hlen] at hm; cases hm
    | cons a' as => exact e_met (ba := c.b) PySem.F.slot_list_pop PySem.F.type_list_pop mt_pop0 hs hl hp hn o.pe (os.pa hp) fun _ => rfl
  | pop =>
    have h0 : es.length = 0 := of_decide_eq_true hm
    have e1 : es = [] := List.eq_nil_of_length_eq_zero h0
    subst e1
    cases as with
    | nil => exact e_met0 (ba := c.b) PySem.F.slot_list_pop PySem.F.type_list_pop mt_pop_ hs hl o.pe fun _ => rfl
    | cons a' as => exact os.elim
  | _ => cases hm

theorem o_ok (e : Ex) {o : Option Expr} (ie : ∀ a, chkE I e a = true → EOk X c B e a) (h : (match o with
    | none => isNop e
    | some l => chkE I e l) = true) : OOk X c B e o := by
  cases o with
  | none => cases e <;> first
    | exact o_none fun _ => rfl
    | exact absurd (show false = true from h) Bool.false_ne_true
  | some a => cases e <;> first
    | exact o_some (ie a h).pe fun _ => rfl
    | exact absurd (show false = true from h) Bool.false_ne_true
theorem pts_nil' {X : Cx} {c : C} {B : List Nat} : PTs X [] (tT X.K B fun ρ => tsts c [] ρ) := ⟨fun pins s σ H Q I ⟨g, ρ, S, rr, sm, h⟩ => pts_nil.run pins s σ H Q I (h g true H (.refl _ _) sm rfl)⟩
theorem lc_inv {own : Bool} {elt : Ex} {tg : Tg} {ik : Ik} {its ifs : List Ex} {vs : List Nat} {E : Expr} (h : chkE I (.comp own elt tg ik its ifs vs) E = true) : ∃ elt' tg' iter' ifs' scope p, E = .ListComp elt' [⟨tg', iter', ifs', 0⟩] scope p ∧ blkC I.N I.sc scope (ownOf I.N vs) = true ∧
    chkE (I.blk scope) elt elt' = true ∧ chkTg (I.blk scope) tg tg' = true ∧ (tgVars tg).all (fun j => vs.contains j) = true ∧ chkEs (I.blk scope) ifs ifs' = true ∧ ifs.length ≤ 1 ∧ noSet iter' = true ∧ ∃ as, iterArgs I ik tg' iter' = some as ∧ chkEs I its as = true ∧ as.all plainE = true := by
  cases E with
  | ListComp elt' gens scope p =>
    match gens, h with
    | [], h => exact absurd (show false = true from h) Bool.false_ne_true
    | [⟨tg', iter', ifs', az⟩], h =>
      have h : (decide (az = 0) && blkC I.N I.sc scope (ownOf I.N vs) && chkE (I.blk scope) elt elt' && chkTg (I.blk scope) tg tg' && (tgVars tg).all (fun j => vs.contains j) && chkEs (I.blk scope) ifs ifs' && decide (ifs.length ≤ 1) && noSet iter' &&
        (match iterArgs I ik tg' iter' with
        | some as => chkEs I its as && as.all plainE
        | none => false)) = true := h
      rw [Bool.and_eq_true] at h
      obtain ⟨h, ha⟩ := h
      simp only [Bool.and_eq_true, decide_eq_true_eq] at h
      obtain ⟨⟨⟨⟨⟨⟨⟨rfl, h1⟩, h2⟩, h3⟩, h4⟩, h5⟩, h6⟩, h7⟩ := h
      cases q : iterArgs I ik tg' iter' with
      | none => rw [q] at ha; cases ha
      | some as =>
        rw [q] at ha
        simp only [Bool.and_eq_true] at ha
        exact ⟨elt', tg', iter', ifs', scope, p, rfl, h1, h2, h3, h4, h5, h6, h7, as, q, ha.1, ha.2⟩
    | ⟨_, _, _, _⟩ :: ⟨_, _, _, _⟩ :: _, h => exact absurd (show false = true from h) Bool.false_ne_true
  | _ => exact absurd (show false = true from h) Bool.false_ne_true
theorem tsts_ok {ifs : List Ex} {ifs' : List Expr} (os : EsOk X c B ifs ifs') (h5 : ifs.length ≤ 1) : PTs X ifs' (tT X.K B fun ρ => tsts c ifs ρ) := by
  match ifs, ifs', os, h5 with
  | [], [], _, _ => exact pts_nil'
  | [e], [E], os, _ =>
    have := os.1.pt
    refine pts_one (this.imp fun σ H Q ⟨g, ρ, S, rr, sm, q⟩ => ⟨g, ρ, S, rr, sm, ?_⟩)
    have e0 : tsts c [e] ρ = fT c e ρ := by
      show (ev c e ρ >>= fun x => truthW x >>= fun k => if k then pure true else pure false) = (ev c e ρ >>= fun x => truthW x)
      refine M.bind_congr fun w => ?_
      have : (fun k : Bool => if k then (pure true : M Bool) else pure false) = fun k => pure k := by
        funext k
        cases k <;> rfl
      rw [this]
      exact M.bind_pure _
    have q : PostR X.K B REq g H (tsts c [e] ρ S) Q := q
    rw [e0] at q
    exact q
  | [], _ :: _, os, _ => exact os.elim
  | _ :: _, [], os, _ => exact os.elim
  | [_], _ :: _ :: _, os, _ => exact os.2.elim
  | _ :: _ :: _, _, _, h5 => simp at h5
/-- a comprehension, its parts known -/
theorem lc_ok (own : Bool) (elt : Ex) (tg : Tg) (ik : Ik) (its ifs : List Ex) (vs : List Nat) {E : Expr} (x : XOk X I c B k)
    (ie : ∀ (s : Shared) (H : Hp) (scope : Scope) (C : Addr) (cl : List (Str × Addr)) (fp : List Addr) (E' : Expr), chkE (I.blk scope) elt E' = true → EOk (X.blk s H scope (compEnvC scope cl C X.env) fp) c B elt E')
    (ii : ∀ (s : Shared) (H : Hp) (scope : Scope) (C : Addr) (cl : List (Str × Addr)) (fp : List Addr) (E' : List Expr), chkEs (I.blk scope) ifs E' = true → EsOk (X.blk s H scope (compEnvC scope cl C X.env) fp) c B ifs E')
    (it : ∀ as, chkEs I its as = true → EsOk X c B its as) (h : chkE I (.comp own elt tg ik its ifs vs) E = true) : EOk X c B (.comp own elt tg ik its ifs vs) E := by
  obtain ⟨elt', tg', iter', ifs', scope, p, rfl, ok, h1, h2, h3, h4, h5, h6, as, h7, h8, h9⟩ := lc_inv h
  refine .plain ?_ (fun _ => rfl) rfl
  have pi := iter_ok x h7 h9 (it as h8)
  have hv : ∀ j ∈ tgVars tg, j ∈ vs := fun j hj => List.contains_iff_mem.mp (List.all_eq_true.mp h3 j hj)
  have ok' : BlkOk X.N X.env.scope scope (ownOf I.N vs) := by rw [x.hN, x.sc]; exact blkOk_by ok
  have key := pe_lc (X := X) (ifs := ifs') (pos := p) (te := tE X.K B (ev c elt)) (tt := tT X.K B fun ρ => tsts c ifs ρ) (g := gT X.K tg) x.calm x.nd' pi ok' (fun s H C cl fp => chkTg_ok (x.blk s H scope C cl fp) tg h2) (fun s H C cl fp => ?_) (fun s H C cl fp => (ie s H scope C cl fp elt' h1).pe) (fold_set h6)
  · rw [own_map] at key
    refine key.imp fun σ H Q q => lc_red (own := own) hv (fun ρ => ?_) q
    show (do
      let ws ← evs c its ρ
      let ys ← yields ik ws
      guard (decide (ys.length ≤ sizeLine))
      let zs ← compLoop (fun ρ' => tsts c ifs ρ') (fun ρ' => ev c elt ρ') tg (wipeR ρ vs) ys
      mkLst own zs) = _
    rw [M.assoc]
  · exact tsts_ok (ii s H scope C cl fp ifs' h4) h5
mutual
theorem chkE_ok : ∀ (e : Ex) {X : Cx} {I : SI} {E : Expr}, XOk X I c B k → chkE I e E = true → EOk X c B e E
  | .var i, X, I, E, x, h => by
    cases E with
    | Name y p =>
      have h : (decide (I.N[i]? = some y) && visB I.sc y && okN y) = true := h
      simp only [Bool.and_eq_true, decide_eq_true_eq] at h
      obtain ⟨o1, o2, _⟩ := okN_of h.2
      exact .plain (e_var (by rw [x.hN]; exact h.1.1) (x.vis h.1.2) o1 o2 fun _ => rfl) (fun _ => rfl) rfl
    | _ => exact absurd (show false = true from h) Bool.false_ne_true
  | .con d, X, I, E, x, h => by
    have h : chkC d E = true := h
    unfold chkC at h
    split at h
    · exact .plain (e_con (v := .non) (w := W.d .none) pe_non (fun _ => rfl) fun _ => rfl) (fun _ => rfl) rfl
    · rw [beq_iff_eq] at h; subst h
      exact .plain (e_con (v := .bl _) (w := W.d (.bool _)) pe_bl (fun _ => rfl) fun _ => rfl) (fun _ => rfl) rfl
    · rw [beq_iff_eq] at h; subst h
      exact .plain (e_con (v := .int _) (w := W.d (.int _)) pe_int (fun _ => rfl) fun _ => rfl) (fun _ => rfl) rfl
    · rw [beq_iff_eq] at h; subst h
      exact .plain (e_con (v := .str _) (w := W.d (.str _)) pe_str (fun _ => rfl) fun _ => rfl) (fun _ => rfl) rfl
    · cases h
  | .glo j, X, I, E, x, h => by
    cases E with
    | Name y p =>
      have h : ((match I.G[j]? with
        | some p => decide (p.1 = y)
        | none => false) && glB I.sc y && okN y) = true := h
      simp only [Bool.and_eq_true] at h
      obtain ⟨⟨h1, h2⟩, h3⟩ := h
      obtain ⟨o1, o2, _⟩ := okN_of h3
      cases q : I.G[j]? with
      | none => rw [q] at h1; cases h1
      | some pr =>
        rw [q] at h1
        have h1 := of_decide_eq_true h1
        subst h1
        obtain ⟨u, v, e1, e2, e3⟩ := x.glo j pr q
        refine .plain (e_con (v := v) (w := .d pr.2) (pe_glob (x.gl h2) e1 e2 o1) e3 fun ρ => ?_) (fun _ => rfl) rfl
        show (match c.G[j]? with
          | some p => (pure (.d p.2) : M W)
          | none => bad) = _
        rw [x.cG, q]
    | _ => exact absurd (show false = true from h) Bool.false_ne_true
  | .fn _ _, X, I, E, x, h => absurd (show false = true from h) Bool.false_ne_true
  | .tup es, X, I, E, x, h => by
    cases E with
    | Tuple as kk p =>
      have h : (chkEs I es as && as.all plainE && decide (es.length ≤ 1000)) = true := h
      simp only [Bool.and_eq_true, decide_eq_true_eq] at h
      have os := chkEs_ok es x h.1.1
      exact .plain (e_tup (os.pa h.1.2) (fun ρ S ws S' e => by rw [evs_len e]; exact small_len h.2) fun _ => rfl) (fun _ => rfl) rfl
    | _ => exact absurd (show false = true from h) Bool.false_ne_true
  | .lst own es, X, I, E, x, h => by
    cases E with
    | List as p =>
      have h : (chkEs I es as && as.all plainE && decide (es.length ≤ 1000)) = true := h
      simp only [Bool.and_eq_true, decide_eq_true_eq] at h
      have os := chkEs_ok es x h.1.1
      exact .plain (e_lst (own := own) (os.pa h.1.2) (fun ρ S ws S' e => by rw [evs_len e]; exact small_len h.2) fun _ => rfl) (fun _ => rfl) rfl
    | _ => exact absurd (show false = true from h) Bool.false_ne_true
  | .dic, X, I, E, x, h => by
    cases E with
    | Dict ks vs p =>
      cases ks with
      | nil =>
        cases vs with
        | nil => exact .plain (e_dic fun _ => rfl) (fun _ => rfl) rfl
        | cons _ _ => exact absurd (show false = true from h) Bool.false_ne_true
      | cons _ _ => exact absurd (show false = true from h) Bool.false_ne_true
    | _ => exact absurd (show false = true from h) Bool.false_ne_true
  | .bin own op a b, X, I, E, x, h => by
    cases E with
    | BinOp a' op' b' p =>
      have h : (decide (op = op') && chkE I a a' && chkE I b b') = true := h
      simp only [Bool.and_eq_true, decide_eq_true_eq] at h
      obtain ⟨⟨rfl, h1⟩, h2⟩ := h
      exact .plain (e_bin (own := own) (chkE_ok a x h1).pe (chkE_ok b x h2).pe fun _ => rfl) (fun _ => rfl) rfl
    | _ => exact absurd (show false = true from h) Bool.false_ne_true
  | .neg a, X, I, E, x, h => by
    cases E with
    | UnaryOp op a' p =>
      cases op with
      | USub => exact .plain (e_neg (chkE_ok a x h).pe fun _ => rfl) (fun _ => rfl) rfl
      | _ => exact absurd (show false = true from h) Bool.false_ne_true
    | _ => exact absurd (show false = true from h) Bool.false_ne_true
  | .cmp op a b, X, I, E, x, h => by
    cases E with
    | Compare a' ops bs p =>
      match ops, bs, h with
      | [op'], [b'], h =>
        have h : (decide (op = op') && chkE I a a' && chkE I b b' && !behindInMarks op b') = true := h
        simp only [Bool.and_eq_true, decide_eq_true_eq, Bool.not_eq_true'] at h
        obtain ⟨⟨⟨rfl, h1⟩, h2⟩, h3⟩ := h
        have ia := (chkE_ok a x h1).pe
        have ib := (chkE_ok b x h2).pe
        exact ⟨e_cmp x.bk h3 ia ib fun _ => rfl, t_cmp x.bk h3 ia ib fun ρ => fT_bool (f := fun ρ => do let x ← ev c a ρ; let y ← ev c b ρ; cmpop op x y) (fun ρ => by
          rw [M.assoc]
          refine M.bind_congr fun w => ?_
          rw [M.assoc]) ρ, fun q => by cases q⟩
      | [], _, h => exact absurd (show false = true from h) Bool.false_ne_true
      | _ :: _ :: _, _, h => exact absurd (show false = true from h) Bool.false_ne_true
      | [_], [], h => exact absurd (show false = true from h) Bool.false_ne_true
      | [_], _ :: _ :: _, h => exact absurd (show false = true from h) Bool.false_ne_true
    | _ => exact absurd (show false = true from h) Bool.false_ne_true
  | .chn op1 op2 a b d, X, I, E, x, h => by
    cases E with
    | Compare a' ops bs p =>
      match ops, bs, h with
      | [op1', op2'], [b', d'], h =>
        have h : (decide (op1 = op1') && decide (op2 = op2') && chkE I a a' && chkE I b b' && chkE I d d' && !lastMarks [op1, op2] [b', d']) = true := h
        simp only [Bool.and_eq_true, decide_eq_true_eq, Bool.not_eq_true'] at h
        obtain ⟨⟨⟨⟨⟨rfl, rfl⟩, h1⟩, h2⟩, h3⟩, h4⟩ := h
        have ia := (chkE_ok a x h1).pe
        have ib := (chkE_ok b x h2).pe
        have id := (chkE_ok d x h3).pe
        exact ⟨e_chn x.bk h4 ia ib id fun _ => rfl, t_chn x.bk h4 ia ib id fun ρ => fT_bool (f := fun ρ => do let x ← ev c a ρ; let y ← ev c b ρ; let k ← cmpop op1 x y; if k then do let z ← ev c d ρ; cmpop op2 y z else pure false) (fun ρ => by
          rw [M.assoc]
          refine M.bind_congr fun w => ?_
          rw [M.assoc]
          refine M.bind_congr fun w => ?_
          rw [M.assoc]
          refine M.bind_congr fun q => ?_
          cases q with
          | true => rw [if_pos rfl, if_pos rfl, M.assoc]
          | false => rfl) ρ, fun q => by cases q⟩
      | [], _, h => exact absurd (show false = true from h) Bool.false_ne_true
      | [_], _, h => exact absurd (show false = true from h) Bool.false_ne_true
      | _ :: _ :: _ :: _, _, h => exact absurd (show false = true from h) Bool.false_ne_true
      | [_, _], [], h => exact absurd (show false = true from h) Bool.false_ne_true
      | [_, _], [_], h => exact absurd (show false = true from h) Bool.false_ne_true
      | [_, _], _ :: _ :: _ :: _, h => exact absurd (show false = true from h) Bool.false_ne_true
    | _ => exact absurd (show false = true from h) Bool.false_ne_true
  | .and a b, X, I, E, x, h => by
    cases E with
    | BoolOp op vs p =>
      cases op with
      | And =>
        match vs, h with
        | [a', b'], h =>
          have h : (chkE I a a' && chkE I b b') = true := h
          rw [Bool.and_eq_true] at h
          have ia := chkE_ok a x h.1
          have ib := chkE_ok b x h.2
          have w := w_and (pos := p) (fb := ev c b) ia.pt (pw_and1 ib.pt) (fun _ => rfl) (f := fT c (.and a b)) fun _ => rfl
          exact ⟨e_and ia.pe (pe_one ib.pe) fun _ => rfl, w.pt, fun _ => w⟩
        | a' :: b' :: c' :: r, h =>
          have h : (chkE I a a' && chkE I b (.BoolOp .And (b' :: c' :: r) p)) = true := h
          rw [Bool.and_eq_true] at h
          have ia := chkE_ok a x h.1
          have ib := chkE_ok b x h.2
          have w := w_and (fb := ev c b) ia.pt (ib.pw rfl) (fun _ => rfl) (f := fT c (.and a b)) fun _ => rfl
          exact ⟨e_and ia.pe ib.pe fun _ => rfl, w.pt, fun _ => w⟩
        | [], h => exact absurd (show false = true from h) Bool.false_ne_true
        | [_], h => exact absurd (show false = true from h) Bool.false_ne_true
      | Or => exact absurd (show false = true from h) Bool.false_ne_true
    | _ => exact absurd (show false = true from h) Bool.false_ne_true
  | .or a b, X, I, E, x, h => by
    cases E with
    | BoolOp op vs p =>
      cases op with
      | Or =>
        match vs, h with
        | [a', b'], h =>
          have h : (chkE I a a' && chkE I b b') = true := h
          rw [Bool.and_eq_true] at h
          have ia := chkE_ok a x h.1
          have ib := chkE_ok b x h.2
          have w := w_or (pos := p) (fb := ev c b) ia.pt (pw_or1 ib.pt) (fun _ => rfl) (f := fT c (.or a b)) fun _ => rfl
          exact ⟨e_or ia.pe (pe_one ib.pe) fun _ => rfl, w.pt, fun _ => w⟩
        | a' :: b' :: c' :: r, h =>
          have h : (chkE I a a' && chkE I b (.BoolOp .Or (b' :: c' :: r) p)) = true := h
          rw [Bool.and_eq_true] at h
          have ia := chkE_ok a x h.1
          have ib := chkE_ok b x h.2
          have w := w_or (fb := ev c b) ia.pt (ib.pw rfl) (fun _ => rfl) (f := fT c (.or a b)) fun _ => rfl
          exact ⟨e_or ia.pe ib.pe fun _ => rfl, w.pt, fun _ => w⟩
        | [], h => exact absurd (show false = true from h) Bool.false_ne_true
        | [_], h => exact absurd (show false = true from h) Bool.false_ne_true
      | And => exact absurd (show false = true from h) Bool.false_ne_true
    | _ => exact absurd (show false = true from h) Bool.false_ne_true
  | .not a, X, I, E, x, h => by
    cases E with
    | UnaryOp op a' p =>
      cases op with
      | Not =>
        have ia := chkE_ok a x h
        exact ⟨e_not ia.pe fun _ => rfl, t_not ia.pt fun ρ => fT_bool (f := fun ρ => do let k ← fT c a ρ; pure (!k)) (fun ρ => by
          show (ev c a ρ >>= fun w => truthW w >>= fun k => pure (W.d (.bool (!k)))) = _
          rw [M.assoc]
          unfold fT
          rw [M.assoc]
          rfl) ρ, fun q => by cases q⟩
      | _ => exact absurd (show false = true from h) Bool.false_ne_true
    | _ => exact absurd (show false = true from h) Bool.false_ne_true
  | .ite t a b, X, I, E, x, h => by
    cases E with
    | IfExp t' a' b' p =>
      have h : (chkE I t t' && chkE I a a' && chkE I b b') = true := h
      simp only [Bool.and_eq_true] at h
      have it := chkE_ok t x h.1.1
      have ia := chkE_ok a x h.1.2
      have ib := chkE_ok b x h.2
      refine ⟨e_ite it.pt ia.pe ib.pe fun ρ => ?_, t_ite it.pt ia.pt ib.pt fun ρ => ?_, fun q => by cases q⟩
      · unfold fT; rw [M.assoc]; rfl
      · show (ev c (.ite t a b) ρ >>= truthW) = (fT c t ρ >>= fun k => if k = true then fT c a ρ else fT c b ρ)
        unfold fT
        rw [M.assoc]
        show ((ev c t ρ >>= fun x => truthW x >>= fun k => if k then ev c a ρ else ev c b ρ) >>= truthW) = _
        rw [M.assoc]
        refine M.bind_congr fun w => ?_
        rw [M.assoc]
        refine M.bind_congr fun q => ?_
        cases q <;> rfl
    | _ => exact absurd (show false = true from h) Bool.false_ne_true
  | .call i es, X, I, E, x, h => by
    cases E with
    | Call f as kws p =>
      cases f with
      | Name y q =>
        cases kws with
        | nil =>
          have h : ((match I.T[i]? with
            | some df => decide (df.name = y) && decide (es.length = df.ps.length)
            | none => false) && glB I.sc y && okN y && chkEs I es as && as.all plainE) = true := h
          simp only [Bool.and_eq_true] at h
          obtain ⟨⟨⟨⟨h1, h2⟩, h3⟩, h4⟩, h5⟩ := h
          obtain ⟨o1, _⟩ := okN_of h3
          have os := chkEs_ok es x h4
          cases q : I.T[i]? with
          | none => rw [q] at h1; cases h1
          | some df =>
            rw [q] at h1
            simp only [Bool.and_eq_true, decide_eq_true_eq] at h1
            obtain ⟨rfl, hl⟩ := h1
            obtain ⟨fa, fd, f1, f2, f3, f4, f5⟩ := x.fns i df q
            exact .plain (e_call f5 x.room (x.gl h2) f1 f2 f3 o1 h5 (fun ρ S ws S' e => by rw [evs_len e]; exact hl) (os.pa h5) fun _ => rfl) (fun _ => rfl) rfl
        | cons _ _ => exact absurd (show false = true from h) Bool.false_ne_true
      | _ => exact absurd (show false = true from h) Bool.false_ne_true
    | _ => exact absurd (show false = true from h) Bool.false_ne_true
  | .callk i es ks kes, X, I, E, x, h => by
    cases E with
    | Call f as kws p =>
      cases f with
      | Name y q =>
        have h : ((match I.T[i]? with
          | some df => decide (df.name = y) && decide (es.length ≤ df.ps.length)
          | none => false) && glB I.sc y && okN y && chkEs I es as && as.all plainE && decide (kwNames kws = ks) && kwAll kws && decide (kes.length = ks.length) && chkEs I kes (kwVals kws) && I.kwl.contains (i, es.length, ks)) = true := h
        simp only [Bool.and_eq_true, decide_eq_true_eq] at h
        obtain ⟨⟨⟨⟨⟨⟨⟨⟨⟨h1, h2⟩, h3⟩, h4⟩, h5⟩, h6⟩, h7⟩, h8⟩, h9⟩, h10⟩ := h
        obtain ⟨o1, _⟩ := okN_of h3
        have os := chkEs_ok es x h4
        have ok := chkEs_ok kes x h9
        cases q : I.T[i]? with
        | none => rw [q] at h1; cases h1
        | some df =>
          rw [q] at h1
          simp only [Bool.and_eq_true, decide_eq_true_eq] at h1
          obtain ⟨rfl, hl⟩ := h1
          obtain ⟨fa, fd, f1, f2, f3, f4, f5⟩ := x.fns i df q
          have hlen := os.len
          refine .plain (e_callk (ks := ks) (φk := fun ws us => kwF I.T c.Φ i ws ks us) f5 x.room (x.gl h2) f1 f2 (by rw [← hlen]; exact f4 _ _ (List.contains_iff_mem.mp h10)) o1 h5 (by rw [← hlen]; exact hl) h7 h6 (fun ρ S ws S' e => by rw [evs_len e]; exact hlen)
            (fun ρ S ws S' e => by rw [evs_len e]; exact h8) (os.pa h5) (fun e ρ => ?_) ok.pk (fun ws us => ?_) fun ρ => ?_) (fun _ => rfl) rfl
          · subst e
            cases es with
            | nil => rfl
            | cons _ _ => exact os.elim
          · show (match I.T[i]? with
              | none => bad
              | some df => (match kwR df.ps ws.length ks us with
                | some r => c.Φ i (ws ++ r)
                | none => bad)) = _
            first
              | (rw [q]; done)
              | (rw [q]; rfl)
          · show (evs c es ρ >>= fun ws => evs c kes ρ >>= fun us => c.Φk i ws ks us) = _
            rw [x.cK]
      | _ => exact absurd (show false = true from h) Bool.false_ne_true
    | _ => exact absurd (show false = true from h) Bool.false_ne_true
  | .blt own b es, X, I, E, x, h => by
    cases E with
    | Call f as kws p =>
      cases f with
      | Name y q =>
        cases kws with
        | nil =>
          have h : (decide (y = bname b) && bltOk I y && (match bltArgs I b as with
            | some bs => chkEs I es bs
            | none => false)) = true := h
          simp only [Bool.and_eq_true, decide_eq_true_eq] at h
          obtain ⟨⟨rfl, h2⟩, h3⟩ := h
          cases q : bltArgs I b as with
          | none => rw [q] at h3; cases h3
          | some bs =>
            rw [q] at h3
            have os := chkEs_ok es x h3
            exact .plain (bi_ok x h2 q os) (fun _ => rfl) rfl
        | cons _ _ => exact absurd (show false = true from h) Bool.false_ne_true
      | _ => exact absurd (show false = true from h) Bool.false_ne_true
    | _ => exact absurd (show false = true from h) Bool.false_ne_true
  | .met m o es, X, I, E, x, h => by
    cases E with
    | Call f as kws p =>
      cases f with
      | Attribute a name ap =>
        cases kws with
        | nil =>
          have h : (decide (name = mname m) && noSup a && (ap.endLine == p.line) && as.all plainE && decide (as.length < 30) && chkE I o a && chkEs I es as && metN m es.length) = true := h
          rw [Bool.and_eq_true] at h
          obtain ⟨h, hm⟩ := h
          simp only [Bool.and_eq_true, decide_eq_true_eq] at h
          obtain ⟨⟨⟨⟨⟨⟨rfl, h1⟩, h2⟩, h3⟩, h4⟩, h5⟩, h6⟩ := h
          exact .plain (met_ok x h1 h2 h3 h4 (chkE_ok o x h5) (chkEs_ok es x h6) hm) (fun _ => rfl) rfl
        | cons _ _ => exact absurd (show false = true from h) Bool.false_ne_true
      | _ => exact absurd (show false = true from h) Bool.false_ne_true
    | _ => exact absurd (show false = true from h) Bool.false_ne_true
  | .sub a i, X, I, E, x, h => by
    cases E with
    | Subscript a' i' p =>
      have h : (chkE I a a' && chkE I i i' && noSlice i') = true := h
      simp only [Bool.and_eq_true] at h
      exact .plain (e_sub (plain_ix h.2) (chkE_ok a x h.1.1).pe (chkE_ok i x h.1.2).pe fun _ => rfl) (fun _ => rfl) rfl
    | _ => exact absurd (show false = true from h) Bool.false_ne_true
  | .slc own a lo hi, X, I, E, x, h => by
    cases E with
    | Subscript a' i' p =>
      cases i' with
      | Slice lo' hi' st p2 =>
        cases st with
        | none =>
          have h : (chkE I a a' && (match (generalizing := false) lo' with
            | none => isNop lo
            | some l => chkE I lo l) && (match (generalizing := false) hi' with
            | none => isNop hi
            | some l => chkE I hi l)) = true := h
          simp only [Bool.and_eq_true] at h
          exact .plain (e_slc (own := own) (chkE_ok a x h.1.1).pe (o_ok lo (fun a h' => chkE_ok lo x h') h.1.2) (o_ok hi (fun a h' => chkE_ok hi x h') h.2) fun _ => rfl) (fun _ => rfl) rfl
        | some _ => exact absurd (show false = true from h) Bool.false_ne_true
      | _ => exact absurd (show false = true from h) Bool.false_ne_true
    | _ => exact absurd (show false = true from h) Bool.false_ne_true
  | .nop, X, I, E, x, h => absurd (show false = true from h) Bool.false_ne_true
  | .comp own elt tg ik its ifs vs, X, I, E, x, h => by
    have h0 := lc_ok own elt tg ik its ifs vs x (fun s H scope C cl fp E' h' => chkE_ok elt (x.blk s H scope C cl fp) h') (fun s H scope C cl fp E' h' => chkEs_ok ifs (x.blk s H scope C cl fp) h') (fun as h' => chkEs_ok its x h') h
    exact h0
theorem chkEs_ok : ∀ (es : List Ex) {X : Cx} {I : SI} {Es : List Expr}, XOk X I c B k → chkEs I es Es = true → EsOk X c B es Es
  | [], X, I, [], x, h => trivial
  | [], X, I, _ :: _, x, h => absurd (show false = true from h) Bool.false_ne_true
  | _ :: _, X, I, [], x, h => absurd (show false = true from h) Bool.false_ne_true
  | e :: es, X, I, E :: Es, x, h => by
    have h : (chkE I e E && chkEs I es Es) = true := h
    rw [Bool.and_eq_true] at h
    exact ⟨chkE_ok e x h.1, chkEs_ok es x h.2⟩
end
end
end Ev

-- part EvM
set_option maxHeartbeats 200000
/-! EvM: statements. -/
namespace Ev
open PySem PySem.Spec PyProof.Rows L2

inductive RV where
  | nx | rt (v : V) | bk | ct
def RF (K : PySem.W.Frag) : Gh → (Fl × Env) → (L2.St × RV) → Prop := fun g p q => RepR K g p.2 q.1 ∧ match p.1, q.2 with
  | .nx, .nx => True
  | .rt w, .rt v => RepW K g w v
  | .bk, .bk => True
  | .ct, .ct => True
  | _, _ => False
def endQ (D : Ends) : (L2.St × RV) → Hp → Prop := fun q H => match q.2 with
  | .nx => D.nx q.1 H
  | .rt v => D.rt v H
  | .bk => D.bk q.1 H
  | .ct => D.ct q.1 H
def tS (K : PySem.W.Frag) (B : List Nat) (f : Env → M (Fl × Env)) : TS := fun D σ H => ∃ g ρ S, RepR K g ρ σ ∧ Sim K B g S H ∧ PostR K B (RF K) g H (f ρ S) (endQ D)
theorem _root_.L2.PS.imp {X : Cx} {e : Stmt} {t t' : TS} (h : PS X e t) (q : ∀ D σ H, t' D σ H → t D σ H) : PS X e t' := ⟨fun pins s σ H D I hw => h.run pins s σ H D I (q D σ H hw)⟩
theorem _root_.L2.PSs.imp {X : Cx} {e : List Stmt} {t t' : TS} (h : PSs X e t) (q : ∀ D σ H, t' D σ H → t D σ H) : PSs X e t' := ⟨fun pins s σ H D I hw => h.run pins s σ H D I (q D σ H hw)⟩
section
variable {X : Cx} {I : SI} {c : C} {B : List Nat} {k : Nat} {e : Ex} {E : Expr} {pos p : Pos}
/-- a statement that ends at once -/
theorem s_nx {K : PySem.W.Frag} {g : Gh} {ρ : Env} {σ : L2.St} {S : Store} {H : Hp} {D : Ends} (rr : RepR K g ρ σ) (sm : Sim K B g S H) (h : PostR K B (RF K) g H ((pure (Fl.nx, ρ) : M (Fl × Env)) S) (endQ D)) : D.nx σ H :=
  h g (σ, .nx) H (.refl _ _) sm ⟨rr, trivial⟩
theorem s_exp (o : EOk X c B e E) (hs : swapsWith E none pos.line X.env = pure false) : PS X (.Expr E pos) (tS X.K B (ex c (.exp e))) :=
  (ps_expr o.pe hs).imp fun D σ H ⟨g, ρ, S, rr, sm, h⟩ => by
    have h : PostR X.K B (RF X.K) g H ((ev c e ρ >>= fun _ => pure (.nx, ρ)) S) (endQ D) := h
    exact tE.on rr sm h fun g1 w v S1 H1 rr1 sm1 _ _ h => s_nx rr1 sm1 h
theorem s_ret (o : EOk X c B e E) : PS X (.Return (some E) pos) (tS X.K B (ex c (.ret e))) :=
  (ps_ret o.pe).imp fun D σ H ⟨g, ρ, S, rr, sm, h⟩ => by
    have h : PostR X.K B (RF X.K) g H ((ev c e ρ >>= fun w => pure (.rt w, ρ)) S) (endQ D) := h
    exact tE.on rr sm h fun g1 w v S1 H1 rr1 sm1 r _ h => h g1 (σ, .rt v) H1 (.refl _ _) sm1 ⟨rr1, r⟩
theorem s_retN : PS X (.Return none pos) (tS X.K B (ex c .retN)) := ps_retN.imp fun D σ H ⟨g, ρ, S, rr, sm, h⟩ => h g (σ, .rt .non) H (.refl _ _) sm ⟨rr, rfl⟩
theorem s_pas : PS X (.Pass pos) (tS X.K B (ex c .pas)) := ps_pass.imp fun D σ H ⟨g, ρ, S, rr, sm, h⟩ => s_nx rr sm h
theorem s_doc {x : Str} {j : Nat} : PS X (.Expr (.Constant (.str x) j p) pos) (tS X.K B (ex c .pas)) := ps_doc.imp fun D σ H ⟨g, ρ, S, rr, sm, h⟩ => s_nx rr sm h
theorem s_brk : PS X (.Break pos) (tS X.K B (ex c .brk)) := ps_break.imp fun D σ H ⟨g, ρ, S, rr, sm, h⟩ => h g (σ, .bk) H (.refl _ _) sm ⟨rr, trivial⟩
theorem s_cnt : PS X (.Continue pos) (tS X.K B (ex c .cnt)) := ps_continue.imp fun D σ H ⟨g, ρ, S, rr, sm, h⟩ => h g (σ, .ct) H (.refl _ _) sm ⟨rr, trivial⟩
theorem ss_nil : PSs X [] (tS X.K B (exs c [])) := pss_nil.imp fun D σ H ⟨g, ρ, S, rr, sm, h⟩ => s_nx rr sm h
theorem ss_cons {s : St} {ss : List St} {st : Stmt} {rest : List Stmt} (h1 : PS X st (tS X.K B (ex c s))) (h2 : PSs X rest (tS X.K B (exs c ss))) : PSs X (st :: rest) (tS X.K B (exs c (s :: ss))) :=
  (pss_cons h1 h2).imp fun D σ H ⟨g, ρ, S, rr, sm, h⟩ => by
    have h : PostR X.K B (RF X.K) g H ((ex c s ρ >>= fun r => match r with
      | (.nx, ρ') => exs c ss ρ'
      | r => pure r) S) (endQ D) := h
    refine ⟨g, ρ, S, rr, sm, PostR.mono (h.on (R := RF X.K)) fun q H1 ⟨g1, r, S1, _, st1, sm1, rf, h⟩ => ?_⟩
    obtain ⟨σ1, rv⟩ := q
    obtain ⟨fl, ρ1⟩ := r
    obtain ⟨rr1, rf⟩ := rf
    cases fl with
    | nx => cases rv <;> first
      | exact rf.elim
      | exact ⟨g1, ρ1, S1, rr1, sm1, h⟩
    | rt w => cases rv <;> first
      | exact rf.elim
      | exact h g1 (σ1, .rt _) H1 (.refl _ _) sm1 ⟨rr1, rf⟩
    | bk => cases rv <;> first
      | exact rf.elim
      | exact h g1 (σ1, .bk) H1 (.refl _ _) sm1 ⟨rr1, rf⟩
    | ct => cases rv <;> first
      | exact rf.elim
      | exact h g1 (σ1, .ct) H1 (.refl _ _) sm1 ⟨rr1, rf⟩
theorem freeze_ok {n : Nat} {S S' : Store} {w : W} (e : freeze (.ref n) S = .ok w S') : ∃ ds, S[n]? = some (.lst (ds.map .d)) ∧ w = .d (.list ds) ∧ S' = S.set n .gone := by
  have e : (match S[n]? with
    | some (.lst ws) => (match allData ws with
      | some xs => Out.ok (W.d (.list xs)) (S.set n .gone)
      | none => .bad)
    | _ => .bad) = .ok w S' := e
  split at e
  · rename_i ws q
    split at e
    · rename_i ds q2
      cases e
      exact ⟨ds, by rw [q, allData_some q2], rfl, rfl⟩
    · cases e
  · cases e
/-- freezing is nothing to the machine -/
theorem ss_frz {i : Nat} {ss : List St} {rest : List Stmt} (h2 : PSs X rest (tS X.K B (exs c ss))) : PSs X rest (tS X.K B (exs c (.frz i :: ss))) :=
  h2.imp fun D σ H ⟨g, ρ, S, rr, sm, h⟩ => by
    have h : PostR X.K B (RF X.K) g H (((lift (ρ[i]?.bind id) >>= fun x => freeze x >>= fun w => pure (Fl.nx, ρ.set i (some w))) >>= fun r => match r with
      | (.nx, ρ') => exs c ss ρ'
      | r => pure r) S) (endQ D) := h
    rw [M.assoc] at h
    obtain ⟨x, e, h⟩ := h.lift
    rw [M.assoc] at h
    have e1 : ρ[i]? = some (some x) := by
      cases q : ρ[i]? with
      | none => rw [q] at e; cases e
      | some u => rw [q] at e; simp at e; rw [e]
    obtain ⟨v, e2, r⟩ := rr.at_ i x e1
    have hset : σ.set i (some v) = σ := by
      refine List.ext_getElem? fun j => ?_
      by_cases z : i = j
      · subst z; rw [List.getElem?_set_self (List.getElem?_eq_some_iff.mp e2).1, e2]
      · rw [List.getElem?_set_ne z]
    have keep : ∀ {g1 : Gh} {S1 : Store} {w : W}, Step g H g1 H → Sim X.K B g1 S1 H → RepW X.K g1 w v → PostR X.K B (RF X.K) g H (exs c ss (ρ.set i (some w)) S1) (endQ D) → tS X.K B (exs c ss) D σ H := fun {g1 S1 w} st sm1 r1 h =>
      ⟨g1, ρ.set i (some w), S1, by have := (rr.le st.1).set (i := i) r1; rw [hset] at this; exact this, sm1, PostR.step h st⟩
    cases x with
    | ref n =>
      rw [bind_at] at h
      cases e5 : freeze (.ref n) S with
      | ok w S1 =>
        rw [e5] at h
        obtain ⟨ds, q, rfl, rfl⟩ := freeze_ok e5
        obtain ⟨g1, a, sm1, st1, hm, r1⟩ := sm.freeze q
        obtain ⟨a', ea, rfl⟩ := r
        rw [hm] at ea; cases ea
        exact keep st1 sm1 r1 h
      | exc _ _ _ => rw [e5] at h; exact h.elim
      | bad => rw [e5] at h; exact h.elim
    | d y => exact keep (.refl _ _) sm r h
    | tup ws => exact keep (.refl _ _) sm r h
    | fn j => exact keep (.refl _ _) sm r h
theorem s_iff {t : Ex} {T : Expr} {a b : List St} {a' b' : List Stmt} (o : EOk X c B t T) (ha : PSs X a' (tS X.K B (exs c a))) (hb : PSs X b' (tS X.K B (exs c b))) : PS X (.If T a' b' pos) (tS X.K B (ex c (.iff t a b))) :=
  (ps_if o.pt ha hb).imp fun D σ H ⟨g, ρ, S, rr, sm, h⟩ => by
    have h : PostR X.K B (RF X.K) g H ((fT c t ρ >>= fun k => if k then exs c a ρ else exs c b ρ) S) (endQ D) := by
      have e0 : ex c (.iff t a b) ρ = (fT c t ρ >>= fun k => if k then exs c a ρ else exs c b ρ) := by
        unfold fT
        rw [M.assoc]
        rfl
      rw [← e0]
      exact h
    refine tT.on rr sm h fun g1 k S1 H1 rr1 sm1 _ h => ?_
    cases k with
    | true => exact ⟨g1, ρ, S1, rr1, sm1, h⟩
    | false => exact ⟨g1, ρ, S1, rr1, sm1, h⟩
theorem s_whl {t : Ex} {T : Expr} {a : List St} {a' : List Stmt} (hx : PassesOwn (model X.prog X.w) X.A X.env X.xe) (o : EOk X c B t T) (ha : PSs X a' (tS X.K B (exs c a))) : PS X (.While T a' [] pos) (tS X.K B (ex c (.whl t a))) :=
  (ps_while hx o.pt ha).imp fun D σ H ⟨g, ρ, S, rr, sm, h⟩ => by
    refine ⟨fun m σ H => ∃ g ρ S, RepR X.K g ρ σ ∧ Sim X.K B g S H ∧ PostR X.K B (RF X.K) g H (whlLoop (fT c t) (fun ρ' => exs c a ρ') m ρ S) (endQ D), ⟨c.F, g, ρ, S, rr, sm, h⟩, ?_⟩
    rintro m σ H ⟨g, ρ, S, rr, sm, h⟩
    cases m with
    | zero => exact h.elim
    | succ n =>
      have h : PostR X.K B (RF X.K) g H ((fT c t ρ >>= fun k => if k then (exs c a ρ >>= fun r => match r with
        | (.nx, ρ2) => whlLoop (fT c t) (fun ρ' => exs c a ρ') n ρ2
        | (.ct, ρ2) => whlLoop (fT c t) (fun ρ' => exs c a ρ') n ρ2
        | (.bk, ρ2) => pure (.nx, ρ2)
        | (.rt v, ρ2) => pure (.rt v, ρ2)) else pure (.nx, ρ)) S) (endQ D) := h
      refine tT.on rr sm h fun g1 k S1 H1 rr1 sm1 _ h => ?_
      cases k with
      | false => exact s_nx rr1 sm1 h
      | true =>
        rw [if_pos rfl] at h ⊢
        refine ⟨fun σ' H' => ∃ g ρ S, RepR X.K g ρ σ' ∧ Sim X.K B g S H' ∧ PostR X.K B (RF X.K) g H' (whlLoop (fT c t) (fun ρ' => exs c a ρ') n ρ S) (endQ D), fun σ' H' hN => ⟨n, by omega, hN⟩, g1, ρ, S1, rr1, sm1, PostR.mono (h.on (R := RF X.K)) fun q H2 ⟨g2, r, S2, _, st2, sm2, rf, h⟩ => ?_⟩
        obtain ⟨σ2, rv⟩ := q
        obtain ⟨fl, ρ2⟩ := r
        obtain ⟨rr2, rf⟩ := rf
        cases fl with
        | nx => cases rv <;> first
          | exact rf.elim
          | exact ⟨g2, ρ2, S2, rr2, sm2, h⟩
        | rt w => cases rv <;> first
          | exact rf.elim
          | exact h g2 (σ2, .rt _) H2 (.refl _ _) sm2 ⟨rr2, rf⟩
        | bk => cases rv <;> first
          | exact rf.elim
          | exact s_nx rr2 sm2 h
        | ct => cases rv <;> first
          | exact rf.elim
          | exact ⟨g2, ρ2, S2, rr2, sm2, h⟩
theorem s_for {tg' it' : Expr} {t : Tg} {ik : Ik} {its : List Ex} {a : List St} {a' : List Stmt} (hx : PassesOwn (model X.prog X.w) X.A X.env X.xe) (hc : X.calm = true) (hi : PI X tg' it' (tI X.K B fun ρ => do let ws ← evs c its ρ; yields ik ws)) (hg : PG X tg' (gT X.K t)) (ha : PSs X a' (tS X.K B (exs c a)))
    (hs : noSet it' = true) : PS X (.For tg' it' a' [] pos) (tS X.K B (ex c (.forr t ik its a))) :=
  (ps_for hx hc hi hg ha (fold_set hs)).imp fun D σ H ⟨g, ρ, S, rr, sm, h⟩ => by
    have h : PostR X.K B (RF X.K) g H (((evs c its ρ >>= fun ws => yields ik ws) >>= fun ys => forLoop (fun ρ' => exs c a ρ') t ys ρ) S) (endQ D) := by
      rw [M.assoc]
      exact h
    refine ⟨g, ρ, S, rr, sm, PostR.mono h.on fun J H1 ⟨g1, ys, S1, _, st1, sm1, wk, h⟩ => ?_⟩
    obtain ⟨G, Y, w, wG, wY⟩ := wk.to
    refine for_it w (fun i σ2 Hx => ∃ g2 ρ2 S2, Step g1 H1 g2 Hx ∧ RepR X.K g2 ρ2 σ2 ∧ Sim X.K B g2 S2 Hx ∧ PostR X.K B (RF X.K) g2 Hx (forLoop (fun ρ' => exs c a ρ') t (ys.drop i) ρ2 S2) (endQ D)) ⟨g1, ρ, S1, .refl _ _, rr.le st1.1, sm1, h⟩ ?_ ?_ ?_
    · exact fun i σ2 Hx _ ⟨g2, ρ2, S2, st, _, sm2, _⟩ => wG g2 S2 Hx st.1 sm2
    · rintro i x σ2 Hx H' hi ⟨g2, ρ2, S2, st, rr2, sm2, h⟩ y
      obtain ⟨g3, st3, sm3, r3⟩ := wY i Hx x H' g2 S2 ys[i] y st.1 sm2 (by simp [hi])
      rw [List.drop_eq_getElem_cons hi] at h
      have h : PostR X.K B (RF X.K) g2 Hx ((lift (assignTg t ys[i] ρ2) >>= fun ρ' => exs c a ρ' >>= fun r => match r with
        | (.nx, ρ2) => forLoop (fun ρ' => exs c a ρ') t (ys.drop (i + 1)) ρ2
        | (.ct, ρ2) => forLoop (fun ρ' => exs c a ρ') t (ys.drop (i + 1)) ρ2
        | (.bk, ρ2) => pure (.nx, ρ2)
        | (.rt v, ρ2) => pure (.rt v, ρ2)) S2) (endQ D) := h
      obtain ⟨ρ', e, h⟩ := h.lift
      have h := h.step st3
      refine ⟨g3, ρ2, ρ', ys[i], rr2.le st3.1, sm3.sub, r3, e, fun σ' rr' _ => ⟨g3, ρ', S2, rr', sm3, PostR.mono (h.on (R := RF X.K)) fun q H4 ⟨g4, r, S4, _, st4, sm4, rf, h⟩ => ?_⟩⟩
      obtain ⟨σ4, rv⟩ := q
      obtain ⟨fl, ρ4⟩ := r
      obtain ⟨rr4, rf⟩ := rf
      have st' := (st.trans st3).trans st4
      cases fl with
      | nx => cases rv <;> first
        | exact rf.elim
        | exact ⟨g4, ρ4, S4, st', rr4, sm4, h⟩
      | rt w => cases rv <;> first
        | exact rf.elim
        | exact h g4 (σ4, .rt _) H4 (.refl _ _) sm4 ⟨rr4, rf⟩
      | bk => cases rv <;> first
        | exact rf.elim
        | exact s_nx rr4 sm4 h
      | ct => cases rv <;> first
        | exact rf.elim
        | exact ⟨g4, ρ4, S4, st', rr4, sm4, h⟩
    · rintro σ2 Hx ⟨g2, ρ2, S2, st, rr2, sm2, h⟩
      rw [List.drop_length] at h
      exact s_nx rr2 sm2 h
/-- assignments -/
theorem asg_red {t : Tg} {f : Env → M W} {D : Ends} {σ : L2.St} {H : Hp} (h : tS X.K B (fun ρ => do let w ← f ρ; let ρ' ← lift (assignTg t w ρ); pure (.nx, ρ')) D σ H) : tAsg (tE X.K B f) (gT X.K t) D σ H := by
  obtain ⟨g, ρ, S, rr, sm, h⟩ := h
  refine tE.on rr sm h fun g1 w v S1 H1 rr1 sm1 r _ h => ?_
  obtain ⟨ρ', e, h⟩ := h.lift
  exact ⟨g1, ρ, ρ', w, rr1, sm1.sub, r, e, fun σ' rr' _ => s_nx rr' sm1 h⟩
theorem s_set {t : Tg} {tg' : Expr} (hg : PG X tg' (gT X.K t)) (o : EOk X c B e E) (hp : plainE tg' = true) (hs : swapsWithSole [tg'] E pos.line X.env = pure false) (hw : swappedStores [tg'] E X.env = pure none) : PS X (.Assign [tg'] E pos) (tS X.K B (ex c (.set t e))) :=
  (ps_asg o.pe hg hs hw (assign_cons hp)).imp fun D σ H h => asg_red h
theorem s_setS {oe ie : Ex} {O J : Expr} {p2 : Pos} (x : XOk X I c B k) (oo : EOk X c B oe O) (oi : EOk X c B ie J) (o : EOk X c B e E) (hn : noSlice J = true) (hs : swapsWithSole [.Subscript O J p2] E pos.line X.env = pure false) : PS X (.Assign [.Subscript O J p2] E pos) (tS X.K B (ex c (.setS oe ie e))) :=
  (ps_asg o.pe (pg_sub oo.pe oi.pe (set_w (B := B) x.hB) (fun v => by
    cases J <;> first
      | rfl
      | cases hn)) hs rfl).imp fun D σ H ⟨g, ρ, S, rr, sm, h⟩ => by
    have h : PostR X.K B (RF X.K) g H ((ev c e ρ >>= fun w => ev c oe ρ >>= fun x => ev c ie ρ >>= fun y => setItem c.b x y w >>= fun _ => pure (.nx, ρ)) S) (endQ D) := h
    refine tE.on rr sm h fun g1 w v S1 H1 rr1 sm1 r1 _ h => ?_
    refine tE.on rr1 sm1 h fun g2 wo vo S2 H2 rr2 sm2 r2 st2 h => ?_
    refine tE.on rr2 sm2 h fun g3 wi vi S3 H3 rr3 sm3 r3 st3 h => ?_
    refine ⟨g3, S3, wo, wi, w, sm3, RepW.le st3.1 wo r2, r3, RepW.le (st2.trans st3).1 w r1, PostR.mono (h.on (R := fun _ _ (_ : Unit) => True)) fun _ H4 ⟨g4, _, S4, _, st4, sm4, _, h⟩ => s_nx (rr3.le st4.1) sm4 h⟩
theorem s_aug {i : Nat} {y : Str} {op : Operator} (x : XOk X I c B k) (hop : op = .Add ∨ op = .Sub) (hi : I.N[i]? = some y) (hl : locB I y = true) (o : EOk X c B e E) : PS X (.AugAssign (.Name y p) op E pos) (tS X.K B (ex c (.aug i op e))) := by
  obtain ⟨l1, l2⟩ := x.loc hl
  have hN : X.N[i]? = some y := by rw [x.hN]; exact hi
  have red : ∀ (f : Int → Int → Int), (∀ p q : Int, (match op with
      | .Add => (pure (p + q) : M Int)
      | .Sub => pure (p - q)
      | _ => bad) = pure (f p q)) → ∀ D σ H, tS X.K B (ex c (.aug i op e)) D σ H → tAug i (tE X.K B (ev c e)) (ipI f) D σ H := fun f hf D σ H ⟨g, ρ, S, rr, sm, h⟩ => by
    have h : PostR X.K B (RF X.K) g H ((lift (ρ[i]?.bind id) >>= fun x => intW x >>= fun p => ev c e ρ >>= fun y => intW y >>= fun q => (match op with
      | .Add => (pure (p + q) : M Int)
      | .Sub => pure (p - q)
      | _ => bad) >>= fun z => lift (assignTg (.nm i) (.d (.int z)) ρ) >>= fun ρ' => pure (.nx, ρ')) S) (endQ D) := h
    obtain ⟨w, ew, h⟩ := h.lift
    have e1 : ρ[i]? = some (some w) := by
      cases q : ρ[i]? with
      | none => rw [q] at ew; cases ew
      | some u => rw [q] at ew; simp at ew; rw [ew]
    obtain ⟨v, e2, r⟩ := rr.at_ i w e1
    cases w with
    | d y0 =>
      cases y0 with
      | int a =>
        have h : PostR X.K B (RF X.K) g H ((ev c e ρ >>= fun y => intW y >>= fun q => (match op with
          | .Add => (pure (a + q) : M Int)
          | .Sub => pure (a - q)
          | _ => bad) >>= fun z => lift (assignTg (.nm i) (.d (.int z)) ρ) >>= fun ρ' => pure (.nx, ρ')) S) (endQ D) := h
        refine ⟨v, e2, tE.on rr sm h fun g1 w1 v1 S1 H1 rr1 sm1 r1 _ h => ?_⟩
        cases w1 with
        | d y1 =>
          cases y1 with
          | int b =>
            have h : PostR X.K B (RF X.K) g1 H1 (((match op with
              | .Add => (pure (a + b) : M Int)
              | .Sub => pure (a - b)
              | _ => bad) >>= fun z => lift (assignTg (.nm i) (.d (.int z)) ρ) >>= fun ρ' => pure (.nx, ρ')) S1) (endQ D) := h
            rw [hf, M.pure_bind'] at h
            obtain ⟨ρ', e3, h⟩ := h.lift
            have e3 : (if i < ρ.length then some (ρ.set i (some (W.d (.int (f a b))))) else none) = some ρ' := e3
            split at e3
            · cases e3
              refine ⟨a, b, r, r1, s_nx (rr1.set (show RepW X.K g1 (.d (.int (f a b))) (.int (f a b)) from rfl)) sm1 h⟩
            · cases e3
          | _ => exact h.elim
        | _ => exact h.elim
      | _ => exact h.elim
    | _ => exact h.elim
  rcases hop with rfl | rfl
  · exact (ps_aug x.nd' hN l1 o.pe ip_add l2).imp (red _ fun _ _ => rfl)
  · exact (ps_aug x.nd' hN l1 o.pe ip_sub l2).imp (red _ fun _ _ => rfl)
end
end Ev

-- part EvN
set_option maxHeartbeats 200000
/-! EvN: the check of statements and its soundness. -/
namespace Ev
open PySem PySem.Spec PyProof.Rows L2
def isComp : Expr → Bool
  | .ListComp .. => true
  | .SetComp .. => true
  | .DictComp .. => true
  | _ => false
theorem sw_nocomp {e : Expr} {t : Option Expr} {l : Nat} {env : PySem.Env} (h : isComp e = false) : swapsWith e t l env = pure false := by
  cases e <;> first
    | rfl
    | exact absurd (show true = false from h) (by decide)
def isName : Expr → Bool
  | .Name .. => true
  | _ => false
theorem sw_noname {e t : Expr} {l : Nat} {env : PySem.Env} (h : isName t = false) : swapsWith e (some t) l env = pure false := by
  cases e <;> first
    | rfl
    | (cases t <;> first
      | rfl
      | exact absurd (show true = false from h) (by decide))
theorem sws_noname {e t : Expr} {l : Nat} {env : PySem.Env} (h : isName t = false) : swapsWithSole [t] e l env = pure false := sw_noname h
/-- the names that would be stored the other way about -/
def parN (sc : Scope) (ts : List Expr) : List Str := ts.filterMap fun
  | .Name id pos => if sc.names.lookup id == some .local && pos.line == (ts.head?.map (·.pos.line)).getD 0 then some id else none
  | _ => none
def swpNone (sc : Scope) (ts : List Expr) (E : Expr) : Bool := match E with
  | .Tuple vs _ _ => !(ts.length == 2 || ts.length == 3) || vs.length != ts.length || (parN sc ts).length != ts.length || vs.all (foldedForSure 8)
  | _ => true
theorem swp_none {sc : Scope} {ts : List Expr} {E : Expr} {kt : Nat} {pt : Pos} {env : PySem.Env} (hs : env.scope = sc) (h : swpNone sc ts E = true) : swappedStores [.Tuple ts kt pt] E env = pure none := by
  cases E with
  | Tuple vs k2 p2 =>
    have h : (!(ts.length == 2 || ts.length == 3) || vs.length != ts.length || (parN sc ts).length != ts.length || vs.all (foldedForSure 8)) = true := h
    unfold swappedStores
    show (if (!(ts.length == 2 || ts.length == 3) || vs.length != ts.length || env.blockKind != .function) = true then pure none else if (vs.any fun | .Starred .. => true | _ => false) = true then pure none else _) = _
    split
    · rfl
    split
    · rfl
    subst hs
    show (if ((parN env.scope ts).length != ts.length || (parN env.scope ts).eraseDups.length != (parN env.scope ts).length) = true then pure none else if vs.all (foldedForSure 8) = true then pure none else if vs.all (constantsAlone 8) = true then _ else pure (some (parN env.scope ts))) = _
    split
    · rfl
    · rename_i h1 _ h2
      split
      · rfl
      · rename_i h3
        simp_all
  | _ => rfl
theorem fn_kind {env : PySem.Env} (h : env.scope.kind = .function) : (env.blockKind != .function) = false := by
  unfold Env.blockKind
  rw [h]
  rfl
theorem plain_star {vs : List Expr} (h : vs.all plainE = true) : (vs.any fun | .Starred .. => true | _ => false) = false := by
  rw [List.any_eq_false]
  intro e he
  have := List.all_eq_true.mp h e he
  cases e <;> first
    | exact absurd (show false = true from this) Bool.false_ne_true
    | simp
theorem swp_some {sc : Scope} {ts vs : List Expr} {xs : List Str} {kt k2 : Nat} {pt p2 : Pos} {env : PySem.Env} (hs : env.scope = sc) (hk : env.scope.kind = .function) (hl : (ts.length == 2 || ts.length == 3) = true) (hv : vs.length = ts.length) (hp : vs.all plainE = true) (hx : parN sc ts = xs) (hn : xs.length = ts.length)
    (hd : xs.eraseDups.length = xs.length) (hf : vs.all (foldedForSure 8) = false) (hc : vs.all (constantsAlone 8) = false) : swappedStores [.Tuple ts kt pt] (.Tuple vs k2 p2) env = pure (some xs) := by
  unfold swappedStores
  show (if (!(ts.length == 2 || ts.length == 3) || vs.length != ts.length || env.blockKind != .function) = true then pure none else if (vs.any fun | .Starred .. => true | _ => false) = true then pure none else _) = _
  rw [hl, hv, fn_kind hk, plain_star hp]
  subst hs
  subst hx
  rw [if_neg (by simp), if_neg (by simp)]
  show (if ((parN env.scope ts).length != ts.length || (parN env.scope ts).eraseDups.length != (parN env.scope ts).length) = true then pure none else if vs.all (foldedForSure 8) = true then pure none else if vs.all (constantsAlone 8) = true then _ else pure (some (parN env.scope ts))) = _
  rw [hn, hd, hf, hc, hn]
  rw [if_neg (by simp), if_neg (by simp), if_neg (by simp)]

/-- name = value without the text's own shortcut -/
def setName (I : SI) (y : Str) (py : Pos) (E : Expr) : Bool := match E with
  | .ListComp _ _ s p => !(decide (I.sc.names.lookup y = some .local) && py.line == p.line && !(s.names.any fun (n, k) => n == y && (k == .local || k == .cell)))
  | .SetComp .. => false
  | .DictComp .. => false
  | _ => true
theorem sw_name {I : SI} {env : PySem.Env} {y : Str} {py : Pos} {E : Expr} {l : Nat} (hs : env.scope = I.sc) (h : setName I y py E = true) : swapsWith E (some (.Name y py)) l env = pure false := by
  cases E with
  | ListComp elt gs s p =>
    have h : (!(decide (I.sc.names.lookup y = some .local) && py.line == p.line && !(s.names.any fun (n, k) => n == y && (k == .local || k == .cell)))) = true := h
    rw [← hs] at h
    show pure (env.blockKind == .function && env.scope.names.lookup y == some .local && py.line == p.line && !(s.names.any fun (n, k) => n == y && (k == .local || k == .cell))) = _
    have e1 : (env.scope.names.lookup y == some NameKind.local) = decide (env.scope.names.lookup y = some .local) := by
      by_cases q : env.scope.names.lookup y = some .local
      · rw [q]; rfl
      · rw [decide_eq_false q, beq_eq_false_iff_ne]; exact q
    rw [e1]
    congr 1
    rw [Bool.not_eq_true'] at h
    rw [Bool.and_assoc, Bool.and_assoc, ← Bool.and_assoc (decide _), h, Bool.and_false]
  | SetComp => exact absurd (show false = true from h) Bool.false_ne_true
  | DictComp => exact absurd (show false = true from h) Bool.false_ne_true
  | _ => rfl
/-- an assignment that is done in the common way -/
def genOk (I : SI) (tg E : Expr) : Bool := match tg with
  | .Name y py => setName I y py E
  | .Tuple ts _ _ => swpNone I.sc ts E
  | _ => false
theorem gen_ok {I : SI} {env : PySem.Env} {tg E : Expr} {l : Nat} (hs : env.scope = I.sc) (h : genOk I tg E = true) : swapsWithSole [tg] E l env = pure false ∧ swappedStores [tg] E env = pure none := by
  cases tg with
  | Name y py => exact ⟨(sw_name hs h : swapsWith E (some (.Name y py)) l env = pure false), by cases E <;> rfl⟩
  | Tuple ts kt pt => exact ⟨(sw_noname (t := .Tuple ts kt pt) rfl : swapsWith E (some (.Tuple ts kt pt)) l env = pure false), swp_none hs h⟩
  | _ => exact absurd (show false = true from h) Bool.false_ne_true
/-- a, b = x, y (or three) with plain names on one line -/
def parOk (I : SI) (is : List Nat) (ts vs : List Expr) : Bool :=
  decide (parN I.sc ts = ts.filterMap fun e => match e with
    | .Name x _ => some x
    | _ => none) && decide (is.map (fun i => I.N[i]?) = ts.map fun e => match e with
    | .Name x _ => some x
    | _ => none) && decide is.Nodup && (ts.all fun e => match e with
    | .Name x _ => decide (I.sc.names.lookup x = some .local)
    | _ => false) && decide ((parN I.sc ts).length = ts.length) && decide ((parN I.sc ts).eraseDups.length = (parN I.sc ts).length) && vs.all plainE && decide (vs.length = ts.length) && !(vs.all (foldedForSure 8)) && !(vs.all (constantsAlone 8))
def lcLine (I : SI) (y : Str) (py : Pos) (E : Expr) : Bool := match E with
  | .ListComp _ _ s p => decide (I.sc.names.lookup y = some .local) && py.line == p.line && !(s.names.any fun (n, k) => n == y && (k == .local || k == .cell))
  | _ => false
def chkAsg (I : SI) (t : Tg) (e : Ex) (tg E : Expr) : Bool :=
  (chkE I e E && chkTg I t tg && plainE tg && genOk I tg E) ||
  (match t, e, tg, E with
  | .tp [.nm i, .nm j], .tup es, .Tuple [.Name x px, .Name y py] _ _, .Tuple [a, b] _ _ => chkEs I es [a, b] && parOk I [i, j] [.Name x px, .Name y py] [a, b]
  | .tp [.nm i, .nm j, .nm l], .tup es, .Tuple [.Name x px, .Name y py, .Name z pz] _ _, .Tuple [a, b, d] _ _ => chkEs I es [a, b, d] && parOk I [i, j, l] [.Name x px, .Name y py, .Name z pz] [a, b, d]
  | .nm i, .comp .., .Name y py, .ListComp .. => chkE I e E && decide (I.N[i]? = some y) && lcLine I y py E
  | _, _, _, _ => false)
mutual
def chkS (I : SI) : St → Stmt → Bool
  | .exp e, s => (match s with
    | .Expr E _ => chkE I e E && !isComp E
    | _ => false)
  | .set t e, s => (match s with
    | .Assign [tg] E _ => chkAsg I t e tg E
    | _ => false)
  | .setS o i e, s => (match s with
    | .Assign [.Subscript O J _] E _ => chkE I e E && chkE I o O && chkE I i J && noSlice J
    | _ => false)
  | .aug i op e, s => (match s with
    | .AugAssign (.Name y _) op' E _ => decide (op = op') && (decide (op = .Add) || decide (op = .Sub)) && decide (I.N[i]? = some y) && locB I y && chkE I e E
    | _ => false)
  | .ret e, s => (match s with
    | .Return (some E) _ => chkE I e E
    | _ => false)
  | .retN, s => (match s with
    | .Return none _ => true
    | _ => false)
  | .iff c a b, s => (match s with
    | .If C a' b' _ => chkE I c C && chkSs I a a' && chkSs I b b'
    | _ => false)
  | .forr tg k its body, s => (match s with
    | .For tg' it' body' [] _ => chkTg I tg tg' && noSet it' && (match iterArgs I k tg' it' with
      | some as => chkEs I its as && as.all plainE
      | none => false) && chkSs I body body'
    | _ => false)
  | .whl c body, s => (match s with
    | .While C body' [] _ => chkE I c C && chkSs I body body'
    | _ => false)
  | .brk, s => (match s with
    | .Break _ => true
    | _ => false)
  | .cnt, s => (match s with
    | .Continue _ => true
    | _ => false)
  | .pas, s => (match s with
    | .Pass _ => true
    | .Expr (.Constant (.str _) _ _) _ => true
    | _ => false)
  | .frz _, _ => false
def isFrz : St → Bool
  | .frz _ => true
  | _ => false
def chkSs (I : SI) : List St → List Stmt → Bool
  | [], ss => ss.isEmpty
  | s :: r, ss => if isFrz s then chkSs I r ss else (match ss with
    | s' :: r' => chkS I s s' && chkSs I r r'
    | _ => false)
end
end Ev

-- part EvO
set_option maxHeartbeats 200000
/-! EvO: the check of statements is sound. -/
namespace Ev
open PySem PySem.Spec PyProof.Rows L2
section
variable {X : Cx} {I : SI} {c : C} {B : List Nat} {k : Nat}
theorem lc_set {own : Bool} {elt : Ex} {tg : Tg} {ik : Ik} {its ifs : List Ex} {vs : List Nat} {E : Expr} {y : Str} {py spos : Pos} {i : Nat} (x : XOk X I c B k) (kd : X.env.scope.kind = .function) (h : chkE I (.comp own elt tg ik its ifs vs) E = true) (hi : I.N[i]? = some y) (hl : lcLine I y py E = true) :
    PS X (.Assign [.Name y py] E spos) (tS X.K B (ex c (.set (.nm i) (.comp own elt tg ik its ifs vs)))) := by
  obtain ⟨elt', tg', iter', ifs', scope, p, rfl, ok, h1, h2, h3, h4, h5, h6, as, h7, h8, h9⟩ := lc_inv h
  have hl : (decide (I.sc.names.lookup y = some .local) && py.line == p.line && !(scope.names.any fun (n, k) => n == y && (k == .local || k == .cell))) = true := hl
  simp only [Bool.and_eq_true, decide_eq_true_eq] at hl
  obtain ⟨⟨l1, l2⟩, l3⟩ := hl
  rw [Bool.not_eq_true'] at l3
  have l1' : X.env.scope.names.lookup y = some .local := by rw [x.sc]; exact l1
  have pi := iter_ok x h7 h9 (chkEs_ok its x h8)
  have hv : ∀ j ∈ tgVars tg, j ∈ vs := fun j hj => List.contains_iff_mem.mp (List.all_eq_true.mp h3 j hj)
  have ok' : BlkOk X.N X.env.scope scope (ownOf I.N vs) := by rw [x.hN, x.sc]; exact blkOk_by ok
  have key := ps_setLc (X := X) (i := i) (ifs := ifs') (pos := p) (spos := spos) (py := py) (te := tE X.K B (ev c elt)) (tt := tT X.K B fun ρ => tsts c ifs ρ) (g := gT X.K tg) x.calm x.nd' (by rw [x.hN]; exact hi) l1' (sw_true kd l1' l2 l3) pi ok'
    (fun s H C cl fp => chkTg_ok (x.blk s H scope C cl fp) tg h2) (fun s H C cl fp => tsts_ok (chkEs_ok ifs (x.blk s H scope C cl fp) h4) h5) (fun s H C cl fp => (chkE_ok elt (x.blk s H scope C cl fp) h1).pe) (fold_set h6)
  rw [own_map] at key
  refine key.imp fun D σ H q => ?_
  have q2 := asg_red (t := .nm i) (f := ev c (.comp own elt tg ik its ifs vs)) (D := D) (σ := σ) (H := H) q
  have q3 : tE X.K B (ev c (.comp own elt tg ik its ifs vs)) σ H fun v H1 => gName i v σ H1 D.nx := by
    obtain ⟨g, ρ, S, rr, sm, hq⟩ := q2
    refine ⟨g, ρ, S, rr, sm, hq.mono fun v H1 ⟨g1, ρ1, ρ', w, rr1, hle, r, e, q⟩ => ?_⟩
    have e : (if i < ρ1.length then some (ρ1.set i (some w)) else none) = some ρ' := e
    split at e
    · cases e
      exact q _ (rr1.set r) fun j hj => List.getElem?_set_ne fun z => hj (by rw [z]; exact List.mem_singleton.mpr rfl)
    · cases e
  exact lc_red (own := own) hv (fun ρ => by
    show (do
      let ws ← evs c its ρ
      let ys ← yields ik ws
      guard (decide (ys.length ≤ sizeLine))
      let zs ← compLoop (fun ρ' => tsts c ifs ρ') (fun ρ' => ev c elt ρ') tg (wipeR ρ vs) ys
      mkLst own zs) = _
    rw [M.assoc]) q3
/-- values stored one after another into slots -/
theorem store2 {K : PySem.W.Frag} {g : Gh} {i j : Nat} {w1 w2 : W} {v1 v2 : V} {ρ ρ' : Env} {σ : L2.St} (rr : RepR K g ρ σ) (r1 : RepW K g w1 v1) (r2 : RepW K g w2 v2) (e : assignTgs [.nm i, .nm j] [w1, w2] ρ = some ρ') : RepR K g ρ' ((σ.set i (some v1)).set j (some v2)) := by
  have e : (match (if i < ρ.length then some (ρ.set i (some w1)) else none) with
    | some ρ1 => (match (if j < ρ1.length then some (ρ1.set j (some w2)) else none) with
      | some ρ2 => some ρ2
      | none => none)
    | none => none) = some ρ' := e
  by_cases h1 : i < ρ.length
  · rw [if_pos h1] at e
    dsimp only at e
    by_cases h2 : j < (ρ.set i (some w1)).length
    · rw [if_pos h2] at e
      cases e
      exact (rr.set r1).set r2
    · rw [if_neg h2] at e; cases e
  · rw [if_neg h1] at e; cases e
theorem store3 {K : PySem.W.Frag} {g : Gh} {i j l : Nat} {w1 w2 w3 : W} {v1 v2 v3 : V} {ρ ρ' : Env} {σ : L2.St} (rr : RepR K g ρ σ) (r1 : RepW K g w1 v1) (r2 : RepW K g w2 v2) (r3 : RepW K g w3 v3) (e : assignTgs [.nm i, .nm j, .nm l] [w1, w2, w3] ρ = some ρ') :
    RepR K g ρ' (((σ.set i (some v1)).set j (some v2)).set l (some v3)) := by
  have e : (match (if i < ρ.length then some (ρ.set i (some w1)) else none) with
    | some ρ1 => assignTgs [.nm j, .nm l] [w2, w3] ρ1
    | none => none) = some ρ' := e
  by_cases h1 : i < ρ.length
  · rw [if_pos h1] at e
    exact store2 (rr.set r1) r2 r3 e
  · rw [if_neg h1] at e; cases e
theorem par2_ok {i j : Nat} {es : List Ex} {x y : Str} {px py pt pos : Pos} {a b : Expr} {kt k2 : Nat} {p2 : Pos} (X0 : XOk X I c B k) (kd : X.env.scope.kind = .function) (os : EsOk X c B es [a, b]) (h : parOk I [i, j] [.Name x px, .Name y py] [a, b] = true) :
    PS X (.Assign [.Tuple [.Name x px, .Name y py] kt pt] (.Tuple [a, b] k2 p2) pos) (tS X.K B (ex c (.set (.tp [.nm i, .nm j]) (.tup es)))) := by
  unfold parOk at h
  rw [Bool.and_eq_true, Bool.and_eq_true, Bool.and_eq_true, Bool.and_eq_true, Bool.and_eq_true, Bool.and_eq_true, Bool.and_eq_true, Bool.and_eq_true, Bool.and_eq_true, decide_eq_true_eq, decide_eq_true_eq, decide_eq_true_eq, decide_eq_true_eq, decide_eq_true_eq, decide_eq_true_eq, Bool.not_eq_true', Bool.not_eq_true'] at h
  obtain ⟨⟨⟨⟨⟨⟨⟨⟨⟨h1, h2⟩, h3⟩, h0⟩, h4⟩, h5⟩, h6⟩, h7⟩, h8⟩, h9⟩ := h
  have hN : I.N[i]? = some x ∧ I.N[j]? = some y := by simpa using h2
  have hij : i ≠ j := by simpa using h3
  have hp : parN I.sc [.Name x px, .Name y py] = [x, y] := h1
  have hloc : I.sc.names.lookup x = some .local ∧ I.sc.names.lookup y = some .local := by simpa using h0
  have hx : X.env.scope.names.lookup x = some .local := by rw [X0.sc]; exact hloc.1
  have hy : X.env.scope.names.lookup y = some .local := by rw [X0.sc]; exact hloc.2
  refine (ps_par X0.calm X0.nd' (by rw [X0.hN]; exact hN.1) (by rw [X0.hN]; exact hN.2) hij hx hy (os.pa h6) (swp_some X0.sc kd rfl rfl h6 hp rfl (by rw [hp] at h5; exact h5) h8 h9) (sws_noname rfl)).imp fun D σ H ⟨g, ρ, S, rr, sm, h⟩ => ?_
  have h : PostR X.K B (RF X.K) g H (((evs c es ρ >>= fun ws => (pure (mkTup ws) : M W)) >>= fun w => lift (assignTg (.tp [.nm i, .nm j]) w ρ) >>= fun ρ' => pure (Fl.nx, ρ')) S) (endQ D) := h
  rw [M.assoc] at h
  refine tA.on rr sm h fun g1 ws vs S1 H1 e rr1 sm1 r1 _ h => ?_
  rw [M.pure_bind', assign_mk] at h
  obtain ⟨ρ', e2, hh⟩ := h.lift
  have hl := assigns_len e2
  match ws, vs, r1, e2 with
  | [w1, w2], vs, r1, e2 =>
    obtain ⟨v1, v2, rfl, q1, q2⟩ := r1.two
    exact ⟨v1, v2, rfl, s_nx (store2 rr1 q1 q2 e2) sm1 hh⟩
  | [], _, _, _ => cases hl
  | [_], _, _, _ => cases hl
  | _ :: _ :: _ :: _, _, _, _ => simp at hl
theorem RepWs.three {K : PySem.W.Frag} {g : Gh} {w w' w2 : W} {vs : List V} (r : RepWs K g [w, w', w2] vs) : ∃ x y z, vs = [x, y, z] ∧ RepW K g w x ∧ RepW K g w' y ∧ RepW K g w2 z := by
  obtain ⟨x, t, rfl, p, q⟩ := r
  obtain ⟨y, z, rfl, p2, q2⟩ := RepWs.two q
  exact ⟨x, y, z, rfl, p, p2, q2⟩
theorem par3_ok {i j l : Nat} {es : List Ex} {x y z : Str} {px py pz pt pos : Pos} {a b d : Expr} {kt k2 : Nat} {p2 : Pos} (X0 : XOk X I c B k) (kd : X.env.scope.kind = .function) (os : EsOk X c B es [a, b, d]) (h : parOk I [i, j, l] [.Name x px, .Name y py, .Name z pz] [a, b, d] = true) :
    PS X (.Assign [.Tuple [.Name x px, .Name y py, .Name z pz] kt pt] (.Tuple [a, b, d] k2 p2) pos) (tS X.K B (ex c (.set (.tp [.nm i, .nm j, .nm l]) (.tup es)))) := by
  unfold parOk at h
  rw [Bool.and_eq_true, Bool.and_eq_true, Bool.and_eq_true, Bool.and_eq_true, Bool.and_eq_true, Bool.and_eq_true, Bool.and_eq_true, Bool.and_eq_true, Bool.and_eq_true, decide_eq_true_eq, decide_eq_true_eq, decide_eq_true_eq, decide_eq_true_eq, decide_eq_true_eq, decide_eq_true_eq, Bool.not_eq_true', Bool.not_eq_true'] at h
  obtain ⟨⟨⟨⟨⟨⟨⟨⟨⟨h1, h2⟩, h3⟩, h0⟩, h4⟩, h5⟩, h6⟩, h7⟩, h8⟩, h9⟩ := h
  have hN : I.N[i]? = some x ∧ I.N[j]? = some y ∧ I.N[l]? = some z := by simpa using h2
  have hnd : (i ≠ j ∧ i ≠ l) ∧ j ≠ l := by simpa using h3
  have hp : parN I.sc [.Name x px, .Name y py, .Name z pz] = [x, y, z] := h1
  have hloc : I.sc.names.lookup x = some .local ∧ I.sc.names.lookup y = some .local ∧ I.sc.names.lookup z = some .local := by simpa using h0
  have hx : X.env.scope.names.lookup x = some .local := by rw [X0.sc]; exact hloc.1
  have hy : X.env.scope.names.lookup y = some .local := by rw [X0.sc]; exact hloc.2.1
  have hz : X.env.scope.names.lookup z = some .local := by rw [X0.sc]; exact hloc.2.2
  refine (ps_par3 X0.calm X0.nd' (by rw [X0.hN]; exact hN.1) (by rw [X0.hN]; exact hN.2.1) (by rw [X0.hN]; exact hN.2.2) hnd.1.1 hnd.1.2 hnd.2 hx hy hz (os.pa h6) (swp_some X0.sc kd rfl rfl h6 hp rfl (by rw [hp] at h5; exact h5) h8 h9) (sws_noname rfl)).imp fun D σ H ⟨g, ρ, S, rr, sm, h⟩ => ?_
  have h : PostR X.K B (RF X.K) g H (((evs c es ρ >>= fun ws => (pure (mkTup ws) : M W)) >>= fun w => lift (assignTg (.tp [.nm i, .nm j, .nm l]) w ρ) >>= fun ρ' => pure (Fl.nx, ρ')) S) (endQ D) := h
  rw [M.assoc] at h
  refine tA.on rr sm h fun g1 ws vs S1 H1 e rr1 sm1 r1 _ h => ?_
  rw [M.pure_bind', assign_mk] at h
  obtain ⟨ρ', e2, hh⟩ := h.lift
  have hl := assigns_len e2
  match ws, vs, r1, e2 with
  | [w1, w2, w3], vs, r1, e2 =>
    obtain ⟨v1, v2, v3, rfl, q1, q2, q3⟩ := r1.three
    exact ⟨v1, v2, v3, rfl, s_nx (store3 rr1 q1 q2 q3 e2) sm1 hh⟩
  | [], _, _, _ => cases hl
  | [_], _, _, _ => cases hl
  | [_, _], _, _, _ => cases hl
  | _ :: _ :: _ :: _ :: _, _, _, _ => simp at hl
theorem asg_ok (x : XOk X I c B k) (kd : X.env.scope.kind = .function) {t : Tg} {e : Ex} {tg E : Expr} {pos : Pos} (h : chkAsg I t e tg E = true) : PS X (.Assign [tg] E pos) (tS X.K B (ex c (.set t e))) := by
  unfold chkAsg at h
  rw [Bool.or_eq_true] at h
  rcases h with h | h
  · simp only [Bool.and_eq_true] at h
    obtain ⟨⟨⟨h1, h2⟩, h3⟩, h4⟩ := h
    obtain ⟨s1, s2⟩ := gen_ok (l := pos.line) x.sc h4
    exact s_set (chkTg_ok x t h2) (chkE_ok e x h1) h3 s1 s2
  · split at h
    · rw [Bool.and_eq_true] at h
      exact par2_ok x kd (chkEs_ok _ x h.1) h.2
    · rw [Bool.and_eq_true] at h
      exact par3_ok x kd (chkEs_ok _ x h.1) h.2
    · simp only [Bool.and_eq_true, decide_eq_true_eq] at h
      exact lc_set x kd h.1.1 h.1.2 h.2
    · cases h
mutual
theorem chkS_ok (x : XOk X I c B k) (kd : X.env.scope.kind = .function) (hx : PassesOwn (model X.prog X.w) X.A X.env X.xe) : ∀ (s : St) {st : Stmt}, chkS I s st = true → PS X st (tS X.K B (ex c s))
  | .exp e, st, h => by
    cases st with
    | Expr E p =>
      have h : (chkE I e E && !isComp E) = true := h
      rw [Bool.and_eq_true, Bool.not_eq_true'] at h
      exact s_exp (chkE_ok e x h.1) (sw_nocomp h.2)
    | _ => exact absurd (show false = true from h) Bool.false_ne_true
  | .set t e, st, h => by
    cases st with
    | Assign tgs E p =>
      match tgs, h with
      | [tg], h => exact asg_ok x kd h
      | [], h => exact absurd (show false = true from h) Bool.false_ne_true
      | _ :: _ :: _, h => exact absurd (show false = true from h) Bool.false_ne_true
    | _ => exact absurd (show false = true from h) Bool.false_ne_true
  | .setS o i e, st, h => by
    cases st with
    | Assign tgs E p =>
      match tgs, h with
      | [tg], h =>
        cases tg with
        | Subscript O J p2 =>
          have h : (chkE I e E && chkE I o O && chkE I i J && noSlice J) = true := h
          simp only [Bool.and_eq_true] at h
          exact s_setS x (chkE_ok o x h.1.1.2) (chkE_ok i x h.1.2) (chkE_ok e x h.1.1.1) h.2 (sws_noname rfl)
        | _ => exact absurd (show false = true from h) Bool.false_ne_true
      | [], h => exact absurd (show false = true from h) Bool.false_ne_true
      | t1 :: _ :: _, h => cases t1 <;> exact absurd (show false = true from h) Bool.false_ne_true
    | _ => exact absurd (show false = true from h) Bool.false_ne_true
  | .aug i op e, st, h => by
    cases st with
    | AugAssign tg op' E p =>
      cases tg with
      | Name y py =>
        have h : (decide (op = op') && (decide (op = .Add) || decide (op = .Sub)) && decide (I.N[i]? = some y) && locB I y && chkE I e E) = true := h
        simp only [Bool.and_eq_true, Bool.or_eq_true, decide_eq_true_eq] at h
        obtain ⟨⟨⟨⟨rfl, h1⟩, h2⟩, h3⟩, h4⟩ := h
        exact s_aug x h1 h2 h3 (chkE_ok e x h4)
      | _ => exact absurd (show false = true from h) Bool.false_ne_true
    | _ => exact absurd (show false = true from h) Bool.false_ne_true
  | .ret e, st, h => by
    cases st with
    | Return v p =>
      cases v with
      | some E => exact s_ret (chkE_ok e x h)
      | none => exact absurd (show false = true from h) Bool.false_ne_true
    | _ => exact absurd (show false = true from h) Bool.false_ne_true
  | .retN, st, h => by
    cases st with
    | Return v p =>
      cases v with
      | none => exact s_retN
      | some E => exact absurd (show false = true from h) Bool.false_ne_true
    | _ => exact absurd (show false = true from h) Bool.false_ne_true
  | .iff t a b, st, h => by
    cases st with
    | If T a' b' p =>
      have h : (chkE I t T && chkSs I a a' && chkSs I b b') = true := h
      simp only [Bool.and_eq_true] at h
      exact s_iff (chkE_ok t x h.1.1) (chkSs_ok x kd hx a h.1.2) (chkSs_ok x kd hx b h.2)
    | _ => exact absurd (show false = true from h) Bool.false_ne_true
  | .forr tg ik its body, st, h => by
    cases st with
    | For tg' it' body' els p =>
      cases els with
      | nil =>
        have h : (chkTg I tg tg' && noSet it' && (match iterArgs I ik tg' it' with
          | some as => chkEs I its as && as.all plainE
          | none => false) && chkSs I body body') = true := h
        simp only [Bool.and_eq_true] at h
        obtain ⟨⟨⟨h1, h2⟩, h3⟩, h4⟩ := h
        cases q : iterArgs I ik tg' it' with
        | none => rw [q] at h3; cases h3
        | some as =>
          rw [q] at h3
          simp only [Bool.and_eq_true] at h3
          exact s_for hx x.calm (iter_ok x q h3.2 (chkEs_ok its x h3.1)) (chkTg_ok x tg h1) (chkSs_ok x kd hx body h4) h2
      | cons _ _ => exact absurd (show false = true from h) Bool.false_ne_true
    | _ => exact absurd (show false = true from h) Bool.false_ne_true
  | .whl t body, st, h => by
    cases st with
    | While T body' els p =>
      cases els with
      | nil =>
        have h : (chkE I t T && chkSs I body body') = true := h
        rw [Bool.and_eq_true] at h
        exact s_whl hx (chkE_ok t x h.1) (chkSs_ok x kd hx body h.2)
      | cons _ _ => exact absurd (show false = true from h) Bool.false_ne_true
    | _ => exact absurd (show false = true from h) Bool.false_ne_true
  | .brk, st, h => by
    cases st with
    | Break p => exact s_brk
    | _ => exact absurd (show false = true from h) Bool.false_ne_true
  | .cnt, st, h => by
    cases st with
    | Continue p => exact s_cnt
    | _ => exact absurd (show false = true from h) Bool.false_ne_true
  | .pas, st, h => by
    cases st with
    | Pass p => exact s_pas
    | Expr E p =>
      cases E with
      | Constant v j p2 =>
        cases v with
        | str z => exact s_doc
        | _ => exact absurd (show false = true from h) Bool.false_ne_true
      | _ => exact absurd (show false = true from h) Bool.false_ne_true
    | _ => exact absurd (show false = true from h) Bool.false_ne_true
  | .frz i, st, h => absurd (show false = true from h) Bool.false_ne_true
theorem chkSs_ok (x : XOk X I c B k) (kd : X.env.scope.kind = .function) (hx : PassesOwn (model X.prog X.w) X.A X.env X.xe) : ∀ (ss : List St) {sts : List Stmt}, chkSs I ss sts = true → PSs X sts (tS X.K B (exs c ss))
  | [], sts, h => by
    cases sts with
    | nil => exact ss_nil
    | cons _ _ => exact absurd (show false = true from h) Bool.false_ne_true
  | s :: r, sts, h => by
    have h : (if isFrz s then chkSs I r sts else (match (generalizing := false) sts with
      | s' :: r' => chkS I s s' && chkSs I r r'
      | _ => false)) = true := h
    cases q : isFrz s with
    | true =>
      rw [q, if_pos rfl] at h
      have ih := chkSs_ok x kd hx r h
      cases s <;> first
        | exact ss_frz ih
        | exact absurd (show false = true from q) Bool.false_ne_true
    | false =>
      rw [q, if_neg Bool.false_ne_true] at h
      cases sts with
      | nil => exact absurd (show false = true from h) Bool.false_ne_true
      | cons s' r' =>
        have h : (chkS I s s' && chkSs I r r') = true := h
        rw [Bool.and_eq_true] at h
        exact ss_cons (chkS_ok x kd hx s h.1) (chkSs_ok x kd hx r h.2)
end
end
end Ev

-- part EvP
set_option maxHeartbeats 200000
/-! EvP: defs by levels of calls. -/
namespace Ev
open PySem PySem.Spec PyProof.Rows L2

/-! ### the end of a call: what is younger is forgotten -/
section
variable {K : PySem.W.Frag} {B : List Nat} {g : Gh} {S : Store} {H : Hp} {n : Nat}
def Gh.cut (g : Gh) (n : Nat) : Gh := ⟨g.h, fun i => if i < n then g.m i else none⟩
mutual
theorem RepW.cut : ∀ (w : W) {v : V}, RepW K g w v → w.old n = true → RepW K (g.cut n) w v
  | .d _, _, r, _ => r
  | .ref i, _, ⟨a, e, q⟩, h => ⟨a, by show (if i < n then g.m i else none) = some a; rw [if_pos (of_decide_eq_true h)]; exact e, q⟩
  | .tup ws, _, r, h => by
    obtain ⟨z, a, xs, e, s, q⟩ := r
    exact ⟨z, a, xs, e, s, RepWs.cutE ws q h⟩
  | .fn _, _, r, _ => r.elim
theorem RepWs.cutE : ∀ (ws : List W) {xs : List V}, RepWs K g ws xs → W.oldAll n ws = true → RepWs K (g.cut n) ws xs
  | [], _, r, _ => r
  | w :: ws, _, r, h => by
    obtain ⟨x, t, e, p, q⟩ := r
    have h : (w.old n && W.oldAll n ws) = true := h
    rw [Bool.and_eq_true] at h
    exact ⟨x, t, e, RepW.cut w p h.1, RepWs.cutE ws q h.2⟩
end
theorem Sim.cut (x : Sim K (n :: B) g S H) (hB : ∀ b ∈ B, b ≤ n) : Sim K B (g.cut n) (S.take n) H := by
  have hn : n ≤ S.length := x.base n List.mem_cons_self
  have hl : (S.take n).length = n := by rw [List.length_take]; omega
  refine ⟨x.sub, fun i hi => ?_, fun i hi => ?_, fun i j a ei ej => ?_, fun i ws e => ?_, fun b hb => ?_, fun b hb i ws hi e => ?_⟩
  · rw [hl] at hi
    obtain ⟨a, e1, e2⟩ := x.dom i (by omega)
    exact ⟨a, by show (if i < n then g.m i else none) = some a; rw [if_pos hi]; exact e1, e2⟩
  · rw [hl] at hi
    show (if i < n then g.m i else none) = none
    rw [if_neg (by omega)]
  · have ei : (if i < n then g.m i else none) = some a := ei
    have ej : (if j < n then g.m j else none) = some a := ej
    split at ei
    · split at ej
      · exact x.inj i j a ei ej
      · cases ej
    · cases ei
  · have hi : i < n := by
      have := (List.getElem?_eq_some_iff.mp e).1
      rw [hl] at this; exact this
    rw [List.getElem?_take_of_lt hi] at e
    obtain ⟨a, xs, e1, e2, z, e3, r⟩ := x.cell i ws e
    exact ⟨a, xs, by show (if i < n then g.m i else none) = some a; rw [if_pos hi]; exact e1, e2, z, e3, RepWs.cutE ws r (x.old n List.mem_cons_self i ws hi e)⟩
  · rw [hl]; exact hB b hb
  · have hi2 : i < n := Nat.lt_of_lt_of_le hi (hB b hb)
    rw [List.getElem?_take_of_lt hi2] at e
    exact x.old b (List.mem_cons_of_mem _ hb) i ws hi e
theorem Sim.weak (x : Sim K (n :: B) g S H) : Sim K B g S H := ⟨x.sub, x.dom, x.top, x.inj, x.cell, fun b hb => x.base b (List.mem_cons_of_mem _ hb), fun b hb => x.old b (List.mem_cons_of_mem _ hb)⟩
theorem Sim.enter (x : Sim K B g S H) : Sim K (S.length :: B) g S H := by
  refine ⟨x.sub, x.dom, x.top, x.inj, x.cell, fun b hb => ?_, fun b hb i ws hi e => ?_⟩
  · rcases List.mem_cons.mp hb with z | z
    · rw [z]; exact Nat.le_refl _
    · exact x.base b z
  · rcases List.mem_cons.mp hb with z | z
    · rw [z]
      obtain ⟨a, xs, _, _, _, _, r⟩ := x.cell i ws e
      exact W.oldAll_of x ws r
    · exact x.old b z i ws hi e
/-- the step of a call, what is younger forgotten -/
theorem Step.cut {g0 : Gh} {H0 : Hp} {S0 : Store} (x0 : Sim K B g0 S0 H0) (st : Step g0 H0 g H) : Step g0 H0 (g.cut S0.length) H := by
  refine ⟨⟨st.1.1, fun i a e => ?_⟩, fun a o e n k => ?_⟩
  · show (if i < S0.length then g.m i else none) = some a
    have hi : i < S0.length := Nat.lt_of_not_le fun h => by rw [x0.top i h] at e; cases e
    rw [if_pos hi]
    exact st.1.2 i a e
  · obtain ⟨q1, q2, q3⟩ := st.2 a o e n k
    refine ⟨q1, q2, fun i z => ?_⟩
    have z : (if i < S0.length then g.m i else none) = some a := z
    split at z
    · exact q3 i z
    · cases z
end
theorem start_rep {K : PySem.W.Frag} {g : Gh} {N : List Str} {ws : List W} {vs : List V} (r : RepWs K g ws vs) : RepR K g (startE N.length ws) (L2.start N vs) := by
  have hl := r.length
  refine ⟨by unfold startE L2.start; simp [hl], fun i w e => ?_⟩
  unfold startE at e
  unfold L2.start
  by_cases hi : i < ws.length
  · rw [List.getElem?_append_left (by simpa using hi), List.getElem?_map] at e
    have e1 : ws[i]? = some w := by
      cases q : ws[i]? with
      | none => rw [q] at e; cases e
      | some u => rw [q] at e; simp at e; rw [e]
    obtain ⟨v, e2, rv⟩ := r.get e1
    exact ⟨v, by rw [List.getElem?_append_left (by simpa [hl] using hi), List.getElem?_map, e2]; rfl, rv⟩
  · rw [List.getElem?_append_right (by simpa using hi)] at e
    rw [List.getElem?_replicate] at e
    split at e <;> cases e

/-! ### the text's defs -/
/-- what is known of the module besides its defs' bodies -/
structure Md where
  nones : List Str
  T : List DefM
  G : List (Str × PyData)
  kwl : List (Nat × Nat × List Str)
def Md.si (m : Md) (df : DefM) (sc : Scope) : SI := ⟨df.N, sc, fun _ => true, m.nones, m.T, m.G, m.kwl⟩
def scopeB (N ps : List Str) (sc : Scope) : Bool := (match sc.kind with
  | .function => true
  | _ => false) && !sc.isCoroutine && !sc.isGenerator && decide N.Nodup && decide (N.take ps.length = ps) && (ps.all fun x => match sc.names.lookup x with
  | some .local => true
  | some .cell => true
  | _ => false) && sc.names.all fun y => match y.2 with
  | .free => false
  | _ => true
theorem scope_ok {N ps : List Str} {sc : Scope} (h : scopeB N ps sc = true) : FnScope N ps sc := by
  unfold scopeB at h
  simp only [Bool.and_eq_true, Bool.not_eq_true', decide_eq_true_eq, List.all_eq_true] at h
  obtain ⟨⟨⟨⟨⟨⟨h1, h2⟩, h3⟩, h4⟩, h5⟩, h6⟩, h7⟩ := h
  refine ⟨?_, h2, h3, h4, h5, fun x hx => ?_, fun y hy e => ?_⟩
  · split at h1
    · assumption
    · cases h1
  · have := h6 x hx
    split at this
    · rename_i q; exact .inl q
    · rename_i q; exact .inr q
    · cases this
  · have := h7 y hy
    rw [e] at this
    cases this
def chkDef (m : Md) (df : DefM) (body : List Stmt) (sc : Scope) : Bool := scopeB df.N df.ps sc && chkSs (m.si df sc) df.body body
section
variable {P : Program} {w : World} {K : PySem.W.Frag} {mg : Str → Option Value} {base : Heap}
/-- what the head tells of the module -/
structure MdOk (m : Md) (K : PySem.W.Frag) (mg : Str → Option Value) (base : Heap) : Prop where
  sys : ∃ o, base.get? sysModules = some o ∧ o.cls = .type "dict"
  glo : ∀ (k : Nat) (p : Str × PyData), m.G[k]? = some p → ∃ u v, mg p.1 = some u ∧ RelV v u ∧ ∀ g : Gh, RepW K g (.d p.2) v
  non : ∀ x ∈ m.nones, mg x = none
  fns : ∀ (i : Nat) (df : DefM), m.T[i]? = some df → ∃ (f : Addr) (fd : FuncData) (args : Arguments) (body : List Stmt) (sc : Scope), mg df.name = some (.ref f) ∧ FunD K df.name df.name args body sc [] [] f fd ∧ Binds K fd df.ps [] ∧
    (∀ np ks, (i, np, ks) ∈ m.kwl → KwB K fd df.ps np ks) ∧ chkDef m df body sc = true
theorem lvl_ok {m : Md} (F : Nat) (ok : MdOk m K mg base) : ∀ (n i : Nat) (df : DefM), m.T[i]? = some df → ∃ f fd, (∃ oc od osl, K.lookup f = some ⟨oc, od, .func fd, osl⟩) ∧ mg df.name = some (.ref f) ∧ PySem.W.keepIn K (.ref f) = true ∧ Binds K fd df.ps [] ∧ (∀ np ks, (i, np, ks) ∈ m.kwl → KwB K fd df.ps np ks) ∧
    FnG P w K mg base CX0 n f fd df.ps (spF K df.ps.length (lvl m.G m.T F n i))
  | 0, i, df, hi => by
    obtain ⟨f, fd, args, body, sc, h1, h2, h3, h4, h5⟩ := ok.fns i df hi
    obtain ⟨oc, od, _, _, _, _, _, _, _, osl, _, lk, _⟩ := h2.ex
    exact ⟨f, fd, ⟨oc, od, osl, lk⟩, h1, h2.kp, h3, h4, ⟨fun h => h.1, fun _ _ _ _ h => by obtain ⟨_, _, _, _, _, _, _, q⟩ := h; exact q.elim⟩⟩
  | n + 1, i, df, hi => by
    obtain ⟨f, fd, args, body, sc, h1, h2, h3, h4, h5⟩ := ok.fns i df hi
    obtain ⟨oc, od, dV, kV, doc, pm, an, cdv, ct, osl, rfl, lk, hcd, _, _⟩ := h2.ex
    refine ⟨f, _, ⟨oc, od, osl, lk⟩, h1, h2.kp, h3, h4, ?_⟩
    unfold chkDef at h5
    rw [Bool.and_eq_true] at h5
    have sco := scope_ok h5.1
    refine FnG.of lk hcd sco (fun h => h.1) fun A outer s H vs Q E hr hsp => ?_
    obtain ⟨hl, B, g, S, ws, sm, r, h⟩ := hsp
    have hlw : ws.length = df.ps.length := by rw [← r.length]; exact hl
    let c : C := ⟨m.G, lvl m.G m.T F n, kwF m.T (lvl m.G m.T F n), S.length, F⟩
    have h : PostR K B (RepW K) g H (fin' S.length (exs c df.body (startE df.N.length ws) S)) Q := by
      have e0 : lvl m.G m.T F (n + 1) i ws S = fin' S.length (exs c df.body (startE df.N.length ws) S) := by
        show (match m.T[i]? with
          | none => Out.bad
          | some df => if ws.length = df.ps.length then fin' S.length (exs c df.body (startE df.N.length ws) S) else .bad) = _
        rw [hi]
        dsimp only
        rw [if_pos hlw]
      rw [← e0]
      exact h
    have xok : XOk (cxOf CX0 P w K mg base df.N df.name sc f cdv A outer s H E).nox (m.si df sc) c (S.length :: B) n := {
      hN := rfl
      nd := sco.nd
      sc := rfl
      fnB := fun _ _ => rfl
      bk := ⟨by have := hr.room.un; show (A.deeper _).units + 130 < cLine; omega, hr.clear, rfl, ok.sys⟩
      glo := ok.glo
      non := ok.non
      room := hr
      fns := fun i df hi => let ⟨f, fd, _, q⟩ := lvl_ok F ok n i df hi; ⟨f, fd, q⟩
      hB := fun b' hb' => by
        rcases List.mem_cons.mp hb' with z | z
        · rw [z]; exact Nat.le_refl _
        · exact sm.base b' z
      cG := rfl
      cK := rfl }
    refine ⟨tS K (S.length :: B) (exs c df.body), PSs.nox (chkSs_ok xok sco.kind PassesOwn.never df.body h5.2), g, startE df.N.length ws, S, start_rep r, sm.enter, ?_⟩
    have out : ∀ {g' : Gh} {v : V} {H' : Hp} {w' : W} {S' : Store}, Step g H g' H' → Sim K (S.length :: B) g' S' H' → RepW K g' w' v → PostR K B (RepW K) g H (fin S.length w' S') Q → Q v H' := fun {g' v H' w' S'} st sm' rv h => by
      unfold fin at h
      cases e : w'.old S.length with
      | true =>
        rw [e, if_pos rfl] at h
        exact h (g'.cut S.length) v H' (st.cut sm) (sm'.cut fun b hb => sm.base b hb) (RepW.cut w' rv e)
      | false =>
        rw [e, if_neg Bool.false_ne_true] at h
        exact h g' v H' st sm'.weak rv
    cases e : exs c df.body (startE df.N.length ws) S with
    | ok p S' =>
      rw [e] at h
      obtain ⟨fl, ρ'⟩ := p
      intro g' q H' st sm' rf
      obtain ⟨σ', rv⟩ := q
      obtain ⟨rr, rf⟩ := rf
      cases fl with
      | nx => cases rv <;> first
        | exact rf.elim
        | exact out (w' := .d .none) st sm' rfl h
      | rt w' => cases rv <;> first
        | exact rf.elim
        | exact out st sm' rf h
      | bk => exact h.elim
      | ct => exact h.elim
    | exc _ _ _ => rw [e] at h; exact h.elim
    | bad => rw [e] at h; exact h.elim
theorem _root_.L2.FunD.kwB {x : Str} {qual : Str} {params : Arguments} {body : List Stmt} {scope : Scope} {kws : List (Str × V)} {f : Addr} {fd : FuncData} {ps ks : List Str} {np : Nat} (F : FunD K x qual params body scope [] kws f fd)
    (h : ∀ (kV doc pm : Value) (an : Option Addr) (cdv ct : Value) (us ws r : List Value), us.length = np → ws.length = ks.length → kwR ps np ks ws = some r → bindArgs (PySem.W.fnOf x qual params body scope .none kV doc pm an cdv ct) ⟨us, ks.zip ws⟩ = pure (ps.zip (us ++ r))) : KwB K fd ps np ks := by
  obtain ⟨oc, od, dV, kV, doc, pm, an, cdv, ct, osl, rfl, lk, hcd, hD, hK⟩ := F.ex
  rcases hD with ⟨_, rfl⟩ | ⟨e, _⟩
  · exact fun s us ws r _ h1 h2 h3 => .of_eq (h kV doc pm an cdv ct us ws r h1 h2 h3)
  · exact absurd rfl e
theorem fn_same {x : Str} {qual : Str} {params : Arguments} {body : List Stmt} {scope : Scope} {kws : List (Str × V)} {f : Addr} {fd fd' : FuncData} (F : FunD K x qual params body scope [] kws f fd) (h : ∃ oc od osl, K.lookup f = some ⟨oc, od, .func fd', osl⟩) : fd' = fd := by
  obtain ⟨oc, od, dV, kV, doc, pm, an, cdv, ct, osl, e, lk, _⟩ := F.ex
  obtain ⟨oc', od', osl', e'⟩ := h
  rw [lk] at e'
  injection e' with e'
  injection e' with _ _ e2 _
  injection e2 with e2
  exact e2.symm
end
end Ev

-- part EvR
set_option maxHeartbeats 200000
/-! EvR: the end of a law. -/
namespace Ev
open PySem PySem.Spec PyProof.Rows L2

/-- the law's call at the heap behind the top; the script frozen, or an object of the module -/
theorem end_call {P : Program} {w : World} {K : PySem.W.Frag} {mg mb : Str → Option Value} {k : Nat} {fa a : Addr} {fd : FuncData} {x : Str} {sp : Sp} {s₁ : Shared} {vs : List Value} {ns : List Int}
    (inK : K.In s₁.heap) (nsG : s₁.heap.Ns mainGlobals mg) (nsB : s₁.heap.Ns builtinsNs mb) (boot : ∀ x : Str, x ≠ "__name__" → mb x = bootBuiltins x) (noLim : s₁.heap.NoLimit) (noGen : s₁.gens = #[])
    (hsys : ∃ o, s₁.heap.get? sysModules = some o ∧ o.cls = .type "dict")
    (ha : s₁.heap.get? a = some { cls := .type "list", data := .seq vs.toArray }) (hi : IntsAre vs ns) (hl : ns.length ≤ sizeLine) (hr : Roomy k callerA)
    (F : ∀ base : Heap, K.In base → base.Ns mainGlobals mg → (∃ o, base.get? sysModules = some o ∧ o.cls = .type "dict") → FnG P w K mg base CX0 k fa fd [x] sp) (hbind : ∀ (s : Shared) (u : Value), BindsTo s fd ⟨[u], []⟩ [(x, u)])
    (hsp : ∀ H : Hp, LsR K H a (ns.map V.int) → sp [.ref a] H (fun v _ => v = .bl true) E0) :
    codeAny (model P w) callerA (.call (.ref fa) ⟨[.ref a], []⟩) (fun r s' => r = .ok (.ret (.bool true)) ∧ OldK s₁.heap s'.heap ∧ s'.os = s₁.os ∧ AllBare s'.gens) s₁ := by
  have rel := vals_ints hi
  have len := hi.length
  have main : ∀ H : Hp, LsR K H a (ns.map V.int) → HOk P w H s₁.heap → (∀ b, H b ≠ none → b = a ∧ K.lookup a = none ∧ ∃ o xs, H b = some (.frz o (.lst xs))) →
      codeAny (model P w) callerA (.call (.ref fa) ⟨[.ref a], []⟩) (fun r s' => r = .ok (.ret (.bool true)) ∧ OldK s₁.heap s'.heap ∧ s'.os = s₁.os ∧ AllBare s'.gens) s₁ := by
    intro H hS hok hA
    have keepB : ∀ {b : Addr} {o : Obj}, s₁.heap.get? b = some o → (b = a → K.lookup a ≠ none ∨ False) → (hidT s₁.heap H).get? b = some o := fun {b o} e h => hidT_get e (by
      cases q : H b with
      | none => rfl
      | some u =>
        obtain ⟨e1, e2, _⟩ := hA b (by rw [q]; exact fun z => nomatch z)
        exact ((h e1).elim (fun z => absurd e2 z) False.elim))
    have notA : ∀ {b : Addr} {o : Obj}, s₁.heap.get? b = some o → o.cls ≠ .type "list" → H b = none := fun {b o} e h => by
      cases q : H b with
      | none => rfl
      | some u =>
        obtain ⟨e1, _, _⟩ := hA b (by rw [q]; exact fun z => nomatch z)
        rw [e1, ha] at e
        cases e
        exact absurd rfl h
    have notD : ∀ {b : Addr} {o : Obj} {es : Array DictEntry} {ep : Nat}, s₁.heap.get? b = some o → o.data = .dict es ep → H b = none := fun {b o es ep} e d => by
      cases q : H b with
      | none => rfl
      | some u =>
        obtain ⟨e1, _, _⟩ := hA b (by rw [q]; exact fun z => nomatch z)
        rw [e1, ha] at e
        cases e
        have d : Data.seq vs.toArray _ = Data.dict es ep := d
        cases d
    have nsK : ∀ {b : Addr} {m : Str → Option Value}, s₁.heap.Ns b m → (hidT s₁.heap H).Ns b m := fun {b m} ⟨o, es, ep, e, d, r⟩ => ⟨o, es, ep, hidT_get e (notD e d), d, r⟩
    have kB : K.In (hidT s₁.heap H) := fun b o e => hidT_get (inK b o e) (by
      cases q : H b with
      | none => rfl
      | some u =>
        obtain ⟨e1, e2, _⟩ := hA b (by rw [q]; exact fun z => nomatch z)
        rw [e1, e2] at e
        cases e)
    have sysB : ∃ o, (hidT s₁.heap H).get? sysModules = some o ∧ o.cls = .type "dict" := by
      obtain ⟨o, e1, e2⟩ := hsys
      exact ⟨o, hidT_get e1 (notA e1 (by rw [e2]; decide +kernel)), e2⟩
    have md : Mod K mg (hidT s₁.heap H) := ⟨kB, nsK nsG, ⟨mb, nsK nsB, boot⟩, let ⟨mc, h1, h2⟩ := noLim; ⟨mc, nsK h1, h2⟩⟩
    have e0 : Env0 P w K mg (hidT s₁.heap H) callerA [] s₁ H := ⟨rfl, md, fun b o e => of_hidT e, Nat.le_of_eq (hidT_size _ _), trivial, fun b hb => absurd (show b ∈ ([] : List Addr) from hb) (by simp), hok, .of_eq noGen⟩
    refine codeAny_mono ((F _ kB (nsK nsG) sysB).go (us := [.ref a]) (vs := [.ref a]) hr e0 (hbind s₁ (.ref a)) (.cons rfl .nil) (hsp H hS)) fun r s' h => ?_
    match r, h with
    | .error e, h => exact h.elim
    | .ok .next, h => exact h.elim
    | .ok .brk, h => exact h.elim
    | .ok .cont, h => exact h.elim
    | .ok (.ret u), ⟨v, H', os, bare, un, hok', r', q⟩ =>
      have q : v = .bl true := q
      subst q
      obtain rfl : u = Value.bool true := r'
      refine ⟨rfl, OldK.of_keep fun b o e => ?_, os, bare⟩
      cases q : H b with
      | none => exact un.keep b o e q (by intro z; exact absurd (show b ∈ ([] : List Addr) from z) (by simp)) (by simp)
      | some u =>
        obtain ⟨_, _, ob, xs, z⟩ := hA b (by rw [q]; exact fun z => nomatch z)
        obtain ⟨e1, _⟩ := hok b _ z
        obtain ⟨e2, _⟩ := hok' b _ (un.frzs b ob _ z)
        rw [e] at e1; cases e1
        exact e2
  cases hk : K.lookup a with
  | some o =>
    have e := inK a o hk
    rw [ha] at e
    cases e
    exact main (fun _ => none) (.inr ⟨vs, 0, hk, by rw [len]; exact hl, rel⟩) (fun b u z => by cases (show (none : Option HO) = some u from z)) fun b z => absurd rfl z
  | none =>
    refine main (fun b => if b = a then some (.frz { cls := .type "list", data := .seq vs.toArray } (.lst (ns.map V.int))) else none) (.inl (.inr ⟨_, if_pos rfl⟩)) (fun b u z => ?_) fun b z => ?_
    · by_cases hb : b = a
      · have z := (if_pos hb).symm.trans z
        cases z
        subst hb
        exact ⟨ha, by rw [List.length_map]; exact hl, vs, _, rel, ha⟩
      · cases (if_neg hb).symm.trans z
    · by_cases hb : b = a
      · exact ⟨hb, hk, _, _, if_pos hb⟩
      · exact absurd (if_neg hb) z
theorem end_walk {l : PySem.W.OpenLaw} {n k : Nat} {q : Program} {loose : List Str} {XP : (Str → Option Value) → Heap → Prop} {YP : World → Heap → Prop} {d : DefRec} {x : Str}
    (hn : l.most = some n) (hn2 : n ≤ sizeLine) (hdf : d.params.defaults = []) (hr : Roomy k callerA)
    (F : ∀ (w : World) (mg : Str → Option Value) (fa : Addr) (h : Heap), YP w h → h.Ns mainGlobals mg → mg d.name = some (.ref fa) →
      ∃ (K : PySem.W.Frag) (fd : FuncData) (sp : Sp), K.In h ∧ (∃ o, h.get? sysModules = some o ∧ o.cls = .type "dict") ∧ (∀ (s : Shared) (u : Value), BindsTo s fd ⟨[u], []⟩ [(x, u)]) ∧
        (∀ (H : Hp) (a : Addr) (ns : List Int), ns.length ≤ n → LsR K H a (ns.map V.int) → sp [.ref a] H (fun v _ => v = .bl true) E0) ∧
        ∀ base : Heap, K.In base → base.Ns mainGlobals mg → (∃ o, base.get? sysModules = some o ∧ o.cls = .type "dict") → FnG l.prog w K mg base CX0 k fa fd [x] sp) :
    PySem.W.WalkO q loose XP YP l.row.toRowW d [] (fun f vs => PySem.call f vs) := by
  refine Att.attach_call hn hdf fun w s₀ s₁ mg mb fa o pm cd doc a vs ns G Y ho hd hcd hmg hobj hints hlen hg => ?_
  obtain ⟨K, fd, sp, h1, h2, h3, h4, h5⟩ := F w mg fa _ Y G.T.g hmg
  exact end_call h1 G.T.g G.T.b G.T.builtins G.T.nolimit hg h2 hobj hints (Nat.le_trans hlen hn2) hr h5 h3 fun H hS => h4 H a ns hlen hS
/-- from the evaluator's answer -/
theorem sp_of {K : PySem.W.Frag} {H : Hp} {a : Addr} {ns : List Int} {φ : List W → M W} {S' : Store} (hl : ns.length ≤ sizeLine) (h : LsR K H a (ns.map V.int)) (e : φ [.d (.list (ns.map .int))] [] = .ok (.d (.bool true)) S') : spF K 1 φ [.ref a] H (fun v _ => v = .bl true) E0 := by
  have rep : ∀ ns : List Int, RepDs K H (ns.map PyData.int) (ns.map V.int) := fun ns => by
    induction ns with
    | nil => rfl
    | cons n ns ih => exact ⟨V.int n, _, rfl, rfl, ih⟩
  refine ⟨rfl, [], ⟨H, fun _ => none⟩, [], [.d (.list (ns.map .int))], ⟨HLe.refl _, fun n hn => absurd hn (Nat.not_lt_zero _), fun _ _ => rfl, fun i j a e => (nomatch e), fun n ws e => by simp at e, fun b hb => (nomatch hb), fun b hb => (nomatch hb)⟩,
    ⟨.ref a, [], rfl, ⟨by rw [List.length_map]; exact hl, a, _, rfl, h, rep ns⟩, rfl⟩, ?_⟩
  rw [e]
  exact fun g' b H' _ _ r => r

/-! ### the head's hook, sys.modules looked at too -/
def sysB (g : Addr → Option Obj) : Bool := match g sysModules with
  | some o => decide (o.cls = .type "dict")
  | none => false
theorem sysB_ok {g : Addr → Option Obj} (h : sysB g = true) : ∃ o, g sysModules = some o ∧ o.cls = .type "dict" := by
  unfold sysB at h
  split at h
  · rename_i o e
    exact ⟨o, e, of_decide_eq_true h⟩
  · cases h
def hookE (n : Nat) (fa : List He.Fa) (fn : List He.DefD) : PySem.W.Hook where
  α := Bool × He.AlD
  obs := fun s => (sysB s.heap.get?, He.obsDG n fa fn s.heap.get?)
  val := fun _ => (true, He.valD fn)
  says := fun _ h => (∃ o, h.get? sysModules = some o ∧ o.cls = .type "dict") ∧ ∃ K : PySem.W.Frag, K.In h ∧ He.SaysD fa fn K
  of := fun _ _ e => ⟨sysB_ok (congrArg (fun z : Bool × He.AlD => z.1) e), _, He.frG_in, congrArg (fun z : Bool × He.AlD => z.2) e⟩
  keeps := fun _ _ _ ⟨⟨o, e1, e2⟩, K, hK, c⟩ k => ⟨⟨o, k _ _ e1, e2⟩, K, PySem.W.Frag.In.keeps hK k, c⟩
theorem obE_eq {n : Nat} {fa : List He.Fa} {fn : List He.DefD} {g : Addr → Option Obj} {s : Shared} (h : ∀ a, g a = s.heap.get? a) : (sysB g, He.obsDG n fa fn g) = (hookE n fa fn).obs s := by
  have e : g = s.heap.get? := funext h
  rw [e]
  rfl
end Ev

-- part Law41
set_option maxHeartbeats 0
namespace L41
open PySem PySem.Spec PyProof.Rows L2 Ev

def d0 : DefM := ⟨"is_integer", ["value"], ["value"], [.ret (.and (.blt false (.isa .int) [.var 0]) (.not (.blt false (.isa .bool) [.var 0])))]⟩
def d1 : DefM := ⟨"are_ticks", ["values"], ["values", "value"], [.ret (.blt false .all [.comp false (.and (.call 0 [.var 1]) (.chn .LtE .LtE (.con (.int 0)) (.var 1) (.glo 1))) (.nm 1) .seq [.var 0] [] [1]])]⟩
def d2 : DefM := ⟨"is_timer", ["part"], ["part"], [.ret (.cmp .In (.sub (.var 0) (.con (.int 0))) (.tup [.con (.str "on"), .con (.str "off")]))]⟩
def d3 : DefM := ⟨"is_loose_part", ["value"], ["value"], [.iff (.or (.not (.blt false (.isa .tup) [.var 0])) (.cmp .Eq (.var 0) (.tup []))) [.ret (.con (.bool false))] [], .iff (.cmp .Eq (.var 0) (.tup [.con (.str "turn")])) [.ret (.con (.bool true))] [], .iff (.cmp .Eq (.sub (.var 0) (.con (.int 0))) (.con (.str "delay"))) [.ret (.and (.cmp .Eq (.blt false .len [.var 0]) (.con (.int 2))) (.call 1 [.slc false (.var 0) (.con (.int 1)) (.nop)]))] [], .ret (.and (.call 2 [.var 0]) (.and (.cmp .Eq (.blt false .len [.var 0]) (.con (.int 3))) (.and (.call 1 [.slc false (.var 0) (.con (.int 1)) (.nop)]) (.cmp .LtE (.sub (.var 0) (.con (.int 1))) (.sub (.var 0) (.con (.int 2)))))))]⟩
def d4 : DefM := ⟨"loose_error", ["value"], ["value", "place", "part"], [.iff (.or (.not (.blt false (.isa .tup) [.var 0])) (.cmp .Gt (.blt false .len [.var 0]) (.glo 0))) [.ret (.con (.str "form"))] [], .forr (.tp [.nm 1, .nm 2]) .enum [.var 0] [.iff (.not (.call 3 [.var 2])) [.ret (.tup [.con (.str "part"), .var 1])] []], .ret (.con .none)]⟩
def d5 : DefM := ⟨"_law_stock", ["script"], ["script", "flat", "cell"], [.set (.nm 1) (.comp false (.ite (.cmp .GtE (.var 2) (.con (.int 0))) (.bin false .Mult (.con (.int 2)) (.var 2)) (.bin false .Sub (.bin false .Mult (.neg (.con (.int 2))) (.var 2)) (.con (.int 1)))) (.nm 2) .seq [.slc false (.var 0) (.nop) (.con (.int 63))] [] [2]), .ret (.lst true [.comp true (.var 2) (.nm 2) .seq [.var 1] [.cmp .GtE (.var 2) (.bin false .Pow (.con (.int 10)) (.con (.int 15)))] [2], .bin false .Add (.var 1) (.lst false [.bin false .Add (.blt false .len [.var 1]) (.con (.int 741))]), .blt false .sum [.var 1], .con (.int 0)])]⟩
def d6 : DefM := ⟨"_law_draw", ["stock", "size"], ["stock", "size", "turn", "cell", "blend", "great"], [.iff (.cmp .NotEq (.sub (.var 0) (.con (.int 0))) (.lst false [])) [.set (.nm 5) (.met .pop (.sub (.var 0) (.con (.int 0))) []), .iff (.cmp .GtE (.var 5) (.var 1)) [.exp (.met .append (.sub (.var 0) (.con (.int 0))) [.bin false .FloorDiv (.var 5) (.var 1)])] [], .ret (.bin false .Mod (.blt false .int1 [.var 5]) (.var 1))] [], .setS (.var 0) (.con (.int 3)) (.bin false .Add (.sub (.var 0) (.con (.int 3))) (.con (.int 1))), .set (.nm 2) (.sub (.var 0) (.con (.int 3))), .set (.nm 3) (.bin false .Mod (.blt false .int1 [.sub (.sub (.var 0) (.con (.int 1))) (.bin false .Mod (.blt false .int1 [.var 2]) (.blt false .len [.sub (.var 0) (.con (.int 1))]))]) (.con (.int 1000000007))), .set (.nm 4) (.bin false .Mod (.blt false .int1 [.bin false .Add (.bin false .Add (.bin false .Mult (.var 3) (.con (.int 48271))) (.bin false .Mult (.bin false .Mod (.blt false .int1 [.sub (.var 0) (.con (.int 2))]) (.con (.int 998244353))) (.con (.int 69621)))) (.bin false .Mult (.var 2) (.con (.int 2654435761)))]) (.con (.int 4294967291))), .set (.nm 4) (.bin false .Mod (.blt false .int1 [.bin false .Add (.bin false .Add (.bin false .Mult (.var 4) (.var 4)) (.bin false .Mult (.var 2) (.con (.int 362437)))) (.var 3)]) (.con (.int 4294967279))), .ret (.bin false .Mod (.bin false .FloorDiv (.bin false .Mod (.blt false .int1 [.bin false .Add (.bin false .Mult (.var 4) (.con (.int 40692))) (.bin false .Mult (.var 2) (.con (.int 65537)))]) (.con (.int 4294967231))) (.con (.int 4096))) (.var 1))]⟩
def d7 : DefM := ⟨"_law_pick", ["stock", "row"], ["stock", "row"], [.ret (.sub (.var 1) (.call 6 [.var 0, .blt false .len [.var 1]]))]⟩
def d8 : DefM := ⟨"_law_loose", ["stock", "parts", "most", "wide"], ["stock", "parts", "most", "wide", "found", "turn", "low", "way", "small"], [.set (.nm 4) (.lst true []), .forr (.nm 5) .rng1 [.call 6 [.var 0, .bin false .Add (.var 1) (.con (.int 1))]] [.set (.tp [.nm 7, .nm 8]) (.tup [.call 6 [.var 0, .con (.int 8)], .call 6 [.var 0, .bin false .Add (.blt false .min2 [.var 2, .con (.int 9)]) (.con (.int 1))]]), .set (.nm 6) (.call 7 [.var 0, .lst false [.var 8, .var 8, .bin false .Sub (.var 2) (.var 8), .bin false .FloorDiv (.var 2) (.bin false .Add (.con (.int 1)) (.var 8))]]), .iff (.cmp .Eq (.var 7) (.con (.int 6))) [.exp (.met .append (.var 4) [.tup [.con (.str "delay"), .var 6]])] [.iff (.cmp .Eq (.var 7) (.con (.int 7))) [.exp (.met .append (.var 4) [.tup [.con (.str "turn")]])] [.exp (.met .append (.var 4) [.tup [.sub (.lst false [.con (.str "on"), .con (.str "off")]) (.bin false .Mod (.var 7) (.con (.int 2))), .var 6, .bin false .Add (.var 6) (.call 6 [.var 0, .bin false .Add (.var 3) (.con (.int 1))])]])]]], .ret (.blt false .tupleOf [.var 4])]⟩
def d9 : DefM := ⟨"_law_is_whole", ["value", "least", "most"], ["value", "least", "most"], [.ret (.and (.blt false (.isa .int) [.var 0]) (.and (.not (.blt false (.isa .bool) [.var 0])) (.chn .LtE .LtE (.var 1) (.var 0) (.var 2))))]⟩
def d10 : DefM := ⟨"_law_is_part", ["value"], ["value"], [.iff (.or (.not (.blt false (.isa .tup) [.var 0])) (.or (.cmp .Eq (.var 0) (.tup [])) (.not (.blt false (.isa .str) [.sub (.var 0) (.con (.int 0))])))) [.ret (.con (.bool false))] [], .iff (.cmp .Eq (.sub (.var 0) (.con (.int 0))) (.con (.str "turn"))) [.ret (.cmp .Eq (.blt false .len [.var 0]) (.con (.int 1)))] [], .iff (.cmp .Eq (.sub (.var 0) (.con (.int 0))) (.con (.str "delay"))) [.ret (.and (.cmp .Eq (.blt false .len [.var 0]) (.con (.int 2))) (.call 9 [.sub (.var 0) (.con (.int 1)), .con (.int 0), .bin false .Pow (.con (.int 10)) (.con (.int 30))]))] [], .iff (.or (.cmp .NotIn (.sub (.var 0) (.con (.int 0))) (.tup [.con (.str "on"), .con (.str "off")])) (.cmp .NotEq (.blt false .len [.var 0]) (.con (.int 3)))) [.ret (.con (.bool false))] [], .ret (.and (.call 9 [.sub (.var 0) (.con (.int 1)), .con (.int 0), .bin false .Pow (.con (.int 10)) (.con (.int 30))]) (.call 9 [.sub (.var 0) (.con (.int 2)), .sub (.var 0) (.con (.int 1)), .bin false .Pow (.con (.int 10)) (.con (.int 30))]))]⟩
def d11 : DefM := ⟨"_law_due", ["value"], ["value", "place", "part"], [.iff (.or (.not (.blt false (.isa .tup) [.var 0])) (.cmp .Gt (.blt false .len [.var 0]) (.con (.int 40)))) [.ret (.con (.str "form"))] [], .forr (.tp [.nm 1, .nm 2]) .enum [.var 0] [.iff (.not (.call 10 [.var 2])) [.ret (.tup [.con (.str "part"), .var 1])] []], .ret (.con .none)]⟩
def d12 : DefM := ⟨"_law_odd", ["stock"], ["stock", "word", "odd", "low", "far"], [.set (.tp [.nm 3, .nm 4]) (.tup [.call 6 [.var 0, .con (.int 5)], .bin false .Pow (.con (.int 10)) (.con (.int 30))]), .set (.nm 1) (.call 7 [.var 0, .lst false [.con (.str "on"), .con (.str "off")]]), .set (.nm 2) (.lst false [.tup [.var 1, .bin false .Add (.var 3) (.con (.int 1)), .var 3], .tup [.var 1, .var 3], .tup [.var 1], .tup [.var 1, .var 3, .var 4], .tup [.var 1, .var 3, .bin false .Add (.var 4) (.con (.int 1))], .tup [.var 1, .var 4, .var 4]]), .set (.nm 2) (.bin false .Add (.var 2) (.lst false [.tup [.var 1, .neg (.con (.int 1)), .var 3], .tup [.var 1, .con (.bool true), .con (.int 2)], .tup [.var 1, .con (.int 0), .con (.bool true)], .tup [.var 1, .con (.bool false), .var 3], .tup [.var 1, .con .none, .var 3]])), .set (.nm 2) (.bin false .Add (.var 2) (.lst false [.lst false [.var 1, .var 3, .var 3], .tup [.var 1, .var 3, .var 3, .var 3], .tup [.var 1, .tup [.var 3, .var 3]], .tup [.con (.str "delay"), .var 3, .var 3], .tup [.con (.str "delay")]])), .set (.nm 2) (.bin false .Add (.var 2) (.lst false [.tup [.con (.str "delay"), .neg (.con (.int 1))], .tup [.con (.str "delay"), .var 4], .tup [.con (.str "delay"), .bin false .Add (.var 4) (.con (.int 1))], .tup [.con (.str "delay"), .con (.bool true)], .tup [.con (.str "turn"), .con (.int 0)], .tup [.con (.str "turn")], .con (.str "turn")])), .set (.nm 2) (.bin false .Add (.var 2) (.lst false [.lst false [.con (.str "turn")], .tup [.con (.str "On"), .con (.int 1), .con (.int 2)], .tup [.con .none, .con (.int 1), .con (.int 2)], .tup [.tup [.con (.str "on")], .con (.int 1), .con (.int 2)], .tup [], .con .none, .con (.int 7), .dic, .tup [.var 1, .var 3, .bin false .Add (.var 3) (.con (.int 1))]])), .set (.nm 2) (.bin false .Add (.var 2) (.lst false [.tup [.con (.str "late"), .con (.int 1), .con (.int 2)], .tup [.con (.int 1), .var 1, .con (.int 2)], .tup [.var 1, .bin false .Mult (.var 4) (.var 4), .bin false .Mult (.bin false .Mult (.var 4) (.var 4)) (.var 4)], .tup [.var 1, .var 3, .bin false .Mult (.bin false .Mult (.var 4) (.var 4)) (.var 4)]])), .set (.nm 2) (.bin false .Add (.var 2) (.lst false [.tup [.lst false [.var 1], .var 3, .var 3], .tup [.dic, .con (.int 1), .con (.int 2)], .tup [.lst false []], .tup [.var 1, .var 3, .con .none], .tup [.var 1, .var 3, .con (.str "2")], .tup [.con (.str "delay"), .con .none]])), .ret (.call 7 [.var 0, .bin false .Add (.var 2) (.lst false [.tup [.con (.str "delay"), .tup [.con (.int 1)]]])])]⟩
def d13 : DefM := ⟨"law", ["script"], ["script", "stock", "turn", "great", "loose", "forty", "things", "nth", "once", "thing", "heard", "at", "to", "known", "due"], [.set (.nm 1) (.call 5 [.var 0]), .forr (.nm 2) .rng1 [.con (.int 4)] [.set (.nm 3) (.call 7 [.var 1, .lst false [.con (.int 4), .bin false .Sub (.bin false .Pow (.con (.int 10)) (.con (.int 30))) (.con (.int 9)), .bin false .Pow (.con (.int 10)) (.con (.int 29))]]), .set (.nm 4) (.call 8 [.var 1, .con (.int 6), .var 3, .call 7 [.var 1, .lst false [.con (.int 0), .con (.int 1), .con (.int 3), .con (.int 9)]]]), .set (.nm 5) (.bin false .Mult (.bin false .Add (.var 4) (.tup [.tup [.con (.str "turn")]])) (.con (.int 40))), .set (.nm 6) (.lst true [.var 4, .blt false .listOf [.var 4], .slc false (.var 5) (.nop) (.con (.int 40)), .slc false (.var 5) (.nop) (.con (.int 41)), .tup [], .con .none, .tup [.var 4], .dic, .con (.int 7), .con (.str "turn"), .con (.bool true)]), .exp (.met .append (.var 6) [.bin false .Add (.var 4) (.tup [.tup [.con (.str "delay"), .con (.int 0)]])]), .forr (.nm 7) .rng1 [.con (.int 10)] [.set (.tp [.nm 11, .nm 12]) (.tup [.call 6 [.var 1, .bin false .Add (.blt false .len [.var 4]) (.con (.int 1))], .call 6 [.var 1, .bin false .Add (.blt false .len [.var 4]) (.con (.int 1))]]), .set (.nm 8) (.bin false .Add (.bin false .Add (.slc false (.var 4) (.nop) (.var 11)) (.tup [.call 12 [.var 1]])) (.slc false (.var 4) (.bin false .Add (.var 11) (.call 6 [.var 1, .con (.int 2)])) (.nop))), .exp (.met .append (.var 6) [.var 8]), .exp (.met .append (.var 6) [.bin false .Add (.bin false .Add (.slc false (.var 8) (.nop) (.var 12)) (.tup [.call 12 [.var 1]])) (.slc false (.var 8) (.var 12) (.nop))])], .set (.nm 6) (.bin true .Add (.var 6) (.lst false [.bin false .Add (.slc false (.var 5) (.nop) (.con (.int 40))) (.tup [.call 12 [.var 1]]), .lst false [.call 12 [.var 1]]])), .exp (.met .append (.var 6) [.bin false .Add (.slc false (.var 5) (.nop) (.con (.int 39))) (.tup [.call 12 [.var 1]])]), .frz 6, .forr (.tp [.nm 7, .nm 9]) .enum [.var 6] [.set (.tp [.nm 13, .nm 14]) (.tup [.blt false .repr [.var 9], .blt false .repr [.call 11 [.var 9]]]), .set (.nm 10) (.ite (.cmp .Eq (.bin false .Mod (.var 7) (.con (.int 3))) (.con (.int 0))) (.callk 4 [] ["value"] [.var 9]) (.call 4 [.var 9])), .iff (.or (.cmp .NotEq (.blt false .repr [.var 10]) (.var 14)) (.or (.cmp .NotEq (.blt false .repr [.call 4 [.var 9]]) (.var 14)) (.cmp .NotEq (.blt false .repr [.var 9]) (.var 13)))) [.ret (.con (.bool false))] []]], .ret (.cmp .Eq (.call 4 [.tup [.tup [.con (.str "off"), .con (.bool true), .con (.int 2)]]]) (.tup [.con (.str "part"), .con (.int 0)]))]⟩
def T : List DefM := [d0, d1, d2, d3, d4, d5, d6, d7, d8, d9, d10, d11, d12, d13]
def G : List (Str × PyData) := [("MAX_PARTS", .int 40), ("MAX_TICKS", .int 1000000000000000000000000000000)]
def nones : List Str := ["all", "bool", "enumerate", "int", "isinstance", "len", "list", "min", "range", "repr", "str", "sum", "tuple"]
def kwl : List (Nat × Nat × List Str) := [(4, 0, ["value"])]
def md : Md := ⟨nones, T, G, kwl⟩
def top (i : Nat) : Stmt := PySem.Challenge.pw_latewires_k41_what_is_a_loose_row.main.body.getD i (.Pass ⟨0, 0, 0, 0⟩)
def mkD (i : Nat) (x : Str) : He.DefD := ⟨(x, none), x, x, defArgs (top i), defBody (top i), defScope (top i), [], []⟩
def fn : List He.DefD := [mkD 3 "is_integer", mkD 5 "are_ticks", mkD 6 "is_timer", mkD 7 "is_loose_part", mkD 8 "loose_error", mkD 10 "_law_stock", mkD 11 "_law_draw", mkD 12 "_law_pick", mkD 13 "_law_loose", mkD 14 "_law_is_whole", mkD 15 "_law_is_part", mkD 16 "_law_due", mkD 17 "_law_odd", mkD 18 "law"]
def fa : List He.Fa := [.glo "is_integer", .glo "are_ticks", .glo "is_timer", .glo "is_loose_part", .glo "loose_error", .glo "_law_stock", .glo "_law_draw", .glo "_law_pick", .glo "_law_loose", .glo "_law_is_whole", .glo "_law_is_part", .glo "_law_due", .glo "_law_odd", .glo "law", .free "all", .free "bool", .free "enumerate", .free "int", .free "isinstance", .free "len", .free "list", .free "min", .free "range", .free "repr", .free "str", .free "sum", .free "tuple", .int "MAX_PARTS" 40, .int "MAX_TICKS" 1000000000000000000000000000000]
abbrev R : PySem.W.OpenRow := PySem.W.OpenLaw.row PySem.Challenge.rw_latewires_k41_what_is_a_loose_row
abbrev hk : PySem.W.Hook := hookE 4 fa fn
def ob (s : PySem.W.SharedT) : Bool × He.AlD := (sysB (HandSHeadRun.getT s), He.obsDG 4 fa fn (HandSHeadRun.getT s))
theorem ob_eq (s : PySem.W.SharedT) : ob s = hk.obs s.abs := obE_eq (HandSHeadRun.getT_eq s)
def loose : List PySem.Str := ["MAX_PARTS", "MAX_TICKS", "is_integer", "are_ticks", "is_timer", "is_loose_part", "loose_error", "_law_stock", "_law_draw", "_law_pick", "_law_loose", "_law_is_whole", "_law_is_part", "_law_due", "_law_odd"]
theorem run (w : World) : HandSHeadRun.RunEq R (PySem.W.view R.prog [18]) hk ob 1200 loose w := by
  intro os
  kernel_rfl
theorem c0 : chkDef md d0 (defBody (top 3)) (defScope (top 3)) = true := by decide +kernel
theorem c1 : chkDef md d1 (defBody (top 5)) (defScope (top 5)) = true := by decide +kernel
theorem c2 : chkDef md d2 (defBody (top 6)) (defScope (top 6)) = true := by decide +kernel
theorem c3 : chkDef md d3 (defBody (top 7)) (defScope (top 7)) = true := by decide +kernel
theorem c4 : chkDef md d4 (defBody (top 8)) (defScope (top 8)) = true := by decide +kernel
theorem c5 : chkDef md d5 (defBody (top 10)) (defScope (top 10)) = true := by decide +kernel
theorem c6 : chkDef md d6 (defBody (top 11)) (defScope (top 11)) = true := by decide +kernel
theorem c7 : chkDef md d7 (defBody (top 12)) (defScope (top 12)) = true := by decide +kernel
theorem c8 : chkDef md d8 (defBody (top 13)) (defScope (top 13)) = true := by decide +kernel
theorem c9 : chkDef md d9 (defBody (top 14)) (defScope (top 14)) = true := by decide +kernel
theorem c10 : chkDef md d10 (defBody (top 15)) (defScope (top 15)) = true := by decide +kernel
theorem c11 : chkDef md d11 (defBody (top 16)) (defScope (top 16)) = true := by decide +kernel
theorem c12 : chkDef md d12 (defBody (top 17)) (defScope (top 17)) = true := by decide +kernel
theorem c13 : chkDef md d13 (defBody (top 18)) (defScope (top 18)) = true := by decide +kernel
section
variable {K : PySem.W.Frag} {mg : Str → Option Value} {base : Heap}
theorem kw0 {K : PySem.W.Frag} {fd : FuncData} {ps : List Str} {i : Nat} (h : kwl.all (fun q => q.1 != i) = true) : ∀ np ks, (i, np, ks) ∈ kwl → KwB K fd ps np ks := fun np ks hm => by
  have := List.all_eq_true.mp h _ hm
  simp at this
theorem f0 (X : K.In base) (G : base.Ns mainGlobals mg) (c : He.SaysD fa fn K) : ∃ (f : Addr) (fd : FuncData) (args : Arguments) (body : List Stmt) (sc : Scope), mg d0.name = some (.ref f) ∧ FunD K d0.name d0.name args body sc [] [] f fd ∧ Binds K fd d0.ps [] ∧
    (∀ np ks, (0, np, ks) ∈ md.kwl → KwB K fd d0.ps np ks) ∧ chkDef md d0 body sc = true := by
  obtain ⟨fd, F⟩ := c.def_ 0 (d := mkD 3 "is_integer") rfl
  refine ⟨_, fd, _, _, _, He.glo_ok X G (c.fact 0 (f := .glo "is_integer") rfl), F, F.bindsN fun _ _ _ _ _ _ us hl => match us, hl with | [_], _ => rfl, ?_, c0⟩
  exact kw0 (by decide +kernel)
theorem f1 (X : K.In base) (G : base.Ns mainGlobals mg) (c : He.SaysD fa fn K) : ∃ (f : Addr) (fd : FuncData) (args : Arguments) (body : List Stmt) (sc : Scope), mg d1.name = some (.ref f) ∧ FunD K d1.name d1.name args body sc [] [] f fd ∧ Binds K fd d1.ps [] ∧
    (∀ np ks, (1, np, ks) ∈ md.kwl → KwB K fd d1.ps np ks) ∧ chkDef md d1 body sc = true := by
  obtain ⟨fd, F⟩ := c.def_ 1 (d := mkD 5 "are_ticks") rfl
  refine ⟨_, fd, _, _, _, He.glo_ok X G (c.fact 1 (f := .glo "are_ticks") rfl), F, F.bindsN fun _ _ _ _ _ _ us hl => match us, hl with | [_], _ => rfl, ?_, c1⟩
  exact kw0 (by decide +kernel)
theorem f2 (X : K.In base) (G : base.Ns mainGlobals mg) (c : He.SaysD fa fn K) : ∃ (f : Addr) (fd : FuncData) (args : Arguments) (body : List Stmt) (sc : Scope), mg d2.name = some (.ref f) ∧ FunD K d2.name d2.name args body sc [] [] f fd ∧ Binds K fd d2.ps [] ∧
    (∀ np ks, (2, np, ks) ∈ md.kwl → KwB K fd d2.ps np ks) ∧ chkDef md d2 body sc = true := by
  obtain ⟨fd, F⟩ := c.def_ 2 (d := mkD 6 "is_timer") rfl
  refine ⟨_, fd, _, _, _, He.glo_ok X G (c.fact 2 (f := .glo "is_timer") rfl), F, F.bindsN fun _ _ _ _ _ _ us hl => match us, hl with | [_], _ => rfl, ?_, c2⟩
  exact kw0 (by decide +kernel)
theorem f3 (X : K.In base) (G : base.Ns mainGlobals mg) (c : He.SaysD fa fn K) : ∃ (f : Addr) (fd : FuncData) (args : Arguments) (body : List Stmt) (sc : Scope), mg d3.name = some (.ref f) ∧ FunD K d3.name d3.name args body sc [] [] f fd ∧ Binds K fd d3.ps [] ∧
    (∀ np ks, (3, np, ks) ∈ md.kwl → KwB K fd d3.ps np ks) ∧ chkDef md d3 body sc = true := by
  obtain ⟨fd, F⟩ := c.def_ 3 (d := mkD 7 "is_loose_part") rfl
  refine ⟨_, fd, _, _, _, He.glo_ok X G (c.fact 3 (f := .glo "is_loose_part") rfl), F, F.bindsN fun _ _ _ _ _ _ us hl => match us, hl with | [_], _ => rfl, ?_, c3⟩
  exact kw0 (by decide +kernel)
theorem f4 (X : K.In base) (G : base.Ns mainGlobals mg) (c : He.SaysD fa fn K) : ∃ (f : Addr) (fd : FuncData) (args : Arguments) (body : List Stmt) (sc : Scope), mg d4.name = some (.ref f) ∧ FunD K d4.name d4.name args body sc [] [] f fd ∧ Binds K fd d4.ps [] ∧
    (∀ np ks, (4, np, ks) ∈ md.kwl → KwB K fd d4.ps np ks) ∧ chkDef md d4 body sc = true := by
  obtain ⟨fd, F⟩ := c.def_ 4 (d := mkD 8 "loose_error") rfl
  refine ⟨_, fd, _, _, _, He.glo_ok X G (c.fact 4 (f := .glo "loose_error") rfl), F, F.bindsN fun _ _ _ _ _ _ us hl => match us, hl with | [_], _ => rfl, ?_, c4⟩
  intro np ks hm
  simp only [md, kwl, List.mem_cons, Prod.mk.injEq, List.mem_nil_iff, or_false] at hm
  rcases hm with ⟨h1, h2, h3⟩
  · subst h2 h3; exact F.kwB fun _ _ _ _ _ _ us ws r h1 h2 h3 => match us, ws, h1, h2 with | [], [_], _, _ => by cases h3; rfl
theorem f5 (X : K.In base) (G : base.Ns mainGlobals mg) (c : He.SaysD fa fn K) : ∃ (f : Addr) (fd : FuncData) (args : Arguments) (body : List Stmt) (sc : Scope), mg d5.name = some (.ref f) ∧ FunD K d5.name d5.name args body sc [] [] f fd ∧ Binds K fd d5.ps [] ∧
    (∀ np ks, (5, np, ks) ∈ md.kwl → KwB K fd d5.ps np ks) ∧ chkDef md d5 body sc = true := by
  obtain ⟨fd, F⟩ := c.def_ 5 (d := mkD 10 "_law_stock") rfl
  refine ⟨_, fd, _, _, _, He.glo_ok X G (c.fact 5 (f := .glo "_law_stock") rfl), F, F.bindsN fun _ _ _ _ _ _ us hl => match us, hl with | [_], _ => rfl, ?_, c5⟩
  exact kw0 (by decide +kernel)
theorem f6 (X : K.In base) (G : base.Ns mainGlobals mg) (c : He.SaysD fa fn K) : ∃ (f : Addr) (fd : FuncData) (args : Arguments) (body : List Stmt) (sc : Scope), mg d6.name = some (.ref f) ∧ FunD K d6.name d6.name args body sc [] [] f fd ∧ Binds K fd d6.ps [] ∧
    (∀ np ks, (6, np, ks) ∈ md.kwl → KwB K fd d6.ps np ks) ∧ chkDef md d6 body sc = true := by
  obtain ⟨fd, F⟩ := c.def_ 6 (d := mkD 11 "_law_draw") rfl
  refine ⟨_, fd, _, _, _, He.glo_ok X G (c.fact 6 (f := .glo "_law_draw") rfl), F, F.bindsN fun _ _ _ _ _ _ us hl => match us, hl with | [_, _], _ => rfl, ?_, c6⟩
  exact kw0 (by decide +kernel)
theorem f7 (X : K.In base) (G : base.Ns mainGlobals mg) (c : He.SaysD fa fn K) : ∃ (f : Addr) (fd : FuncData) (args : Arguments) (body : List Stmt) (sc : Scope), mg d7.name = some (.ref f) ∧ FunD K d7.name d7.name args body sc [] [] f fd ∧ Binds K fd d7.ps [] ∧
    (∀ np ks, (7, np, ks) ∈ md.kwl → KwB K fd d7.ps np ks) ∧ chkDef md d7 body sc = true := by
  obtain ⟨fd, F⟩ := c.def_ 7 (d := mkD 12 "_law_pick") rfl
  refine ⟨_, fd, _, _, _, He.glo_ok X G (c.fact 7 (f := .glo "_law_pick") rfl), F, F.bindsN fun _ _ _ _ _ _ us hl => match us, hl with | [_, _], _ => rfl, ?_, c7⟩
  exact kw0 (by decide +kernel)
theorem f8 (X : K.In base) (G : base.Ns mainGlobals mg) (c : He.SaysD fa fn K) : ∃ (f : Addr) (fd : FuncData) (args : Arguments) (body : List Stmt) (sc : Scope), mg d8.name = some (.ref f) ∧ FunD K d8.name d8.name args body sc [] [] f fd ∧ Binds K fd d8.ps [] ∧
    (∀ np ks, (8, np, ks) ∈ md.kwl → KwB K fd d8.ps np ks) ∧ chkDef md d8 body sc = true := by
  obtain ⟨fd, F⟩ := c.def_ 8 (d := mkD 13 "_law_loose") rfl
  refine ⟨_, fd, _, _, _, He.glo_ok X G (c.fact 8 (f := .glo "_law_loose") rfl), F, F.bindsN fun _ _ _ _ _ _ us hl => match us, hl with | [_, _, _, _], _ => rfl, ?_, c8⟩
  exact kw0 (by decide +kernel)
theorem f9 (X : K.In base) (G : base.Ns mainGlobals mg) (c : He.SaysD fa fn K) : ∃ (f : Addr) (fd : FuncData) (args : Arguments) (body : List Stmt) (sc : Scope), mg d9.name = some (.ref f) ∧ FunD K d9.name d9.name args body sc [] [] f fd ∧ Binds K fd d9.ps [] ∧
    (∀ np ks, (9, np, ks) ∈ md.kwl → KwB K fd d9.ps np ks) ∧ chkDef md d9 body sc = true := by
  obtain ⟨fd, F⟩ := c.def_ 9 (d := mkD 14 "_law_is_whole") rfl
  refine ⟨_, fd, _, _, _, He.glo_ok X G (c.fact 9 (f := .glo "_law_is_whole") rfl), F, F.bindsN fun _ _ _ _ _ _ us hl => match us, hl with | [_, _, _], _ => rfl, ?_, c9⟩
  exact kw0 (by decide +kernel)
theorem f10 (X : K.In base) (G : base.Ns mainGlobals mg) (c : He.SaysD fa fn K) : ∃ (f : Addr) (fd : FuncData) (args : Arguments) (body : List Stmt) (sc : Scope), mg d10.name = some (.ref f) ∧ FunD K d10.name d10.name args body sc [] [] f fd ∧ Binds K fd d10.ps [] ∧
    (∀ np ks, (10, np, ks) ∈ md.kwl → KwB K fd d10.ps np ks) ∧ chkDef md d10 body sc = true := by
  obtain ⟨fd, F⟩ := c.def_ 10 (d := mkD 15 "_law_is_part") rfl
  refine ⟨_, fd, _, _, _, He.glo_ok X G (c.fact 10 (f := .glo "_law_is_part") rfl), F, F.bindsN fun _ _ _ _ _ _ us hl => match us, hl with | [_], _ => rfl, ?_, c10⟩
  exact kw0 (by decide +kernel)
theorem f11 (X : K.In base) (G : base.Ns mainGlobals mg) (c : He.SaysD fa fn K) : ∃ (f : Addr) (fd : FuncData) (args : Arguments) (body : List Stmt) (sc : Scope), mg d11.name = some (.ref f) ∧ FunD K d11.name d11.name args body sc [] [] f fd ∧ Binds K fd d11.ps [] ∧
    (∀ np ks, (11, np, ks) ∈ md.kwl → KwB K fd d11.ps np ks) ∧ chkDef md d11 body sc = true := by
  obtain ⟨fd, F⟩ := c.def_ 11 (d := mkD 16 "_law_due") rfl
  refine ⟨_, fd, _, _, _, He.glo_ok X G (c.fact 11 (f := .glo "_law_due") rfl), F, F.bindsN fun _ _ _ _ _ _ us hl => match us, hl with | [_], _ => rfl, ?_, c11⟩
  exact kw0 (by decide +kernel)
theorem f12 (X : K.In base) (G : base.Ns mainGlobals mg) (c : He.SaysD fa fn K) : ∃ (f : Addr) (fd : FuncData) (args : Arguments) (body : List Stmt) (sc : Scope), mg d12.name = some (.ref f) ∧ FunD K d12.name d12.name args body sc [] [] f fd ∧ Binds K fd d12.ps [] ∧
    (∀ np ks, (12, np, ks) ∈ md.kwl → KwB K fd d12.ps np ks) ∧ chkDef md d12 body sc = true := by
  obtain ⟨fd, F⟩ := c.def_ 12 (d := mkD 17 "_law_odd") rfl
  refine ⟨_, fd, _, _, _, He.glo_ok X G (c.fact 12 (f := .glo "_law_odd") rfl), F, F.bindsN fun _ _ _ _ _ _ us hl => match us, hl with | [_], _ => rfl, ?_, c12⟩
  exact kw0 (by decide +kernel)
theorem f13 (X : K.In base) (G : base.Ns mainGlobals mg) (c : He.SaysD fa fn K) : ∃ (f : Addr) (fd : FuncData) (args : Arguments) (body : List Stmt) (sc : Scope), mg d13.name = some (.ref f) ∧ FunD K d13.name d13.name args body sc [] [] f fd ∧ Binds K fd d13.ps [] ∧
    (∀ np ks, (13, np, ks) ∈ md.kwl → KwB K fd d13.ps np ks) ∧ chkDef md d13 body sc = true := by
  obtain ⟨fd, F⟩ := c.def_ 13 (d := mkD 18 "law") rfl
  refine ⟨_, fd, _, _, _, He.glo_ok X G (c.fact 13 (f := .glo "law") rfl), F, F.bindsN fun _ _ _ _ _ _ us hl => match us, hl with | [_], _ => rfl, ?_, c13⟩
  exact kw0 (by decide +kernel)
theorem ok_md (X : K.In base) (G0 : base.Ns mainGlobals mg) (c : He.SaysD fa fn K) (hs : ∃ o, base.get? sysModules = some o ∧ o.cls = .type "dict") : MdOk md K mg base := by
  refine ⟨hs, fun k p hp => ?_, fun x hx => ?_, fun i df hi => ?_⟩
  · match k, hp with
    | 0, hp => cases hp; obtain ⟨t, e⟩ := He.int_ok X G0 (c.fact 27 (f := .int "MAX_PARTS" 40) rfl); exact ⟨_, .int 40, e, ⟨t, rfl⟩, fun _ => rfl⟩
    | 1, hp => cases hp; obtain ⟨t, e⟩ := He.int_ok X G0 (c.fact 28 (f := .int "MAX_TICKS" 1000000000000000000000000000000) rfl); exact ⟨_, .int 1000000000000000000000000000000, e, ⟨t, rfl⟩, fun _ => rfl⟩
    | k + 2, hp => simp [md, G] at hp
  · have hx : x ∈ nones := hx
    simp only [nones, List.mem_cons, List.mem_nil_iff, or_false] at hx
    rcases hx with rfl | rfl | rfl | rfl | rfl | rfl | rfl | rfl | rfl | rfl | rfl | rfl | rfl
    · exact He.free_ok X G0 (c.fact 14 (f := .free "all") rfl)
    · exact He.free_ok X G0 (c.fact 15 (f := .free "bool") rfl)
    · exact He.free_ok X G0 (c.fact 16 (f := .free "enumerate") rfl)
    · exact He.free_ok X G0 (c.fact 17 (f := .free "int") rfl)
    · exact He.free_ok X G0 (c.fact 18 (f := .free "isinstance") rfl)
    · exact He.free_ok X G0 (c.fact 19 (f := .free "len") rfl)
    · exact He.free_ok X G0 (c.fact 20 (f := .free "list") rfl)
    · exact He.free_ok X G0 (c.fact 21 (f := .free "min") rfl)
    · exact He.free_ok X G0 (c.fact 22 (f := .free "range") rfl)
    · exact He.free_ok X G0 (c.fact 23 (f := .free "repr") rfl)
    · exact He.free_ok X G0 (c.fact 24 (f := .free "str") rfl)
    · exact He.free_ok X G0 (c.fact 25 (f := .free "sum") rfl)
    · exact He.free_ok X G0 (c.fact 26 (f := .free "tuple") rfl)
  · match i, hi with
    | 0, hi => cases hi; exact f0 X G0 c
    | 1, hi => cases hi; exact f1 X G0 c
    | 2, hi => cases hi; exact f2 X G0 c
    | 3, hi => cases hi; exact f3 X G0 c
    | 4, hi => cases hi; exact f4 X G0 c
    | 5, hi => cases hi; exact f5 X G0 c
    | 6, hi => cases hi; exact f6 X G0 c
    | 7, hi => cases hi; exact f7 X G0 c
    | 8, hi => cases hi; exact f8 X G0 c
    | 9, hi => cases hi; exact f9 X G0 c
    | 10, hi => cases hi; exact f10 X G0 c
    | 11, hi => cases hi; exact f11 X G0 c
    | 12, hi => cases hi; exact f12 X G0 c
    | 13, hi => cases hi; exact f13 X G0 c
    | i + 14, hi => simp [md, T] at hi
end
/-- the law, from the evaluator's answer -/
theorem holds_of (F : Nat) (pure_law : ∀ ns : List Int, ns.length ≤ 63 → ∃ S', lvl G T F 20 13 [.d (.list (ns.map .int))] [] = .ok (.d (.bool true)) S') : PySem.Challenge.rw_latewires_k41_what_is_a_loose_row.Holds := by
  w_on; o_law
  refine HandSHeadRun.head_any (r := PySem.W.OpenLaw.row PySem.Challenge.rw_latewires_k41_what_is_a_loose_row) (q := PySem.W.view (PySem.W.OpenLaw.row PySem.Challenge.rw_latewires_k41_what_is_a_loose_row).prog [18]) (H := hk) (ob := ob) (M := 1200) (loose := loose) (d := HandSHeadRun.topDef (PySem.W.OpenLaw.row PySem.Challenge.rw_latewires_k41_what_is_a_loose_row).prog 18) (kwd := []) ob_eq
    (by kernel_rfl) (fun s => by kernel_rfl) run (by kernel_rfl) (by kernel_rfl) (by kernel_rfl) (by rfl) (by first | assumption | decide +kernel) (by decide +kernel) ⟨rfl, rfl, rfl, rfl, rfl, by decide +kernel⟩ ?hw ?hc
  case hw => w_witness2
  case hc =>
    refine end_walk (l := PySem.Challenge.rw_latewires_k41_what_is_a_loose_row) (n := 63) (k := 20) (x := "script") rfl (by decide) (by kernel_rfl) ⟨⟨rfl, by decide, by decide⟩, rfl⟩ ?F
    intro w mg fa h Y G1 hmg0
    obtain ⟨hsys, K, KX, c⟩ := Y
    have hmg : mg ("law" : PySem.Str) = some (.ref fa) := by
      have e : (HandSHeadRun.topDef (PySem.W.OpenLaw.row PySem.Challenge.rw_latewires_k41_what_is_a_loose_row).prog 18).name = ("law" : PySem.Str) := by kernel_rfl
      rw [← e]
      exact hmg0
    obtain ⟨fdL, FL⟩ := c.def_ 13 (d := mkD 18 "law") rfl
    have eL := hmg.symm.trans (He.glo_ok KX G1 (c.fact 13 (f := .glo "law") rfl))
    cases eL
    refine ⟨K, fdL, spF K 1 (lvl G T F 20 13), KX, hsys, fun s u => FunD.bindsA (ps := ["script"]) FL (fun _ _ _ _ _ _ us hl => match us, hl with | [_], _ => rfl) s [u] rfl, fun H a ns hl hS => ?_, fun base hB hG hs => ?_⟩
    · obtain ⟨S', e⟩ := pure_law ns hl
      exact sp_of (Nat.le_trans hl (by decide)) hS e
    · obtain ⟨f', fd', h0, h1, h2, h3, h4, h5⟩ := lvl_ok (P := PySem.Challenge.rw_latewires_k41_what_is_a_loose_row.prog) (w := w) (m := md) F (ok_md hB hG c hs) 20 13 d13 rfl
      have eF := hmg.symm.trans h1
      cases eF
      have eD := fn_same FL h0
      subst eD
      exact h5
end L41

-- part EvT
set_option maxHeartbeats 200000
/-! EvT: the evaluator's runs that come to an end. -/
namespace Ev
open PySem

/-- x ends well at S, and Q stands behind it -/
def Tot {α : Type} (x : M α) (S : Store) (Q : α → Store → Prop) : Prop := match x S with
  | .ok a S' => Q a S'
  | _ => False
section
variable {α β : Type} {S : Store}
theorem Tot.ex {x : M α} {Q : α → Store → Prop} (h : Tot x S Q) : ∃ a S', x S = .ok a S' ∧ Q a S' := by
  unfold Tot at h
  cases e : x S with
  | ok a S' => rw [e] at h; exact ⟨a, S', rfl, h⟩
  | exc _ _ _ => rw [e] at h; exact h.elim
  | bad => rw [e] at h; exact h.elim
theorem Tot.of {x : M α} {Q : α → Store → Prop} {a : α} {S' : Store} (e : x S = .ok a S') (q : Q a S') : Tot x S Q := by
  unfold Tot; rw [e]; exact q
theorem Tot.mono {x : M α} {Q Q' : α → Store → Prop} (h : Tot x S Q) (k : ∀ a S', Q a S' → Q' a S') : Tot x S Q' := by
  obtain ⟨a, S', e, q⟩ := h.ex
  exact .of e (k _ _ q)
theorem tot_pure (a : α) (Q : α → Store → Prop) : Tot (pure a : M α) S Q = Q a S := rfl
theorem tot_bind (x : M α) (f : α → M β) (Q : β → Store → Prop) : Tot (x >>= f) S Q = Tot x S fun a S' => Tot (f a) S' Q := by
  unfold Tot
  rw [bind_at]
  cases x S <;> rfl
theorem tot_guard (b : Bool) (Q : Unit → Store → Prop) : Tot (guard b) S Q = (b = true ∧ Q () S) := by
  unfold Tot
  rw [guard_at]
  cases b <;> simp
theorem tot_bad (Q : α → Store → Prop) : Tot (bad : M α) S Q = False := rfl
theorem tot_some (a : α) (Q : α → Store → Prop) : Tot (lift (some a)) S Q = Q a S := rfl
theorem tot_none (Q : α → Store → Prop) : Tot (lift (none : Option α)) S Q = False := rfl
theorem tot_lift (o : Option α) (Q : α → Store → Prop) : Tot (lift o) S Q = ∃ a, o = some a ∧ Q a S := by
  cases o <;> simp [tot_some, tot_none]
theorem tot_ite (b : Bool) (x y : M α) (Q : α → Store → Prop) : Tot (if b then x else y) S Q = (if b then Tot x S Q else Tot y S Q) := by
  cases b <;> rfl
theorem tot_alloc (cl : Cell) (Q : W → Store → Prop) : Tot (alloc cl) S Q = Q (.ref S.length) (S ++ [cl]) := rfl
theorem tot_upd (n : Nat) (ws : List W) (Q : Unit → Store → Prop) : Tot (upd n ws) S Q = Q () (S.set n (.lst ws)) := rfl
theorem tot_ref {n : Nat} {ws : List W} (h : S[n]? = some (.lst ws)) (Q : List W → Store → Prop) : Tot (seqW (.ref n)) S Q = Q ws S := by
  have e : seqW (.ref n) S = .ok ws S := by
    show (match S[n]? with
      | some (.lst ws) => Out.ok ws S
      | _ => .bad) = _
    rw [h]
  unfold Tot
  rw [e]
end
/-! ### one step -/
section
variable {c : C} {ρ ρ' : Env} {S S' S1 : Store} {t a b e : Ex} {w : W} {k : Bool}
theorem exs_nx {s : St} {ss : List St} (h : ex c s ρ S = .ok (.nx, ρ') S') : exs c (s :: ss) ρ S = exs c ss ρ' S' := by
  show ((ex c s ρ >>= fun r => match r with
    | (.nx, ρ') => exs c ss ρ'
    | r => pure r) S) = _
  rw [bind_at, h]
theorem exs_rt {s : St} {ss : List St} (h : ex c s ρ S = .ok (.rt w, ρ') S') : exs c (s :: ss) ρ S = .ok (.rt w, ρ') S' := by
  show ((ex c s ρ >>= fun r => match r with
    | (.nx, ρ') => exs c ss ρ'
    | r => pure r) S) = _
  rw [bind_at, h]
  rfl
theorem ex_iff {x y : List St} (h : ev c t ρ S = .ok w S1) (h2 : truthW w S1 = .ok k S') : ex c (.iff t x y) ρ S = if k then exs c x ρ S' else exs c y ρ S' := by
  show ((ev c t ρ >>= fun w => truthW w >>= fun k => if k then exs c x ρ else exs c y ρ) S) = _
  rw [bind_at, h]
  dsimp only
  rw [bind_at, h2]
  cases k <;> rfl
/-- a test that fails, nothing behind it -/
theorem exs_no {x : List St} {ss : List St} (h : ev c t ρ S = .ok (.d (.bool false)) S') : exs c (.iff t x [] :: ss) ρ S = exs c ss ρ S' := exs_nx (by rw [ex_iff h rfl]; rfl)
/-- a test that holds, a return behind it -/
theorem exs_yes {x : List St} {ss : List St} (h : ev c t ρ S = .ok (.d (.bool true)) S1) (h2 : exs c x ρ S1 = .ok (.rt w, ρ') S') : exs c (.iff t x [] :: ss) ρ S = .ok (.rt w, ρ') S' := exs_rt (by rw [ex_iff (k := true) h rfl, if_pos rfl, h2])
theorem exs_ret {ss : List St} (h : ev c e ρ S = .ok w S') : exs c (.ret e :: ss) ρ S = .ok (.rt w, ρ) S' := exs_rt (by
  show ((ev c e ρ >>= fun w => pure (Fl.rt w, ρ)) S) = _
  rw [bind_at, h]
  rfl)
theorem exs_set {tg : Tg} {ss : List St} (h : ev c e ρ S = .ok w S') (h2 : assignTg tg w ρ = some ρ') : exs c (.set tg e :: ss) ρ S = exs c ss ρ' S' := exs_nx (by
  show ((ev c e ρ >>= fun w => lift (assignTg tg w ρ) >>= fun ρ' => pure (Fl.nx, ρ')) S) = _
  rw [bind_at, h]
  dsimp only
  rw [h2]
  rfl)
theorem exs_exp {ss : List St} (h : ev c e ρ S = .ok w S') : exs c (.exp e :: ss) ρ S = exs c ss ρ S' := exs_nx (by
  show ((ev c e ρ >>= fun _ => pure (Fl.nx, ρ)) S) = _
  rw [bind_at, h]
  rfl)
theorem ev_and (h : ev c a ρ S = .ok (.d (.bool k)) S1) : ev c (.and a b) ρ S = if k then ev c b ρ S1 else .ok (.d (.bool false)) S1 := by
  show ((ev c a ρ >>= fun x => truthW x >>= fun k => if k then ev c b ρ else pure x) S) = _
  rw [bind_at, h]
  cases k <;> rfl
theorem ev_or (h : ev c a ρ S = .ok (.d (.bool k)) S1) : ev c (.or a b) ρ S = if k then .ok (.d (.bool true)) S1 else ev c b ρ S1 := by
  show ((ev c a ρ >>= fun x => truthW x >>= fun k => if k then pure x else ev c b ρ) S) = _
  rw [bind_at, h]
  cases k <;> rfl
theorem ev_not (h : ev c a ρ S = .ok (.d (.bool k)) S1) : ev c (.not a) ρ S = .ok (.d (.bool (!k))) S1 := by
  show ((ev c a ρ >>= fun x => truthW x >>= fun k => pure (W.d (.bool (!k)))) S) = _
  rw [bind_at, h]
  rfl
theorem ev_one {i : Nat} (h : ev c e ρ S = .ok w S1) : ev c (.call i [e]) ρ S = c.Φ i [w] S1 := by
  show ((evs c [e] ρ >>= fun ws => c.Φ i ws) S) = _
  show (((ev c e ρ >>= fun w => evs c [] ρ >>= fun ws => pure (w :: ws)) >>= fun ws => c.Φ i ws) S) = _
  rw [bind_at, bind_at, h]
  rfl
theorem ev_blt1 {own : Bool} {bt : Blt} (h : ev c e ρ S = .ok w S1) : ev c (.blt own bt [e]) ρ S = bltin own bt [w] S1 := by
  show (((ev c e ρ >>= fun w => evs c [] ρ >>= fun ws => pure (w :: ws)) >>= fun ws => bltin own bt ws) S) = _
  rw [bind_at, bind_at, h]
  rfl
theorem ev_chn0 {op op' : CmpOp} {x y z : Ex} {w1 w2 w3 : W} {k k' : Bool} (h1 : ev c x ρ S = .ok w1 S) (h2 : ev c y ρ S = .ok w2 S) (h3 : cmpop op w1 w2 S = .ok k S) (h4 : ev c z ρ S = .ok w3 S) (h5 : k = true → cmpop op' w2 w3 S = .ok k' S) :
    ev c (.chn op op' x y z) ρ S = .ok (.d (.bool (if k then k' else false))) S := by
  show ((ev c x ρ >>= fun a => ev c y ρ >>= fun b => cmpop op a b >>= fun k => if k then (ev c z ρ >>= fun d => cmpop op' b d >>= fun k' => pure (W.d (.bool k'))) else pure (W.d (.bool false))) S) = _
  rw [bind_at, h1]
  dsimp only
  rw [bind_at, h2]
  dsimp only
  rw [bind_at, h3]
  dsimp only
  cases k with
  | false => rfl
  | true =>
    rw [if_pos rfl, if_pos rfl, bind_at, h4]
    dsimp only
    rw [bind_at, h5 rfl]
    rfl
theorem ev_bin2 {own : Bool} {op : Operator} {x y : Ex} {w1 w2 : W} {S2 : Store} (h1 : ev c x ρ S = .ok w1 S1) (h2 : ev c y ρ S1 = .ok w2 S2) : ev c (.bin own op x y) ρ S = binop own op w1 w2 S2 := by
  show ((ev c x ρ >>= fun a => ev c y ρ >>= fun b => binop own op a b) S) = _
  rw [bind_at, h1]
  dsimp only
  rw [bind_at, h2]
theorem ev_cmp2 {op : CmpOp} {x y : Ex} {w1 w2 : W} {S2 S3 : Store} {k : Bool} (h1 : ev c x ρ S = .ok w1 S1) (h2 : ev c y ρ S1 = .ok w2 S2) (h3 : cmpop op w1 w2 S2 = .ok k S3) : ev c (.cmp op x y) ρ S = .ok (.d (.bool k)) S3 := by
  show ((ev c x ρ >>= fun a => ev c y ρ >>= fun b => cmpop op a b >>= fun k => pure (W.d (.bool k))) S) = _
  rw [bind_at, h1]
  dsimp only
  rw [bind_at, h2]
  dsimp only
  rw [bind_at, h3]
  rfl
theorem ev_sub2 {x y : Ex} {w1 w2 : W} {S2 : Store} (h1 : ev c x ρ S = .ok w1 S1) (h2 : ev c y ρ S1 = .ok w2 S2) : ev c (.sub x y) ρ S = subW w1 w2 S2 := by
  show ((ev c x ρ >>= fun a => ev c y ρ >>= fun b => subW a b) S) = _
  rw [bind_at, h1]
  dsimp only
  rw [bind_at, h2]
theorem add2 {own : Bool} {x y : Ex} {i j : Int} (h1 : ev c x ρ S = .ok (.d (.int i)) S) (h2 : ev c y ρ S = .ok (.d (.int j)) S) : ev c (.bin own .Add x y) ρ S = .ok (.d (.int (i + j))) S := (ev_bin2 h1 h2).trans rfl
theorem sub2 {own : Bool} {x y : Ex} {i j : Int} (h1 : ev c x ρ S = .ok (.d (.int i)) S) (h2 : ev c y ρ S = .ok (.d (.int j)) S) : ev c (.bin own .Sub x y) ρ S = .ok (.d (.int (i - j))) S := (ev_bin2 h1 h2).trans rfl
theorem mul2 {own : Bool} {x y : Ex} {i j : Int} (h1 : ev c x ρ S = .ok (.d (.int i)) S) (h2 : ev c y ρ S = .ok (.d (.int j)) S) (g : mulOk i j = true) : ev c (.bin own .Mult x y) ρ S = .ok (.d (.int (i * j))) S := by
  rw [ev_bin2 h1 h2]
  show ((guard (mulOk i j) >>= fun _ => pure (W.d (.int (i * j)))) S) = _
  rw [g]
  rfl
theorem mod2 {own : Bool} {x y : Ex} {i j : Int} (h1 : ev c x ρ S = .ok (.d (.int i)) S) (h2 : ev c y ρ S = .ok (.d (.int j)) S) (g : j ≠ 0) : ev c (.bin own .Mod x y) ρ S = .ok (.d (.int (i.fmod j))) S := by
  rw [ev_bin2 h1 h2]
  show ((guard (decide (j ≠ 0)) >>= fun _ => pure (W.d (.int (i.fmod j)))) S) = _
  rw [decide_eq_true g]
  rfl
theorem fdv2 {own : Bool} {x y : Ex} {i j : Int} (h1 : ev c x ρ S = .ok (.d (.int i)) S) (h2 : ev c y ρ S = .ok (.d (.int j)) S) (g : divOk j = true) : ev c (.bin own .FloorDiv x y) ρ S = .ok (.d (.int (i.fdiv j))) S := by
  rw [ev_bin2 h1 h2]
  show ((guard (divOk j) >>= fun _ => pure (W.d (.int (i.fdiv j)))) S) = _
  rw [g]
  rfl
theorem int1a {own : Bool} {x : Ex} {i : Int} (h1 : ev c x ρ S = .ok (.d (.int i)) S) : ev c (.blt own .int1 [x]) ρ S = .ok (.d (.int i)) S := (ev_blt1 h1).trans rfl
theorem mulR (a b : Int) (h : (decide (-(2 ^ 64) < b) && decide (b < 2 ^ 64)) = true) : mulOk a b = true := by
  unfold mulOk
  rw [h]
  simp
theorem sub_ref {i : Nat} {ws : List W} {k : Int} (h : S[i]? = some (.lst ws)) (h2 : L2.atI ws k = some w) : subW (.ref i) (.d (.int k)) S = .ok w S := by
  show ((seqW (.ref i) >>= fun ws => lift (L2.atI ws k)) S) = _
  have e : seqW (.ref i) S = .ok ws S := by
    show (match S[i]? with
      | some (.lst ws) => Out.ok ws S
      | _ => .bad) = _
    rw [h]
  rw [bind_at, e]
  dsimp only
  rw [h2]
  rfl
theorem seq_ref {i : Nat} {ws : List W} (h : S[i]? = some (.lst ws)) : seqW (.ref i) S = .ok ws S := by
  show (match S[i]? with
    | some (.lst ws) => Out.ok ws S
    | _ => .bad) = _
  rw [h]
theorem toD_ref {i : Nat} {ds : List PyData} (h : S[i]? = some (.lst (ds.map .d))) : toD (.ref i) S = .ok (.list ds) S := by
  show (match S[i]? with
    | some (.lst ws) => (match allData ws with
      | some xs => Out.ok (PyData.list xs) S
      | none => .bad)
    | _ => .bad) = _
  rw [h]
  dsimp only
  rw [allData_map]
/-- a def that touches the store but makes no thing -/
theorem run1 {G : List (Str × PyData)} {T : List DefM} {F n i : Nat} {df : DefM} {ws : List W} {ρ0 : Env} (hi : T[i]? = some df) (hl : ws.length = df.ps.length) (hρ : startE df.N.length ws = ρ0)
    (h : exs ⟨G, lvl G T F n, kwF T (lvl G T F n), S.length, F⟩ df.body ρ0 S = .ok (.rt w, ρ) S') (ho : w.old S.length = true) (hS : S'.length = S.length) : lvl G T F (n + 1) i ws S = .ok w S' := by
  subst hρ
  have key : lvl G T F (n + 1) i ws S = .ok w (S'.take S.length) := by
    show (match T[i]? with
      | none => Out.bad
      | some df => if ws.length = df.ps.length then fin' S.length (exs ⟨G, lvl G T F n, kwF T (lvl G T F n), S.length, F⟩ df.body (startE df.N.length ws) S) else .bad) = _
    rw [hi]
    dsimp only
    rw [if_pos hl, h]
    show fin S.length w S' = _
    unfold fin
    rw [ho, if_pos rfl]
  rw [key, ← hS, List.take_length]
/-- a def that touches no store -/
theorem run_of {G : List (Str × PyData)} {T : List DefM} {F n i : Nat} {df : DefM} {ws : List W} (hi : T[i]? = some df) (hl : ws.length = df.ps.length)
    (h : exs ⟨G, lvl G T F n, kwF T (lvl G T F n), S.length, F⟩ df.body (startE df.N.length ws) S = .ok (.rt w, ρ) S') (ho : w.old S.length = true) : lvl G T F (n + 1) i ws S = .ok w (S'.take S.length) := by
  show (match T[i]? with
    | none => Out.bad
    | some df => if ws.length = df.ps.length then fin' S.length (exs ⟨G, lvl G T F n, kwF T (lvl G T F n), S.length, F⟩ df.body (startE df.N.length ws) S) else .bad) = _
  rw [hi]
  dsimp only
  rw [if_pos hl, h]
  show fin S.length w S' = _
  unfold fin
  rw [ho, if_pos rfl]
theorem run0 {G : List (Str × PyData)} {T : List DefM} {F n i : Nat} {df : DefM} {ws : List W} {ρ0 : Env} (hi : T[i]? = some df) (hl : ws.length = df.ps.length) (hρ : startE df.N.length ws = ρ0)
    (h : exs ⟨G, lvl G T F n, kwF T (lvl G T F n), S.length, F⟩ df.body ρ0 S = .ok (.rt w, ρ) S) (ho : w.old S.length = true) : lvl G T F (n + 1) i ws S = .ok w S := by
  subst hρ
  rw [run_of hi hl h ho, List.take_length]
theorem for_nx {f : Env → M (Fl × Env)} {tg : Tg} {ws : List W} {ρ2 : Env} (h1 : assignTg tg w ρ = some ρ') (h2 : f ρ' S = .ok (.nx, ρ2) S') : forLoop f tg (w :: ws) ρ S = forLoop f tg ws ρ2 S' := by
  show ((lift (assignTg tg w ρ) >>= fun ρ' => f ρ' >>= fun r => match r with
    | (.nx, ρ2) => forLoop f tg ws ρ2
    | (.ct, ρ2) => forLoop f tg ws ρ2
    | (.bk, ρ2) => pure (.nx, ρ2)
    | (.rt v, ρ2) => pure (.rt v, ρ2)) S) = _
  rw [h1]
  show ((f ρ' >>= fun r => match r with
    | (.nx, ρ2) => forLoop f tg ws ρ2
    | (.ct, ρ2) => forLoop f tg ws ρ2
    | (.bk, ρ2) => pure (.nx, ρ2)
    | (.rt v, ρ2) => pure (.rt v, ρ2)) S) = _
  rw [bind_at, h2]
theorem for_rt {f : Env → M (Fl × Env)} {tg : Tg} {ws : List W} {ρ2 : Env} {v : W} (h1 : assignTg tg w ρ = some ρ') (h2 : f ρ' S = .ok (.rt v, ρ2) S') : forLoop f tg (w :: ws) ρ S = .ok (.rt v, ρ2) S' := by
  show ((lift (assignTg tg w ρ) >>= fun ρ' => f ρ' >>= fun r => match r with
    | (.nx, ρ2) => forLoop f tg ws ρ2
    | (.ct, ρ2) => forLoop f tg ws ρ2
    | (.bk, ρ2) => pure (.nx, ρ2)
    | (.rt v, ρ2) => pure (.rt v, ρ2)) S) = _
  rw [h1]
  show ((f ρ' >>= fun r => match r with
    | (.nx, ρ2) => forLoop f tg ws ρ2
    | (.ct, ρ2) => forLoop f tg ws ρ2
    | (.bk, ρ2) => pure (.nx, ρ2)
    | (.rt v, ρ2) => pure (.rt v, ρ2)) S) = _
  rw [bind_at, h2]
  rfl
/-- a comprehension that touches no store -/
theorem comp_pure {f : Env → M W} {tg : Tg} {g : W → W} {ρ : Env} {S : Store} : ∀ (ws : List W), (∀ w ∈ ws, ∃ ρ', assignTg tg w ρ = some ρ' ∧ f ρ' S = .ok (g w) S) → compLoop (fun ρ' => tsts c [] ρ') f tg ρ ws S = .ok (ws.map g) S
  | [], _ => rfl
  | w :: ws, h => by
    obtain ⟨ρ', e1, e2⟩ := h w List.mem_cons_self
    have ih := comp_pure (f := f) (tg := tg) (g := g) (ρ := ρ) (S := S) ws fun u hu => h u (List.mem_cons_of_mem _ hu)
    show ((lift (assignTg tg w ρ) >>= fun ρ' => tsts c [] ρ' >>= fun b => if b then (do
      let y ← f ρ'
      let ys ← compLoop (fun ρ' => tsts c [] ρ') f tg ρ ws
      pure (y :: ys)) else compLoop (fun ρ' => tsts c [] ρ') f tg ρ ws) S) = _
    rw [e1]
    show ((f ρ' >>= fun y => compLoop (fun ρ' => tsts c [] ρ') f tg ρ ws >>= fun ys => pure (y :: ys)) S) = _
    rw [bind_at, e2]
    dsimp only
    rw [bind_at, ih]
    rfl
end
end Ev

-- part P1
set_option maxHeartbeats 200000
namespace L41
open PySem Ev
variable {F n : Nat} {S : Store}
def isI : PyData → Bool
  | .int _ => true
  | _ => false
theorem s0 (x : PyData) : lvl G T F (n + 1) 0 [.d x] S = .ok (.d (.bool (isI x))) S := by
  have : lvl G T F (n + 1) 0 [.d x] S = .ok (.d (.bool (isI x))) (S.take S.length) := by
    cases x <;> rfl
  rw [this, List.take_length]
def big : Int := 1000000000000000000000000000000
def tick (x : PyData) : Bool := match x with
  | .int i => if decide (0 ≤ i) then decide (i ≤ big) else false
  | _ => false
theorem tick_ev {ρ : Ev.Env} {b : Nat} (x : PyData) (h : ρ[1]? = some (some (.d x))) : ev ⟨G, lvl G T F (n + 1), kwF T (lvl G T F (n + 1)), b, F⟩ (.and (.call 0 [.var 1]) (.chn .LtE .LtE (.con (.int 0)) (.var 1) (.glo 1))) ρ S = .ok (.d (.bool (tick x))) S := by
  have hv : ev ⟨G, lvl G T F (n + 1), kwF T (lvl G T F (n + 1)), b, F⟩ (.var 1) ρ S = .ok (.d x) S := by
    show (match ρ[1]? with
      | some (some w) => (pure w : M W)
      | _ => bad) S = _
    rw [h]
    rfl
  rw [ev_and (k := isI x) (S1 := S) (by rw [ev_one hv]; exact s0 x)]
  cases x with
  | int i =>
    rw [show isI (.int i) = true from rfl, if_pos rfl]
    exact ev_chn0 (k := decide (0 ≤ i)) (k' := decide (i ≤ big)) (w1 := .d (.int 0)) (w2 := .d (.int i)) (w3 := .d (.int big)) rfl hv rfl rfl fun _ => rfl
  | _ => rfl
theorem bools_map (xs : List PyData) : boolsOf (xs.map fun x => W.d (.bool (tick x))) = some (xs.map tick) := by
  induction xs with
  | nil => rfl
  | cons x xs ih => simp [boolsOf, ih]
theorem all_data (xs : List Bool) : allData (xs.map fun b => W.d (.bool b)) = some (xs.map .bool) := by
  rw [← allData_map]; simp [List.map_map, Function.comp_def]
theorem s1 (xs : List PyData) (hz : xs.length ≤ 1000) : lvl G T F (n + 2) 1 [.d (.tuple xs)] S = .ok (.d (.bool (xs.all tick))) S := by
  refine run0 (df := d1) (ρ := [some (.d (.tuple xs)), none]) rfl rfl rfl (exs_ret ?_) rfl
  have h1 : ev ⟨G, lvl G T F (n + 1), kwF T (lvl G T F (n + 1)), S.length, F⟩ (.comp false (.and (.call 0 [.var 1]) (.chn .LtE .LtE (.con (.int 0)) (.var 1) (.glo 1))) (.nm 1) .seq [.var 0] [] [1]) [some (.d (.tuple xs)), none] S = .ok (.d (.list ((xs.map tick).map .bool))) S := by
    show ((guard (decide ((xs.map W.d).length ≤ sizeLine)) >>= fun _ => compLoop (fun ρ' => tsts ⟨G, lvl G T F (n + 1), kwF T (lvl G T F (n + 1)), S.length, F⟩ [] ρ') (fun ρ' => ev ⟨G, lvl G T F (n + 1), kwF T (lvl G T F (n + 1)), S.length, F⟩ (.and (.call 0 [.var 1]) (.chn .LtE .LtE (.con (.int 0)) (.var 1) (.glo 1))) ρ') (.nm 1) [some (.d (.tuple xs)), none] (xs.map W.d) >>= fun zs => mkLst false zs) S) = _
    have g : decide ((xs.map W.d).length ≤ sizeLine) = true := decide_eq_true (by rw [List.length_map]; exact small_len hz)
    rw [g]
    show ((compLoop _ _ _ _ (xs.map W.d) >>= fun zs => mkLst false zs) S) = _
    rw [bind_at, comp_pure (g := fun w => match w with
      | .d x => .d (.bool (tick x))
      | w => w) (xs.map W.d) fun w hw => ?_]
    · show mkLst false _ S = _
      rw [List.map_map]
      have e : (xs.map ((fun w => match w with
        | .d x => W.d (.bool (tick x))
        | w => w) ∘ W.d)) = (xs.map tick).map fun b => W.d (.bool b) := by rw [List.map_map]; rfl
      rw [e]
      unfold mkLst
      rw [if_neg Bool.false_ne_true, all_data]
      rfl
    · obtain ⟨x, _, rfl⟩ := List.mem_map.mp hw
      exact ⟨[some (.d (.tuple xs)), some (.d x)], rfl, tick_ev x rfl⟩
  show ev _ (.blt false .all [_]) [some (.d (.tuple xs)), none] S = _
  rw [ev_blt1 h1]
  show ((lift (boolsOf (((xs.map tick).map PyData.bool).map .d)) >>= fun bs => (pure (.d (.bool (bs.all id))) : M W)) S) = _
  rw [List.map_map, List.map_map]
  have e := bools_map xs
  rw [show ((W.d ∘ PyData.bool) ∘ tick) = fun x => W.d (.bool (tick x)) from rfl, e]
  show Out.ok (W.d (.bool ((xs.map tick).all id))) S = _
  rw [List.all_map]
  rfl
end L41

-- part P2
set_option maxHeartbeats 200000
namespace L41
open PySem Ev
variable {F n : Nat} {S : Store}
theorem eqM_ok {x y : PyData} (h : eqOk x y = true) (hd : y.depth ≤ 64) : eqM x y S = .ok (x.eqv y) S := by
  unfold eqM
  rw [bind_at, guard_at, h, Bool.true_and, decide_eq_true (Nat.le_trans (Nat.min_le_right _ _) hd)]
  rfl
theorem okS (a : PyData) (s : Str) : eqOk a (.str s) = true := by cases a <;> rfl
theorem cmpS (a : PyData) (s : Str) : cmpop .Eq (.d a) (.d (.str s)) S = .ok (a.eqv (.str s)) S := eqM_ok (okS a s) (Nat.zero_le _)
theorem cmpT1 (a : PyData) (r : List PyData) (s : Str) : cmpop .Eq (.d (.tuple (a :: r))) (.d (.tuple [.str s])) S = .ok (a.eqv (.str s) && r.isEmpty) S := by
  have h : eqOk (.tuple (a :: r)) (.tuple [.str s]) = true := by
    show (eqOk a (.str s) && eqOkAll r []) = true
    rw [okS]
    cases r <;> rfl
  have e : PyData.eqv (.tuple (a :: r)) (.tuple [.str s]) = (a.eqv (.str s) && r.isEmpty) := by
    show (a.eqv (.str s) && PyData.eqvAll r []) = _
    cases r <;> rfl
  rw [← e]
  exact eqM_ok h (by show (max 0 0 + 1 : Nat) ≤ 64; decide)
theorem cmpT0 (a : PyData) (r : List PyData) : cmpop .Eq (.d (.tuple (a :: r))) (.d (.tuple [])) S = .ok false S := eqM_ok (x := .tuple (a :: r)) (y := .tuple []) rfl (by show _ ≤ 64; decide)
theorem cmpI (a b : Int) : cmpop .Eq (.d (.int a)) (.d (.int b)) S = .ok (a == b) S := eqM_ok (x := .int a) (y := .int b) rfl (Nat.zero_le _)
theorem cut1 (a : PyData) (r : List PyData) : cut (a :: r) (some 1) none = r := by
  unfold cut
  have e1 : HT.sIx (a :: r).length 0 (some 1) = 1 := by
    simp [HT.sIx]
  have e2 : HT.sIx (a :: r).length (a :: r).length none = r.length + 1 := rfl
  rw [e1, e2]
  simp
def le01 : List PyData → Bool
  | [.int i, .int j] => decide (i ≤ j)
  | _ => false
def lp3 (a : PyData) (r : List PyData) : Bool :=
  if a.eqv (.str "turn") && r.isEmpty then true
  else if a.eqv (.str "delay") then (if ((r.length + 1 : Nat) : Int) == 2 then r.all tick else false)
  else (if [PyData.str "on", .str "off"].any (fun y => y.eqv a) then (if ((r.length + 1 : Nat) : Int) == 3 then (if r.all tick then le01 r else false) else false) else false)
theorem atI_nat {α : Type} (xs : List α) (k : Nat) (x : α) (h : xs[k]? = some x) : L2.atI xs (k : Nat) = some x := by
  have hl : k < xs.length := (List.getElem?_eq_some_iff.mp h).1
  unfold L2.atI L2.ixN
  rw [if_pos (by omega), if_pos (by omega)]
  simpa using h
theorem sub_d (ds : List PyData) (k : Nat) (x : PyData) (h : ds[k]? = some x) : subW (.d (.tuple ds)) (.d (.int (k : Nat))) S = .ok (.d x) S := by
  show lift (L2.atI (ds.map W.d) (k : Nat)) S = _
  rw [atI_nat (ds.map W.d) k (.d x) (by rw [List.getElem?_map, h]; rfl)]
  rfl
theorem inM_ok {x : PyData} {ys : List PyData} (h : ys.all (fun y => eqOk y x) = true) (hd : ys.all (fun y => decide (y.depth ≤ 64)) = true) : inM x ys S = .ok (ys.any fun y => y.eqv x) S := by
  unfold inM
  rw [bind_at, guard_at]
  have e : (ys.all fun y => eqOk y x && decide (min y.depth x.depth ≤ 64)) = true := by
    rw [List.all_eq_true] at h hd ⊢
    intro y hy
    rw [h y hy, Bool.true_and]
    exact decide_eq_true (Nat.le_trans (Nat.min_le_left _ _) (of_decide_eq_true (hd y hy)))
  rw [e]
  rfl
theorem strOk (a : PyData) (s : Str) : eqOk (.str s) a = true := by cases a <;> rfl
theorem cmpIn (a : PyData) (s t : Str) : cmpop .In (.d a) (.d (.tuple [.str s, .str t])) S = .ok ([PyData.str s, .str t].any fun y => y.eqv a) S :=
  by
  have e : inM a [.str s, .str t] S = .ok ([PyData.str s, .str t].any fun y => y.eqv a) S := inM_ok (by simp [strOk]) rfl
  cases a <;> exact e
theorem s2 (a : PyData) (r : List PyData) : lvl G T F (n + 1) 2 [.d (.tuple (a :: r))] S = .ok (.d (.bool ([PyData.str "on", .str "off"].any fun y => y.eqv a))) S := by
  refine run0 (df := d2) (ρ := [some (.d (.tuple (a :: r)))]) rfl rfl rfl (exs_ret ?_) rfl
  exact ev_cmp2 (w2 := .d (.tuple [.str "on", .str "off"])) ((ev_sub2 (w2 := .d (.int (0 : Nat))) rfl rfl).trans (sub_d (a :: r) 0 a rfl)) rfl (cmpIn a _ _)
theorem ev_len {c : C} {ρ : Ev.Env} {e : Ex} {own : Bool} {xs : List PyData} (h : ev c e ρ S = .ok (.d (.tuple xs)) S) : ev c (.blt own .len [e]) ρ S = .ok (.d (.int (xs.length : Nat))) S := by
  rw [ev_blt1 h]
  show Out.ok (W.d (.int ((xs.map W.d).length : Nat))) S = _
  rw [List.length_map]
theorem len_cmp {c : C} {ρ : Ev.Env} {e : Ex} {own : Bool} {xs : List PyData} (h : ev c e ρ S = .ok (.d (.tuple xs)) S) (k : Int) : ev c (.cmp .Eq (.blt own .len [e]) (.con (.int k))) ρ S = .ok (.d (.bool (((xs.length : Nat) : Int) == k))) S :=
  ev_cmp2 (ev_len h) rfl (cmpI _ _)
theorem s3t (a : PyData) (r : List PyData) : lvl G T F (n + 3) 3 [.d (.tuple (a :: r))] S = .ok (.d (.bool (lp3 a r))) S := by
  let v : W := .d (.tuple (a :: r))
  have hv : ∀ {b : Nat}, ev ⟨G, lvl G T F (n + 2), kwF T (lvl G T F (n + 2)), b, F⟩ (.var 0) [some v] S = .ok v S := rfl
  have h0 : ∀ {b : Nat}, ev ⟨G, lvl G T F (n + 2), kwF T (lvl G T F (n + 2)), b, F⟩ (.sub (.var 0) (.con (.int 0))) [some v] S = .ok (.d a) S := (ev_sub2 (w2 := .d (.int (0 : Nat))) rfl rfl).trans (sub_d (a :: r) 0 a rfl)
  have tl : ∀ {b : Nat}, ev ⟨G, lvl G T F (n + 2), kwF T (lvl G T F (n + 2)), b, F⟩ (.slc false (.var 0) (.con (.int 1)) (.nop)) [some v] S = .ok (.d (.tuple r)) S := fun {b} => by
    show Out.ok (W.d (.tuple (cut (a :: r) (some 1) none))) S = _
    rw [cut1]
  have tk : ∀ {b : Nat}, r.length ≤ 1000 → ev ⟨G, lvl G T F (n + 2), kwF T (lvl G T F (n + 2)), b, F⟩ (.call 1 [.slc false (.var 0) (.con (.int 1)) (.nop)]) [some v] S = .ok (.d (.bool (r.all tick))) S := fun {b} hz => by
    rw [ev_one tl]
    exact s1 r hz
  refine run0 (df := d3) (ρ := [some v]) rfl rfl rfl ?_ rfl
  refine (exs_no (S' := S) (by rw [ev_or (k := false) (S1 := S) rfl, if_neg Bool.false_ne_true]; exact ev_cmp2 (w2 := .d (.tuple [])) hv rfl (cmpT0 a r))).trans ?_
  have c1 : ev ⟨G, lvl G T F (n + 2), kwF T (lvl G T F (n + 2)), S.length, F⟩ (.cmp .Eq (.var 0) (.tup [.con (.str "turn")])) [some v] S = .ok (.d (.bool (a.eqv (.str "turn") && r.isEmpty))) S := ev_cmp2 (w2 := .d (.tuple [.str "turn"])) hv rfl (cmpT1 a r "turn")
  unfold lp3
  cases k1 : (a.eqv (.str "turn") && r.isEmpty) with
  | true =>
    rw [k1] at c1
    rw [if_pos rfl]
    exact exs_yes c1 (exs_ret rfl)
  | false =>
    rw [k1] at c1
    rw [if_neg Bool.false_ne_true]
    refine (exs_no c1).trans ?_
    have c2 : ev ⟨G, lvl G T F (n + 2), kwF T (lvl G T F (n + 2)), S.length, F⟩ (.cmp .Eq (.sub (.var 0) (.con (.int 0))) (.con (.str "delay"))) [some v] S = .ok (.d (.bool (a.eqv (.str "delay")))) S := ev_cmp2 h0 rfl (cmpS a "delay")
    have ln : ∀ k : Int, ev ⟨G, lvl G T F (n + 2), kwF T (lvl G T F (n + 2)), S.length, F⟩ (.cmp .Eq (.blt false .len [.var 0]) (.con (.int k))) [some v] S = .ok (.d (.bool (((r.length + 1 : Nat) : Int) == k))) S := fun k => len_cmp (xs := a :: r) hv k
    cases k2 : a.eqv (.str "delay") with
    | true =>
      rw [k2] at c2
      rw [if_pos rfl]
      refine exs_yes c2 (exs_ret ?_)
      rw [ev_and (ln 2)]
      by_cases q : (((r.length + 1 : Nat) : Int) == 2) = true
      · rw [if_pos q, if_pos q]
        exact tk (by have := beq_iff_eq.mp q; omega)
      · rw [if_neg q, if_neg q]
    | false =>
      rw [k2] at c2
      rw [if_neg Bool.false_ne_true]
      refine (exs_no c2).trans (exs_ret ?_)
      rw [ev_and (by rw [ev_one hv]; exact s2 a r)]
      by_cases q0 : ([PyData.str "on", .str "off"].any fun y => y.eqv a) = true
      · rw [if_pos q0, if_pos q0, ev_and (ln 3)]
        by_cases q : (((r.length + 1 : Nat) : Int) == 3) = true
        · rw [if_pos q, if_pos q]
          have hl : r.length = 2 := by have := beq_iff_eq.mp q; omega
          rw [ev_and (tk (by omega))]
          by_cases q2 : r.all tick = true
          · rw [if_pos q2, if_pos q2]
            obtain ⟨x, y, rfl⟩ : ∃ x y, r = [x, y] := by
              match r, hl with
              | [x, y], _ => exact ⟨x, y, rfl⟩
            cases x with
            | int i =>
              cases y with
              | int j => rfl
              | _ => simp [tick] at q2
            | _ => simp [tick] at q2
          · rw [if_neg q2, if_neg q2]
        · rw [if_neg q, if_neg q]
      · rw [if_neg q0, if_neg q0]
end L41

-- part P3
set_option maxHeartbeats 200000
namespace L41
open PySem Ev
variable {F n : Nat} {S : Store}
def wh (x : PyData) (l m : Int) : Bool := match x with
  | .int i => if decide (l ≤ i) then decide (i ≤ m) else false
  | _ => false
theorem s9 (x : PyData) (l m : Int) : lvl G T F (n + 1) 9 [.d x, .d (.int l), .d (.int m)] S = .ok (.d (.bool (wh x l m))) S := by
  refine run0 (df := d9) (ρ := [some (.d x), some (.d (.int l)), some (.d (.int m))]) rfl rfl rfl (exs_ret ?_) rfl
  cases x with
  | int i =>
    show ev _ (.and (.blt false (.isa .int) [.var 0]) (.and (.not (.blt false (.isa .bool) [.var 0])) (.chn .LtE .LtE (.var 1) (.var 0) (.var 2)))) [some (.d (.int i)), some (.d (.int l)), some (.d (.int m))] S = _
    rw [ev_and (k := true) (S1 := S) rfl, if_pos rfl, ev_and (k := true) (S1 := S) rfl, if_pos rfl]
    exact ev_chn0 (k := decide (l ≤ i)) (k' := decide (i ≤ m)) (w1 := .d (.int l)) (w2 := .d (.int i)) (w3 := .d (.int m)) rfl rfl rfl rfl fun _ => rfl
  | _ => rfl
def lp10 (z : Str) (r : List PyData) : Bool :=
  if z == "turn" then ((r.length + 1 : Nat) : Int) == 1
  else if z == "delay" then (match r with
    | [x] => wh x 0 big
    | _ => false)
  else if (!([PyData.str "on", .str "off"].any fun y => y.eqv (.str z))) then false
  else (match r with
    | [x, y] => if wh x 0 big then (match x with
      | .int i => wh y i big
      | _ => false) else false
    | _ => false)
theorem ev_three {c : C} {ρ : Ev.Env} {i : Nat} {e1 e2 e3 : Ex} {w1 w2 w3 : W} (h1 : ev c e1 ρ S = .ok w1 S) (h2 : ev c e2 ρ S = .ok w2 S) (h3 : ev c e3 ρ S = .ok w3 S) : ev c (.call i [e1, e2, e3]) ρ S = c.Φ i [w1, w2, w3] S := by
  show (((ev c e1 ρ >>= fun w => (ev c e2 ρ >>= fun w => (ev c e3 ρ >>= fun w => evs c [] ρ >>= fun ws => pure (w :: ws)) >>= fun ws => pure (w :: ws)) >>= fun ws => pure (w :: ws)) >>= fun ws => c.Φ i ws) S) = _
  rw [bind_at, bind_at, h1]
  dsimp only
  rw [bind_at, bind_at, h2]
  dsimp only
  rw [bind_at, bind_at, h3]
  rfl
theorem sub_n {c : C} {ρ : Ev.Env} {v : W} {ds : List PyData} {x : PyData} (k : Nat) (hv : ev c (.var 0) ρ S = .ok (.d (.tuple ds)) S) (h : ds[k]? = some x) : ev c (.sub (.var 0) (.con (.int (k : Nat)))) ρ S = .ok (.d x) S := (ev_sub2 (w2 := .d (.int (k : Nat))) hv rfl).trans (sub_d ds k x h)
theorem s10s (z : Str) (r : List PyData) : lvl G T F (n + 2) 10 [.d (.tuple (.str z :: r))] S = .ok (.d (.bool (lp10 z r))) S := by
  let v : W := .d (.tuple (.str z :: r))
  have hv : ∀ {b : Nat}, ev ⟨G, lvl G T F (n + 1), kwF T (lvl G T F (n + 1)), b, F⟩ (.var 0) [some v] S = .ok v S := rfl
  have h0 : ∀ {b : Nat}, ev ⟨G, lvl G T F (n + 1), kwF T (lvl G T F (n + 1)), b, F⟩ (.sub (.var 0) (.con (.int 0))) [some v] S = .ok (.d (.str z)) S := sub_n (v := v) 0 hv rfl
  have ln : ∀ k : Int, ev ⟨G, lvl G T F (n + 1), kwF T (lvl G T F (n + 1)), S.length, F⟩ (.cmp .Eq (.blt false .len [.var 0]) (.con (.int k))) [some v] S = .ok (.d (.bool (((r.length + 1 : Nat) : Int) == k))) S := fun k => len_cmp (xs := .str z :: r) hv k
  refine run0 (df := d10) (ρ0 := [some v]) (ρ := [some v]) rfl rfl rfl ?_ rfl
  refine (exs_no (S' := S) (by
    rw [ev_or (k := false) (S1 := S) rfl, if_neg Bool.false_ne_true, ev_or (k := false) (S1 := S) (ev_cmp2 (w2 := .d (.tuple [])) hv rfl (cmpT0 (.str z) r)), if_neg Bool.false_ne_true]
    exact ev_not (k := true) (by rw [ev_blt1 h0]; rfl))).trans ?_
  have ce : ∀ s : Str, ev ⟨G, lvl G T F (n + 1), kwF T (lvl G T F (n + 1)), S.length, F⟩ (.cmp .Eq (.sub (.var 0) (.con (.int 0))) (.con (.str s))) [some v] S = .ok (.d (.bool (z == s))) S := fun s => ev_cmp2 h0 rfl (cmpS (.str z) s)
  have c1 := ce "turn"
  have c2 := ce "delay"
  unfold lp10
  cases k1 : z == "turn" with
  | true =>
    rw [k1] at c1
    rw [if_pos rfl]
    exact exs_yes c1 (exs_ret (ln 1))
  | false =>
    rw [k1] at c1
    rw [if_neg Bool.false_ne_true]
    refine (exs_no c1).trans ?_
    cases k2 : z == "delay" with
    | true =>
      rw [k2] at c2
      rw [if_pos rfl]
      refine exs_yes c2 (exs_ret ?_)
      rw [ev_and (ln 2)]
      rcases r with _ | ⟨x, _ | ⟨y, r⟩⟩
      · rfl
      · exact (ev_three (w1 := .d x) (w2 := .d (.int 0)) (w3 := .d (.int big)) (sub_n (v := .d (.tuple [.str z, x])) (ds := [.str z, x]) 1 hv rfl) rfl rfl).trans (s9 x 0 big)
      · have q : ¬ ((((x :: y :: r).length + 1 : Nat) : Int) == 2) = true := by
          intro q
          have := beq_iff_eq.mp q
          simp only [List.length_cons] at this
          omega
        rw [if_neg q]
    | false =>
      rw [k2] at c2
      rw [if_neg Bool.false_ne_true]
      refine (exs_no c2).trans ?_
      have c3 : ev ⟨G, lvl G T F (n + 1), kwF T (lvl G T F (n + 1)), S.length, F⟩ (.cmp .NotIn (.sub (.var 0) (.con (.int 0))) (.tup [.con (.str "on"), .con (.str "off")])) [some v] S = .ok (.d (.bool (!([PyData.str "on", .str "off"].any fun y => y.eqv (.str z))))) S := by
        refine ev_cmp2 (w2 := .d (.tuple [.str "on", .str "off"])) h0 rfl ?_
        show ((inM (.str z) [.str "on", .str "off"] >>= fun k => pure (!k)) S) = _
        rw [bind_at, inM_ok (by simp [strOk]) rfl]
        rfl
      cases k3 : (!([PyData.str "on", .str "off"].any fun y => y.eqv (.str z))) with
      | true =>
        rw [k3] at c3
        rw [if_pos rfl]
        exact exs_yes (by rw [ev_or c3, if_pos rfl]) (exs_ret rfl)
      | false =>
        rw [k3] at c3
        rw [if_neg Bool.false_ne_true]
        have c4 : ev ⟨G, lvl G T F (n + 1), kwF T (lvl G T F (n + 1)), S.length, F⟩ (.cmp .NotEq (.blt false .len [.var 0]) (.con (.int 3))) [some v] S = .ok (.d (.bool (!(((r.length + 1 : Nat) : Int) == 3)))) S := ev_cmp2 (ev_len (xs := .str z :: r) hv) rfl rfl
        rcases r with _ | ⟨x, _ | ⟨y, _ | ⟨u, r⟩⟩⟩
        · exact exs_yes (by rw [ev_or c3, if_neg Bool.false_ne_true]; exact c4) (exs_ret rfl)
        · exact exs_yes (by rw [ev_or c3, if_neg Bool.false_ne_true]; exact c4) (exs_ret rfl)
        · refine (exs_no (by rw [ev_or c3, if_neg Bool.false_ne_true]; exact c4)).trans (exs_ret ?_)
          have w1 : ev ⟨G, lvl G T F (n + 1), kwF T (lvl G T F (n + 1)), S.length, F⟩ (.call 9 [.sub (.var 0) (.con (.int 1)), .con (.int 0), .bin false .Pow (.con (.int 10)) (.con (.int 30))]) [some v] S = .ok (.d (.bool (wh x 0 big))) S :=
            (ev_three (w1 := .d x) (w2 := .d (.int 0)) (w3 := .d (.int big)) (sub_n (v := v) (ds := [.str z, x, y]) 1 hv rfl) rfl rfl).trans (s9 x 0 big)
          rw [ev_and w1]
          cases q : wh x 0 big with
          | false =>
            rw [if_neg Bool.false_ne_true]
            dsimp only
            rw [q]
            rfl
          | true =>
            rw [if_pos rfl]
            dsimp only
            rw [q, if_pos rfl]
            cases x with
            | int i => exact (ev_three (w1 := .d y) (w2 := .d (.int i)) (w3 := .d (.int big)) (sub_n (v := v) (ds := [.str z, .int i, y]) 2 hv rfl) (sub_n (v := v) (ds := [.str z, .int i, y]) 1 hv rfl) rfl).trans (s9 y i big)
            | _ => cases q
        · have q : (((((x :: y :: u :: r).length + 1 : Nat) : Int)) == 3) = false := by
            rw [beq_eq_false_iff_ne]
            simp only [List.length_cons]
            omega
          rw [q] at c4
          exact exs_yes (by rw [ev_or c3, if_neg Bool.false_ne_true]; exact c4) (exs_ret rfl)
/-- what both say of a part -/
def lp : PyData → Bool
  | .tuple (a :: r) => lp3 a r
  | _ => false
theorem s3 (x : PyData) : lvl G T F (n + 3) 3 [.d x] S = .ok (.d (.bool (lp x))) S := by
  have no : ∀ {x : PyData}, lvl G T F (n + 3) 3 [.d x] S = .ok (.d (.bool false)) (S.take S.length) → lvl G T F (n + 3) 3 [.d x] S = .ok (.d (.bool false)) S := fun h => by rw [h, List.take_length]
  cases x with
  | tuple xs =>
    cases xs with
    | nil => exact no rfl
    | cons a r => exact s3t a r
  | _ => exact no rfl
theorem tick_wh (x : PyData) : tick x = wh x 0 big := by cases x <;> rfl
theorem eq_str (z s : Str) : PyData.eqv (.str z) (.str s) = (z == s) := rfl
theorem lp_same (z : Str) (r : List PyData) : lp3 (.str z) r = lp10 z r := by
  unfold lp3 lp10
  rw [eq_str, eq_str]
  cases k1 : z == "turn" with
  | true =>
    have hz : z = "turn" := beq_iff_eq.mp k1
    subst hz
    cases r with
    | nil => rfl
    | cons x r =>
      have q : ((((x :: r).length + 1 : Nat) : Int) == 1) = false := by
        rw [beq_eq_false_iff_ne]
        simp only [List.length_cons]
        omega
      rw [if_neg (by simp), if_neg (by decide), if_neg (by decide), if_pos rfl, q]
  | false =>
    rw [Bool.false_and, if_neg Bool.false_ne_true, if_neg Bool.false_ne_true]
    cases k2 : z == "delay" with
    | true =>
      rw [if_pos rfl, if_pos rfl]
      match r with
      | [] => rfl
      | [x] =>
        rw [if_pos (show (((([x].length + 1 : Nat) : Int)) == 2) = true from rfl)]
        simp [tick_wh]
      | x :: y :: r =>
        rw [if_neg (by
          intro q
          have := beq_iff_eq.mp q
          simp only [List.length_cons] at this
          omega)]
    | false =>
      rw [if_neg Bool.false_ne_true, if_neg Bool.false_ne_true]
      cases k3 : ([PyData.str "on", .str "off"].any fun y => y.eqv (.str z)) with
      | false => rfl
      | true =>
        rw [if_pos rfl, show (!true) = false from rfl, if_neg Bool.false_ne_true]
        match r with
        | [] => rfl
        | [x] => rfl
        | [x, y] =>
          rw [if_pos (show (((([x, y].length + 1 : Nat) : Int)) == 3) = true from rfl)]
          simp only [List.all_cons, List.all_nil, Bool.and_true, tick_wh]
          cases x with
          | int i =>
            cases y with
            | int j =>
              simp only [wh, le01]
              by_cases a1 : 0 ≤ i <;> by_cases a2 : i ≤ big <;> by_cases a3 : 0 ≤ j <;> by_cases a4 : j ≤ big <;> by_cases a5 : i ≤ j <;> simp [a1, a2, a3, a4, a5] <;> omega
            | _ => simp [wh]
          | _ => simp [wh]
        | x :: y :: u :: r =>
          rw [if_neg (by
            intro q
            have := beq_iff_eq.mp q
            simp only [List.length_cons] at this
            omega)]
theorem lp_nostr (a : PyData) (r : List PyData) (h : ∀ z, a ≠ .str z) : lp3 a r = false := by
  unfold lp3
  cases a <;> first
    | exact absurd rfl (h _)
    | rfl
theorem s10 (x : PyData) : lvl G T F (n + 2) 10 [.d x] S = .ok (.d (.bool (lp x))) S := by
  have no : ∀ {x : PyData}, lvl G T F (n + 2) 10 [.d x] S = .ok (.d (.bool false)) (S.take S.length) → lvl G T F (n + 2) 10 [.d x] S = .ok (.d (.bool false)) S := fun h => by rw [h, List.take_length]
  cases x with
  | tuple xs =>
    cases xs with
    | nil => exact no rfl
    | cons a r =>
      by_cases hs : ∃ z, a = .str z
      · obtain ⟨z, rfl⟩ := hs
        show _ = Out.ok (W.d (.bool (lp3 (.str z) r))) S
        rw [lp_same]
        exact s10s z r
      · have hs : ∀ z, a ≠ .str z := fun z e => hs ⟨z, e⟩
        show _ = Out.ok (W.d (.bool (lp3 a r))) S
        rw [lp_nostr a r hs]
        let v : W := .d (.tuple (a :: r))
        have hv : ∀ {b : Nat}, ev ⟨G, lvl G T F (n + 1), kwF T (lvl G T F (n + 1)), b, F⟩ (.var 0) [some v] S = .ok v S := rfl
        refine run0 (df := d10) (ρ0 := [some v]) (ρ := [some v]) rfl rfl rfl ?_ rfl
        refine exs_yes (S1 := S) ?_ (exs_ret rfl)
        rw [ev_or (k := false) (S1 := S) rfl, if_neg Bool.false_ne_true, ev_or (k := false) (S1 := S) (ev_cmp2 (w2 := .d (.tuple [])) hv rfl (cmpT0 a r)), if_neg Bool.false_ne_true]
        refine ev_not (k := false) ?_
        rw [ev_blt1 (show ev _ (.sub (.var 0) (.con (.int 0))) [some v] S = .ok (.d a) S from sub_n (v := v) (ds := a :: r) 0 hv rfl)]
        cases a <;> first
          | exact absurd rfl (hs _)
          | rfl
  | _ => exact no rfl
end L41

-- part P4
set_option maxHeartbeats 200000
namespace L41
open PySem Ev
variable {F n : Nat} {S : Store}
def errO : Nat → List PyData → Option PyData
  | _, [] => none
  | k, x :: xs => if lp x then errO (k + 1) xs else some (.tuple [.str "part", .int (k : Nat)])
def err (x : PyData) : PyData := match x with
  | .tuple xs => if decide ((40 : Int) < (xs.length : Nat)) then .str "form" else (match errO 0 xs with
    | some y => y
    | none => .none)
  | _ => .str "form"
theorem err_tup (xs : List PyData) : err (.tuple xs) = if decide ((40 : Int) < (xs.length : Nat)) then .str "form" else (match errO 0 xs with
    | some y => y
    | none => .none) := rfl
theorem loop_err {c : C} {m : Nat} (hΦ : ∀ x, c.Φ m [.d x] S = .ok (.d (.bool (lp x))) S) : ∀ (xs : List PyData) (k : Nat) (w0 w1 w2 : Option W), ∃ ρ', forLoop (fun ρ' => exs c [.iff (.not (.call m [.var 2])) [.ret (.tup [.con (.str "part"), .var 1])] []] ρ') (.tp [.nm 1, .nm 2]) (enumW k (xs.map .d)) [w0, w1, w2] S =
    .ok ((match errO k xs with
      | some y => Fl.rt (.d y)
      | none => Fl.nx), ρ') S
  | [], k, w0, w1, w2 => ⟨_, rfl⟩
  | x :: xs, k, w0, w1, w2 => by
    have e1 : exs c [.iff (.not (.call m [.var 2])) [.ret (.tup [.con (.str "part"), .var 1])] []] [w0, some (.d (.int (k : Nat))), some (.d x)] S = (if lp x then .ok (.nx, [w0, some (.d (.int (k : Nat))), some (.d x)]) S else .ok (.rt (.d (.tuple [.str "part", .int (k : Nat)])), [w0, some (.d (.int (k : Nat))), some (.d x)]) S) := by
      have ec : ev c (.call m [.var 2]) [w0, some (.d (.int (k : Nat))), some (.d x)] S = .ok (.d (.bool (lp x))) S := (ev_one rfl).trans (hΦ x)
      cases q : lp x with
      | true =>
        rw [q] at ec
        rw [if_pos rfl]
        exact (exs_no (ev_not ec)).trans rfl
      | false =>
        rw [q] at ec
        rw [if_neg Bool.false_ne_true]
        exact exs_yes (ev_not ec) (exs_ret rfl)
    unfold errO
    cases q : lp x with
    | true =>
      rw [q, if_pos rfl] at e1
      obtain ⟨ρ', e2⟩ := loop_err hΦ xs (k + 1) w0 (some (.d (.int (k : Nat)))) (some (.d x))
      exact ⟨ρ', (for_nx (w := mkTup [.d (.int (k : Nat)), .d x]) rfl e1).trans e2⟩
    | false =>
      rw [q, if_neg Bool.false_ne_true] at e1
      exact ⟨_, for_rt (w := mkTup [.d (.int (k : Nat)), .d x]) rfl e1⟩
theorem err_run {m : Nat} {lim : Ex} {i : Nat} {df : DefM} (hT : T[i]? = some df) (hp : df.ps.length = 1) (hN : df.N.length = 3) (hb : df.body = [.iff (.or (.not (.blt false (.isa .tup) [.var 0])) (.cmp .Gt (.blt false .len [.var 0]) lim)) [.ret (.con (.str "form"))] [], .forr (.tp [.nm 1, .nm 2]) .enum [.var 0] [.iff (.not (.call m [.var 2])) [.ret (.tup [.con (.str "part"), .var 1])] []], .ret (.con .none)])
    (hlim : ∀ {b : Nat} {ρ : Ev.Env}, ev ⟨G, lvl G T F n, kwF T (lvl G T F n), b, F⟩ lim ρ S = .ok (.d (.int 40)) S) (hΦ : ∀ x, lvl G T F n m [.d x] S = .ok (.d (.bool (lp x))) S) (x : PyData) : lvl G T F (n + 1) i [.d x] S = .ok (.d (err x)) S := by
  have done : ∀ {ρ : Ev.Env} {w : W}, exs ⟨G, lvl G T F n, kwF T (lvl G T F n), S.length, F⟩ df.body [some (.d x), none, none] S = .ok (.rt (.d (err x)), ρ) S → lvl G T F (n + 1) i [.d x] S = .ok (.d (err x)) S := fun h =>
    run0 (ρ0 := [some (.d x), none, none]) hT (by rw [hp]; rfl) (by rw [hN]; rfl) h rfl
  have hv : ev ⟨G, lvl G T F n, kwF T (lvl G T F n), S.length, F⟩ (.var 0) [some (.d x), none, none] S = .ok (.d x) S := rfl
  by_cases hx : ∃ xs, x = .tuple xs
  · obtain ⟨xs, rfl⟩ := hx
    have c1 : ev ⟨G, lvl G T F n, kwF T (lvl G T F n), S.length, F⟩ (.or (.not (.blt false (.isa .tup) [.var 0])) (.cmp .Gt (.blt false .len [.var 0]) lim)) [some (.d (.tuple xs)), none, none] S = .ok (.d (.bool (decide ((40 : Int) < (xs.length : Nat))))) S := by
      rw [ev_or (k := false) (S1 := S) rfl, if_neg Bool.false_ne_true]
      exact ev_cmp2 (ev_len hv) hlim rfl
    cases q : decide ((40 : Int) < (xs.length : Nat)) with
    | true =>
      rw [q] at c1
      refine done (w := .d .none) (ρ := [some (.d (.tuple xs)), none, none]) ?_
      rw [hb]
      have e : err (.tuple xs) = .str "form" := by rw [err_tup, q, if_pos rfl]
      rw [e]
      exact exs_yes c1 (exs_ret rfl)
    | false =>
      rw [q] at c1
      obtain ⟨ρ', hl⟩ := loop_err (c := ⟨G, lvl G T F n, kwF T (lvl G T F n), S.length, F⟩) hΦ xs 0 (some (.d (.tuple xs))) none none
      have ef : ex ⟨G, lvl G T F n, kwF T (lvl G T F n), S.length, F⟩ (.forr (.tp [.nm 1, .nm 2]) .enum [.var 0] [.iff (.not (.call m [.var 2])) [.ret (.tup [.con (.str "part"), .var 1])] []]) [some (.d (.tuple xs)), none, none] S = .ok ((match errO 0 xs with
        | some y => Fl.rt (.d y)
        | none => Fl.nx), ρ') S := hl
      have e : err (.tuple xs) = (match errO 0 xs with
        | some y => y
        | none => .none) := by rw [err_tup, q, if_neg Bool.false_ne_true]
      cases qe : errO 0 xs with
      | some y =>
        rw [qe] at ef e
        refine done (w := .d .none) (ρ := ρ') ?_
        rw [hb, e]
        exact (exs_no c1).trans (exs_rt ef)
      | none =>
        rw [qe] at ef e
        refine done (w := .d .none) (ρ := ρ') ?_
        rw [hb, e]
        exact (exs_no c1).trans ((exs_nx ef).trans (exs_ret rfl))
  · have e : err x = .str "form" := by
      cases x <;> first
        | exact absurd ⟨_, rfl⟩ hx
        | rfl
    refine done (w := .d .none) (ρ := [some (.d x), none, none]) ?_
    rw [hb, e]
    refine exs_yes (S1 := S) ?_ (exs_ret rfl)
    rw [ev_or (k := true) (S1 := S) (by cases x <;> first
      | exact absurd ⟨_, rfl⟩ hx
      | rfl), if_pos rfl]
theorem s4 (x : PyData) : lvl G T F (n + 4) 4 [.d x] S = .ok (.d (err x)) S := err_run (m := 3) (lim := .glo 0) (df := d4) rfl rfl rfl rfl rfl s3 x
theorem s11 (x : PyData) : lvl G T F (n + 3) 11 [.d x] S = .ok (.d (err x)) S := err_run (m := 10) (lim := .con (.int 40)) (df := d11) rfl rfl rfl rfl rfl s10 x
end L41

-- part P5
set_option maxHeartbeats 200000
namespace L41
open PySem Ev
variable {F n : Nat} {S : Store}
abbrev dI (x : Int) : W := .d (.int x)
structure Stk (i j : Nat) (S : Store) : Prop where
  ne : i ≠ j
  st : ∃ (d0 : Int) (ds : List Int) (sm t : Int), S[i]? = some (.lst [.ref j, .d (.list ((d0 :: ds).map .int)), dI sm, dI t])
  gr : ∃ gs : List Int, S[j]? = some (.lst (gs.map dI)) ∧ gs.length ≤ 63
structure Same (i j : Nat) (S S' : Store) : Prop where
  len : S'.length = S.length
  at_ : ∀ m, m ≠ i → m ≠ j → S'[m]? = S[m]?
theorem Same.refl (i j : Nat) (S : Store) : Same i j S S := ⟨rfl, fun _ _ _ => rfl⟩
theorem Same.trans {i j : Nat} {S S1 S2 : Store} (a : Same i j S S1) (b : Same i j S1 S2) : Same i j S S2 := ⟨b.len.trans a.len, fun m h1 h2 => (b.at_ m h1 h2).trans (a.at_ m h1 h2)⟩
theorem same_i (i j : Nat) (S : Store) (c : Cell) : Same i j S (S.set i c) := ⟨by simp, fun m h1 _ => by rw [List.getElem?_set_ne (Ne.symm h1)]⟩
theorem same_j (i j : Nat) (S : Store) (c : Cell) : Same i j S (S.set j c) := ⟨by simp, fun m _ h2 => by rw [List.getElem?_set_ne (Ne.symm h2)]⟩
theorem plain_ints (gs : List Int) : PyData.plain (.list (gs.map .int)) = true := by
  show PyData.plainAll (gs.map .int) = true
  induction gs with
  | nil => rfl
  | cons g gs ih => simpa [PyData.plainAll, PyData.plain] using ih
theorem get_set {S : Store} {i : Nat} {c c' : Cell} (h : S[i]? = some c) : (S.set i c')[i]? = some c' := List.getElem?_set_self (List.getElem?_eq_some_iff.mp h).1
theorem map_dI (gs : List Int) : gs.map dI = (gs.map PyData.int).map .d := by rw [List.map_map]; rfl
theorem s6 {i j : Nat} {size : Int} (h : Stk i j S) (h1 : 1 ≤ size) (h2 : size ≤ 1000) : ∃ r S', lvl G T F (n + 1) 6 [.ref i, dI size] S = .ok (dI r) S' ∧ 0 ≤ r ∧ r < size ∧ Stk i j S' ∧ Same i j S S' := by
  obtain ⟨ne, ⟨d0, ds, sm, t, hi⟩, gs, hj, hg⟩ := h
  let c : C := ⟨G, lvl G T F n, kwF T (lvl G T F n), S.length, F⟩
  have hz : size ≠ 0 := by omega
  have dv : divOk size = true := by
    unfold divOk
    rw [Bool.and_eq_true, decide_eq_true_eq, decide_eq_true_eq]
    refine ⟨hz, ?_⟩
    have : size.natAbs ≤ 1000 := by omega
    exact Nat.lt_of_le_of_lt this (by decide +kernel)
  have f0 : ∀ x : Int, 0 ≤ x.fmod size := fun x => Int.fmod_nonneg_of_pos _ (by omega)
  have f1 : ∀ x : Int, x.fmod size < size := fun x => Int.fmod_lt_of_pos _ (by omega)
  have old : ∀ r : Int, (dI r).old S.length = true := fun _ => rfl
  let ρ0 : Ev.Env := [some (.ref i), some (dI size), none, none, none, none]
  have sj : ∀ {ρ : Ev.Env}, ρ[0]? = some (some (.ref i)) → ∀ {S' : Store} {ws : List W} {w : W} {k : Int}, S'[i]? = some (.lst ws) → L2.atI ws k = some w → ev c (.sub (.var 0) (.con (.int k))) ρ S' = .ok w S' := fun {ρ} hr {S' ws w k} hs ha => by
    refine (ev_sub2 (w1 := .ref i) (w2 := dI k) (S1 := S') (S2 := S') ?_ rfl).trans (sub_ref hs ha)
    show (match ρ[0]? with
      | some (some w) => (pure w : M W)
      | _ => bad) S' = _
    rw [hr]
    rfl
  have c1 : ev c (.cmp .NotEq (.sub (.var 0) (.con (.int 0))) (.lst false [])) ρ0 S = .ok (.d (.bool (!gs.isEmpty))) S := by
    refine ev_cmp2 (w1 := .ref j) (w2 := .d (.list [])) (sj rfl hi rfl) rfl ?_
    show ((toD (.ref j) >>= fun a => toD (.d (.list [])) >>= fun b => guard (a.plain && b.plain && decide (min a.depth b.depth ≤ 64)) >>= fun _ => pure (!a.eqv b)) S) = _
    rw [map_dI] at hj
    rw [bind_at, toD_ref hj]
    show ((guard ((PyData.list (gs.map .int)).plain && true && decide (min (PyData.list (gs.map PyData.int)).depth (PyData.list []).depth ≤ 64)) >>= fun _ => pure (!(PyData.list (gs.map PyData.int)).eqv (.list []))) S) = _
    rw [plain_ints, decide_eq_true (Nat.le_trans (Nat.min_le_right _ _) (by show (0 + 1 : Nat) ≤ 64; decide))]
    cases gs <;> rfl
  rcases List.eq_nil_or_concat gs with rfl | ⟨gs', g, rfl⟩
  · -- no great one is left
    let S1 : Store := S.set i (.lst [.ref j, .d (.list ((d0 :: ds).map .int)), dI sm, dI (t + 1)])
    have hi1 : S1[i]? = some (.lst [.ref j, .d (.list ((d0 :: ds).map .int)), dI sm, dI (t + 1)]) := get_set hi
    have hj1 : S1[j]? = some (.lst (([] : List Int).map dI)) := by rw [List.getElem?_set_ne ne]; exact hj
    let N : Int := ((d0 :: ds).length : Nat)
    have hN : 0 < N := by show (0 : Int) < (((d0 :: ds).length : Nat) : Int); rw [List.length_cons]; omega
    obtain ⟨x, hx⟩ : ∃ x, L2.atI (((d0 :: ds).map PyData.int).map W.d) ((t + 1).fmod N) = some (dI x) := by
      have a0 := Int.fmod_nonneg_of_pos (t + 1) hN
      have a1 := Int.fmod_lt_of_pos (t + 1) hN
      have hlt : ((t + 1).fmod N).toNat < (d0 :: ds).length := by
        have : (t + 1).fmod N < ((d0 :: ds).length : Nat) := a1
        omega
      refine ⟨(d0 :: ds)[((t + 1).fmod N).toNat], ?_⟩
      unfold L2.atI L2.ixN
      rw [if_pos a0, if_pos (by rw [List.length_map, List.length_map]; exact a1)]
      show (((d0 :: ds).map PyData.int).map W.d)[((t + 1).fmod N).toNat]? = _
      rw [List.getElem?_map, List.getElem?_map, List.getElem?_eq_getElem hlt]
      rfl
    let turn := t + 1
    let cell := x.fmod 1000000007
    let b1 := (cell * 48271 + (sm.fmod 998244353) * 69621 + turn * 2654435761).fmod 4294967291
    let b2 := (b1 * b1 + turn * 362437 + cell).fmod 4294967279
    let out := (((b2 * 40692 + turn * 65537).fmod 4294967231).fdiv 4096).fmod size
    let ρ1 : Ev.Env := [some (.ref i), some (dI size), some (dI turn), none, none, none]
    let ρ2 : Ev.Env := [some (.ref i), some (dI size), some (dI turn), some (dI cell), none, none]
    let ρ3 : Ev.Env := [some (.ref i), some (dI size), some (dI turn), some (dI cell), some (dI b1), none]
    let ρ4 : Ev.Env := [some (.ref i), some (dI size), some (dI turn), some (dI cell), some (dI b2), none]
    have e1 : ex c (.setS (.var 0) (.con (.int 3)) (.bin false .Add (.sub (.var 0) (.con (.int 3))) (.con (.int 1)))) ρ0 S = .ok (.nx, ρ0) S1 := by
      show ((ev c (.bin false .Add (.sub (.var 0) (.con (.int 3))) (.con (.int 1))) ρ0 >>= fun w => ev c (.var 0) ρ0 >>= fun x => ev c (.con (.int 3)) ρ0 >>= fun y => setItem S.length x y w >>= fun _ => pure (Fl.nx, ρ0)) S) = _
      rw [bind_at, add2 (i := t) (j := 1) (sj rfl hi rfl) rfl]
      show ((setItem S.length (.ref i) (dI 3) (dI (t + 1)) >>= fun _ => pure (Fl.nx, ρ0)) S) = _
      have : setItem S.length (.ref i) (dI 3) (dI (t + 1)) S = .ok () S1 := by
        show ((seqW (.ref i) >>= fun ws => lift (L2.ixN ws.length 3) >>= fun k => guard (decide (S.length ≤ i) || (dI (t + 1)).old i) >>= fun _ => upd i (ws.set k (dI (t + 1)))) S) = _
        rw [bind_at, seq_ref hi]
        show ((Ev.guard (decide (S.length ≤ i) || true) >>= fun _ => upd i _) S) = _
        rw [Bool.or_true]
        rfl
      rw [bind_at, this]
      rfl
    have e2 : ev c (.sub (.var 0) (.con (.int 3))) ρ0 S1 = .ok (dI turn) S1 := sj rfl hi1 rfl
    have e3 : ev c (.bin false .Mod (.blt false .int1 [.sub (.sub (.var 0) (.con (.int 1))) (.bin false .Mod (.blt false .int1 [.var 2]) (.blt false .len [.sub (.var 0) (.con (.int 1))]))]) (.con (.int 1000000007))) ρ1 S1 = .ok (dI cell) S1 := by
      have a1 : ev c (.sub (.var 0) (.con (.int 1))) ρ1 S1 = .ok (.d (.list ((d0 :: ds).map .int))) S1 := sj rfl hi1 rfl
      have a2 : ev c (.blt false .len [.sub (.var 0) (.con (.int 1))]) ρ1 S1 = .ok (dI N) S1 := by
        rw [ev_blt1 a1]
        show Out.ok (dI (((((d0 :: ds).map PyData.int).map W.d).length : Nat) : Int)) S1 = _
        rw [List.length_map, List.length_map]
      have a3 : ev c (.bin false .Mod (.blt false .int1 [.var 2]) (.blt false .len [.sub (.var 0) (.con (.int 1))])) ρ1 S1 = .ok (dI (turn.fmod N)) S1 := mod2 (int1a rfl) a2 (by omega)
      refine mod2 (int1a ((ev_sub2 a1 a3).trans ?_)) rfl (by decide)
      show (lift (L2.atI (((d0 :: ds).map PyData.int).map W.d) (turn.fmod N)) : M W) S1 = _
      rw [hx]
      rfl
    have e4 : ev c (.bin false .Mod (.blt false .int1 [.bin false .Add (.bin false .Add (.bin false .Mult (.var 3) (.con (.int 48271))) (.bin false .Mult (.bin false .Mod (.blt false .int1 [.sub (.var 0) (.con (.int 2))]) (.con (.int 998244353))) (.con (.int 69621)))) (.bin false .Mult (.var 2) (.con (.int 2654435761)))]) (.con (.int 4294967291))) ρ2 S1 = .ok (dI b1) S1 :=
      mod2 (int1a (add2 (add2 (mul2 (i := cell) rfl rfl (mulR _ _ (by decide))) (mul2 (mod2 (int1a (i := sm) (sj rfl hi1 rfl)) rfl (by decide)) rfl (mulR _ _ (by decide)))) (mul2 (i := turn) rfl rfl (mulR _ _ (by decide))))) rfl (by decide)
    have b10 : 0 ≤ b1 := Int.fmod_nonneg_of_pos _ (by decide)
    have b11 : b1 < 4294967291 := Int.fmod_lt_of_pos _ (by decide)
    have mb : mulOk b1 b1 = true := mulR _ _ (by rw [Bool.and_eq_true, decide_eq_true_eq, decide_eq_true_eq]; omega)
    have e5 : ev c (.bin false .Mod (.blt false .int1 [.bin false .Add (.bin false .Add (.bin false .Mult (.var 4) (.var 4)) (.bin false .Mult (.var 2) (.con (.int 362437)))) (.var 3)]) (.con (.int 4294967279))) ρ3 S1 = .ok (dI b2) S1 :=
      mod2 (int1a (add2 (add2 (mul2 (i := b1) (j := b1) rfl rfl mb) (mul2 (i := turn) rfl rfl (mulR _ _ (by decide)))) (j := cell) rfl)) rfl (by decide)
    have e6 : ev c (.bin false .Mod (.bin false .FloorDiv (.bin false .Mod (.blt false .int1 [.bin false .Add (.bin false .Mult (.var 4) (.con (.int 40692))) (.bin false .Mult (.var 2) (.con (.int 65537)))]) (.con (.int 4294967231))) (.con (.int 4096))) (.var 1)) ρ4 S1 = .ok (dI out) S1 :=
      mod2 (fdv2 (mod2 (int1a (add2 (mul2 (i := b2) rfl rfl (mulR _ _ (by decide))) (mul2 (i := turn) rfl rfl (mulR _ _ (by decide))))) rfl (by decide)) rfl (by decide +kernel)) (j := size) rfl hz
    refine ⟨out, S1, run1 (df := d6) (ρ0 := ρ0) (ρ := ρ4) rfl rfl rfl ?_ rfl (by simp [S1]), f0 _, f1 _, ⟨ne, ⟨d0, ds, sm, t + 1, hi1⟩, [], hj1, hg⟩, same_i i j S _⟩
    exact (exs_no c1).trans ((exs_nx e1).trans ((exs_set e2 (ρ' := ρ1) rfl).trans ((exs_set e3 (ρ' := ρ2) rfl).trans ((exs_set e4 (ρ' := ρ3) rfl).trans ((exs_set e5 (ρ' := ρ4) rfl).trans (exs_ret e6))))))
  · -- a great one
    rw [List.concat_eq_append] at hj hg c1
    have hj2 : S[j]? = some (.lst (gs'.map dI ++ [dI g])) := by rw [hj, List.map_append]; rfl
    let S1 : Store := S.set j (.lst (gs'.map dI))
    have hj1 : S1[j]? = some (.lst (gs'.map dI)) := get_set hj
    have hi1 : S1[i]? = some (.lst [.ref j, .d (.list ((d0 :: ds).map .int)), dI sm, dI t]) := by rw [List.getElem?_set_ne (Ne.symm ne)]; exact hi
    have hg' : gs'.length ≤ 62 := by simp at hg; omega
    let ρ1 : Ev.Env := [some (.ref i), some (dI size), none, none, none, some (dI g)]
    have c1' : ev c (.cmp .NotEq (.sub (.var 0) (.con (.int 0))) (.lst false [])) ρ0 S = .ok (.d (.bool true)) S := by
      rw [c1]
      simp
    have e1 : ev c (.met .pop (.sub (.var 0) (.con (.int 0))) []) ρ0 S = .ok (dI g) S1 := by
      show ((ev c (.sub (.var 0) (.con (.int 0))) ρ0 >>= fun w => recv .pop w >>= fun _ => (pure [] : M (List W)) >>= fun ws => method S.length .pop w ws) S) = _
      rw [bind_at, sj rfl hi rfl]
      have r : recv .pop (.ref j) S = .ok () S := by
        show ((seqW (.ref j) >>= fun _ => (pure () : M Unit)) S) = _
        rw [bind_at, seq_ref hj2]
        rfl
      dsimp only
      rw [bind_at, r]
      show ((seqW (.ref j) >>= fun ws => lift ws[ws.length - 1]? >>= fun y => upd j ws.dropLast >>= fun _ => pure y) S) = _
      rw [bind_at, seq_ref hj2]
      have e : (gs'.map dI ++ [dI g])[(gs'.map dI ++ [dI g]).length - 1]? = some (dI g) := by simp
      have e' : (gs'.map dI ++ [dI g]).dropLast = gs'.map dI := by simp
      dsimp only
      rw [e, e']
      rfl
    have e2 : ev c (.cmp .GtE (.var 5) (.var 1)) ρ1 S1 = .ok (.d (.bool (decide (size ≤ g)))) S1 := ev_cmp2 (w1 := dI g) (w2 := dI size) rfl rfl rfl
    have fin : ∀ {S2 : Store}, S2.length = S.length → exs c [.iff (.cmp .GtE (.var 5) (.var 1)) [.exp (.met .append (.sub (.var 0) (.con (.int 0))) [.bin false .FloorDiv (.var 5) (.var 1)])] [], .ret (.bin false .Mod (.blt false .int1 [.var 5]) (.var 1))] ρ1 S1 = .ok (.rt (dI (g.fmod size)), ρ1) S2 →
        lvl G T F (n + 1) 6 [.ref i, dI size] S = .ok (dI (g.fmod size)) S2 := fun {S2} hl h => by
      refine run1 (df := d6) (ρ0 := ρ0) (ρ := ρ1) rfl rfl rfl ?_ rfl hl
      exact exs_yes c1' ((exs_set e1 (ρ' := ρ1) rfl).trans h)
    have rt : ∀ {S2 : Store}, exs c [.ret (.bin false .Mod (.blt false .int1 [.var 5]) (.var 1))] ρ1 S2 = .ok (.rt (dI (g.fmod size)), ρ1) S2 := exs_ret (mod2 (i := g) (j := size) (int1a rfl) rfl hz)
    by_cases q : size ≤ g
    · rw [decide_eq_true q] at e2
      let S2 : Store := S1.set j (.lst (gs'.map dI ++ [dI (g.fdiv size)]))
      have e3 : ev c (.met .append (.sub (.var 0) (.con (.int 0))) [.bin false .FloorDiv (.var 5) (.var 1)]) ρ1 S1 = .ok (.d .none) S2 := by
        show ((ev c (.sub (.var 0) (.con (.int 0))) ρ1 >>= fun w => recv .append w >>= fun _ => evs c [.bin false .FloorDiv (.var 5) (.var 1)] ρ1 >>= fun ws => method S.length .append w ws) S1) = _
        rw [bind_at, sj rfl hi1 rfl]
        have r : recv .append (.ref j) S1 = .ok () S1 := by
          show ((seqW (.ref j) >>= fun _ => (pure () : M Unit)) S1) = _
          rw [bind_at, seq_ref hj1]
          rfl
        dsimp only
        rw [bind_at, r]
        have a : evs c [.bin false .FloorDiv (.var 5) (.var 1)] ρ1 S1 = .ok [dI (g.fdiv size)] S1 := by
          show ((ev c (.bin false .FloorDiv (.var 5) (.var 1)) ρ1 >>= fun w => (pure [] : M (List W)) >>= fun ws => pure (w :: ws)) S1) = _
          rw [bind_at, fdv2 (i := g) (j := size) rfl rfl dv]
          rfl
        dsimp only
        rw [bind_at, a]
        show ((seqW (.ref j) >>= fun ws => Ev.guard (decide (ws.length < sizeLine) && (decide (S.length ≤ j) || (dI (g.fdiv size)).old j)) >>= fun _ => upd j (ws ++ [dI (g.fdiv size)]) >>= fun _ => pure (W.d .none)) S1) = _
        rw [bind_at, seq_ref hj1]
        have gd : (decide ((gs'.map dI).length < sizeLine) && (decide (S.length ≤ j) || (dI (g.fdiv size)).old j)) = true := by
          rw [show (dI (g.fdiv size)).old j = true from rfl, Bool.or_true, Bool.and_true, List.length_map]
          exact decide_eq_true (Nat.lt_of_le_of_lt hg' (by decide))
        dsimp only
        rw [bind_at, guard_at, gd]
        rfl
      refine ⟨g.fmod size, S2, fin (by simp [S2, S1]) ?_, f0 _, f1 _, ⟨ne, ⟨d0, ds, sm, t, ?_⟩, gs' ++ [g.fdiv size], ?_, by simp; omega⟩, (same_j i j S _).trans (same_j i j S1 _)⟩
      · exact (exs_nx (S' := S2) (ρ' := ρ1) (by rw [ex_iff (k := true) e2 rfl, if_pos rfl]; exact (exs_exp e3).trans rfl)).trans rt
      · rw [List.getElem?_set_ne (Ne.symm ne)]; exact hi1
      · rw [List.map_append]; exact get_set hj1
    · rw [decide_eq_false q] at e2
      refine ⟨g.fmod size, S1, fin (by simp [S1]) ?_, f0 _, f1 _, ⟨ne, ⟨d0, ds, sm, t, hi1⟩, gs', hj1, by omega⟩, same_j i j S _⟩
      exact (exs_no e2).trans rt
end L41

-- part P6
set_option maxHeartbeats 200000
namespace L41
open PySem Ev
def Sz (m d : Nat) (x : PyData) : Prop := x.showable = true ∧ x.depth ≤ d ∧ x.shown.length ≤ m
theorem Sz.mono {m d m' d' : Nat} {x : PyData} (h : Sz m d x) (h1 : m ≤ m') (h2 : d ≤ d') : Sz m' d' x := ⟨h.1, Nat.le_trans h.2.1 h2, Nat.le_trans h.2.2 h1⟩
theorem sz_int {i : Int} (h : i.natAbs < 2 ^ 1900) : Sz 1921 0 (.int i) := by
  have hl : i.natAbs.log2 < 1920 := Nat.lt_of_lt_of_le (PySem.Flt.log2_lt_of (by decide) h) (by decide)
  exact ⟨decide_eq_true hl, Nat.le_refl _, PyProof.Rows.int_text_len_1921 hl⟩
theorem showAll {xs : List PyData} (h : ∀ x ∈ xs, x.showable = true) : PyData.showableAll xs = true := by
  induction xs with
  | nil => rfl
  | cons x xs ih =>
    show (x.showable && PyData.showableAll xs) = true
    rw [h x List.mem_cons_self, ih fun y hy => h y (List.mem_cons_of_mem _ hy)]
    rfl
theorem depthAll_le {xs : List PyData} {d : Nat} (h : ∀ x ∈ xs, x.depth ≤ d) : PyData.depthAll xs ≤ d := by
  induction xs with
  | nil => exact Nat.zero_le _
  | cons x xs ih => exact Nat.max_le.mpr ⟨h x List.mem_cons_self, ih fun y hy => h y (List.mem_cons_of_mem _ hy)⟩
theorem piled_le : ∀ {ts : List Str} {m : Nat}, (∀ t ∈ ts, t.length ≤ m) → piled ts ≤ ts.length * (m + 2)
  | [], m, _ => by simp [piled]
  | t :: ts, m, h => by
    have ih := piled_le (ts := ts) fun u hu => h u (List.mem_cons_of_mem _ hu)
    have := h t List.mem_cons_self
    rw [piled_cons, List.length_cons, Nat.succ_mul]
    omega
theorem join_le {ts : List Str} {m : Nat} (h : ∀ t ∈ ts, t.length ≤ m) : (Str.join ", " ts).length ≤ ts.length * (m + 2) := by
  by_cases e : ts = []
  · subst e; exact Nat.zero_le _
  · have := join_length_add ts e
    have := piled_le h
    omega
theorem shownAll_mem {xs : List PyData} {m : Nat} (h : ∀ x ∈ xs, x.shown.length ≤ m) : (∀ t ∈ PyData.shownAll xs, t.length ≤ m) ∧ (PyData.shownAll xs).length = xs.length := by
  induction xs with
  | nil => exact ⟨fun _ h => (nomatch h), rfl⟩
  | cons x xs ih =>
    obtain ⟨i1, i2⟩ := ih fun y hy => h y (List.mem_cons_of_mem _ hy)
    refine ⟨fun t ht => ?_, by show (PyData.shownAll xs).length + 1 = xs.length + 1; rw [i2]⟩
    rcases List.mem_cons.mp (show t ∈ x.shown :: PyData.shownAll xs from ht) with z | z
    · rw [z]; exact h x List.mem_cons_self
    · exact i1 t z
theorem sz_tuple {xs : List PyData} {m d c : Nat} (h : ∀ x ∈ xs, Sz m d x) (hc : xs.length ≤ c) : Sz (c * (m + 2) + 5) (d + 1) (.tuple xs) := by
  obtain ⟨h1, h2⟩ := shownAll_mem fun x hx => (h x hx).2.2
  refine ⟨showAll fun x hx => (h x hx).1, Nat.succ_le_succ (depthAll_le fun x hx => (h x hx).2.1), ?_⟩
  show (tupleText (PyData.shownAll xs)).length ≤ _
  unfold tupleText
  rw [strLen_append, strLen_append]
  have j := join_le h1
  rw [h2] at j
  have : xs.length * (m + 2) ≤ c * (m + 2) := Nat.mul_le_mul_right _ hc
  have e1 : (("(" : String) : Str).length = 1 := rfl
  have e2 : ((if (PyData.shownAll xs).length == 1 then ",)" else ")" : String) : Str).length ≤ 2 := by split <;> decide
  omega
end L41

-- part P7
set_option maxHeartbeats 200000
namespace L41
open PySem Ev
variable {F n : Nat} {S : Store}
theorem textFrom_le : ∀ (ts : List Str) (k : Nat) (acc : Str), (textFrom k acc ts).length ≤ acc.length + piled ts
  | [], k, acc => by show acc.length ≤ acc.length + 0; omega
  | t :: r, k, acc => by
    have ih := textFrom_le r (k + 1) (acc ++ (if k > 0 then ", " else "" : String) ++ t)
    have e : (acc ++ (if k > 0 then ", " else "" : String) ++ t).length ≤ acc.length + 2 + t.length := by
      rw [strLen_append, strLen_append]
      split
      · have : ((", " : String) : Str).length = 2 := rfl
        omega
      · have : (("" : String) : Str).length = 0 := rfl
        omega
    rw [piled_cons]
    show (textFrom (k + 1) _ r).length ≤ _
    omega
theorem sz_list {xs : List PyData} {m d c : Nat} (h : ∀ x ∈ xs, Sz m d x) (hc : xs.length ≤ c) : Sz (c * (m + 2) + 5) (d + 1) (.list xs) := by
  obtain ⟨h1, h2⟩ := shownAll_mem fun x hx => (h x hx).2.2
  refine ⟨showAll fun x hx => (h x hx).1, Nat.succ_le_succ (depthAll_le fun x hx => (h x hx).2.1), ?_⟩
  show (listText (PyData.shownAll xs)).length ≤ _
  unfold listText
  rw [strLen_append]
  have j := textFrom_le (PyData.shownAll xs) 0 "["
  have j2 := piled_le h1
  rw [h2] at j2
  have : xs.length * (m + 2) ≤ c * (m + 2) := Nat.mul_le_mul_right _ hc
  have e1 : (("[" : String) : Str).length = 1 := rfl
  have e2 : (("]" : String) : Str).length = 1 := rfl
  omega
theorem s7 {i j : Nat} {xs : List PyData} (h : Stk i j S) (h1 : xs ≠ []) (h2 : xs.length ≤ 1000) : ∃ x S', lvl G T F (n + 2) 7 [.ref i, .d (.list xs)] S = .ok (.d x) S' ∧ x ∈ xs ∧ Stk i j S' ∧ Same i j S S' := by
  have hp : 0 < xs.length := List.length_pos_iff.mpr h1
  obtain ⟨r, S', e, r0, r1, st, sm⟩ := s6 (F := F) (n := n) (size := (xs.length : Nat)) h (by omega) (by omega)
  have hlt : r.toNat < xs.length := by omega
  refine ⟨xs[r.toNat], S', run1 (df := d7) (ρ0 := [some (.ref i), some (.d (.list xs))]) (ρ := [some (.ref i), some (.d (.list xs))]) rfl rfl rfl (exs_ret ?_) rfl sm.len, List.getElem_mem _, st, sm⟩
  let c : C := ⟨G, lvl G T F (n + 1), kwF T (lvl G T F (n + 1)), S.length, F⟩
  let ρ : Ev.Env := [some (.ref i), some (.d (.list xs))]
  have a1 : ev c (.call 6 [.var 0, .blt false .len [.var 1]]) ρ S = .ok (dI r) S' := by
    have : ev c (.call 6 [.var 0, .blt false .len [.var 1]]) ρ S = lvl G T F (n + 1) 6 [.ref i, dI (((xs.map W.d).length : Nat) : Int)] S := rfl
    rw [this, List.length_map]
    exact e
  refine (ev_sub2 (w1 := .d (.list xs)) (S1 := S) rfl a1).trans ?_
  show (lift (L2.atI (xs.map W.d) r) : M W) S' = _
  have : L2.atI (xs.map W.d) r = some (.d xs[r.toNat]) := by
    unfold L2.atI L2.ixN
    rw [if_pos r0, if_pos (by rw [List.length_map]; exact r1)]
    show (xs.map W.d)[r.toNat]? = _
    rw [List.getElem?_map, List.getElem?_eq_getElem hlt]
    rfl
  rw [this]
  rfl
end L41

-- part P8
set_option maxHeartbeats 2000000
namespace L41
open PySem Ev
variable {F n : Nat} {S : Store}
def odds (w : Str) (low : Int) : List PyData := [.tuple [.str w, .int ((low + 1)), .int (low)], .tuple [.str w, .int (low)], .tuple [.str w], .tuple [.str w, .int (low), .int (big)], .tuple [.str w, .int (low), .int ((big + 1))], .tuple [.str w, .int (big), .int (big)], .tuple [.str w, .int (-1), .int (low)], .tuple [.str w, .bool true, .int 2], .tuple [.str w, .int 0, .bool true], .tuple [.str w, .bool false, .int (low)], .tuple [.str w, .none, .int (low)], .list [.str w, .int (low), .int (low)], .tuple [.str w, .int (low), .int (low), .int (low)], .tuple [.str w, .tuple [.int (low), .int (low)]], .tuple [.str "delay", .int (low), .int (low)], .tuple [.str "delay"], .tuple [.str "delay", .int (-1)], .tuple [.str "delay", .int (big)], .tuple [.str "delay", .int ((big + 1))], .tuple [.str "delay", .bool true], .tuple [.str "turn", .int 0], .tuple [.str "turn"], .str "turn", .list [.str "turn"], .tuple [.str "On", .int 1, .int 2], .tuple [.none, .int 1, .int 2], .tuple [.tuple [.str "on"], .int 1, .int 2], .tuple [], .none, .int 7, .dict [], .tuple [.str w, .int (low), .int ((low + 1))], .tuple [.str "late", .int 1, .int 2], .tuple [.int 1, .str w, .int 2], .tuple [.str w, .int ((big * big)), .int (((big * big) * big))], .tuple [.str w, .int (low), .int (((big * big) * big))], .tuple [.list [.str w], .int (low), .int (low)], .tuple [.dict [], .int 1, .int 2], .tuple [.list []], .tuple [.str w, .int (low), .none], .tuple [.str w, .int (low), .str "2"], .tuple [.str "delay", .none], .tuple [.str "delay", .tuple [.int 1]]]
def szB (x : PyData) : Bool := x.showable && decide (x.depth ≤ 4) && decide (x.shown.length ≤ 9000)
theorem szB_ok {x : PyData} (h : szB x = true) : Sz 9000 4 x := by
  unfold szB at h
  simp only [Bool.and_eq_true, decide_eq_true_eq] at h
  exact ⟨h.1.1, h.1.2, h.2⟩
theorem odds_all : ([("on" : Str), "off"].all fun w => ([0, 1, 2, 3, 4] : List Int).all fun l => (odds w l).all szB) = true := by decide +kernel
theorem odds_sz {w : Str} {low : Int} (hw : w = "on" ∨ w = "off") (h0 : 0 ≤ low) (h1 : low < 5) {x : PyData} (hx : x ∈ odds w low) : Sz 9000 4 x := by
  have h := List.all_eq_true.mp odds_all w (by rcases hw with z | z <;> simp [z])
  have h2 := List.all_eq_true.mp h low (by
    have : low = 0 ∨ low = 1 ∨ low = 2 ∨ low = 3 ∨ low = 4 := by omega
    rcases this with z | z | z | z | z <;> simp [z])
  exact szB_ok (List.all_eq_true.mp h2 x hx)
theorem run1e {G : List (Str × PyData)} {T : List DefM} {F n i : Nat} {df : DefM} {ws : List W} {ρ0 : Ev.Env} {w : W} {S S' : Store} (hi : T[i]? = some df) (hl : ws.length = df.ps.length) (hρ : startE df.N.length ws = ρ0)
    (h : ∃ ρ, exs ⟨G, lvl G T F n, kwF T (lvl G T F n), S.length, F⟩ df.body ρ0 S = .ok (.rt w, ρ) S') (ho : w.old S.length = true) (hS : S'.length = S.length) : lvl G T F (n + 1) i ws S = .ok w S' :=
  let ⟨_, h⟩ := h
  run1 hi hl hρ h ho hS
theorem s12 {i j : Nat} (h : Stk i j S) : ∃ x S', lvl G T F (n + 3) 12 [.ref i] S = .ok (.d x) S' ∧ Sz 9000 4 x ∧ Stk i j S' ∧ Same i j S S' := by
  let c : C := ⟨G, lvl G T F (n + 2), kwF T (lvl G T F (n + 2)), S.length, F⟩
  obtain ⟨low, S1, e1, l0, l1, st1, sm1⟩ := s6 (F := F) (n := n + 1) (size := 5) h (by decide) (by decide)
  obtain ⟨wd, S2, e2, hw, st2, sm2⟩ := s7 (F := F) (n := n) (xs := [.str "on", .str "off"]) st1 (by simp) (by decide)
  obtain ⟨w, rfl, hw'⟩ : ∃ w : Str, wd = .str w ∧ (w = "on" ∨ w = "off") := by
    rcases List.mem_cons.mp hw with z | z
    · exact ⟨_, z, .inl rfl⟩
    · rcases List.mem_cons.mp z with z | z
      · exact ⟨_, z, .inr rfl⟩
      · cases z
  obtain ⟨x, S3, e3, hx, st3, sm3⟩ := s7 (F := F) (n := n) (xs := odds w low) st2 (by simp [odds]) (Nat.le_of_ble_eq_true rfl)
  refine ⟨x, S3, ?_, odds_sz hw' l0 l1 hx, st3, (sm1.trans sm2).trans sm3⟩
  have a1 : ev c (.tup [.call 6 [.var 0, .con (.int 5)], .bin false .Pow (.con (.int 10)) (.con (.int 30))]) [some (.ref i), none, none, none, none] S = .ok (.d (.tuple [.int low, .int big])) S1 := by
    show (((c.Φ 6 [.ref i, dI 5] >>= fun w => evs c [.bin false .Pow (.con (.int 10)) (.con (.int 30))] _ >>= fun ws => pure (w :: ws)) >>= fun ws => pure (mkTup ws)) S) = _
    rw [bind_at, bind_at, show c.Φ 6 [.ref i, dI 5] S = .ok (dI low) S1 from e1]
    rfl
  have key : ∃ ρ, exs c d12.body [some (.ref i), none, none, none, none] S = .ok (.rt (.d x), ρ) S3 := by
    apply Exists.intro
    refine (exs_set a1 (ρ' := [some (.ref i), none, none, some (dI low), some (dI big)]) rfl).trans ?_
    refine (exs_set (S' := S2) (w := .d (.str w)) (show ev c (.call 7 [.var 0, .lst false [.con (.str "on"), .con (.str "off")]]) [some (.ref i), none, none, some (dI low), some (dI big)] S1 = _ from e2) (ρ' := [some (.ref i), some (.d (.str w)), none, some (dI low), some (dI big)]) rfl).trans ?_
    refine (exs_set (S' := S2) rfl rfl).trans ?_
    refine (exs_set (S' := S2) rfl rfl).trans ?_
    refine (exs_set (S' := S2) rfl rfl).trans ?_
    refine (exs_set (S' := S2) rfl rfl).trans ?_
    refine (exs_set (S' := S2) rfl rfl).trans ?_
    refine (exs_set (S' := S2) rfl rfl).trans ?_
    refine (exs_set (S' := S2) rfl rfl).trans ?_
    refine exs_ret ?_
    exact e3
  exact run1e (df := d12) (ρ0 := [some (.ref i), none, none, none, none]) rfl rfl rfl key rfl ((sm1.trans sm2).trans sm3).len
end L41

-- part P9
set_option maxHeartbeats 2000000
namespace L41
open PySem Ev
variable {F n : Nat} {S : Store}
theorem Stk.set_ne {i j f : Nat} {S : Store} {c : Cell} (h : Stk i j S) (h1 : i ≠ f) (h2 : j ≠ f) : Stk i j (S.set f c) := by
  obtain ⟨ne, ⟨d0, ds, sm, t, hi⟩, gs, hj, hg⟩ := h
  exact ⟨ne, ⟨d0, ds, sm, t, by rw [List.getElem?_set_ne (Ne.symm h1)]; exact hi⟩, gs, by rw [List.getElem?_set_ne (Ne.symm h2)]; exact hj, hg⟩
theorem Stk.lt {i j : Nat} {S : Store} (h : Stk i j S) : i < S.length ∧ j < S.length := by
  obtain ⟨ne, ⟨d0, ds, sm, t, hi⟩, gs, hj, hg⟩ := h
  exact ⟨(List.getElem?_eq_some_iff.mp hi).1, (List.getElem?_eq_some_iff.mp hj).1⟩
structure Inv8 (i j : Nat) (S S' : Store) (ps : List PyData) : Prop where
  st : Stk i j S'
  len : S'.length = S.length + 1
  same : ∀ m, m < S.length → m ≠ i → m ≠ j → S'[m]? = S[m]?
  fd : S'[S.length]? = some (.lst (ps.map .d))
  ok : ∀ p ∈ ps, Sz 5774 1 p
theorem Inv8.go {i j : Nat} {S S' S2 : Store} {ps : List PyData} (h0 : i < S.length ∧ j < S.length) (h : Inv8 i j S S' ps) (st : Stk i j S2) (sm : Same i j S' S2) : Inv8 i j S S2 ps :=
  ⟨st, sm.len.trans h.len, fun m h1 h2 h3 => (sm.at_ m h2 h3).trans (h.same m h1 h2 h3), (sm.at_ _ (Nat.ne_of_gt h0.1) (Nat.ne_of_gt h0.2)).trans h.fd, h.ok⟩
theorem Inv8.app {i j : Nat} {S S' : Store} {ps : List PyData} {p : PyData} (h0 : i < S.length ∧ j < S.length) (h : Inv8 i j S S' ps) (hp : Sz 5774 1 p) : Inv8 i j S (S'.set S.length (.lst ((ps ++ [p]).map .d))) (ps ++ [p]) :=
  ⟨h.st.set_ne (Nat.ne_of_lt h0.1) (Nat.ne_of_lt h0.2), by simp [h.len], fun m h1 h2 h3 => by rw [List.getElem?_set_ne (Nat.ne_of_gt h1)]; exact h.same m h1 h2 h3, get_set h.fd, fun q hq => by
    rcases List.mem_append.mp hq with z | z
    · exact h.ok q z
    · rw [List.mem_singleton.mp z]; exact hp⟩
theorem app_ok {c : C} {ρ : Ev.Env} {e : Ex} {f k : Nat} {S' S2 : Store} {ps qs : List PyData} {p : PyData} (hv : ρ[k]? = some (some (.ref f))) (h1 : S'[f]? = some (.lst (qs.map .d))) (he : ev c e ρ S' = .ok (.d p) S2) (h2 : S2[f]? = some (.lst (ps.map .d))) (hl : ps.length < sizeLine) :
    ev c (.met .append (.var k) [e]) ρ S' = .ok (.d .none) (S2.set f (.lst ((ps ++ [p]).map .d))) := by
  have hv' : ev c (.var k) ρ S' = .ok (.ref f) S' := by
    show (match ρ[k]? with
      | some (some w) => (pure w : M W)
      | _ => bad) S' = _
    rw [hv]
    rfl
  show ((ev c (.var k) ρ >>= fun w => recv .append w >>= fun _ => (ev c e ρ >>= fun w => (pure [] : M (List W)) >>= fun ws => pure (w :: ws)) >>= fun ws => method c.b .append w ws) S') = _
  rw [bind_at, hv']
  have r : recv .append (.ref f) S' = .ok () S' := by
    show ((seqW (.ref f) >>= fun _ => (pure () : M Unit)) S') = _
    rw [bind_at, seq_ref h1]
    rfl
  dsimp only
  rw [bind_at, r]
  dsimp only
  rw [bind_at, bind_at, he]
  show ((seqW (.ref f) >>= fun ws => Ev.guard (decide (ws.length < sizeLine) && (decide (c.b ≤ f) || (W.d p).old f)) >>= fun _ => upd f (ws ++ [.d p]) >>= fun _ => pure (W.d .none)) S2) = _
  rw [bind_at, seq_ref h2]
  have gd : (decide ((ps.map W.d).length < sizeLine) && (decide (c.b ≤ f) || (W.d p).old f)) = true := by
    rw [show (W.d p).old f = true from rfl, Bool.or_true, Bool.and_true, List.length_map]
    exact decide_eq_true hl
  dsimp only
  rw [bind_at, guard_at, gd, List.map_append]
  rfl
theorem evs_ok {c : C} {ρ : Ev.Env} {e : Ex} {es : List Ex} {S S1 S2 : Store} {w : W} {ws : List W} (h1 : ev c e ρ S = .ok w S1) (h2 : evs c es ρ S1 = .ok ws S2) : evs c (e :: es) ρ S = .ok (w :: ws) S2 := by
  show ((ev c e ρ >>= fun w => evs c es ρ >>= fun ws => pure (w :: ws)) S) = _
  rw [bind_at, h1]
  dsimp only
  rw [bind_at, h2]
  rfl
theorem ev_lsts {c : C} {ρ : Ev.Env} {es : List Ex} {own : Bool} {S S1 : Store} {ws : List W} (h : evs c es ρ S = .ok ws S1) : ev c (.lst own es) ρ S = mkLst own ws S1 := by
  show ((evs c es ρ >>= fun ws => mkLst own ws) S) = _
  rw [bind_at, h]
theorem ev_calls {c : C} {ρ : Ev.Env} {es : List Ex} {i : Nat} {S S1 : Store} {ws : List W} (h : evs c es ρ S = .ok ws S1) : ev c (.call i es) ρ S = c.Φ i ws S1 := by
  show ((evs c es ρ >>= fun ws => c.Φ i ws) S) = _
  rw [bind_at, h]
abbrev body8 : List St := [.set (.tp [.nm 7, .nm 8]) (.tup [.call 6 [.var 0, .con (.int 8)], .call 6 [.var 0, .bin false .Add (.blt false .min2 [.var 2, .con (.int 9)]) (.con (.int 1))]]), .set (.nm 6) (.call 7 [.var 0, .lst false [.var 8, .var 8, .bin false .Sub (.var 2) (.var 8), .bin false .FloorDiv (.var 2) (.bin false .Add (.con (.int 1)) (.var 8))]]), .iff (.cmp .Eq (.var 7) (.con (.int 6))) [.exp (.met .append (.var 4) [.tup [.con (.str "delay"), .var 6]])] [.iff (.cmp .Eq (.var 7) (.con (.int 7))) [.exp (.met .append (.var 4) [.tup [.con (.str "turn")]])] [.exp (.met .append (.var 4) [.tup [.sub (.lst false [.con (.str "on"), .con (.str "off")]) (.bin false .Mod (.var 7) (.con (.int 2))), .var 6, .bin false .Add (.var 6) (.call 6 [.var 0, .bin false .Add (.var 3) (.con (.int 1))])]])]]]
theorem sz_small {i : Int} (h1 : -(10 ^ 40) ≤ i) (h2 : i ≤ 10 ^ 40) : Sz 1921 0 (.int i) := sz_int (by
  have : i.natAbs ≤ 10 ^ 40 := by omega
  exact Nat.lt_of_le_of_lt this (by decide +kernel))
theorem sz_word {s : Str} (h : s.length ≤ 10 ∧ (PyData.shown (.str s)).length ≤ 1921) : Sz 1921 0 (.str s) := ⟨rfl, Nat.le_refl _, h.2⟩
theorem iter8 {i j : Nat} {S S' : Store} {ps : List PyData} {parts most wide : Int} {a5 a6 a7 a8 : Option W} (h0 : i < S.length ∧ j < S.length) (h : Inv8 i j S S' ps) (hps : ps.length ≤ 1000) (m0 : 0 ≤ most) (m1 : most ≤ 10 ^ 31) (w0 : 0 ≤ wide) (w1 : wide ≤ 900) :
    ∃ a6' a7' a8' S2 ps', exs ⟨G, lvl G T F (n + 2), kwF T (lvl G T F (n + 2)), S.length, F⟩ body8 [some (.ref i), some (dI parts), some (dI most), some (dI wide), some (.ref S.length), a5, a6, a7, a8] S' = .ok (.nx, [some (.ref i), some (dI parts), some (dI most), some (dI wide), some (.ref S.length), a5, a6', a7', a8']) S2 ∧ Inv8 i j S S2 ps' ∧ ps'.length = ps.length + 1 := by
  let c : C := ⟨G, lvl G T F (n + 2), kwF T (lvl G T F (n + 2)), S.length, F⟩
  let sz2 : Int := (if 9 < most then 9 else most) + 1
  have hs1 : 1 ≤ sz2 := by show 1 ≤ (if 9 < most then 9 else most) + 1; split <;> omega
  have hs2 : sz2 ≤ 10 := by show (if 9 < most then 9 else most) + 1 ≤ 10; split <;> omega
  obtain ⟨way, Sa, ea, wa0, wa1, sta, sma⟩ := s6 (F := F) (n := n + 1) (size := 8) h.st (by decide) (by decide)
  obtain ⟨small, Sb, eb, sb0, sb1, stb, smb⟩ := s6 (F := F) (n := n + 1) (size := sz2) sta hs1 (by omega)
  have hdv : 0 ≤ most.fdiv (1 + small) ∧ most.fdiv (1 + small) ≤ most := by
    rw [Int.fdiv_eq_ediv_of_nonneg _ (by omega)]
    exact ⟨Int.ediv_nonneg m0 (by omega), Int.ediv_le_self _ m0⟩
  obtain ⟨lowd, Sc, ec, hl, stc, smc⟩ := s7 (F := F) (n := n) (xs := [.int small, .int small, .int (most - small), .int (most.fdiv (1 + small))]) stb (by simp) (Nat.le_of_ble_eq_true rfl)
  obtain ⟨low, rfl, l0, l1⟩ : ∃ low : Int, lowd = .int low ∧ -(10 ^ 32) ≤ low ∧ low ≤ 10 ^ 32 := by
    simp only [List.mem_cons, List.mem_nil_iff, or_false] at hl
    rcases hl with z | z | z | z
    · exact ⟨_, z, by omega, by omega⟩
    · exact ⟨_, z, by omega, by omega⟩
    · exact ⟨_, z, by omega, by omega⟩
    · exact ⟨_, z, by omega, by omega⟩
  have hc := ((h.go h0 sta sma).go h0 stb smb).go h0 stc smc
  let ρ1 : Ev.Env := [some (.ref i), some (dI parts), some (dI most), some (dI wide), some (.ref S.length), a5, a6, some (dI way), some (dI small)]
  let ρ2 : Ev.Env := [some (.ref i), some (dI parts), some (dI most), some (dI wide), some (.ref S.length), a5, some (dI low), some (dI way), some (dI small)]
  have t1 : ev c (.tup [.call 6 [.var 0, .con (.int 8)], .call 6 [.var 0, .bin false .Add (.blt false .min2 [.var 2, .con (.int 9)]) (.con (.int 1))]]) [some (.ref i), some (dI parts), some (dI most), some (dI wide), some (.ref S.length), a5, a6, a7, a8] S' = .ok (.d (.tuple [.int way, .int small])) Sb := by
    show (((c.Φ 6 [.ref i, dI 8] >>= fun w => ((evs c [.var 0, .bin false .Add (.blt false .min2 [.var 2, .con (.int 9)]) (.con (.int 1))] [some (.ref i), some (dI parts), some (dI most), some (dI wide), some (.ref S.length), a5, a6, a7, a8] >>= fun ws => c.Φ 6 ws) >>= fun w => (pure [] : M (List W)) >>= fun ws => pure (w :: ws)) >>= fun ws => pure (w :: ws)) >>= fun ws => pure (mkTup ws)) S') = _
    rw [bind_at, bind_at, show c.Φ 6 [.ref i, dI 8] S' = .ok (dI way) Sa from ea]
    dsimp only
    rw [bind_at, bind_at, bind_at]
    rw [show evs c [.var 0, .bin false .Add (.blt false .min2 [.var 2, .con (.int 9)]) (.con (.int 1))] [some (.ref i), some (dI parts), some (dI most), some (dI wide), some (.ref S.length), a5, a6, a7, a8] Sa = .ok [.ref i, dI sz2] Sa from rfl]
    dsimp only
    rw [show c.Φ 6 [.ref i, dI sz2] Sa = .ok (dI small) Sb from eb]
    rfl
  have dvs : divOk (1 + small) = true := by
    unfold divOk
    rw [Bool.and_eq_true, decide_eq_true_eq, decide_eq_true_eq]
    refine ⟨by omega, ?_⟩
    have : (1 + small).natAbs ≤ 1000 := by omega
    exact Nat.lt_of_le_of_lt this (by decide +kernel)
  have t2 : ev c (.call 7 [.var 0, .lst false [.var 8, .var 8, .bin false .Sub (.var 2) (.var 8), .bin false .FloorDiv (.var 2) (.bin false .Add (.con (.int 1)) (.var 8))]]) ρ1 Sb = .ok (dI low) Sc := by
    have q : ev c (.bin false .FloorDiv (.var 2) (.bin false .Add (.con (.int 1)) (.var 8))) ρ1 Sb = .ok (dI (most.fdiv (1 + small))) Sb := fdv2 (i := most) rfl (add2 (i := 1) (j := small) rfl rfl) dvs
    have l : ev c (.lst false [.var 8, .var 8, .bin false .Sub (.var 2) (.var 8), .bin false .FloorDiv (.var 2) (.bin false .Add (.con (.int 1)) (.var 8))]) ρ1 Sb = .ok (.d (.list [.int small, .int small, .int (most - small), .int (most.fdiv (1 + small))])) Sb := by
      exact (ev_lsts (evs_ok (w := dI small) rfl (evs_ok (w := dI small) rfl (evs_ok (w := dI (most - small)) rfl (evs_ok q (ws := []) rfl))))).trans rfl
    exact (ev_calls (evs_ok (w := .ref i) rfl (evs_ok l (ws := []) rfl))).trans ec
  have hlen : ps.length < sizeLine := Nat.lt_of_le_of_lt hps (by decide)
  have p2 : ∀ {a b : PyData} , Sz 1921 0 a → Sz 1921 0 b → Sz 5774 1 (.tuple [a, b]) := fun ha hb => sz_tuple (c := 3) (m := 1921) (d := 0) (fun x hx => by
    simp only [List.mem_cons, List.mem_nil_iff, or_false] at hx
    rcases hx with z | z <;> rw [z] <;> assumption) (by show (2 : Nat) ≤ 3; decide)
  have p1 : ∀ {a : PyData} , Sz 1921 0 a → Sz 5774 1 (.tuple [a]) := fun ha => sz_tuple (c := 3) (m := 1921) (d := 0) (fun x hx => by rw [List.mem_singleton.mp hx]; exact ha) (by show (1 : Nat) ≤ 3; decide)
  have p3 : ∀ {a b d : PyData} , Sz 1921 0 a → Sz 1921 0 b → Sz 1921 0 d → Sz 5774 1 (.tuple [a, b, d]) := fun ha hb hd => sz_tuple (c := 3) (m := 1921) (d := 0) (fun x hx => by
    simp only [List.mem_cons, List.mem_nil_iff, or_false] at hx
    rcases hx with z | z | z <;> rw [z] <;> assumption) (by show (3 : Nat) ≤ 3; decide)
  have sl : Sz 1921 0 (.int low) := sz_small (by omega) (by omega)
  have c6 : ∀ k : Int, ev c (.cmp .Eq (.var 7) (.con (.int k))) ρ2 Sc = .ok (.d (.bool (way == k))) Sc := fun k => ev_cmp2 (w1 := dI way) rfl rfl (cmpI way k)
  have fin : ∀ {S2 : Store} {p : PyData}, ex c (.iff (.cmp .Eq (.var 7) (.con (.int 6))) [.exp (.met .append (.var 4) [.tup [.con (.str "delay"), .var 6]])] [.iff (.cmp .Eq (.var 7) (.con (.int 7))) [.exp (.met .append (.var 4) [.tup [.con (.str "turn")]])] [.exp (.met .append (.var 4) [.tup [.sub (.lst false [.con (.str "on"), .con (.str "off")]) (.bin false .Mod (.var 7) (.con (.int 2))), .var 6, .bin false .Add (.var 6) (.call 6 [.var 0, .bin false .Add (.var 3) (.con (.int 1))])]])]]) ρ2 Sc = .ok (.nx, ρ2) (S2.set S.length (.lst ((ps ++ [p]).map .d))) → Inv8 i j S S2 ps → Sz 5774 1 p → ∃ a6' a7' a8' S2 ps', exs c body8 [some (.ref i), some (dI parts), some (dI most), some (dI wide), some (.ref S.length), a5, a6, a7, a8] S' = .ok (.nx, [some (.ref i), some (dI parts), some (dI most), some (dI wide), some (.ref S.length), a5, a6', a7', a8']) S2 ∧ Inv8 i j S S2 ps' ∧ ps'.length = ps.length + 1 := fun {S2 p} e hi hp =>
    ⟨_, _, _, _, ps ++ [p], (exs_set t1 (ρ' := ρ1) rfl).trans ((exs_set t2 (ρ' := ρ2) rfl).trans (exs_nx e)), hi.app h0 hp, by simp⟩
  by_cases q6 : (way == 6) = true
  · have e1 := c6 6
    rw [q6] at e1
    exact fin (S2 := Sc) (p := .tuple [.str "delay", .int low]) (by
      rw [ex_iff (k := true) e1 rfl, if_pos rfl]
      exact (exs_exp (app_ok (f := S.length) (k := 4) (qs := ps) rfl hc.fd rfl hc.fd hlen)).trans rfl) hc (p2 (sz_word (by decide +kernel)) sl)
  · have e1 := c6 6
    rw [Bool.eq_false_iff.mpr q6] at e1
    by_cases q7 : (way == 7) = true
    · have e2 := c6 7
      rw [q7] at e2
      exact fin (S2 := Sc) (p := .tuple [.str "turn"]) (by
        rw [ex_iff (k := false) e1 rfl, if_neg Bool.false_ne_true]
        refine (exs_nx (ρ' := ρ2) (S' := Sc.set S.length (.lst ((ps ++ [PyData.tuple [.str "turn"]]).map .d))) ?_).trans rfl
        rw [ex_iff (k := true) e2 rfl, if_pos rfl]
        exact (exs_exp (app_ok (f := S.length) (k := 4) (qs := ps) rfl hc.fd rfl hc.fd hlen)).trans rfl) hc (p1 (sz_word (by decide +kernel)))
    · have e2 := c6 7
      rw [Bool.eq_false_iff.mpr q7] at e2
      obtain ⟨r, Sd, ed, r0, r1, std, smd⟩ := s6 (F := F) (n := n + 1) (size := wide + 1) stc (by omega) (by omega)
      have hd := hc.go h0 std smd
      have hw : way.fmod 2 = 0 ∨ way.fmod 2 = 1 := by
        have a := Int.fmod_nonneg_of_pos way (b := 2) (by decide)
        have b := Int.fmod_lt_of_pos way (b := 2) (by decide)
        omega
      obtain ⟨wd, hwd, hwd2⟩ : ∃ wd : Str, L2.atI [W.d (.str "on"), W.d (.str "off")] (way.fmod 2) = some (W.d (.str wd)) ∧ Sz 1921 0 (.str wd) := by
        rcases hw with z | z
        · exact ⟨"on", by rw [z]; rfl, sz_word (by decide +kernel)⟩
        · exact ⟨"off", by rw [z]; rfl, sz_word (by decide +kernel)⟩
      have g1 : ev c (.sub (.lst false [.con (.str "on"), .con (.str "off")]) (.bin false .Mod (.var 7) (.con (.int 2)))) ρ2 Sc = .ok (.d (.str wd)) Sc := by
        refine (ev_sub2 (w1 := .d (.list [.str "on", .str "off"])) (w2 := dI (way.fmod 2)) (S1 := Sc) (S2 := Sc) rfl (mod2 (i := way) rfl rfl (by decide))).trans ?_
        show (lift (L2.atI [W.d (.str "on"), W.d (.str "off")] (way.fmod 2)) : M W) Sc = _
        rw [hwd]
        rfl
      have g2 : ev c (.bin false .Add (.var 6) (.call 6 [.var 0, .bin false .Add (.var 3) (.con (.int 1))])) ρ2 Sc = .ok (dI (low + r)) Sd := by
        refine (ev_bin2 (w1 := dI low) (w2 := dI r) (S1 := Sc) (S2 := Sd) rfl ?_).trans rfl
        exact (show ev c (.call 6 [.var 0, .bin false .Add (.var 3) (.con (.int 1))]) ρ2 Sc = _ from ed)
      have g : ev c (.tup [.sub (.lst false [.con (.str "on"), .con (.str "off")]) (.bin false .Mod (.var 7) (.con (.int 2))), .var 6, .bin false .Add (.var 6) (.call 6 [.var 0, .bin false .Add (.var 3) (.con (.int 1))])]) ρ2 Sc = .ok (.d (.tuple [.str wd, .int low, .int (low + r)])) Sd := by
        show (((ev c (.sub (.lst false [.con (.str "on"), .con (.str "off")]) (.bin false .Mod (.var 7) (.con (.int 2)))) ρ2 >>= fun w => (ev c (.var 6) ρ2 >>= fun w => (ev c (.bin false .Add (.var 6) (.call 6 [.var 0, .bin false .Add (.var 3) (.con (.int 1))])) ρ2 >>= fun w => (pure [] : M (List W)) >>= fun ws => pure (w :: ws)) >>= fun ws => pure (w :: ws)) >>= fun ws => pure (w :: ws)) >>= fun ws => pure (mkTup ws)) Sc) = _
        rw [bind_at, bind_at, g1]
        dsimp only
        rw [bind_at, bind_at, show ev c (.var 6) ρ2 Sc = .ok (dI low) Sc from rfl]
        dsimp only
        rw [bind_at, bind_at, g2]
        rfl
      exact fin (S2 := Sd) (p := .tuple [.str wd, .int low, .int (low + r)]) (by
        rw [ex_iff (k := false) e1 rfl, if_neg Bool.false_ne_true]
        refine (exs_nx (ρ' := ρ2) (S' := Sd.set S.length (.lst ((ps ++ [PyData.tuple [.str wd, .int low, .int (low + r)]]).map .d))) ?_).trans rfl
        rw [ex_iff (k := false) e2 rfl, if_neg Bool.false_ne_true]
        exact (exs_exp (app_ok (f := S.length) (k := 4) (qs := ps) rfl hc.fd g hd.fd hlen)).trans rfl) hd (p3 hwd2 sl (sz_small (by omega) (by omega)))
end L41

-- part P10
set_option maxHeartbeats 2000000
namespace L41
open PySem Ev
variable {F n : Nat} {S : Store}
theorem loop8 {i j : Nat} {S : Store} {parts most wide : Int} (h0 : i < S.length ∧ j < S.length) (m0 : 0 ≤ most) (m1 : most ≤ 10 ^ 31) (w0 : 0 ≤ wide) (w1 : wide ≤ 900) : ∀ (ws : List W) (ps : List PyData) (S' : Store) (a5 a6 a7 a8 : Option W), Inv8 i j S S' ps → ps.length + ws.length ≤ 1000 →
    ∃ ρ S2 ps', forLoop (fun ρ' => exs ⟨G, lvl G T F (n + 2), kwF T (lvl G T F (n + 2)), S.length, F⟩ body8 ρ') (.nm 5) ws [some (.ref i), some (dI parts), some (dI most), some (dI wide), some (.ref S.length), a5, a6, a7, a8] S' = .ok (.nx, ρ) S2 ∧ (∃ b5 b6 b7 b8, ρ = [some (.ref i), some (dI parts), some (dI most), some (dI wide), some (.ref S.length), b5, b6, b7, b8]) ∧ Inv8 i j S S2 ps' ∧ ps'.length = ps.length + ws.length
  | [], ps, S', a5, a6, a7, a8, h, _ => ⟨_, S', ps, rfl, ⟨_, _, _, _, rfl⟩, h, rfl⟩
  | w :: ws, ps, S', a5, a6, a7, a8, h, hl => by
    rw [List.length_cons] at hl
    obtain ⟨b6, b7, b8, S2, ps2, e, h2, l2⟩ := iter8 (F := F) (n := n) (parts := parts) (a5 := some w) (a6 := a6) (a7 := a7) (a8 := a8) h0 h (by omega) m0 m1 w0 w1
    obtain ⟨ρ, S3, ps3, e3, hρ, h3, l3⟩ := loop8 h0 m0 m1 w0 w1 ws ps2 S2 (some w) b6 b7 b8 h2 (by omega)
    exact ⟨ρ, S3, ps3, (for_nx rfl e).trans e3, hρ, h3, by rw [l3, l2, List.length_cons]; omega⟩
theorem s8 {i j : Nat} {parts most wide : Int} (h : Stk i j S) (p0 : 0 ≤ parts) (p1 : parts ≤ 100) (m0 : 0 ≤ most) (m1 : most ≤ 10 ^ 31) (w0 : 0 ≤ wide) (w1 : wide ≤ 900) :
    ∃ ps S', lvl G T F (n + 3) 8 [.ref i, dI parts, dI most, dI wide] S = .ok (.d (.tuple ps)) S' ∧ (∀ p ∈ ps, Sz 5774 1 p) ∧ (ps.length : Int) ≤ parts ∧ Stk i j S' ∧ Same i j S S' := by
  have h0 := h.lt
  let c : C := ⟨G, lvl G T F (n + 2), kwF T (lvl G T F (n + 2)), S.length, F⟩
  let S1 : Store := S ++ [.lst []]
  have hi1 : Inv8 i j S S1 [] := by
    obtain ⟨ne, ⟨d0, ds, sm, t, hi⟩, gs, hj, hg⟩ := h
    refine ⟨⟨ne, ⟨d0, ds, sm, t, by rw [List.getElem?_append_left h0.1]; exact hi⟩, gs, by rw [List.getElem?_append_left h0.2]; exact hj, hg⟩, by simp [S1], fun m h1 _ _ => by rw [List.getElem?_append_left h1], by simp [S1], fun _ q => by cases q⟩
  obtain ⟨r, Sa, ea, r0, r1, sta, sma⟩ := s6 (F := F) (n := n + 1) (size := parts + 1) hi1.st (by omega) (by omega)
  have hia := hi1.go h0 sta sma
  have hrl : (rangeL 0 r.toNat).length = r.toNat := rangeL_len
  obtain ⟨ρ, S2, ps, e2, ⟨b5, b6, b7, b8, rfl⟩, h2, l2⟩ := loop8 (F := F) (n := n) (parts := parts) h0 m0 m1 w0 w1 (rangeL 0 r.toNat) [] Sa none none none none hia (by rw [hrl]; show 0 + _ ≤ _; omega)
  have hS2 := h2.len
  have htl : (S2.take S.length).length = S.length := by rw [List.length_take]; omega
  have key : lvl G T F (n + 3) 8 [.ref i, dI parts, dI most, dI wide] S = .ok (.d (.tuple ps)) (S2.take S.length) := by
    refine run_of (df := d8) (ρ := [some (.ref i), some (dI parts), some (dI most), some (dI wide), some (.ref S.length), b5, b6, b7, b8]) rfl rfl ?_ rfl
    refine (exs_set (S' := S1) (w := .ref S.length) (ρ' := [some (.ref i), some (dI parts), some (dI most), some (dI wide), some (.ref S.length), none, none, none, none]) rfl rfl).trans ?_
    refine (exs_nx (ρ' := [some (.ref i), some (dI parts), some (dI most), some (dI wide), some (.ref S.length), b5, b6, b7, b8]) (S' := S2) ?_).trans ?_
    · show ((evs c [.call 6 [.var 0, .bin false .Add (.var 1) (.con (.int 1))]] _ >>= fun ws => yields .rng1 ws >>= fun ys => forLoop (fun ρ' => exs c body8 ρ') (.nm 5) ys _) S1) = _
      rw [bind_at, evs_ok (w := dI r) (S1 := Sa) (ws := []) (S2 := Sa) (show ev c (.call 6 [.var 0, .bin false .Add (.var 1) (.con (.int 1))]) [some (.ref i), some (dI parts), some (dI most), some (dI wide), some (.ref S.length), none, none, none, none] S1 = .ok (dI r) Sa from ea) rfl]
      show ((Ev.guard (inSmall r) >>= fun _ => (pure (rangeL 0 r.toNat) : M (List W))) >>= fun ys => forLoop (fun ρ' => exs c body8 ρ') (.nm 5) ys _) Sa = _
      have g : inSmall r = true := by
        unfold inSmall
        rw [Bool.and_eq_true, decide_eq_true_eq, decide_eq_true_eq]
        omega
      rw [g]
      exact e2
    · refine exs_ret ?_
      rw [ev_blt1 (w := .ref S.length) (S1 := S2) rfl]
      show ((seqW (.ref S.length) >>= fun ws => pure (mkTup ws)) S2) = _
      rw [bind_at, seq_ref h2.fd]
      show Out.ok (mkTup (ps.map W.d)) S2 = _
      rw [mkTup_map]
  refine ⟨ps, S2.take S.length, key, h2.ok, by rw [l2, hrl]; show ((0 + r.toNat : Nat) : Int) ≤ _; omega, ?_, htl, fun m h1 h3 => ?_⟩
  · obtain ⟨ne, ⟨d0, ds, sm, t, hi⟩, gs, hj, hg⟩ := h2.st
    exact ⟨ne, ⟨d0, ds, sm, t, by rw [List.getElem?_take_of_lt h0.1]; exact hi⟩, gs, by rw [List.getElem?_take_of_lt h0.2]; exact hj, hg⟩
  · by_cases hm : m < S.length
    · rw [List.getElem?_take_of_lt hm]; exact h2.same m hm h1 h3
    · rw [List.getElem?_eq_none (by omega), List.getElem?_eq_none (by omega)]
/-! ### the stock -/
def flt (i : Int) : Int := if decide (0 ≤ i) then 2 * i else -2 * i - 1
theorem comp_filt {c : C} {f : Ev.Env → M W} {tst : List Ex} {tg : Tg} {g : W → W} {pr : W → Bool} {ρ : Ev.Env} {S : Store} : ∀ (ws : List W), (∀ w ∈ ws, ∃ ρ', assignTg tg w ρ = some ρ' ∧ tsts c tst ρ' S = .ok (pr w) S ∧ f ρ' S = .ok (g w) S) → compLoop (fun ρ' => tsts c tst ρ') f tg ρ ws S = .ok ((ws.filter pr).map g) S
  | [], _ => rfl
  | w :: ws, h => by
    obtain ⟨ρ', e1, e0, e2⟩ := h w List.mem_cons_self
    have ih := comp_filt (f := f) (tg := tg) (g := g) (pr := pr) (ρ := ρ) (S := S) ws fun u hu => h u (List.mem_cons_of_mem _ hu)
    show ((lift (assignTg tg w ρ) >>= fun ρ' => tsts c tst ρ' >>= fun b => if b then (f ρ' >>= fun y => compLoop (fun ρ' => tsts c tst ρ') f tg ρ ws >>= fun ys => pure (y :: ys)) else compLoop (fun ρ' => tsts c tst ρ') f tg ρ ws) S) = _
    rw [e1]
    show ((tsts c tst ρ' >>= fun b => if b then (f ρ' >>= fun y => compLoop (fun ρ' => tsts c tst ρ') f tg ρ ws >>= fun ys => pure (y :: ys)) else compLoop (fun ρ' => tsts c tst ρ') f tg ρ ws) S) = _
    rw [bind_at, e0]
    dsimp only
    rw [List.filter_cons]
    cases q : pr w with
    | false => rw [if_neg Bool.false_ne_true, if_neg Bool.false_ne_true]; exact ih
    | true =>
      rw [if_pos rfl, if_pos rfl, bind_at, e2]
      dsimp only
      rw [bind_at, ih]
      rfl
theorem ev_ite2 {c : C} {ρ : Ev.Env} {t a b : Ex} {S S1 : Store} {k : Bool} (h : ev c t ρ S = .ok (.d (.bool k)) S1) : ev c (.ite t a b) ρ S = if k then ev c a ρ S1 else ev c b ρ S1 := by
  show ((ev c t ρ >>= fun x => truthW x >>= fun k => if k then ev c a ρ else ev c b ρ) S) = _
  rw [bind_at, h]
  cases k <;> rfl
theorem allD (xs : List Int) : allData (xs.map dI) = some (xs.map .int) := by rw [map_dI, allData_map]
theorem intsD (xs : List Int) : intsOf (xs.map dI) = some xs := by
  induction xs with
  | nil => rfl
  | cons x xs ih =>
    show (intsOf (xs.map dI)).map (x :: ·) = _
    rw [ih]
    rfl
theorem s5 (ns : List Int) (hl : ns.length ≤ 63) : ∃ S', lvl G T F (n + 1) 5 [.d (.list (ns.map .int))] [] = .ok (.ref 1) S' ∧ Stk 1 0 S' ∧ S'.length = 2 := by
  let c : C := ⟨G, lvl G T F n, kwF T (lvl G T F n), 0, F⟩
  let fl : List Int := ns.map flt
  let gr : List Int := fl.filter fun x => decide ((10 ^ 15 : Int) ≤ x)
  let v : W := .d (.list (ns.map .int))
  let ρ0 : Ev.Env := [some v, none, none]
  let ρ1 : Ev.Env := [some v, some (.d (.list (fl.map .int))), none]
  have hz : ∀ {k : Nat}, k ≤ 64 → decide (k ≤ sizeLine) = true := fun h => decide_eq_true (Nat.le_trans h (by decide))
  have ct : cut (ns.map PyData.int) none (some 63) = ns.map PyData.int := by
    refine cut_whole _ _ _ ⟨rfl, ?_⟩
    rw [List.length_map]
    show HT.sIx ns.length ns.length (some 63) = ns.length
    simp [HT.sIx]
    omega
  have e1 : ev c (.comp false (.ite (.cmp .GtE (.var 2) (.con (.int 0))) (.bin false .Mult (.con (.int 2)) (.var 2)) (.bin false .Sub (.bin false .Mult (.neg (.con (.int 2))) (.var 2)) (.con (.int 1)))) (.nm 2) .seq [.slc false (.var 0) (.nop) (.con (.int 63))] [] [2]) ρ0 [] = .ok (.d (.list (fl.map .int))) [] := by
    have a : evs c [.slc false (.var 0) (.nop) (.con (.int 63))] ρ0 [] = .ok [v] [] := evs_ok (S1 := []) (ws := []) (by
      show mkLst false ((cut (ns.map PyData.int) none (some 63)).map W.d) [] = _
      rw [ct]
      show mkLst false ((ns.map PyData.int).map W.d) [] = _
      unfold mkLst
      rw [if_neg Bool.false_ne_true, allData_map]
      rfl) rfl
    show ((evs c [.slc false (.var 0) (.nop) (.con (.int 63))] ρ0 >>= fun ws => yields .seq ws >>= fun ys => Ev.guard (decide (ys.length ≤ sizeLine)) >>= fun _ => compLoop (fun ρ' => tsts c [] ρ') (fun ρ' => ev c _ ρ') (.nm 2) ρ0 ys >>= fun zs => mkLst false zs) []) = _
    rw [bind_at, a]
    show ((Ev.guard (decide (((ns.map PyData.int).map W.d).length ≤ sizeLine)) >>= fun _ => compLoop (fun ρ' => tsts c [] ρ') (fun ρ' => ev c _ ρ') (.nm 2) ρ0 ((ns.map PyData.int).map W.d) >>= fun zs => mkLst false zs) []) = _
    rw [bind_at, guard_at, hz (by rw [List.length_map, List.length_map]; omega), if_pos rfl]
    dsimp only
    rw [bind_at, ← map_dI, comp_pure (g := fun w => match w with
      | .d (.int i) => dI (flt i)
      | w => w) (ns.map dI) fun w hw => ?_]
    · show mkLst false _ [] = _
      rw [List.map_map]
      have e : ns.map ((fun w => match w with
        | .d (.int i) => dI (flt i)
        | w => w) ∘ dI) = fl.map dI := by rw [List.map_map]; rfl
      rw [e]
      unfold mkLst
      rw [if_neg Bool.false_ne_true, allD]
      rfl
    · obtain ⟨x, _, rfl⟩ := List.mem_map.mp hw
      refine ⟨[some v, none, some (dI x)], rfl, ?_⟩
      rw [ev_ite2 (k := decide (0 ≤ x)) (S1 := []) (ev_cmp2 (w1 := dI x) (w2 := dI 0) rfl rfl rfl)]
      show _ = Out.ok (dI (flt x)) []
      unfold flt
      by_cases q : 0 ≤ x
      · rw [decide_eq_true q, if_pos rfl, if_pos rfl]
        exact mul2 (i := 2) (j := x) rfl rfl (by unfold mulOk; rfl)
      · rw [decide_eq_false q, if_neg Bool.false_ne_true, if_neg Bool.false_ne_true]
        exact sub2 (i := -2 * x) (j := 1) (mul2 (i := -2) (j := x) rfl rfl (by unfold mulOk; rfl)) rfl
  have g1 : ev c (.comp true (.var 2) (.nm 2) .seq [.var 1] [.cmp .GtE (.var 2) (.bin false .Pow (.con (.int 10)) (.con (.int 15)))] [2]) ρ1 [] = .ok (.ref 0) [.lst (gr.map dI)] := by
    show ((Ev.guard (decide (((fl.map PyData.int).map W.d).length ≤ sizeLine)) >>= fun _ => compLoop (fun ρ' => tsts c [.cmp .GtE (.var 2) (.bin false .Pow (.con (.int 10)) (.con (.int 15)))] ρ') (fun ρ' => ev c (.var 2) ρ') (.nm 2) ρ1 ((fl.map PyData.int).map W.d) >>= fun zs => mkLst true zs) []) = _
    rw [bind_at, guard_at, hz (by rw [List.length_map, List.length_map]; show (ns.map flt).length ≤ 64; rw [List.length_map]; omega), if_pos rfl]
    dsimp only
    rw [bind_at, ← map_dI, comp_filt (g := id) (pr := fun w => match w with
      | .d (.int i) => decide ((10 ^ 15 : Int) ≤ i)
      | _ => false) (fl.map dI) fun w hw => ?_]
    · show Out.ok (W.ref 0) [.lst _] = _
      rw [List.filter_map, List.map_id]
      rfl
    · obtain ⟨x, _, rfl⟩ := List.mem_map.mp hw
      refine ⟨[some v, some (.d (.list (fl.map .int))), some (dI x)], rfl, ?_, rfl⟩
      show ((ev c (.cmp .GtE (.var 2) (.bin false .Pow (.con (.int 10)) (.con (.int 15)))) _ >>= fun w => truthW w >>= fun k => if k then (pure true : M Bool) else pure false) []) = _
      rw [bind_at, ev_cmp2 (w1 := dI x) (w2 := dI (10 ^ 15)) (k := decide ((10 ^ 15 : Int) ≤ x)) rfl rfl rfl]
      show (if decide ((10 ^ 15 : Int) ≤ x) = true then (pure true : M Bool) else pure false) [] = .ok (decide ((10 ^ 15 : Int) ≤ x)) []
      cases decide ((10 ^ 15 : Int) ≤ x) <;> rfl
  let S1 : Store := [.lst (gr.map dI)]
  have g2 : ev c (.bin false .Add (.var 1) (.lst false [.bin false .Add (.blt false .len [.var 1]) (.con (.int 741))])) ρ1 S1 = .ok (.d (.list ((fl ++ [((fl.length : Nat) : Int) + 741]).map .int))) S1 := by
    have l : ev c (.blt false .len [.var 1]) ρ1 S1 = .ok (dI ((fl.length : Nat) : Int)) S1 := by
      rw [ev_blt1 (w := .d (.list (fl.map .int))) (S1 := S1) rfl]
      show Out.ok (dI ((((fl.map PyData.int).map W.d).length : Nat) : Int)) S1 = _
      rw [List.length_map, List.length_map]
    have l2 : ev c (.lst false [.bin false .Add (.blt false .len [.var 1]) (.con (.int 741))]) ρ1 S1 = .ok (.d (.list [.int (((fl.length : Nat) : Int) + 741)])) S1 := (ev_lsts (evs_ok (add2 l rfl) (ws := []) rfl)).trans rfl
    refine (ev_bin2 (w1 := .d (.list (fl.map .int))) (S1 := S1) rfl l2).trans ?_
    show ((Ev.guard (decide ((fl.map PyData.int).length + 1 ≤ sizeLine)) >>= fun _ => mkLst false ((fl.map PyData.int).map W.d ++ [dI (((fl.length : Nat) : Int) + 741)])) S1) = _
    rw [bind_at, guard_at, hz (by rw [List.length_map]; show (ns.map flt).length + 1 ≤ 64; rw [List.length_map]; omega), if_pos rfl]
    show mkLst false _ S1 = _
    rw [← map_dI, show fl.map dI ++ [dI (((fl.length : Nat) : Int) + 741)] = (fl ++ [((fl.length : Nat) : Int) + 741]).map dI by rw [List.map_append]; rfl]
    unfold mkLst
    rw [if_neg Bool.false_ne_true, allD]
    rfl
  have g3 : ev c (.blt false .sum [.var 1]) ρ1 S1 = .ok (dI fl.sum) S1 := by
    rw [ev_blt1 (w := .d (.list (fl.map .int))) (S1 := S1) rfl]
    show ((lift (intsOf ((fl.map PyData.int).map W.d)) >>= fun is => (pure (dI is.sum) : M W)) S1) = _
    rw [← map_dI, intsD]
    rfl
  let S2 : Store := [.lst (gr.map dI), .lst [.ref 0, .d (.list ((fl ++ [((fl.length : Nat) : Int) + 741]).map .int)), dI fl.sum, dI 0]]
  have g : ev c (.lst true [.comp true (.var 2) (.nm 2) .seq [.var 1] [.cmp .GtE (.var 2) (.bin false .Pow (.con (.int 10)) (.con (.int 15)))] [2], .bin false .Add (.var 1) (.lst false [.bin false .Add (.blt false .len [.var 1]) (.con (.int 741))]), .blt false .sum [.var 1], .con (.int 0)]) ρ1 [] = .ok (.ref 1) S2 :=
    (ev_lsts (evs_ok g1 (evs_ok g2 (evs_ok g3 (evs_ok (w := dI 0) (S1 := S1) rfl (ws := []) rfl))))).trans rfl
  have hb : exs c d5.body ρ0 [] = .ok (.rt (.ref 1), ρ1) S2 := (exs_set e1 (ρ' := ρ1) rfl).trans (exs_ret g)
  refine ⟨S2, ?_, ⟨by decide, ?_, gr, rfl, ?_⟩, rfl⟩
  · show fin' 0 (exs c d5.body ρ0 []) = _
    rw [hb]
    rfl
  · cases q : (fl ++ [((fl.length : Nat) : Int) + 741]) with
    | nil => simp at q
    | cons d0 ds =>
      refine ⟨d0, ds, fl.sum, 0, ?_⟩
      show some (Cell.lst [W.ref 0, W.d (.list ((fl ++ [((fl.length : Nat) : Int) + 741]).map .int)), dI fl.sum, dI 0]) = _
      rw [q]
  · have := List.length_filter_le (fun x : Int => decide ((10 ^ 15 : Int) ≤ x)) fl
    have h2 : fl.length = ns.length := List.length_map _
    show (fl.filter _).length ≤ 63
    omega
end L41

-- part P11
set_option maxHeartbeats 2000000
namespace L41
open PySem Ev
variable {F n : Nat} {S : Store}
abbrev Pt (p : PyData) : Prop := Sz 9000 4 p
abbrev Th (t : PyData) : Prop := Sz 600000 6 t
theorem th_tup {xs : List PyData} (h : ∀ p ∈ xs, Pt p) (hl : xs.length ≤ 60) : Th (.tuple xs) := (sz_tuple (c := 60) h hl).mono (by decide) (by decide)
theorem cut_mem {xs : List PyData} {lo hi : Option Int} {p : PyData} (h : p ∈ cut xs lo hi) : p ∈ xs := List.mem_of_mem_drop (List.mem_of_mem_take h)
theorem rep_mem {xs : List PyData} {k : Nat} {p : PyData} (h : p ∈ rep k xs) : p ∈ xs := by
  unfold rep at h
  obtain ⟨l, hl, hp⟩ := List.mem_flatten.mp h
  rw [(List.mem_replicate.mp hl).2] at hp
  exact hp
section
variable {c : C} {ρ : Ev.Env} {S1 S2 : Store} {own : Bool}
theorem line1000 {k : Nat} (h : k ≤ 1000) : decide (k ≤ sizeLine) = true := decide_eq_true (Nat.le_trans h (by decide))
theorem tadd {x y : Ex} {a b : List PyData} (h1 : ev c x ρ S = .ok (.d (.tuple a)) S1) (h2 : ev c y ρ S1 = .ok (.d (.tuple b)) S2) (hl : a.length + b.length ≤ 1000) : ev c (.bin own .Add x y) ρ S = .ok (.d (.tuple (a ++ b))) S2 := by
  rw [ev_bin2 h1 h2]
  show ((Ev.guard (decide (a.length + b.length ≤ sizeLine)) >>= fun _ => (pure (W.d (.tuple (a ++ b))) : M W)) S2) = _
  rw [line1000 hl]
  rfl
theorem slc_hi {a e : Ex} {xs : List PyData} {k : Int} (h1 : ev c a ρ S = .ok (.d (.tuple xs)) S) (hp : part e (ev c e ρ) = asInt (ev c e ρ)) (h2 : ev c e ρ S = .ok (dI k) S) : ev c (.slc own a .nop e) ρ S = .ok (.d (.tuple (cut xs none (some k)))) S := by
  show ((ev c a ρ >>= fun x => part .nop (ev c .nop ρ) >>= fun l => lift (optInt l) >>= fun lo' => part e (ev c e ρ) >>= fun u => lift (optInt u) >>= fun hi' => sliceW own x lo' hi') S) = _
  rw [bind_at, h1, hp]
  show ((asInt (ev c e ρ) >>= fun u => lift (optInt u) >>= fun hi' => sliceW own (.d (.tuple xs)) none hi') S) = _
  have e1 : asInt (ev c e ρ) S = .ok (dI k) S := by
    show ((ev c e ρ >>= fun w => match w with
      | .d (.int i) => (pure (.d (.int i)) : M W)
      | _ => bad) S) = _
    rw [bind_at, h2]
    rfl
  rw [bind_at, e1]
  rfl
theorem slc_lo {a e : Ex} {xs : List PyData} {k : Int} (h1 : ev c a ρ S = .ok (.d (.tuple xs)) S) (hp : part e (ev c e ρ) = asInt (ev c e ρ)) (h2 : ev c e ρ S = .ok (dI k) S2) : ev c (.slc own a e .nop) ρ S = .ok (.d (.tuple (cut xs (some k) none))) S2 := by
  show ((ev c a ρ >>= fun x => part e (ev c e ρ) >>= fun l => lift (optInt l) >>= fun lo' => part .nop (ev c .nop ρ) >>= fun u => lift (optInt u) >>= fun hi' => sliceW own x lo' hi') S) = _
  rw [bind_at, h1, hp]
  have e1 : asInt (ev c e ρ) S = .ok (dI k) S2 := by
    show ((ev c e ρ >>= fun w => match w with
      | .d (.int i) => (pure (.d (.int i)) : M W)
      | _ => bad) S) = _
    rw [bind_at, h2]
    rfl
  dsimp only
  rw [bind_at, e1]
  rfl
theorem tup1 {e : Ex} {x : PyData} (h : ev c e ρ S = .ok (.d x) S1) : ev c (.tup [e]) ρ S = .ok (.d (.tuple [x])) S1 := by
  show ((evs c [e] ρ >>= fun ws => pure (mkTup ws)) S) = _
  rw [bind_at, evs_ok h (ws := []) rfl]
  rfl
theorem tup2 {e e' : Ex} {x y : PyData} (h : ev c e ρ S = .ok (.d x) S1) (h' : ev c e' ρ S1 = .ok (.d y) S2) : ev c (.tup [e, e']) ρ S = .ok (.d (.tuple [x, y])) S2 := by
  show ((evs c [e, e'] ρ >>= fun ws => pure (mkTup ws)) S) = _
  rw [bind_at, evs_ok h (evs_ok h' (ws := []) rfl)]
  rfl
theorem repr_ok {e : Ex} {x : PyData} (hx : Th x) (h : ev c e ρ S = .ok (.d x) S1) : ev c (.blt false .repr [e]) ρ S = .ok (.d (.str x.shown)) S1 := by
  rw [ev_blt1 h]
  show ((Ev.guard (x.showable && decide (x.shown.length ≤ sizeLine) && decide (x.depth ≤ 64)) >>= fun _ => (pure (W.d (.str x.shown)) : M W)) S1) = _
  rw [hx.1, decide_eq_true (Nat.le_trans hx.2.2 (by decide)), decide_eq_true (Nat.le_trans hx.2.1 (by decide))]
  rfl
end
structure InvT (f : Nat) (S : Store) (ts : List PyData) : Prop where
  st : Stk 1 0 S
  fd : S[f]? = some (.lst (ts.map .d))
  ok : ∀ t ∈ ts, Th t
  hf : 2 ≤ f
theorem InvT.go {f : Nat} {S S' : Store} {ts : List PyData} (h : InvT f S ts) (st : Stk 1 0 S') (sm : Same 1 0 S S') : InvT f S' ts := ⟨st, (sm.at_ f (by have := h.hf; omega) (by have := h.hf; omega)).trans h.fd, h.ok, h.hf⟩
theorem InvT.app {f : Nat} {S : Store} {ts : List PyData} {t : PyData} (h : InvT f S ts) (ht : Th t) : InvT f (S.set f (.lst ((ts ++ [t]).map .d))) (ts ++ [t]) :=
  ⟨h.st.set_ne (by have := h.hf; omega) (by have := h.hf; omega), get_set h.fd, fun q hq => by
    rcases List.mem_append.mp hq with z | z
    · exact h.ok q z
    · rw [List.mem_singleton.mp z]; exact ht, h.hf⟩
abbrev body10 : List St := [.set (.tp [.nm 11, .nm 12]) (.tup [.call 6 [.var 1, .bin false .Add (.blt false .len [.var 4]) (.con (.int 1))], .call 6 [.var 1, .bin false .Add (.blt false .len [.var 4]) (.con (.int 1))]]), .set (.nm 8) (.bin false .Add (.bin false .Add (.slc false (.var 4) (.nop) (.var 11)) (.tup [.call 12 [.var 1]])) (.slc false (.var 4) (.bin false .Add (.var 11) (.call 6 [.var 1, .con (.int 2)])) (.nop))), .exp (.met .append (.var 6) [.var 8]), .exp (.met .append (.var 6) [.bin false .Add (.bin false .Add (.slc false (.var 8) (.nop) (.var 12)) (.tup [.call 12 [.var 1]])) (.slc false (.var 8) (.var 12) (.nop))])]
/-- the slots of the law's def -/
abbrev env (s g l o t nth once th he at_ to kn du : Option W) (a2 : Option W) : Ev.Env := [s, some (.ref 1), a2, g, l, o, t, nth, once, th, he, at_, to, kn, du]
theorem iter10 {f b : Nat} {S : Store} {ts loose : List PyData} {s g o nth once th he at_ to kn du a2 : Option W} (h : InvT f S ts) (hl : loose.length ≤ 6) (hp : ∀ p ∈ loose, Pt p) (ht : ts.length ≤ 1000) :
    ∃ once' at' to' S' ts', exs ⟨G, lvl G T F (n + 4), kwF T (lvl G T F (n + 4)), b, F⟩ body10 (env s g (some (.d (.tuple loose))) o (some (.ref f)) nth once th he at_ to kn du a2) S = .ok (.nx, env s g (some (.d (.tuple loose))) o (some (.ref f)) nth once' th he at' to' kn du a2) S' ∧ InvT f S' ts' ∧ ts'.length = ts.length + 2 := by
  let c : C := ⟨G, lvl G T F (n + 4), kwF T (lvl G T F (n + 4)), b, F⟩
  let ρ0 := env s g (some (.d (.tuple loose))) o (some (.ref f)) nth once th he at_ to kn du a2
  obtain ⟨at1, Sa, ea, _, _, sta, sma⟩ := s6 (F := F) (n := n + 3) (size := ((loose.length : Nat) : Int) + 1) h.st (by omega) (by omega)
  obtain ⟨to1, Sb, eb, _, _, stb, smb⟩ := s6 (F := F) (n := n + 3) (size := ((loose.length : Nat) : Int) + 1) sta (by omega) (by omega)
  obtain ⟨od1, Sc, ec, hod1, stc, smc⟩ := s12 (F := F) (n := n + 1) stb
  obtain ⟨k2, Sd, ed, _, _, std, smd⟩ := s6 (F := F) (n := n + 3) (size := 2) stc (by decide) (by decide)
  have hb := (h.go sta sma).go stb smb
  have hd := (hb.go stc smc).go std smd
  let ρ1 := env s g (some (.d (.tuple loose))) o (some (.ref f)) nth once th he (some (dI at1)) (some (dI to1)) kn du a2
  let onc : List PyData := cut loose none (some at1) ++ [od1] ++ cut loose (some (at1 + k2)) none
  let ρ2 := env s g (some (.d (.tuple loose))) o (some (.ref f)) nth (some (.d (.tuple onc))) th he (some (dI at1)) (some (dI to1)) kn du a2
  have ln : ∀ {S : Store}, ev c (.bin false .Add (.blt false .len [.var 4]) (.con (.int 1))) ρ0 S = .ok (dI (((loose.length : Nat) : Int) + 1)) S := add2 (ev_len (xs := loose) rfl) rfl
  have cl : ∀ {S S' : Store} {r : Int}, lvl G T F (n + 4) 6 [.ref 1, dI (((loose.length : Nat) : Int) + 1)] S = .ok (dI r) S' → ev c (.call 6 [.var 1, .bin false .Add (.blt false .len [.var 4]) (.con (.int 1))]) ρ0 S = .ok (dI r) S' := fun e => (ev_calls (evs_ok (w := .ref 1) rfl (evs_ok ln (ws := []) rfl))).trans e
  have t1 := tup2 (cl ea) (cl eb)
  have l1 : (cut loose none (some at1)).length ≤ 6 := Nat.le_trans (cut_length _ _ _) hl
  have l2 : (cut loose (some (at1 + k2)) none).length ≤ 6 := Nat.le_trans (cut_length _ _ _) hl
  have lo : onc.length ≤ 13 := by show (cut loose none (some at1) ++ [od1] ++ cut loose (some (at1 + k2)) none).length ≤ 13; simp only [List.length_append, List.length_singleton]; omega
  have hpo : ∀ p ∈ onc, Pt p := fun p hm => by
    rcases List.mem_append.mp hm with z | z
    · rcases List.mem_append.mp z with z | z
      · exact hp p (cut_mem z)
      · rw [List.mem_singleton.mp z]; exact hod1
    · exact hp p (cut_mem z)
  have t2 : ev c (.bin false .Add (.bin false .Add (.slc false (.var 4) (.nop) (.var 11)) (.tup [.call 12 [.var 1]])) (.slc false (.var 4) (.bin false .Add (.var 11) (.call 6 [.var 1, .con (.int 2)])) (.nop))) ρ1 Sb = .ok (.d (.tuple onc)) Sd := by
    refine tadd (S1 := Sc) (tadd (S1 := Sb) (slc_hi (xs := loose) (k := at1) rfl rfl rfl) (tup1 ((ev_calls (evs_ok (w := .ref 1) rfl (ws := []) rfl)).trans ec)) ?_) (slc_lo (xs := loose) (k := at1 + k2) rfl rfl ((ev_bin2 (w1 := dI at1) (w2 := dI k2) (S1 := Sc) rfl ((ev_calls (evs_ok (w := .ref 1) rfl (evs_ok (w := dI 2) rfl (ws := []) rfl))).trans ed)).trans rfl)) ?_
    · simp only [List.length_singleton]; omega
    · simp only [List.length_append, List.length_singleton]; omega
  have t3 : ev c (.met .append (.var 6) [.var 8]) ρ2 Sd = .ok (.d .none) (Sd.set f (.lst ((ts ++ [PyData.tuple onc]).map .d))) := app_ok (qs := ts) rfl hd.fd rfl hd.fd (Nat.lt_of_le_of_lt ht (by decide))
  have he1 := hd.app (th_tup hpo (by omega))
  obtain ⟨od2, Sf, ef, hod2, stf, smf⟩ := s12 (F := F) (n := n + 1) he1.st
  have hf := he1.go stf smf
  let tw : List PyData := cut onc none (some to1) ++ [od2] ++ cut onc (some to1) none
  have m1 : (cut onc none (some to1)).length ≤ 13 := Nat.le_trans (cut_length _ _ _) lo
  have m2 : (cut onc (some to1) none).length ≤ 13 := Nat.le_trans (cut_length _ _ _) lo
  have lt : tw.length ≤ 27 := by show (cut onc none (some to1) ++ [od2] ++ cut onc (some to1) none).length ≤ 27; simp only [List.length_append, List.length_singleton]; omega
  have hpt : ∀ p ∈ tw, Pt p := fun p hm => by
    rcases List.mem_append.mp hm with z | z
    · rcases List.mem_append.mp z with z | z
      · exact hpo p (cut_mem z)
      · rw [List.mem_singleton.mp z]; exact hod2
    · exact hpo p (cut_mem z)
  have t4 : ev c (.bin false .Add (.bin false .Add (.slc false (.var 8) (.nop) (.var 12)) (.tup [.call 12 [.var 1]])) (.slc false (.var 8) (.var 12) (.nop))) ρ2 (Sd.set f (.lst ((ts ++ [PyData.tuple onc]).map .d))) = .ok (.d (.tuple tw)) Sf := by
    refine tadd (S1 := Sf) (tadd (slc_hi (xs := onc) (k := to1) rfl rfl rfl) (tup1 ((ev_calls (evs_ok (w := .ref 1) rfl (ws := []) rfl)).trans ef)) ?_) (slc_lo (xs := onc) (k := to1) rfl rfl rfl) ?_
    · simp only [List.length_singleton]; omega
    · simp only [List.length_append, List.length_singleton]; omega
  have t5 := app_ok (c := c) (ρ := ρ2) (k := 6) (qs := ts ++ [PyData.tuple onc]) rfl he1.fd t4 hf.fd (by rw [List.length_append, List.length_singleton]; exact Nat.lt_of_le_of_lt (Nat.succ_le_succ ht) (by decide))
  exact ⟨_, _, _, _, _, (exs_set t1 (ρ' := ρ1) rfl).trans ((exs_set t2 (ρ' := ρ2) rfl).trans ((exs_exp t3).trans ((exs_exp t5).trans rfl))), hf.app (th_tup hpt (by omega)), by simp⟩
theorem loop10 {f b : Nat} {loose : List PyData} {s g o th he kn du a2 : Option W} (hl : loose.length ≤ 6) (hp : ∀ p ∈ loose, Pt p) : ∀ (ws : List W) (S : Store) (ts : List PyData) (nth once at_ to : Option W), InvT f S ts → ts.length + 2 * ws.length ≤ 1000 →
    ∃ nth' once' at' to' S' ts', forLoop (fun ρ' => exs ⟨G, lvl G T F (n + 4), kwF T (lvl G T F (n + 4)), b, F⟩ body10 ρ') (.nm 7) ws (env s g (some (.d (.tuple loose))) o (some (.ref f)) nth once th he at_ to kn du a2) S = .ok (.nx, env s g (some (.d (.tuple loose))) o (some (.ref f)) nth' once' th he at' to' kn du a2) S' ∧ InvT f S' ts' ∧ ts'.length = ts.length + 2 * ws.length
  | [], S, ts, nth, once, at_, to, h, _ => ⟨_, _, _, _, S, ts, rfl, h, rfl⟩
  | w :: ws, S, ts, nth, once, at_, to, h, hn => by
    rw [List.length_cons] at hn
    obtain ⟨o1, a1, t1, S1, ts1, e1, h1, l1⟩ := iter10 (F := F) (n := n) (b := b) (s := s) (g := g) (o := o) (nth := some w) (once := once) (th := th) (he := he) (at_ := at_) (to := to) (kn := kn) (du := du) (a2 := a2) h hl hp (by omega)
    obtain ⟨nth', o2, a2', t2, S2, ts2, e2, h2, l2⟩ := loop10 hl hp ws S1 ts1 (some w) o1 a1 t1 h1 (by omega)
    exact ⟨nth', o2, a2', t2, S2, ts2, (for_nx rfl e1).trans e2, h2, by rw [l2, l1, List.length_cons]; omega⟩
end L41

-- part P12
set_option maxHeartbeats 2000000
namespace L41
open PySem Ev
variable {F n : Nat} {S : Store}
theorem errO_th : ∀ (xs : List PyData) (k : Nat) {y : PyData}, k + xs.length ≤ 1000 → errO k xs = some y → Th y
  | [], k, y, _, e => by cases e
  | x :: xs, k, y, hl, e => by
    rw [List.length_cons] at hl
    unfold errO at e
    split at e
    · exact errO_th xs (k + 1) (by omega) e
    · cases e
      refine (sz_tuple (c := 3) (m := 1921) (d := 0) (fun p hp => ?_) (by show (2 : Nat) ≤ 3; decide)).mono (by decide) (by decide)
      simp only [List.mem_cons, List.mem_nil_iff, or_false] at hp
      rcases hp with z | z
      · rw [z]; exact sz_word (by decide +kernel)
      · rw [z]; exact sz_small (by omega) (by omega)
theorem form_th : Th (.str "form") := ⟨rfl, by decide, by decide +kernel⟩
theorem err_th (t : PyData) : Th (err t) := by
  cases t with
  | tuple xs =>
    rw [err_tup]
    by_cases q : (40 : Int) < (xs.length : Nat)
    · rw [if_pos (decide_eq_true q)]
      exact form_th
    · rw [if_neg (by simpa using q)]
      cases e : errO 0 xs with
      | none => exact ⟨rfl, by decide, by decide +kernel⟩
      | some y => exact errO_th xs 0 (by omega) e
  | _ => exact form_th
abbrev body20 : List St := [.set (.tp [.nm 13, .nm 14]) (.tup [.blt false .repr [.var 9], .blt false .repr [.call 11 [.var 9]]]), .set (.nm 10) (.ite (.cmp .Eq (.bin false .Mod (.var 7) (.con (.int 3))) (.con (.int 0))) (.callk 4 [] ["value"] [.var 9]) (.call 4 [.var 9])), .iff (.or (.cmp .NotEq (.blt false .repr [.var 10]) (.var 14)) (.or (.cmp .NotEq (.blt false .repr [.call 4 [.var 9]]) (.var 14)) (.cmp .NotEq (.blt false .repr [.var 9]) (.var 13)))) [.ret (.con (.bool false))] []]
theorem ne_same {c : C} {ρ : Ev.Env} {x y : Ex} {a : Str} (h1 : ev c x ρ S = .ok (.d (.str a)) S) (h2 : ev c y ρ S = .ok (.d (.str a)) S) : ev c (.cmp .NotEq x y) ρ S = .ok (.d (.bool false)) S := by
  refine ev_cmp2 h1 h2 ?_
  show Out.ok (!(a == a)) S = _
  rw [beq_self_eq_true]
  rfl
theorem iter20 {b k : Nat} {t : PyData} {s g l o tt once he at_ to kn du a2 : Option W} (ht : Th t) : ∃ he' kn' du', exs ⟨G, lvl G T F (n + 4), kwF T (lvl G T F (n + 4)), b, F⟩ body20 (env s g l o tt (some (dI (k : Nat))) once (some (.d t)) he at_ to kn du a2) S = .ok (.nx, env s g l o tt (some (dI (k : Nat))) once (some (.d t)) he' at_ to kn' du' a2) S := by
  let c : C := ⟨G, lvl G T F (n + 4), kwF T (lvl G T F (n + 4)), b, F⟩
  have r4 : lvl G T F (n + 4) 4 [.d t] S = .ok (.d (err t)) S := s4 t
  have r11 : lvl G T F (n + 4) 11 [.d t] S = .ok (.d (err t)) S := s11 (n := n + 1) t
  let ρ1 := env s g l o tt (some (dI (k : Nat))) once (some (.d t)) he at_ to (some (.d (.str t.shown))) (some (.d (.str (err t).shown))) a2
  let ρ2 := env s g l o tt (some (dI (k : Nat))) once (some (.d t)) (some (.d (err t))) at_ to (some (.d (.str t.shown))) (some (.d (.str (err t).shown))) a2
  have c4 : ∀ {ρ : Ev.Env}, ρ[9]? = some (some (.d t)) → ev c (.var 9) ρ S = .ok (.d t) S := fun {ρ} h => by
    show (match ρ[9]? with
      | some (some w) => (pure w : M W)
      | _ => bad) S = _
    rw [h]
    rfl
  have t1 : ev c (.tup [.blt false .repr [.var 9], .blt false .repr [.call 11 [.var 9]]]) (env s g l o tt (some (dI (k : Nat))) once (some (.d t)) he at_ to kn du a2) S = .ok (.d (.tuple [.str t.shown, .str (err t).shown])) S :=
    tup2 (repr_ok ht (c4 rfl)) (repr_ok (err_th t) ((ev_one (c4 rfl)).trans r11))
  have t2 : ev c (.ite (.cmp .Eq (.bin false .Mod (.var 7) (.con (.int 3))) (.con (.int 0))) (.callk 4 [] ["value"] [.var 9]) (.call 4 [.var 9])) ρ1 S = .ok (.d (err t)) S := by
    rw [ev_ite2 (k := ((k : Nat) : Int).fmod 3 == 0) (S1 := S) (ev_cmp2 (mod2 (i := ((k : Nat) : Int)) (j := 3) rfl rfl (by decide)) rfl (cmpI _ _))]
    by_cases q : (((k : Nat) : Int).fmod 3 == 0) = true
    · rw [if_pos q]
      exact (show ev c (.callk 4 [] ["value"] [.var 9]) ρ1 S = lvl G T F (n + 4) 4 [.d t] S from rfl).trans r4
    · rw [if_neg q]
      exact (ev_one (c4 rfl)).trans r4
  have t3 : ev c (.or (.cmp .NotEq (.blt false .repr [.var 10]) (.var 14)) (.or (.cmp .NotEq (.blt false .repr [.call 4 [.var 9]]) (.var 14)) (.cmp .NotEq (.blt false .repr [.var 9]) (.var 13)))) ρ2 S = .ok (.d (.bool false)) S := by
    rw [ev_or (k := false) (ne_same (repr_ok (x := err t) (err_th t) rfl) rfl), if_neg Bool.false_ne_true, ev_or (k := false) (ne_same (repr_ok (err_th t) ((ev_one (c4 rfl)).trans r4)) rfl), if_neg Bool.false_ne_true]
    exact ne_same (repr_ok ht (c4 rfl)) rfl
  exact ⟨_, _, _, (exs_set t1 (ρ' := ρ1) rfl).trans ((exs_set t2 (ρ' := ρ2) rfl).trans ((exs_no t3).trans rfl))⟩
theorem loop20 {b : Nat} {s g l o tt once at_ to a2 : Option W} : ∀ (ts : List PyData) (k : Nat) (nth th he kn du : Option W), (∀ t ∈ ts, Th t) → ∃ nth' th' he' kn' du', forLoop (fun ρ' => exs ⟨G, lvl G T F (n + 4), kwF T (lvl G T F (n + 4)), b, F⟩ body20 ρ') (.tp [.nm 7, .nm 9]) (enumW k (ts.map .d)) (env s g l o tt nth once th he at_ to kn du a2) S = .ok (.nx, env s g l o tt nth' once th' he' at_ to kn' du' a2) S
  | [], k, nth, th, he, kn, du, _ => ⟨_, _, _, _, _, rfl⟩
  | t :: ts, k, nth, th, he, kn, du, h => by
    obtain ⟨h1, k1, d1, e1⟩ := iter20 (F := F) (n := n) (S := S) (b := b) (k := k) (t := t) (s := s) (g := g) (l := l) (o := o) (tt := tt) (once := once) (he := he) (at_ := at_) (to := to) (kn := kn) (du := du) (a2 := a2) (h t List.mem_cons_self)
    obtain ⟨n2, t2, h2, k2, d2, e2⟩ := loop20 (b := b) (s := s) (g := g) (l := l) (o := o) (tt := tt) (once := once) (at_ := at_) (to := to) (a2 := a2) ts (k + 1) (some (dI (k : Nat))) (some (.d t)) h1 k1 d1 fun u hu => h u (List.mem_cons_of_mem _ hu)
    exact ⟨n2, t2, h2, k2, d2, (for_nx (w := mkTup [.d (.int (k : Nat)), .d t]) rfl e1).trans e2⟩
end L41

-- part P13
set_option maxHeartbeats 2000000
namespace L41
open PySem Ev
variable {F n : Nat} {S : Store}
theorem cut_hi {α : Type} (xs : List α) (k : Nat) : (cut xs none (some (k : Nat))).length ≤ k := by
  unfold cut
  have : HT.sIx xs.length xs.length (some ((k : Nat) : Int)) ≤ k := by
    rw [HT.sIx_nat]
    exact Nat.min_le_left _ _
  rw [List.length_take]
  omega
theorem Stk.push {i j : Nat} {S : Store} {cl : Cell} (h : Stk i j S) : Stk i j (S ++ [cl]) := by
  have h0 := h.lt
  obtain ⟨ne, ⟨d0, ds, sm, t, hi⟩, gs, hj, hg⟩ := h
  exact ⟨ne, ⟨d0, ds, sm, t, by rw [List.getElem?_append_left h0.1]; exact hi⟩, gs, by rw [List.getElem?_append_left h0.2]; exact hj, hg⟩
abbrev bodyT : List St := [.set (.nm 3) (.call 7 [.var 1, .lst false [.con (.int 4), .bin false .Sub (.bin false .Pow (.con (.int 10)) (.con (.int 30))) (.con (.int 9)), .bin false .Pow (.con (.int 10)) (.con (.int 29))]]), .set (.nm 4) (.call 8 [.var 1, .con (.int 6), .var 3, .call 7 [.var 1, .lst false [.con (.int 0), .con (.int 1), .con (.int 3), .con (.int 9)]]]), .set (.nm 5) (.bin false .Mult (.bin false .Add (.var 4) (.tup [.tup [.con (.str "turn")]])) (.con (.int 40))), .set (.nm 6) (.lst true [.var 4, .blt false .listOf [.var 4], .slc false (.var 5) (.nop) (.con (.int 40)), .slc false (.var 5) (.nop) (.con (.int 41)), .tup [], .con .none, .tup [.var 4], .dic, .con (.int 7), .con (.str "turn"), .con (.bool true)]), .exp (.met .append (.var 6) [.bin false .Add (.var 4) (.tup [.tup [.con (.str "delay"), .con (.int 0)]])]), .forr (.nm 7) .rng1 [.con (.int 10)] body10, .set (.nm 6) (.bin true .Add (.var 6) (.lst false [.bin false .Add (.slc false (.var 5) (.nop) (.con (.int 40))) (.tup [.call 12 [.var 1]]), .lst false [.call 12 [.var 1]]])), .exp (.met .append (.var 6) [.bin false .Add (.slc false (.var 5) (.nop) (.con (.int 39))) (.tup [.call 12 [.var 1]])]), .frz 6, .forr (.tp [.nm 7, .nm 9]) .enum [.var 6] body20]
theorem ex_for {c : C} {ρ ρ' : Ev.Env} {tg : Tg} {k : Ik} {its : List Ex} {body : List St} {ws ys : List W} {S S1 S2 : Store} (h1 : evs c its ρ S = .ok ws S1) (h2 : yields k ws S1 = .ok ys S1) (h3 : forLoop (fun ρ' => exs c body ρ') tg ys ρ S1 = .ok (.nx, ρ') S2) : ex c (.forr tg k its body) ρ S = .ok (.nx, ρ') S2 := by
  show ((evs c its ρ >>= fun ws => yields k ws >>= fun ys => forLoop (fun ρ' => exs c body ρ') tg ys ρ) S) = _
  rw [bind_at, h1]
  dsimp only
  rw [bind_at, h2]
  exact h3
theorem iterT {b : Nat} {S : Store} {s g l o t nth once th he at_ to kn du a2 : Option W} (h : Stk 1 0 S) (h2 : 2 ≤ S.length) :
    ∃ g' l' o' t' nth' once' th' he' at' to' kn' du' S', exs ⟨G, lvl G T F (n + 4), kwF T (lvl G T F (n + 4)), b, F⟩ bodyT (env s g l o t nth once th he at_ to kn du a2) S = .ok (.nx, env s g' l' o' t' nth' once' th' he' at' to' kn' du' a2) S' ∧ Stk 1 0 S' ∧ 2 ≤ S'.length := by
  let c : C := ⟨G, lvl G T F (n + 4), kwF T (lvl G T F (n + 4)), b, F⟩
  let ρ0 := env s g l o t nth once th he at_ to kn du a2
  -- great
  obtain ⟨gd, Sa, ea, hg, sta, sma⟩ := s7 (F := F) (n := n + 2) (xs := [.int 4, .int (big - 9), .int (10 ^ 29)]) h (by simp) (by decide)
  obtain ⟨gr, rfl, g0, g1⟩ : ∃ gr : Int, gd = .int gr ∧ 0 ≤ gr ∧ gr ≤ 10 ^ 31 := by
    simp only [List.mem_cons, List.mem_nil_iff, or_false] at hg
    rcases hg with z | z | z
    · exact ⟨_, z, by decide, by decide⟩
    · exact ⟨_, z, by decide, by decide⟩
    · exact ⟨_, z, by decide, by decide⟩
  let ρ1 := env s (some (dI gr)) l o t nth once th he at_ to kn du a2
  have t1 : ev c (.call 7 [.var 1, .lst false [.con (.int 4), .bin false .Sub (.bin false .Pow (.con (.int 10)) (.con (.int 30))) (.con (.int 9)), .bin false .Pow (.con (.int 10)) (.con (.int 29))]]) ρ0 S = .ok (dI gr) Sa := (ev_calls (evs_ok (w := .ref 1) rfl (evs_ok (w := .d (.list [.int 4, .int (big - 9), .int (10 ^ 29)])) rfl (ws := []) rfl))).trans ea
  -- loose
  obtain ⟨wd, Sb, eb, hw, stb, smb⟩ := s7 (F := F) (n := n + 2) (xs := [.int 0, .int 1, .int 3, .int 9]) sta (by simp) (by decide)
  obtain ⟨wi, rfl, w0, w1⟩ : ∃ wi : Int, wd = .int wi ∧ 0 ≤ wi ∧ wi ≤ 900 := by
    simp only [List.mem_cons, List.mem_nil_iff, or_false] at hw
    rcases hw with z | z | z | z <;> exact ⟨_, z, by decide, by decide⟩
  obtain ⟨ps, Sc, ec, hps, hpl, stc, smc⟩ := s8 (F := F) (n := n + 1) (parts := 6) (most := gr) (wide := wi) stb (by decide) (by decide) g0 g1 w0 w1
  have hl6 : ps.length ≤ 6 := by omega
  have hpt : ∀ p ∈ ps, Pt p := fun p hp => (hps p hp).mono (by decide) (by decide)
  let ρ2 := env s (some (dI gr)) (some (.d (.tuple ps))) o t nth once th he at_ to kn du a2
  have t2 : ev c (.call 8 [.var 1, .con (.int 6), .var 3, .call 7 [.var 1, .lst false [.con (.int 0), .con (.int 1), .con (.int 3), .con (.int 9)]]]) ρ1 Sa = .ok (.d (.tuple ps)) Sc :=
    (ev_calls (evs_ok (w := .ref 1) rfl (evs_ok (w := dI 6) rfl (evs_ok (w := dI gr) rfl (evs_ok ((ev_calls (evs_ok (w := .ref 1) rfl (evs_ok (w := .d (.list [.int 0, .int 1, .int 3, .int 9])) rfl (ws := []) rfl))).trans eb) (ws := []) rfl))))).trans ec
  have lc : 2 ≤ Sc.length := by rw [smc.len, smb.len, sma.len]; exact h2
  -- forty
  let row : List PyData := ps ++ [.tuple [.str "turn"]]
  let forty : List PyData := rep 40 row
  have hrow : ∀ p ∈ row, Pt p := fun p hm => by
    rcases List.mem_append.mp hm with z | z
    · exact hpt p z
    · rw [List.mem_singleton.mp z]
      exact (sz_tuple (c := 1) (m := 1921) (d := 0) (fun x hx => by rw [List.mem_singleton.mp hx]; exact sz_word (by decide +kernel)) (by show (1 : Nat) ≤ 1; decide)).mono (by decide) (by decide)
  have hfor : ∀ p ∈ forty, Pt p := fun p hm => hrow p (rep_mem hm)
  have hrl : row.length ≤ 7 := by show (ps ++ [_]).length ≤ 7; rw [List.length_append, List.length_singleton]; omega
  let ρ3 := env s (some (dI gr)) (some (.d (.tuple ps))) (some (.d (.tuple forty))) t nth once th he at_ to kn du a2
  have t3 : ev c (.bin false .Mult (.bin false .Add (.var 4) (.tup [.tup [.con (.str "turn")]])) (.con (.int 40))) ρ2 Sc = .ok (.d (.tuple forty)) Sc := by
    rw [ev_bin2 (tadd (a := ps) (b := [.tuple [.str "turn"]]) (S1 := Sc) (S2 := Sc) rfl rfl (by rw [List.length_singleton]; omega)) (w2 := dI 40) rfl]
    show ((Ev.guard (decide ((2 : Int) ≤ 40) && decide ((40 : Int) ≤ 1000) && decide (row.length ≤ 1000) && !row.isEmpty) >>= fun _ => (pure (W.d (.tuple (rep 40 row))) : M W)) Sc) = _
    have : (decide ((2 : Int) ≤ 40) && decide ((40 : Int) ≤ 1000) && decide (row.length ≤ 1000) && !row.isEmpty) = true := by
      rw [decide_eq_true (show row.length ≤ 1000 by omega)]
      have : row.isEmpty = false := by
        show (ps ++ [PyData.tuple [.str "turn"]]).isEmpty = false
        cases ps <;> rfl
      rw [this]
      rfl
    rw [this]
    rfl
  -- things
  let ts0 : List PyData := [.tuple ps, .list ps, .tuple (cut forty none (some 40)), .tuple (cut forty none (some 41)), .tuple [], .none, .tuple [.tuple ps], .dict [], .int 7, .str "turn", .bool true]
  let f : Nat := Sc.length
  let S1 : Store := Sc ++ [.lst (ts0.map .d)]
  let ρ4 := env s (some (dI gr)) (some (.d (.tuple ps))) (some (.d (.tuple forty))) (some (.ref f)) nth once th he at_ to kn du a2
  have sl : ∀ {S : Store} (k : Int) {ρ : Ev.Env}, ρ[5]? = some (some (.d (.tuple forty))) → ev c (.slc false (.var 5) (.nop) (.con (.int k))) ρ S = .ok (.d (.tuple (cut forty none (some k)))) S := fun {S} k {ρ} hr => slc_hi (xs := forty) (k := k) (by
    show (match ρ[5]? with
      | some (some w) => (pure w : M W)
      | _ => bad) S = _
    rw [hr]
    rfl) rfl rfl
  have t4 : ev c (.lst true [.var 4, .blt false .listOf [.var 4], .slc false (.var 5) (.nop) (.con (.int 40)), .slc false (.var 5) (.nop) (.con (.int 41)), .tup [], .con .none, .tup [.var 4], .dic, .con (.int 7), .con (.str "turn"), .con (.bool true)]) ρ3 Sc = .ok (.ref f) S1 := by
    have lo : ev c (.blt false .listOf [.var 4]) ρ3 Sc = .ok (.d (.list ps)) Sc := by
      rw [ev_blt1 (w := .d (.tuple ps)) (S1 := Sc) rfl]
      show mkLst false (ps.map W.d) Sc = _
      unfold mkLst
      rw [if_neg Bool.false_ne_true, allData_map]
      rfl
    exact (ev_lsts (evs_ok (w := .d (.tuple ps)) (S1 := Sc) rfl (evs_ok lo (evs_ok (sl 40 rfl) (evs_ok (sl 41 rfl) (S2 := Sc) (ws := [.d (.tuple []), .d .none, .d (.tuple [.tuple ps]), .d (.dict []), dI 7, .d (.str "turn"), .d (.bool true)]) rfl))))).trans rfl
  have hts0 : ∀ t ∈ ts0, Th t := fun t ht => by
    simp only [ts0, List.mem_cons, List.mem_nil_iff, or_false] at ht
    rcases ht with z | z | z | z | z | z | z | z | z | z | z <;> subst z
    · exact th_tup hpt (by omega)
    · exact (sz_list (c := 60) hpt (by omega)).mono (by decide) (by decide)
    · exact th_tup (fun p hp => hfor p (cut_mem hp)) (Nat.le_trans (cut_hi forty 40) (by decide))
    · exact th_tup (fun p hp => hfor p (cut_mem hp)) (Nat.le_trans (cut_hi forty 41) (by decide))
    · exact th_tup (fun p hp => by cases hp) (by show (0 : Nat) ≤ 60; decide)
    · exact ⟨rfl, by decide, by decide +kernel⟩
    · exact (sz_tuple (c := 1) (m := 540125) (d := 5) (fun x hx => by rw [List.mem_singleton.mp hx]; exact (sz_tuple (c := 60) hpt (by omega)).mono (by decide) (by decide)) (by show (1 : Nat) ≤ 1; decide)).mono (by decide) (by decide)
    · exact ⟨rfl, by decide, by decide +kernel⟩
    · exact (sz_small (by decide) (by decide)).mono (by decide) (by decide)
    · exact (sz_word (by decide +kernel)).mono (by decide) (by decide)
    · exact ⟨rfl, by decide, by decide +kernel⟩
  have i1 : InvT f S1 ts0 := ⟨stc.push, by show (Sc ++ [_])[Sc.length]? = _; simp, hts0, lc⟩
  -- one more
  have t5 : ev c (.met .append (.var 6) [.bin false .Add (.var 4) (.tup [.tup [.con (.str "delay"), .con (.int 0)]])]) ρ4 S1 = .ok (.d .none) (S1.set f (.lst ((ts0 ++ [PyData.tuple (ps ++ [.tuple [.str "delay", .int 0]])]).map .d))) :=
    app_ok (qs := ts0) rfl i1.fd (tadd (a := ps) (b := [.tuple [.str "delay", .int 0]]) (S1 := S1) (S2 := S1) rfl rfl (by rw [List.length_singleton]; omega)) i1.fd (by show (11 : Nat) < sizeLine; decide)
  have hdl : Th (.tuple (ps ++ [.tuple [.str "delay", .int 0]])) := th_tup (fun p hm => by
    rcases List.mem_append.mp hm with z | z
    · exact hpt p z
    · rw [List.mem_singleton.mp z]
      refine (sz_tuple (c := 2) (m := 1921) (d := 0) (fun x hx => ?_) (by show (2 : Nat) ≤ 2; decide)).mono (by decide) (by decide)
      simp only [List.mem_cons, List.mem_nil_iff, or_false] at hx
      rcases hx with z | z
      · rw [z]; exact sz_word (by decide +kernel)
      · rw [z]; exact sz_small (by decide) (by decide)) (by rw [List.length_append, List.length_singleton]; omega)
  have i2 := i1.app hdl
  -- ten turns
  obtain ⟨nth1, once1, at1, to1, S3, ts3, e6, i3, l3⟩ := loop10 (F := F) (n := n) (b := b) (loose := ps) (s := s) (g := some (dI gr)) (o := some (.d (.tuple forty))) (th := th) (he := he) (kn := kn) (du := du) (a2 := a2) hl6 hpt (rangeL 0 10) _ _ nth once at_ to i2 (by
    rw [rangeL_len, List.length_append, List.length_singleton]; show 11 + 1 + 2 * 10 ≤ 1000; decide)
  have hl3 : ts3.length ≤ 100 := by rw [l3, rangeL_len, List.length_append, List.length_singleton]; show 11 + 1 + 2 * 10 ≤ 100; decide
  have t6 : ex c (.forr (.nm 7) .rng1 [.con (.int 10)] body10) ρ4 (S1.set f (.lst ((ts0 ++ [PyData.tuple (ps ++ [.tuple [.str "delay", .int 0]])]).map .d))) = .ok (.nx, env s (some (dI gr)) (some (.d (.tuple ps))) (some (.d (.tuple forty))) (some (.ref f)) nth1 once1 th he at1 to1 kn du a2) S3 := ex_for (ws := [dI 10]) rfl rfl e6
  let ρ5 := env s (some (dI gr)) (some (.d (.tuple ps))) (some (.d (.tuple forty))) (some (.ref f)) nth1 once1 th he at1 to1 kn du a2
  -- two more
  obtain ⟨od1, S4, e7, ho1, st4, sm4⟩ := s12 (F := F) (n := n + 1) i3.st
  have i4 := i3.go st4 sm4
  obtain ⟨od2, S5, e8, ho2, st5, sm5⟩ := s12 (F := F) (n := n + 1) i4.st
  have i5 := i4.go st5 sm5
  have o12 : ∀ {S S' : Store} {x : PyData} {ρ : Ev.Env}, ρ[1]? = some (some (.ref 1)) → lvl G T F (n + 4) 12 [.ref 1] S = .ok (.d x) S' → ev c (.call 12 [.var 1]) ρ S = .ok (.d x) S' := fun {S S' x ρ} hr e => (ev_one (by
    show (match ρ[1]? with
      | some (some w) => (pure w : M W)
      | _ => bad) S = _
    rw [hr]
    rfl)).trans e
  let A1 : PyData := .tuple (cut forty none (some 40) ++ [od1])
  let A2 : PyData := .list [od2]
  let ts6 : List PyData := ts3 ++ [A1, A2]
  let f2 : Nat := S5.length
  let S6 : Store := S5 ++ [.lst (ts6.map .d)]
  have l5 : 2 ≤ S5.length := by
    have := (List.getElem?_eq_some_iff.mp i5.fd).1
    have := i5.hf
    omega
  have lA : ∀ (k : Nat), k ≤ 59 → (cut forty none (some (k : Nat))).length + 1 ≤ 60 := fun k hk => by have := cut_hi forty k; omega
  have t7 : ev c (.bin true .Add (.var 6) (.lst false [.bin false .Add (.slc false (.var 5) (.nop) (.con (.int 40))) (.tup [.call 12 [.var 1]]), .lst false [.call 12 [.var 1]]])) ρ5 S3 = .ok (.ref f2) S6 := by
    have q1 : ev c (.bin false .Add (.slc false (.var 5) (.nop) (.con (.int 40))) (.tup [.call 12 [.var 1]])) ρ5 S3 = .ok (.d A1) S4 := tadd (sl 40 rfl) (tup1 (o12 rfl e7)) (by have := lA 40 (by decide); rw [List.length_singleton]; exact Nat.le_trans this (by decide))
    have q2 : ev c (.lst false [.call 12 [.var 1]]) ρ5 S4 = .ok (.d A2) S5 := (ev_lsts (evs_ok (o12 rfl e8) (ws := []) rfl)).trans rfl
    have q3 : ev c (.lst false [.bin false .Add (.slc false (.var 5) (.nop) (.con (.int 40))) (.tup [.call 12 [.var 1]]), .lst false [.call 12 [.var 1]]]) ρ5 S3 = .ok (.d (.list [A1, A2])) S5 := (ev_lsts (evs_ok q1 (evs_ok q2 (ws := []) rfl))).trans rfl
    refine (ev_bin2 (w1 := .ref f) (S1 := S3) rfl q3).trans ?_
    show ((seqW (.ref f) >>= fun ws => Ev.guard (decide (ws.length + 2 ≤ sizeLine)) >>= fun _ => mkLst true (ws ++ [A1, A2].map W.d)) S5) = _
    rw [bind_at, seq_ref i5.fd]
    dsimp only
    rw [bind_at, guard_at, line1000 (by rw [List.length_map]; omega), if_pos rfl, ← List.map_append]
    rfl
  have hA1 : Th A1 := th_tup (fun p hm => by
    rcases List.mem_append.mp hm with z | z
    · exact hfor p (cut_mem z)
    · rw [List.mem_singleton.mp z]; exact ho1) (by rw [List.length_append, List.length_singleton]; exact lA 40 (by decide))
  have hA2 : Th A2 := (sz_list (c := 1) (m := 9000) (d := 4) (fun x hx => by rw [List.mem_singleton.mp hx]; exact ho2) (by show (1 : Nat) ≤ 1; decide)).mono (by decide) (by decide)
  have i6 : InvT f2 S6 ts6 := ⟨i5.st.push, by show (S5 ++ [_])[S5.length]? = _; simp, fun t ht => by
    rcases List.mem_append.mp ht with z | z
    · exact i5.ok t z
    · simp only [List.mem_cons, List.mem_nil_iff, or_false] at z
      rcases z with z | z
      · rw [z]; exact hA1
      · rw [z]; exact hA2, l5⟩
  have hl6' : ts6.length ≤ 102 := by show (ts3 ++ [A1, A2]).length ≤ 102; rw [List.length_append]; show ts3.length + 2 ≤ 102; omega
  let ρ6 := env s (some (dI gr)) (some (.d (.tuple ps))) (some (.d (.tuple forty))) (some (.ref f2)) nth1 once1 th he at1 to1 kn du a2
  -- the last one
  obtain ⟨od3, S7, e9, ho3, st7, sm7⟩ := s12 (F := F) (n := n + 1) i6.st
  have i7 := i6.go st7 sm7
  let A3 : PyData := .tuple (cut forty none (some 39) ++ [od3])
  have t8 : ev c (.met .append (.var 6) [.bin false .Add (.slc false (.var 5) (.nop) (.con (.int 39))) (.tup [.call 12 [.var 1]])]) ρ6 S6 = .ok (.d .none) (S7.set f2 (.lst ((ts6 ++ [A3]).map .d))) :=
    app_ok (qs := ts6) rfl i6.fd (tadd (sl 39 rfl) (tup1 (o12 rfl e9)) (by have := lA 39 (by decide); rw [List.length_singleton]; exact Nat.le_trans this (by decide))) i7.fd (Nat.lt_of_le_of_lt hl6' (by decide))
  have hA3 : Th A3 := th_tup (fun p hm => by
    rcases List.mem_append.mp hm with z | z
    · exact hfor p (cut_mem z)
    · rw [List.mem_singleton.mp z]; exact ho3) (by rw [List.length_append, List.length_singleton]; exact lA 39 (by decide))
  have i8 := i7.app hA3
  let ts8 := ts6 ++ [A3]
  let S8 : Store := S7.set f2 (.lst (ts8.map .d))
  let S9 : Store := S8.set f2 .gone
  let ρ7 := env s (some (dI gr)) (some (.d (.tuple ps))) (some (.d (.tuple forty))) (some (.d (.list ts8))) nth1 once1 th he at1 to1 kn du a2
  have t9 : ex c (.frz 6) ρ6 S8 = .ok (.nx, ρ7) S9 := by
    show ((freeze (.ref f2) >>= fun w => (pure (Fl.nx, ρ6.set 6 (some w)) : M (Fl × Ev.Env))) S8) = _
    have : freeze (.ref f2) S8 = .ok (.d (.list ts8)) S9 := by
      show (match S8[f2]? with
        | some (.lst ws) => (match allData ws with
          | some xs => Out.ok (W.d (.list xs)) (S8.set f2 .gone)
          | none => .bad)
        | _ => .bad) = _
      rw [i8.fd]
      dsimp only
      rw [allData_map]
    rw [bind_at, this]
    rfl
  obtain ⟨nth2, th2, he2, kn2, du2, e10⟩ := loop20 (F := F) (n := n) (S := S9) (b := b) (s := s) (g := some (dI gr)) (l := some (.d (.tuple ps))) (o := some (.d (.tuple forty))) (tt := some (.d (.list ts8))) (once := once1) (at_ := at1) (to := to1) (a2 := a2) ts8 0 nth1 th he kn du i8.ok
  have t10 : ex c (.forr (.tp [.nm 7, .nm 9]) .enum [.var 6] body20) ρ7 S9 = .ok (.nx, env s (some (dI gr)) (some (.d (.tuple ps))) (some (.d (.tuple forty))) (some (.d (.list ts8))) nth2 once1 th2 he2 at1 to1 kn2 du2 a2) S9 := ex_for (ws := [.d (.list ts8)]) (ys := enumW 0 (ts8.map .d)) rfl rfl e10
  have hf2 : 2 ≤ f2 := l5
  refine ⟨_, _, _, _, _, _, _, _, _, _, _, _, S9, (exs_set t1 (ρ' := ρ1) rfl).trans ((exs_set t2 (ρ' := ρ2) rfl).trans ((exs_set t3 (ρ' := ρ3) rfl).trans ((exs_set t4 (ρ' := ρ4) rfl).trans ((exs_exp t5).trans ((exs_nx t6).trans ((exs_set t7 (ρ' := ρ6) rfl).trans ((exs_exp t8).trans ((exs_nx t9).trans ((exs_nx t10).trans rfl))))))))), ?_, ?_⟩
  · exact i8.st.set_ne (by omega) (by omega)
  · show 2 ≤ ((S7.set f2 _).set f2 _).length
    rw [List.length_set, List.length_set]
    have := (List.getElem?_eq_some_iff.mp i7.fd).1
    omega
theorem loopT {b : Nat} {s : Option W} : ∀ (ws : List W) (S : Store) (g l o t nth once th he at_ to kn du a2 : Option W), Stk 1 0 S → 2 ≤ S.length → ∃ ρ S', forLoop (fun ρ' => exs ⟨G, lvl G T F (n + 4), kwF T (lvl G T F (n + 4)), b, F⟩ bodyT ρ') (.nm 2) ws (env s g l o t nth once th he at_ to kn du a2) S = .ok (.nx, ρ) S'
  | [], S, g, l, o, t, nth, once, th, he, at_, to, kn, du, a2, _, _ => ⟨_, S, rfl⟩
  | w :: ws, S, g, l, o, t, nth, once, th, he, at_, to, kn, du, a2, h, h2 => by
    obtain ⟨g', l', o', t', nth', once', th', he', at', to', kn', du', S', e, hs, hl⟩ := iterT (F := F) (n := n) (b := b) (s := s) (g := g) (l := l) (o := o) (t := t) (nth := nth) (once := once) (th := th) (he := he) (at_ := at_) (to := to) (kn := kn) (du := du) (a2 := some w) h h2
    obtain ⟨ρ, S2, e2⟩ := loopT ws S' g' l' o' t' nth' once' th' he' at' to' kn' du' (some w) hs hl
    exact ⟨ρ, S2, (for_nx rfl e).trans e2⟩
theorem pure_law (ns : List Int) (hl : ns.length ≤ 63) : ∃ S', lvl G T F 20 13 [.d (.list (ns.map .int))] [] = .ok (.d (.bool true)) S' := by
  let n : Nat := 15
  let c : C := ⟨G, lvl G T F (n + 4), kwF T (lvl G T F (n + 4)), 0, F⟩
  obtain ⟨S1, e1, st, l1⟩ := s5 (F := F) (n := n + 3) ns hl
  let v : W := .d (.list (ns.map .int))
  obtain ⟨ρ, S2, e2⟩ := loopT (F := F) (n := n) (b := 0) (s := some v) (rangeL 0 4) S1 none none none none none none none none none none none none none st (by omega)
  have t1 : ev c (.call 5 [.var 0]) [some v, none, none, none, none, none, none, none, none, none, none, none, none, none, none] [] = .ok (.ref 1) S1 := (ev_one (w := v) (S1 := []) rfl).trans e1
  have t2 : ex c (.forr (.nm 2) .rng1 [.con (.int 4)] bodyT) [some v, some (.ref 1), none, none, none, none, none, none, none, none, none, none, none, none, none] S1 = .ok (.nx, ρ) S2 := ex_for (ws := [dI 4]) rfl rfl e2
  have t3 : ev c (.cmp .Eq (.call 4 [.tup [.tup [.con (.str "off"), .con (.bool true), .con (.int 2)]]]) (.tup [.con (.str "part"), .con (.int 0)])) ρ S2 = .ok (.d (.bool true)) S2 := by
    have a : ev c (.call 4 [.tup [.tup [.con (.str "off"), .con (.bool true), .con (.int 2)]]]) ρ S2 = .ok (.d (err (.tuple [.tuple [.str "off", .bool true, .int 2]]))) S2 := (ev_one (w := .d (.tuple [.tuple [.str "off", .bool true, .int 2]])) (S1 := S2) rfl).trans (show lvl G T F 19 4 [.d (.tuple [.tuple [.str "off", .bool true, .int 2]])] S2 = _ from s4 (F := F) (n := 15) (S := S2) _)
    have er : err (.tuple [.tuple [.str "off", .bool true, .int 2]]) = .tuple [.str "part", .int 0] := by
      have q : lp (.tuple [.str "off", .bool true, .int 2]) = false := by decide +kernel
      rw [err_tup]
      show (match (if lp (.tuple [.str "off", .bool true, .int 2]) = true then errO 1 [] else some (.tuple [.str "part", .int (0 : Nat)])) with
        | some y => y
        | none => PyData.none) = _
      rw [q]
      rfl
    rw [er] at a
    exact ev_cmp2 (w2 := .d (.tuple [.str "part", .int 0])) (k := true) a rfl (eqM_ok (x := .tuple [.str "part", .int 0]) (y := .tuple [.str "part", .int 0]) (by decide +kernel) (by decide +kernel))
  have hb : exs c d13.body [some v, none, none, none, none, none, none, none, none, none, none, none, none, none, none] [] = .ok (.rt (.d (.bool true)), ρ) S2 := (exs_set t1 (ρ' := [some v, some (.ref 1), none, none, none, none, none, none, none, none, none, none, none, none, none]) rfl).trans ((exs_nx t2).trans (exs_ret t3))
  refine ⟨S2.take 0, ?_⟩
  show fin' 0 (exs c d13.body [some v, none, none, none, none, none, none, none, none, none, none, none, none, none, none] []) = _
  rw [hb]
  rfl
theorem holds41 : PySem.Challenge.rw_latewires_k41_what_is_a_loose_row.Holds := holds_of 0 fun ns hl => pure_law ns hl
end L41

theorem PySem.Challenge.cw_latewires_k41_what_is_a_loose_row_holds : PySem.Challenge.rw_latewires_k41_what_is_a_loose_row.Holds := by
  exact L41.holds41
