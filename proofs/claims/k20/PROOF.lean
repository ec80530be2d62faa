import PyProof.Rows.All
import Wide.All
import OpenK.AllK
import Wide.FinOn
import HandS.ForExc
import HandS.Comp
import HandS.Iter
import HandS.Deep
import HandS.Wide
import HandS.Style
import HandS.Lambda
import HandS.Defaults
import HandS.TupAny
import HandS.SortInts
import HandS.IsInst
import HandS.ExcCtx
import HandS.HotCalls
import HandS.ExcIs
import HandS.Head0
import HandS.Head1
import HandS.Head2
import HandS.HeadEnd
import HandS.HeadHook1
import HandS.HeadHook2
import HandS.HeadHook3
import HandS.HeadHook4
import HandS.HeadWalk
import PySem.Challenge.RW_rimway_k20_whole_room
set_option Elab.async false
set_option linter.all false
set_option maxRecDepth 100000
set_option maxHeartbeats 4000000
/-! # A small language over data: its meaning, and how it is read off a def's text -/
namespace Rw
open PySem

abbrev D := PyData
/-- the refusals -/
inductive ErrC where
  | badReach | noRoom | noWall | tooMany | nothing
  deriving DecidableEq
/-- an answer, a refusal, or no word -/
inductive M (α : Type) where
  | ok (a : α)
  | err (c : ErrC)
  | stuck
def M.bind {α β : Type} : M α → (α → M β) → M β
  | .ok a, f => f a
  | .err c, _ => .err c
  | .stuck, _ => .stuck
/-- a refusal is no word here -/
def M.quiet {α : Type} : M α → M α
  | .ok a => .ok a
  | _ => .stuck
abbrev Fn := List D → M D
/-- what a slot holds: nothing known, a datum, a list of one's own -/
inductive Sl where
  | un
  | val (d : D)
  | own (l : List D)
abbrev Fr := List Sl
/-- how a statement ends -/
inductive Fl where
  | nx (e : Fr)
  | bk (e : Fr)
  | ct (e : Fr)
  | rt (d : D)
  | err (c : ErrC)
  | stuck

/-! ## the language -/
inductive BOp where
  | add | sub | mul | fdiv | mod | shl | pow
  deriving DecidableEq
inductive COp where
  | lt | le | gt | ge | eq | ne | in_ | nin
  deriving DecidableEq
inductive Blt where
  | len | abs | int | min2 | max2 | any | all | sum | list | tuple | sorted
  deriving DecidableEq
inductive Ty where
  | bool | list | tuple | str | dict
  deriving DecidableEq
mutual
inductive Tg where
  | nm (i : Nat)
  | tp (ts : Tgs)
  | ls (ts : Tgs)
inductive Tgs where
  | nil
  | cons (t : Tg) (ts : Tgs)
end
mutual
inductive Ex where
  | var (i : Nat)
  | int (n : Int)
  | none
  | bl (b : Bool)
  | str (s : Str)
  | neg (a : Ex)
  | glob (j : Nat)
  | tup (es : Exs)
  | lst (es : Exs)
  | bin (op : BOp) (a b : Ex)
  | cmp (op : COp) (a b : Ex)
  | chain (op op' : COp) (a b c : Ex)
  | isN (a : Ex)
  | isNN (a : Ex)
  | andE (es : Exs)
  | orE (es : Exs)
  | notE (a : Ex)
  | ite (t a b : Ex)
  | idx (a i : Ex)
  | slL (a lo : Ex)
  | slU (a hi : Ex)
  | slB (a lo hi : Ex)
  | slR (a : Ex)
  | call (g : Nat) (es : Exs)
  | blt (b : Blt) (es : Exs)
  | isI (t : Ty) (a : Ex)
  | index (a b : Ex)
  /- the law's told(lambda: b) -/
  | told (b : Ex)
  | comp (own : List (Str × Nat)) (tg : Tg) (it : It) (cs : Exs) (elt : Ex)
inductive Exs where
  | nil
  | cons (e : Ex) (es : Exs)
inductive It where
  | lst (e : Ex)
  | tup (e : Ex)
  | rng1 (e : Ex)
  | rng2 (a b : Ex)
  | enum (e : Ex)
  | zip (a b : Ex)
  | rev (e : Ex)
end
mutual
inductive St where
  | cont
  /- l: lists of one's own are read -/
  | asg (l : Bool) (t : Tg) (e : Ex)
  | par (i j : Nat) (a b : Ex)
  | ownL (i : Nat) (e : Ex)
  | app (l : Bool) (i : Nat) (e : Ex)
  | ext (i : Nat) (e : Ex)
  | pop (i : Nat)
  | expr (e : Ex)
  | ret (l : Bool) (e : Ex)
  | retN
  | ifS (l : Bool) (c : Ex) (a b : Sts)
  | whl (l : Bool) (fuel : Fr → Nat) (c : Ex) (b : Sts)
  | forS (t : Tg) (it : It) (b : Sts)
  | raise (c : ErrC) (x m : Str)
inductive Sts where
  | nil
  /-- from here on the list of one's own at i is a datum (no row of the text) -/
  | frz (i : Nat) (ss : Sts)
  | cons (s : St) (ss : Sts)
end

/-! ## its meaning -/
/-- defs by their names, constants of the module by their names -/
structure FnE where
  x : Str
  n : Nat
  F : Fn
structure Rho where
  fn : List FnE
  gc : List (Str × D)

def big : Nat := 100000
def mulOk (i j : Int) : Bool := decide (-(2 ^ 64) < i ∧ i < 2 ^ 64) || decide (-(2 ^ 64) < j ∧ j < 2 ^ 64) || decide (i.natAbs.log2 + j.natAbs.log2 < 1000000)
def divOk (j : Int) : Bool := decide (0 < j) && decide (j.natAbs.log2 < 9000)
def powOk (i j : Int) : Bool := decide (0 ≤ j) && decide (j ≤ 1000000) && decide (i.natAbs < 2 ^ 64)
def okIf {α : Type} (b : Bool) (a : α) : M α := if b then .ok a else .stuck
def binD : BOp → D → D → M D
  | .add, .int i, .int j => .ok (.int (i + j))
  | .add, .list a, .list b => okIf (decide (a.length + b.length ≤ big)) (.list (a ++ b))
  | .add, .tuple a, .tuple b => okIf (decide (a.length + b.length ≤ big)) (.tuple (a ++ b))
  | .sub, .int i, .int j => .ok (.int (i - j))
  | .mul, .int i, .int j => okIf (mulOk i j) (.int (i * j))
  | .mul, .list a, .int k => okIf (decide (0 ≤ k) && decide (k ≤ big) && decide (a.length * k.toNat ≤ big)) (.list (List.replicate k.toNat a).flatten)
  | .fdiv, .int i, .int j => okIf (divOk j) (.int (i / j))
  | .mod, .int i, .int j => okIf (decide (0 < j)) (.int (i % j))
  | .shl, .int i, .int j => okIf (powOk i j) (.int (i * 2 ^ j.toNat))
  | .pow, .int i, .int j => okIf (powOk i j) (.int (i ^ j.toNat))
  | _, _, _ => .stuck
def eqD (a b : D) : M Bool := okIf (SeqAt.shaped a && SeqAt.shaped b) (PyData.eqv a b)
def inD (a b : D) : M Bool := match b with
  | .list ds => okIf (SeqAt.shaped a && SeqAt.shaped (.list ds)) (ds.any fun z => PyData.eqv z a)
  | _ => .stuck
def cmpD : COp → D → D → M Bool
  | .lt, .int i, .int j => .ok (decide (i < j))
  | .le, .int i, .int j => .ok (decide (i ≤ j))
  | .gt, .int i, .int j => .ok (decide (j < i))
  | .ge, .int i, .int j => .ok (decide (j ≤ i))
  | .eq, a, b => eqD a b
  | .ne, a, b => (eqD a b).bind fun k => .ok (!k)
  | .in_, a, b => inD a b
  | .nin, a, b => (inD a b).bind fun k => .ok (!k)
  | _, _, _ => .stuck
def isNoneD : D → Bool
  | .none => true
  | _ => false
def boolD : D → M Bool
  | .bool b => .ok b
  | _ => .stuck
def idxD : D → D → M D
  | .list l, .int i => match L2.atI l i with
    | some d => .ok d
    | none => .stuck
  | .tuple l, .int i => match L2.atI l i with
    | some d => .ok d
    | none => .stuck
  | _, _ => .stuck
def cutD (xs : List D) (lo hi : Option Int) : List D := (xs.drop (HT.sIx xs.length 0 lo)).take (HT.sIx xs.length xs.length hi - HT.sIx xs.length 0 lo)
def slD (d : D) (lo hi : Option Int) : M D := match d with
  | .list xs => .ok (.list (cutD xs lo hi))
  | _ => .stuck
def intM : D → M Int
  | .int i => .ok i
  | _ => .stuck
def revD : D → M D
  | .list xs => .ok (.list xs.reverse)
  | _ => .stuck
def negD : D → M D
  | .int i => .ok (.int (-i))
  | _ => .stuck
def intsD : List D → Option (List Int)
  | [] => some []
  | .int i :: r => (intsD r).map (i :: ·)
  | _ => none
def boolsD : List D → Option (List Bool)
  | [] => some []
  | .bool b :: r => (boolsD r).map (b :: ·)
  | _ => none
def bltD : Blt → List D → M D
  | .len, [.list l] => .ok (.int l.length)
  | .len, [.tuple l] => .ok (.int l.length)
  | .abs, [.int i] => .ok (.int (if i < 0 then -i else i))
  | .int, [.int i] => .ok (.int i)
  | .int, [.bool b] => .ok (.int (if b then 1 else 0))
  | .min2, [.int i, .int j] => .ok (.int (if j < i then j else i))
  | .max2, [.int i, .int j] => .ok (.int (if j > i then j else i))
  | .any, [.list l] => match boolsD l with
    | some bs => .ok (.bool (bs.any id))
    | none => .stuck
  | .all, [.list l] => match boolsD l with
    | some bs => .ok (.bool (bs.all id))
    | none => .stuck
  | .sum, [.list l] => match intsD l with
    | some ns => .ok (.int ns.sum)
    | none => .stuck
  | .sorted, [.list l] => match intsD l with
    | some ns => .ok (.list ((ns.mergeSort fun i j => decide (i ≤ j)).map .int))
    | none => .stuck
  | .list, [.list l] => .ok (.list l)
  | .list, [.tuple l] => .ok (.list l)
  | .tuple, [.list l] => .ok (.tuple l)
  | .tuple, [.tuple l] => .ok (.tuple l)
  | _, _ => .stuck
def isIb : Ty → D → Bool
  | .bool, .bool _ => true
  | .list, .list _ => true
  | .tuple, .tuple _ => true
  | .str, .str _ => true
  | .dict, .dict _ => true
  | _, _ => false
def indexD (ds : List D) (y : D) : M D := if SeqAt.shaped (.list ds) && SeqAt.shaped y then match ds.findIdx? fun z => PyData.eqv z y with
    | some j => .ok (.int (j : Nat))
    | none => .stuck
  else .stuck
def wipeF (e : Fr) : List Nat → Fr
  | [] => e
  | v :: vs => (wipeF e vs).set v .un
mutual
def semTg : Tg → D → Fr → Option Fr
  | .nm i, d, e => if i < e.length then some (e.set i (.val d)) else none
  | .tp ts, .tuple ds, e => semTgs ts ds e
  | .ls ts, .list ds, e => semTgs ts ds e
  | _, _, _ => none
def semTgs : Tgs → List D → Fr → Option Fr
  | .nil, [], e => some e
  | .cons t ts, d :: ds, e => match semTg t d e with
    | some e' => semTgs ts ds e'
    | none => none
  | _, _, _ => none
end
def tgslen : Tgs → Nat
  | .nil => 0
  | .cons _ ts => tgslen ts + 1
def tgsN : Nat → Int
  | n => n
/-- a comprehension's turns -/
def compN (f : D → M (Option D)) : List D → M (List D)
  | [] => .ok []
  | d :: ds => (f d).bind fun o => (compN f ds).bind fun r => match o with
    | some y => .ok (y :: r)
    | none => .ok r
def rangeD (lo : Int) (n : Nat) : List D := (List.range n).map fun (k : Nat) => .int (lo + (k : Int))
def smallI (j : Int) : Bool := decide (-(2 ^ 62) ≤ j) && decide (j < 2 ^ 62)
def slotD : Option Sl → M D
  | some (.val d) => .ok d
  | _ => .stuck
def gcD : Option (Str × D) → M D
  | some p => .ok p.2
  | none => .stuck
/-- what is walked -/
def itL : D → M (List D)
  | .list l => .ok l
  | _ => .stuck
def itT : D → M (List D)
  | .tuple l => .ok l
  | _ => .stuck
def itR1 : D → M (List D)
  | .int j => okIf (smallI j) (rangeD 0 j.toNat)
  | _ => .stuck
def itR2 : D → D → M (List D)
  | .int i, .int j => okIf (smallI i && smallI j) (rangeD i (j - i).toNat)
  | _, _ => .stuck
def itE : D → M (List D)
  | .list l => .ok (l.zipIdx.map fun p => .tuple [.int p.2, p.1])
  | _ => .stuck
def itZ : D → D → M (List D)
  | .list l, .list m => .ok (List.zipWith (fun p q => .tuple [p, q]) l m)
  | _, _ => .stuck
def itV : D → M (List D)
  | .list l => .ok l.reverse
  | _ => .stuck
/-- a comprehension's turn -/
def compF (tg : Tg) (own : List Nat) (fc : Fr → M Bool) (fe : Fr → M D) (e : Fr) (d : D) : M (Option D) := match semTg tg d (wipeF e own) with
  | some e' => (fc e').bind fun k => if k then (fe e').bind fun y => .ok (some y) else .ok none
  | none => .stuck
def compV (f : D → M (Option D)) (items : List D) : M D := if items.length ≤ big then (compN f items).quiet.bind fun r => .ok (.list r) else .stuck
def fnD (ρ : Rho) (g : Nat) (ds : List D) : M D := match ρ.fn[g]? with
  | some p => p.F ds
  | none => .stuck
/-- the word of a refusal -/
def wordOf : ErrC → Option Str
  | .badReach => some "BadReach"
  | .noRoom => some "NoRoom"
  | .noWall => some "NoWall"
  | .tooMany => some "TooMany"
  | .nothing => none
/-- what a deed tells, or the refusal's word -/
def toldM : M D → M D
  | .ok d => .ok d
  | .err c => match wordOf c with
    | some x => .ok (.str x)
    | none => .stuck
  | .stuck => .stuck
def exsLen : Exs → Nat
  | .nil => 0
  | .cons _ es => exsLen es + 1
mutual
def semE (ρ : Rho) : Ex → Fr → M D
  | .var i, e => slotD e[i]?
  | .int n, _ => .ok (.int n)
  | .none, _ => .ok .none
  | .bl b, _ => .ok (.bool b)
  | .str s, _ => .ok (.str s)
  | .neg a, e => (semE ρ a e).bind negD
  | .glob j, _ => gcD ρ.gc[j]?
  | .tup es, e => (semEs ρ es e).bind fun ds => okIf (decide (ds.length ≤ big)) (.tuple ds)
  | .lst es, e => (semEs ρ es e).bind fun ds => okIf (decide (ds.length ≤ big)) (.list ds)
  | .bin op a b, e => (semE ρ a e).bind fun x => (semE ρ b e).bind fun y => binD op x y
  | .cmp op a b, e => (semE ρ a e).bind fun x => (semE ρ b e).bind fun y => (cmpD op x y).bind fun k => .ok (.bool k)
  | .chain op op' a b c, e => (semE ρ a e).bind fun x => (semE ρ b e).bind fun y => (cmpD op x y).bind fun k =>
      if k then (semE ρ c e).bind fun z => (cmpD op' y z).bind fun k => .ok (.bool k) else .ok (.bool false)
  | .isN a, e => (semE ρ a e).bind fun x => .ok (.bool (isNoneD x))
  | .isNN a, e => (semE ρ a e).bind fun x => .ok (.bool (!isNoneD x))
  | .andE es, e => semAnd ρ es e
  | .orE es, e => semOr ρ es e
  | .notE a, e => (semE ρ a e).bind fun x => (boolD x).bind fun k => .ok (.bool (!k))
  | .ite t a b, e => (semT ρ t e).bind fun k => if k then semE ρ a e else semE ρ b e
  | .idx a i, e => (semE ρ a e).bind fun x => (semE ρ i e).bind fun y => idxD x y
  | .slL a lo, e => (semE ρ a e).bind fun x => (semE ρ lo e).bind fun y => (intM y).bind fun i => slD x (some i) none
  | .slU a hi, e => (semE ρ a e).bind fun x => (semE ρ hi e).bind fun y => (intM y).bind fun i => slD x none (some i)
  | .slB a lo hi, e => (semE ρ a e).bind fun x => (semE ρ lo e).bind fun y => (intM y).bind fun i => (semE ρ hi e).bind fun z => (intM z).bind fun j => slD x (some i) (some j)
  | .slR a, e => (semE ρ a e).bind revD
  | .call g es, e => (semEs ρ es e).bind fun ds => fnD ρ g ds
  | .blt b es, e => (semEs ρ es e).bind fun ds => bltD b ds
  | .isI t a, e => (semE ρ a e).bind fun x => .ok (.bool (isIb t x))
  | .index a b, e => (semE ρ a e).bind fun x => (itL x).bind fun ds => (semE ρ b e).bind fun y => indexD ds y
  | .told b, e => toldM (semE ρ b e)
  | .comp own tg it cs elt, e => (semIt ρ it e).bind (compV (compF tg (own.map (·.2)) (semCs ρ cs) (semE ρ elt) e))
/-- as a test -/
def semT (ρ : Rho) : Ex → Fr → M Bool
  | .notE a, e => (semT ρ a e).bind fun k => .ok (!k)
  | .andE es, e => semTAnd ρ es e
  | .orE es, e => semTOr ρ es e
  | .ite _ _ _, _ => .stuck
  | .cmp op a b, e => (semE ρ a e).bind fun x => (semE ρ b e).bind fun y => cmpD op x y
  | .chain op op' a b c, e => (semE ρ a e).bind fun x => (semE ρ b e).bind fun y => (cmpD op x y).bind fun k =>
      if k then (semE ρ c e).bind fun z => cmpD op' y z else .ok false
  | .isN a, e => (semE ρ a e).bind fun x => .ok (isNoneD x)
  | .isNN a, e => (semE ρ a e).bind fun x => .ok (!isNoneD x)
  | .var i, e => (slotD e[i]?).bind boolD
  | .bl b, _ => .ok b
  | .idx a i, e => ((semE ρ a e).bind fun x => (semE ρ i e).bind fun y => idxD x y).bind boolD
  | .call g es, e => ((semEs ρ es e).bind fun ds => fnD ρ g ds).bind boolD
  | .blt b es, e => ((semEs ρ es e).bind fun ds => bltD b ds).bind boolD
  | .isI t a, e => ((semE ρ a e).bind fun x => .ok (.bool (isIb t x))).bind boolD
  | _, _ => .stuck
def semAnd (ρ : Rho) : Exs → Fr → M D
  | .nil, _ => .stuck
  | .cons a .nil, e => semE ρ a e
  | .cons a (.cons b r), e => (semE ρ a e).bind fun x => (boolD x).bind fun k => if k then semAnd ρ (.cons b r) e else .ok (.bool false)
def semOr (ρ : Rho) : Exs → Fr → M D
  | .nil, _ => .stuck
  | .cons a .nil, e => semE ρ a e
  | .cons a (.cons b r), e => (semE ρ a e).bind fun x => (boolD x).bind fun k => if k then .ok (.bool true) else semOr ρ (.cons b r) e
def semTAnd (ρ : Rho) : Exs → Fr → M Bool
  | .nil, _ => .stuck
  | .cons a .nil, e => semT ρ a e
  | .cons a (.cons b r), e => (semT ρ a e).bind fun k => if k then semTAnd ρ (.cons b r) e else .ok false
def semTOr (ρ : Rho) : Exs → Fr → M Bool
  | .nil, _ => .stuck
  | .cons a .nil, e => semT ρ a e
  | .cons a (.cons b r), e => (semT ρ a e).bind fun k => if k then .ok true else semTOr ρ (.cons b r) e
def semEs (ρ : Rho) : Exs → Fr → M (List D)
  | .nil, _ => .ok []
  | .cons a r, e => (semE ρ a e).bind fun x => (semEs ρ r e).bind fun xs => .ok (x :: xs)
/-- a comprehension's tests: none, or one -/
def semCs (ρ : Rho) : Exs → Fr → M Bool
  | .nil, _ => .ok true
  | .cons a .nil, e => semT ρ a e
  | _, _ => .stuck
def semIt (ρ : Rho) : It → Fr → M (List D)
  | .lst a, e => (semE ρ a e).bind itL
  | .tup a, e => (semE ρ a e).bind itT
  | .rng1 a, e => (semE ρ a e).bind itR1
  | .rng2 a b, e => (semE ρ a e).bind fun x => (semE ρ b e).bind fun y => itR2 x y
  | .enum a, e => (semE ρ a e).bind itE
  | .zip a b, e => (semE ρ a e).bind fun x => (semE ρ b e).bind fun y => itZ x y
  | .rev a, e => (semE ρ a e).bind itV
end

theorem semEs_len {ρ : Rho} : ∀ {es : Exs} {e : Fr} {ds : List D}, semEs ρ es e = .ok ds → ds.length = exsLen es
  | .nil, e, ds, h => by
    simp only [semEs, M.ok.injEq] at h
    subst h; rfl
  | .cons a r, e, ds, h => by
    simp only [semEs] at h
    cases h1 : semE ρ a e with
    | ok x =>
      rw [h1] at h
      cases h2 : semEs ρ r e with
      | ok xs =>
        rw [h2] at h
        simp only [M.bind, M.ok.injEq] at h
        subst h
        rw [List.length_cons, semEs_len h2]; rfl
      | _ => rw [h2] at h; simp [M.bind] at h
    | _ => rw [h1] at h; simp [M.bind] at h
def brF (m : M Bool) (k : Bool → Fl) : Fl := match m with
  | .ok b => k b
  | .err c => .err c
  | .stuck => .stuck
def seqF (r : Fl) (f : Fr → Fl) : Fl := match r with
  | .nx e' => f e'
  | r => r
/-- behind a loop's turn -/
def turnF (r : Fl) (f : Fr → Fl) : Fl := match r with
  | .nx e' => f e'
  | .ct e' => f e'
  | .bk e' => .nx e'
  | .rt v => .rt v
  | .err c => .err c
  | .stuck => .stuck
def tgF (o : Option Fr) (f : Fr → Fl) : Fl := match o with
  | some e => f e
  | none => .stuck
def itF (m : M (List D)) (f : List D → Fl) : Fl := match m with
  | .ok l => f l
  | .err c => .err c
  | .stuck => .stuck
/-- a loop's turns -/
def forN (f : D → Fr → Fl) : List D → Fr → Fl
  | [], e => .nx e
  | d :: ds, e => turnF (f d e) (forN f ds)
def whileN (c : Fr → M Bool) (f : Fr → Fl) : Nat → Fr → Fl
  | 0, _ => .stuck
  | n + 1, e => brF (c e) fun b => if b then turnF (f e) (whileN c f n) else .nx e
def toFl : M D → (D → Fl) → Fl
  | .ok d, f => f d
  | .err c, _ => .err c
  | .stuck, _ => .stuck
def ownAt (e : Fr) (i : Nat) (f : List D → Fl) : Fl := match e[i]? with
  | some (.own l) => f l
  | _ => .stuck
def listD : D → (List D → Fl) → Fl
  | .list l, f => f l
  | _, _ => .stuck
/-- no list within -/
def flatD : D → Bool
  | .list _ => false
  | .dict _ => false
  | .tuple xs => flatAll xs
  | .none | .bool _ | .int _ | .str _ => true
where flatAll : List D → Bool
  | [] => true
  | x :: xs => flatD x && flatAll xs
def lendS : Sl → Sl
  | .own l => .val (.list l)
  | s => s
/-- the lists of one's own, read -/
def lendF (e : Fr) : Fr := e.map lendS
/-- a value; l: taken while lists of one's own are read, no list within -/
def evS (ρ : Rho) (l : Bool) (a : Ex) (e : Fr) : M D := if l then (semE ρ a (lendF e)).bind fun d => if flatD d then .ok d else .stuck else semE ρ a e
def evT (ρ : Rho) (l : Bool) (a : Ex) (e : Fr) : M Bool := if l then semT ρ a (lendF e) else semT ρ a e
mutual
def semS (ρ : Rho) : St → Fr → Fl
  | .cont, e => .ct e
  | .asg l t a, e => toFl (evS ρ l a e) fun d => tgF (semTg t d e) .nx
  | .par i j a b, e => toFl (semE ρ a e) fun x => toFl (semE ρ b e) fun y => if i < e.length ∧ j < e.length then .nx ((e.set i (.val x)).set j (.val y)) else .stuck
  | .ownL i a, e => toFl (semE ρ a e) fun d => listD d fun l => if i < e.length then .nx (e.set i (.own l)) else .stuck
  | .app l i a, e => ownAt e i fun xs => toFl (evS ρ l a e) fun d => if xs.length < big then .nx (e.set i (.own (xs ++ [d]))) else .stuck
  | .ext i a, e => ownAt e i fun l => toFl (semE ρ a e) fun d => listD d fun m => if l.length + m.length ≤ big then .nx (e.set i (.own (l ++ m))) else .stuck
  | .pop i, e => ownAt e i fun l => if l = [] then .stuck else .nx (e.set i (.own l.dropLast))
  | .expr a, e => toFl (semE ρ a e) fun _ => .nx e
  | .ret l a, e => toFl (semE ρ a (if l then lendF e else e)) .rt
  | .retN, _ => .rt .none
  | .ifS l c a b, e => brF (evT ρ l c e) fun k => if k then semSs ρ a e else semSs ρ b e
  | .whl l fuel c b, e => whileN (evT ρ l c) (semSs ρ b) (fuel e) e
  | .forS t it b, e => itF (semIt ρ it e) fun items => forN (fun d e' => tgF (semTg t d e') (semSs ρ b)) items e
  | .raise c _ _, _ => .err c
def semSs (ρ : Rho) : Sts → Fr → Fl
  | .nil, e => .nx e
  | .frz i r, e => ownAt e i fun l => semSs ρ r (e.set i (.val (.list l)))
  | .cons s r, e => seqF (semS ρ s e) (semSs ρ r)
end
/-- a def: its body at its arguments -/
def endFl : Fl → M D
  | .nx _ => .ok .none
  | .rt d => .ok d
  | .err c => .err c
  | _ => .stuck
def runD (ρ : Rho) (body : Sts) (n : Nat) : Fn := fun ds => endFl (semSs ρ body (ds.map Sl.val ++ List.replicate (n - ds.length) .un))
end Rw
namespace Rw
open PySem PySem.Spec PyProof.Rows
open L2 hiding St

/-! ## data in the abstract heap -/
section
variable (K : PySem.W.Frag) (S : Hp)
mutual
inductive Rp : V → D → Prop
  | non : Rp .non .none
  | bl (b : Bool) : Rp (.bl b) (.bool b)
  | int (i : Int) : Rp (.int i) (.int i)
  | str (x : Str) : Rp (.str x) (.str x)
  | lst {a : Addr} {xs : List V} {ds : List D} : Rd S a (.lst xs) → RpAll xs ds → Rp (.ref a) (.list ds)
  | tup {a : Addr} {xs : List V} {ds : List D} : SqT K S a xs → RpAll xs ds → Rp (.ref a) (.tuple ds)
inductive RpAll : List V → List D → Prop
  | nil : RpAll [] []
  | cons {v : V} {vs : List V} {d : D} {ds : List D} : Rp v d → RpAll vs ds → RpAll (v :: vs) (d :: ds)
end
end
def Xt (S S' : Hp) : Prop := ∀ a o, S a = some o → S' a = some o
theorem Xt.refl (S : Hp) : Xt S S := fun _ _ h => h
theorem Xt.trans {A B C : Hp} (h : Xt A B) (g : Xt B C) : Xt A C := fun a o e => g a o (h a o e)
theorem Xt.new {S : Hp} {p : Addr} {o : HO} (h : S p = none) : Xt S (upd S p o) := fun a u e => by
  rw [upd_ne (ne_of_none e h)]; exact e
theorem ex_rd {S S' : Hp} {a : Addr} {u : HO} (e : Xt S S') (h : Rd S a u) : Rd S' a u := by
  rcases h with h | ⟨o, h⟩
  · exact .inl (e a _ h)
  · exact .inr ⟨o, e a _ h⟩
theorem ex_t {K : PySem.W.Frag} {S S' : Hp} {a : Addr} {xs : List V} (e : Xt S S') (h : SqT K S a xs) : SqT K S' a xs := by
  rcases h with h | h
  · exact .inl (ex_rd e h)
  · exact .inr h
section
variable {K : PySem.W.Frag} {S S' : Hp}
mutual
theorem Rp.mono (e : Xt S S') : ∀ (d : D) (v : V), Rp K S v d → Rp K S' v d
  | .none, _, h => by cases h; exact .non
  | .bool _, _, h => by cases h; exact .bl _
  | .int _, _, h => by cases h; exact .int _
  | .str _, _, h => by cases h; exact .str _
  | .list ds, _, h => by
    cases h with
    | lst h1 h2 => exact .lst (ex_rd e h1) (RpAll.mono e ds _ h2)
  | .tuple ds, _, h => by
    cases h with
    | tup h1 h2 => exact .tup (ex_t e h1) (RpAll.mono e ds _ h2)
  | .dict _, _, h => by cases h
theorem RpAll.mono (e : Xt S S') : ∀ (ds : List D) (vs : List V), RpAll K S vs ds → RpAll K S' vs ds
  | [], _, h => by cases h; exact .nil
  | d :: ds, _, h => by
    cases h with
    | cons h1 h2 => exact .cons (Rp.mono e d _ h1) (RpAll.mono e ds _ h2)
end
mutual
theorem Rp.dp : ∀ (d : D) (v : V), Rp K S v d → Dp K S v d
  | .none, _, h => by cases h; exact .non
  | .bool _, _, h => by cases h; exact .bl _
  | .int _, _, h => by cases h; exact .int _
  | .str _, _, h => by cases h; exact .str _
  | .list ds, _, h => by
    cases h with
    | lst h1 h2 => exact .lst (.inl h1) (RpAll.dp ds _ h2)
  | .tuple ds, _, h => by
    cases h with
    | tup h1 h2 => exact .tup h1 (RpAll.dp ds _ h2)
  | .dict _, _, h => by cases h
theorem RpAll.dp : ∀ (ds : List D) (vs : List V), RpAll K S vs ds → DpAll K S vs ds
  | [], _, h => by cases h; exact .nil
  | d :: ds, _, h => by
    cases h with
    | cons h1 h2 => exact .cons (Rp.dp d _ h1) (RpAll.dp ds _ h2)
end
/- a datum without lists leans on no list -/
mutual
theorem Rp.flat (hk : ∀ a o, S a = some o → (∀ xs, o ≠ .lst xs) → S' a = some o) : ∀ (d : D) (v : V), flatD d = true → Rp K S v d → Rp K S' v d
  | .none, _, _, h => by cases h; exact .non
  | .bool _, _, _, h => by cases h; exact .bl _
  | .int _, _, _, h => by cases h; exact .int _
  | .str _, _, _, h => by cases h; exact .str _
  | .list ds, _, f, h => by exact absurd f (by simp [flatD])
  | .tuple ds, _, f, h => by
    cases h with
    | tup h1 h2 =>
      refine .tup ?_ (RpAll.flat hk ds _ (by simpa [flatD] using f) h2)
      rcases h1 with (h1 | ⟨o, h1⟩) | h1
      · exact .inl (.inl (hk _ _ h1 (fun xs z => by cases z)))
      · exact .inl (.inr ⟨o, hk _ _ h1 (fun xs z => by cases z)⟩)
      · exact .inr h1
  | .dict _, _, _, h => by cases h
theorem RpAll.flat (hk : ∀ a o, S a = some o → (∀ xs, o ≠ .lst xs) → S' a = some o) : ∀ (ds : List D) (vs : List V), flatD.flatAll ds = true → RpAll K S vs ds → RpAll K S' vs ds
  | [], _, _, h => by cases h; exact .nil
  | d :: ds, _, f, h => by
    cases h with
    | cons h1 h2 =>
      have f' : (flatD d && flatD.flatAll ds) = true := by simpa [flatD.flatAll] using f
      rw [Bool.and_eq_true] at f'
      exact .cons (Rp.flat hk d _ f'.1 h1) (RpAll.flat hk ds _ f'.2 h2)
end
theorem RpAll.len : ∀ {vs : List V} {ds : List D}, RpAll K S vs ds → vs.length = ds.length
  | _, _, .nil => rfl
  | _, _, .cons _ h => by rw [List.length_cons, List.length_cons, RpAll.len h]
theorem RpAll.get : ∀ {vs : List V} {ds : List D} {i : Nat} {d : D}, RpAll K S vs ds → ds[i]? = some d → ∃ v, vs[i]? = some v ∧ Rp K S v d
  | _, _, _, _, .nil, e => by simp at e
  | _, _, 0, _, .cons h _, e => by simp at e; subst e; exact ⟨_, rfl, h⟩
  | _, _, i + 1, d, .cons _ t, e => by
    obtain ⟨v, h1, h2⟩ := RpAll.get (i := i) (d := d) t (by simpa using e)
    exact ⟨v, by simpa using h1, h2⟩
theorem RpAll.append : ∀ {vs ws : List V} {ds es : List D}, RpAll K S vs ds → RpAll K S ws es → RpAll K S (vs ++ ws) (ds ++ es)
  | _, _, _, _, .nil, s => s
  | _, _, _, _, .cons r t, s => .cons r (RpAll.append t s)
theorem RpAll.drop : ∀ {vs : List V} {ds : List D} (n : Nat), RpAll K S vs ds → RpAll K S (vs.drop n) (ds.drop n)
  | _, _, 0, r => r
  | _, _, _ + 1, .nil => .nil
  | _, _, n + 1, .cons _ t => RpAll.drop n t
theorem RpAll.take : ∀ {vs : List V} {ds : List D} (n : Nat), RpAll K S vs ds → RpAll K S (vs.take n) (ds.take n)
  | _, _, 0, _ => .nil
  | _, _, _ + 1, .nil => .nil
  | _, _, n + 1, .cons r t => .cons r (RpAll.take n t)
theorem RpAll.one {v : V} {d : D} (h : Rp K S v d) : RpAll K S [v] [d] := .cons h .nil
theorem RpAll.reverse : ∀ {vs : List V} {ds : List D}, RpAll K S vs ds → RpAll K S vs.reverse ds.reverse
  | _, _, .nil => .nil
  | _, _, .cons r t => by rw [List.reverse_cons, List.reverse_cons]; exact (RpAll.reverse t).append (.one r)
theorem RpAll.dropLast : ∀ {vs : List V} {ds : List D}, RpAll K S vs ds → RpAll K S vs.dropLast ds.dropLast
  | _, _, .nil => .nil
  | _, _, .cons _ .nil => .nil
  | _, _, .cons r (.cons r' t) => .cons r (RpAll.dropLast (.cons r' t))
theorem RpAll.rep {vs : List V} {ds : List D} (h : RpAll K S vs ds) : ∀ k : Nat, RpAll K S (List.replicate k vs).flatten (List.replicate k ds).flatten
  | 0 => .nil
  | k + 1 => by
    rw [List.replicate_succ, List.replicate_succ, List.flatten_cons, List.flatten_cons]
    exact h.append (RpAll.rep h k)
theorem RpAll.ints : ∀ {vs : List V} {ds : List D} {ns : List Int}, RpAll K S vs ds → intsD ds = some ns → vs = ns.map V.int
  | _, _, _, .nil, e => by simp [intsD] at e; subst e; rfl
  | _, _, _, .cons r t, e => by
    cases r with
    | int i =>
      simp only [intsD, Option.map_eq_some_iff] at e
      obtain ⟨ms, e1, rfl⟩ := e
      rw [RpAll.ints t e1]; rfl
    | _ => simp [intsD] at e
theorem RpAll.bools : ∀ {vs : List V} {ds : List D} {bs : List Bool}, RpAll K S vs ds → boolsD ds = some bs → vs = bs.map V.bl
  | _, _, _, .nil, e => by simp [boolsD] at e; subst e; rfl
  | _, _, _, .cons r t, e => by
    cases r with
    | bl i =>
      simp only [boolsD, Option.map_eq_some_iff] at e
      obtain ⟨ms, e1, rfl⟩ := e
      rw [RpAll.bools t e1]; rfl
    | _ => simp [boolsD] at e
end

/-! ## what grows -/
abbrev Tbs := List (Addr × Str)
/-- the tables of code objects -/
structure TabsI (T : Tbs) (H : Hp) : Prop where
  t : LamX.Tabs T H
/-- what is shared stands in the heap, and is no table -/
def Sub (S H : Hp) : Prop := ∀ a o, S a = some o → H a = some o ∧ ∀ ps, o ≠ .tbl ps
/-- nothing, or a table, stands there -/
def NT (H : Hp) (a : Addr) : Prop := ∀ o, H a = some o → ∃ ps, o = .tbl ps
theorem NT.of {H : Hp} {a : Addr} (h : H a = none) : NT H a := fun o e => by rw [h] at e; cases e
theorem NT.back {H H' : Hp} {a : Addr} (n : NT H' a) (x : LamX.ExtN H H') : NT H a := fun o e => by
  cases o with
  | tbl ps => exact ⟨ps, rfl⟩
  | _ =>
    obtain ⟨ps, z⟩ := n _ (x a _ e fun ps z => by cases z)
    cases z
theorem NT.ne {H : Hp} {a : Addr} {o : HO} (n : NT H a) (h : H a = some o) (ho : ∀ ps, o ≠ .tbl ps) : False := by
  obtain ⟨ps, e⟩ := n o h
  exact ho ps e
structure Gr (T : Tbs) (S H S' H' : Hp) : Prop where
  ss : Xt S S'
  hh : LamX.ExtN H H'
  sub : Sub S' H'
  new : ∀ a o, S' a = some o → S a = some o ∨ NT H a
  tab : TabsI T H → TabsI T H'
section
variable {T : Tbs} {S H S' H' S2 H2 : Hp}
theorem Gr.refl (h : Sub S H) : Gr T S H S H := ⟨Xt.refl _, LamX.ExtN.refl _, h, fun _ _ e => .inl e, id⟩
theorem Gr.trans (a : Gr T S H S' H') (b : Gr T S' H' S2 H2) : Gr T S H S2 H2 where
  ss := a.ss.trans b.ss
  hh := a.hh.trans b.hh
  sub := b.sub
  new := fun x o e => by
    rcases b.new x o e with e | e
    · exact a.new x o e
    · exact .inr (e.back a.hh)
  tab := fun t => b.tab (a.tab t)
theorem Sub.none {p : Addr} (h : Sub S H) (e : H p = Option.none) : S p = Option.none := by
  cases q : S p with
  | none => rfl
  | some o => rw [(h p o q).1] at e; cases e
theorem TabsI.upd {p : Addr} {o : HO} (t : TabsI T H) (hp : H p = Option.none) (ho : ∀ ps, o ≠ .tbl ps) : TabsI T (L2.upd H p o) :=
  ⟨t.t.ext (Xt.new hp)⟩
/-- a new object, shared from now on -/
theorem Gr.laid {p : Addr} {o : HO} (hs : Sub S H) (hp : H p = none) (ho : ∀ ps, o ≠ .tbl ps) : Gr T S H (upd S p o) (upd H p o) where
  ss := Xt.new (hs.none hp)
  hh := LamX.ExtN.of (Xt.new hp)
  sub := fun a u e => by
    by_cases h : a = p
    · subst h; rw [upd_same] at e ⊢; cases e; exact ⟨rfl, ho⟩
    · rw [upd_ne h] at e ⊢; exact hs a u e
  new := fun a u e => by
    by_cases h : a = p
    · subst h; exact .inr (NT.of hp)
    · rw [upd_ne h] at e; exact .inl e
  tab := fun t => t.upd hp ho
end

/-! ## slots -/
section
variable (K : PySem.W.Frag) (S H : Hp)
inductive SlR : Option V → Sl → List Addr → Prop
  | un (o : Option V) : SlR o .un []
  | val {v : V} {d : D} : Rp K S v d → SlR (some v) (.val d) []
  | own {p : Addr} {vs : List V} {l : List D} : H p = some (.lst vs) → RpAll K S vs l → SlR (some (.ref p)) (.own l) [p]
inductive SlsR : L2.St → Fr → List Addr → Prop
  | nil : SlsR [] [] []
  | cons {o : Option V} {s : Sl} {as bs : List Addr} {σ : L2.St} {e : Fr} : SlR K S H o s as → SlsR σ e bs → SlsR (o :: σ) (s :: e) (as ++ bs)
end
/-- the slots as told; the lists of one's own stand at as -/
structure At (K : PySem.W.Frag) (T : Tbs) (σ : L2.St) (e : Fr) (as : List Addr) (S H : Hp) : Prop where
  r : SlsR K S H σ e as
  nd : as.Nodup
  out : ∀ a ∈ as, S a = none
  sub : Sub S H
  tab : TabsI T H
section
variable {K : PySem.W.Frag} {T : Tbs} {σ : L2.St} {e : Fr} {as : List Addr} {S H S' H' : Hp}
theorem SlR.mono {o : Option V} {s : Sl} (h : SlR K S H o s as) (e : Xt S S') (hh : ∀ a ∈ as, ∀ vs, H a = some (.lst vs) → H' a = some (.lst vs)) : SlR K S' H' o s as := by
  cases h with
  | un => exact .un _
  | val h => exact .val (h.mono e _ _)
  | own h1 h2 => exact .own (hh _ (by simp) _ h1) (h2.mono e _ _)
theorem SlsR.mono (h : SlsR K S H σ e as) (x : Xt S S') (hh : ∀ a ∈ as, ∀ vs, H a = some (.lst vs) → H' a = some (.lst vs)) : SlsR K S' H' σ e as := by
  induction h with
  | nil => exact .nil
  | cons h1 h2 ih => exact .cons (h1.mono x fun a ha => hh a (List.mem_append_left _ ha)) (ih fun a ha => hh a (List.mem_append_right _ ha))
theorem SlsR.len (h : SlsR K S H σ e as) : σ.length = e.length := by
  induction h with
  | nil => rfl
  | cons _ _ ih => rw [List.length_cons, List.length_cons, ih]
theorem SlsR.lst (h : SlsR K S H σ e as) : ∀ a ∈ as, ∃ vs, H a = some (.lst vs) := by
  induction h with
  | nil => intro a ha; cases ha
  | cons h1 h2 ih =>
    intro a ha
    rcases List.mem_append.mp ha with ha | ha
    · cases h1 with
      | own h1 _ => simp at ha; subst ha; exact ⟨_, h1⟩
      | _ => cases ha
    · exact ih a ha
theorem SlsR.val : ∀ {σ : L2.St} {e : Fr} {as : List Addr} {i : Nat} {d : D}, SlsR K S H σ e as → e[i]? = some (.val d) → ∃ v, σ[i]? = some (some v) ∧ Rp K S v d
  | _, _, _, _, _, .nil, q => by simp at q
  | _, _, _, 0, _, .cons h _, q => by
    simp at q; subst q
    cases h with
    | val h => exact ⟨_, rfl, h⟩
  | _, _, _, i + 1, d, .cons _ t, q => by
    obtain ⟨v, h1, h2⟩ := SlsR.val (i := i) (d := d) t (by simpa using q)
    exact ⟨v, by simpa using h1, h2⟩
theorem At.mono (a : At K T σ e as S H) (g : Gr T S H S' H') : At K T σ e as S' H' where
  r := a.r.mono g.ss fun x _ vs q => g.hh x _ q fun ps z => by cases z
  nd := a.nd
  out := fun x hx => by
    cases q : S' x with
    | none => rfl
    | some o =>
      obtain ⟨vs, hv⟩ := a.r.lst x hx
      rcases g.new x o q with z | z
      · rw [a.out x hx] at z; cases z
      · exact (z.ne hv fun ps w => by cases w).elim
  sub := g.sub
  tab := g.tab a.tab
theorem SlR.sub1 {o : Option V} {s : Sl} (h : SlR K S H o s as) : as.length ≤ 1 := by cases h <;> simp
/-- a slot is set to a datum, or forgotten -/
theorem SlsR.set : ∀ {σ : L2.St} {e : Fr} {as : List Addr} (i : Nat) {o : Option V} {s : Sl}, SlsR K S H σ e as → SlR K S H o s [] → ∃ as', SlsR K S H (σ.set i o) (e.set i s) as' ∧ as'.Sublist as
  | _, _, _, _, _, _, .nil, _ => ⟨[], .nil, .slnil⟩
  | _, _, _, 0, _, _, .cons _ t, h => ⟨_, .cons h t, by simp⟩
  | _, _, _, i + 1, _, _, .cons q t, h => by
    obtain ⟨as', r, s⟩ := SlsR.set i t h
    exact ⟨_, .cons q r, List.Sublist.append (List.Sublist.refl _) s⟩
theorem At.set (a : At K T σ e as S H) (i : Nat) {o : Option V} {s : Sl} (h : SlR K S H o s []) : ∃ as', At K T (σ.set i o) (e.set i s) as' S H ∧ as'.Sublist as := by
  obtain ⟨as', r, q⟩ := a.r.set i h
  exact ⟨as', ⟨r, a.nd.sublist q, fun x hx => a.out x (q.subset hx), a.sub, a.tab⟩, q⟩
theorem At.wipe (a : At K T σ e as S H) : ∀ vs : List Nat, ∃ as', At K T (wipe σ vs) (wipeF e vs) as' S H ∧ as'.Sublist as
  | [] => ⟨as, a, List.Sublist.refl _⟩
  | v :: vs => by
    obtain ⟨as1, a1, s1⟩ := At.wipe a vs
    obtain ⟨as2, a2, s2⟩ := a1.set v (o := none) (.un none)
    exact ⟨as2, a2, s2.trans s1⟩
theorem At.len (a : At K T σ e as S H) : σ.length = e.length := a.r.len
end

/-! ## answers -/
section
variable (T : Tbs) (E : ErrC → Hp → Prop)
def okM {α : Type} (r : M α) (S H : Hp) (R : α → Hp → Hp → Prop) : Prop := match r with
  | .ok a => ∀ S' H', Gr T S H S' H' → R a S' H'
  | .err c => ∀ S' H', Gr T S H S' H' → E c H'
  | .stuck => False
end
section
variable {T : Tbs} {E : ErrC → Hp → Prop} {α β : Type} {m : M α} {k : α → M β} {S H S' H' : Hp}
theorem okM.imp {R R' : α → Hp → Hp → Prop} (h : okM T E m S H R) (f : ∀ a S' H', Gr T S H S' H' → R a S' H' → R' a S' H') : okM T E m S H R' := by
  cases m with
  | ok a => exact fun S' H' g => f a S' H' g (h S' H' g)
  | err c => exact h
  | stuck => exact h
theorem okM.mono {R : α → Hp → Hp → Prop} (h : okM T E m S H R) (g : Gr T S H S' H') : okM T E m S' H' R := by
  cases m with
  | ok a => exact fun S2 H2 g2 => h S2 H2 (g.trans g2)
  | err c => exact fun S2 H2 g2 => h S2 H2 (g.trans g2)
  | stuck => exact h
theorem okM.bind {R : β → Hp → Hp → Prop} (h : okM T E (m.bind k) S H R) : okM T E m S H fun a S1 H1 => okM T E (k a) S1 H1 R := by
  cases m with
  | ok a => exact fun S1 H1 g => okM.mono h g
  | err c => exact h
  | stuck => exact h
theorem okM.ok {R : α → Hp → Hp → Prop} {a : α} (h : okM T E (.ok a) S H R) (s : Sub S H) : R a S H := h S H (Gr.refl s)
theorem okM.okIf {R : α → Hp → Hp → Prop} {a : α} {b : Bool} (h : okM T E (okIf b a) S H R) : b = true ∧ okM T E (.ok a) S H R := by
  cases b with
  | true => exact ⟨rfl, h⟩
  | false => exact h.elim
end

/-! ## readings -/
abbrev ErV := ErrC → Value
section
variable (K : PySem.W.Frag) (T : Tbs) (ce : ErV) (W : WX)
def EW (σ : L2.St) : ErrC → Hp → Prop := fun c H => W (ce c) none σ H
def tE (f : Fr → M D) : TE := fun σ H Q => ∃ S e as, At K T σ e as S H ∧ okM T (EW ce W σ) (f e) S H fun d S' H' => ∀ v, Rp K S' v d → Q v H'
def tT (f : Fr → M Bool) : TT := fun σ H Q => ∃ S e as, At K T σ e as S H ∧ okM T (EW ce W σ) (f e) S H fun b _ H' => Q b H'
def tA (f : Fr → M (List D)) : TA := fun σ H Q => ∃ S e as, At K T σ e as S H ∧ okM T (EW ce W σ) (f e) S H fun ds S' H' => ∀ vs, RpAll K S' vs ds → Q vs H'
end
theorem PE.imp {X : Cx} {e : Expr} {t t' : TE} (h : PE X e t) (i : ∀ σ H Q, t' σ H Q → t σ H Q) : PE X e t' := ⟨fun pins s σ H Q I q => h.run pins s σ H Q I (i σ H Q q)⟩
theorem PT.imp {X : Cx} {e : Expr} {t t' : TT} (h : PT X e t) (i : ∀ σ H Q, t' σ H Q → t σ H Q) : PT X e t' := ⟨fun pins s σ H Q I q => h.run pins s σ H Q I (i σ H Q q)⟩
theorem PW.imp {X : Cx} {e : Expr} {t t' : TT} (h : PW X e t) (i : ∀ σ H Q, t' σ H Q → t σ H Q) : PW X e t' := ⟨fun wh pins s σ H Q I q => h.run wh pins s σ H Q I (i σ H Q q)⟩
theorem PA.imp {X : Cx} {e : List Expr} {t t' : TA} (h : PA X e t) (i : ∀ σ H Q, t' σ H Q → t σ H Q) : PA X e t' := ⟨fun pos pins s σ H Q I q => h.run pos pins s σ H Q I (i σ H Q q)⟩
theorem PS.imp {X : Cx} {e : Stmt} {t t' : TS} (h : PS X e t) (i : ∀ D σ H, t' D σ H → t D σ H) : PS X e t' := ⟨fun pins s σ H D I q => h.run pins s σ H D I (i D σ H q)⟩
theorem PSs.imp {X : Cx} {e : List Stmt} {t t' : TS} (h : PSs X e t) (i : ∀ D σ H, t' D σ H → t D σ H) : PSs X e t' := ⟨fun pins s σ H D I q => h.run pins s σ H D I (i D σ H q)⟩
theorem PG.imp {X : Cx} {e : Expr} {t t' : TG} (h : PG X e t) (i : ∀ v σ H Q, t' v σ H Q → t v σ H Q) : PG X e t' := ⟨fun pins s σ H v u Q I r q => h.run pins s σ H v u Q I r (i v σ H Q q)⟩
theorem PI.imp {X : Cx} {tg e : Expr} {t t' : TI} (h : PI X tg e t) (i : ∀ σ H R, t' σ H R → t σ H R) : PI X tg e t' := ⟨fun pins s σ H R I q => h.run pins s σ H R I (i σ H R q)⟩
end Rw
namespace Rw
open PySem PySem.Spec PyProof.Rows
open L2 hiding St

/-! ## the context -/
structure Nm where
  N : List Str
  sc : Scope
  /-- the cells that may be written -/
  oc : Str → Bool
  /-- deeds are told here -/
  tw : Bool
/-- what a def of the meaning F promises -/
def spM (K : PySem.W.Frag) (T : Tbs) (ce : ErV) (n : Nat) (F : Fn) : Sp := fun vs H Q E => ∃ S ds, Sub S H ∧ TabsI T H ∧ RpAll K S vs ds ∧ ds.length = n ∧
  okM T (fun c H' => E (ce c) none H') (F ds) S H fun d S' H' => ∀ v, Rp K S' v d → Q v H'
/-- the def of that name keeps that promise -/
def HasFn (X : Cx) (k : Nat) (T : Tbs) (ce : ErV) (p : FnE) : Prop := ∃ (f : Addr) (fd : FuncData) (ps : List Str), X.mg p.x = some (.ref f) ∧ PySem.W.keepIn X.K (.ref f) = true ∧ Binds X.K fd ps [] ∧
  FnOk X.prog X.w X.K X.mg X.base (L2N.CX X.prog X.w) k f fd ps (spM X.K T ce p.n p.F)
/-- a constant of the module -/
def HasGc (X : Cx) (x : Str) (d : D) : Prop := ∃ v u, X.mg x = some u ∧ RelV v u ∧ ∀ S, Rp X.K S v d
/-! a deed: a lambda without parameters; what leaves its body lies as L2N tells -/
abbrev deedX (X : Cx) (A : Around) (outer : List Env) (s : Shared) (H : Hp) (E : XK) (scope : Scope) (f c' : Addr) : Cx :=
  (LamX.lamCx X A outer s H E scope f c').wish fun e s' => wpAny (model X.prog X.w) (A.deeper (LamX.lamEnv X scope s.heap.objs.size f c')) (leaving (LamX.lamEnv X scope s.heap.objs.size f c') e) (fun _ s'' => L2N.CX X.prog X.w outer H s E e s'') (fun e' s'' => L2N.CX X.prog X.w outer H s E e' s'') s'
def noPar : Arguments → Bool
  | ⟨[], [], none, [], [], none, []⟩ => true
  | _ => false
/-- told(lambda: b) tells what b tells, or the word -/
def ToldC (X : Cx) (j : Nat) (T : Tbs) (ce : ErV) : Prop := ∀ (params : Arguments) (body : Expr) (scope : Scope) (p lpos pos : Pos) (g : Fr → M D) (W : WX), LamX.LamS X.env.scope scope → noPar params = true → Gl X "_law_told" → Room (j + 2) X.A →
  (∀ (A : Around) (outer : List Env) (s : Shared) (H : Hp) (E : XK) (f c' : Addr), Room j (A.deeper (LamX.lamEnv X scope s.heap.objs.size f c')) → PE (deedX X A outer s H E scope f c') body (tE X.K T ce (fun cls d _ H' => E cls d H') g)) →
  PE X (.Call (.Name "_law_told" p) [.Lambda params body scope lpos] [] pos) (tE X.K T ce W fun e => toldM (g e))
def bnames : List Str := ["len", "abs", "int", "min", "max", "any", "all", "sum", "list", "tuple", "range", "enumerate", "zip", "reversed", "isinstance", "sorted", "dict", "bool", "str"]
structure Cq (X : Cx) (c : Nm) (k : Nat) (ρ : Rho) (T : Tbs) (ce : ErV) (W : WX) : Prop where
  sc : X.env.scope = c.sc
  N : X.N = c.N
  nd : X.N.Nodup
  calm : X.calm = true
  fn : ∀ x, c.oc x = true → X.fn x = true
  kind : c.sc.kind = .function
  room : Room k X.A
  fns : ∀ p ∈ ρ.fn, HasFn X k T ce p
  gcs : ∀ p ∈ ρ.gc, HasGc X p.1 p.2
  blt : ∀ x ∈ bnames, X.mg x = none
  tk : L2N.Takes X W
  told : c.tw = true → ∃ j, j + 2 ≤ k ∧ (∀ p ∈ ρ.fn, HasFn X j T ce p) ∧ ToldC X j T ce

/-! ## the text -/
def plainX : Expr → Bool
  | .BoolOp .. | .BinOp .. | .UnaryOp .. | .IfExp .. | .ListComp .. | .Compare .. | .Call .. | .Constant .. | .Attribute .. | .Subscript .. | .Name .. | .List .. | .Tuple .. => true
  | _ => false
/-- what a method may be taken of -/
def baseX : Expr → Bool
  | .Name .. => true
  | _ => false
def chkV (c : Nm) (i : Nat) (x : Str) : Bool := decide (c.N[i]? = some x) && ((match c.sc.names.lookup x with
  | some .local => true
  | some .cell => true
  | some .free => true
  | _ => false) && (!(x == "__debug__") && !(x == "__classdict__")))
def chkSt (c : Nm) (i : Nat) (x : Str) : Bool := decide (c.N[i]? = some x) && (match c.sc.names.lookup x with
  | some .local => true
  | some .cell => c.oc x
  | _ => false)
def chkG (c : Nm) (x : Str) : Bool := (match c.sc.names.lookup x with
  | some .globalImplicit => true
  | _ => false) && (!(x == "__debug__") && !(x == "__name__"))
def isOp : BOp → Operator → Bool
  | .add, .Add => true
  | .sub, .Sub => true
  | .mul, .Mult => true
  | .fdiv, .FloorDiv => true
  | .mod, .Mod => true
  | .shl, .LShift => true
  | .pow, .Pow => true
  | _, _ => false
def isCo : COp → CmpOp → Bool
  | .lt, .Lt => true
  | .le, .LtE => true
  | .gt, .Gt => true
  | .ge, .GtE => true
  | .eq, .Eq => true
  | .ne, .NotEq => true
  | .in_, .In => true
  | .nin, .NotIn => true
  | _, _ => false
def bltName : Blt → Str
  | .len => "len"
  | .abs => "abs"
  | .int => "int"
  | .min2 => "min"
  | .max2 => "max"
  | .any => "any"
  | .all => "all"
  | .sum => "sum"
  | .list => "list"
  | .tuple => "tuple"
  | .sorted => "sorted"
def tyName : Ty → Str
  | .bool => "bool"
  | .list => "list"
  | .tuple => "tuple"
  | .str => "str"
  | .dict => "dict"
mutual
def chkTg (c : Nm) : Tg → Expr → Bool
  | .nm i, .Name x _ => chkSt c i x
  | .tp ts, .Tuple es _ _ => chkTgs c ts es
  | .ls ts, .Tuple es _ _ => chkTgs c ts es
  | _, _ => false
def chkTgs (c : Nm) : Tgs → List Expr → Bool
  | .nil, [] => true
  | .cons t ts, e :: es => chkTg c t e && chkTgs c ts es
  | _, _ => false
end
mutual
def tgIn (own : List Nat) : Tg → Bool
  | .nm i => decide (i ∈ own)
  | .tp ts => tgsIn own ts
  | .ls ts => tgsIn own ts
def tgsIn (own : List Nat) : Tgs → Bool
  | .nil => true
  | .cons t ts => tgIn own t && tgsIn own ts
end
/-- a target that is written as a tuple -/
def isTup : Expr → Bool
  | .Tuple .. => true
  | _ => false
def blkNm (c : Nm) (scope : Scope) : Nm := ⟨c.N, relS scope c.sc, fun x => scope.names.lookup x == some .cell, false⟩
mutual
def chkE (c : Nm) (ρ : Rho) : Ex → Expr → Bool
  | .var i, ex => match ex with
    | .Name x _ => chkV c i x
    | _ => false
  | .int n, ex => match ex with
    | .Constant (.int m) _ _ => decide (n = m)
    | _ => false
  | .none, ex => match ex with
    | .Constant .none _ _ => true
    | _ => false
  | .bl b, ex => match ex with
    | .Constant (.bool b') _ _ => decide (b = b')
    | _ => false
  | .str s, ex => match ex with
    | .Constant (.str s') _ _ => decide (s = s')
    | _ => false
  | .neg a, ex => match ex with
    | .UnaryOp .USub e _ => chkE c ρ a e
    | _ => false
  | .glob j, ex => match ex with
    | .Name x _ => chkG c x && (match ρ.gc[j]? with
      | some p => decide (p.1 = x)
      | none => false)
    | _ => false
  | .tup es, ex => match ex with
    | .Tuple l _ _ => chkEs c ρ es l
    | _ => false
  | .lst es, ex => match ex with
    | .List l _ => chkEs c ρ es l
    | _ => false
  | .bin op a b, ex => match ex with
    | .BinOp x o y _ => isOp op o && (chkE c ρ a x && chkE c ρ b y)
    | _ => false
  | .cmp op a b, ex => match ex with
    | .Compare x [o] [y] _ => isCo op o && (chkE c ρ a x && (chkE c ρ b y && plainX y))
    | _ => false
  | .chain op op' a b d, ex => match ex with
    | .Compare x [o, o'] [y, z] _ => isCo op o && (isCo op' o' && (chkE c ρ a x && (chkE c ρ b y && (chkE c ρ d z && plainX z))))
    | _ => false
  | .isN a, ex => match ex with
    | .Compare x [.Is] [.Constant .none _ _] _ => chkE c ρ a x
    | _ => false
  | .isNN a, ex => match ex with
    | .Compare x [.IsNot] [.Constant .none _ _] _ => chkE c ρ a x
    | _ => false
  | .andE es, ex => match ex with
    | .BoolOp .And l _ => chkB c ρ es l
    | _ => false
  | .orE es, ex => match ex with
    | .BoolOp .Or l _ => chkB c ρ es l
    | _ => false
  | .notE a, ex => match ex with
    | .UnaryOp .Not e _ => chkE c ρ a e
    | _ => false
  | .ite t a b, ex => match ex with
    | .IfExp x y z _ => chkE c ρ t x && (chkE c ρ a y && chkE c ρ b z)
    | _ => false
  | .idx a i, ex => match ex with
    | .Subscript x y _ => chkE c ρ a x && (chkE c ρ i y && plainX y)
    | _ => false
  | .slL a lo, ex => match ex with
    | .Subscript x (.Slice (some y) .none .none _) _ => chkE c ρ a x && chkE c ρ lo y
    | _ => false
  | .slU a hi, ex => match ex with
    | .Subscript x (.Slice .none (some y) .none _) _ => chkE c ρ a x && chkE c ρ hi y
    | _ => false
  | .slB a lo hi, ex => match ex with
    | .Subscript x (.Slice (some y) (some z) .none _) _ => chkE c ρ a x && (chkE c ρ lo y && chkE c ρ hi z)
    | _ => false
  | .slR a, ex => match ex with
    | .Subscript x (.Slice .none .none (some (.UnaryOp .USub (.Constant (.int 1) _ _) _)) _) _ => chkE c ρ a x
    | _ => false
  | .call g es, ex => match ex with
    | .Call (.Name x _) (y :: ys) [] _ => chkG c x && ((match ρ.fn[g]? with
      | some p => decide (p.x = x) && decide (exsLen es = p.n)
      | none => false) && chkEs c ρ es (y :: ys))
    | _ => false
  | .blt b es, ex => match ex with
    | .Call (.Name x _) (y :: ys) [] _ => chkG c x && (decide (bltName b = x) && chkEs c ρ es (y :: ys))
    | _ => false
  | .isI t a, ex => match ex with
    | .Call (.Name x _) [y, .Name z _] [] _ => chkG c x && (decide (x = "isinstance") && (plainX y && (chkE c ρ a y && (chkG c z && decide (z = tyName t)))))
    | _ => false
  | .index a b, ex => match ex with
    | .Call (.Attribute x m apos) [y] [] cpos => decide (m = "index") && ((apos.endLine == cpos.line) && (baseX x && (plainX y && (chkE c ρ a x && chkE c ρ b y))))
    | _ => false
  | .told b, ex => match ex with
    | .Call (.Name x _) [.Lambda params body scope _] [] _ => c.tw && (chkG c x && (decide (x = "_law_told") && (LamX.lamSB c.sc scope && (noPar params && chkE ⟨c.N, scope, fun _ => false, false⟩ ρ b body))))
    | _ => false
  | .comp own tg it cs elt, ex => match ex with
    | .ListComp e [⟨t, iter, ifs, 0⟩] scope _ => blkC c.N c.sc scope own && (tgIn (own.map (·.2)) tg && (chkTg (blkNm c scope) tg t && (chkIt c ρ it t iter && (chkC (blkNm c scope) ρ cs ifs && chkE (blkNm c scope) ρ elt e))))
    | _ => false
def chkEs (c : Nm) (ρ : Rho) : Exs → List Expr → Bool
  | .nil, l => match l with
    | [] => true
    | _ => false
  | .cons a r, l => match l with
    | e :: es => plainX e && (chkE c ρ a e && chkEs c ρ r es)
    | _ => false
def chkB (c : Nm) (ρ : Rho) : Exs → List Expr → Bool
  | .nil, _ => false
  | .cons a r, l => match l with
    | e :: es => chkE c ρ a e && (match r, es with
      | .nil, [] => true
      | .cons _ _, _ :: _ => chkB c ρ r es
      | _, _ => false)
    | _ => false
/-- no test, or one -/
def chkC (c : Nm) (ρ : Rho) : Exs → List Expr → Bool
  | .nil, l => match l with
    | [] => true
    | _ => false
  | .cons a r, l => match l with
    | [e] => chkE c ρ a e && (match r with
      | .nil => true
      | _ => false)
    | _ => false
/-- t: the target -/
def chkIt (c : Nm) (ρ : Rho) : It → Expr → Expr → Bool
  | .lst a, _, e => chkE c ρ a e && plainX e
  | .tup a, _, e => chkE c ρ a e && plainX e
  | .rng1 a, _, ex => match ex with
    | .Call (.Name x _) [e] [] _ => chkG c x && (decide (x = "range") && (chkE c ρ a e && plainX e))
    | _ => false
  | .rng2 a b, _, ex => match ex with
    | .Call (.Name x _) [e, e'] [] _ => chkG c x && (decide (x = "range") && (chkE c ρ a e && (plainX e && (chkE c ρ b e' && plainX e'))))
    | _ => false
  | .enum a, t, ex => match t, ex with
    | .Tuple .., .Call (.Name x _) [e] [] _ => chkG c x && (decide (x = "enumerate") && (chkE c ρ a e && plainX e))
    | _, _ => false
  | .zip a b, t, ex => match t, ex with
    | .Tuple .., .Call (.Name x _) [e, e'] [] _ => chkG c x && (decide (x = "zip") && (chkE c ρ a e && (plainX e && (chkE c ρ b e' && plainX e'))))
    | _, _ => false
  | .rev a, _, ex => match ex with
    | .Call (.Name x _) [e] [] _ => chkG c x && (decide (x = "reversed") && (chkE c ρ a e && plainX e))
    | _ => false
end

/-! ## plain pieces of text -/
theorem star_plain {e : Expr} {es : List Expr} {env : Env} (h : plainX e = true) : starEach (e :: es) env = (false, eval e env) :: starEach es env := by
  cases e <;> first | rfl | exact absurd h (by simp [plainX])
theorem ix_plain {e : Expr} (h : plainX e = true) : PlainIx e := by
  cases e <;> first | exact fun _ _ => rfl | exact absurd h (by simp [plainX])
theorem mark_plain {op : CmpOp} {e : Expr} (h : plainX e = true) : behindInMarks op e = false := by
  cases e <;> first | rfl | exact absurd h (by simp [plainX])
theorem fold_plain {e : Expr} {env : Env} (h : plainX e = true) : ∀ x, foldedSetIterable e env x = pure x := by
  cases e <;> first | exact fun _ => rfl | exact absurd h (by simp [plainX])
theorem back_plain {c : Nm} {ρ : Rho} {pos : Pos} {env : Env} : ∀ {es : Exs} {l : List Expr}, chkEs c ρ es l = true → (backTo pos (starEach l env)).any (·.1) = false
  | .nil, [], _ => rfl
  | .cons a r, e :: es, h => by
    simp only [chkEs, Bool.and_eq_true] at h
    rw [star_plain h.1]
    show (false || (backTo pos (starEach es env)).any (·.1)) = false
    rw [back_plain h.2.2]; rfl
  | .nil, _ :: _, h => by simp [chkEs] at h
  | .cons _ _, [], h => by simp [chkEs] at h

/-! ## readings, piece by piece -/
section
variable {X : Cx} {c : Nm} {k : Nat} {ρ : Rho} {T : Tbs} {ce : ErV} {W : WX} {σ : L2.St} {H : Hp} {e : Fr} {as : List Addr} {S : Hp}
theorem tE_mono {K : PySem.W.Frag} {f : Fr → M D} {Q Q' : VK} (h : tE K T ce W f σ H Q) (i : ∀ v H', Q v H' → Q' v H') : tE K T ce W f σ H Q' := by
  obtain ⟨S, e, as, a, o⟩ := h
  exact ⟨S, e, as, a, o.imp fun d S' H' _ q v r => i v H' (q v r)⟩
/-- what is known behind an expression -/
theorem tE_seq {K : PySem.W.Frag} {α : Type} {f : Fr → M D} {g : D → M α} {R : α → Hp → Hp → Prop} (a : At K T σ e as S H) (o : okM T (EW ce W σ) ((f e).bind g) S H R) {P : VK}
    (hP : ∀ v d S1 H1, At K T σ e as S1 H1 → Gr T S H S1 H1 → Rp K S1 v d → okM T (EW ce W σ) (g d) S1 H1 R → P v H1) : tE K T ce W f σ H P :=
  ⟨S, e, as, a, (okM.bind o).imp fun d S' H' gr q v r => hP v d S' H' (a.mono gr) gr r q⟩
theorem tT_seq {K : PySem.W.Frag} {α : Type} {f : Fr → M Bool} {g : Bool → M α} {R : α → Hp → Hp → Prop} (a : At K T σ e as S H) (o : okM T (EW ce W σ) ((f e).bind g) S H R) {P : Bool → Hp → Prop}
    (hP : ∀ b S1 H1, At K T σ e as S1 H1 → Gr T S H S1 H1 → okM T (EW ce W σ) (g b) S1 H1 R → P b H1) : tT K T ce W f σ H P :=
  ⟨S, e, as, a, (okM.bind o).imp fun d S' H' gr q => hP d S' H' (a.mono gr) gr q⟩
theorem tA_seq {K : PySem.W.Frag} {α : Type} {f : Fr → M (List D)} {g : List D → M α} {R : α → Hp → Hp → Prop} (a : At K T σ e as S H) (o : okM T (EW ce W σ) ((f e).bind g) S H R) {P : List V → Hp → Prop}
    (hP : ∀ vs ds S1 H1, At K T σ e as S1 H1 → Gr T S H S1 H1 → RpAll K S1 vs ds → okM T (EW ce W σ) (g ds) S1 H1 R → P vs H1) : tA K T ce W f σ H P :=
  ⟨S, e, as, a, (okM.bind o).imp fun d S' H' gr q v r => hP v d S' H' (a.mono gr) gr r q⟩
/-- a value that is at hand -/
theorem okM.val {K : PySem.W.Frag} {d : D} {E : ErrC → Hp → Prop} {Q : VK} {v : V} (o : okM T E (.ok d) S H fun d S' H' => ∀ v, Rp K S' v d → Q v H') (s : Sub S H) (r : Rp K S v d) : Q v H := o S H (Gr.refl s) v r
/-- a new object -/
theorem okM.new {K : PySem.W.Frag} {d : D} {E : ErrC → Hp → Prop} {Q : VK} (o : okM T E (.ok d) S H fun d S' H' => ∀ v, Rp K S' v d → Q v H') (s : Sub S H) {p : Addr} {u : HO} (hp : H p = none) (hu : ∀ ps, u ≠ .tbl ps)
    (r : Rp K (upd S p u) (.ref p) d) : Q (.ref p) (upd H p u) := o _ _ (Gr.laid s hp hu) _ r
theorem rp_newL {K : PySem.W.Frag} {vs : List V} {ds : List D} {p : Addr} (s : Sub S H) (hp : H p = none) (r : RpAll K S vs ds) : Rp K (upd S p (.lst vs)) (.ref p) (.list ds) :=
  .lst (.inl upd_same) (r.mono (Xt.new (s.none hp)) _ _)
theorem rp_newT {K : PySem.W.Frag} {vs : List V} {ds : List D} {p : Addr} (s : Sub S H) (hp : H p = none) (r : RpAll K S vs ds) : Rp K (upd S p (.tup vs)) (.ref p) (.tuple ds) :=
  .tup (.inl (.inl upd_same)) (r.mono (Xt.new (s.none hp)) _ _)
theorem big_ok {n : Nat} (h : n ≤ big) : n ≤ sizeLine := Nat.le_trans h (by decide)
theorem big_lt {n : Nat} (h : n < big) : n < sizeLine := Nat.lt_of_lt_of_le h (by decide)

theorem Sub.rd {a : Addr} {u : HO} (s : Sub S H) (h : Rd S a u) : Rd H a u := by
  rcases h with h | ⟨o, h⟩
  · exact .inl (s a _ h).1
  · exact .inr ⟨o, (s a _ h).1⟩
theorem Sub.sqt {K : PySem.W.Frag} {a : Addr} {xs : List V} (s : Sub S H) (h : SqT K S a xs) : SqT K H a xs := by
  rcases h with h | h
  · exact .inl (s.rd h)
  · exact .inr h
theorem Sub.ex (s : Sub S H) : Xt S H := fun a o e => (s a o e).1

/-! ### operators -/
/-- list + list, also a known one -/
def rCat' : R2 := fun x y H Q => ∃ l b xs zs, x = .ref l ∧ y = .ref b ∧ Rd H l (.lst xs) ∧ Rd H b (.lst zs) ∧ xs.length + zs.length ≤ sizeLine ∧ ∀ p, H p = none → Q (.ref p) (upd H p (.lst (xs ++ zs)))
theorem rd_lst {pins : List (Addr × Obj)} {s : Shared} {l : Addr} {xs : List V} (I : Inv X pins σ H s) (h : Rd H l (.lst xs)) : xs.length ≤ sizeLine ∧ ∃ (its : List Value) (n : Nat), Vals xs its ∧ xs.length = its.length ∧ s.heap.get? l = some { cls := .type "list", data := .seq its.toArray n } := by
  obtain ⟨z, its, n, r, g⟩ := h.ok I.hok
  exact ⟨z, its, n, r, r.length, g⟩
theorem op_cat' : OpR X (binaryOp .Add) rCat' := by
  intro pins s σ H x y v u Q I rx ry h
  obtain ⟨l, b, xs, zs, rfl, rfl, hH, hB, hz, q⟩ := h
  cases rx
  cases ry
  obtain ⟨z, its, n, r, hl, g⟩ := rd_lst I hH
  obtain ⟨z2, its2, n2, r2, hl2, g2⟩ := rd_lst I hB
  refine PySem.P.add_list g g2 ?_ (by rw [List.size_toArray, List.size_toArray]; omega)
  have ea : its.toArray ++ its2.toArray = (its ++ its2).toArray := by simp
  rw [ea]
  exact ⟨.ref _, _, I.lnew (t' := s.toks) (r.append r2) (by rw [List.length_append]; omega), rfl, q _ I.fresh⟩
end
end Rw
namespace Rw
open PySem PySem.Spec PyProof.Rows
open L2 hiding St
section
variable {X : Cx} {T : Tbs}
/-- an operation on data -/
def rB (K : PySem.W.Frag) (T : Tbs) (g : D → D → M D) : R2 := fun x y H Q => ∃ S d1 d2 E, Sub S H ∧ Rp K S x d1 ∧ Rp K S y d2 ∧ okM T E (g d1 d2) S H fun d S' H' => ∀ v, Rp K S' v d → Q v H'
theorem mulOk_ok {i j : Int} (h : mulOk i j = true) : CMul i j ∨ CMulW i j := by
  unfold mulOk at h
  simp only [Bool.or_eq_true, decide_eq_true_eq] at h
  rcases h with (h | h) | h
  · exact .inl (.inl h)
  · exact .inl (.inr h)
  · exact .inr h
theorem divOk_ok {j : Int} (h : divOk j = true) : 0 < j ∧ j.natAbs.log2 < 9000 := by
  unfold divOk at h
  simpa only [Bool.and_eq_true, decide_eq_true_eq] using h
theorem powOk_ok {i j : Int} (h : powOk i j = true) : CPow i j := by
  unfold powOk at h
  simp only [Bool.and_eq_true, decide_eq_true_eq] at h
  exact ⟨h.1.1, h.1.2, h.2⟩
theorem opB_add : OpR X (binaryOp .Add) (rB X.K T (binD .add)) := by
  rintro pins s σ H x y v u Q I rx ry ⟨S, d1, d2, E, sb, r1, r2, o⟩
  cases r1 with
  | int i =>
    cases r2 with
    | int j => exact op_add pins s σ H _ _ v u Q I rx ry ⟨_, _, rfl, rfl, o.val sb (.int _)⟩
    | _ => exact o.elim
  | lst h1 a1 =>
    cases r2 with
    | lst h2 a2 =>
      obtain ⟨hb, o⟩ := okM.okIf o
      have hl : _ := of_decide_eq_true hb
      refine op_cat' pins s σ H _ _ v u Q I rx ry ⟨_, _, _, _, rfl, rfl, sb.rd h1, sb.rd h2, by rw [a1.len, a2.len]; exact big_ok hl, fun p hp => ?_⟩
      exact o.new sb hp (fun _ z => by cases z) (rp_newL sb hp (a1.append a2))
    | _ => exact o.elim
  | @tup a xs ds h1 a1 =>
    cases r2 with
    | @tup b ys es h2 a2 =>
      obtain ⟨hb, o⟩ := okM.okIf o
      have hl : _ := of_decide_eq_true hb
      refine op_catA pins s σ H _ _ v u Q I rx ry ⟨_, _, _, _, rfl, rfl, sb.sqt h1, sb.sqt h2, by rw [a1.len, a2.len]; exact big_ok hl, fun hx => ?_, fun hx hy => ?_, fun hx hy p hp => ?_⟩
      · subst hx
        cases a1
        exact o.val sb (.tup h2 a2)
      · subst hy
        cases a2
        rw [List.append_nil] at o
        exact o.val sb (.tup h1 a1)
      · exact o.new sb hp (fun _ z => by cases z) (rp_newT sb hp (a1.append a2))
    | _ => exact o.elim
  | _ => cases r2 <;> exact o.elim
theorem opB_sub : OpR X (binaryOp .Sub) (rB X.K T (binD .sub)) := by
  rintro pins s σ H x y v u Q I rx ry ⟨S, d1, d2, E, sb, r1, r2, o⟩
  cases r1 with
  | int i =>
    cases r2 with
    | int j => exact op_sub pins s σ H _ _ v u Q I rx ry ⟨_, _, rfl, rfl, o.val sb (.int _)⟩
    | _ => exact o.elim
  | _ => cases r2 <;> exact o.elim
/-- list times int, also a known one -/
theorem op_rep' : OpR X (binaryOp .Mult) (fun x y H Q => ∃ l k xs, x = .ref l ∧ y = .int k ∧ Rd H l (.lst xs) ∧ -(2 ^ 63) ≤ k ∧ k < 2 ^ 63 ∧ xs.length * k.toNat ≤ sizeLine ∧ ∀ p, H p = none → Q (.ref p) (upd H p (.lst (List.replicate k.toNat xs).flatten))) := by
  intro pins s σ H x y v u Q I rx ry h
  obtain ⟨l, k, xs, rfl, rfl, hH, h1, h2, hz, q⟩ := h
  rcases hH with hH | ⟨ob, hH⟩
  · exact op_rep pins s σ H _ _ v u Q I rx ry ⟨l, k, xs, rfl, rfl, hH, h1, h2, hz, q⟩
  · cases rx
    obtain ⟨t, rfl⟩ := ry
    obtain ⟨z, its, n, r, hl, e⟩ := rd_lst I (.inr ⟨ob, hH⟩)
    have hlen : its.toArray.size * k.toNat ≤ sizeLine := by rw [List.size_toArray, ← hl]; exact hz
    have hcap : ¬ its.toArray.size * k.toNat > (2 ^ 63 - 1) / 8 := by
      have : (sizeLine : Nat) ≤ (2 ^ 63 - 1) / 8 := by decide
      omega
    have hfit : ¬ (!Builtin.List.listFitsIndex k) = true := by
      rw [fitsIndex_both h1 h2]
      exact Bool.false_ne_true
    have hlong : ¬ Builtin.List.listTooLong (its.toArray.size * k.toNat) = true := by
      rw [notLongL hlen]
      exact Bool.false_ne_true
    have hnew : List.foldl (fun x1 x2 => x1 ++ x2) #[] (List.replicate (if its.toArray.isEmpty = true then 0 else k.toNat) its.toArray) = (List.replicate k.toNat its).flatten.toArray := by
      have f0 : ∀ m : Nat, List.foldl (fun x1 x2 => x1 ++ x2) #[] (List.replicate m its.toArray) = (List.replicate m its).flatten.toArray := fun m => by
        have := foldl_rep its m []
        rw [List.nil_append] at this
        exact this
      rw [f0]
      cases its with
      | nil => simp
      | cons a r' => rw [if_neg (by simp)]
    refine wpAny_binaryOp_repeat_ref (T := "list") (U := "int") (by decide) ⟨_, e, rfl⟩ (fun s' => typeIs_int s' k t) noFill_list_mul F.fills_int_mul F.slot_int_rmul repeat_list F.slot_int_index.lookup
      (call_meets F.slot_int_rmul (typeIs_int s k t) F.entry_int_rmul (F.args_int_rmul_2 _ _) (int___rmul___int_list k t l its.toArray n)
        ⟨e, rfl, ⟨_, e, rfl⟩, call_meets F.slot_list_mul ⟨_, e, rfl⟩ F.entry_list_mul (F.args_list_mul_2 _ _) (AutoListH.list___mul___list_int_3 l its.toArray n k t hfit hcap hlong) ⟨e, ?_⟩⟩)
    rw [hnew]
    exact ⟨.ref _, _, I.lnew (t' := s.toks) (r.rep k.toNat) (by rw [PyProof.Rows.lm_len_rep_flat, Nat.mul_comm]; exact hz), rfl, q _ I.fresh⟩
theorem opB_mul : OpR X (binaryOp .Mult) (rB X.K T (binD .mul)) := by
  rintro pins s σ H x y v u Q I rx ry ⟨S, d1, d2, E, sb, r1, r2, o⟩
  cases r1 with
  | int i =>
    cases r2 with
    | int j =>
      obtain ⟨hb, o⟩ := okM.okIf o
      rcases mulOk_ok hb with hc | hc
      · exact op_mul pins s σ H _ _ v u Q I rx ry ⟨_, _, rfl, rfl, hc, o.val sb (.int _)⟩
      · exact op_mulW pins s σ H _ _ v u Q I rx ry ⟨_, _, rfl, rfl, hc, o.val sb (.int _)⟩
    | _ => exact o.elim
  | lst h1 a1 =>
    cases r2 with
    | int k =>
      obtain ⟨hb, o⟩ := okM.okIf o
      simp only [Bool.and_eq_true, decide_eq_true_eq] at hb
      have hbig : (big : Nat) = 100000 := rfl
      refine op_rep' pins s σ H _ _ v u Q I rx ry ⟨_, _, _, rfl, rfl, sb.rd h1, by omega, by omega, by rw [a1.len]; exact big_ok hb.2, fun p hp => ?_⟩
      exact o.new sb hp (fun _ z => by cases z) (rp_newL sb hp (a1.rep _))
    | _ => exact o.elim
  | _ => cases r2 <;> exact o.elim
theorem opB_fdiv : OpR X (binaryOp .FloorDiv) (rB X.K T (binD .fdiv)) := by
  rintro pins s σ H x y v u Q I rx ry ⟨S, d1, d2, E, sb, r1, r2, o⟩
  cases r1 with
  | int i =>
    cases r2 with
    | int j =>
      obtain ⟨hb, o⟩ := okM.okIf o
      exact op_fdivW pins s σ H _ _ v u Q I rx ry ⟨_, _, rfl, rfl, divOk_ok hb, o.val sb (.int _)⟩
    | _ => exact o.elim
  | _ => cases r2 <;> exact o.elim
theorem opB_mod : OpR X (binaryOp .Mod) (rB X.K T (binD .mod)) := by
  rintro pins s σ H x y v u Q I rx ry ⟨S, d1, d2, E, sb, r1, r2, o⟩
  cases r1 with
  | int i =>
    cases r2 with
    | int j =>
      obtain ⟨hb, o⟩ := okM.okIf o
      exact op_mod pins s σ H _ _ v u Q I rx ry ⟨_, _, rfl, rfl, of_decide_eq_true hb, o.val sb (.int _)⟩
    | _ => exact o.elim
  | _ => cases r2 <;> exact o.elim
theorem opB_shl : OpR X (binaryOp .LShift) (rB X.K T (binD .shl)) := by
  rintro pins s σ H x y v u Q I rx ry ⟨S, d1, d2, E, sb, r1, r2, o⟩
  cases r1 with
  | int i =>
    cases r2 with
    | int j =>
      obtain ⟨hb, o⟩ := okM.okIf o
      exact op_shl pins s σ H _ _ v u Q I rx ry ⟨_, _, rfl, rfl, powOk_ok hb, o.val sb (.int _)⟩
    | _ => exact o.elim
  | _ => cases r2 <;> exact o.elim
theorem opB_pow : OpR X (binaryOp .Pow) (rB X.K T (binD .pow)) := by
  rintro pins s σ H x y v u Q I rx ry ⟨S, d1, d2, E, sb, r1, r2, o⟩
  cases r1 with
  | int i =>
    cases r2 with
    | int j =>
      obtain ⟨hb, o⟩ := okM.okIf o
      exact op_pow pins s σ H _ _ v u Q I rx ry ⟨_, _, rfl, rfl, powOk_ok hb, o.val sb (.int _)⟩
    | _ => exact o.elim
  | _ => cases r2 <;> exact o.elim
theorem opB {op : BOp} {o : Operator} (h : isOp op o = true) : OpR X (binaryOp o) (rB X.K T (binD op)) := by
  cases op
  · cases o <;> first | exact Bool.noConfusion h | exact opB_add
  · cases o <;> first | exact Bool.noConfusion h | exact opB_sub
  · cases o <;> first | exact Bool.noConfusion h | exact opB_mul
  · cases o <;> first | exact Bool.noConfusion h | exact opB_fdiv
  · cases o <;> first | exact Bool.noConfusion h | exact opB_mod
  · cases o <;> first | exact Bool.noConfusion h | exact opB_shl
  · cases o <;> first | exact Bool.noConfusion h | exact opB_pow

/-- a comparison of data -/
def rC (K : PySem.W.Frag) (T : Tbs) (g : D → D → M Bool) : R2 := fun x y H Q => ∃ S d1 d2 E, Sub S H ∧ Rp K S x d1 ∧ Rp K S y d2 ∧ okM T E (g d1 d2) S H fun b _ H' => Q (.bl b) H'
theorem opC_eq (hr : X.A.units + 64 < cLine) : OpR X (compareOp .Eq) (rC X.K T (cmpD .eq)) := by
  rintro pins s σ H x y v u Q I rx ry ⟨S, d1, d2, E, sb, r1, r2, o⟩
  obtain ⟨hb, o⟩ := okM.okIf (show okM T E (eqD d1 d2) S H _ by simpa [cmpD] using o)
  rw [Bool.and_eq_true] at hb
  exact op_eqD hr pins s σ H _ _ v u Q I rx ry ⟨d1, d2, (r1.mono sb.ex _ _).dp _ _, (r2.mono sb.ex _ _).dp _ _, hb.1, hb.2, o.ok sb⟩
theorem opC_ne (hr : X.A.units + 64 < cLine) : OpR X (compareOp .NotEq) (rC X.K T (cmpD .ne)) := by
  rintro pins s σ H x y v u Q I rx ry ⟨S, d1, d2, E, sb, r1, r2, o⟩
  have o' : okM T E ((eqD d1 d2).bind fun k => .ok (!k)) S H fun b _ H' => Q (.bl b) H' := by simpa [cmpD] using o
  unfold eqD at o'
  cases hb : (SeqAt.shaped d1 && SeqAt.shaped d2) with
  | false => rw [hb] at o'; exact o'.elim
  | true =>
    rw [hb] at o'
    rw [Bool.and_eq_true] at hb
    exact op_neD hr pins s σ H _ _ v u Q I rx ry ⟨d1, d2, (r1.mono sb.ex _ _).dp _ _, (r2.mono sb.ex _ _).dp _ _, hb.1, hb.2, okM.ok (a := !PyData.eqv d1 d2) o' sb⟩
theorem opC_in (hr : X.A.units + 65 < cLine) : OpR X (compareOp .In) (rC X.K T (cmpD .in_)) := by
  rintro pins s σ H x y v u Q I rx ry ⟨S, d1, d2, E, sb, r1, r2, o⟩
  have o' : okM T E (inD d1 d2) S H fun b _ H' => Q (.bl b) H' := by simpa [cmpD] using o
  cases d2 with
  | list ds =>
    obtain ⟨hb, o'⟩ := okM.okIf (show okM T E (okIf (SeqAt.shaped d1 && SeqAt.shaped (.list ds)) (ds.any fun z => PyData.eqv z d1)) S H _ from o')
    rw [Bool.and_eq_true] at hb
    exact op_inD hr pins s σ H _ _ v u Q I rx ry ⟨d1, ds, (r1.mono sb.ex _ _).dp _ _, (r2.mono sb.ex _ _).dp _ _, hb.1, hb.2, o'.ok sb⟩
  | _ => exact o'.elim
theorem opC_nin (hr : X.A.units + 65 < cLine) : OpR X (compareOp .NotIn) (rC X.K T (cmpD .nin)) := by
  rintro pins s σ H x y v u Q I rx ry ⟨S, d1, d2, E, sb, r1, r2, o⟩
  have o' : okM T E ((inD d1 d2).bind fun k => .ok (!k)) S H fun b _ H' => Q (.bl b) H' := by simpa [cmpD] using o
  cases d2 with
  | list ds =>
    unfold inD at o'
    cases hb : (SeqAt.shaped d1 && SeqAt.shaped (.list ds)) with
    | false => simp only [hb] at o'; exact o'.elim
    | true =>
      simp only [hb] at o'
      rw [Bool.and_eq_true] at hb
      exact op_notInD hr pins s σ H _ _ v u Q I rx ry ⟨d1, ds, (r1.mono sb.ex _ _).dp _ _, (r2.mono sb.ex _ _).dp _ _, hb.1, hb.2, okM.ok (a := !(ds.any fun z => PyData.eqv z d1)) o' sb⟩
  | _ => exact o'.elim
theorem opC_lt : OpR X (compareOp .Lt) (rC X.K T (cmpD .lt)) := by
  rintro pins s σ H x y v u Q I rx ry ⟨S, d1, d2, E, sb, r1, r2, o⟩
  cases r1 with
  | int i =>
    cases r2 with
    | int j => exact op_lt pins s σ H _ _ v u Q I rx ry ⟨_, _, rfl, rfl, o.ok sb⟩
    | _ => exact o.elim
  | _ => cases r2 <;> exact o.elim
theorem opC_le : OpR X (compareOp .LtE) (rC X.K T (cmpD .le)) := by
  rintro pins s σ H x y v u Q I rx ry ⟨S, d1, d2, E, sb, r1, r2, o⟩
  cases r1 with
  | int i =>
    cases r2 with
    | int j => exact op_le pins s σ H _ _ v u Q I rx ry ⟨_, _, rfl, rfl, o.ok sb⟩
    | _ => exact o.elim
  | _ => cases r2 <;> exact o.elim
theorem opC_gt : OpR X (compareOp .Gt) (rC X.K T (cmpD .gt)) := by
  rintro pins s σ H x y v u Q I rx ry ⟨S, d1, d2, E, sb, r1, r2, o⟩
  cases r1 with
  | int i =>
    cases r2 with
    | int j => exact op_gt pins s σ H _ _ v u Q I rx ry ⟨_, _, rfl, rfl, o.ok sb⟩
    | _ => exact o.elim
  | _ => cases r2 <;> exact o.elim
theorem opC_ge : OpR X (compareOp .GtE) (rC X.K T (cmpD .ge)) := by
  rintro pins s σ H x y v u Q I rx ry ⟨S, d1, d2, E, sb, r1, r2, o⟩
  cases r1 with
  | int i =>
    cases r2 with
    | int j => exact op_ge pins s σ H _ _ v u Q I rx ry ⟨_, _, rfl, rfl, o.ok sb⟩
    | _ => exact o.elim
  | _ => cases r2 <;> exact o.elim
theorem opC {op : COp} {o : CmpOp} (hr : X.A.units + 65 < cLine) (h : isCo op o = true) : OpR X (compareOp o) (rC X.K T (cmpD op)) := by
  cases op
  · cases o <;> first | exact Bool.noConfusion h | exact opC_lt
  · cases o <;> first | exact Bool.noConfusion h | exact opC_le
  · cases o <;> first | exact Bool.noConfusion h | exact opC_gt
  · cases o <;> first | exact Bool.noConfusion h | exact opC_ge
  · cases o <;> first | exact Bool.noConfusion h | exact opC_eq (Nat.lt_of_succ_lt hr)
  · cases o <;> first | exact Bool.noConfusion h | exact opC_ne (Nat.lt_of_succ_lt hr)
  · cases o <;> first | exact Bool.noConfusion h | exact opC_in hr
  · cases o <;> first | exact Bool.noConfusion h | exact opC_nin hr
theorem cmpD_ne_err {op : COp} {a b : D} {c : ErrC} : cmpD op a b ≠ .err c := by
  have e1 : ∀ {α : Type} {p : Bool} {a : α}, okIf p a ≠ .err c := fun {α p a} => by cases p <;> (unfold okIf; simp)
  have e2 : eqD a b ≠ .err c := e1
  have e3 : inD a b ≠ .err c := by
    unfold inD
    split
    · exact e1
    · simp
  cases op <;> first
    | (show eqD a b ≠ _; exact e2)
    | (show inD a b ≠ _; exact e3)
    | (show M.bind (eqD a b) _ ≠ _; revert e2; cases eqD a b <;> simp [M.bind])
    | (show M.bind (inD a b) _ ≠ _; revert e3; cases inD a b <;> simp [M.bind])
    | (cases a <;> cases b <;> simp [cmpD])
end
end Rw
namespace Rw
open PySem PySem.Spec PyProof.Rows
open L2 hiding St
section
variable {X : Cx} {c : Nm} {k : Nat} {ρ : Rho} {T : Tbs} {ce : ErV} {W : WX}

/-! ### expressions -/
theorem e_op2 {K : PySem.W.Frag} {α : Type} {fa fb : Fr → M D} {g : D → D → M α} {σ : L2.St} {H S : Hp} {e : Fr} {as : List Addr} {R : α → Hp → Hp → Prop} (a : At K T σ e as S H)
    (o : okM T (EW ce W σ) ((fa e).bind fun x => (fb e).bind fun y => g x y) S H R) {P : V → V → Hp → Prop}
    (hP : ∀ v w d1 d2 S2 H2, At K T σ e as S2 H2 → Rp K S2 v d1 → Rp K S2 w d2 → okM T (EW ce W σ) (g d1 d2) S2 H2 R → P v w H2) :
    tE K T ce W fa σ H fun v H1 => tE K T ce W fb σ H1 fun w H2 => P v w H2 :=
  tE_seq a o fun v d S1 H1 a1 g1 r1 o1 => tE_seq a1 o1 fun w d2 S2 H2 a2 g2 r2 o2 => hP v w d d2 S2 H2 a2 (r1.mono g2.ss _ _) r2 o2
theorem e_bin {op : BOp} {o : Operator} {a b : Expr} {pos : Pos} {fa fb : Fr → M D} (h : isOp op o = true) (ha : PE X a (tE X.K T ce W fa)) (hb : PE X b (tE X.K T ce W fb)) :
    PE X (.BinOp a o b pos) (tE X.K T ce W fun e => (fa e).bind fun x => (fb e).bind fun y => binD op x y) :=
  PE.imp (pe_op (opB (T := T) h) ha hb) fun σ H Q ⟨S, e, as, at_, o⟩ => e_op2 at_ o fun v w d1 d2 S2 H2 a2 r1 r2 o2 => ⟨S2, d1, d2, _, a2.sub, r1, r2, o2⟩
theorem okM.boolV {K : PySem.W.Frag} {E : ErrC → Hp → Prop} {m : M Bool} {S H : Hp} {Q : VK} (o : okM T E (m.bind fun b => .ok (.bool b)) S H fun d S' H' => ∀ v, Rp K S' v d → Q v H') : okM T E m S H fun b _ H' => Q (.bl b) H' :=
  (okM.bind o).imp fun b S' H' g q => q.val g.sub (.bl b)
theorem e_cmp {op : COp} {o : CmpOp} {a b : Expr} {pos : Pos} {fa fb : Fr → M D} (q : Cq X c k ρ T ce W) (h : isCo op o = true) (hp : plainX b = true) (ha : PE X a (tE X.K T ce W fa)) (hb : PE X b (tE X.K T ce W fb)) :
    PE X (.Compare a [o] [b] pos) (tE X.K T ce W fun e => (fa e).bind fun x => (fb e).bind fun y => (cmpD op x y).bind fun k => .ok (.bool k)) :=
  PE.imp (pe_cmpR (opC (T := T) (by have := q.room.un; omega) h) ha hb (mark_plain hp)) fun σ H Q ⟨S, e, as, at_, o⟩ => e_op2 at_ o fun v w d1 d2 S2 H2 a2 r1 r2 o2 => ⟨S2, d1, d2, _, a2.sub, r1, r2, okM.boolV o2⟩
theorem t_cmp {op : COp} {o : CmpOp} {a b : Expr} {pos : Pos} {fa fb : Fr → M D} (q : Cq X c k ρ T ce W) (h : isCo op o = true) (hp : plainX b = true) (ha : PE X a (tE X.K T ce W fa)) (hb : PE X b (tE X.K T ce W fb)) :
    PT X (.Compare a [o] [b] pos) (tT X.K T ce W fun e => (fa e).bind fun x => (fb e).bind fun y => cmpD op x y) :=
  PT.imp (pt_cmpR (opC (T := T) (by have := q.room.un; omega) h) ha hb (mark_plain hp)) fun σ H Q ⟨S, e, as, at_, o⟩ => e_op2 at_ o fun v w d1 d2 S2 H2 a2 r1 r2 o2 => ⟨S2, d1, d2, _, a2.sub, r1, r2, o2.imp fun b _ _ _ r => ⟨b, rfl, r⟩⟩
theorem last_plain {o o' : CmpOp} {b d : Expr} (h : plainX d = true) : lastMarks [o, o'] [b, d] = false := mark_plain h
theorem e_chain {op op' : COp} {o o' : CmpOp} {a b d : Expr} {pos : Pos} {fa fb fd : Fr → M D} (q : Cq X c k ρ T ce W) (h : isCo op o = true) (h' : isCo op' o' = true) (hp : plainX d = true) (ha : PE X a (tE X.K T ce W fa)) (hb : PE X b (tE X.K T ce W fb)) (hd : PE X d (tE X.K T ce W fd)) :
    PE X (.Compare a [o, o'] [b, d] pos) (tE X.K T ce W fun e => (fa e).bind fun x => (fb e).bind fun y => (cmpD op x y).bind fun k => if k then (fd e).bind fun z => (cmpD op' y z).bind fun k => .ok (.bool k) else .ok (.bool false)) :=
  PE.imp (pe_chain (opC (T := T) (by have := q.room.un; omega) h) (opC (T := T) (by have := q.room.un; omega) h') ha hb hd (last_plain hp)) fun σ H Q ⟨S, e, as, at_, o⟩ => e_op2 at_ o fun v w d1 d2 S2 H2 a2 r1 r2 o2 =>
    ⟨S2, d1, d2, _, a2.sub, r1, r2, (okM.bind o2).imp fun b S3 H3 g3 o3 => ⟨b, rfl, by
      cases b with
      | true =>
        rw [if_pos rfl]
        exact tE_seq (a2.mono g3) o3 fun z d3 S4 H4 a4 g4 r4 o4 => ⟨S4, d2, d3, _, a4.sub, r2.mono (g3.trans g4).ss _ _, r4, okM.boolV o4⟩
      | false =>
        rw [if_neg Bool.false_ne_true]
        exact okM.val (d := .bool false) o3 g3.sub (.bl false)⟩⟩
theorem t_chain {op op' : COp} {o o' : CmpOp} {a b d : Expr} {pos : Pos} {fa fb fd : Fr → M D} (q : Cq X c k ρ T ce W) (h : isCo op o = true) (h' : isCo op' o' = true) (hp : plainX d = true) (ha : PE X a (tE X.K T ce W fa)) (hb : PE X b (tE X.K T ce W fb)) (hd : PE X d (tE X.K T ce W fd)) :
    PT X (.Compare a [o, o'] [b, d] pos) (tT X.K T ce W fun e => (fa e).bind fun x => (fb e).bind fun y => (cmpD op x y).bind fun k => if k then (fd e).bind fun z => cmpD op' y z else .ok false) :=
  PT.imp (pt_chain (opC (T := T) (by have := q.room.un; omega) h) (opC (T := T) (by have := q.room.un; omega) h') ha hb hd (last_plain hp)) fun σ H Q ⟨S, e, as, at_, o⟩ => e_op2 at_ o fun v w d1 d2 S2 H2 a2 r1 r2 o2 =>
    ⟨S2, d1, d2, _, a2.sub, r1, r2, (okM.bind o2).imp fun b S3 H3 g3 o3 => ⟨b, rfl, by
      cases b with
      | true =>
        rw [if_pos rfl]
        exact tE_seq (a2.mono g3) o3 fun z d3 S4 H4 a4 g4 r4 o4 => ⟨S4, d2, d3, _, a4.sub, r2.mono (g3.trans g4).ss _ _, r4, o4.imp fun b _ _ _ r => ⟨b, rfl, r⟩⟩
      | false =>
        rw [if_neg Bool.false_ne_true]
        exact ⟨false, rfl, okM.ok (a := false) o3 g3.sub⟩⟩⟩
theorem isN_eq {K : PySem.W.Frag} {S : Hp} {v : V} {d : D} (h : Rp K S v d) : decide (v = .non) = isNoneD d := by
  cases h <;> simp [isNoneD]
theorem e_isN {a : Expr} {j : Nat} {p1 pos : Pos} {fa : Fr → M D} (ha : PE X a (tE X.K T ce W fa)) : PE X (.Compare a [.Is] [.Constant .none j p1] pos) (tE X.K T ce W fun e => (fa e).bind fun x => .ok (.bool (isNoneD x))) :=
  PE.imp (pe_cmpR op_isN ha pe_non (nomark _)) fun σ H Q ⟨S, e, as, at_, o⟩ => tE_seq at_ o fun v d S1 H1 a1 g1 r1 o1 => ⟨rfl, by rw [isN_eq r1]; exact o1.val a1.sub (.bl _)⟩
theorem e_isNN {a : Expr} {j : Nat} {p1 pos : Pos} {fa : Fr → M D} (ha : PE X a (tE X.K T ce W fa)) : PE X (.Compare a [.IsNot] [.Constant .none j p1] pos) (tE X.K T ce W fun e => (fa e).bind fun x => .ok (.bool (!isNoneD x))) :=
  PE.imp (pe_cmpR op_notN ha pe_non (nomark _)) fun σ H Q ⟨S, e, as, at_, o⟩ => tE_seq at_ o fun v d S1 H1 a1 g1 r1 o1 => ⟨rfl, by rw [isN_eq r1]; exact o1.val a1.sub (.bl _)⟩
theorem t_isN {a : Expr} {j : Nat} {p1 pos : Pos} {fa : Fr → M D} (ha : PE X a (tE X.K T ce W fa)) : PT X (.Compare a [.Is] [.Constant .none j p1] pos) (tT X.K T ce W fun e => (fa e).bind fun x => .ok (isNoneD x)) :=
  PT.imp (pt_cmpR op_isN ha pe_non (nomark _)) fun σ H Q ⟨S, e, as, at_, o⟩ => tE_seq at_ o fun v d S1 H1 a1 g1 r1 o1 => ⟨rfl, _, rfl, by rw [isN_eq r1]; exact o1.ok a1.sub⟩
theorem t_isNN {a : Expr} {j : Nat} {p1 pos : Pos} {fa : Fr → M D} (ha : PE X a (tE X.K T ce W fa)) : PT X (.Compare a [.IsNot] [.Constant .none j p1] pos) (tT X.K T ce W fun e => (fa e).bind fun x => .ok (!isNoneD x)) :=
  PT.imp (pt_cmpR op_notN ha pe_non (nomark _)) fun σ H Q ⟨S, e, as, at_, o⟩ => tE_seq at_ o fun v d S1 H1 a1 g1 r1 o1 => ⟨rfl, _, rfl, by rw [isN_eq r1]; exact o1.ok a1.sub⟩
/-- a value that is a truth, as a test -/
theorem t_val {a : Expr} {fa : Fr → M D} (ha : PE X a (tE X.K T ce W fa)) (he : ∀ whole, isTrue a X.env whole = (do let v ← whole; standAt a.pos; holding [v] (truthy v))) : PT X a (tT X.K T ce W fun e => (fa e).bind boolD) :=
  PT.imp (pt_val ha he) fun σ H Q ⟨S, e, as, at_, o⟩ => tE_seq at_ o fun v d S1 H1 a1 g1 r1 o1 => by
    cases r1 with
    | bl b => exact ⟨b, rfl, o1.ok a1.sub⟩
    | _ => exact o1.elim
theorem e_and {a b : Expr} {r : List Expr} {pos : Pos} {fa fb : Fr → M D} (ha : PE X a (tE X.K T ce W fa)) (hb : PE X (.BoolOp .And (b :: r) pos) (tE X.K T ce W fb)) :
    PE X (.BoolOp .And (a :: b :: r) pos) (tE X.K T ce W fun e => (fa e).bind fun x => (boolD x).bind fun k => if k then fb e else .ok (.bool false)) :=
  PE.imp (pe_and ha hb) fun σ H Q ⟨S, e, as, at_, o⟩ => tE_seq at_ o fun v d S1 H1 a1 g1 r1 o1 => by
    cases r1 with
    | bl b =>
      refine ⟨b, rfl, ?_⟩
      cases b with
      | true => exact iteT ⟨S1, e, as, a1, o1⟩
      | false => exact iteF (okM.val (d := .bool false) o1 a1.sub (.bl false))
    | _ => exact o1.elim
theorem e_or {a b : Expr} {r : List Expr} {pos : Pos} {fa fb : Fr → M D} (ha : PE X a (tE X.K T ce W fa)) (hb : PE X (.BoolOp .Or (b :: r) pos) (tE X.K T ce W fb)) :
    PE X (.BoolOp .Or (a :: b :: r) pos) (tE X.K T ce W fun e => (fa e).bind fun x => (boolD x).bind fun k => if k then .ok (.bool true) else fb e) :=
  PE.imp (pe_or ha hb) fun σ H Q ⟨S, e, as, at_, o⟩ => tE_seq at_ o fun v d S1 H1 a1 g1 r1 o1 => by
    cases r1 with
    | bl b =>
      refine ⟨b, rfl, ?_⟩
      cases b with
      | true => exact iteT (okM.val (d := .bool true) o1 a1.sub (.bl true))
      | false => exact iteF ⟨S1, e, as, a1, o1⟩
    | _ => exact o1.elim
theorem w_and {a b : Expr} {r : List Expr} {pos : Pos} {fa fb : Fr → M Bool} (ha : PT X a (tT X.K T ce W fa)) (hb : PW X (.BoolOp .And (b :: r) pos) (tT X.K T ce W fb)) :
    PW X (.BoolOp .And (a :: b :: r) pos) (tT X.K T ce W fun e => (fa e).bind fun k => if k then fb e else .ok false) :=
  PW.imp (pw_and ha hb) fun σ H Q ⟨S, e, as, at_, o⟩ => tT_seq at_ o fun b S1 H1 a1 g1 o1 => by
    cases b with
    | true => exact iteT ⟨S1, e, as, a1, o1⟩
    | false => exact iteF (okM.ok (a := false) o1 a1.sub)
theorem w_or {a b : Expr} {r : List Expr} {pos : Pos} {fa fb : Fr → M Bool} (ha : PT X a (tT X.K T ce W fa)) (hb : PW X (.BoolOp .Or (b :: r) pos) (tT X.K T ce W fb)) :
    PW X (.BoolOp .Or (a :: b :: r) pos) (tT X.K T ce W fun e => (fa e).bind fun k => if k then .ok true else fb e) :=
  PW.imp (pw_or ha hb) fun σ H Q ⟨S, e, as, at_, o⟩ => tT_seq at_ o fun b S1 H1 a1 g1 o1 => by
    cases b with
    | true => exact iteT (okM.ok (a := true) o1 a1.sub)
    | false => exact iteF ⟨S1, e, as, a1, o1⟩
theorem t_not {a : Expr} {pos : Pos} {fa : Fr → M Bool} (ha : PT X a (tT X.K T ce W fa)) : PT X (.UnaryOp .Not a pos) (tT X.K T ce W fun e => (fa e).bind fun k => .ok (!k)) :=
  PT.imp (pt_not ha) fun σ H Q ⟨S, e, as, at_, o⟩ => tT_seq at_ o fun b S1 H1 a1 g1 o1 => okM.ok (a := !b) o1 a1.sub
theorem e_not {a : Expr} {pos : Pos} {fa : Fr → M D} (ha : PE X a (tE X.K T ce W fa)) : PE X (.UnaryOp .Not a pos) (tE X.K T ce W fun e => (fa e).bind fun x => (boolD x).bind fun k => .ok (.bool (!k))) :=
  PE.imp (pe_not ha) fun σ H Q ⟨S, e, as, at_, o⟩ => tE_seq at_ o fun v d S1 H1 a1 g1 r1 o1 => by
    cases r1 with
    | bl b => exact ⟨b, rfl, okM.val (d := .bool (!b)) o1 a1.sub (.bl _)⟩
    | _ => exact o1.elim
theorem e_ite {t a b : Expr} {pos : Pos} {ft : Fr → M Bool} {fa fb : Fr → M D} (ht : PT X t (tT X.K T ce W ft)) (ha : PE X a (tE X.K T ce W fa)) (hb : PE X b (tE X.K T ce W fb)) :
    PE X (.IfExp t a b pos) (tE X.K T ce W fun e => (ft e).bind fun k => if k then fa e else fb e) :=
  PE.imp (pe_ifExp ht ha hb) fun σ H Q ⟨S, e, as, at_, o⟩ => tT_seq at_ o fun b S1 H1 a1 g1 o1 => by
    cases b with
    | true => exact iteT ⟨S1, e, as, a1, o1⟩
    | false => exact iteF ⟨S1, e, as, a1, o1⟩
theorem e_neg {a : Expr} {pos : Pos} {fa : Fr → M D} (ha : PE X a (tE X.K T ce W fa)) : PE X (.UnaryOp .USub a pos) (tE X.K T ce W fun e => (fa e).bind negD) :=
  PE.imp (pe_un un_neg ha) fun σ H Q ⟨S, e, as, at_, o⟩ => tE_seq at_ o fun v d S1 H1 a1 g1 r1 o1 => by
    cases r1 with
    | int i => exact ⟨i, rfl, o1.val a1.sub (.int _)⟩
    | _ => exact o1.elim
theorem Rp.seqL {K : PySem.W.Frag} {S H : Hp} {v : V} {ds : List D} (s : Sub S H) (h : Rp K S v (.list ds)) : ∃ a vs, v = .ref a ∧ Rd H a (.lst vs) ∧ SqL K H a vs ∧ RpAll K S vs ds := by
  cases h with
  | lst h1 h2 => exact ⟨_, _, rfl, s.rd h1, .inl (s.rd h1), h2⟩
theorem Rp.seqT {K : PySem.W.Frag} {S H : Hp} {v : V} {ds : List D} (s : Sub S H) (h : Rp K S v (.tuple ds)) : ∃ a vs, v = .ref a ∧ SqT K H a vs ∧ RpAll K S vs ds := by
  cases h with
  | tup h1 h2 => exact ⟨_, _, rfl, s.sqt h1, h2⟩
theorem at_rp {K : PySem.W.Frag} {S : Hp} {vs : List V} {ds : List D} {i : Int} {d : D} (h : RpAll K S vs ds) (e : atI ds i = some d) : ∃ v, atI vs i = some v ∧ Rp K S v d := by
  unfold atI at e ⊢
  rw [h.len]
  obtain ⟨j, h1, h2⟩ := Option.bind_eq_some_iff.mp e
  obtain ⟨v, h3, h4⟩ := h.get h2
  exact ⟨v, by rw [h1]; exact h3, h4⟩
theorem e_idx {a b : Expr} {pos : Pos} {fa fb : Fr → M D} (hp : plainX b = true) (ha : PE X a (tE X.K T ce W fa)) (hb : PE X b (tE X.K T ce W fb)) :
    PE X (.Subscript a b pos) (tE X.K T ce W fun e => (fa e).bind fun x => (fb e).bind fun y => idxD x y) :=
  PE.imp (pe_ix ix_seq ha hb (ix_plain hp)) fun σ H Q ⟨S, e, as, at_, o⟩ => e_op2 at_ o fun v w d1 d2 S2 H2 a2 r1 r2 o2 => by
    cases d1 with
    | list ds =>
      cases r2 with
      | int i =>
        obtain ⟨p, vs, rfl, _, hs, hv⟩ := r1.seqL a2.sub
        have o3 : okM T _ (match atI ds i with | some d => M.ok d | none => .stuck) S2 H2 _ := o2
        cases hi : atI ds i with
        | none => rw [hi] at o3; exact o3.elim
        | some d =>
          rw [hi] at o3
          obtain ⟨v, h1, h2⟩ := at_rp hv hi
          exact .inl ⟨p, vs, i, v, rfl, rfl, hs, h1, okM.val (d := d) o3 a2.sub h2⟩
      | _ => exact o2.elim
    | tuple ds =>
      cases r2 with
      | int i =>
        obtain ⟨p, vs, rfl, hs, hv⟩ := r1.seqT a2.sub
        have o3 : okM T _ (match atI ds i with | some d => M.ok d | none => .stuck) S2 H2 _ := o2
        cases hi : atI ds i with
        | none => rw [hi] at o3; exact o3.elim
        | some d =>
          rw [hi] at o3
          obtain ⟨v, h1, h2⟩ := at_rp hv hi
          exact .inr (.inl ⟨p, vs, i, v, rfl, rfl, hs, h1, okM.val (d := d) o3 a2.sub h2⟩)
      | _ => exact o2.elim
    | _ => cases r1 <;> exact o2.elim
theorem cut_rp {K : PySem.W.Frag} {S : Hp} {vs : List V} {ds : List D} {lo hi : Option Int} (h : RpAll K S vs ds) : RpAll K S (cutV vs lo hi) (cutD ds lo hi) := by
  unfold cutV cutD
  rw [h.len]
  exact (h.drop _).take _
theorem e_slL {a b : Expr} {p2 pos : Pos} {fa fb : Fr → M D} (ha : PE X a (tE X.K T ce W fa)) (hb : PE X b (tE X.K T ce W fb)) :
    PE X (.Subscript a (.Slice (some b) none none p2) pos) (tE X.K T ce W fun e => (fa e).bind fun x => (fb e).bind fun y => (intM y).bind fun i => slD x (some i) none) :=
  PE.imp (pe_slice sl_list ha (po_some hb) po_none) fun σ H Q ⟨S, e, as, at_, o⟩ => e_op2 at_ o fun v w d1 d2 S2 H2 a2 r1 r2 o2 => by
    cases r2 with
    | int i =>
      cases d1 with
      | list ds =>
        obtain ⟨p, vs, rfl, _, hs, hv⟩ := r1.seqL a2.sub
        exact ⟨i, rfl, p, vs, rfl, hs, fun q hq => okM.new (d := .list _) o2 a2.sub hq (fun _ z => by cases z) (rp_newL a2.sub hq (cut_rp hv))⟩
      | _ => exact o2.elim
    | _ => exact o2.elim
theorem e_slU {a b : Expr} {p2 pos : Pos} {fa fb : Fr → M D} (ha : PE X a (tE X.K T ce W fa)) (hb : PE X b (tE X.K T ce W fb)) :
    PE X (.Subscript a (.Slice none (some b) none p2) pos) (tE X.K T ce W fun e => (fa e).bind fun x => (fb e).bind fun y => (intM y).bind fun i => slD x none (some i)) :=
  PE.imp (pe_slice sl_list ha po_none (po_some hb)) fun σ H Q ⟨S, e, as, at_, o⟩ => e_op2 at_ o fun v w d1 d2 S2 H2 a2 r1 r2 o2 => by
    cases r2 with
    | int i =>
      cases d1 with
      | list ds =>
        obtain ⟨p, vs, rfl, _, hs, hv⟩ := r1.seqL a2.sub
        exact ⟨i, rfl, p, vs, rfl, hs, fun q hq => okM.new (d := .list _) o2 a2.sub hq (fun _ z => by cases z) (rp_newL a2.sub hq (cut_rp hv))⟩
      | _ => exact o2.elim
    | _ => exact o2.elim
theorem e_slB {a b d : Expr} {p2 pos : Pos} {fa fb fd : Fr → M D} (ha : PE X a (tE X.K T ce W fa)) (hb : PE X b (tE X.K T ce W fb)) (hd : PE X d (tE X.K T ce W fd)) :
    PE X (.Subscript a (.Slice (some b) (some d) none p2) pos) (tE X.K T ce W fun e => (fa e).bind fun x => (fb e).bind fun y => (intM y).bind fun i => (fd e).bind fun z => (intM z).bind fun j => slD x (some i) (some j)) :=
  PE.imp (pe_slice sl_list ha (po_some hb) (po_some hd)) fun σ H Q ⟨S, e, as, at_, o⟩ => tE_seq at_ o fun v d1 S1 H1 a1 g1 r1 o1 => tE_seq a1 o1 fun w d2 S2 H2 a2 g2 r2 o2 => by
    cases r2 with
    | int i =>
      refine ⟨i, rfl, tE_seq a2 o2 fun u d3 S3 H3 a3 g3 r3 o3 => ?_⟩
      cases r3 with
      | int j =>
        refine ⟨j, rfl, ?_⟩
        have r1' := r1.mono (g2.trans g3).ss _ _
        cases d1 with
        | list ds =>
          obtain ⟨p, vs, rfl, _, hs, hv⟩ := r1'.seqL a3.sub
          exact ⟨p, vs, rfl, hs, fun q hq => okM.new (d := .list _) o3 a3.sub hq (fun _ z => by cases z) (rp_newL a3.sub hq (cut_rp hv))⟩
        | _ => exact o3.elim
      | _ => exact o3.elim
    | _ => exact o2.elim
theorem e_slR {a : Expr} {j : Nat} {p1 p2 p3 pos : Pos} {fa : Fr → M D} (ha : PE X a (tE X.K T ce W fa)) :
    PE X (.Subscript a (.Slice none none (some (.UnaryOp .USub (.Constant (.int 1) j p1) p2)) p3) pos) (tE X.K T ce W fun e => (fa e).bind revD) :=
  PE.imp (pe_revL ha) fun σ H Q ⟨S, e, as, at_, o⟩ => tE_seq at_ o fun v d S1 H1 a1 g1 r1 o1 => by
    cases d with
    | list ds =>
      obtain ⟨p, vs, rfl, _, hs, hv⟩ := r1.seqL a1.sub
      exact ⟨p, vs, rfl, hs, fun q hq => okM.new (d := .list _) o1 a1.sub hq (fun _ z => by cases z) (rp_newL a1.sub hq hv.reverse)⟩
    | _ => cases r1 <;> exact o1.elim
theorem a_nil : PA X [] (tA X.K T ce W fun _ => .ok []) := PA.imp pa_nil fun σ H Q ⟨S, e, as, at_, o⟩ => o.ok at_.sub [] .nil
theorem a_cons {x : Expr} {xs : List Expr} {fa : Fr → M D} {fr : Fr → M (List D)} (hp : plainX x = true) (ha : PE X x (tE X.K T ce W fa)) (hr : PA X xs (tA X.K T ce W fr)) :
    PA X (x :: xs) (tA X.K T ce W fun e => (fa e).bind fun x => (fr e).bind fun xs => .ok (x :: xs)) :=
  PA.imp (pa_cons ha hr (star_plain hp)) fun σ H Q ⟨S, e, as, at_, o⟩ => tE_seq at_ o fun v d S1 H1 a1 g1 r1 o1 => tA_seq a1 o1 fun vs ds S2 H2 a2 g2 r2 o2 => okM.ok (a := d :: ds) o2 a2.sub _ (.cons (r1.mono g2.ss _ _) r2)
theorem e_tup {es : List Expr} {x1 : Nat} {pos : Pos} {fs : Fr → M (List D)} (h : PA X es (tA X.K T ce W fs)) : PE X (.Tuple es x1 pos) (tE X.K T ce W fun e => (fs e).bind fun ds => okIf (decide (ds.length ≤ big)) (.tuple ds)) :=
  PE.imp (pe_tup h) fun σ H Q ⟨S, e, as, at_, o⟩ => tA_seq at_ o fun vs ds S1 H1 a1 g1 r1 o1 => by
    obtain ⟨hb, o1⟩ := okM.okIf o1
    exact ⟨by rw [r1.len]; exact big_ok (of_decide_eq_true hb), fun p hp => o1.new a1.sub hp (fun _ z => by cases z) (rp_newT a1.sub hp r1)⟩
theorem e_lst {es : List Expr} {pos : Pos} {fs : Fr → M (List D)} (h : PA X es (tA X.K T ce W fs)) : PE X (.List es pos) (tE X.K T ce W fun e => (fs e).bind fun ds => okIf (decide (ds.length ≤ big)) (.list ds)) :=
  PE.imp (pe_lst h) fun σ H Q ⟨S, e, as, at_, o⟩ => tA_seq at_ o fun vs ds S1 H1 a1 g1 r1 o1 => by
    obtain ⟨hb, o1⟩ := okM.okIf o1
    exact ⟨by rw [r1.len]; exact big_ok (of_decide_eq_true hb), fun p hp => o1.new a1.sub hp (fun _ z => by cases z) (rp_newL a1.sub hp r1)⟩
theorem e_call {F : FnE} {p pos : Pos} {y : Expr} {ys : List Expr} {fs : Fr → M (List D)} (q : Cq X c k ρ T ce W) (hf : HasFn X k T ce F) (hg : Gl X F.x) (hd : (F.x == ("__debug__" : Str)) = false) (hp : plainX y = true)
    (hb : (backTo pos (starEach ys X.env)).any (·.1) = false) (hl : ∀ e ds, fs e = .ok ds → ds.length = F.n) (h : PA X (y :: ys) (tA X.K T ce W fs)) : PE X (.Call (.Name F.x p) (y :: ys) [] pos) (tE X.K T ce W fun e => (fs e).bind F.F) := by
  obtain ⟨f, fd, ps, hm, hk, hbd, G⟩ := hf
  refine PE.imp (pe_callS G q.room hg hm hk hbd (fun σ => L2N.passAt q.tk σ) h hd (star_plain hp) hb) fun σ H Q ⟨S, e, as, at_, o⟩ => ⟨S, e, as, at_, ?_⟩
  have o' := okM.bind o
  cases hfs : fs e with
  | ok ds =>
    rw [hfs] at o'
    exact fun S1 H1 g1 vs r1 => ⟨S1, ds, g1.sub, g1.tab at_.tab, r1, hl e ds hfs, o' S1 H1 g1⟩
  | err c => rw [hfs] at o'; exact o'
  | stuck => rw [hfs] at o'; exact o'
end
end Rw
namespace Rw
open PySem PySem.Spec PyProof.Rows
open L2 hiding St
section
variable {X : Cx} {c : Nm} {k : Nat} {ρ : Rho} {T : Tbs} {ce : ErV} {W : WX}
/-! ### built-ins -/
/-- what a built-in asks of its arguments is there -/
def BltR (K : PySem.W.Frag) (T : Tbs) (b : Blt) (r : List V → Hp → VK → Prop) : Prop := ∀ (vs : List V) (ds : List D) (S H : Hp) (E : ErrC → Hp → Prop) (Q : VK), Sub S H → RpAll K S vs ds → okM T E (bltD b ds) S H (fun d S' H' => ∀ v, Rp K S' v d → Q v H') → r vs H Q
theorem blt_of {r : List V → Hp → VK → Prop} {b : Blt} {ex : Expr} {fs : Fr → M (List D)} (h : PE X ex (tCB r (tA X.K T ce W fs))) (hr : BltR X.K T b r) : PE X ex (tE X.K T ce W fun e => (fs e).bind (bltD b)) :=
  PE.imp h fun σ H Q ⟨S, e, as, at_, o⟩ => tA_seq at_ o fun vs ds S1 H1 a1 g1 r1 o1 => hr vs ds S1 H1 _ Q a1.sub r1 o1
theorem all1 {K : PySem.W.Frag} {S : Hp} {vs : List V} {d : D} (h : RpAll K S vs [d]) : ∃ v, vs = [v] ∧ Rp K S v d := by
  cases h with
  | cons h t => cases t; exact ⟨_, rfl, h⟩
theorem all2 {K : PySem.W.Frag} {S : Hp} {vs : List V} {d d' : D} (h : RpAll K S vs [d, d']) : ∃ v w, vs = [v, w] ∧ Rp K S v d ∧ Rp K S w d' := by
  cases h with
  | cons h t =>
    cases t with
    | cons h2 t => cases t; exact ⟨_, _, rfl, h, h2⟩
theorem b_len : BltR X.K T .len (fun xs H Q => ∃ x n, xs = [x] ∧ LenV X.K x H n ∧ Q (.int n) H) := by
  intro vs ds S H E Q s r o
  match ds, r, o with
  | [.list l], r, o =>
    obtain ⟨v, rfl, h⟩ := all1 r
    obtain ⟨a, ws, rfl, _, hs, hv⟩ := h.seqL s
    exact ⟨_, ws.length, rfl, .inl ⟨_, hs, rfl⟩, by rw [hv.len]; exact okM.val (d := .int _) o s (.int _)⟩
  | [.tuple l], r, o =>
    obtain ⟨v, rfl, h⟩ := all1 r
    obtain ⟨a, ws, rfl, hs, hv⟩ := h.seqT s
    exact ⟨_, ws.length, rfl, .inr ⟨_, hs, rfl⟩, by rw [hv.len]; exact okM.val (d := .int _) o s (.int _)⟩
  | [], _, o => exact o.elim
  | [.none], _, o => exact o.elim
  | [.bool _], _, o => exact o.elim
  | [.int _], _, o => exact o.elim
  | [.str _], _, o => exact o.elim
  | [.dict _], _, o => exact o.elim
  | _ :: _ :: _, _, o => exact absurd o (by simp [bltD, okM])
theorem b_abs : BltR X.K T .abs (fun xs H Q => ∃ i, xs = [.int i] ∧ Q (.int (if i < 0 then -i else i)) H) := by
  intro vs ds S H E Q s r o
  match ds, r, o with
  | [.int i], r, o =>
    obtain ⟨v, rfl, h⟩ := all1 r
    cases h
    exact ⟨i, rfl, okM.val (d := .int _) o s (.int _)⟩
  | [], _, o => exact o.elim
  | [.none], _, o => exact o.elim
  | [.bool _], _, o => exact o.elim
  | [.list _], _, o => exact o.elim
  | [.tuple _], _, o => exact o.elim
  | [.str _], _, o => exact o.elim
  | [.dict _], _, o => exact o.elim
  | _ :: _ :: _, _, o => exact absurd o (by simp [bltD, okM])
theorem b_int : BltR X.K T .int (fun xs H Q => (∃ i, xs = [.int i] ∧ Q (.int i) H) ∨ ∃ k, xs = [.bl k] ∧ Q (.int (if k then 1 else 0)) H) := by
  intro vs ds S H E Q s r o
  match ds, r, o with
  | [.int i], r, o =>
    obtain ⟨v, rfl, h⟩ := all1 r
    cases h
    exact .inl ⟨i, rfl, okM.val (d := .int _) o s (.int _)⟩
  | [.bool b], r, o =>
    obtain ⟨v, rfl, h⟩ := all1 r
    cases h
    exact .inr ⟨b, rfl, okM.val (d := .int _) o s (.int _)⟩
  | [], _, o => exact o.elim
  | [.none], _, o => exact o.elim
  | [.list _], _, o => exact o.elim
  | [.tuple _], _, o => exact o.elim
  | [.str _], _, o => exact o.elim
  | [.dict _], _, o => exact o.elim
  | _ :: _ :: _, _, o => exact absurd o (by simp [bltD, okM])
theorem ints2 {b : Blt} (hb : ∀ ds, (∀ i j, ds ≠ [.int i, .int j]) → bltD b ds = .stuck) {K : PySem.W.Frag} {vs : List V} {ds : List D} {S H : Hp} {E : ErrC → Hp → Prop} {R : D → Hp → Hp → Prop} (r : RpAll K S vs ds) (o : okM T E (bltD b ds) S H R) :
    ∃ i j, vs = [.int i, .int j] ∧ ds = [.int i, .int j] := by
  by_cases h : ∃ i j, ds = [.int i, .int j]
  · obtain ⟨i, j, rfl⟩ := h
    obtain ⟨v, w, rfl, h1, h2⟩ := all2 r
    cases h1
    cases h2
    exact ⟨i, j, rfl, rfl⟩
  · rw [hb ds fun i j e => h ⟨i, j, e⟩] at o
    exact o.elim
theorem b_min : BltR X.K T .min2 (fun xs H Q => ∃ i j, xs = [.int i, .int j] ∧ Q (.int (if j < i then j else i)) H) := by
  intro vs ds S H E Q s r o
  obtain ⟨i, j, rfl, rfl⟩ := ints2 (b := .min2) (fun ds h => by
    unfold bltD
    split <;> first | rfl | (exact absurd rfl (h _ _)) | (rename_i q; cases q)) r o
  exact ⟨i, j, rfl, okM.val (d := .int _) o s (.int _)⟩
theorem b_max : BltR X.K T .max2 (fun xs H Q => ∃ i j, xs = [.int i, .int j] ∧ Q (.int (if j > i then j else i)) H) := by
  intro vs ds S H E Q s r o
  obtain ⟨i, j, rfl, rfl⟩ := ints2 (b := .max2) (fun ds h => by
    unfold bltD
    split <;> first | rfl | (exact absurd rfl (h _ _)) | (rename_i q; cases q)) r o
  exact ⟨i, j, rfl, okM.val (d := .int _) o s (.int _)⟩
theorem list1 {b : Blt} (hb : ∀ ds, (∀ l, ds ≠ [.list l]) → bltD b ds = .stuck) {K : PySem.W.Frag} {vs : List V} {ds : List D} {S H : Hp} {E : ErrC → Hp → Prop} {R : D → Hp → Hp → Prop} (s : Sub S H) (r : RpAll K S vs ds) (o : okM T E (bltD b ds) S H R) :
    ∃ a ws l, vs = [.ref a] ∧ ds = [.list l] ∧ SqL K H a ws ∧ RpAll K S ws l := by
  by_cases h : ∃ l, ds = [.list l]
  · obtain ⟨l, rfl⟩ := h
    obtain ⟨v, rfl, h1⟩ := all1 r
    obtain ⟨a, ws, rfl, _, hs, hv⟩ := h1.seqL s
    exact ⟨a, ws, l, rfl, rfl, hs, hv⟩
  · rw [hb ds fun l e => h ⟨l, e⟩] at o
    exact o.elim
theorem b_any : BltR X.K T .any (rAny X.K) := by
  intro vs ds S H E Q s r o
  obtain ⟨a, ws, l, rfl, rfl, hs, hv⟩ := list1 (b := .any) (fun ds h => by
    unfold bltD
    split <;> first | rfl | (exact absurd rfl (h _)) | (rename_i q; cases q)) s r o
  have o2 : okM T E (match boolsD l with | some bs => M.ok (PyData.bool (bs.any id)) | none => .stuck) S H (fun d S' H' => ∀ v, Rp X.K S' v d → Q v H') := o
  cases e : boolsD l with
  | none => rw [e] at o2; exact o2.elim
  | some bs =>
    rw [e] at o2
    have hw := hv.bools e
    subst hw
    exact ⟨a, bs, rfl, hs, okM.val (d := .bool _) o2 s (.bl _)⟩
theorem b_all : BltR X.K T .all (rAll X.K) := by
  intro vs ds S H E Q s r o
  obtain ⟨a, ws, l, rfl, rfl, hs, hv⟩ := list1 (b := .all) (fun ds h => by
    unfold bltD
    split <;> first | rfl | (exact absurd rfl (h _)) | (rename_i q; cases q)) s r o
  have o2 : okM T E (match boolsD l with | some bs => M.ok (PyData.bool (bs.all id)) | none => .stuck) S H (fun d S' H' => ∀ v, Rp X.K S' v d → Q v H') := o
  cases e : boolsD l with
  | none => rw [e] at o2; exact o2.elim
  | some bs =>
    rw [e] at o2
    have hw := hv.bools e
    subst hw
    exact ⟨a, bs, rfl, hs, okM.val (d := .bool _) o2 s (.bl _)⟩
theorem b_sum : BltR X.K T .sum (rSum X.K) := by
  intro vs ds S H E Q s r o
  obtain ⟨a, ws, l, rfl, rfl, hs, hv⟩ := list1 (b := .sum) (fun ds h => by
    unfold bltD
    split <;> first | rfl | (exact absurd rfl (h _)) | (rename_i q; cases q)) s r o
  have o2 : okM T E (match intsD l with | some ns => M.ok (PyData.int ns.sum) | none => .stuck) S H (fun d S' H' => ∀ v, Rp X.K S' v d → Q v H') := o
  cases e : intsD l with
  | none => rw [e] at o2; exact o2.elim
  | some ns =>
    rw [e] at o2
    have hw := hv.ints e
    subst hw
    exact ⟨a, ns, rfl, hs, okM.val (d := .int _) o2 s (.int _)⟩
theorem b_list : BltR X.K T .list (fun xs H Q => ∃ p ys, xs = [.ref p] ∧ (SqL X.K H p ys ∨ SqT X.K H p ys) ∧ ∀ l, H l = none → Q (.ref l) (upd H l (.lst ys))) := by
  intro vs ds S H E Q s r o
  match ds, r, o with
  | [.list l], r, o =>
    obtain ⟨v, rfl, h⟩ := all1 r
    obtain ⟨a, ws, rfl, _, hs, hv⟩ := h.seqL s
    exact ⟨_, ws, rfl, .inl hs, fun q hq => okM.new (d := .list _) o s hq (fun _ z => by cases z) (rp_newL s hq hv)⟩
  | [.tuple l], r, o =>
    obtain ⟨v, rfl, h⟩ := all1 r
    obtain ⟨a, ws, rfl, hs, hv⟩ := h.seqT s
    exact ⟨_, ws, rfl, .inr hs, fun q hq => okM.new (d := .list _) o s hq (fun _ z => by cases z) (rp_newL s hq hv)⟩
  | [], _, o => exact o.elim
  | [.none], _, o => exact o.elim
  | [.bool _], _, o => exact o.elim
  | [.int _], _, o => exact o.elim
  | [.str _], _, o => exact o.elim
  | [.dict _], _, o => exact o.elim
  | _ :: _ :: _, _, o => exact absurd o (by simp [bltD, okM])
theorem b_tuple : BltR X.K T .tuple (fun xs H Q => ∃ p ys, xs = [.ref p] ∧ ((SqL X.K H p ys ∧ ∀ l, H l = none → Q (.ref l) (upd H l (.tup ys))) ∨ (SqT X.K H p ys ∧ Q (.ref p) H))) := by
  intro vs ds S H E Q s r o
  match ds, r, o with
  | [.list l], r, o =>
    obtain ⟨v, rfl, h⟩ := all1 r
    obtain ⟨a, ws, rfl, _, hs, hv⟩ := h.seqL s
    exact ⟨_, ws, rfl, .inl ⟨hs, fun q hq => okM.new (d := .tuple _) o s hq (fun _ z => by cases z) (rp_newT s hq hv)⟩⟩
  | [.tuple l], r, o =>
    obtain ⟨v, rfl, h⟩ := all1 r
    obtain ⟨a, ws, e, hs, hv⟩ := h.seqT s
    subst e
    exact ⟨_, ws, rfl, .inr ⟨hs, okM.val (d := .tuple _) o s h⟩⟩
  | [], _, o => exact o.elim
  | [.none], _, o => exact o.elim
  | [.bool _], _, o => exact o.elim
  | [.int _], _, o => exact o.elim
  | [.str _], _, o => exact o.elim
  | [.dict _], _, o => exact o.elim
  | _ :: _ :: _, _, o => exact absurd o (by simp [bltD, okM])
theorem srt_eq {ns ns' : List Int} (h1 : ns'.Perm ns) (h2 : ns'.Pairwise (· ≤ ·)) : ns' = ns.mergeSort fun i j => decide (i ≤ j) := by
  have h3 : (ns.mergeSort fun i j => decide (i ≤ j)).Pairwise (· ≤ ·) := by
    have := List.pairwise_mergeSort (le := fun (i j : Int) => decide (i ≤ j)) (fun a b c x y => by simp at *; omega) (fun a b => by simp; omega) ns
    exact this.imp fun h => by simpa using h
  exact (h1.trans (List.mergeSort_perm ns _).symm).eq_of_pairwise (fun a b _ _ x y => by omega) h2 h3
theorem b_sorted : BltR X.K T .sorted (rSortedI X.K) := by
  intro vs ds S H E Q s r o
  obtain ⟨a, ws, l, rfl, rfl, hs, hv⟩ := list1 (b := .sorted) (fun ds h => by
    unfold bltD
    split <;> first | rfl | (exact absurd rfl (h _)) | (rename_i q; cases q)) s r o
  have o2 : okM T E (match intsD l with | some ns => M.ok (PyData.list ((ns.mergeSort fun i j => decide (i ≤ j)).map .int)) | none => .stuck) S H (fun d S' H' => ∀ v, Rp X.K S' v d → Q v H') := o
  cases e : intsD l with
  | none => rw [e] at o2; exact o2.elim
  | some ns =>
    rw [e] at o2
    have hw := hv.ints e
    subst hw
    refine ⟨a, ns, rfl, hs, fun ns' p h1 h2 hp => ?_⟩
    rw [srt_eq h1 h2]
    refine okM.new (d := .list _) o2 s hp (fun _ z => by cases z) (rp_newL s hp ?_)
    generalize (ns.mergeSort fun i j => decide (i ≤ j)) = ms
    induction ms with
    | nil => exact .nil
    | cons i r ih => exact .cons (.int i) ih
theorem boots : bootBuiltins "min" = some (.builtin "min") ∧ bootBuiltins "max" = some (.builtin "max") ∧ bootBuiltins "any" = some (.builtin "any") ∧ bootBuiltins "all" = some (.builtin "all") ∧ bootBuiltins "sum" = some (.builtin "sum") ∧ bootBuiltins "int" = some (.type "int") ∧ bootBuiltins "list" = some (.type "list") ∧ bootBuiltins "tuple" = some (.type "tuple") ∧ bootBuiltins "sorted" = some (.builtin "sorted") := by decide +kernel
theorem e_blt {b : Blt} {p pos : Pos} {y : Expr} {ys : List Expr} {fs : Fr → M (List D)} (q : Cq X c k ρ T ce W) (hg : Gl X (bltName b)) (hp : plainX y = true)
    (hb : (backTo pos (starEach ys X.env)).any (·.1) = false) (h : PA X (y :: ys) (tA X.K T ce W fs)) : PE X (.Call (.Name (bltName b) p) (y :: ys) [] pos) (tE X.K T ce W fun e => (fs e).bind (bltD b)) := by
  obtain ⟨b1, b2, b3, b4, b5, b6, b7, b8, b9⟩ := boots
  cases b with
  | len => exact blt_of (pe_callB call_len hg (q.blt "len" (by simp [bnames])) PySem.boot_len h (by decide) (by decide) (star_plain hp) hb) b_len
  | abs => exact blt_of (pe_callB call_abs hg (q.blt "abs" (by simp [bnames])) boot_abs h (by decide) (by decide) (star_plain hp) hb) b_abs
  | int => exact blt_of (pe_callTy call_int1 hg (q.blt "int" (by simp [bnames])) b6 h (by decide) (by decide) (star_plain hp) hb) b_int
  | min2 => exact blt_of (pe_callB (call_min2 q.calm) hg (q.blt "min" (by simp [bnames])) b1 h (by decide) (by decide) (star_plain hp) hb) b_min
  | max2 => exact blt_of (pe_callB (call_max2 q.calm) hg (q.blt "max" (by simp [bnames])) b2 h (by decide) (by decide) (star_plain hp) hb) b_max
  | any => exact blt_of (pe_callB (cr_any q.calm) hg (q.blt "any" (by simp [bnames])) b3 h (by decide) (by decide) (star_plain hp) hb) b_any
  | all => exact blt_of (pe_callB (cr_all q.calm) hg (q.blt "all" (by simp [bnames])) b4 h (by decide) (by decide) (star_plain hp) hb) b_all
  | sum => exact blt_of (pe_callB (cr_sum q.calm) hg (q.blt "sum" (by simp [bnames])) b5 h (by decide) (by decide) (star_plain hp) hb) b_sum
  | list => exact blt_of (pe_callTy call_list_of hg (q.blt "list" (by simp [bnames])) b7 h (by decide) (by decide) (star_plain hp) hb) b_list
  | tuple => exact blt_of (pe_callTy call_tuple_of hg (q.blt "tuple" (by simp [bnames])) b8 h (by decide) (by decide) (star_plain hp) hb) b_tuple
  | sorted => exact blt_of (pe_callB cr_sortedI hg (q.blt "sorted" (by simp [bnames])) b9 h (by decide) (by decide) (star_plain hp) hb) b_sorted
/-! ### isinstance, index -/
theorem kits : ∀ a ∈ ["NoneType", "bool", "int", "str", "list", "tuple"], ∀ b ∈ ["bool", "list", "tuple", "str", "dict"], kitB a b = some (decide (a = b)) := by decide +kernel
theorem boots2 : bootBuiltins "isinstance" = some (.builtin "isinstance") ∧ bootBuiltins "bool" = some (.type "bool") ∧ bootBuiltins "list" = some (.type "list") ∧ bootBuiltins "tuple" = some (.type "tuple") ∧ bootBuiltins "str" = some (.type "str") ∧ bootBuiltins "dict" = some (.type "dict") := by decide +kernel
def tyS : Ty → String
  | .bool => "bool"
  | .list => "list"
  | .tuple => "tuple"
  | .str => "str"
  | .dict => "dict"
def dTy : D → String
  | .none => "NoneType"
  | .bool _ => "bool"
  | .int _ => "int"
  | .str _ => "str"
  | .list _ => "list"
  | .tuple _ => "tuple"
  | .dict _ => "dict"
theorem Rp.ty {K : PySem.W.Frag} {S H : Hp} {v : V} {d : D} (s : Sub S H) (h : Rp K S v d) : TyX K H v (.type (dTy d)) := by
  cases h with
  | non => exact .base .non
  | bl b => exact .base (.bl b)
  | int i => exact .base (.int i)
  | str x => exact .base (.str x)
  | lst h1 _ =>
    rcases h1 with h1 | ⟨o, h1⟩
    · exact .base (.lst (s _ _ h1).1)
    · exact .base (.frz (s _ _ h1).1)
  | tup h1 _ =>
    rcases h1 with (h1 | ⟨o, h1⟩) | h1
    · exact .base (.tup (s _ _ h1).1)
    · exact .fTuple (s _ _ h1).1
    · obtain ⟨o, its, n, hk, hc, _⟩ := h1
      exact .kTuple hk hc
theorem isI_eq {K : PySem.W.Frag} {S : Hp} {v : V} {d : D} (h : Rp K S v d) (t : Ty) : PySem.W.kitOne K (.type (dTy d)) (.type (tyS t)) = some (isIb t d) := by
  refine kit_ty ?_
  have hk := kits (dTy d) (by cases h <;> simp [dTy]) (tyS t) (by cases t <;> simp [tyS])
  rw [hk]
  cases h <;> cases t <;> rfl
theorem pa_isI {y : Expr} {p2 : Pos} {t : Ty} {fa : Fr → M D} (q : Cq X c k ρ T ce W) (hp : plainX y = true) (ha : PE X y (tE X.K T ce W fa)) (hz : Gl X (tyName t)) :
    PA X [y, .Name (tyName t) p2] (tCons (tE X.K T ce W fa) (tCons (tC (.ty (tyS t))) tNil)) := by
  obtain ⟨b0, b1, b2, b3, b4, b5⟩ := boots2
  refine pa_cons ha (pa_cons ?_ pa_nil) (star_plain hp)
  cases t
  · exact pe_bltn hz (q.blt "bool" (by simp [bnames])) b1 rfl
  · exact pe_bltn hz (q.blt "list" (by simp [bnames])) b2 rfl
  · exact pe_bltn hz (q.blt "tuple" (by simp [bnames])) b3 rfl
  · exact pe_bltn hz (q.blt "str" (by simp [bnames])) b4 rfl
  · exact pe_bltn hz (q.blt "dict" (by simp [bnames])) b5 rfl
theorem e_isI {y : Expr} {p p2 pos : Pos} {t : Ty} {fa : Fr → M D} (q : Cq X c k ρ T ce W) (hg : Gl X "isinstance") (hp : plainX y = true) (ha : PE X y (tE X.K T ce W fa)) (hz : Gl X (tyName t)) :
    PE X (.Call (.Name "isinstance" p) [y, .Name (tyName t) p2] [] pos) (tE X.K T ce W fun e => (fa e).bind fun x => .ok (.bool (isIb t x))) :=
  PE.imp (pe_callB call_isi hg (q.blt "isinstance" (by simp [bnames])) boots2.1 (pa_isI q hp ha hz) (by decide) (by decide) (star_plain hp)) fun σ H Q ⟨S, e, as, at_, o⟩ => tE_seq at_ o fun v d S1 H1 a1 g1 r1 o1 =>
    ⟨v, _, _, _, _, rfl, .ty _, r1.ty a1.sub, isI_eq r1 t, okM.val (d := .bool _) o1 a1.sub (.bl _)⟩
theorem e_index {x y : Expr} {apos cpos : Pos} {fa fb : Fr → M D} (q : Cq X c k ρ T ce W) (hl : (apos.endLine == cpos.line) = true) (hb : baseX x = true) (hp : plainX y = true) (ha : PE X x (tE X.K T ce W fa)) (hy : PE X y (tE X.K T ce W fb)) :
    PE X (.Call (.Attribute x "index" apos) [y] [] cpos) (tE X.K T ce W fun e => (fa e).bind fun x => (itL x).bind fun ds => (fb e).bind fun y => indexD ds y) :=
  PE.imp (pe_bm PySem.F.plainAttrs_list PySem.F.slot_list_index PySem.F.type_list_index (mt_indexD (by have := q.room.un; omega)) ha (pa_cons hy pa_nil (star_plain hp)) (hline := hl) (hs := star_plain hp) (hfew := by rw [star_plain hp]; rfl)
    (hbase := by cases x <;> first | rfl | exact absurd hb (by simp [baseX]))) fun σ H Q ⟨S, e, as, at_, o⟩ => tE_seq at_ o fun v d S1 H1 a1 g1 r1 o1 => by
    cases r1 with
    | @lst a vs ds h1 h2 =>
      refine ⟨.inl ⟨rfl, vs, .inl (a1.sub.rd h1)⟩, tE_seq a1 o1 fun w d2 S2 H2 a2 g2 r2 o2 => ?_⟩
      unfold indexD at o2
      by_cases hs : (SeqAt.shaped (.list ds) && SeqAt.shaped d2) = true
      · rw [if_pos hs] at o2
        rw [Bool.and_eq_true] at hs
        cases hf : ds.findIdx? fun z => PyData.eqv z d2 with
        | none => rw [hf] at o2; exact o2.elim
        | some j =>
          rw [hf] at o2
          obtain ⟨hj, e1, e2⟩ := List.findIdx?_eq_some_iff_getElem.mp hf
          refine ⟨a, w, d2, ds, j, ds[j], rfl, rfl, Rp.dp _ _ (Rp.mono a2.sub.ex _ _ (Rp.mono g2.ss _ _ (.lst h1 h2))), Rp.dp _ _ (r2.mono a2.sub.ex _ _), hs.1, hs.2, List.getElem?_eq_getElem hj, e1, fun m z' hm hz => ?_, okM.val (d := .int _) o2 a2.sub (.int _)⟩
          obtain ⟨hm', rfl⟩ := List.getElem?_eq_some_iff.mp hz
          have := e2 m hm
          simpa using this
      · rw [if_neg hs] at o2; exact o2.elim
    | _ => exact o1.elim

/-! ### targets -/
/-- behind the store of a datum -/
def tG (K : PySem.W.Frag) (T : Tbs) (t : Tg) : TG := fun v σ H Q => ∃ S e as d e', At K T σ e as S H ∧ Rp K S v d ∧ semTg t d e = some e' ∧
  ∀ σ' as', At K T σ' e' as' S H → as'.Sublist as → (∀ own, tgIn own t = true → wipe σ' own = wipe σ own) → Q σ' H
def tGs (K : PySem.W.Frag) (T : Tbs) (t : Tgs) : TGs := fun vs σ H Q => ∃ S e as ds e', At K T σ e as S H ∧ RpAll K S vs ds ∧ semTgs t ds e = some e' ∧
  ∀ σ' as', At K T σ' e' as' S H → as'.Sublist as → (∀ own, tgsIn own t = true → wipe σ' own = wipe σ own) → Q σ' H
theorem wipe_set {σ : L2.St} {i : Nat} {o : Option V} : ∀ {own : List Nat}, i ∈ own → wipe (σ.set i o) own = wipe σ own := by
  have comm : ∀ (own : List Nat) (σ : L2.St), wipe (σ.set i o) own = (wipe σ own).set i (if i ∈ own then none else o) := by
    intro own
    induction own with
    | nil => intro σ; simp [wipe]
    | cons v vs ih =>
      intro σ
      simp only [wipe, ih σ]
      by_cases h : i = v
      · subst h
        rw [List.set_set]
        simp
      · rw [List.set_comm _ _ h]
        have : (i ∈ v :: vs) = (i ∈ vs) := by simp [h]
        simp [this]
  intro own hi
  rw [comm, if_pos hi]
  have : ∀ (own : List Nat), i ∈ own → (wipe σ own).set i none = wipe σ own := by
    intro own
    induction own with
    | nil => intro h; cases h
    | cons v vs ih =>
      intro h
      simp only [wipe]
      by_cases hv : i = v
      · subst hv; rw [List.set_set]
      · have : i ∈ vs := by simpa [hv] using h
        rw [List.set_comm _ _ (Ne.symm hv), ih this]
  exact this own hi
theorem chkSt_ok {i : Nat} {x : Str} (q : Cq X c k ρ T ce W) (h : chkSt c i x = true) : X.N[i]? = some x ∧ L2.Loc X.env.scope x ∧ (X.fn x = true ∨ X.env.scope.names.lookup x = some .local) := by
  unfold chkSt at h
  rw [Bool.and_eq_true] at h
  refine ⟨by rw [q.N]; exact of_decide_eq_true h.1, ?_⟩
  have h2 := h.2
  unfold L2.Loc
  rw [q.sc]
  split at h2
  · rename_i e; exact ⟨.inl e, .inr e⟩
  · rename_i e; exact ⟨.inr e, .inl (q.fn x h2)⟩
  · cases h2
def isTgt : Expr → Bool
  | .Name .. => true
  | .Tuple .. => true
  | _ => false
theorem asgn_plain {t : Expr} {ts : List Expr} {env : Env} (h : isTgt t = true) : assignEach (t :: ts) env = (false, assign t env) :: assignEach ts env := by
  cases t <;> first | rfl | exact absurd h (by simp [isTgt])
theorem chkTg_form {t : Tg} {ex : Expr} (h : chkTg c t ex = true) : isTgt ex = true := by
  cases t <;> cases ex <;> first | rfl | (simp [chkTg] at h)
theorem tgs_star : ∀ {ts : Tgs} {es : List Expr} {env : Env}, chkTgs c ts es = true → (assignEach es env).findIdx? (·.1) = none ∧ (assignEach es env).length = es.length
  | .nil, [], _, _ => ⟨rfl, rfl⟩
  | .cons t ts, e :: es, env, h => by
    simp only [chkTgs, Bool.and_eq_true] at h
    obtain ⟨h1, h2⟩ := tgs_star (env := env) h.2
    rw [asgn_plain (chkTg_form h.1)]
    refine ⟨?_, by rw [List.length_cons, List.length_cons, h2]⟩
    rw [List.findIdx?_cons]
    simp [h1]
  | .nil, _ :: _, _, h => by simp [chkTgs] at h
  | .cons _ _, [], _, h => by simp [chkTgs] at h
theorem semTgs_len : ∀ {ts : Tgs} {ds : List D} {es : List Expr} {e e' : Fr}, chkTgs c ts es = true → semTgs ts ds e = some e' → ds.length = es.length
  | .nil, [], [], _, _, _, _ => rfl
  | .cons t ts, d :: ds, x :: xs, e, e', h, q => by
    simp only [chkTgs, Bool.and_eq_true] at h
    simp only [semTgs] at q
    cases h1 : semTg t d e with
    | none => rw [h1] at q; cases q
    | some e1 =>
      rw [h1] at q
      rw [List.length_cons, List.length_cons, semTgs_len h.2 q]
  | .nil, _ :: _, _, _, _, _, q => by simp [semTgs] at q
  | .nil, [], _ :: _, _, _, h, _ => by simp [chkTgs] at h
  | .cons _ _, _, [], _, _, h, _ => by simp [chkTgs] at h
  | .cons _ _, [], _, _, _, _, q => by simp [semTgs] at q
mutual
theorem g_tg (q : Cq X c k ρ T ce W) : ∀ (t : Tg) (ex : Expr), chkTg c t ex = true → PG X ex (tG X.K T t)
  | .nm i, .Name x p, h => by
    obtain ⟨h1, h2, h3⟩ := chkSt_ok q (show chkSt c i x = true by simpa [chkTg] using h)
    refine PG.imp (pg_name q.nd h1 h2 h3) fun v σ H Q ⟨S, e, as, d, e', a, r, se, hq⟩ => ?_
    simp only [semTg] at se
    split at se
    · cases se
      obtain ⟨as', a', sl⟩ := a.set i (.val r)
      exact hq _ as' a' sl fun own ho => wipe_set (of_decide_eq_true (by simpa [tgIn] using ho))
    · cases se
  | .tp ts, .Tuple es kk p, h => by
    have h' : chkTgs c ts es = true := by simpa [chkTg] using h
    have hs := tgs_star (env := X.env) h'
    refine PG.imp (pg_tup (n := es.length) q.calm (g_tgs q ts es h') hs.2 hs.1) fun v σ H Q ⟨S, e, as, d, e', a, r, se, hq⟩ => ?_
    cases d with
    | tuple ds =>
      simp only [semTg] at se
      obtain ⟨p, vs, rfl, hs', hv⟩ := r.seqT a.sub
      refine ⟨p, vs, rfl, hs', ?_, S, e, as, ds, e', a, hv, se, fun σ' as' a' sl hw => hq σ' as' a' sl fun own ho => hw own (by simpa [tgIn] using ho)⟩
      rw [hv.len]
      exact semTgs_len h' se
    | _ => simp [semTg] at se
  | .ls ts, .Tuple es kk p, h => by
    have h' : chkTgs c ts es = true := by simpa [chkTg] using h
    have hs := tgs_star (env := X.env) h'
    refine PG.imp (pg_lst (n := es.length) q.calm (g_tgs q ts es h') hs.2 hs.1) fun v σ H Q ⟨S, e, as, d, e', a, r, se, hq⟩ => ?_
    cases d with
    | list ds =>
      simp only [semTg] at se
      obtain ⟨p, vs, rfl, _, hs', hv⟩ := r.seqL a.sub
      refine ⟨p, vs, rfl, hs', ?_, S, e, as, ds, e', a, hv, se, fun σ' as' a' sl hw => hq σ' as' a' sl fun own ho => hw own (by simpa [tgIn] using ho)⟩
      rw [hv.len]
      exact semTgs_len h' se
    | _ => simp [semTg] at se
  | .nm _, .BoolOp .., h | .nm _, .NamedExpr .., h | .nm _, .BinOp .., h | .nm _, .UnaryOp .., h | .nm _, .Lambda .., h | .nm _, .IfExp .., h | .nm _, .Dict .., h | .nm _, .Set .., h | .nm _, .ListComp .., h
  | .nm _, .SetComp .., h | .nm _, .DictComp .., h | .nm _, .GeneratorExp .., h | .nm _, .Await .., h | .nm _, .Yield .., h | .nm _, .YieldFrom .., h | .nm _, .Compare .., h | .nm _, .Call .., h
  | .nm _, .FormattedValue .., h | .nm _, .JoinedStr .., h | .nm _, .Constant .., h | .nm _, .Attribute .., h | .nm _, .Subscript .., h | .nm _, .Starred .., h | .nm _, .List .., h | .nm _, .Tuple .., h | .nm _, .Slice .., h => by simp [chkTg] at h
  | .tp _, .BoolOp .., h | .tp _, .NamedExpr .., h | .tp _, .BinOp .., h | .tp _, .UnaryOp .., h | .tp _, .Lambda .., h | .tp _, .IfExp .., h | .tp _, .Dict .., h | .tp _, .Set .., h | .tp _, .ListComp .., h
  | .tp _, .SetComp .., h | .tp _, .DictComp .., h | .tp _, .GeneratorExp .., h | .tp _, .Await .., h | .tp _, .Yield .., h | .tp _, .YieldFrom .., h | .tp _, .Compare .., h | .tp _, .Call .., h
  | .tp _, .FormattedValue .., h | .tp _, .JoinedStr .., h | .tp _, .Constant .., h | .tp _, .Attribute .., h | .tp _, .Subscript .., h | .tp _, .Starred .., h | .tp _, .List .., h | .tp _, .Name .., h | .tp _, .Slice .., h => by simp [chkTg] at h
  | .ls _, .BoolOp .., h | .ls _, .NamedExpr .., h | .ls _, .BinOp .., h | .ls _, .UnaryOp .., h | .ls _, .Lambda .., h | .ls _, .IfExp .., h | .ls _, .Dict .., h | .ls _, .Set .., h | .ls _, .ListComp .., h
  | .ls _, .SetComp .., h | .ls _, .DictComp .., h | .ls _, .GeneratorExp .., h | .ls _, .Await .., h | .ls _, .Yield .., h | .ls _, .YieldFrom .., h | .ls _, .Compare .., h | .ls _, .Call .., h
  | .ls _, .FormattedValue .., h | .ls _, .JoinedStr .., h | .ls _, .Constant .., h | .ls _, .Attribute .., h | .ls _, .Subscript .., h | .ls _, .Starred .., h | .ls _, .List .., h | .ls _, .Name .., h | .ls _, .Slice .., h => by simp [chkTg] at h
theorem g_tgs (q : Cq X c k ρ T ce W) : ∀ (t : Tgs) (es : List Expr), chkTgs c t es = true → PGs X es (tGs X.K T t)
  | .nil, [], _ => by
    refine ⟨fun pins s σ H vs us Q I r ⟨S, e, as, ds, e', a, rr, se, hq⟩ => pgs_nil.run pins s σ H vs us Q I r ?_⟩
    cases rr with
    | nil =>
      simp only [semTgs] at se
      cases se
      exact ⟨rfl, hq σ as a (List.Sublist.refl _) fun _ _ => rfl⟩
    | cons _ _ => simp [semTgs] at se
  | .cons t ts, x :: xs, h => by
    simp only [chkTgs, Bool.and_eq_true] at h
    refine ⟨fun pins s σ H vs us Q I r ⟨S, e, as, ds, e', a, rr, se, hq⟩ => (pgs_cons (g_tg q t x h.1) (g_tgs q ts xs h.2) (by rw [asgn_plain (chkTg_form h.1)]; rfl)).run pins s σ H vs us Q I r ?_⟩
    cases rr with
    | nil => simp [semTgs] at se
    | @cons v vs d ds r1 r2 =>
      simp only [semTgs] at se
      cases e1 : semTg t d e with
      | none => rw [e1] at se; cases se
      | some e2 =>
        rw [e1] at se
        refine ⟨v, vs, rfl, S, e, as, d, e2, a, r1, e1, fun σ1 as1 a1 sl1 hw1 => ⟨S, e2, as1, ds, e', a1, r2, se, fun σ2 as2 a2 sl2 hw2 => hq σ2 as2 a2 (sl2.trans sl1) fun own ho => ?_⟩⟩
        have ho' : tgIn own t = true ∧ tgsIn own ts = true := by simpa [tgsIn] using ho
        rw [hw2 own ho'.2, hw1 own ho'.1]
  | .nil, _ :: _, h => by simp [chkTgs] at h
  | .cons _ _, [], h => by simp [chkTgs] at h
end
end
end Rw
namespace Rw
open PySem PySem.Spec PyProof.Rows
open L2 hiding St
section
variable {X : Cx} {c : Nm} {k : Nat} {ρ : Rho} {T : Tbs} {ce : ErV} {W : WX}
/-! ### what is walked -/
def Walk (K : PySem.W.Frag) (T : Tbs) (J : L2.It) (items : List D) (S : Hp) : Prop := ∀ S1 H1, Xt S S1 → Sub S1 H1 → (∀ i, items.length ≤ i → J.stop i H1) ∧
  ∀ i d, items[i]? = some d → J.go i H1 ∧ ∀ x H2, J.yld i H1 x H2 → ∃ S2, Gr T S1 H1 S2 H2 ∧ Rp K S2 x d
def tI (K : PySem.W.Frag) (T : Tbs) (ce : ErV) (W : WX) (f : Fr → M (List D)) : TI := fun σ H R => ∃ S e as, At K T σ e as S H ∧ okM T (EW ce W σ) (f e) S H fun items S' H' => ∀ J, Walk K T J items S' → R J H'
theorem okM.items {K : PySem.W.Frag} {l : List D} {E : ErrC → Hp → Prop} {S H : Hp} {R : L2.It → Hp → Prop} {J : L2.It} (o : okM T E (.ok l) S H fun items S' H' => ∀ J, Walk K T J items S' → R J H') (s : Sub S H) (w : Walk K T J l S) : R J H := o S H (Gr.refl s) J w
theorem walk_list {K : PySem.W.Frag} {S : Hp} {a : Addr} {vs : List V} {l : List D} (h : Rd S a (.lst vs)) (r : RpAll K S vs l) : Walk K T (Itl K a) l S := by
  intro S1 H1 x s
  have hs : SqL K H1 a vs := .inl (s.rd (ex_rd x h))
  refine ⟨fun i hi => ⟨vs, hs, by rw [r.len]; exact hi⟩, fun i d hd => ?_⟩
  obtain ⟨v, h1, h2⟩ := r.get hd
  exact ⟨⟨vs, v, hs, h1⟩, fun y H2 ⟨e, hy⟩ => by
    subst e
    have e1 := hy vs hs
    rw [h1] at e1; cases e1
    exact ⟨S1, Gr.refl s, h2.mono x _ _⟩⟩
theorem walk_tup {K : PySem.W.Frag} {S : Hp} {a : Addr} {vs : List V} {l : List D} (h : SqT K S a vs) (r : RpAll K S vs l) : Walk K T (Itt K a) l S := by
  intro S1 H1 x s
  have hs : SqT K H1 a vs := s.sqt (ex_t x h)
  refine ⟨fun i hi => ⟨vs, hs, by rw [r.len]; exact hi⟩, fun i d hd => ?_⟩
  obtain ⟨v, h1, h2⟩ := r.get hd
  exact ⟨⟨vs, v, hs, h1⟩, fun y H2 ⟨e, hy⟩ => by
    subst e
    have e1 := hy vs hs
    rw [h1] at e1; cases e1
    exact ⟨S1, Gr.refl s, h2.mono x _ _⟩⟩
theorem walk_rng {K : PySem.W.Frag} {S : Hp} {lo : Int} {n : Nat} : Walk K T (Itr lo n) (rangeD lo n) S := by
  intro S1 H1 x s
  have hl : (rangeD lo n).length = n := by simp [rangeD]
  refine ⟨fun i hi => by rw [hl] at hi; exact hi, fun i d hd => ?_⟩
  have hi : i < n := by rw [← hl]; exact (List.getElem?_eq_some_iff.mp hd).1
  refine ⟨hi, fun y H2 ⟨e, hy⟩ => ?_⟩
  subst e hy
  have e1 : d = .int (lo + (i : Int)) := by
    unfold rangeD at hd
    rw [List.getElem?_map, List.getElem?_range hi] at hd
    exact (Option.some.inj hd).symm
  subst e1
  exact ⟨S1, Gr.refl s, .int _⟩
theorem walk_rev {K : PySem.W.Frag} {S : Hp} {a : Addr} {vs : List V} {l : List D} (h : Rd S a (.lst vs)) (r : RpAll K S vs l) : Walk K T (Itv K a vs.length) l.reverse S := by
  intro S1 H1 x s
  have hs : SqL K H1 a vs := .inl (s.rd (ex_rd x h))
  have hl := r.len
  refine ⟨fun i hi => ?_, fun i d hd => ?_⟩
  · show vs.length ≤ i
    rw [List.length_reverse] at hi
    omega
  · have hi : i < l.length := by
      have := (List.getElem?_eq_some_iff.mp hd).1
      rwa [List.length_reverse] at this
    rw [List.getElem?_reverse hi] at hd
    rw [← hl] at hd
    obtain ⟨v, h1, h2⟩ := r.get hd
    exact ⟨⟨by omega, vs, v, hs, h1⟩, fun y H2 ⟨e, hy⟩ => by
      subst e
      have e1 := hy vs hs
      rw [h1] at e1; cases e1
      exact ⟨S1, Gr.refl s, h2.mono x _ _⟩⟩
theorem walk_enum {K : PySem.W.Frag} {S : Hp} {a : Addr} {vs : List V} {l : List D} (h : Rd S a (.lst vs)) (r : RpAll K S vs l) : Walk K T (Ite K a) (l.zipIdx.map fun p => .tuple [.int p.2, p.1]) S := by
  intro S1 H1 x s
  have hs : SqL K H1 a vs := .inl (s.rd (ex_rd x h))
  have hl := r.len
  refine ⟨fun i hi => ⟨vs, hs, by simp at hi; omega⟩, fun i d hd => ?_⟩
  rw [List.getElem?_map, List.getElem?_zipIdx] at hd
  cases hli : l[i]? with
  | none => rw [hli] at hd; simp at hd
  | some d0 =>
    rw [hli] at hd
    simp at hd
    obtain ⟨v, h1, h2⟩ := r.get hli
    refine ⟨⟨vs, v, hs, h1⟩, ?_⟩
    rintro y H2 ⟨A, x1, rfl, hA, rfl, hy⟩
    have e1 := hy vs hs
    rw [h1] at e1; cases e1
    refine ⟨upd S1 A (.tup [.int (i : Nat), v]), Gr.laid s hA (fun _ z => by cases z), ?_⟩
    rw [← hd]
    exact rp_newT s hA (.cons (.int _) (.cons (h2.mono x _ _) .nil))
theorem walk_zip {K : PySem.W.Frag} {S : Hp} {a b : Addr} {vs ws : List V} {l m : List D} (h : Rd S a (.lst vs)) (r : RpAll K S vs l) (h' : Rd S b (.lst ws)) (r' : RpAll K S ws m) : Walk K T (Itz K a b) (List.zipWith (fun p q => .tuple [p, q]) l m) S := by
  intro S1 H1 x s
  have hs : SqL K H1 a vs := .inl (s.rd (ex_rd x h))
  have hs' : SqL K H1 b ws := .inl (s.rd (ex_rd x h'))
  have hl := r.len
  have hl' := r'.len
  refine ⟨fun i hi => ⟨vs, ws, hs, hs', by rw [List.length_zipWith] at hi; omega⟩, fun i d hd => ?_⟩
  rw [List.getElem?_zipWith] at hd
  cases hli : l[i]? with
  | none => rw [hli] at hd; cases hd
  | some p =>
    cases hmi : m[i]? with
    | none => rw [hli, hmi] at hd; cases hd
    | some q =>
      rw [hli, hmi] at hd
      have hd' : PyData.tuple [p, q] = d := Option.some.inj hd
      obtain ⟨v, h1, h2⟩ := r.get hli
      obtain ⟨w, h3, h4⟩ := r'.get hmi
      refine ⟨⟨vs, ws, v, w, hs, hs', h1, h3⟩, ?_⟩
      rintro y H2 ⟨A, x1, y1, rfl, hA, rfl, hx, hy⟩
      have e1 := hx vs hs
      rw [h1] at e1; cases e1
      have e2 := hy ws hs'
      rw [h3] at e2; cases e2
      refine ⟨upd S1 A (.tup [v, w]), Gr.laid s hA (fun _ z => by cases z), ?_⟩
      rw [← hd']
      exact rp_newT s hA (.cons (h2.mono x _ _) (.cons (h4.mono x _ _) .nil))
theorem smallI_ok {j : Int} (h : smallI j = true) : -(2 ^ 62) ≤ j ∧ j < 2 ^ 62 := by
  unfold smallI at h
  simpa only [Bool.and_eq_true, decide_eq_true_eq] using h
theorem i_lst {tg l : Expr} {fa : Fr → M D} (ha : PE X l (tE X.K T ce W fa)) : PI X tg l (tI X.K T ce W fun e => (fa e).bind itL) :=
  PI.imp (pi_list ha) fun σ H R ⟨S, e, as, at_, o⟩ => tE_seq at_ o fun v d S1 H1 a1 g1 r1 o1 => by
    cases r1 with
    | lst h1 h2 => exact ⟨_, rfl, ⟨_, .inl (a1.sub.rd h1)⟩, okM.items (l := _) o1 a1.sub (walk_list h1 h2)⟩
    | _ => exact o1.elim
theorem i_tup {tg l : Expr} {fa : Fr → M D} (ha : PE X l (tE X.K T ce W fa)) : PI X tg l (tI X.K T ce W fun e => (fa e).bind itT) :=
  PI.imp (pi_tup ha) fun σ H R ⟨S, e, as, at_, o⟩ => tE_seq at_ o fun v d S1 H1 a1 g1 r1 o1 => by
    cases r1 with
    | tup h1 h2 => exact ⟨_, rfl, ⟨_, a1.sub.sqt h1⟩, okM.items (l := _) o1 a1.sub (walk_tup h1 h2)⟩
    | _ => exact o1.elim
theorem tCons1 {K : PySem.W.Frag} {fa : Fr → M D} {σ : L2.St} {H : Hp} {P : List V → Hp → Prop} (h : tE K T ce W fa σ H fun v H1 => P [v] H1) : tCons (tE K T ce W fa) tNil σ H P := h
theorem i_rng1 {tg a : Expr} {p pos : Pos} {fa : Fr → M D} (q : Cq X c k ρ T ce W) (hg : Gl X "range") (hp : plainX a = true) (ha : PE X a (tE X.K T ce W fa)) : PI X tg (.Call (.Name "range" p) [a] [] pos) (tI X.K T ce W fun e => (fa e).bind itR1) :=
  PI.imp (pi_range1 hg (q.blt "range" (by simp [bnames])) (pa_cons ha pa_nil (star_plain hp)) (star_plain hp)) fun σ H R ⟨S, e, as, at_, o⟩ => tE_seq at_ o fun v d S1 H1 a1 g1 r1 o1 => by
    cases r1 with
    | int j =>
      obtain ⟨hb, o1⟩ := okM.okIf o1
      obtain ⟨h1, h2⟩ := smallI_ok hb
      exact ⟨j, rfl, h1, h2, okM.items (l := _) o1 a1.sub walk_rng⟩
    | _ => exact o1.elim
theorem i_rng2 {tg a b : Expr} {p pos : Pos} {fa fb : Fr → M D} (q : Cq X c k ρ T ce W) (hg : Gl X "range") (hp : plainX a = true) (hp' : plainX b = true) (ha : PE X a (tE X.K T ce W fa)) (hb : PE X b (tE X.K T ce W fb)) :
    PI X tg (.Call (.Name "range" p) [a, b] [] pos) (tI X.K T ce W fun e => (fa e).bind fun x => (fb e).bind fun y => itR2 x y) :=
  PI.imp (pi_range2 hg (q.blt "range" (by simp [bnames])) (pa_cons ha (pa_cons hb pa_nil (star_plain hp')) (star_plain hp)) (by rw [star_plain hp, star_plain hp']; rfl) (star_plain hp')) fun σ H R ⟨S, e, as, at_, o⟩ =>
    e_op2 at_ o fun v w d1 d2 S2 H2 a2 r1 r2 o2 => by
    cases r1 with
    | int i =>
      cases r2 with
      | int j =>
        obtain ⟨hb, o2⟩ := okM.okIf o2
        rw [Bool.and_eq_true] at hb
        obtain ⟨h1, h2⟩ := smallI_ok hb.1
        obtain ⟨h3, h4⟩ := smallI_ok hb.2
        exact ⟨i, j, rfl, ⟨h1, h2, h3, h4⟩, okM.items (l := _) o2 a2.sub walk_rng⟩
      | _ => exact o2.elim
    | _ => cases r2 <;> exact o2.elim
theorem i_rev {tg a : Expr} {p pos : Pos} {fa : Fr → M D} (q : Cq X c k ρ T ce W) (hg : Gl X "reversed") (hp : plainX a = true) (ha : PE X a (tE X.K T ce W fa)) : PI X tg (.Call (.Name "reversed" p) [a] [] pos) (tI X.K T ce W fun e => (fa e).bind itV) :=
  PI.imp (pi_reversed hg (q.blt "reversed" (by simp [bnames])) (pa_cons ha pa_nil (star_plain hp)) (star_plain hp)) fun σ H R ⟨S, e, as, at_, o⟩ => tE_seq at_ o fun v d S1 H1 a1 g1 r1 o1 => by
    cases r1 with
    | lst h1 h2 => exact ⟨_, _, rfl, .inl (a1.sub.rd h1), okM.items (l := _) o1 a1.sub (walk_rev h1 h2)⟩
    | _ => exact o1.elim
theorem i_enum {a : Expr} {p pos tpos : Pos} {elts : List Expr} {kk : Nat} {fa : Fr → M D} (q : Cq X c k ρ T ce W) (hg : Gl X "enumerate") (hp : plainX a = true) (ha : PE X a (tE X.K T ce W fa)) :
    PI X (.Tuple elts kk tpos) (.Call (.Name "enumerate" p) [a] [] pos) (tI X.K T ce W fun e => (fa e).bind itE) :=
  PI.imp (pi_enum hg (q.blt "enumerate" (by simp [bnames])) (pa_cons ha pa_nil (star_plain hp)) (star_plain hp)) fun σ H R ⟨S, e, as, at_, o⟩ => tE_seq at_ o fun v d S1 H1 a1 g1 r1 o1 => by
    cases r1 with
    | lst h1 h2 => exact ⟨_, _, rfl, .inl (a1.sub.rd h1), okM.items (l := _) o1 a1.sub (walk_enum h1 h2)⟩
    | _ => exact o1.elim
theorem i_zip {a b : Expr} {p pos tpos : Pos} {elts : List Expr} {kk : Nat} {fa fb : Fr → M D} (q : Cq X c k ρ T ce W) (hg : Gl X "zip") (hp : plainX a = true) (hp' : plainX b = true) (ha : PE X a (tE X.K T ce W fa)) (hb : PE X b (tE X.K T ce W fb)) :
    PI X (.Tuple elts kk tpos) (.Call (.Name "zip" p) [a, b] [] pos) (tI X.K T ce W fun e => (fa e).bind fun x => (fb e).bind fun y => itZ x y) :=
  PI.imp (pi_zip hg (q.blt "zip" (by simp [bnames])) (pa_cons ha (pa_cons hb pa_nil (star_plain hp')) (star_plain hp)) (star_plain hp) (by rw [star_plain hp']; rfl)) fun σ H R ⟨S, e, as, at_, o⟩ =>
    e_op2 at_ o fun v w d1 d2 S2 H2 a2 r1 r2 o2 => by
    cases r1 with
    | lst h1 h2 =>
      cases r2 with
      | lst h3 h4 => exact ⟨_, _, _, _, rfl, .inl (a2.sub.rd h1), .inl (a2.sub.rd h3), okM.items (l := _) o2 a2.sub (walk_zip h1 h2 h3 h4)⟩
      | _ => exact o2.elim
    | _ => cases r2 <;> exact o2.elim

/-! ### a comprehension -/
def W0 : WX := fun _ _ _ _ => False
theorem Cq.blk (q : Cq X c k ρ T ce W) {scope : Scope} {own : List (Str × Nat)} (ok : BlkOk X.N X.env.scope scope own) (s : Shared) (H : Hp) (C : Addr) (cl : List (Str × Addr)) (fp : List Addr) :
    Cq (X.blk s H scope (compEnvC scope cl C X.env) fp) (blkNm c scope) k ρ T ce W0 where
  sc := by
    show relS scope X.env.scope = relS scope c.sc
    rw [q.sc]
  N := q.N
  nd := q.nd
  calm := q.calm
  fn := fun x h => h
  kind := ok.kind
  room := q.room
  fns := q.fns
  gcs := q.gcs
  blt := q.blt
  tk := fun _ _ ⟨_, _, _, _, _, _, _, _, _, _, _, _, _, _, _, _, z⟩ => z.elim
  told := fun z => Bool.noConfusion (show false = true from z)
theorem wipe_idem (σ : L2.St) (own : List Nat) : wipe (wipe σ own) own = wipe σ own := by
  have : ∀ (vs : List Nat), (∀ v ∈ vs, v ∈ own) → wipe (wipe σ vs) own = wipe σ own := by
    intro vs
    induction vs with
    | nil => intro _; rfl
    | cons v vs ih =>
      intro h
      simp only [wipe]
      rw [wipe_set (h v (by simp)), ih fun w hw => h w (by simp [hw])]
  exact this own fun _ h => h
/-- a comprehension's turns, as they come -/
theorem compN_step {f : D → M (Option D)} {items : List D} {i : Nat} {d : D} {rest : List D} (hd : items[i]? = some d) (h : compN f (items.drop i) = .ok rest) :
    ∃ o r, f d = .ok o ∧ compN f (items.drop (i + 1)) = .ok r ∧ rest = match o with
      | some y => y :: r
      | none => r := by
  have hi := (List.getElem?_eq_some_iff.mp hd).1
  have e : items.drop i = d :: items.drop (i + 1) := by
    rw [List.drop_eq_getElem_cons hi]
    rw [(List.getElem?_eq_some_iff.mp hd).2]
  rw [e] at h
  simp only [compN] at h
  cases h1 : f d with
  | ok o =>
    rw [h1] at h
    cases h2 : compN f (items.drop (i + 1)) with
    | ok r =>
      rw [h2] at h
      refine ⟨o, r, rfl, rfl, ?_⟩
      cases o <;> (simp only [M.bind, M.ok.injEq] at h; exact h.symm)
    | _ => rw [h2] at h; simp [M.bind] at h
  | _ => rw [h1] at h; simp [M.bind] at h
theorem e_comp {own : List (Str × Nat)} {tg : Tg} {t iter elt : Expr} {ifs : List Expr} {scope : Scope} {pos : Pos} {fi : Fr → M (List D)} {fc : Fr → M Bool} {fe : Fr → M D} (q : Cq X c k ρ T ce W) (ok : BlkOk X.N X.env.scope scope own)
    (htg : tgIn (own.map (·.2)) tg = true) (hg : chkTg (blkNm c scope) tg t = true) (hi : PI X t iter (tI X.K T ce W fi))
    (hc : ∀ (s : Shared) (H : Hp) (C : Addr) (cl : List (Str × Addr)) (fp : List Addr), PTs (X.blk s H scope (compEnvC scope cl C X.env) fp) ifs (tT X.K T ce W0 fc))
    (he : ∀ (s : Shared) (H : Hp) (C : Addr) (cl : List (Str × Addr)) (fp : List Addr), PE (X.blk s H scope (compEnvC scope cl C X.env) fp) elt (tE X.K T ce W0 fe)) (hs : ∀ x, foldedSetIterable iter X.env x = pure x) :
    PE X (.ListComp elt [⟨t, iter, ifs, 0⟩] scope pos) (tLc (tI X.K T ce W fi) (tG X.K T tg) (tT X.K T ce W0 fc) (tE X.K T ce W0 fe) (own.map (·.2))) :=
  pe_lc q.calm q.nd hi ok (fun s H C cl fp => g_tg (q.blk ok s H C cl fp) tg t hg) hc he hs
/-- its reading -/
theorem comp_read {own : List Nat} {tg : Tg} {fi : Fr → M (List D)} {fc : Fr → M Bool} {fe : Fr → M D} {K : PySem.W.Frag} {σ : L2.St} {H : Hp} {Q : VK} (htg : tgIn own tg = true)
    (h : tE K T ce W (fun e => (fi e).bind (compV (compF tg own fc fe e))) σ H Q) :
    tLc (tI K T ce W fi) (tG K T tg) (tT K T ce W0 fc) (tE K T ce W0 fe) own σ H Q := by
  obtain ⟨S, e, as, a, o⟩ := h
  refine ⟨S, e, as, a, (okM.bind o).imp fun items S1 H1 g1 o1 J w A hA => ?_⟩
  have a1 := a.mono g1
  unfold compV at o1
  by_cases hbig : items.length ≤ big
  case neg => rw [if_neg hbig] at o1; exact o1.elim
  rw [if_pos hbig] at o1
  generalize hf : compF tg own fc fe e = f at o1
  cases hr : compN f items with
  | err c => rw [hr] at o1; exact o1.elim
  | stuck => rw [hr] at o1; exact o1.elim
  | ok res =>
    rw [hr] at o1
    have o2 : okM T (EW ce W σ) (.ok (.list res)) S1 H1 fun d S' H' => ∀ v, Rp K S' v d → Q v H' := o1
    refine ⟨fun i m H' => m = items.length - i ∧ i ≤ items.length ∧ ∃ Sx acc accd rest, Gr T S1 H1 Sx H' ∧ H' A = some (.lst acc) ∧ Sx A = none ∧ RpAll K Sx acc accd ∧ compN f (items.drop i) = .ok rest ∧ accd ++ rest = res ∧ accd.length ≤ i,
      ⟨items.length, by simp, Nat.zero_le _, S1, [], [], res, ?_, upd_same, a1.sub.none hA, .nil, hr, rfl, Nat.zero_le _⟩, ?_⟩
    · refine ⟨Xt.refl _, LamX.ExtN.of (Xt.new hA), fun b u hb => ?_, fun _ _ hb => .inl hb, fun t => t.upd hA fun _ z => by cases z⟩
      · have z := a1.sub b u hb
        refine ⟨?_, z.2⟩
        rw [upd_ne (ne_of_none z.1 hA)]
        exact z.1
    · rintro i m H2 ⟨rfl, hi, Sx, acc, accd, rest, gx, hD, hSD, ra, hc, hres, hlen⟩
      obtain ⟨ws, wg⟩ := w Sx H2 gx.ss gx.sub
      by_cases hlt : i < items.length
      · right
        have hd : items[i]? = some items[i] := by simp [hlt]
        obtain ⟨go, yl⟩ := wg i _ hd
        obtain ⟨oo, r', ho, hr', hrest⟩ := compN_step hd hc
        refine ⟨go, fun H' => i + 1 ≤ items.length ∧ ∃ Sx acc accd rest, Gr T S1 H1 Sx H' ∧ H' A = some (.lst acc) ∧ Sx A = none ∧ RpAll K Sx acc accd ∧ compN f (items.drop (i + 1)) = .ok rest ∧ accd ++ rest = res ∧ accd.length ≤ i + 1,
          fun H' ⟨h1, h2⟩ => ⟨items.length - (i + 1), by omega, rfl, h1, h2⟩, fun x H3 hy => ?_⟩
        obtain ⟨S3, g3, r3⟩ := yl x H3 hy
        have hD3 : H3 A = some (.lst acc) := g3.hh A _ hD fun ps z => by cases z
        have keepN : ∀ {Sy Hy : Hp}, Gr T Sx H2 Sy Hy → Sy A = none := fun {Sy Hy} g => by
          cases z : Sy A with
          | none => rfl
          | some o =>
            rcases g.new A o z with z | z
            · rw [hSD] at z; cases z
            · exact (z.ne hD fun ps w => by cases w).elim
        rw [← hf] at ho
        unfold compF at ho
        cases ht : semTg tg items[i] (wipeF e own) with
        | none => simp only [ht] at ho; cases ho
        | some e' =>
          simp only [ht] at ho
          obtain ⟨as', aw, _⟩ := ((a1.mono gx).mono g3).wipe own
          refine ⟨S3, _, as', _, e', aw, r3, ht, fun σ2 as2 a2 _ hw => ⟨by rw [hw own htg, wipe_idem], ?_⟩⟩
          cases hk : fc e' with
          | err _ => rw [hk] at ho; cases ho
          | stuck => rw [hk] at ho; cases ho
          | ok kk =>
            rw [hk] at ho
            refine ⟨S3, e', as2, a2, ?_⟩
            rw [hk]
            intro S4 H4 g4
            cases kk with
            | false =>
              simp only [M.bind] at ho
              cases ho
              refine iteF ⟨by omega, S4, acc, accd, r', (gx.trans g3).trans g4, g4.hh A _ hD3 (fun ps z => by cases z), keepN (g3.trans g4), ra.mono (g3.trans g4).ss _ _, hr', ?_, by omega⟩
              rw [← hres, hrest]
            | true =>
              simp only [M.bind, if_true] at ho
              refine iteT ?_
              cases hy2 : fe e' with
              | err _ => rw [hy2] at ho; cases ho
              | stuck => rw [hy2] at ho; cases ho
              | ok y =>
                rw [hy2] at ho
                simp only at ho
                cases ho
                refine ⟨S4, e', as2, a2.mono g4, ?_⟩
                rw [hy2]
                intro S5 H5 g5 v rv
                have g35 := (g3.trans g4).trans g5
                have hD5 : H5 A = some (.lst acc) := (g4.trans g5).hh A _ hD3 fun ps z => by cases z
                have nD5 := keepN g35
                refine ⟨acc, hD5, ?_, by omega, S5, acc ++ [v], accd ++ [y], r', ?_, upd_same, nD5, (ra.mono g35.ss _ _).append (.one rv), hr', ?_, ?_⟩
                · have := ra.len
                  have : acc.length < big := by omega
                  exact big_lt this
                · have gt := gx.trans g35
                  refine ⟨gt.ss, fun b u hb hn => ?_, fun b u hb => ?_, gt.new, fun t => ?_⟩
                  · have hb' : b ≠ A := fun z => by rw [z, hA] at hb; cases hb
                    rw [upd_ne hb']; exact gt.hh b u hb hn
                  · have z := gt.sub b u hb
                    have hb' : b ≠ A := fun z => by rw [z, nD5] at hb; cases hb
                    rw [upd_ne hb']; exact z
                  · have t5 := gt.tab t
                    refine ⟨fun p hp => ?_⟩
                    · obtain ⟨ps, e1, e2, e3⟩ := t5.t p hp
                      have nA : p.1 ≠ A := fun z => by rw [z, hD5] at e1; cases e1
                      refine ⟨ps, by rw [upd_ne nA]; exact e1, e2, fun pos cv hcv => ?_⟩
                      obtain ⟨c0, e4, e5⟩ := e3 pos cv hcv
                      have nA2 : c0 ≠ A := fun z => by rw [z, hD5] at e5; cases e5
                      exact ⟨c0, e4, by rw [upd_ne nA2]; exact e5⟩
                · rw [← hres, hrest]; simp
                · rw [List.length_append, List.length_singleton]; omega
      · left
        have ei : i = items.length := by omega
        subst ei
        refine ⟨ws _ (Nat.le_refl _), ?_⟩
        rw [List.drop_length] at hc
        simp only [compN, M.ok.injEq] at hc
        subst hc
        rw [List.append_nil] at hres
        subst hres
        refine o2 (upd Sx A (.lst acc)) H2 ⟨gx.ss.trans (Xt.new hSD), gx.hh, fun b u hb => ?_, fun b u hb => ?_, gx.tab⟩ _ (.lst (.inl upd_same) (ra.mono (Xt.new hSD) _ _))
        · by_cases z : b = A
          · subst z; rw [upd_same] at hb; cases hb; exact ⟨hD, fun _ z => by cases z⟩
          · rw [upd_ne z] at hb; exact gx.sub b u hb
        · by_cases z : b = A
          · subst z; exact .inr (NT.of hA)
          · rw [upd_ne z] at hb; exact gx.new b u hb
end
end Rw
namespace Rw
open PySem PySem.Spec PyProof.Rows
open L2 hiding St
/-! ### any expression -/
section
variable {X : Cx} {c : Nm} {k : Nat} {ρ : Rho} {T : Tbs} {ce : ErV} {W : WX}
theorem chkV_ok {i : Nat} {x : Str} (q : Cq X c k ρ T ce W) (h : chkV c i x = true) : X.N[i]? = some x ∧ Vis X.env.scope x ∧ (x == ("__debug__" : Str)) = false ∧ (x == ("__classdict__" : Str)) = false := by
  unfold chkV at h
  simp only [Bool.and_eq_true, Bool.not_eq_true', decide_eq_true_eq] at h
  obtain ⟨h1, h2, h3, h4⟩ := h
  refine ⟨by rw [q.N]; exact h1, ?_, h3, h4⟩
  unfold Vis
  rw [q.sc]
  split at h2
  · exact .inl (by assumption)
  · exact .inr (.inl (by assumption))
  · exact .inr (.inr (by assumption))
  · cases h2
theorem chkG_ok {x : Str} (q : Cq X c k ρ T ce W) (h : chkG c x = true) : Gl X x ∧ (x == ("__debug__" : Str)) = false := by
  unfold chkG at h
  simp only [Bool.and_eq_true, Bool.not_eq_true'] at h
  obtain ⟨h1, h2, _⟩ := h
  refine ⟨?_, h2⟩
  show X.env.scope.names.lookup x = some .globalImplicit
  rw [q.sc]
  split at h1
  · assumption
  · cases h1
theorem e_stuck {ex : Expr} {f : Fr → M D} (h : ∀ e, f e = .stuck) : PE X ex (tE X.K T ce W f) := ⟨fun pins s σ H Q I ⟨S, e, as, a, o⟩ => by rw [h] at o; exact o.elim⟩
theorem t_stuck {ex : Expr} {f : Fr → M Bool} (h : ∀ e, f e = .stuck) : PT X ex (tT X.K T ce W f) := ⟨fun pins s σ H Q I ⟨S, e, as, a, o⟩ => by rw [h] at o; exact o.elim⟩
theorem w_stuck {ex : Expr} {f : Fr → M Bool} (h : ∀ e, f e = .stuck) : PW X ex (tT X.K T ce W f) := ⟨fun wh pins s σ H Q I ⟨S, e, as, a, o⟩ => by rw [h] at o; exact o.elim⟩
theorem e_var {i : Nat} {x : Str} {p : Pos} (q : Cq X c k ρ T ce W) (h : chkV c i x = true) : PE X (.Name x p) (tE X.K T ce W (semE ρ (.var i))) := by
  obtain ⟨h1, h2, h3, h4⟩ := chkV_ok q h
  refine PE.imp (pe_var h1 h2 h3 h4) fun σ H Q ⟨S, e, as, a, o⟩ => ?_
  simp only [semE] at o
  unfold slotD at o
  split at o
  · rename_i d hd
    obtain ⟨v, hv, r⟩ := a.r.val hd
    exact ⟨v, hv, okM.val (d := d) o a.sub r⟩
  · exact o.elim
theorem e_glob {j : Nat} {x : Str} {p : Pos} (q : Cq X c k ρ T ce W) (h : chkG c x = true) (hj : (match ρ.gc[j]? with | some p => decide (p.1 = x) | none => false) = true) : PE X (.Name x p) (tE X.K T ce W (semE ρ (.glob j))) := by
  obtain ⟨h1, h2⟩ := chkG_ok q h
  cases hg : ρ.gc[j]? with
  | none => rw [hg] at hj; cases hj
  | some pr =>
    rw [hg] at hj
    have e1 : pr.1 = x := of_decide_eq_true hj
    obtain ⟨v, u, hm, hv, hr⟩ := q.gcs pr (List.mem_of_getElem? hg)
    rw [e1] at hm
    refine PE.imp (pe_glob h1 hm hv h2) fun σ H Q ⟨S, e, as, at_, o⟩ => ?_
    simp only [semE, hg] at o
    exact okM.val (d := pr.2) o at_.sub (hr S)
mutual
theorem s_E (a : Ex) (ex : Expr) {X : Cx} {c : Nm} {k : Nat} {W : WX} (q : Cq X c k ρ T ce W) (h : chkE c ρ a ex = true) : PE X ex (tE X.K T ce W (semE ρ a)) := by
  cases a with
  | var i =>
    simp only [chkE] at h
    split at h
    · exact e_var q h
    · cases h
  | int n =>
    simp only [chkE] at h
    split at h
    · have e := of_decide_eq_true h
      subst e
      exact PE.imp pe_int fun σ H Q ⟨S, e, as, at_, o⟩ => okM.val (d := .int n) (by simpa only [semE] using o) at_.sub (.int _)
    · cases h
  | none =>
    simp only [chkE] at h
    split at h
    · exact PE.imp pe_non fun σ H Q ⟨S, e, as, at_, o⟩ => okM.val (d := .none) (by simpa only [semE] using o) at_.sub .non
    · cases h
  | bl b =>
    simp only [chkE] at h
    split at h
    · have e := of_decide_eq_true h
      subst e
      exact PE.imp pe_bl fun σ H Q ⟨S, e, as, at_, o⟩ => okM.val (d := .bool b) (by simpa only [semE] using o) at_.sub (.bl _)
    · cases h
  | str x =>
    simp only [chkE] at h
    split at h
    · have e := of_decide_eq_true h
      subst e
      exact PE.imp pe_str fun σ H Q ⟨S, e, as, at_, o⟩ => okM.val (d := .str x) (by simpa only [semE] using o) at_.sub (.str _)
    · cases h
  | neg a =>
    simp only [chkE] at h
    split at h
    · exact PE.imp (e_neg (s_E a _ q h)) fun σ H Q o => by simpa only [semE] using o
    · cases h
  | glob j =>
    simp only [chkE] at h
    split at h
    · rw [Bool.and_eq_true] at h
      exact e_glob q h.1 h.2
    · cases h
  | tup es =>
    simp only [chkE] at h
    split at h
    · exact PE.imp (e_tup (s_Es es _ q h)) fun σ H Q o => by simpa only [semE] using o
    · cases h
  | lst es =>
    simp only [chkE] at h
    split at h
    · exact PE.imp (e_lst (s_Es es _ q h)) fun σ H Q o => by simpa only [semE] using o
    · cases h
  | bin op a b =>
    simp only [chkE] at h
    split at h
    · simp only [Bool.and_eq_true] at h
      exact PE.imp (e_bin h.1 (s_E a _ q h.2.1) (s_E b _ q h.2.2)) fun σ H Q o => by simpa only [semE] using o
    · cases h
  | cmp op a b =>
    simp only [chkE] at h
    split at h
    · simp only [Bool.and_eq_true] at h
      exact PE.imp (e_cmp q h.1 h.2.2.2 (s_E a _ q h.2.1) (s_E b _ q h.2.2.1)) fun σ H Q o => by simpa only [semE] using o
    · cases h
  | chain op op' a b d =>
    simp only [chkE] at h
    split at h
    · simp only [Bool.and_eq_true] at h
      exact PE.imp (e_chain q h.1 h.2.1 h.2.2.2.2.2 (s_E a _ q h.2.2.1) (s_E b _ q h.2.2.2.1) (s_E d _ q h.2.2.2.2.1)) fun σ H Q o => by simpa only [semE] using o
    · cases h
  | isN a =>
    simp only [chkE] at h
    split at h
    · exact PE.imp (e_isN (s_E a _ q h)) fun σ H Q o => by simpa only [semE] using o
    · cases h
  | isNN a =>
    simp only [chkE] at h
    split at h
    · exact PE.imp (e_isNN (s_E a _ q h)) fun σ H Q o => by simpa only [semE] using o
    · cases h
  | andE es =>
    simp only [chkE] at h
    split at h
    · exact PE.imp (s_And es _ _ q h) fun σ H Q o => by simpa only [semE] using o
    · cases h
  | orE es =>
    simp only [chkE] at h
    split at h
    · exact PE.imp (s_Or es _ _ q h) fun σ H Q o => by simpa only [semE] using o
    · cases h
  | notE a =>
    simp only [chkE] at h
    split at h
    · exact PE.imp (e_not (s_E a _ q h)) fun σ H Q o => by simpa only [semE] using o
    · cases h
  | ite t a b =>
    simp only [chkE] at h
    split at h
    · simp only [Bool.and_eq_true] at h
      exact PE.imp (e_ite (s_T t _ q h.1) (s_E a _ q h.2.1) (s_E b _ q h.2.2)) fun σ H Q o => by simpa only [semE] using o
    · cases h
  | idx a i =>
    simp only [chkE] at h
    split at h
    · simp only [Bool.and_eq_true] at h
      exact PE.imp (e_idx h.2.2 (s_E a _ q h.1) (s_E i _ q h.2.1)) fun σ H Q o => by simpa only [semE] using o
    · cases h
  | slL a lo =>
    simp only [chkE] at h
    split at h
    · simp only [Bool.and_eq_true] at h
      exact PE.imp (e_slL (s_E a _ q h.1) (s_E lo _ q h.2)) fun σ H Q o => by simpa only [semE] using o
    · cases h
  | slU a hi =>
    simp only [chkE] at h
    split at h
    · simp only [Bool.and_eq_true] at h
      exact PE.imp (e_slU (s_E a _ q h.1) (s_E hi _ q h.2)) fun σ H Q o => by simpa only [semE] using o
    · cases h
  | slB a lo hi =>
    simp only [chkE] at h
    split at h
    · simp only [Bool.and_eq_true] at h
      exact PE.imp (e_slB (s_E a _ q h.1) (s_E lo _ q h.2.1) (s_E hi _ q h.2.2)) fun σ H Q o => by simpa only [semE] using o
    · cases h
  | slR a =>
    simp only [chkE] at h
    split at h
    · exact PE.imp (e_slR (s_E a _ q h)) fun σ H Q o => by simpa only [semE] using o
    · cases h
  | call g es =>
    simp only [chkE] at h
    split at h
    · simp only [Bool.and_eq_true] at h
      obtain ⟨h1, h2, h3⟩ := h
      cases hg : ρ.fn[g]? with
      | none => rw [hg] at h2; cases h2
      | some F =>
        rw [hg] at h2
        simp only [Bool.and_eq_true, decide_eq_true_eq] at h2
        obtain ⟨e1, e2⟩ := h2
        subst e1
        obtain ⟨g1, g2⟩ := chkG_ok q h1
        have h4 : _ := h3
        cases es with
        | nil => simp [chkEs] at h4
        | cons b r =>
          simp only [chkEs, Bool.and_eq_true] at h4
          refine PE.imp (e_call q (q.fns F (List.mem_of_getElem? hg)) g1 g2 h4.1 (back_plain h4.2.2) (fun e ds he => ?_) (s_Es (.cons b r) _ q h3)) fun σ H Q o => ?_
          · rw [semEs_len he]; exact e2
          · simpa only [semE, fnD, hg] using o
    · cases h
  | blt b es =>
    simp only [chkE] at h
    split at h
    · simp only [Bool.and_eq_true] at h
      obtain ⟨h1, h2, h3⟩ := h
      have e1 := of_decide_eq_true h2
      subst e1
      obtain ⟨g1, g2⟩ := chkG_ok q h1
      have h4 : _ := h3
      cases es with
      | nil => simp [chkEs] at h4
      | cons b' r =>
        simp only [chkEs, Bool.and_eq_true] at h4
        exact PE.imp (e_blt q g1 h4.1 (back_plain h4.2.2) (s_Es (.cons b' r) _ q h3)) fun σ H Q o => by simpa only [semE] using o
    · cases h
  | comp own tg it cs elt =>
    simp only [chkE] at h
    split at h
    · simp only [Bool.and_eq_true] at h
      obtain ⟨h1, h2, h3, h4, h5, h6⟩ := h
      rename_i scope pos
      have ok : BlkOk X.N X.env.scope scope own := by
        rw [q.N, q.sc]
        exact blkOk_by h1
      refine PE.imp (e_comp q ok h2 h3 (s_It it _ _ q h4).1 (fun s H C cl fp => s_C cs _ (q.blk ok s H C cl fp) h5) (fun s H C cl fp => s_E elt _ (q.blk ok s H C cl fp) h6) (s_It it _ _ q h4).2) fun σ H Q o => ?_
      simp only [semE] at o
      exact comp_read h2 o
    · cases h
  | told b =>
    simp only [chkE] at h
    split at h
    · simp only [Bool.and_eq_true, decide_eq_true_eq] at h
      obtain ⟨h1, h2, h3, h4, h5, h6⟩ := h
      subst h3
      rename_i scope _ _
      obtain ⟨j, hj, hf, ht⟩ := q.told h1
      have L := LamX.lamS_by h4
      rw [← q.sc] at L
      refine PE.imp (ht _ _ _ _ _ _ (semE ρ b) W L h5 (chkG_ok q h2).1 (q.room.mono hj) fun A outer s H E f c' hr => s_E b _ (c := ⟨c.N, scope, fun _ => false, false⟩) (k := j) ?_ h6) fun σ H Q o => by simpa only [semE] using o
      exact { sc := rfl, N := q.N, nd := q.nd, calm := rfl, fn := fun _ z => Bool.noConfusion z, kind := L.kind, room := hr, fns := hf, gcs := q.gcs, blt := q.blt, tk := L2N.takes_of rfl rfl rfl rfl, told := fun z => Bool.noConfusion z }
    · cases h
  | isI t a =>
    simp only [chkE] at h
    split at h
    · simp only [Bool.and_eq_true, decide_eq_true_eq] at h
      obtain ⟨h1, h2, h3, h4, h5, h6⟩ := h
      subst h2 h6
      exact PE.imp (e_isI q (chkG_ok q h1).1 h3 (s_E a _ q h4) (chkG_ok q h5).1) fun σ H Q o => by simpa only [semE] using o
    · cases h
  | index a b =>
    simp only [chkE] at h
    split at h
    · simp only [Bool.and_eq_true, decide_eq_true_eq] at h
      obtain ⟨h1, h2, h3, h4, h5, h6⟩ := h
      subst h1
      exact PE.imp (e_index q h2 h3 h4 (s_E a _ q h5) (s_E b _ q h6)) fun σ H Q o => by simpa only [semE] using o
    · cases h
theorem s_T (a : Ex) (ex : Expr) {X : Cx} {c : Nm} {k : Nat} {W : WX} (q : Cq X c k ρ T ce W) (h : chkE c ρ a ex = true) : PT X ex (tT X.K T ce W (semT ρ a)) := by
  cases a with
  | notE a =>
    simp only [chkE] at h
    split at h
    · exact PT.imp (t_not (s_T a _ q h)) fun σ H Q o => by simpa only [semT] using o
    · cases h
  | andE es =>
    simp only [chkE] at h
    split at h
    · exact PT.imp (s_TAnd es _ _ q h).pt fun σ H Q o => by simpa only [semT] using o
    · cases h
  | orE es =>
    simp only [chkE] at h
    split at h
    · exact PT.imp (s_TOr es _ _ q h).pt fun σ H Q o => by simpa only [semT] using o
    · cases h
  | cmp op a b =>
    simp only [chkE] at h
    split at h
    · simp only [Bool.and_eq_true] at h
      exact PT.imp (t_cmp q h.1 h.2.2.2 (s_E a _ q h.2.1) (s_E b _ q h.2.2.1)) fun σ H Q o => by simpa only [semT] using o
    · cases h
  | chain op op' a b d =>
    simp only [chkE] at h
    split at h
    · simp only [Bool.and_eq_true] at h
      exact PT.imp (t_chain q h.1 h.2.1 h.2.2.2.2.2 (s_E a _ q h.2.2.1) (s_E b _ q h.2.2.2.1) (s_E d _ q h.2.2.2.2.1)) fun σ H Q o => by simpa only [semT] using o
    · cases h
  | isN a =>
    simp only [chkE] at h
    split at h
    · exact PT.imp (t_isN (s_E a _ q h)) fun σ H Q o => by simpa only [semT] using o
    · cases h
  | isNN a =>
    simp only [chkE] at h
    split at h
    · exact PT.imp (t_isNN (s_E a _ q h)) fun σ H Q o => by simpa only [semT] using o
    · cases h
  | var i =>
    simp only [chkE] at h
    split at h
    · exact PT.imp (t_val (e_var q h) fun _ => rfl) fun σ H Q o => by simpa only [semT, semE] using o
    · cases h
  | idx a i =>
    simp only [chkE] at h
    split at h
    · simp only [Bool.and_eq_true] at h
      exact PT.imp (t_val (e_idx h.2.2 (s_E a _ q h.1) (s_E i _ q h.2.1)) fun _ => rfl) fun σ H Q o => by simpa only [semT] using o
    · cases h
  | call g es =>
    simp only [chkE] at h
    split at h
    · simp only [Bool.and_eq_true] at h
      obtain ⟨h1, h2, h3⟩ := h
      cases hg : ρ.fn[g]? with
      | none => rw [hg] at h2; cases h2
      | some F =>
        rw [hg] at h2
        simp only [Bool.and_eq_true, decide_eq_true_eq] at h2
        obtain ⟨e1, e2⟩ := h2
        subst e1
        obtain ⟨g1, g2⟩ := chkG_ok q h1
        have h4 : _ := h3
        cases es with
        | nil => simp [chkEs] at h4
        | cons b r =>
          simp only [chkEs, Bool.and_eq_true] at h4
          refine PT.imp (t_val (e_call q (q.fns F (List.mem_of_getElem? hg)) g1 g2 h4.1 (back_plain h4.2.2) (fun e ds he => ?_) (s_Es (.cons b r) _ q h3)) fun _ => rfl) fun σ H Q o => ?_
          · rw [semEs_len he]; exact e2
          · simpa only [semT, fnD, hg] using o
    · cases h
  | blt b es =>
    simp only [chkE] at h
    split at h
    · simp only [Bool.and_eq_true] at h
      obtain ⟨h1, h2, h3⟩ := h
      have e1 := of_decide_eq_true h2
      subst e1
      obtain ⟨g1, g2⟩ := chkG_ok q h1
      have h4 : _ := h3
      cases es with
      | nil => simp [chkEs] at h4
      | cons b' r =>
        simp only [chkEs, Bool.and_eq_true] at h4
        exact PT.imp (t_val (e_blt q g1 h4.1 (back_plain h4.2.2) (s_Es (.cons b' r) _ q h3)) fun _ => rfl) fun σ H Q o => by simpa only [semT] using o
    · cases h
  | isI t a =>
    simp only [chkE] at h
    split at h
    · simp only [Bool.and_eq_true, decide_eq_true_eq] at h
      obtain ⟨h1, h2, h3, h4, h5, h6⟩ := h
      subst h2 h6
      exact PT.imp (t_val (e_isI q (chkG_ok q h1).1 h3 (s_E a _ q h4) (chkG_ok q h5).1) fun _ => rfl) fun σ H Q o => by simpa only [semT] using o
    · cases h
  | bl b =>
    simp only [chkE] at h
    split at h
    · have e := of_decide_eq_true h
      subst e
      exact PT.imp (t_val (T := T) (ce := ce) (W := W) (fa := fun _ => M.ok (PyData.bool b)) (PE.imp pe_bl fun σ H Q ⟨S, e, as, a_, o⟩ => okM.val (d := .bool b) o a_.sub (.bl _)) fun _ => rfl) fun σ H Q o => (by simp only [semT] at o; exact o)
    · cases h
  | _ => exact t_stuck fun e => by simp only [semT]
theorem s_Es (es : Exs) (l : List Expr) {X : Cx} {c : Nm} {k : Nat} {W : WX} (q : Cq X c k ρ T ce W) (h : chkEs c ρ es l = true) : PA X l (tA X.K T ce W (semEs ρ es)) := by
  cases es with
  | nil =>
    simp only [chkEs] at h
    split at h
    · exact PA.imp a_nil fun σ H Q o => by simpa only [semEs] using o
    · cases h
  | cons a r =>
    simp only [chkEs] at h
    split at h
    · simp only [Bool.and_eq_true] at h
      exact PA.imp (a_cons h.1 (s_E a _ q h.2.1) (s_Es r _ q h.2.2)) fun σ H Q o => by simpa only [semEs] using o
    · cases h
theorem s_And (es : Exs) (l : List Expr) (pos : Pos) {X : Cx} {c : Nm} {k : Nat} {W : WX} (q : Cq X c k ρ T ce W) (h : chkB c ρ es l = true) : PE X (.BoolOp .And l pos) (tE X.K T ce W (semAnd ρ es)) := by
  cases es with
  | nil => simp [chkB] at h
  | cons a r =>
    cases l with
    | nil => simp [chkB] at h
    | cons x xs =>
      simp only [chkB, Bool.and_eq_true] at h
      cases r with
      | nil =>
        cases xs with
        | nil => exact PE.imp (pe_one (s_E a _ q h.1)) fun σ H Q o => by simpa only [semAnd] using o
        | cons y ys => exact absurd h.2 (by simp)
      | cons b r' =>
        cases xs with
        | nil => exact absurd h.2 (by simp)
        | cons y ys => exact PE.imp (e_and (s_E a _ q h.1) (s_And (.cons b r') (y :: ys) pos q h.2)) fun σ H Q o => by simpa only [semAnd] using o
theorem s_Or (es : Exs) (l : List Expr) (pos : Pos) {X : Cx} {c : Nm} {k : Nat} {W : WX} (q : Cq X c k ρ T ce W) (h : chkB c ρ es l = true) : PE X (.BoolOp .Or l pos) (tE X.K T ce W (semOr ρ es)) := by
  cases es with
  | nil => simp [chkB] at h
  | cons a r =>
    cases l with
    | nil => simp [chkB] at h
    | cons x xs =>
      simp only [chkB, Bool.and_eq_true] at h
      cases r with
      | nil =>
        cases xs with
        | nil => exact PE.imp (pe_one (s_E a _ q h.1)) fun σ H Q o => by simpa only [semOr] using o
        | cons y ys => exact absurd h.2 (by simp)
      | cons b r' =>
        cases xs with
        | nil => exact absurd h.2 (by simp)
        | cons y ys => exact PE.imp (e_or (s_E a _ q h.1) (s_Or (.cons b r') (y :: ys) pos q h.2)) fun σ H Q o => by simpa only [semOr] using o
theorem s_TAnd (es : Exs) (l : List Expr) (pos : Pos) {X : Cx} {c : Nm} {k : Nat} {W : WX} (q : Cq X c k ρ T ce W) (h : chkB c ρ es l = true) : PW X (.BoolOp .And l pos) (tT X.K T ce W (semTAnd ρ es)) := by
  cases es with
  | nil => simp [chkB] at h
  | cons a r =>
    cases l with
    | nil => simp [chkB] at h
    | cons x xs =>
      simp only [chkB, Bool.and_eq_true] at h
      cases r with
      | nil =>
        cases xs with
        | nil => exact PW.imp (pw_and1 (s_T a _ q h.1)) fun σ H Q o => by simpa only [semTAnd] using o
        | cons y ys => exact absurd h.2 (by simp)
      | cons b r' =>
        cases xs with
        | nil => exact absurd h.2 (by simp)
        | cons y ys => exact PW.imp (w_and (s_T a _ q h.1) (s_TAnd (.cons b r') (y :: ys) pos q h.2)) fun σ H Q o => by simpa only [semTAnd] using o
theorem s_TOr (es : Exs) (l : List Expr) (pos : Pos) {X : Cx} {c : Nm} {k : Nat} {W : WX} (q : Cq X c k ρ T ce W) (h : chkB c ρ es l = true) : PW X (.BoolOp .Or l pos) (tT X.K T ce W (semTOr ρ es)) := by
  cases es with
  | nil => simp [chkB] at h
  | cons a r =>
    cases l with
    | nil => simp [chkB] at h
    | cons x xs =>
      simp only [chkB, Bool.and_eq_true] at h
      cases r with
      | nil =>
        cases xs with
        | nil => exact PW.imp (pw_or1 (s_T a _ q h.1)) fun σ H Q o => by simpa only [semTOr] using o
        | cons y ys => exact absurd h.2 (by simp)
      | cons b r' =>
        cases xs with
        | nil => exact absurd h.2 (by simp)
        | cons y ys => exact PW.imp (w_or (s_T a _ q h.1) (s_TOr (.cons b r') (y :: ys) pos q h.2)) fun σ H Q o => by simpa only [semTOr] using o
theorem s_C (es : Exs) (l : List Expr) {X : Cx} {c : Nm} {k : Nat} {W : WX} (q : Cq X c k ρ T ce W) (h : chkC c ρ es l = true) : PTs X l (tT X.K T ce W (semCs ρ es)) := by
  cases es with
  | nil =>
    simp only [chkC] at h
    split at h
    · exact ⟨fun pins s σ H Q I ⟨S, e, as, a, o⟩ => pts_nil.run pins s σ H Q I (okM.ok (a := true) (by simpa only [semCs] using o) a.sub)⟩
    · cases h
  | cons a r =>
    simp only [chkC] at h
    split at h
    · rw [Bool.and_eq_true] at h
      cases r with
      | nil => exact ⟨fun pins s σ H Q I o => (pts_one (s_T a _ q h.1)).run pins s σ H Q I (by simpa only [semCs] using o)⟩
      | cons _ _ => exact absurd h.2 (by simp)
    · cases h
theorem s_It (it : It) (t ex : Expr) {X : Cx} {c : Nm} {k : Nat} {W : WX} (q : Cq X c k ρ T ce W) (h : chkIt c ρ it t ex = true) : PI X t ex (tI X.K T ce W (semIt ρ it)) ∧ ∀ x, foldedSetIterable ex X.env x = pure x := by
  cases it with
  | lst a =>
    simp only [chkIt, Bool.and_eq_true] at h
    exact ⟨PI.imp (i_lst (s_E a _ q h.1)) fun σ H R o => by simpa only [semIt] using o, fold_plain h.2⟩
  | tup a =>
    simp only [chkIt, Bool.and_eq_true] at h
    exact ⟨PI.imp (i_tup (s_E a _ q h.1)) fun σ H R o => by simpa only [semIt] using o, fold_plain h.2⟩
  | rng1 a =>
    simp only [chkIt] at h
    split at h
    · simp only [Bool.and_eq_true, decide_eq_true_eq] at h
      obtain ⟨h1, h2, h3, h4⟩ := h
      subst h2
      exact ⟨PI.imp (i_rng1 q (chkG_ok q h1).1 h4 (s_E a _ q h3)) fun σ H R o => by simpa only [semIt] using o, fun _ => rfl⟩
    · cases h
  | rng2 a b =>
    simp only [chkIt] at h
    split at h
    · simp only [Bool.and_eq_true, decide_eq_true_eq] at h
      obtain ⟨h1, h2, h3, h4, h5, h6⟩ := h
      subst h2
      exact ⟨PI.imp (i_rng2 q (chkG_ok q h1).1 h4 h6 (s_E a _ q h3) (s_E b _ q h5)) fun σ H R o => by simpa only [semIt] using o, fun _ => rfl⟩
    · cases h
  | enum a =>
    simp only [chkIt] at h
    split at h
    · simp only [Bool.and_eq_true, decide_eq_true_eq] at h
      obtain ⟨h1, h2, h3, h4⟩ := h
      subst h2
      exact ⟨PI.imp (i_enum q (chkG_ok q h1).1 h4 (s_E a _ q h3)) fun σ H R o => by simpa only [semIt] using o, fun _ => rfl⟩
    · cases h
  | zip a b =>
    simp only [chkIt] at h
    split at h
    · simp only [Bool.and_eq_true, decide_eq_true_eq] at h
      obtain ⟨h1, h2, h3, h4, h5, h6⟩ := h
      subst h2
      exact ⟨PI.imp (i_zip q (chkG_ok q h1).1 h4 h6 (s_E a _ q h3) (s_E b _ q h5)) fun σ H R o => by simpa only [semIt] using o, fun _ => rfl⟩
    · cases h
  | rev a =>
    simp only [chkIt] at h
    split at h
    · simp only [Bool.and_eq_true, decide_eq_true_eq] at h
      obtain ⟨h1, h2, h3, h4⟩ := h
      subst h2
      exact ⟨PI.imp (i_rev q (chkG_ok q h1).1 h4 (s_E a _ q h3)) fun σ H R o => by simpa only [semIt] using o, fun _ => rfl⟩
    · cases h
end
end
end Rw
namespace Rw
open PySem PySem.Spec PyProof.Rows
open L2 hiding St
/-! ## statements -/
structure SAt (K : PySem.W.Frag) (T : Tbs) (S0 H0 : Hp) (σ : L2.St) (e : Fr) (as : List Addr) (S H : Hp) : Prop where
  a : At K T σ e as S H
  g : Gr T S0 H0 S H
  fr : ∀ x ∈ as, NT H0 x
section
variable (K : PySem.W.Frag) (T : Tbs) (ce : ErV) (W : WX) (S0 H0 : Hp)
def okF (r : Fl) (S : Hp) (D : Ends) : Prop := match r with
  | .nx e' => ∀ σ' as' S' H', SAt K T S0 H0 σ' e' as' S' H' → Xt S S' → D.nx σ' H'
  | .bk e' => ∀ σ' as' S' H', SAt K T S0 H0 σ' e' as' S' H' → Xt S S' → D.bk σ' H'
  | .ct e' => ∀ σ' as' S' H', SAt K T S0 H0 σ' e' as' S' H' → Xt S S' → D.ct σ' H'
  | .rt d => ∀ v S' H', Gr T S0 H0 S' H' → Rp K S' v d → D.rt v H'
  | .err c => ∀ σ' S' H', Gr T S0 H0 S' H' → W (ce c) none σ' H'
  | .stuck => False
def tS (f : Fr → Fl) : TS := fun D σ H => ∃ S e as, SAt K T S0 H0 σ e as S H ∧ okF K T ce W S0 H0 (f e) S D
end
section
variable {K : PySem.W.Frag} {T : Tbs} {ce : ErV} {W : WX} {S0 H0 : Hp} {σ : L2.St} {e : Fr} {as : List Addr} {S H S' H' : Hp} {D : Ends}
theorem SAt.mono (s : SAt K T S0 H0 σ e as S H) (g : Gr T S H S' H') : SAt K T S0 H0 σ e as S' H' := ⟨s.a.mono g, s.g.trans g, s.fr⟩
theorem okF.mono {r : Fl} (h : okF K T ce W S0 H0 r S D) (x : Xt S S') : okF K T ce W S0 H0 r S' D := by
  cases r with
  | nx _ => exact fun σ' as' S2 H2 s y => h σ' as' S2 H2 s (x.trans y)
  | bk _ => exact fun σ' as' S2 H2 s y => h σ' as' S2 H2 s (x.trans y)
  | ct _ => exact fun σ' as' S2 H2 s y => h σ' as' S2 H2 s (x.trans y)
  | rt _ => exact h
  | err _ => exact h
  | stuck => exact h
theorem okF.toFl {m : M Rw.D} {f : Rw.D → Fl} (s : SAt K T S0 H0 σ e as S H) (h : okF K T ce W S0 H0 (toFl m f) S D) : okM T (EW ce W σ) m S H fun d S1 H1 => okF K T ce W S0 H0 (f d) S1 D := by
  cases m with
  | ok d => exact fun S1 H1 g => okF.mono h g.ss
  | err c => exact fun S1 H1 g => h σ S1 H1 (s.g.trans g)
  | stuck => exact h
theorem okF.nx {e' : Fr} (h : okF K T ce W S0 H0 (.nx e') S D) (s : SAt K T S0 H0 σ e' as S' H') (x : Xt S S') : D.nx σ H' := h σ as S' H' s x

/-! ### lists of one's own, lent -/
def lendH (as : List Addr) (S H : Hp) : Hp := fun a => if a ∈ as then H a else S a
def takeH (as : List Addr) (S : Hp) : Hp := fun a => if a ∈ as then none else S a
theorem SlsR.lend (h : SlsR K S H σ e as) : ∀ {bs : List Addr}, (∀ a ∈ as, a ∈ bs) → (∀ a ∈ bs, S a = none) → SlsR K (lendH bs S H) H σ (lendF e) [] := by
  induction h with
  | nil => intro bs _ _; exact .nil
  | @cons o s as' bs' σ' e' h1 h2 ih =>
    intro bs hb hn
    have x : Xt S (lendH bs S H) := fun a u z => by
      unfold lendH
      rw [if_neg fun q => by rw [hn a q] at z; cases z]
      exact z
    have r := ih (bs := bs) (fun a ha => hb a (List.mem_append_right _ ha)) hn
    have q : SlR K (lendH bs S H) H o (lendS s) [] := by
      cases h1 with
      | un => exact .un _
      | val h => exact .val (h.mono x _ _)
      | @own p vs l h h' =>
        have hp : p ∈ bs := hb p (by simp)
        refine .val (.lst (.inl ?_) (h'.mono x _ _))
        unfold lendH
        rw [if_pos hp]
        exact h
    exact .cons q r
theorem At.lend (a : At K T σ e as S H) : At K T σ (lendF e) [] (lendH as S H) H where
  r := a.r.lend (fun _ h => h) a.out
  nd := List.nodup_nil
  out := fun _ h => nomatch h
  sub := fun b u q => by
    unfold lendH at q
    split at q
    · rename_i hb
      obtain ⟨vs, hv⟩ := a.r.lst b hb
      refine ⟨q, ?_⟩
      rw [hv] at q; cases q
      exact fun _ z => by cases z
    · exact a.sub b u q
  tab := a.tab
theorem lend_back (s : SAt K T S0 H0 σ e as S H) (g : Gr T (lendH as S H) H S' H') : SAt K T S0 H0 σ e as (takeH as S') H' ∧ Xt S (takeH as S') ∧ ∀ v d, flatD d = true → Rp K S' v d → Rp K (takeH as S') v d := by
  have x : Xt S (takeH as S') := fun a u z => by
    unfold takeH
    have n : a ∉ as := fun q => by rw [s.a.out a q] at z; cases z
    rw [if_neg n]
    refine g.ss a u ?_
    unfold lendH
    rw [if_neg n]
    exact z
  have sub : Sub (takeH as S') H' := fun a u z => by
    unfold takeH at z
    split at z
    · cases z
    · exact g.sub a u z
  refine ⟨⟨⟨s.a.r.mono x fun a _ vs q => g.hh a _ q fun _ z => (by cases z), s.a.nd, fun a ha => by unfold takeH; rw [if_pos ha], sub, g.tab s.a.tab⟩, ⟨s.g.ss.trans x, s.g.hh.trans g.hh, sub, fun a u z => ?_, fun t => g.tab (s.g.tab t)⟩, s.fr⟩, x, fun v d hf r => ?_⟩
  · unfold takeH at z
    split at z
    · cases z
    · rename_i n
      rcases g.new a u z with q | q
      · unfold lendH at q
        rw [if_neg n] at q
        exact s.g.new a u q
      · exact .inr (q.back s.g.hh)
  · refine Rp.flat (fun a u z hn => ?_) d v hf r
    unfold takeH
    split
    · rename_i ha
      obtain ⟨vs, hv⟩ := s.a.r.lst a ha
      have z2 : S' a = some (.lst vs) := g.ss a _ (by unfold lendH; rw [if_pos ha]; exact hv)
      rw [z] at z2
      exact absurd (Option.some.inj z2) (hn vs)
    · exact z
/-- a value, lent or not -/
theorem evS_read {ρ : Rho} {l : Bool} {a : Ex} {f : Rw.D → Fl} (s : SAt K T S0 H0 σ e as S H) (h : okF K T ce W S0 H0 (toFl (evS ρ l a e) f) S D) {P : VK}
    (hP : ∀ v d S1 H1, SAt K T S0 H0 σ e as S1 H1 → Xt S S1 → Rp K S1 v d → okF K T ce W S0 H0 (f d) S1 D → P v H1) : tE K T ce W (semE ρ a) σ H P := by
  have o := okF.toFl s h
  unfold evS at o
  cases l with
  | false => exact ⟨S, e, as, s.a, okM.imp (show okM T _ (semE ρ a e) S H _ from o) fun d S1 H1 g q v r => hP v d S1 H1 (s.mono g) g.ss r q⟩
  | true =>
    refine ⟨lendH as S H, lendF e, [], s.a.lend, ?_⟩
    have o' : okM T (EW ce W σ) ((semE ρ a (lendF e)).bind fun d => if flatD d then .ok d else .stuck) S H fun d S1 H1 => okF K T ce W S0 H0 (f d) S1 D := o
    cases hm : semE ρ a (lendF e) with
    | stuck => rw [hm] at o'; exact o'.elim
    | err c =>
      rw [hm] at o'
      have h' : okF K T ce W S0 H0 (.err c) S D := by
        have h2 := h
        unfold evS at h2
        simp only [if_true, hm, M.bind] at h2
        exact h2
      exact fun S1 H1 g => h' σ _ _ (lend_back s g).1.g
    | ok d =>
      intro S1 H1 g v r
      have h2 := h
      unfold evS at h2
      simp only [if_true, hm, M.bind] at h2
      by_cases hf : flatD d = true
      · rw [if_pos hf] at h2
        obtain ⟨s2, x2, rb⟩ := lend_back s g
        exact hP v d _ H1 s2 x2 (rb v d hf r) (okF.mono h2 x2)
      · rw [if_neg hf] at h2
        exact h2.elim
theorem evT_read {ρ : Rho} {l : Bool} {a : Ex} {k : Bool → Fl} (s : SAt K T S0 H0 σ e as S H) (h : okF K T ce W S0 H0 (brF (evT ρ l a e) k) S D) {P : Bool → Hp → Prop}
    (hP : ∀ b S1 H1, SAt K T S0 H0 σ e as S1 H1 → Xt S S1 → okF K T ce W S0 H0 (k b) S1 D → P b H1) : tT K T ce W (semT ρ a) σ H P := by
  unfold evT at h
  cases l with
  | false =>
    refine ⟨S, e, as, s.a, ?_⟩
    simp only [Bool.false_eq_true, if_false] at h
    cases hm : semT ρ a e with
    | stuck => rw [hm] at h; exact h.elim
    | err c => rw [hm] at h; exact fun S1 H1 g => h σ S1 H1 (s.g.trans g)
    | ok b => rw [hm] at h; exact fun S1 H1 g => hP b S1 H1 (s.mono g) g.ss (okF.mono h g.ss)
  | true =>
    refine ⟨lendH as S H, lendF e, [], s.a.lend, ?_⟩
    simp only [if_true] at h
    cases hm : semT ρ a (lendF e) with
    | stuck => rw [hm] at h; exact h.elim
    | err c => rw [hm] at h; exact fun S1 H1 g => h σ _ _ (lend_back s g).1.g
    | ok b =>
      rw [hm] at h
      intro S1 H1 g
      obtain ⟨s2, x2, _⟩ := lend_back s g
      exact hP b _ H1 s2 x2 (okF.mono h x2)

/-! ### a list of one's own -/
theorem SlsR.ownAt : ∀ {σ : L2.St} {e : Fr} {as : List Addr} {i : Nat} {l : List Rw.D}, SlsR K S H σ e as → as.Nodup → e[i]? = some (.own l) → ∃ p vs, σ[i]? = some (some (.ref p)) ∧ H p = some (.lst vs) ∧ RpAll K S vs l ∧ p ∈ as ∧
    ∀ vs' l', RpAll K S vs' l' → SlsR K S (upd H p (.lst vs')) σ (e.set i (.own l')) as
  | _, _, _, _, _, .nil, _, q => by simp at q
  | _, _, _, 0, _, @SlsR.cons _ _ _ o s as bs σ e h t, nd, q => by
    simp at q; subst q
    cases h with
    | @own p vs l h h' =>
      refine ⟨p, vs, rfl, h, h', by simp, fun vs' l' r => ?_⟩
      have hp : p ∉ bs := fun z => by
        have := List.nodup_append.mp nd
        exact this.2.2 p (by simp) p z rfl
      refine SlsR.cons (as := [p]) (.own upd_same r) (t.mono (Xt.refl _) fun a ha ws z => ?_)
      rw [upd_ne (show a ≠ p from fun w => hp (by rw [← w]; exact ha))]
      exact z
  | _, _, _, i + 1, l, @SlsR.cons _ _ _ o s as bs σ e h t, nd, q => by
    have nd' := List.nodup_append.mp nd
    obtain ⟨p, vs, h1, h2, h3, h4, h5⟩ := SlsR.ownAt (i := i) (l := l) t nd'.2.1 (by simpa using q)
    refine ⟨p, vs, by simpa using h1, h2, h3, List.mem_append_right _ h4, fun vs' l' r => ?_⟩
    refine SlsR.cons (h.mono (Xt.refl _) fun a ha ws z => ?_) (h5 vs' l' r)
    rw [upd_ne fun w => nd'.2.2 a ha p h4 w]
    exact z
theorem SAt.ownAt {i : Nat} {l : List Rw.D} (s : SAt K T S0 H0 σ e as S H) (q : e[i]? = some (.own l)) : ∃ p vs, σ[i]? = some (some (.ref p)) ∧ H p = some (.lst vs) ∧ RpAll K S vs l ∧ S p = none ∧ NT H0 p ∧
    ∀ vs' l', RpAll K S vs' l' → SAt K T S0 H0 σ (e.set i (.own l')) as S (upd H p (.lst vs')) := by
  obtain ⟨p, vs, h1, h2, h3, h4, h5⟩ := s.a.r.ownAt s.a.nd q
  have n0 := s.fr p h4
  have nS := s.a.out p h4
  refine ⟨p, vs, h1, h2, h3, nS, n0, fun vs' l' r => ?_⟩
  have sub : Sub S (upd H p (.lst vs')) := fun b u z => by
    have z2 := s.a.sub b u z
    rw [upd_ne fun w => by rw [w, nS] at z; cases z]
    exact z2
  have tab : TabsI T (upd H p (.lst vs')) := by
    refine ⟨fun p2 hp => ?_⟩
    · obtain ⟨ps, e1, e2, e3⟩ := s.a.tab.t p2 hp
      have nA : p2.1 ≠ p := fun z => by rw [z, h2] at e1; cases e1
      refine ⟨ps, by rw [upd_ne nA]; exact e1, e2, fun pos cv hcv => ?_⟩
      obtain ⟨c0, e4, e5⟩ := e3 pos cv hcv
      have nA2 : c0 ≠ p := fun z => by rw [z, h2] at e5; cases e5
      exact ⟨c0, e4, by rw [upd_ne nA2]; exact e5⟩
  refine ⟨⟨h5 vs' l' r, s.a.nd, s.a.out, sub, tab⟩, ⟨s.g.ss, fun b u hb hn => ?_, sub, s.g.new, fun _ => tab⟩, s.fr⟩
  · have z := s.g.hh b u hb hn
    rw [upd_ne fun w => by rw [w] at hb; exact n0.ne hb hn]
    exact z
/-- a new list of one's own -/
theorem SAt.newOwn {i : Nat} {p : Addr} {vs : List V} {l : List Rw.D} (s : SAt K T S0 H0 σ e as S H) (hi : i < e.length) (hp : H p = none) (r : RpAll K S vs l) : ∃ as', SAt K T S0 H0 (σ.set i (some (.ref p))) (e.set i (.own l)) as' S (upd H p (.lst vs)) := by
  have nS := s.a.sub.none hp
  have n0 : NT H0 p := (NT.of hp).back s.g.hh
  have key : ∀ {σ : L2.St} {e : Fr} {as : List Addr} {i : Nat}, SlsR K S H σ e as → as.Nodup → i < e.length → ∃ as', SlsR K S (upd H p (.lst vs)) (σ.set i (some (.ref p))) (e.set i (.own l)) as' ∧ as'.Nodup ∧ ∀ a ∈ as', a = p ∨ a ∈ as := by
    intro σ e as i h
    induction h generalizing i with
    | nil => intro _ hi; simp at hi
    | @cons o sl as bs σ e h t ih =>
      intro nd hi
      have nd' := List.nodup_append.mp nd
      have tp : ∀ a ∈ as ++ bs, a ≠ p := fun a ha z => by
        obtain ⟨ws, hw⟩ := (SlsR.cons h t).lst a ha
        rw [z, hp] at hw; cases hw
      cases i with
      | zero =>
        refine ⟨[p] ++ bs, .cons (.own upd_same r) (t.mono (Xt.refl _) fun a ha ws z => ?_), ?_, fun a ha => ?_⟩
        · rw [upd_ne (tp a (List.mem_append_right _ ha))]; exact z
        · exact List.nodup_append.mpr ⟨by simp, nd'.2.1, fun a ha b hb z => by simp at ha; subst ha; exact tp b (List.mem_append_right _ hb) z.symm⟩
        · rcases List.mem_append.mp ha with z | z
          · exact .inl (by simpa using z)
          · exact .inr (List.mem_append_right _ z)
      | succ i =>
        obtain ⟨as', h1, h2, h3⟩ := ih nd'.2.1 (by simpa using hi)
        refine ⟨as ++ as', .cons (h.mono (Xt.refl _) fun a ha ws z => ?_) h1, ?_, fun a ha => ?_⟩
        · rw [upd_ne (tp a (List.mem_append_left _ ha))]; exact z
        · refine List.nodup_append.mpr ⟨nd'.1, h2, fun a ha b hb z => ?_⟩
          rcases h3 b hb with q | q
          · exact tp a (List.mem_append_left _ ha) (z.trans q)
          · exact nd'.2.2 a ha b q z
        · rcases List.mem_append.mp ha with z | z
          · exact .inr (List.mem_append_left _ z)
          · rcases h3 a z with q | q
            · exact .inl q
            · exact .inr (List.mem_append_right _ q)
  obtain ⟨as', h1, h2, h3⟩ := key s.a.r s.a.nd hi
  have tab : TabsI T (upd H p (.lst vs)) := s.a.tab.upd hp fun _ z => by cases z
  have sub : Sub S (upd H p (.lst vs)) := fun b u z => by
    have z2 := s.a.sub b u z
    rw [upd_ne (ne_of_none z2.1 hp)]
    exact z2
  refine ⟨as', ⟨h1, h2, fun a ha => ?_, sub, tab⟩, ⟨s.g.ss, fun b u hb hn => ?_, sub, s.g.new, fun _ => tab⟩, fun a ha => ?_⟩
  · rcases h3 a ha with q | q
    · rw [q]; exact nS
    · exact s.a.out a q
  · have z := s.g.hh b u hb hn
    rw [upd_ne (ne_of_none z hp)]
    exact z
  · rcases h3 a ha with q | q
    · rw [q]; exact n0
    · exact s.fr a q
/-- a list of one's own is a datum from here on -/
theorem SAt.frz {i : Nat} {l : List Rw.D} (s : SAt K T S0 H0 σ e as S H) (q : e[i]? = some (.own l)) : ∃ as' S', SAt K T S0 H0 σ (e.set i (.val (.list l))) as' S' H ∧ Xt S S' := by
  have key : ∀ {σ : L2.St} {e : Fr} {as : List Addr} {i : Nat}, SlsR K S H σ e as → as.Nodup → e[i]? = some (.own l) → ∃ p vs as', p ∈ as ∧ p ∉ as' ∧ H p = some (.lst vs) ∧ as'.Sublist as ∧ ∀ S', Xt S S' → S' p = some (.lst vs) → SlsR K S' H σ (e.set i (.val (.list l))) as' := by
    intro σ e as i h
    induction h generalizing i with
    | nil => intro _ q; simp at q
    | @cons o sl as bs σ e h t ih =>
      intro nd q
      have nd' := List.nodup_append.mp nd
      cases i with
      | zero =>
        simp at q; subst q
        cases h with
        | @own p vs l h h' =>
          refine ⟨p, vs, bs, by simp, fun z => nd'.2.2 p (by simp) p z rfl, h, by simp, fun S' x hp => ?_⟩
          exact SlsR.cons (as := []) (.val (.lst (.inl hp) (h'.mono x _ _))) (t.mono x fun a _ ws z => z)
      | succ i =>
        obtain ⟨p, vs, as', h1, h2, h3, h4, h5⟩ := ih nd'.2.1 (by simpa using q)
        refine ⟨p, vs, as ++ as', List.mem_append_right _ h1, fun z => ?_, h3, List.Sublist.append (List.Sublist.refl _) h4, fun S' x hp => ?_⟩
        · rcases List.mem_append.mp z with z | z
          · exact nd'.2.2 p z p h1 rfl
          · exact h2 z
        · exact SlsR.cons (h.mono x fun a _ ws z => z) (h5 S' x hp)
  obtain ⟨p, vs, as', h1, h2, h3, h4, h5⟩ := key s.a.r s.a.nd q
  have nS := s.a.out p h1
  have x : Xt S (upd S p (.lst vs)) := Xt.new nS
  have sub : Sub (upd S p (.lst vs)) H := fun b u z => by
    by_cases w : b = p
    · subst w; rw [upd_same] at z; cases z; exact ⟨h3, fun _ z => by cases z⟩
    · rw [upd_ne w] at z; exact s.a.sub b u z
  refine ⟨as', upd S p (.lst vs), ⟨⟨h5 _ x upd_same, s.a.nd.sublist h4, fun a ha => ?_, sub, s.a.tab⟩, ⟨s.g.ss.trans x, s.g.hh, sub, fun b u z => ?_, s.g.tab⟩, fun a ha => s.fr a (h4.subset ha)⟩, x⟩
  · rw [upd_ne (show a ≠ p from fun w => h2 (by rw [← w]; exact ha))]
    exact s.a.out a (h4.subset ha)
  · by_cases w : b = p
    · rw [w]; exact .inr (s.fr p h1)
    · rw [upd_ne w] at z; exact s.g.new b u z
end
end Rw
namespace Rw
open PySem PySem.Spec PyProof.Rows
open L2 hiding St
/-! ### the text of statements -/
def errName : ErrC → Str
  | .badReach => "BadReach"
  | .noRoom => "NoRoom"
  | .noWall => "NoWall"
  | .tooMany => "TooMany"
  | .nothing => "Nothing"
def notComp : Expr → Bool
  | .ListComp .. => false
  | _ => true
/-- the names that a pair of stores would swap -/
def swOne (k : Str → Option NameKind) (line : Nat) : Expr → Option Str
  | .Name id pos => if k id == some .local && pos.line == line then some id else none
  | _ => none
def swNames (c : Nm) (ts : List Expr) : List Str := ts.filterMap (swOne (fun y => c.sc.names.lookup y) ((ts.head?.map (·.pos.line)).getD 0))
/-- no swapped stores -/
def swNo (c : Nm) : Expr → Expr → Bool
  | .Tuple ts _ _, .Tuple _ _ _ => (swNames c ts).length != ts.length
  | _, _ => true
/-- a comprehension's store that is swapped in, or not at all -/
def chkLc (c : Nm) (t : Expr) (scope : Scope) (line : Nat) : Option Bool := match t with
  | .Name y py => match c.sc.names.lookup y with
    | some .local => if (py.line == line) && !(scope.names.any fun (n, k) => n == y && (k == .local || k == .cell)) then some true else none
    | some .cell => some false
    | _ => none
  | .Tuple _ _ _ => some false
  | _ => none
def noStar (l : List Expr) : Bool := l.all fun e => plainX e
mutual
def chkS (c : Nm) (ρ : Rho) (er : List ErrC) : St → Stmt → Bool
  | .cont, s => match s with
    | .Continue _ => true
    | _ => false
  | .asg _ t a, s => match s with
    | .Assign [x] v _ => chkTg c t x && (chkE c ρ a v && (match v with
      | .ListComp _ [_] scope pos => (chkLc c x scope pos.line).isSome
      | _ => swNo c x v && notComp v))
    | _ => false
  | .par i j a b, s => match s with
    | .Assign [.Tuple [.Name x px, .Name y py] kt pt] (.Tuple [u, v] _ _) _ => chkSt c i x && (chkSt c j y && (decide (i ≠ j) && (decide (x ≠ y) && (decide (c.sc.names.lookup x = some .local) && (decide (c.sc.names.lookup y = some .local) && (decide (px.line = py.line) &&
        (plainX u && (chkE c ρ a u && (plainX v && (chkE c ρ b v && (!([u, v].all (foldedForSure 8)) && !([u, v].all (constantsAlone 8)))))))))))))
    | _ => false
  | .ownL i a, s => match s with
    | .Assign [.Name x _] v _ => chkSt c i x && (chkE c ρ a v && (match a, v with
      | .lst _, .List _ _ => true
      | _, _ => false))
    | _ => false
  | .app _ i a, s => match s with
    | .Expr (.Call (.Attribute (.Name x _) m apos) [e] [] cpos) _ => chkV c i x && (decide (m = "append") && ((apos.endLine == cpos.line) && (plainX e && chkE c ρ a e)))
    | _ => false
  | .ext i a, s => match s with
    | .Expr (.Call (.Attribute (.Name x _) m apos) [e] [] cpos) _ => chkV c i x && (decide (m = "extend") && ((apos.endLine == cpos.line) && (plainX e && chkE c ρ a e)))
    | _ => false
  | .pop i, s => match s with
    | .Expr (.Call (.Attribute (.Name x _) m apos) [] [] cpos) _ => chkV c i x && (decide (m = "pop") && (apos.endLine == cpos.line))
    | _ => false
  | .expr a, s => match s with
    | .Expr e _ => chkE c ρ a e && notComp e
    | _ => false
  | .ret _ a, s => match s with
    | .Return (some e) _ => chkE c ρ a e
    | _ => false
  | .retN, s => match s with
    | .Return .none _ => true
    | _ => false
  | .ifS _ a b d, s => match s with
    | .If t x y _ => chkE c ρ a t && (chkSs c ρ er b x && chkSs c ρ er d y)
    | _ => false
  | .whl _ _ a b, s => match s with
    | .While t x [] _ => chkE c ρ a t && chkSs c ρ er b x
    | _ => false
  | .forS t it b, s => match s with
    | .For x i y [] _ => chkTg c t x && (chkIt c ρ it x i && chkSs c ρ er b y)
    | _ => false
  | .raise r x m, s => match s with
    | .Raise (some (.Call (.Name x' _) [.Constant (.str m') _ _] [] _)) .none _ => chkG c x' && (decide (r ∈ er) && (decide (errName r = x') && (decide (x = x') && decide (m = m'))))
    | _ => false
def chkSs (c : Nm) (ρ : Rho) (er : List ErrC) : Sts → List Stmt → Bool
  | .nil, l => match l with
    | [] => true
    | _ => false
  | .frz _ r, l => chkSs c ρ er r l
  | .cons s r, l => match l with
    | x :: xs => chkS c ρ er s x && chkSs c ρ er r xs
    | _ => false
end
/-- an error's class -/
def HasErr (X : Cx) (ce : ErV) (r : ErrC) : Prop := ∃ C : Addr, X.mg (errName r) = some (.ref C) ∧ ce r = .ref C ∧ PySem.W.excIn X.K C [.type "ValueError", .type "Exception", .type "BaseException", .type "object"] "ValueError.__new__" = true ∧
  PySem.W.keepIn X.K (.ref C) = true ∧ Raises X (.ref C)
structure Cs (X : Cx) (c : Nm) (k : Nat) (ρ : Rho) (er : List ErrC) (T : Tbs) (ce : ErV) (W : WX) : Prop extends Cq X c k ρ T ce W where
  po : PassesOwn (model X.prog X.w) X.A X.env X.xe
  err : ∀ r ∈ er, HasErr X ce r

theorem sw_fun {env : Env} {line : Nat} : (fun (z : Expr) => match z with
      | .Name id pos => if env.kindOf id == some .local && pos.line == line then some id else none
      | _ => none) = swOne env.kindOf line := by
  funext z
  cases z <;> rfl
theorem sw_no {c : Nm} {x v : Expr} {env : Env} (hc : env.scope = c.sc) (ht : isTgt x = true) (h : swNo c x v = true) : swappedStores [x] v env = pure none := by
  cases x with
  | Name _ _ => cases v <;> rfl
  | Tuple ts _ _ =>
    cases v with
    | Tuple vs _ _ =>
      have h' : ((swNames c ts).length != ts.length) = true := h
      have hk : (fun y => c.sc.names.lookup y) = env.kindOf := by
        funext y
        unfold Env.kindOf
        rw [hc]
      unfold swNames at h'
      rw [hk, ← sw_fun] at h'
      unfold swappedStores
      dsimp only
      split
      · rfl
      · split
        · rfl
        · rw [if_pos]
          rw [Bool.or_eq_true]
          exact .inl h'
    | _ => rfl
  | _ => simp [isTgt] at ht
theorem star_no {u : Expr} (h : plainX u = true) : (match u with | .Starred .. => true | _ => false) = false := by
  cases u <;> first | rfl | exact absurd h (by simp [plainX])
theorem sw_par {c : Nm} {x y : Str} {px py pt : Pos} {kt k2 : Nat} {pt2 : Pos} {u v : Expr} {env : Env} (hc : env.scope = c.sc) (hk : env.blockKind = .function) (h1 : c.sc.names.lookup x = some .local) (h2 : c.sc.names.lookup y = some .local) (hn : x ≠ y) (hl : px.line = py.line)
    (hu : plainX u = true) (hv : plainX v = true) (hf : [u, v].all (foldedForSure 8) = false) (ha : [u, v].all (constantsAlone 8) = false) : swappedStores [.Tuple [.Name x px, .Name y py] kt pt] (.Tuple [u, v] k2 pt2) env = pure (some [x, y]) := by
  unfold swappedStores
  dsimp only
  have k1 : env.kindOf x = some .local := by unfold Env.kindOf; rw [hc]; exact h1
  have k2 : env.kindOf y = some .local := by unfold Env.kindOf; rw [hc]; exact h2
  have c1 : (!(([Expr.Name x px, Expr.Name y py] : List Expr).length == 2 || ([Expr.Name x px, Expr.Name y py] : List Expr).length == 3) || [u, v].length != ([Expr.Name x px, Expr.Name y py] : List Expr).length || env.blockKind != ScopeKind.function) = false := by
    rw [hk]; rfl
  rw [c1, if_neg Bool.false_ne_true]
  rw [if_neg (by
    cases u <;> first
      | exact absurd hu Bool.false_ne_true
      | (cases v <;> first | exact Bool.false_ne_true | exact absurd hv Bool.false_ne_true))]
  have key : ∀ (F : Expr → Option Str), F (.Name x px) = some x → F (.Name y py) = some y → [Expr.Name x px, Expr.Name y py].filterMap F = [x, y] := fun F a b => by simp [a, b]
  have q1 : (if (env.kindOf x == some NameKind.local && px.line == px.line) = true then some x else none) = some x := by simp [k1]
  have q2 : (if (env.kindOf y == some NameKind.local && py.line == px.line) = true then some y else none) = some y := by simp [k2, hl]
  rw [key _ q1 q2]
  have e2 : ([x, y] : List Str).eraseDups.length = 2 := by
    have : (y == x) = false := beq_eq_false_iff_ne.mpr (Ne.symm hn)
    simp [List.eraseDups, List.eraseDupsBy, List.eraseDupsBy.loop, this]
  rw [if_neg (show ¬ ((([x, y] : List Str).length != ([Expr.Name x px, Expr.Name y py] : List Expr).length || ([x, y] : List Str).eraseDups.length != ([x, y] : List Str).length) = true) by rw [e2]; exact Bool.false_ne_true)]
  rw [hf, if_neg Bool.false_ne_true, ha, if_neg Bool.false_ne_true]
theorem sw_nc {v : Expr} {t : Option Expr} {line : Nat} {env : Env} (h : notComp v = true) (hp : plainX v = true) : swapsWith v t line env = pure false := by
  cases v <;> first | rfl | exact absurd h Bool.false_ne_true | exact absurd hp Bool.false_ne_true
theorem chkE_plain {c : Nm} {ρ : Rho} {a : Ex} {ex : Expr} (h : chkE c ρ a ex = true) : plainX ex = true := by
  cases a <;> (simp only [chkE] at h; split at h <;> first | rfl | cases h)
theorem base_name {x m : Str} {p : Pos} {env : Env} : attributeBase (.Name x p) m env (eval (.Name x p) env) = eval (.Name x p) env := rfl

/-! ### statements, one by one -/
section
variable {X : Cx} {c : Nm} {k : Nat} {ρ : Rho} {er : List ErrC} {T : Tbs} {ce : ErV} {W : WX} {S0 H0 : Hp}
theorem toFl_asg {t : Tg} {d : Rw.D} {e : Fr} {f : Fr → Fl} {K : PySem.W.Frag} {S : Hp} {D : Ends} {σ : L2.St} {H : Hp} {as : List Addr} {v : V} (s : SAt K T S0 H0 σ e as S H) (r : Rp K S v d)
    (o : okF K T ce W S0 H0 (tgF (semTg t d e) f) S D) {P : L2.St → Hp → Prop} (hP : ∀ σ' e' as', SAt K T S0 H0 σ' e' as' S H → okF K T ce W S0 H0 (f e') S D → P σ' H) : tG K T t v σ H P := by
  cases h : semTg t d e with
  | none => rw [h] at o; exact o.elim
  | some e' =>
    rw [h] at o
    exact ⟨S, e, as, d, e', s.a, r, h, fun σ' as' a' sl _ => hP σ' e' as' ⟨a', s.g, fun x hx => s.fr x (sl.subset hx)⟩ o⟩
theorem kindF (q : Cq X c k ρ T ce W) : X.env.blockKind = .function := by
  unfold Env.blockKind
  rw [q.sc, q.kind]; rfl
theorem st_asg {l : Bool} {t : Tg} {a : Ex} {x v : Expr} {pos : Pos} (q : Cq X c k ρ T ce W) (ht : chkTg c t x = true) (ha : chkE c ρ a v = true) (hn : swNo c x v = true) (hc : notComp v = true) :
    PS X (.Assign [x] v pos) (tS X.K T ce W S0 H0 (semS ρ (.asg l t a))) :=
  PS.imp (ps_asg (s_E a v q ha) (g_tg q t x ht) (sw_nc hc (chkE_plain ha)) (sw_no q.sc (chkTg_form ht) hn) (by rw [asgn_plain (chkTg_form ht)]; rfl)) fun D σ H ⟨S, e, as, s, o⟩ => by
    simp only [semS] at o
    exact evS_read s o fun v d S1 H1 s1 _ r1 o1 => toFl_asg s1 r1 o1 fun σ' e' as' s2 o2 => o2.nx s2 (Xt.refl _)
theorem e_setLc {i : Nat} {y : Str} {py : Pos} {own : List (Str × Nat)} {tg : Tg} {t iter elt : Expr} {ifs : List Expr} {scope : Scope} {pos spos : Pos} {fi : Fr → M (List Rw.D)} {fc : Fr → M Bool} {fe : Fr → M Rw.D} (q : Cq X c k ρ T ce W) (ok : BlkOk X.N X.env.scope scope own)
    (hy : X.N[i]? = some y) (hyl : X.env.scope.names.lookup y = some .local) (hsw : swapsWith (.ListComp elt [⟨t, iter, ifs, 0⟩] scope pos) (some (.Name y py)) spos.line X.env = pure true)
    (hg : chkTg (blkNm c scope) tg t = true) (hi : PI X t iter (tI X.K T ce W fi))
    (hc : ∀ (s : Shared) (H : Hp) (C : Addr) (cl : List (Str × Addr)) (fp : List Addr), PTs (X.blk s H scope (compEnvC scope cl C X.env) fp) ifs (tT X.K T ce W0 fc))
    (he : ∀ (s : Shared) (H : Hp) (C : Addr) (cl : List (Str × Addr)) (fp : List Addr), PE (X.blk s H scope (compEnvC scope cl C X.env) fp) elt (tE X.K T ce W0 fe)) (hs : ∀ x, foldedSetIterable iter X.env x = pure x) :
    PS X (.Assign [.Name y py] (.ListComp elt [⟨t, iter, ifs, 0⟩] scope pos) spos) (tAsg (tLc (tI X.K T ce W fi) (tG X.K T tg) (tT X.K T ce W0 fc) (tE X.K T ce W0 fe) (own.map (·.2))) (gName i)) :=
  ps_setLc q.calm q.nd hy hyl hsw hi ok (fun s H C cl fp => g_tg (q.blk ok s H C cl fp) tg t hg) hc he hs
/-- a comprehension's store -/
theorem st_asgC {t : Tg} {a : Ex} {x elt : Expr} {g : Comprehension} {scope : Scope} {pos p2 : Pos} (q : Cq X c k ρ T ce W) (ht : chkTg c t x = true) (ha : chkE c ρ a (.ListComp elt [g] scope p2) = true) (hc : (chkLc c x scope p2.line).isSome = true) {l : Bool} :
    PS X (.Assign [x] (.ListComp elt [g] scope p2) pos) (tS X.K T ce W S0 H0 (semS ρ (.asg l t a))) := by
  have key : ∀ D σ H, tS X.K T ce W S0 H0 (semS ρ (.asg l t a)) D σ H → tAsg (tE X.K T ce W (semE ρ a)) (tG X.K T t) D σ H := fun D σ H ⟨S, e, as, s, o⟩ => by
    simp only [semS] at o
    exact evS_read s o fun v d S1 H1 s1 _ r1 o1 => toFl_asg s1 r1 o1 fun σ' e' as' s2 o2 => o2.nx s2 (Xt.refl _)
  have plain : swapsWithSole [x] (.ListComp elt [g] scope p2) pos.line X.env = pure false → PS X (.Assign [x] (.ListComp elt [g] scope p2) pos) (tS X.K T ce W S0 H0 (semS ρ (.asg l t a))) := fun hs =>
    PS.imp (ps_asg (s_E a _ q ha) (g_tg q t x ht) hs (by cases x <;> rfl) (by rw [asgn_plain (chkTg_form ht)]; rfl)) key
  cases x with
  | Name y py =>
    unfold chkLc at hc
    dsimp only at hc
    split at hc
    · rename_i hl
      split at hc
      · rename_i hh
        rw [Bool.and_eq_true, Bool.not_eq_true'] at hh
        cases t with
        | nm i =>
          obtain ⟨h1, h2, h3⟩ := chkSt_ok q (show chkSt c i y = true by simpa [chkTg] using ht)
          cases a with
          | comp own tg it cs el =>
            simp only [chkE] at ha
            obtain ⟨t0, iter, ifs, as⟩ := g
            split at ha
            · rename_i e1
              cases e1
              simp only [Bool.and_eq_true] at ha
              obtain ⟨g1, g2, g3, g4, g5, g6⟩ := ha
              have ok : BlkOk X.N X.env.scope scope own := by
                rw [q.N, q.sc]
                exact blkOk_by g1
              have hkind : X.env.scope.kind = .function := by rw [q.sc]; exact q.kind
              have hloc : X.env.scope.names.lookup y = some .local := by rw [q.sc]; exact hl
              refine PS.imp (e_setLc q ok h1 hloc (sw_true hkind hloc hh.1 hh.2) g3 (s_It it _ _ q g4).1 (fun s H C cl fp => s_C cs _ (q.blk ok s H C cl fp) g5) (fun s H C cl fp => s_E el _ (q.blk ok s H C cl fp) g6) (s_It it _ _ q g4).2) fun D σ H ⟨S, e, as, s, o⟩ => ?_
              simp only [semS] at o
              have z : tE X.K T ce W (semE ρ (.comp own tg it cs el)) σ H fun v H1 => gName i v σ H1 D.nx := evS_read s o fun v d S1 H1 s1 _ r1 o1 => by
                simp only [semTg] at o1
                by_cases hi : i < e.length
                · rw [if_pos hi] at o1
                  obtain ⟨as', a', sl⟩ := s1.a.set i (.val r1)
                  exact okF.nx (e' := e.set i (.val d)) o1 ⟨a', s1.g, fun x hx => s1.fr x (sl.subset hx)⟩ (Xt.refl _)
                · rw [if_neg hi] at o1; exact o1.elim
              simp only [semE] at z
              exact comp_read g2 z
            · cases ha
          | _ => simp only [chkE] at ha; first | (split at ha <;> first | (rename_i e1; cases e1) | cases ha) | cases ha
        | _ => simp [chkTg] at ht
      · cases hc
    · rename_i hl
      refine plain ?_
      show swapsWith (.ListComp elt [g] scope p2) (some (.Name y py)) pos.line X.env = pure false
      unfold swapsWith
      have : X.env.kindOf y = some .cell := by unfold Env.kindOf; rw [q.sc]; exact hl
      simp only [this]
      simp
      congr 1
      simp
    · cases hc
  | Tuple _ _ _ => exact plain rfl
  | _ => simp [chkLc] at hc
theorem evE_read {a : Ex} {f : Rw.D → Fl} {K : PySem.W.Frag} {S : Hp} {D : Ends} {σ : L2.St} {H : Hp} {e : Fr} {as : List Addr} (s : SAt K T S0 H0 σ e as S H) (h : okF K T ce W S0 H0 (toFl (semE ρ a e) f) S D) {P : VK}
    (hP : ∀ v d S1 H1, SAt K T S0 H0 σ e as S1 H1 → Xt S S1 → Rp K S1 v d → okF K T ce W S0 H0 (f d) S1 D → P v H1) : tE K T ce W (semE ρ a) σ H P := evS_read (l := false) s h hP
theorem st_par {i j : Nat} {a b : Ex} {x y : Str} {px py pt pt2 pos : Pos} {kt k2 : Nat} {u v : Expr} (q : Cq X c k ρ T ce W) (h1 : chkSt c i x = true) (h2 : chkSt c j y = true) (hij : i ≠ j) (hxy : x ≠ y) (l1 : c.sc.names.lookup x = some .local) (l2 : c.sc.names.lookup y = some .local)
    (hl : px.line = py.line) (pu : plainX u = true) (ca : chkE c ρ a u = true) (pv : plainX v = true) (cb : chkE c ρ b v = true) (hf : [u, v].all (foldedForSure 8) = false) (ha : [u, v].all (constantsAlone 8) = false) :
    PS X (.Assign [.Tuple [.Name x px, .Name y py] kt pt] (.Tuple [u, v] k2 pt2) pos) (tS X.K T ce W S0 H0 (semS ρ (.par i j a b))) := by
  obtain ⟨g1, _, _⟩ := chkSt_ok q h1
  obtain ⟨g2, _, _⟩ := chkSt_ok q h2
  refine PS.imp (ps_par q.calm q.nd g1 g2 hij (by rw [q.sc]; exact l1) (by rw [q.sc]; exact l2) (pa_cons (s_E a u q ca) (pa_cons (s_E b v q cb) pa_nil (star_plain pv)) (star_plain pu)) (sw_par q.sc (kindF q) l1 l2 hxy hl pu pv hf ha)) fun D σ H ⟨S, e, as, s, o⟩ => ?_
  simp only [semS] at o
  refine evE_read s o fun w1 d1 S1 H1 s1 _ r1 o1 => evE_read s1 o1 fun w2 d2 S2 H2 s2 x2 r2 o2 => ?_
  refine ⟨w1, w2, rfl, ?_⟩
  by_cases hh : i < e.length ∧ j < e.length
  · rw [if_pos hh] at o2
    obtain ⟨as1, a1, sl1⟩ := s2.a.set i (.val (r1.mono x2 _ _))
    obtain ⟨as2, a2, sl2⟩ := a1.set j (.val r2)
    exact okF.nx o2 ⟨a2, s2.g, fun x hx => s2.fr x (sl1.subset (sl2.subset hx))⟩ (Xt.refl _)
  · rw [if_neg hh] at o2; exact o2.elim
theorem st_ownL {i : Nat} {es : Exs} {x : Str} {px p2 pos : Pos} {l : List Expr} (q : Cq X c k ρ T ce W) (h1 : chkSt c i x = true) (ca : chkEs c ρ es l = true) :
    PS X (.Assign [.Name x px] (.List l p2) pos) (tS X.K T ce W S0 H0 (semS ρ (.ownL i (.lst es)))) := by
  obtain ⟨g1, g2, g3⟩ := chkSt_ok q h1
  refine PS.imp (ps_set q.nd g1 g2 (pe_lst (s_Es es l q ca)) (hf := g3)) fun D σ H ⟨S, e, as, s, o⟩ => ?_
  simp only [semS, semE] at o
  have o' := okF.toFl s o
  refine ⟨S, e, as, s.a, (okM.bind o').imp fun ds S1 H1 gr q1 vs r => ?_⟩
  obtain ⟨hb, q1⟩ := okM.okIf q1
  have s1 := s.mono gr
  have q1 := okM.ok (a := (.list ds : Rw.D)) q1 s1.a.sub
  have hlen : vs.length ≤ sizeLine := by rw [r.len]; exact big_ok (of_decide_eq_true hb)
  refine ⟨hlen, fun p hp => ?_⟩
  simp only [listD] at q1
  by_cases hi : i < e.length
  · rw [if_pos hi] at q1
    obtain ⟨as', s2⟩ := s1.newOwn hi hp r
    exact okF.nx q1 s2 (Xt.refl _)
  · rw [if_neg hi] at q1; exact q1.elim
theorem var_own {i : Nat} {x : Str} {p : Pos} (q : Cq X c k ρ T ce W) (h : chkV c i x = true) : PE X (.Name x p) (tVar i) := by
  obtain ⟨h1, h2, h3, h4⟩ := chkV_ok q h
  exact pe_var h1 h2 h3 h4
theorem okF_own {i : Nat} {f : List Rw.D → Fl} {K : PySem.W.Frag} {S : Hp} {D : Ends} {e : Fr} (o : okF K T ce W S0 H0 (ownAt e i f) S D) : ∃ l, e[i]? = some (.own l) ∧ okF K T ce W S0 H0 (f l) S D := by
  unfold Rw.ownAt at o
  split at o
  · rename_i l h
    exact ⟨l, h, o⟩
  · exact o.elim
theorem st_app {l : Bool} {i : Nat} {a : Ex} {x : Str} {px apos cpos pos : Pos} {ex : Expr} (q : Cq X c k ρ T ce W) (h1 : chkV c i x = true) (hl : (apos.endLine == cpos.line) = true) (pp : plainX ex = true) (ca : chkE c ρ a ex = true) :
    PS X (.Expr (.Call (.Attribute (.Name x px) "append" apos) [ex] [] cpos) pos) (tS X.K T ce W S0 H0 (semS ρ (.app l i a))) := by
  refine PS.imp (ps_expr (pe_bm PySem.F.plainAttrs_list PySem.F.slot_list_append PySem.F.type_list_append mt_append (var_own q h1) (pa_cons (s_E a ex q ca) pa_nil (star_plain pp)) (hline := hl) (hs := star_plain pp) (hfew := by rw [star_plain pp]; rfl))) fun D σ H ⟨S, e, as, s, o⟩ => ?_
  simp only [semS] at o
  obtain ⟨xs, he, o⟩ := okF_own o
  obtain ⟨p, vs, e1, e2, e3, _, _, _⟩ := s.ownAt he
  refine ⟨_, e1, .inl ⟨rfl, vs, .inl (.inl e2)⟩, evS_read s o fun w d S1 H1 s1 _ r1 o1 => ?_⟩
  obtain ⟨p', vs', e1', e2', e3', e4', e5', e6'⟩ := s1.ownAt he
  rw [e1] at e1'
  cases e1'
  by_cases hz : xs.length < big
  · rw [if_pos hz] at o1
    exact ⟨p, vs', w, rfl, rfl, e2', by rw [e3'.len]; exact big_lt hz, okF.nx o1 (e6' _ _ (e3'.append (.one r1))) (Xt.refl _)⟩
  · rw [if_neg hz] at o1; exact o1.elim

/-- extend, by a list that may be a known one -/
def rExtend' : V → List V → Hp → VK → Prop := fun x vs H Q => ∃ l b xs zs, x = .ref l ∧ vs = [.ref b] ∧ H l = some (.lst xs) ∧ Rd H b (.lst zs) ∧ xs.length + zs.length ≤ sizeLine ∧ Q .non (upd H l (.lst (xs ++ zs)))
theorem mt_extend' : MtM X "list.extend" rExtend' := by
  intro pins s σ H x vs v us Q I rx rv h
  obtain ⟨l, b, xs, zs, rfl, rfl, hH, hB, hz, q⟩ := h
  cases rx
  obtain ⟨u, rfl, ru⟩ := rv.one
  cases ru
  obtain ⟨z, its, n, r, hl, e⟩ := I.lstM hH
  obtain ⟨z2, its2, n2, r2, hl2, e2⟩ := rd_lst I hB
  have hsz : its.toArray.size + its2.toArray.size ≤ sizeLine := by rw [List.size_toArray, List.size_toArray]; omega
  have hlong : ¬ (!its.toArray.isEmpty && Builtin.List.listTooLong (its.toArray.size + its2.toArray.size)) = true := by
    rw [notLongL hsz, Bool.and_false]
    exact Bool.false_ne_true
  refine call_meets PySem.F.slot_list_extend ⟨_, e, rfl⟩ PySem.F.entry_list_extend (PySem.F.args_list_extend_2 _ _)
    (PySem.AutoSeq1.list_extend_list_list_0 l its.toArray n b its2.toArray n2 hlong (by rw [List.size_toArray]; omega) (by omega)) ⟨e, e2, ?_⟩
  refine ⟨.non, _, I.lset (its' := its ++ its2) hH e (by simp) (r.append r2) ?_, rfl, q⟩
  rw [List.length_append]
  omega
theorem st_ext {i : Nat} {a : Ex} {x : Str} {px apos cpos pos : Pos} {ex : Expr} (q : Cq X c k ρ T ce W) (h1 : chkV c i x = true) (hl : (apos.endLine == cpos.line) = true) (pp : plainX ex = true) (ca : chkE c ρ a ex = true) :
    PS X (.Expr (.Call (.Attribute (.Name x px) "extend" apos) [ex] [] cpos) pos) (tS X.K T ce W S0 H0 (semS ρ (.ext i a))) := by
  refine PS.imp (ps_expr (pe_bm PySem.F.plainAttrs_list PySem.F.slot_list_extend PySem.F.type_list_extend mt_extend' (var_own q h1) (pa_cons (s_E a ex q ca) pa_nil (star_plain pp)) (hline := hl) (hs := star_plain pp) (hfew := by rw [star_plain pp]; rfl))) fun D σ H ⟨S, e, as, s, o⟩ => ?_
  simp only [semS] at o
  obtain ⟨xs, he, o⟩ := okF_own o
  obtain ⟨p, vs, e1, e2, e3, _, _, _⟩ := s.ownAt he
  refine ⟨_, e1, .inl ⟨rfl, vs, .inl (.inl e2)⟩, evE_read s o fun w d S1 H1 s1 _ r1 o1 => ?_⟩
  obtain ⟨p', vs', e1', e2', e3', e4', e5', e6'⟩ := s1.ownAt he
  rw [e1] at e1'
  cases e1'
  cases r1 with
  | @lst b zs m h5 h6 =>
    simp only [listD] at o1
    by_cases hz : xs.length + m.length ≤ big
    · rw [if_pos hz] at o1
      exact ⟨p, b, vs', zs, rfl, rfl, e2', s1.a.sub.rd h5, by rw [e3'.len, h6.len]; exact big_ok hz, okF.nx o1 (e6' _ _ (e3'.append h6)) (Xt.refl _)⟩
    · rw [if_neg hz] at o1; exact o1.elim
  | _ => exact o1.elim
theorem st_pop {i : Nat} {x : Str} {px apos cpos pos : Pos} (q : Cq X c k ρ T ce W) (h1 : chkV c i x = true) (hl : (apos.endLine == cpos.line) = true) :
    PS X (.Expr (.Call (.Attribute (.Name x px) "pop" apos) [] [] cpos) pos) (tS X.K T ce W S0 H0 (semS ρ (.pop i))) := by
  refine PS.imp (ps_expr (pe_bm0 PySem.F.plainAttrs_list PySem.F.slot_list_pop PySem.F.type_list_pop mt_pop (var_own q h1) (hline := hl))) fun D σ H ⟨S, e, as, s, o⟩ => ?_
  simp only [semS] at o
  obtain ⟨xs, he, o⟩ := okF_own o
  obtain ⟨p, vs, e1, e2, e3, _, _, e6⟩ := s.ownAt he
  by_cases hx : xs = []
  · rw [if_pos hx] at o; exact o.elim
  · rw [if_neg hx] at o
    have hlen := e3.len
    have hpos : 0 < vs.length := by rw [hlen]; exact List.length_pos_iff.mpr hx
    exact ⟨_, e1, .inl ⟨rfl, vs, .inl (.inl e2)⟩, p, vs, vs[vs.length - 1], rfl, rfl, e2, List.getElem?_eq_getElem (by omega), okF.nx o (e6 _ _ e3.dropLast) (Xt.refl _)⟩
theorem st_expr {a : Ex} {ex : Expr} {pos : Pos} (q : Cq X c k ρ T ce W) (ca : chkE c ρ a ex = true) (hc : notComp ex = true) : PS X (.Expr ex pos) (tS X.K T ce W S0 H0 (semS ρ (.expr a))) :=
  PS.imp (ps_expr (s_E a ex q ca) (hs := sw_nc hc (chkE_plain ca))) fun D σ H ⟨S, e, as, s, o⟩ => by
    simp only [semS] at o
    exact evE_read s o fun w d S1 H1 s1 _ r1 o1 => o1.nx s1 (Xt.refl _)
theorem st_ret {l : Bool} {a : Ex} {ex : Expr} {pos : Pos} (q : Cq X c k ρ T ce W) (ca : chkE c ρ a ex = true) : PS X (.Return (some ex) pos) (tS X.K T ce W S0 H0 (semS ρ (.ret l a))) :=
  PS.imp (ps_ret (s_E a ex q ca)) fun D σ H ⟨S, e, as, s, o⟩ => by
    simp only [semS] at o
    cases l with
    | false =>
      refine evE_read s o fun w d S1 H1 s1 _ r1 o1 => o1 w S1 H1 s1.g r1
    | true =>
      simp only [if_true] at o
      refine ⟨lendH as S H, lendF e, [], s.a.lend, ?_⟩
      cases hm : semE ρ a (lendF e) with
      | stuck => rw [hm] at o; exact o.elim
      | err cc => rw [hm] at o; exact fun S1 H1 g => o σ _ _ (lend_back s g).1.g
      | ok d =>
        rw [hm] at o
        intro S1 H1 g v r
        refine o v S1 H1 ?_ r
        obtain ⟨s2, _, _⟩ := lend_back s g
        refine ⟨(s.g.ss.trans (fun b u z => ?_ : Xt S (lendH as S H))).trans g.ss, s2.g.hh, g.sub, fun b u z => ?_, s2.g.tab⟩
        · unfold lendH
          rw [if_neg fun w => by rw [s.a.out b w] at z; cases z]
          exact z
        · by_cases hb : b ∈ as
          · exact .inr (s.fr b hb)
          · exact s2.g.new b u (by unfold takeH; rw [if_neg hb]; exact z)
theorem st_retN {pos : Pos} : PS X (.Return none pos) (tS X.K T ce W S0 H0 (semS ρ .retN)) :=
  PS.imp ps_retN fun D σ H ⟨S, e, as, s, o⟩ => by
    simp only [semS] at o
    exact o .non S H s.g .non
theorem st_cont {pos : Pos} : PS X (.Continue pos) (tS X.K T ce W S0 H0 (semS ρ .cont)) :=
  PS.imp ps_continue fun D σ H ⟨S, e, as, s, o⟩ => by
    simp only [semS] at o
    exact o σ as S H s (Xt.refl _)
theorem st_if {l : Bool} {a : Ex} {b d : Sts} {t : Expr} {x y : List Stmt} {pos : Pos} (q : Cq X c k ρ T ce W) (ca : chkE c ρ a t = true) (hb : PSs X x (tS X.K T ce W S0 H0 (semSs ρ b))) (hd : PSs X y (tS X.K T ce W S0 H0 (semSs ρ d))) :
    PS X (.If t x y pos) (tS X.K T ce W S0 H0 (semS ρ (.ifS l a b d))) :=
  PS.imp (ps_if (s_T a t q ca) hb hd) fun D σ H ⟨S, e, as, s, o⟩ => by
    simp only [semS] at o
    refine evT_read s o fun k S1 H1 s1 _ o1 => ?_
    cases k with
    | true => exact ⟨S1, e, as, s1, o1⟩
    | false => exact ⟨S1, e, as, s1, o1⟩
theorem okF_turn {r : Fl} {g : Fr → Fl} {K : PySem.W.Frag} {S : Hp} {D : Ends} {N : L2.St → Hp → Prop} (o : okF K T ce W S0 H0 (turnF r g) S D) (hN : ∀ e' σ' as' S' H', SAt K T S0 H0 σ' e' as' S' H' → Xt S S' → okF K T ce W S0 H0 (g e') S' D → N σ' H') :
    okF K T ce W S0 H0 r S { D with nx := N, ct := N, bk := D.nx } := by
  cases r with
  | nx e' => exact fun σ' as' S' H' s x => hN e' σ' as' S' H' s x (okF.mono (show okF K T ce W S0 H0 (g e') S D from o) x)
  | ct e' => exact fun σ' as' S' H' s x => hN e' σ' as' S' H' s x (okF.mono (show okF K T ce W S0 H0 (g e') S D from o) x)
  | bk e' => exact o
  | rt v => exact o
  | err c => exact o
  | stuck => exact o
theorem okF_seq {r : Fl} {g : Fr → Fl} {K : PySem.W.Frag} {S : Hp} {D : Ends} {N : L2.St → Hp → Prop} (o : okF K T ce W S0 H0 (seqF r g) S D) (hN : ∀ e' σ' as' S' H', SAt K T S0 H0 σ' e' as' S' H' → Xt S S' → okF K T ce W S0 H0 (g e') S' D → N σ' H') :
    okF K T ce W S0 H0 r S { D with nx := N } := by
  cases r with
  | nx e' => exact fun σ' as' S' H' s x => hN e' σ' as' S' H' s x (okF.mono (show okF K T ce W S0 H0 (g e') S D from o) x)
  | ct e' => exact o
  | bk e' => exact o
  | rt v => exact o
  | err c => exact o
  | stuck => exact o
theorem st_whl {l : Bool} {fuel : Fr → Nat} {a : Ex} {b : Sts} {t : Expr} {x : List Stmt} {pos : Pos} (q : Cs X c k ρ er T ce W) (ca : chkE c ρ a t = true) (hb : PSs X x (tS X.K T ce W S0 H0 (semSs ρ b))) :
    PS X (.While t x [] pos) (tS X.K T ce W S0 H0 (semS ρ (.whl l fuel a b))) :=
  PS.imp (ps_while q.po (s_T a t q.toCq ca) hb) fun D σ H ⟨S, e, as, s, o⟩ => by
    simp only [semS] at o
    refine ⟨fun m σ H => ∃ S e as, SAt X.K T S0 H0 σ e as S H ∧ okF X.K T ce W S0 H0 (whileN (evT ρ l a) (semSs ρ b) m e) S D, ⟨_, S, e, as, s, o⟩, ?_⟩
    rintro m σ2 H2 ⟨S2, e2, as2, s2, o2⟩
    cases m with
    | zero => exact o2.elim
    | succ n =>
      simp only [whileN] at o2
      refine evT_read s2 o2 fun kk S3 H3 s3 _ o3 => ?_
      cases kk with
      | false => exact okF.nx o3 s3 (Xt.refl _)
      | true =>
        simp only [if_true] at o3 ⊢
        exact ⟨fun σ4 H4 => ∃ S e as, SAt X.K T S0 H0 σ4 e as S H4 ∧ okF X.K T ce W S0 H0 (whileN (evT ρ l a) (semSs ρ b) n e) S D, fun σ4 H4 h => ⟨n, Nat.lt_succ_self n, h⟩,
          S3, e2, as2, s3, okF_turn o3 fun e' σ' as' S' H' s' x' o' => ⟨S', e', as', s', o'⟩⟩
theorem st_for {t : Tg} {it : It} {b : Sts} {x i : Expr} {y : List Stmt} {pos : Pos} (q : Cs X c k ρ er T ce W) (ht : chkTg c t x = true) (hi : chkIt c ρ it x i = true) (hb : PSs X y (tS X.K T ce W S0 H0 (semSs ρ b))) :
    PS X (.For x i y [] pos) (tS X.K T ce W S0 H0 (semS ρ (.forS t it b))) :=
  PS.imp (ps_for q.po q.calm (s_It it x i q.toCq hi).1 (g_tg q.toCq t x ht) hb (s_It it x i q.toCq hi).2) fun D σ H ⟨S, e, as, s, o⟩ => by
    simp only [semS] at o
    refine ⟨S, e, as, s.a, ?_⟩
    cases hm : semIt ρ it e with
    | stuck => rw [hm] at o; exact o.elim
    | err cc => rw [hm] at o; exact fun S1 H1 g => o σ S1 H1 (s.g.trans g)
    | ok items =>
      rw [hm] at o
      intro S1 H1 g J w
      have s1 := s.mono g
      have o1 : okF X.K T ce W S0 H0 (forN (fun d e' => tgF (semTg t d e') (semSs ρ b)) items e) S1 D := okF.mono o g.ss
      refine ⟨fun i m σ H => m = items.length - i ∧ i ≤ items.length ∧ ∃ S e as, SAt X.K T S0 H0 σ e as S H ∧ Xt S1 S ∧ okF X.K T ce W S0 H0 (forN (fun d e' => tgF (semTg t d e') (semSs ρ b)) (items.drop i) e) S D,
        ⟨_, rfl, Nat.zero_le _, S1, e, as, s1, Xt.refl _, o1⟩, ?_⟩
      rintro i m σ2 H2 ⟨rfl, hi, S2, e2, as2, s2, x2, o2⟩
      obtain ⟨w1, w2⟩ := w S2 H2 x2 s2.a.sub
      by_cases hz : items.length ≤ i
      · rw [List.drop_eq_nil_of_le hz] at o2
        exact .inl ⟨w1 i hz, okF.nx o2 s2 (Xt.refl _)⟩
      · have hlt : i < items.length := by omega
        rw [List.drop_eq_getElem_cons hlt] at o2
        simp only [forN] at o2
        obtain ⟨go, yl⟩ := w2 i _ (List.getElem?_eq_getElem hlt)
        refine .inr ⟨go, fun σ H => ∃ S e as, SAt X.K T S0 H0 σ e as S H ∧ Xt S1 S ∧ okF X.K T ce W S0 H0 (forN (fun d e' => tgF (semTg t d e') (semSs ρ b)) (items.drop (i + 1)) e) S D, fun σ' H' h => ⟨_, by omega, rfl, hlt, h⟩, fun v H3 hy => ?_⟩
        obtain ⟨S3, g3, r3⟩ := yl v H3 hy
        have s3 := s2.mono g3
        have o3 := okF.mono o2 g3.ss
        cases ht' : semTg t items[i] e2 with
        | none => rw [ht'] at o3; exact o3.elim
        | some e3 =>
          rw [ht'] at o3
          refine ⟨S3, e2, as2, items[i], e3, s3.a, r3, ht', fun σ' as' a' sl _ => ⟨S3, e3, as', ⟨a', s3.g, fun x hx => s3.fr x (sl.subset hx)⟩, ?_⟩⟩
          exact okF_turn (show okF X.K T ce W S0 H0 (turnF (semSs ρ b e3) _) S3 D from o3) fun e' σ' as' S' H' s' x' o' => ⟨S', e', as', s', (x2.trans g3.ss).trans x', o'⟩
theorem st_raise {r : ErrC} {m : Str} {p p2 p3 pos : Pos} {j : Nat} (q : Cs X c k ρ er T ce W) (hr : r ∈ er) (hg : chkG c (errName r) = true) :
    PS X (.Raise (some (.Call (.Name (errName r) p) [.Constant (.str m) j p2] [] p3)) none pos) (tS X.K T ce W S0 H0 (semS ρ (.raise r (errName r) m))) := by
  obtain ⟨C, h1, h2, h3, h4, h5⟩ := q.err r hr
  obtain ⟨g1, g2⟩ := chkG_ok q.toCq hg
  refine PS.imp (L2N.ps_raise q.calm q.tk (L2N.pmk_own PySem.F.excBase_ValueError h3 h1 h4 h5 g1 (by cases r <;> decide))) fun D σ H ⟨S, e, as, s, o⟩ => ?_
  simp only [semS] at o
  have := o σ S H s.g
  rw [h2] at this
  exact this
mutual
theorem s_S (st : St) (x : Stmt) (q : Cs X c k ρ er T ce W) (h : chkS c ρ er st x = true) : PS X x (tS X.K T ce W S0 H0 (semS ρ st)) := by
  cases st with
  | cont =>
    simp only [chkS] at h
    split at h
    · exact st_cont
    · cases h
  | asg l t a =>
    simp only [chkS] at h
    split at h
    · simp only [Bool.and_eq_true] at h
      obtain ⟨h1, h2, h3⟩ := h
      split at h3
      · exact st_asgC q.toCq h1 h2 h3
      · rw [Bool.and_eq_true] at h3
        exact st_asg q.toCq h1 h2 h3.1 h3.2
    · cases h
  | par i j a b =>
    simp only [chkS] at h
    split at h
    · simp only [Bool.and_eq_true, decide_eq_true_eq, Bool.not_eq_true'] at h
      obtain ⟨h1, h2, h3, h4, h5, h6, h7, h8, h9, h10, h11, h12, h13⟩ := h
      exact st_par q.toCq h1 h2 h3 h4 h5 h6 h7 h8 h9 h10 h11 h12 h13
    · cases h
  | ownL i a =>
    simp only [chkS] at h
    split at h
    · simp only [Bool.and_eq_true] at h
      obtain ⟨h1, h2, h3⟩ := h
      split at h3
      · refine st_ownL q.toCq h1 (by simpa only [chkE] using h2)
      · cases h3
    · cases h
  | app l i a =>
    simp only [chkS] at h
    split at h
    · simp only [Bool.and_eq_true, decide_eq_true_eq] at h
      obtain ⟨h1, h2, h3, h4, h5⟩ := h
      subst h2
      exact st_app q.toCq h1 h3 h4 h5
    · cases h
  | ext i a =>
    simp only [chkS] at h
    split at h
    · simp only [Bool.and_eq_true, decide_eq_true_eq] at h
      obtain ⟨h1, h2, h3, h4, h5⟩ := h
      subst h2
      exact st_ext q.toCq h1 h3 h4 h5
    · cases h
  | pop i =>
    simp only [chkS] at h
    split at h
    · simp only [Bool.and_eq_true, decide_eq_true_eq] at h
      obtain ⟨h1, h2, h3⟩ := h
      subst h2
      exact st_pop q.toCq h1 h3
    · cases h
  | expr a =>
    simp only [chkS] at h
    split at h
    · rw [Bool.and_eq_true] at h
      exact st_expr q.toCq h.1 h.2
    · cases h
  | ret l a =>
    simp only [chkS] at h
    split at h
    · exact st_ret q.toCq h
    · cases h
  | retN =>
    simp only [chkS] at h
    split at h
    · exact st_retN
    · cases h
  | ifS l a b d =>
    simp only [chkS] at h
    split at h
    · simp only [Bool.and_eq_true] at h
      exact st_if q.toCq h.1 (s_Ss b _ q h.2.1) (s_Ss d _ q h.2.2)
    · cases h
  | whl l f a b =>
    simp only [chkS] at h
    split at h
    · simp only [Bool.and_eq_true] at h
      exact st_whl q h.1 (s_Ss b _ q h.2)
    · cases h
  | forS t it b =>
    simp only [chkS] at h
    split at h
    · simp only [Bool.and_eq_true] at h
      exact st_for q h.1 h.2.1 (s_Ss b _ q h.2.2)
    · cases h
  | raise r x m =>
    simp only [chkS] at h
    split at h
    · simp only [Bool.and_eq_true, decide_eq_true_eq] at h
      obtain ⟨h1, h2, h3, h4, h5⟩ := h
      subst h5 h4 h3
      exact st_raise q h2 h1
    · cases h
theorem s_Ss (st : Sts) (l : List Stmt) (q : Cs X c k ρ er T ce W) (h : chkSs c ρ er st l = true) : PSs X l (tS X.K T ce W S0 H0 (semSs ρ st)) := by
  cases st with
  | nil =>
    simp only [chkSs] at h
    split at h
    · refine PSs.imp pss_nil fun D σ H ⟨S, e, as, s, o⟩ => ?_
      simp only [semSs] at o
      exact okF.nx o s (Xt.refl _)
    · cases h
  | frz i r =>
    simp only [chkSs] at h
    refine PSs.imp (s_Ss r l q h) fun D σ H ⟨S, e, as, s, o⟩ => ?_
    simp only [semSs] at o
    obtain ⟨xs, he, o⟩ := okF_own o
    obtain ⟨as', S', s', x⟩ := s.frz he
    exact ⟨S', _, as', s', okF.mono o x⟩
  | cons a r =>
    simp only [chkSs] at h
    split at h
    · rw [Bool.and_eq_true] at h
      refine PSs.imp (pss_cons (s_S a _ q h.1) (s_Ss r _ q h.2)) fun D σ H ⟨S, e, as, s, o⟩ => ?_
      simp only [semSs] at o
      exact ⟨S, e, as, s, okF_seq o fun e' σ' as' S' H' s' x o' => ⟨S', e', as', s', o'⟩⟩
    · cases h
end
end
end Rw
namespace Rw
open PySem PySem.Spec PyProof.Rows
/-! ## a list walked while an exception is handled -/
section
variable {prog : Program} {w : World} {A : Around} {E : Value → Shared → Prop} {s : Shared}
/-- the end of a list's walk: the StopIteration takes the handled exception for its context -/
theorem list_end_hot {itr lst ex : Addr} {n : Nat} {elts : Array Value} {Q : Option Value → Shared → Prop} (hot : HotX.HotAt A ex s.heap) (ne : ex ≠ itr) (hi : s.heap.IsListIter itr lst n) (hl : s.heap.IsList lst elts) (hn : elts[n]? = none)
    (hQ : ∀ h', (∀ b o, b ≠ itr → s.heap.get? b = some o → h'.get? b = some o) → Q none { s with heap := h' }) : wpAny (model prog w) A (pyNext (.ref itr)) Q E s := by
  obtain ⟨oi, gi, ci, di⟩ := id hi
  obtain ⟨ol, gl, _, nl, dl⟩ := hl
  obtain ⟨hh, ox, vx, gx, dx, cx⟩ := hot
  unfold pyNext
  apply wpAny_bind
  apply wpAny_attempt
  refine wpAny_callSpecial?_slot (name := Str.ofString "__next__") hi.typeIs slot_listiter_next (wpAny_call_entry slot_listiter_next hi.typeIs entry_listiter_next ?_ (args_listiter_next _))
  show wpAny _ _ (field (.ref itr) 0 >>= _) _ _ s
  refine wpAny_bind (wpAny_field gi di (x := .ref lst) rfl ?_)
  show wpAny _ _ (if (Value.ref lst == Value.none) = true then _ else _) _ _ s
  rw [if_neg (fun z : (Value.ref lst == Value.none) = true => Bool.false_ne_true z)]
  show wpAny _ _ (field (.ref itr) 1 >>= _) _ _ s
  refine wpAny_bind (wpAny_field gi di (x := .int n 0) rfl ?_)
  show wpAny _ _ (seqItems? (.ref lst) >>= _) _ _ s
  refine wpAny_bind (wpAny_seqItems gl dl ?_)
  simp only [Int.toNat_natCast, hn]
  refine wpAny_bind (wpAny_rule (wpAny_bind (wpAny_setField gi di (by simp) ?_)))
  show wpAny _ _ (newExc (.type "StopIteration") [] >>= _) _ _ _
  apply wpAny_bind
  simp only [newExc, newTuple]
  refine wpAny_bind (wpAny_newObj_type ?_ (by size_fits))
  refine wpAny_bind (m := firstArgMember _ _) (wpAny_of_eq (a := Value.none) (by first | rfl | (simp only [firstArgMember]; rfl)) ?_)
  refine wpAny_newObj_type ?_ (by size_fits)
  have g1 : ∀ {h : Heap}, h = s.heap.update itr (Obj.mapFields (·.setIfInBounds 0 .none)) → h.get? ex = some ox := fun {h} e => by
    rw [e, Heap.get?_update_other _ _ (Ne.symm ne)]; exact gx
  refine HotX.raiseNew_hot ⟨hh, ox, vx, Heap.get?_push_of_some _ (Heap.get?_push_of_some _ (g1 rfl)), dx, cx⟩ (Nat.ne_of_lt (Heap.lt_size (Heap.get?_push_of_some _ (g1 rfl)))) (Heap.get?_push_size _ rfl) rfl
    (by first | (simp; done) | (simp; omega) | (simp only [Array.size_append]; simp; omega)) ?_
  refine wpAny_bind (wpAny_isInstance (T := "StopIteration") (b := true) ⟨_, Heap.get?_update_self _ (Heap.get?_push_size _ rfl) rfl, rfl⟩ isSubtype_stop ?_)
  refine wpAny_pure (hQ _ fun b o hb e => ?_)
  have e2 : (s.heap.update itr (Obj.mapFields (·.setIfInBounds 0 .none))).get? b = some o := by
    rw [Heap.get?_update_other _ _ (Ne.symm hb)]; exact e
  rw [Heap.get?_update_other _ _ (Nat.ne_of_gt (Heap.lt_size (Heap.get?_push_of_some _ e2)))]
  exact Heap.get?_push_of_some _ (Heap.get?_push_of_some _ e2)
end
end Rw
namespace Rw
open PySem PySem.Spec PyProof.Rows
open L2 hiding St
section
variable {prog : Program} {w : World} {A : Around} {E : Value → Shared → Prop} {s : Shared}
theorem walks_hot {itr lst ex : Addr} {elts : Array Value} {ox : Obj} {vx : Array Value} (hh : A.handled = some (.ref ex)) (dx : ox.data = .fields vx) (cx : vx[2]? = some .none) (n1 : lst ≠ itr) (n2 : ex ≠ itr) :
    Walks prog w A itr [itr, lst, ex] [itr] elts.size (fun i v => elts[i]? = some v) (fun i h => h.IsListIter itr lst i ∧ h.IsList lst elts ∧ h.get? ex = some ox) where
  sub := fun b hb => by
    have : b = itr := by simpa using hb
    simp [this]
  frame := fun _ _ _ st hk => ⟨st.1.at fun o e => hk itr (by simp) o e, st.2.1.at fun o e => hk lst (by simp) o e, hk ex (by simp) ox st.2.2⟩
  item := fun i s Q E hi st hQ => by
    have hx : elts[i]? = some elts[i] := by simp [hi]
    refine wpAny_pyNext_list_item st.1 st.2.1 hx fun h' st' sb => ?_
    exact hQ _ h' s.toks hx ⟨st', st.2.1.extBut sb.extBut n1, sb.extBut ex ox n2 st.2.2⟩ fun b o hb e => sb.extBut b o (fun z => hb (by simp [z])) e
  done := fun s Q E st hQ => list_end_hot ⟨hh, ox, vx, st.2.2, dx, cx⟩ n2 st.1 st.2.1 (by simp) fun h' k => hQ h' s.toks fun b o hb e => k b o (fun z => hb (by simp [z])) e
  self := fun _ _ _ _ st hQ => wpAny_pyIter_listiter st.1 hQ
theorem sum_hot {ex l : Addr} {its : List Value} {ns : List Int} {Q : Value → Shared → Prop} (hot : HotX.HotAt A ex s.heap) (hl : s.heap.IsList l its.toArray) (hi : IntsAre its ns)
    (h : ∀ h' tk t', (∀ b o, s.heap.get? b = some o → h'.get? b = some o) → Q (.int ns.sum t') { s with heap := h', toks := tk }) : wpAny (model prog w) A (call (.builtin "sum") [.ref l]) Q E s := by
  obtain ⟨hh, ox, vx, gx, dx, cx⟩ := hot
  obtain ⟨xs, e⟩ := hi.allInts.items
  have hn : numsOf (intItems xs).toList = ns := by rw [← e]; exact hi.numsOf
  rw [nums_intItems] at hn
  rw [e] at hl
  refine call_sum_walkG (iter_intList hl fun s₂ e2 st hfp hne => ?_)
  subst e2
  have gx2 : (s.heap.push { cls := .type "list_iterator", data := .fields #[.ref l, .int 0 0] }).get? ex = some ox := Heap.get?_push_of_some _ gx
  have nx : ex ≠ s.heap.objs.size := Nat.ne_of_lt (Heap.lt_size gx)
  refine ⟨_, _, _, _, _, _, numAt xs, rfl, walks_hot (A := A.in1) (elts := intItems xs) hh dx cx hne nx, ⟨st.1, st.2, gx2⟩, fun b hb => ?_, (fun _ _ => intItems_at), fun h' tk t' hk => ?_⟩
  · simp only [List.mem_cons, List.not_mem_nil, or_false] at hb
    rcases hb with rfl | rfl | rfl
    · exact hfp _ (by simp)
    · exact hfp _ (by simp)
    · exact Heap.lt_size gx2
  · have := h h' tk t' fun b o eb => hk b o (fun z => by
      have : b = s.heap.objs.size := by simpa using z
      exact Nat.ne_of_lt (Heap.lt_size eb) this) (Heap.get?_push_of_some _ eb)
    rw [preSum_eq, List.take_of_length_le (by simp [intItems]), hn]
    exact this
end
theorem cr_sumH {X : Cx} (hc : L2H.HotC X) : CallR X (.builtin "sum") (rSum X.K) := by
  intro pins s σ H vs us Q I r h
  obtain ⟨a, ns, rfl, hs, qq⟩ := h
  obtain ⟨its, rv, hl, _⟩ := I.list hs
  obtain ⟨ex, hot⟩ := hc.at I
  rw [Vals.ref1 r]
  exact sum_hot hot hl.isList rv.ints fun h' tk t' hk => ⟨.int _, H, I.kept hk, ⟨_, rfl⟩, qq⟩
end Rw
namespace Rw
open PySem PySem.Spec PyProof.Rows
open L2 hiding St
theorem vals_bl : ∀ {bs : List Bool} {us : List Value}, Vals (bs.map V.bl) us → us = bs.map Value.bool
  | [], _, .nil => rfl
  | b :: bs, _, .cons r t => by
    cases r
    rw [vals_bl t]; rfl
theorem paired_ints : ∀ {bs : List Bool} {ys : List Value}, Paired (fun v y => ∃ b t, v = Value.bool b ∧ y = Value.int (if b then 1 else 0) t) (bs.map Value.bool) ys → Vals (bs.map fun b => V.int (if b then 1 else 0)) ys
  | [], _, .nil => .nil
  | b :: bs, _, .cons r t => by
    obtain ⟨b', t', h1, h2⟩ := r
    cases h1
    exact .cons ⟨t', h2⟩ (paired_ints t)
theorem inv_new {X : Cx} {pins : List (Addr × Obj)} {σ : L2.St} {H : Hp} {s : Shared} {D : Addr} {o : HO} {h' : Heap} {tk : Nat} (I : Inv X pins σ H s) (k : ∀ b u, s.heap.get? b = some u → h'.get? b = some u) (hD : s.heap.get? D = none) (hn : H D = none)
    (new : ObjOk X.prog X.w (upd H D o) h' D o) : Inv X pins σ (upd H D o) { s with heap := h', toks := tk } := by
  have ne : ∀ {b u}, s.heap.get? b = some u → b ≠ D := fun {b u} e z => by rw [z, hD] at e; cases e
  refine I.un ⟨fun b u e _ _ _ => k b u e, fun b u e _ _ _ => ⟨u.slots, k b u e⟩, fun b u e n _ => by rw [upd_ne (ne e)]; exact n, fun b u e _ => ⟨u, k b u e⟩, fun b xs e => by rw [upd_ne (ne_of_none e hn)]; exact e,
    fun b u xs e => by rw [upd_ne (ne_of_none e hn)]; exact e, fun b ps e => ⟨#[], by rw [upd_ne (ne_of_none e hn), e]; simp⟩⟩ fun b u e => ?_
  by_cases z : b = D
  · subst z
    rw [upd_same] at e
    cases e
    exact new
  · rw [upd_ne z] at e
    exact (I.hok b u e).stay (fun c v _ g => k c v g) (fun c g => by rw [upd_ne (ne_of_none g hn)]; exact g) fun c xs g => by rw [upd_ne (ne_of_none g hn)]; exact g
/-- [int(x) for x in y], y a list of truths, while an exception is handled -/
theorem pe_flagsH {X : Cx} {i : Nat} {y x : Str} {py px p1 p2 p3 pos : Pos} {scope : Scope} (hc : L2H.HotC X) (hi : X.N[i]? = some y) (hy : Vis X.env.scope y) (hd : (y == ("__debug__" : Str)) = false) (hcd : (y == ("__classdict__" : Str)) = false) (hm : X.mg "int" = none)
    (hkind : scope.kind = .function) (hfc : ∀ z ∈ scope.names, z.2 ≠ .free ∧ z.2 ≠ .cell) (hloc : ∀ z ∈ scope.names, z.2 = .local → scope.names.lookup z.1 = some .local) (hl1 : scope.names.lookup x = some .local) (hl2 : scope.names.lookup ("int" : Str) = some .globalImplicit) (hxd : (x == ("__debug__" : Str)) = false) :
    PE X (.ListComp (.Call (.Name "int" p1) [.Name x p2] [] p3) [⟨.Name x px, .Name y py, [], 0⟩] scope pos)
      (fun σ H Q => ∃ (a : Addr) (bs : List Bool), σ[i]? = some (some (.ref a)) ∧ H a = some (.lst (bs.map V.bl)) ∧ bs.length ≤ big ∧ ∀ D, H D = none → Q (.ref D) (upd H D (.lst (bs.map fun b => V.int (if b then 1 else 0))))) := by
  refine ⟨fun pins s σ H Q I ⟨a, bs, e1, e2, hb, hQ⟩ => ?_⟩
  refine wpAny_ListComp_walk (fun _ => true) (fun v y => ∃ b t, v = Value.bool b ∧ y = Value.int (if b then 1 else 0) t) (fun z hz => (hfc z hz).1) (fun z hz => (hfc z hz).2) hkind hloc hl1 ?_
  refine wpAny_mono ((pe_var hi hy hd hcd).run pins s σ H (fun v H1 => v = .ref a ∧ H1 = H) I ⟨_, e1, rfl, rfl⟩) (fun u s1 ⟨v, H1, I1, r1, ev, eH⟩ => ?_) fun _ _ h => h
  subst ev
  rw [eH] at I1
  cases r1
  obtain ⟨z, its, n, rv, hlen, g⟩ := I1.lstM e2
  have hits := vals_bl rv
  subst hits
  obtain ⟨ex, hh, ox, vx, gx, dx, cx⟩ := hc.at I1
  have hl : s1.heap.IsList a (bs.map Value.bool).toArray := ⟨_, g, rfl, n, rfl⟩
  have ha : a < s1.heap.objs.size := Heap.lt_size g
  refine wpAny_pyIter_list hl ?_
  have gx2 : (s1.heap.push { cls := .type "list_iterator", data := .fields #[.ref a, .int 0 0] }).get? ex = some ox := Heap.get?_push_of_some _ gx
  refine ⟨_, _, _, _, _, _, rfl, walks_hot (elts := (bs.map Value.bool).toArray) hh dx cx (Nat.ne_of_lt ha) (Nat.ne_of_lt (Heap.lt_size gx)), ?_, ⟨⟨_, Heap.get?_push_size _ rfl, rfl, rfl⟩, hl.push _, gx2⟩, fun b hb' => ?_, ⟨?_, ?_⟩, ?_⟩
  · simp; exact big_ok hb
  · show b < (s1.heap.push _).objs.size
    rw [Heap.size_push]
    simp only [List.mem_cons, List.not_mem_nil, or_false] at hb'
    rcases hb' with rfl | rfl | rfl
    · exact Nat.lt_succ_self _
    · exact Nat.lt_succ_of_lt ha
    · exact Nat.lt_succ_of_lt (Heap.lt_size gx)
  · intro C j v s3 m3 E' _ _ _ _ _
    exact wpAny_tests_nil ⟨rfl, s3.heap, s3.toks, rfl, fun _ _ e => e⟩
  · intro C j v s3 m3 E' hv _ hn hm3 hk _
    obtain ⟨b, rfl⟩ : ∃ b, v = Value.bool b := by
      have : v ∈ (bs.map Value.bool) := List.mem_of_getElem? (by simpa using hv)
      obtain ⟨b, _, rfl⟩ := List.mem_map.mp this
      exact ⟨b, rfl⟩
    obtain ⟨mb, h1, h2⟩ := I1.mod.blt
    have old : ∀ c o, s1.heap.get? c = some o → s3.heap.get? c = some o := fun c o e => hk c o (fun z => by
      have : c = s1.heap.objs.size := by simpa using z
      exact Nat.ne_of_lt (Heap.lt_size e) this) (Heap.get?_push_of_some _ e)
    refine wpAny_Call_Name_kw (Calls.Name_function_global (env := compEnv scope C X.env) hkind hl2 (Calls.loadGlobal_builtin ?_ hm ?_ ((h2 "int" (by decide)).trans (show bootBuiltins "int" = some (.type "int") by decide +kernel)) ?_) (by decide))
    · show s3.heap.Ns X.env.globals X.mg
      rw [I1.ok.glob]; exact (I1.mod.glob.keeps I1.bk).keeps old
    · show s3.heap.Ns X.env.builtins mb
      rw [I1.ok.blt]; exact (h1.keeps I1.bk).keeps old
    · refine PyProof.Rows.callWith_type1 ?_ rfl rfl
      refine Calls.spliced_cons (wpAny_Name (wpAny_loadName_local (env := compEnv scope C X.env) hkind hl1 hn hm3 ?_) hxd)
      exact Calls.spliced_nil (call_int_bool ⟨⟨b, _, rfl, rfl⟩, s3.heap, s3.toks + 1, rfl, fun _ _ e => e⟩)
  · intro D h' tk ys vs hD _ hp hlen' hP hF hk
    have hvs : vs = bs.map Value.bool := by
      apply List.ext_getElem? 
      intro j
      cases hj : vs[j]? with
      | some v =>
        have := hP j v hj
        simpa using this.symm
      | none =>
        have : vs.length ≤ j := List.getElem?_eq_none_iff.mp hj
        rw [hlen'] at this
        simp at this
        rw [List.getElem?_eq_none (by simpa using this)]
    rw [hvs, List.filter_eq_self.mpr (fun _ _ => rfl)] at hF
    have old : ∀ c o, s1.heap.get? c = some o → h'.get? c = some o := fun c o e => hk c o (fun z => by
      have : c = s1.heap.objs.size := by simpa using z
      exact Nat.ne_of_lt (Heap.lt_size e) this) (Heap.get?_push_of_some _ e)
    have fr : s1.heap.get? D = none := by
      cases q : s1.heap.get? D with
      | none => rfl
      | some o => rw [Heap.get?_push_of_some _ q] at hD; cases hD
    have hDn : H D = none := I1.hok.gone fr
    obtain ⟨nd, gd⟩ := hp
    have rv2 := paired_ints hF
    refine ⟨.ref D, _, inv_new (s := s1) I1 (tk := tk) old fr hDn (o := .lst (bs.map fun b => V.int (if b then 1 else 0))) ⟨by rw [List.length_map]; exact big_ok hb, ys.toList, nd, rv2, by simpa using gd⟩, rfl, hQ D hDn⟩
end Rw
namespace Rw
open PySem PySem.Spec PyProof.Rows
open L2 hiding St
/-- isinstance of the exception that is pinned -/
theorem call_isEH {X : Cx} {a D : Addr} {oe : Obj} (C : ExcC X.K D) (hp : (a, oe) ∈ X.pn) (hz : Zc (.ref D) none oe) (hf : ∃ vs, oe.data = .fields vs) : CallR X (.builtin "isinstance") (rIsE X.K D a) := by
  rintro pins s σ H xs us Q I r ⟨c, cv, b, rfl, hcv, hk, hq⟩
  rcases r with _ | ⟨rx, rr⟩
  rcases rr with _ | ⟨rt, rr⟩
  cases rr
  cases rx
  obtain rfl := hcv _ rt
  obtain ⟨vs, hv⟩ := hf
  obtain ⟨oc, od, oda, osl⟩ := oe
  obtain ⟨h1, h2⟩ := hz
  dsimp only at h1 h2 hv
  subst h1 h2 hv
  have at_ : PySem.W.InstAt s.heap a ⟨.ref D, none, .fields vs, osl⟩ D none := ⟨(I.pin _ (List.mem_append_left _ hp)).1, rfl, rfl, trivial⟩
  exact PySem.W.kia_one (PySem.W.handS_kitx_exc C.hg C.hk C.hs C.hd C.ha C.hn C.ht C.hm) I.kIn at_ hk (fun z => nomatch z) fun tk => ⟨.bl b, H, I.kept (t' := tk) fun _ _ z => z, rfl, hq⟩
end Rw
namespace Rw
open PySem PySem.Spec PyProof.Rows
open L2 hiding St
/-! ## a def called with the handled exception for its argument -/
/-- from an except suite: f(e), the body's reading told of the very state -/
theorem run_hot {X : Cx} {CX : CXT} {k : Nat} {f : Addr} {name qual : Str} {params : Arguments} {body : List Stmt} {scope : Scope} {dV kV doc pm cdv ct oc : Value} {an od : Option Addr} {osl : Array (Option Value)} {N ps : List Str}
    (lk : X.K.lookup f = some ⟨oc, od, .func (PySem.W.fnOf name qual params body scope dV kV doc pm an cdv ct), osl⟩) (hcd : PySem.W.codeIn X.K cdv qual = true) (S : FnScope N ps scope) (hb : Binds X.K (PySem.W.fnOf name qual params body scope dV kV doc pm an cdv ct) ps [])
    {pins : List (Addr × Obj)} {σ : L2.St} {H : Hp} {s : Shared} {us : List Value} {vs : List V} {Q : VK} {p : Addr × Obj} (hr : L2H.RoomH (k + 1) X.A) (hot : L2H.Hot1 X.A p) (hp : p ∈ X.pn) (I : Inv X pins σ H s) (r : Vals vs us) (hl : vs.length = ps.length)
    (hno : ∀ e s', CX X.stack H s (fun _ _ _ => False) e s' → False)
    (hbody : L2H.RoomH k (X.A.deeper (envOfC qual scope s.heap.objs.size f cdv)) → ∃ t, PSs (L2H.cxH CX X.prog X.w X.K X.mg X.base N qual scope f cdv X.A X.stack s H (fun _ _ _ => False) p) body t ∧ t { nx := fun _ H' => Q .non H', rt := Q } (L2.start N vs) H) :
    wpAny (model X.prog X.w) X.A (call (.ref f) us) (EP X pins σ Q) X.xe s := by
  have hlu : us.length = ps.length := by rw [← r.length]; exact hl
  have bd := hb s us I.kIn (by rw [List.append_nil]; exact hlu)
  rw [List.append_nil] at bd
  have P1 := I.pin p (List.mem_append_left _ hp)
  have hpin : L2H.PinOk X.stack H s p := ⟨P1.1, P1.2.1, fun hm => (List.mem_cons.mp (I.stkSub p.1 hm)).elim P1.2.2.1 P1.2.2.2.1, P1.2.2.2.2⟩
  have e0 := I.env0
  have par : ∀ y ∈ ps.zip us, scope.names.lookup y.1 = some .local ∨ (scope.names.lookup y.1 = some .cell ∧ ((cellsFrom (s.heap.objs.size + 1) scope.names []).lookup y.1).isSome = true) := by
    rintro ⟨nm, vv⟩ hy
    rcases S.par nm (List.of_mem_zip hy).1 with hk | hk
    · exact .inl hk
    · exact .inr ⟨hk, PySem.W.cellsFrom_some _ _ _ (.inl hk)⟩
  have main : codeAny (model X.prog X.w) X.A (.call (.ref f) ⟨us, []⟩) (CR CX X.stack X.prog X.w H s Q fun _ _ _ => False) s := by
    refine codeAny_call_function hr.depth (I.kIn _ _ lk) rfl S.co S.gen rfl (PySem.W.codeRec_of I.kIn hcd) (bd _ _ _ _ (wpAny_newFunctionEnv_cells S.kind par fun env he s1 x => ?_))
    subst he
    refine ⟨I.nolimit.keeps x.toInCall.keep, codeAny_func ?_⟩
    obtain ⟨t, ht, hq⟩ := hbody (hr.deeper _)
    have I' := L2H.inv_startH (CX := CX) (E := fun _ _ _ => False) S hpin e0 hl r x
    refine wpAny_mono (ht.run [] s1 (L2.start N vs) H _ I' hq) (fun fl s' hs => ?_) fun e s' hs => hs
    have fin : ∀ {σ' : L2.St} {H' : Hp} {v : V} {u : Value}, Inv (L2H.cxH CX X.prog X.w X.K X.mg X.base N qual scope f cdv X.A X.stack s H (fun _ _ _ => False) p) [] σ' H' s' → RelV v u → Q v H' → CE X.stack X.prog X.w H s Q u s' := fun {σ' H' v u} J rv hQ => ⟨v, H', J.os, J.bare, J.base, J.hok, rv, hQ⟩
    cases fl with
    | next => obtain ⟨σ', H', J, z⟩ := hs; exact fin (v := V.non) (u := Value.none) J rfl z
    | ret u => obtain ⟨v, σ', H', J, rv, z⟩ := hs; exact fin J rv z
    | brk => obtain ⟨_, _, _, z⟩ := hs; exact z.elim
    | cont => obtain ⟨_, _, _, z⟩ := hs; exact z.elim
  refine wpAny_call (codeAny_mono main fun res s' hq => ?_)
  cases res with
  | error e => exact (hno e s' hq).elim
  | ok fl =>
    cases fl with
    | ret u => exact I.after hq
    | next => exact hq.elim
    | brk => exact hq.elim
    | cont => exact hq.elim
end Rw
namespace Rw
open PySem PySem.Spec PyProof.Rows
open L2 hiding St
/-! ## the word of a refusal -/
/-- what is known in the word's body: a the exception of the class D, pinned -/
structure WordX (X : Cx) (D a : Addr) (oe : Obj) : Prop where
  hot : L2H.HotC X
  cls : ExcC X.K D
  pn : (a, oe) ∈ X.pn
  z : Zc (.ref D) none oe
  f : ∃ vs, oe.data = .fields vs
  nd : X.N.Nodup
  n0 : X.N[0]? = some ("_law_e" : Str)
  n1 : X.N[1]? = some ("_law_flags" : Str)
  v0 : X.env.scope.names.lookup ("_law_e" : Str) = some .local
  v1 : X.env.scope.names.lookup ("_law_flags" : Str) = some .local
  gi : X.env.scope.names.lookup ("isinstance" : Str) = some .globalImplicit
  mi : X.mg "isinstance" = none
  gs : X.env.scope.names.lookup ("sum" : Str) = some .globalImplicit
  ms : X.mg "sum" = none
  mint : X.mg "int" = none
  gv : X.env.scope.names.lookup ("ValueError" : Str) = some .globalImplicit
  mv : X.mg "ValueError" = none
  kv : PySem.W.kitOne X.K (.ref D) (.type "ValueError") = some true
  un : X.A.units + 65 < cLine
/-- a class of the program: asked of, the answer b -/
structure AskX (X : Cx) (D : Addr) (c : Str) (b : Bool) : Prop where
  g : X.env.scope.names.lookup c = some .globalImplicit
  m : ∃ C : Addr, X.mg c = some (.ref C) ∧ PySem.W.kitOne X.K (.ref D) (.ref C) = some b
  d : (c == ("__debug__" : Str)) = false
def isR (a : Addr) (b : Bool) : TE := fun σ H Q => σ[0]? = some (some (.ref a)) ∧ Q (.bl b) H
section
variable {X : Cx} {D a : Addr} {oe : Obj}
theorem boots3 : bootBuiltins "isinstance" = some (.builtin "isinstance") ∧ bootBuiltins "sum" = some (.builtin "sum") ∧ bootBuiltins "ValueError" = some (.type "ValueError") := by decide +kernel
theorem pe_isC {c : Str} {b : Bool} {p1 p2 p3 p4 : Pos} (w : WordX X D a oe) (k : AskX X D c b) : PE X (.Call (.Name "isinstance" p1) [.Name "_law_e" p2, .Name c p3] [] p4) (isR a b) := by
  obtain ⟨C, hm, hk⟩ := k.m
  refine PE.imp (pe_callB (call_isEH w.cls w.pn w.z w.f) w.gi w.mi boots3.1 (pa_cons (pe_var w.n0 (.inl w.v0)) (pa_cons (pe_glob (v := .ref C) k.g hm rfl k.d) pa_nil))) fun σ H Q ⟨h0, hq⟩ => ?_
  exact ⟨_, h0, .ref C, .ref C, b, rfl, fun u r => r, hk, hq⟩
theorem pe_isV {p1 p2 p3 p4 : Pos} (w : WordX X D a oe) : PE X (.Call (.Name "isinstance" p1) [.Name "_law_e" p2, .Name "ValueError" p3] [] p4) (isR a true) := by
  refine PE.imp (pe_callB (call_isEH w.cls w.pn w.z w.f) w.gi w.mi boots3.1 (pa_cons (pe_var w.n0 (.inl w.v0)) (pa_cons (pe_bltn (v := .ty "ValueError") w.gv w.mv boots3.2.2 rfl) pa_nil))) fun σ H Q ⟨h0, hq⟩ => ?_
  exact ⟨_, h0, .ty "ValueError", .type "ValueError", true, rfl, fun u r => r, w.kv, hq⟩
def flR (a : Addr) (bs : List Bool) : TA := fun σ H Q => σ[0]? = some (some (.ref a)) ∧ Q (bs.map V.bl) H
theorem fl_nil : PA X [] (flR a []) := PA.imp pa_nil fun σ H Q ⟨_, hq⟩ => hq
theorem fl_cons {e : Expr} {es : List Expr} {b : Bool} {bs : List Bool} (h : PE X e (isR a b)) (t : PA X es (flR a bs)) (hs : starEach (e :: es) X.env = (false, eval e X.env) :: starEach es X.env) : PA X (e :: es) (flR a (b :: bs)) :=
  PA.imp (pa_cons h t hs) fun σ H Q ⟨h0, hq⟩ => ⟨h0, h0, hq⟩
/-- flags = [..] -/
theorem st_fl1 {es : List Expr} {bs : List Bool} {p lp sp : Pos} (w : WordX X D a oe) (h : PA X es (flR a bs)) (hb : bs.length ≤ big) :
    PS X (.Assign [.Name "_law_flags" p] (.List es lp) sp) (fun E σ H => σ[0]? = some (some (.ref a)) ∧ ∀ P, H P = none → E.nx (σ.set 1 (some (.ref P))) (upd H P (.lst (bs.map V.bl)))) :=
  PS.imp (ps_set w.nd w.n1 (.inl w.v1) (pe_lst h) (hf := .inr w.v1)) fun E σ H ⟨h0, hq⟩ => ⟨h0, by rw [List.length_map]; exact big_ok hb, hq⟩
/-- flags = flags + [..] -/
theorem st_fl2 {es : List Expr} {bs cs : List Bool} {p p2 lp bp sp : Pos} (w : WordX X D a oe) (h : PA X es (flR a cs)) (hb : bs.length + cs.length ≤ big) :
    PS X (.Assign [.Name "_law_flags" p] (.BinOp (.Name "_law_flags" p2) .Add (.List es lp) bp) sp) (fun E σ H => ∃ P, σ[0]? = some (some (.ref a)) ∧ σ[1]? = some (some (.ref P)) ∧ H P = some (.lst (bs.map V.bl)) ∧
      ∀ P' H', H' P' = some (.lst ((bs ++ cs).map V.bl)) → (∀ b o, H b = some o → H' b = some o) → (∀ b, H' b = none → H b = none) → (∀ b ps, H' b = some (.tbl ps) → H b = some (.tbl ps)) → E.nx (σ.set 1 (some (.ref P'))) H') := by
  refine PS.imp (ps_set w.nd w.n1 (.inl w.v1) (pe_op op_cat' (pe_var w.n1 (.inl w.v1)) (pe_lst h)) (hf := .inr w.v1)) fun E σ H ⟨P, h0, h1, hP, hq⟩ => ?_
  refine ⟨_, h1, h0, by rw [List.length_map]; exact big_ok (by omega), fun P2 hP2 => ?_⟩
  have nP : P ≠ P2 := ne_of_none hP hP2
  refine ⟨P, P2, _, _, rfl, rfl, .inl (by rw [upd_ne nP]; exact hP), .inl upd_same, by rw [List.length_map, List.length_map]; exact big_ok hb, fun P3 hP3 => ?_⟩
  have n3 : P3 ≠ P2 := fun z => by rw [z, upd_same] at hP3; cases hP3
  have hP3' : H P3 = none := by rw [upd_ne n3] at hP3; exact hP3
  refine hq P3 _ (by rw [upd_same, List.map_append]) (fun b o e => ?_) (fun b e => ?_) fun b ps e => ?_
  · rw [upd_ne (ne_of_none e hP3'), upd_ne (ne_of_none e hP2)]; exact e
  · by_cases z : b = P3
    · rw [z]; exact hP3'
    · rw [upd_ne z] at e
      by_cases z2 : b = P2
      · rw [z2]; exact hP2
      · rw [upd_ne z2] at e; exact e
  · by_cases z : b = P3
    · rw [z, upd_same] at e; cases e
    · rw [upd_ne z] at e
      by_cases z2 : b = P2
      · rw [z2, upd_same] at e; cases e
      · rw [upd_ne z2] at e; exact e
end
end Rw
namespace Rw
open PySem PySem.Spec PyProof.Rows
open L2 hiding St
section
variable {X : Cx} {D a : Addr} {oe : Obj}
/-- the comprehension's scope, as the text has it -/
def flSc (sc : Scope) : Bool := decide (sc.kind = .function) && ((sc.names.all fun z => !decide (z.2 = .free) && !decide (z.2 = .cell)) && ((sc.names.all fun z => !decide (z.2 = .local) || decide (sc.names.lookup z.1 = some .local)) && (decide (sc.names.lookup ("_law_flag" : Str) = some .local) && decide (sc.names.lookup ("int" : Str) = some .globalImplicit))))
theorem pe_fl {py px p1 p2 p3 pos : Pos} {scope : Scope} (w : WordX X D a oe) (hs : flSc scope = true) :
    PE X (.ListComp (.Call (.Name "int" p1) [.Name "_law_flag" p2] [] p3) [⟨.Name "_law_flag" px, .Name "_law_flags" py, [], 0⟩] scope pos)
      (fun σ H Q => ∃ (a : Addr) (bs : List Bool), σ[1]? = some (some (.ref a)) ∧ H a = some (.lst (bs.map V.bl)) ∧ bs.length ≤ big ∧ ∀ D, H D = none → Q (.ref D) (upd H D (.lst (bs.map fun b => V.int (if b then 1 else 0))))) := by
  unfold flSc at hs
  simp only [Bool.and_eq_true, decide_eq_true_eq, List.all_eq_true, Bool.not_eq_true', decide_eq_false_iff_not, Bool.or_eq_true] at hs
  obtain ⟨h1, h2, h3, h4, h5⟩ := hs
  refine pe_flagsH w.hot w.n1 (.inl w.v1) (by decide) (by decide) w.mint h1 h2 (fun z hz hk => ?_) h4 h5 (by decide)
  rcases h3 z hz with h | h
  · exact absurd hk h
  · exact h
/-- sum([int(x) for x in flags]) != 1 or not isinstance(e, ValueError) -/
theorem pt_word {py px p1 p2 p3 p4 p5 p6 p7 p8 p9 p10 p11 p12 p13 p14 : Pos} {j : Nat} {scope : Scope} (w : WordX X D a oe) (hs : flSc scope = true) :
    PT X (.BoolOp .Or [.Compare (.Call (.Name "sum" p4) [.ListComp (.Call (.Name "int" p1) [.Name "_law_flag" p2] [] p3) [⟨.Name "_law_flag" px, .Name "_law_flags" py, [], 0⟩] scope p5] [] p6) [.NotEq] [.Constant (.int 1) j p7] p8,
        .UnaryOp .Not (.Call (.Name "isinstance" p9) [.Name "_law_e" p10, .Name "ValueError" p11] [] p12) p13] p14)
      (fun σ H Q => ∃ (P : Addr) (bs : List Bool), σ[0]? = some (some (.ref a)) ∧ σ[1]? = some (some (.ref P)) ∧ H P = some (.lst (bs.map V.bl)) ∧ bs.length ≤ big ∧ (bs.map fun b => if b then (1 : Int) else 0).sum = 1 ∧
        ∀ P', H P' = none → Q false (upd H P' (.lst (bs.map fun b => V.int (if b then 1 else 0))))) := by
  have hsum := pe_callB (pos := p6) (p := p4) (cr_sumH w.hot) w.gs w.ms boots3.2.1 (pa_cons (pe_fl (py := py) (px := px) (p1 := p1) (p2 := p2) (p3 := p3) (pos := p5) w hs) pa_nil)
  have hne := pt_cmpR (pos := p8) op_ne hsum (pe_int (i := 1) (j := j) (pos := p7)) rfl
  have hnot := pt_not (pos := p13) (pt_val (pe_isV (p1 := p9) (p2 := p10) (p3 := p11) (p4 := p12) w))
  refine PT.imp (pw_or (pos := p14) hne (pw_or1 hnot)).pt fun σ H Q ⟨P, bs, h0, h1, hP, hb, hsm, hq⟩ => ?_
  refine ⟨P, bs, h1, hP, hb, fun P' hP' => ⟨P', bs.map fun b => if b then (1 : Int) else 0, rfl, .inl (.inl (by rw [upd_same, List.map_map]; rfl)), ?_⟩⟩
  rw [hsm]
  refine ⟨rfl, false, rfl, ?_⟩
  exact ⟨h0, true, rfl, hq P' hP'⟩
theorem at_nat' {α : Type} {l : List α} {n : Nat} {d : α} (h : l[n]? = some d) : atI l (n : Int) = some d := by
  have h1 := (List.getElem?_eq_some_iff.mp h).1
  unfold atI ixN
  rw [if_pos (by omega), if_pos (by omega)]
  simpa using h
/-- [..words..][flags.index(True)] -/
theorem pe_word {ws : List Str} {es : List Expr} {px p1 p2 p3 lp sp : Pos} {j : Nat} (w : WordX X D a oe) (he : PA X es (fun _ H Q => Q (ws.map V.str) H)) (hl : (p1.endLine == p3.line) = true) (hw : ws.length ≤ big) :
    PE X (.Subscript (.List es lp) (.Call (.Attribute (.Name "_law_flags" px) "index" p1) [.Constant (.bool true) j p2] [] p3) sp)
      (fun σ H Q => ∃ (P : Addr) (bs : List Bool) (n : Nat) (x : Str), σ[1]? = some (some (.ref P)) ∧ H P = some (.lst (bs.map V.bl)) ∧ bs[n]? = some true ∧ (∀ m, m < n → bs[m]? = some false) ∧ ws[n]? = some x ∧ ∀ P', H P' = none → Q (.str x) (upd H P' (.lst (ws.map V.str)))) := by
  have hidx := pe_bm (cpos := p3) (apos := p1) PySem.F.plainAttrs_list PySem.F.slot_list_index PySem.F.type_list_index mt_index (pe_var (pos := px) w.n1 (.inl w.v1)) (pa_cons (pe_bl (b := true) (j := j) (pos := p2)) pa_nil) (hline := hl)
  refine PE.imp (pe_ix (pos := sp) ix_seq (pe_lst (pos := lp) he) hidx (fun _ _ => rfl)) fun σ H Q ⟨P, bs, n, x, h1, hP, hn, hm, hx, hq⟩ => ?_
  refine ⟨by rw [List.length_map]; exact big_ok hw, fun P' hP' => ?_⟩
  have ne : P ≠ P' := ne_of_none hP hP'
  have hP2 : upd H P' (.lst (ws.map V.str)) P = some (.lst (bs.map V.bl)) := by rw [upd_ne ne]; exact hP
  have hlt := (List.getElem?_eq_some_iff.mp hx).1
  refine ⟨_, h1, .inl ⟨rfl, _, .inl (.inl hP2)⟩, P, bs.map V.bl, .bl true, n, .bl true, rfl, rfl, .inl (.inl hP2), rfl, ?_, by rw [List.getElem?_map, hn]; rfl, rfl, fun m z hmn hz => ?_, ?_⟩
  · simp [flatV]
  · rw [List.getElem?_map, hm m hmn] at hz
    cases hz
    rfl
  · refine .inl ⟨P', ws.map V.str, n, .str x, rfl, rfl, .inl (.inl upd_same), ?_, hq P' hP'⟩
    exact at_nat' (by rw [List.getElem?_map, hx]; rfl)
end
end Rw
namespace Rw
open PySem PySem.Spec PyProof.Rows
open L2 hiding St
/-- all is kept, more may stand -/
structure Gw (H H' : Hp) : Prop where
  ex : ∀ b o, H b = some o → H' b = some o
  mo : ∀ b, H' b = none → H b = none
theorem Gw.trans {A B C : Hp} (x : Gw A B) (y : Gw B C) : Gw A C := ⟨fun b o e => y.ex b o (x.ex b o e), fun b e => x.mo b (y.mo b e)⟩
theorem Gw.upd {H : Hp} {p : Addr} {o : HO} (h : H p = none) : Gw H (upd H p o) := ⟨fun b u e => by rw [upd_ne (ne_of_none e h)]; exact e, fun b e => by
  by_cases z : b = p
  · rw [z]; exact h
  · rw [upd_ne z] at e; exact e⟩
section
variable {X : Cx} {D a : Addr} {oe : Obj}
/-- the word's body: its four rows -/
theorem ps_word {es es2 ws' : List Expr} {bs cs : List Bool} {ws : List Str} {n : Nat} {x : Str} {q1 q2 q3 q4 q5 q6 q7 q8 q9 py px p1 p2 p3 p4 p5 p6 p7 p8 p9 p10 p11 p12 p13 p14 r1 r2 r3 r4 r5 r6 r7 r8 r9 : Pos} {j1 j2 j3 : Nat} {scope : Scope} (w : WordX X D a oe) (hs : flSc scope = true)
    (h1 : PA X es (flR a bs)) (h2 : PA X es2 (flR a cs)) (h3 : PA X ws' (fun _ H Q => Q (ws.map V.str) H)) (hl : (r4.endLine == r6.line) = true) (hb : bs.length + cs.length ≤ big) (hw : ws.length ≤ big)
    (hsum : ((bs ++ cs).map fun b => if b then (1 : Int) else 0).sum = 1) (hn : (bs ++ cs)[n]? = some true) (hm : ∀ m, m < n → (bs ++ cs)[m]? = some false) (hx : ws[n]? = some x) :
    PSs X [.Assign [.Name "_law_flags" q1] (.List es q2) q3, .Assign [.Name "_law_flags" q4] (.BinOp (.Name "_law_flags" q5) .Add (.List es2 q6) q7) q8,
      .If (.BoolOp .Or [.Compare (.Call (.Name "sum" p4) [.ListComp (.Call (.Name "int" p1) [.Name "_law_flag" p2] [] p3) [⟨.Name "_law_flag" px, .Name "_law_flags" py, [], 0⟩] scope p5] [] p6) [.NotEq] [.Constant (.int 1) j1 p7] p8,
        .UnaryOp .Not (.Call (.Name "isinstance" p9) [.Name "_law_e" p10, .Name "ValueError" p11] [] p12) p13] p14) [.Return (some (.Constant (.str "other") j2 r1)) r2] [] r3,
      .Return (some (.Subscript (.List ws' r7) (.Call (.Attribute (.Name "_law_flags" r8) "index" r4) [.Constant (.bool true) j3 r5] [] r6) r9)) q9]
      (fun E σ H => σ[0]? = some (some (.ref a)) ∧ 2 ≤ σ.length ∧ ∀ H', Gw H H' → E.rt (.str x) H') := by
  refine PSs.imp (pss_cons (st_fl1 w h1 (by omega)) (pss_cons (st_fl2 w (bs := bs) h2 hb) (pss_cons (ps_if (pt_word (py := py) (px := px) (p1 := p1) (p2 := p2) (p3 := p3) w hs) pss_never pss_nil) (pss_one (ps_ret (pe_word w h3 hl hw)))))) fun E σ H ⟨h0, hlen, hq⟩ => ?_
  refine ⟨h0, fun P hP => ?_⟩
  have s0 : (σ.set 1 (some (V.ref P)))[0]? = some (some (.ref a)) := by rw [List.getElem?_set_ne (by decide)]; exact h0
  have s1 : (σ.set 1 (some (V.ref P)))[1]? = some (some (.ref P)) := List.getElem?_set_self (by omega)
  refine ⟨P, s0, s1, upd_same, fun P2 H2 e2 k2 m2 _ => ?_⟩
  have t0 : ((σ.set 1 (some (V.ref P))).set 1 (some (V.ref P2)))[0]? = some (some (.ref a)) := by rw [List.getElem?_set_ne (by decide)]; exact s0
  have t1 : ((σ.set 1 (some (V.ref P))).set 1 (some (V.ref P2)))[1]? = some (some (.ref P2)) := List.getElem?_set_self (by simp; omega)
  refine ⟨P2, bs ++ cs, t0, t1, e2, by rw [List.length_append]; exact hb, hsum, fun P3 hP3 => ?_⟩
  have n3 : P2 ≠ P3 := ne_of_none e2 hP3
  dsimp only
  rw [if_neg Bool.false_ne_true]
  refine ⟨P2, bs ++ cs, n, x, t1, by rw [upd_ne n3]; exact e2, hn, hm, hx, fun P4 hP4 => hq _ ?_⟩
  exact ((Gw.upd hP).trans ⟨k2, m2⟩).trans ((Gw.upd hP3).trans (Gw.upd hP4))
end
end Rw
namespace Rw
open PySem PySem.Spec PyProof.Rows
open L2 hiding St
open LamX (LamS lamEnv lamCx CodeO TabB)
/-! ## a deed, called by the def that got it -/
section
variable {X : Cx} {pins : List (Addr × Obj)} {σ : L2.St} {H : Hp} {s : Shared}
/-- the call of the deed, in a frame above X's; Z: that frame's context, all that it must bring -/
theorem deed_call {Z : Cx} {f c' : Addr} {pm ctv : Value} {params : Arguments} {body : Expr} {scope : Scope} {k : Nat} {E : XK} {tb : TE} {pinsZ : List (Addr × Obj)} {σZ : L2.St} {HZ : Hp} {sZ : Shared} {Q : VK} {W : WX} {pos : Pos}
    (hP : Z.prog = X.prog) (hw : Z.w = X.w) (hK : Z.K = X.K) (hmg : Z.mg = X.mg) (hbase : Z.base = X.base) (I : Inv X pins σ H s) (L : LamS X.env.scope scope) (IZ : Inv Z pinsZ σZ HZ sZ) (un : Un (frs X.stack) [] H HZ s.heap sZ.heap)
    (of1 : sZ.heap.get? f = some (PySem.W.kla_obj "<lambda>" (X.env.qual ++ "<lambda>") params body scope (cloFrom X.env.cells scope.names []) pm c' ctv)) (hco : HZ c' = some (CodeO c' (X.env.qual ++ "<lambda>")))
    (hbind : bindArgs (PySem.W.kla_fn "<lambda>" (X.env.qual ++ "<lambda>") params body scope (cloFrom X.env.cells scope.names []) pm (.ref c') ctv) ⟨[], []⟩ = pure []) (tk : L2N.Takes Z W) (hW : ∀ cls d H', E cls d H' → W cls d σZ H') (hr : Room (k + 1) Z.A)
    (hbody : ∀ (A : Around) (outer : List Env) (s : Shared) (H : Hp), Room k (A.deeper (lamEnv X scope s.heap.objs.size f c')) → PE (deedX X A outer s H E scope f c') body tb) (ht : tb σ HZ Q) :
    wpAny (model Z.prog Z.w) Z.A (call (.ref f) []) (EP Z pinsZ σZ Q) Z.xe sZ := by
  obtain ⟨⟨oc, vs, t, hoc, hdc, hvc⟩, _, _⟩ := IZ.hok c' _ hco
  have e0 : Env0 X.prog X.w X.K X.mg X.base Z.A Z.stack sZ HZ := by
    have := IZ.env0
    rw [hP, hw, hK, hmg, hbase] at this
    exact this
  have main : codeAny (model Z.prog Z.w) Z.A (.call (.ref f) ⟨[], []⟩) (CR (L2N.CX Z.prog Z.w) Z.stack Z.prog Z.w HZ sZ Q E) sZ := by
    rw [hP, hw]
    refine PySem.W.kla_callFunE hr.depth of1 rfl L.co L.gen rfl ⟨c', oc, vs, t, rfl, hoc, hdc, hvc⟩ ?_
    rw [hbind]
    refine wpAny_pure (wpAny_newFunctionEnv (fun y hy => (L.own y hy).2) (fun y hy => absurd hy (by simp)) (fun h₁ hns hsb => ⟨IZ.nolimit.fresh _ hsb, ?_⟩) L.kind)
    show codeAny _ _ (.expr body (lamEnv X scope sZ.heap.objs.size f c')) _ _
    have kp : ∀ b o, sZ.heap.get? b = some o → h₁.get? b = some o := fun b o e => hsb.extBut b o (Nat.ne_of_lt (Heap.lt_size e)) (Heap.get?_push_of_some _ e)
    have J := (LamX.lam_start2 (E := E) (f := f) (c' := c') (tk := sZ.toks + ([] : List (Str × Value)).length) I L e0 hr.hd un hns kp).wish fun e s' => wpAny (model X.prog X.w) (Z.A.deeper (lamEnv X scope sZ.heap.objs.size f c')) (leaving (lamEnv X scope sZ.heap.objs.size f c') e) (fun _ s'' => L2N.CX X.prog X.w Z.stack HZ sZ E e s'') (fun e' s'' => L2N.CX X.prog X.w Z.stack HZ sZ E e' s'') s'
    refine PySem.W.kla_codeExpr (wpAny_mono ((hbody _ _ sZ HZ (hr.deeper _)).run [] _ _ HZ Q J ht) (fun v s' hq => ?_) fun e s' hq => hq)
    obtain ⟨x, H', J', rv, hQ⟩ := hq
    exact ⟨x, H', J'.os, J'.bare, J'.base, J'.hok, rv, hQ⟩
  refine wpAny_call (codeAny_mono main fun res s' hq => ?_)
  cases res with
  | error e => exact tk e s' (L2N.XE.of_call IZ hW hq)
  | ok fl =>
    cases fl with
    | ret u => exact IZ.after hq
    | next => exact hq.elim
    | brk => exact hq.elim
    | cont => exact hq.elim
end
end Rw
namespace Rw
open PySem PySem.Spec PyProof.Rows
open L2 hiding St
open LamX (LamS lamEnv lamCx CodeO TabB)
/-! ## told(lambda: ..) -/
/-- told's text: try: return a() / except R as e: return word(e) -/
def toldB (sc : Scope) (b : List Stmt) : Bool := match b with
  | [.Try [.Return (some (.Call (.Name a _) [] [] _)) _] [.ExceptHandler (some (.Name x _)) (some n) [.Return (some (.Call (.Name wd _) [.Name n' _] [] _)) _] _] [] [] _] =>
    decide (a = "_law_deed") && (decide (x = "RimError") && (decide (n = "_law_e") && (decide (n' = "_law_e") && (decide (wd = "_law_word") && (decide (sc.names.lookup ("_law_deed" : Str) = some .local) && (decide (sc.names.lookup ("_law_e" : Str) = some .local) &&
      (decide (sc.names.lookup ("RimError" : Str) = some .globalImplicit) && decide (sc.names.lookup ("_law_word" : Str) = some .globalImplicit))))))))
  | _ => false
def wNames : List Str := ["BadReach", "NoRoom", "NoWall", "TooMany"]
def askB (sc : Scope) : List Str → List Expr → Bool
  | [], es => match es with
    | [] => true
    | _ => false
  | c :: cs, es => match es with
    | .Call (.Name i _) [.Name v _, .Name x _] [] _ :: r => decide (i = "isinstance") && (decide (v = "_law_e") && (decide (x = c) && (decide (sc.names.lookup c = some .globalImplicit) && askB sc cs r)))
    | _ => false
def strsB : List Str → List Expr → Bool
  | [], es => match es with
    | [] => true
    | _ => false
  | c :: cs, es => match es with
    | .Constant (.str x) _ _ :: r => decide (x = c) && strsB cs r
    | _ => false
def wordB (sc : Scope) (b : List Stmt) : Bool := match b with
  | [.Assign [.Name f1 _] (.List es _) _, .Assign [.Name f2 _] (.BinOp (.Name f3 _) .Add (.List es2 _) _) _,
      .If (.BoolOp .Or [.Compare (.Call (.Name sm _) [.ListComp (.Call (.Name it _) [.Name x1 _] [] _) [⟨.Name x2 _, .Name f4 _, [], 0⟩] scope _] [] _) [.NotEq] [.Constant (.int one) _ _] _,
        .UnaryOp .Not (.Call (.Name is _) [.Name e1 _, .Name ve _] [] _) _] _) [.Return (some (.Constant (.str ot) _ _)) _] [] _,
      .Return (some (.Subscript (.List ws _) (.Call (.Attribute (.Name f5 _) ix apos) [.Constant (.bool true) _ _] [] cpos) _)) _] =>
    decide (f1 = "_law_flags") && (decide (f2 = "_law_flags") && (decide (f3 = "_law_flags") && (decide (f4 = "_law_flags") && (decide (f5 = "_law_flags") && (decide (sm = "sum") && (decide (it = "int") && (decide (x1 = "_law_flag") && (decide (x2 = "_law_flag") &&
      (decide (one = 1) && (decide (is = "isinstance") && (decide (e1 = "_law_e") && (decide (ve = "ValueError") && (decide (ot = "other") && (decide (ix = "index") && ((apos.endLine == cpos.line) &&
      (flSc scope && (askB sc ["BadReach", "NoRoom", "NoWall"] es && (askB sc ["TooMany"] es2 && (strsB wNames ws &&
      (decide (sc.names.lookup ("_law_e" : Str) = some .local) && (decide (sc.names.lookup ("_law_flags" : Str) = some .local) && (decide (sc.names.lookup ("isinstance" : Str) = some .globalImplicit) && (decide (sc.names.lookup ("sum" : Str) = some .globalImplicit) &&
      decide (sc.names.lookup ("ValueError" : Str) = some .globalImplicit))))))))))))))))))))))))
  | _ => false
/-- what stands in the module for told -/
structure TwF (K : PySem.W.Frag) (mg : Str → Option Value) (ce : ErV) : Prop where
  told : ∃ (f : Addr) (fd : FuncData) (params : Arguments) (body : List Stmt) (scope : Scope), mg "_law_told" = some (.ref f) ∧ FunD K "_law_told" "_law_told" params body scope [] [] f fd ∧ L2.Binds K fd ["_law_deed"] [] ∧
    FnScope ["_law_deed", "_law_e"] ["_law_deed"] scope ∧ toldB scope body = true
  word : ∃ (f : Addr) (fd : FuncData) (params : Arguments) (body : List Stmt) (scope : Scope), mg "_law_word" = some (.ref f) ∧ FunD K "_law_word" "_law_word" params body scope [] [] f fd ∧ L2.Binds K fd ["_law_e"] [] ∧
    FnScope ["_law_e", "_law_flags"] ["_law_e"] scope ∧ wordB scope body = true
  rim : ∃ C : Addr, mg "RimError" = some (.ref C) ∧ ∀ c x, wordOf c = some x → PySem.W.exmOne K (ce c) (.ref C) = some true
  cls : ∀ c x, wordOf c = some x → ∃ D : Addr, ce c = .ref D ∧ ExcC K D ∧ PySem.W.kitOne K (.ref D) (.type "ValueError") = some true ∧ ∀ n ∈ wNames, ∃ C : Addr, mg n = some (.ref C) ∧ PySem.W.kitOne K (.ref D) (.ref C) = some (decide (n = x))
  mi : mg "isinstance" = none
  ms : mg "sum" = none
  mt : mg "int" = none
  mv : mg "ValueError" = none
section
variable {X : Cx} {D a : Addr} {oe : Obj}
theorem asks_ok (w : WordX X D a oe) (f : Str → Bool) (hm : ∀ n ∈ wNames, ∃ C : Addr, X.mg n = some (.ref C) ∧ PySem.W.kitOne X.K (.ref D) (.ref C) = some (f n)) :
    ∀ (cs : List Str) (es : List Expr), (∀ n ∈ cs, n ∈ wNames) → askB X.env.scope cs es = true → PA X es (flR a (cs.map f))
  | [], es, _, h => by
    cases es with
    | nil => exact fl_nil
    | cons _ _ => simp [askB] at h
  | c :: cs, es, hc, h => by
    simp only [askB] at h
    split at h
    · simp only [Bool.and_eq_true, decide_eq_true_eq] at h
      obtain ⟨h1, h2, h3, h4, h5⟩ := h
      subst h1 h2 h3
      refine fl_cons (pe_isC w ⟨h4, hm _ (hc _ (List.mem_cons_self ..)), ?_⟩) (asks_ok w f hm cs _ (fun n hn => hc n (List.mem_cons_of_mem _ hn)) h5) rfl
      have : ∀ n ∈ wNames, (n == ("__debug__" : Str)) = false := by decide
      exact this _ (hc _ (List.mem_cons_self ..))
    · cases h
theorem strs_ok : ∀ (cs : List Str) (es : List Expr), strsB cs es = true → PA X es (fun _ H Q => Q (cs.map V.str) H)
  | [], es, h => by
    cases es with
    | nil => exact pa_nil
    | cons _ _ => simp [strsB] at h
  | c :: cs, es, h => by
    simp only [strsB] at h
    split at h
    · simp only [Bool.and_eq_true, decide_eq_true_eq] at h
      obtain ⟨h1, h2⟩ := h
      subst h1
      exact PA.imp (pa_cons pe_str (strs_ok cs _ h2)) fun σ H Q q => q
    · cases h
/-- the word's body -/
theorem word_body {b : List Stmt} {x : Str} (w : WordX X D a oe) (hm : ∀ n ∈ wNames, ∃ C : Addr, X.mg n = some (.ref C) ∧ PySem.W.kitOne X.K (.ref D) (.ref C) = some (decide (n = x))) (hx : x ∈ wNames) (h : wordB X.env.scope b = true) :
    PSs X b (fun E σ H => σ[0]? = some (some (.ref a)) ∧ 2 ≤ σ.length ∧ ∀ H', Gw H H' → E.rt (.str x) H') := by
  unfold wordB at h
  split at h
  · simp only [Bool.and_eq_true, decide_eq_true_eq] at h
    obtain ⟨g1, g2, g3, g4, g5, g6, g7, g8, g9, g10, g11, g12, g13, g14, g15, g16, g17, g18, g19, g20, _⟩ := h
    subst g1 g2 g3 g4 g5 g6 g7 g8 g9 g10 g11 g12 g13 g14 g15
    have a1 := asks_ok w (fun n => decide (n = x)) hm ["BadReach", "NoRoom", "NoWall"] _ (by decide) g18
    have a2 := asks_ok w (fun n => decide (n = x)) hm ["TooMany"] _ (by decide) g19
    have a3 := strs_ok (X := X) _ _ g20
    simp only [wNames, List.mem_cons, List.not_mem_nil, or_false] at hx
    rcases hx with rfl | rfl | rfl | rfl
    · exact ps_word (n := 0) w g17 a1 a2 a3 g16 (by decide) (by decide) (by decide) (by decide) (by decide) (by decide)
    · exact ps_word (n := 1) w g17 a1 a2 a3 g16 (by decide) (by decide) (by decide) (by decide) (by decide) (by decide)
    · exact ps_word (n := 2) w g17 a1 a2 a3 g16 (by decide) (by decide) (by decide) (by decide) (by decide) (by decide)
    · exact ps_word (n := 3) w g17 a1 a2 a3 g16 (by decide) (by decide) (by decide) (by decide) (by decide) (by decide)
  · cases h
end
theorem word_mem {c : ErrC} {x : Str} (h : wordOf c = some x) : x ∈ wNames := by
  cases c <;> simp only [wordOf, Option.some.injEq] at h <;> (try subst h) <;> first | decide | cases h
theorem n_false {P : Program} {w : World} {outer : List Env} {H : Hp} {s : Shared} {e : Value} {s' : Shared} (h : L2N.CX P w outer H s (fun _ _ _ => False) e s') : False := by
  obtain ⟨_, _, _, _, _, _, _, _, _, _, _, _, z⟩ := h
  exact z
/-- word(e), in told's suite -/
theorem pe_wordcall {Y : Cx} {a : Addr} {oe : Obj} {cls : Value} {d : Option Addr} {q1 q2 q3 : Pos} {ce : ErV} (F : TwF Y.K Y.mg ce) (hpn : (a, oe) ∈ Y.pn) (hh : Y.A.handled = some (.ref a)) (hr : L2H.RoomH 1 Y.A) (hz : L2N.Zn cls d oe) (hf : ∃ vs, oe.data = .fields vs)
    (hN : Y.N[1]? = some ("_law_e" : Str)) (hv : Vis Y.env.scope "_law_e") (hg : Gl Y "_law_word") :
    PE Y (.Call (.Name "_law_word" q1) [.Name "_law_e" q2] [] q3) (fun σ H Q => σ[1]? = some (some (.ref a)) ∧ ∃ c x, cls = ce c ∧ d = none ∧ wordOf c = some x ∧ ∀ H', Gw H H' → Q (.str x) H') := by
  refine ⟨fun pins s σ H Q I ⟨h1, c, x, hc, hd, hx, hq⟩ => ?_⟩
  subst hc hd
  obtain ⟨f, fd, params, body, scope, hmg, FD, hb, S, hw⟩ := F.word
  obtain ⟨D, hD, xc, kv, hm⟩ := F.cls c x hx
  obtain ⟨u1, u2, u3, u4, u5, u6, u7, u8, u9, u10, rfl, lk, hcd, _, _⟩ := FD.ex
  have args := pa_cons (pe_var (X := Y) (pos := q2) hN hv) pa_nil
  refine wpAny_Call_Name_kw (ld_glob I hg hmg (PySem.W.callWith_K (h₀ := Y.base) I.ok.mod.kin FD.kp (thn (args.run q3 pins s σ H (fun vs H' => vs = [.ref a] ∧ H' = H) I ⟨_, h1, rfl, rfl⟩) fun us s1 ⟨vs, H1, I1, r, ev, eH⟩ => ⟨I1.kIn, ?_⟩)))
  subst ev
  rw [eH] at I1
  obtain ⟨vs0, hv0⟩ := hf
  have hot : L2H.Hot1 Y.A (a, oe) := ⟨hh, vs0, hv0, hz.2.2 vs0 hv0⟩
  refine run_hot (CX := L2N.CX Y.prog Y.w) (k := 0) lk hcd S hb hr hot hpn I1 r rfl (fun e s' z => n_false z) fun hr' => ⟨_, word_body (X := L2H.cxH (L2N.CX Y.prog Y.w) Y.prog Y.w Y.K Y.mg Y.base ["_law_e", "_law_flags"] "_law_word" scope f _ Y.A Y.stack s1 H (fun _ _ _ => False) (a, oe)) (D := D) (a := a) (oe := oe) ?_ hm (word_mem hx) hw, ?_⟩
  · unfold wordB at hw
    split at hw
    · simp only [Bool.and_eq_true, decide_eq_true_eq] at hw
      obtain ⟨_, _, _, _, _, _, _, _, _, _, _, _, _, _, _, _, _, _, _, _, g1, g2, g3, g4, g5⟩ := hw
      exact { hot := ⟨(a, oe), ⟨hh, vs0, hv0, hz.2.2 vs0 hv0⟩, List.mem_cons_self ..⟩, cls := xc, pn := List.mem_cons_self .., z := ⟨by rw [← hD]; exact hz.1, hz.2.1⟩, f := ⟨vs0, hv0⟩, nd := S.nd, n0 := rfl, n1 := rfl, v0 := g1, v1 := g2, gi := g3, mi := F.mi, gs := g4, ms := F.ms, mint := F.mt, gv := g5, mv := F.mv, kv := kv,
              un := by have := hr'.un; show (Y.A.deeper _).units + 65 < cLine; omega }
    · cases hw
  · exact ⟨rfl, by show 2 ≤ 2; decide, fun H' g => hq H' g⟩

theorem Gw.gr {T : Tbs} {S H H' : Hp} (g : Gw H H') (s : Sub S H) : Gr T S H S H' := ⟨Xt.refl _, LamX.ExtN.of g.ex, fun b u z => ⟨g.ex b u (s b u z).1, (s b u z).2⟩, fun _ _ z => .inl z, fun t => ⟨t.t.ext g.ex⟩⟩
theorem takesN {Y : Cx} : L2N.Takes Y (fun _ _ _ _ => False) := fun _ _ ⟨_, _, _, _, _, _, _, _, _, _, _, _, _, _, _, _, z⟩ => z.elim
/-- the deed's name called in told's body -/
theorem pe_deed {X Z : Cx} {T : Tbs} {ce : ErV} {pins : List (Addr × Obj)} {σ : L2.St} {H1 : Hp} {s' : Shared} {f c' : Addr} {pm ctv : Value} {body : Expr} {scope : Scope} {j : Nat} {g : Fr → M Rw.D} {W : WX} {p1 p2 : Pos}
    (hP : Z.prog = X.prog) (hw : Z.w = X.w) (hK : Z.K = X.K) (hmg : Z.mg = X.mg) (hbase : Z.base = X.base) (hfs : Z.fs = frs X.stack) (hex : Z.ex = []) (hH : Z.H_0 = H1) (hs0 : Z.s_0 = s') (I : Inv X pins σ H1 s') (L : LamS X.env.scope scope)
    (hf : s'.heap.get? f = some (PySem.W.kla_obj "<lambda>" (X.env.qual ++ "<lambda>") ⟨[], [], none, [], [], none, []⟩ body scope (cloFrom X.env.cells scope.names []) pm c' ctv)) (hfn : H1 f = none) (hfr : f ∉ frs X.stack)
    (tk : L2N.Takes Z W) (hr : Room (j + 1) Z.A) (hN : Z.N[0]? = some ("_law_deed" : Str)) (hv : Vis Z.env.scope "_law_deed")
    (hbody : ∀ (A : Around) (outer : List Env) (s : Shared) (H : Hp) (E : XK) (f c' : Addr), Room j (A.deeper (lamEnv X scope s.heap.objs.size f c')) → PE (deedX X A outer s H E scope f c') body (tE X.K T ce (fun cls d _ H' => E cls d H') g)) :
    PE Z (.Call (.Name "_law_deed" p1) [] [] p2) (fun σZ HZ Q => σZ[0]? = some (some (.ref f)) ∧ HZ c' = some (CodeO c' (X.env.qual ++ "<lambda>")) ∧ tE X.K T ce (fun cls d _ H' => W cls d σZ H') g σ HZ Q) := by
  refine ⟨fun pinsZ sZ σZ HZ Q IZ ⟨h0, hc, ht⟩ => wpAny_Call_Name_kw (thn ((pe_var (X := Z) (i := 0) (pos := p1) hN hv).run pinsZ sZ σZ HZ (fun v H2 => v = .ref f ∧ H2 = HZ) IZ ⟨_, h0, rfl, rfl⟩) fun u s1 ⟨v, H2, I2, r1, ev, eH⟩ => ?_)⟩
  subst ev
  rw [eH] at I2
  obtain rfl : u = Value.ref f := r1
  have un : Un (frs X.stack) [] H1 HZ s'.heap s1.heap := by
    have := I2.base
    rw [hfs, hex, hH, hs0] at this
    exact this
  have of1 := un.keep f _ hf hfn hfr (by simp)
  exact PySem.W.callWith_F0 ⟨_, _, _, _, of1⟩ (deed_call (Z := Z) (pos := p1) (E := fun cls d H' => W cls d σZ H') hP hw hK hmg hbase I L I2 un of1 hc rfl tk (fun cls d H' h => h) hr (fun A outer s H hr' => hbody A outer s H (fun cls d H' => W cls d σZ H') f c' hr') ht)
/-- told(lambda: body) -/
theorem told_ok {X : Cx} {j : Nat} {T : Tbs} {ce : ErV} {c P : Addr} (F : TwF X.K X.mg ce) (hcode : X.env.code = .ref c) (TB : TabB X.base X.mg c P) (hmT : (P, X.env.qual ++ "<lambda>") ∈ T) (hu : ∀ p ∈ T, p.1 = P → p.2 = X.env.qual ++ "<lambda>") : ToldC X j T ce := by
  intro params body scope p lpos pos g W L hnp hgl hr hbody
  obtain ⟨gd, fd, pa, bg, sg, hmg, FD, hb, Sg, ht⟩ := F.told
  obtain ⟨u1, u2, u3, u4, u5, u6, u7, cdg, u9, u10, rfl, lk, hcd, _, _⟩ := FD.ex
  refine ⟨fun pins s σ H Q I ⟨S, e, as, a, o⟩ => wpAny_Call_Name_kw (ld_glob I hgl hmg (PySem.W.callWith_K (h₀ := X.base) I.ok.mod.kin FD.kp ?_ (by rfl) (by rfl)))⟩
  have hp : params = ⟨[], [], none, [], [], none, []⟩ := by
    unfold noPar at hnp
    split at hnp
    · rfl
    · cases hnp
  have hst : backTo pos (starEach [Expr.Lambda params body scope lpos] X.env) = (false, eval (.Lambda params body scope lpos) X.env) :: backTo pos (starEach [] X.env) := by rfl
  rw [hst]
  subst hp
  refine Calls.spliced_cons (LamX.lam_make2 I TB hcode hmT hu a.tab.t rfl (L.has I.ok) fun f c' pm' ctv H1 s' I1 eN T1 hf hfn hfr hco => Calls.spliced_nil ⟨I1.kIn, ?_⟩)
  have gr : Gr T S H S H1 := ⟨Xt.refl _, eN, fun b u z => ⟨eN b u (a.sub b u z).1 (a.sub b u z).2, (a.sub b u z).2⟩, fun _ _ z => .inl z, fun _ => ⟨T1⟩⟩
  have a1 := a.mono gr
  have o1 : okM T (EW ce W σ) (toldM (g e)) S H1 fun d S' H' => ∀ v, Rp X.K S' v d → Q v H' := okM.mono o gr
  have rc : codeAny (model X.prog X.w) X.A (.call (.ref gd) ⟨[.ref f], []⟩) (CR (L2N.CX X.prog X.w) X.stack X.prog X.w H1 s' Q (fun _ _ _ => False)) s' := by
    refine LamX.run_ofS (N := ["_law_deed", "_law_e"]) (ps := ["_law_deed"]) (us := [.ref f]) (vs := [.ref f]) (k := j + 1) lk hcd Sg hr I1.env0 (hb s' [.ref f] I1.kIn rfl) (.cons rfl .nil) rfl fun hr' => ?_
    obtain ⟨CR, hCR, hex⟩ := F.rim
    unfold toldB at ht
    split at ht
    · simp only [Bool.and_eq_true, decide_eq_true_eq] at ht
      obtain ⟨g1, g2, g3, g4, g5, g6, g7, g8, g9⟩ := ht
      subst g1 g2 g3 g4 g5
      refine ⟨_, pss_one (L2N.ps_try_as (X := cxOf (L2N.CX X.prog X.w) X.prog X.w X.K X.mg X.base ["_law_deed", "_law_e"] "_law_told" sg gd cdg X.A X.stack s' H1 (fun _ _ _ => False)) (i := 1) (c := .ref CR)
        (tb := fun W D σZ HZ => σZ[0]? = some (some (.ref f)) ∧ HZ c' = some (CodeO c' (X.env.qual ++ "<lambda>")) ∧ tE X.K T ce (fun cls d _ H' => W cls d σZ H') g σ HZ D.rt)
        (ts := fun a cls d D σZ HZ => σZ[1]? = some (some (.ref a)) ∧ ∃ c x, cls = ce c ∧ d = none ∧ wordOf c = some x ∧ ∀ H', Gw HZ H' → D.rt (.str x) H')
        rfl rfl Sg.nd rfl g7 ⟨g8, by decide, .inl hCR⟩ takesN (fun W pn xe tk _ => ?_) (fun a oe cls d pn hz hf => ?_)), ?_⟩
      · exact pss_one (ps_ret (pe_deed (X := X) (s' := s') (H1 := H1) (W := W) (j := j) (Z := (cxOf (L2N.CX X.prog X.w) X.prog X.w X.K X.mg X.base ["_law_deed", "_law_e"] "_law_told" sg gd cdg X.A X.stack s' H1 (fun _ _ _ => False)).tr pn xe) rfl rfl rfl rfl rfl rfl rfl rfl rfl I1 L hf hfn hfr tk hr' rfl (.inl g6) hbody))
      · refine pss_one (ps_ret (pe_wordcall (Y := (cxOf (L2N.CX X.prog X.w) X.prog X.w X.K X.mg X.base ["_law_deed", "_law_e"] "_law_told" sg gd cdg X.A X.stack s' H1 (fun _ _ _ => False)).suite a ((a, oe) :: pn)) F (List.mem_cons_self ..) rfl ⟨?_, ?_⟩ hz hf rfl (.inl g7) g9))
        · exact Nat.lt_of_le_of_lt (Nat.add_le_add_right (Nat.add_le_add_left (by omega : 3 * 1 ≤ 3 * (j + 1)) _) _) hr'.dp
        · exact Nat.lt_of_le_of_lt (Nat.add_le_add_right (Nat.add_le_add_left (by omega : 16 * 1 ≤ 16 * (j + 1)) _) _) hr'.un
      · refine ⟨rfl, hco, S, e, as, a1, ?_⟩
        cases hge : g e with
        | ok d =>
          rw [hge] at o1
          exact o1
        | stuck =>
          rw [hge] at o1
          exact o1.elim
        | err c0 =>
          rw [hge] at o1
          unfold toldM at o1
          dsimp only at o1
          cases hx : wordOf c0 with
          | none => rw [hx] at o1; exact o1.elim
          | some x =>
            rw [hx] at o1
            intro S2 H2 g2
            refine ⟨true, hex c0 x hx, fun _ a ha => ⟨rfl, c0, x, rfl, rfl, hx, fun H3 gw => ?_⟩, fun z => Bool.noConfusion z⟩
            exact o1 S2 H3 (g2.trans (gw.gr g2.sub)) _ (.str x)
    · cases ht
  refine wpAny_call (codeAny_mono rc fun r s2 hq => ?_)
  match r, hq with
  | .error e, hq => exact (n_false hq).elim
  | .ok (.ret u), hq => exact I1.after hq
  | .ok .next, hq => exact hq.elim
  | .ok .brk, hq => exact hq.elim
  | .ok .cont, hq => exact hq.elim
end Rw
namespace Rw
open PySem PySem.Spec PyProof.Rows
open L2 hiding St
/-! ## defs -/
/-- where everything stands -/
structure Wd where
  P : Program
  w : World
  K : PySem.W.Frag
  mg : Str → Option Value
  base : Heap
  T : Tbs
  ce : ErV
/-- the def of that name keeps its promise, k frames deep -/
def Wd.Has (Z : Wd) (k : Nat) (p : FnE) : Prop := ∃ (f : Addr) (fd : FuncData) (ps : List Str), Z.mg p.x = some (.ref f) ∧ PySem.W.keepIn Z.K (.ref f) = true ∧ Binds Z.K fd ps [] ∧
  FnOk Z.P Z.w Z.K Z.mg Z.base (L2N.CX Z.P Z.w) k f fd ps (spM Z.K Z.T Z.ce p.n p.F)
theorem Wd.Has.mono {Z : Wd} {j k : Nat} {p : FnE} (h : Z.Has j p) (hk : j ≤ k) : Z.Has k p := by
  obtain ⟨f, fd, ps, h1, h2, h3, h4⟩ := h
  exact ⟨f, fd, ps, h1, h2, h3, h4.mono hk⟩
def Wd.Gc (Z : Wd) (p : Str × Rw.D) : Prop := ∃ v u, Z.mg p.1 = some u ∧ RelV v u ∧ ∀ S, Rp Z.K S v p.2
def Wd.Err (Z : Wd) (r : ErrC) : Prop := ∃ C : Addr, Z.mg (errName r) = some (.ref C) ∧ Z.ce r = .ref C ∧ PySem.W.excIn Z.K C [.type "ValueError", .type "Exception", .type "BaseException", .type "object"] "ValueError.__new__" = true ∧
  PySem.W.keepIn Z.K (.ref C) = true ∧ ∀ (M : Model) (h : Heap), Z.K.In h → PySem.W.Looks M h (isSubtype (.ref C) (.type "BaseException")) true ∧ PySem.W.Looks M h (typeOf (.ref C)) (.type "type")
structure Wd.Ok (Z : Wd) : Prop where
  blt : ∀ x ∈ bnames, Z.mg x = none
section
variable {K : PySem.W.Frag} {S H : Hp}
theorem slsR_start : ∀ {vs : List V} {ds : List Rw.D} (n : Nat), RpAll K S vs ds → SlsR K S H (vs.map some ++ List.replicate n none) (ds.map Sl.val ++ List.replicate n .un) []
  | _, _, 0, .nil => .nil
  | _, _, n + 1, .nil => SlsR.cons (as := []) (bs := []) (.un _) (by simpa using slsR_start (vs := []) (ds := []) n .nil)
  | _, _, n, .cons r t => SlsR.cons (as := []) (bs := []) (.val r) (slsR_start n t)
end
/-- a def in which deeds are told: its code object and the table -/
def Wd.Tw (Z : Wd) (k : Nat) (ρ : Rho) (qual : Str) (fd : FuncData) : Prop := ∃ (j : Nat) (c P : Addr), j + 2 ≤ k ∧ (∀ p ∈ ρ.fn, Z.Has j p) ∧ TwF Z.K Z.mg Z.ce ∧ fd.code = .ref c ∧ LamX.TabB Z.base Z.mg c P ∧ (P, qual ++ ".<locals>." ++ "<lambda>") ∈ Z.T ∧
  ∀ p ∈ Z.T, p.1 = P → p.2 = qual ++ ".<locals>." ++ "<lambda>"
theorem def_ok {Z : Wd} (ok : Z.Ok) {tw : Bool} {x qual : Str} {params : Arguments} {body : List Stmt} {scope : Scope} {f : Addr} {fd : FuncData} (F : FunD Z.K x qual params body scope [] [] f fd) {N ps : List Str} {k : Nat} {ρ : Rho} {er : List ErrC} {b : Sts}
    (S : FnScope N ps scope) (hc : chkSs ⟨N, scope, fun _ => true, tw⟩ ρ er b body = true) (fns : ∀ p ∈ ρ.fn, Z.Has k p) (gcs : ∀ p ∈ ρ.gc, Z.Gc p) (errs : ∀ r ∈ er, Z.Err r) (htw : tw = true → Z.Tw k ρ qual fd := by exact fun z => Bool.noConfusion z) :
    FnOk Z.P Z.w Z.K Z.mg Z.base (L2N.CX Z.P Z.w) (k + 1) f fd ps (spM Z.K Z.T Z.ce ps.length (runD ρ b N.length)) := by
  obtain ⟨v1, v2, v3, v4, v5, v6, v7, cdv, v9, v10, rfl, lk, hcd, _, _⟩ := F.ex
  refine fn_of lk hcd S (fun vs H Q E ⟨S', ds, _, _, r, hl, _⟩ => by rw [r.len, hl]) fun A outer s H vs Q E hr hsp => ?_
  obtain ⟨S', ds, sub, tab, r, hl, o⟩ := hsp
  have q : Cs (cxOf (L2N.CX Z.P Z.w) Z.P Z.w Z.K Z.mg Z.base N qual scope f cdv A outer s H E) ⟨N, scope, fun _ => true, tw⟩ k ρ er Z.T Z.ce (fun cls d _ H => E cls d H) :=
    { sc := rfl, N := rfl, nd := S.nd, calm := rfl, fn := fun _ _ => rfl, kind := S.kind, room := hr, fns := fns, gcs := gcs, blt := ok.blt, tk := L2N.takes_of rfl rfl rfl rfl, po := passes_of rfl, err := errs,
      told := fun z => by
        obtain ⟨j, c, P, h1, h2, h3, h4, h5, h6, h7⟩ := htw z
        exact ⟨j, h1, h2, told_ok h3 h4 h5 h6 h7⟩ }
  refine ⟨_, s_Ss (S0 := S') (H0 := H) b body q hc, S', ds.map Sl.val ++ List.replicate (N.length - ds.length) .un, [], ⟨⟨?_, List.nodup_nil, (fun _ h => nomatch h), sub, tab⟩, Gr.refl sub, (fun _ h => nomatch h)⟩, ?_⟩
  · unfold L2.start
    rw [r.len]
    exact slsR_start _ r
  · unfold runD at o
    generalize semSs ρ b (ds.map Sl.val ++ List.replicate (N.length - ds.length) .un) = fl at o
    cases fl with
    | nx e' => exact fun σ' as' S2 H2 s2 x => o S2 H2 s2.g .non .non
    | rt d => exact fun v S2 H2 g rr => o S2 H2 g v rr
    | err c => exact fun σ' S2 H2 g => o S2 H2 g
    | bk _ => exact o.elim
    | ct _ => exact o.elim
    | stuck => exact o.elim
theorem def_has {Z : Wd} (ok : Z.Ok) {tw : Bool} {x qual : Str} {params : Arguments} {body : List Stmt} {scope : Scope} {f : Addr} {fd : FuncData} (F : FunD Z.K x qual params body scope [] [] f fd) {N ps : List Str} {k : Nat} {ρ : Rho} {er : List ErrC} {b : Sts}
    (S : FnScope N ps scope) (hc : chkSs ⟨N, scope, fun _ => true, tw⟩ ρ er b body = true) (fns : ∀ p ∈ ρ.fn, Z.Has k p) (gcs : ∀ p ∈ ρ.gc, Z.Gc p) (errs : ∀ r ∈ er, Z.Err r) (hg : Z.mg x = some (.ref f)) (hb : Binds Z.K fd ps []) (htw : tw = true → Z.Tw k ρ qual fd := by exact fun z => Bool.noConfusion z) : Z.Has (k + 1) ⟨x, ps.length, runD ρ b N.length⟩ :=
  ⟨f, fd, ps, hg, F.kp, hb, def_ok ok F S hc fns gcs errs htw⟩
theorem mem_c {α : Type} {P : α → Prop} {a : α} {l : List α} (h : P a) (t : ∀ p ∈ l, P p) : ∀ p ∈ a :: l, P p := List.forall_mem_cons.mpr ⟨h, t⟩
theorem mem_n {α : Type} {P : α → Prop} : ∀ p ∈ ([] : List α), P p := fun _ h => nomatch h
/-- no list in the written part -/
def noLst (K : PySem.W.Frag) : Bool := K.all fun p => match p.2.cls with
  | .type n => n != "list"
  | _ => true
theorem mem_look {α : Type} : ∀ {l : List (Addr × α)} {n : Addr} {c : α}, l.lookup n = some c → (n, c) ∈ l
  | [], _, _, h => by cases h
  | (m, d) :: r, n, c, h => by
    rw [List.lookup_cons] at h
    split at h
    · rename_i e
      have e := eq_of_beq e
      cases h
      subst e
      exact List.mem_cons_self ..
    · exact List.mem_cons_of_mem _ (mem_look h)
theorem noLst_ok {K : PySem.W.Frag} (h : noLst K = true) {a : Addr} {o : Obj} (q : K.lookup a = some o) : o.cls ≠ .type "list" := by
  intro e
  have hm : (a, o) ∈ K := mem_look q
  have := List.all_eq_true.mp h _ hm
  rw [e] at this
  cases this
theorem gc_tup {Z : Wd} {h : Heap} (X : Z.K.In h) (G : h.Ns mainGlobals Z.mg) {x : Str} {vs : List He.Dv} {ds : List Rw.D} (g : (He.Fa.glo x).ok Z.K = true) (t : He.tupB Z.K x vs = true) (r : ∀ S, RpAll Z.K S (vs.map (He.Dv.v Z.K)) ds) : Z.Gc (x, .tuple ds) :=
  ⟨.ref (He.ga Z.K x), .ref (He.ga Z.K x), He.glo_ok X G g, rfl, fun S => .tup (He.tupB_ok t S) (r S)⟩
theorem gc_int {Z : Wd} {h : Heap} (X : Z.K.In h) (G : h.Ns mainGlobals Z.mg) {x : Str} {i : Int} (g : (He.Fa.int x i).ok Z.K = true) : Z.Gc (x, .int i) := by
  obtain ⟨t, e⟩ := He.int_ok X G g
  exact ⟨.int i, _, e, ⟨t, rfl⟩, fun S => .int i⟩
theorem gc_err {Z : Wd} {h : Heap} (X : Z.K.In h) (G : h.Ns mainGlobals Z.mg) {r : ErrC} (hce : Z.ce r = .ref (He.ga Z.K (errName r))) (g : (He.Fa.glo (errName r)).ok Z.K = true) (e : (He.Fa.exc (errName r)).ok Z.K = true) : Z.Err r := by
  obtain ⟨h1, h2, h3, h4⟩ := He.exc_ok e
  exact ⟨_, He.glo_ok X G g, hce, h1, h2, fun _ _ k => ⟨PySem.W.looks_subIn k h3, PySem.W.looks_typeIn k h4⟩⟩
/-! ## told's facts, off the written part -/
def twK1 (K : PySem.W.Frag) (x : Str) : Bool :=
  let D := He.ga K x
  decide (PySem.W.findIn K (.ref D) "__getattribute__" = some (some (.builtin "BaseException.__getattribute__"))) && (decide (PySem.W.findIn K (.ref D) "__getattr__" = some none) && (decide (PySem.W.subIn K (.ref D) (.type "BaseException") = some true) && (PySem.W.hasDictIn K D &&
  (decide (PySem.W.findIn K (.ref D) "__class__" = some (some (.builtin "object.__class__"))) && (decide (PySem.W.specialIn K (.builtin "object.__class__") "__get__" = some (some (.builtin "getset_descriptor.__get__"))) && (decide (PySem.W.takesIn K (.builtin "object.__class__") = some true) && (decide (PySem.W.mroIn K D (.type "object") = some true) &&
  (decide (PySem.W.kitOne K (.ref D) (.type "ValueError") = some true) && ((wNames.all fun n => decide (PySem.W.kitOne K (.ref D) (.ref (He.ga K n)) = some (decide (n = x)))) && decide (PySem.W.exmOne K (.ref D) (.ref (He.ga K "RimError")) = some true))))))))))
def twK (K : PySem.W.Frag) : Bool := wNames.all (twK1 K)
theorem twF_of {Z : Wd} (hce : ∀ r, Z.ce r = .ref (He.ga Z.K (errName r))) (h : twK Z.K = true) (hg : ∀ n ∈ wNames, Z.mg n = some (.ref (He.ga Z.K n))) (hr : Z.mg "RimError" = some (.ref (He.ga Z.K "RimError"))) (m1 : Z.mg "isinstance" = none) (m2 : Z.mg "sum" = none) (m3 : Z.mg "int" = none) (m4 : Z.mg "ValueError" = none)
    {f1 f2 : Addr} {fd1 fd2 : FuncData} {p1 p2 : Arguments} {b1 b2 : List Stmt} {s1 s2 : Scope} (g1 : Z.mg "_law_told" = some (.ref f1)) (F1 : FunD Z.K "_law_told" "_law_told" p1 b1 s1 [] [] f1 fd1) (B1 : Binds Z.K fd1 ["_law_deed"] []) (S1 : FnScope ["_law_deed", "_law_e"] ["_law_deed"] s1) (c1 : toldB s1 b1 = true)
    (g2 : Z.mg "_law_word" = some (.ref f2)) (F2 : FunD Z.K "_law_word" "_law_word" p2 b2 s2 [] [] f2 fd2) (B2 : Binds Z.K fd2 ["_law_e"] []) (S2 : FnScope ["_law_e", "_law_flags"] ["_law_e"] s2) (c2 : wordB s2 b2 = true) : TwF Z.K Z.mg Z.ce := by
  have key : ∀ c x, wordOf c = some x → errName c = x ∧ twK1 Z.K x = true := fun c x hx => by
    have e : errName c = x := by cases c <;> simp only [wordOf, Option.some.injEq] at hx <;> first | exact hx | cases hx
    exact ⟨e, List.all_eq_true.mp h x (word_mem hx)⟩
  refine { told := ⟨f1, fd1, p1, b1, s1, g1, F1, B1, S1, c1⟩, word := ⟨f2, fd2, p2, b2, s2, g2, F2, B2, S2, c2⟩, rim := ⟨_, hr, fun c x hx => ?_⟩, cls := fun c x hx => ?_, mi := m1, ms := m2, mt := m3, mv := m4 }
  · obtain ⟨e, k⟩ := key c x hx
    unfold twK1 at k
    simp only [Bool.and_eq_true, decide_eq_true_eq] at k
    rw [hce, e]
    exact k.2.2.2.2.2.2.2.2.2.2
  · obtain ⟨e, k⟩ := key c x hx
    unfold twK1 at k
    simp only [Bool.and_eq_true, decide_eq_true_eq] at k
    obtain ⟨k1, k2, k3, k4, k5, k6, k7, k8, k9, k10, _⟩ := k
    refine ⟨_, by rw [hce, e], ⟨k1, k2, k3, k4, k5, k6, k7, k8⟩, k9, fun n hn => ⟨_, hg n hn, ?_⟩⟩
    simpa using List.all_eq_true.mp k10 n hn
/-- the script -/
theorem sp_law {K : PySem.W.Frag} {T : Tbs} {ce : ErV} {F : Fn} {H : Hp} {a : Addr} {ns : List Int} (hk : noLst K = true) (t : TabsI T H) (h : SqL K H a (ns.map V.int)) (hF : F [.list (ns.map .int)] = .ok (.bool true)) :
    spM K T ce 1 F [.ref a] H (fun v _ => v = .bl true) fun _ _ _ => False := by
  have ht : Rd H a (.lst (ns.map V.int)) := by
    rcases h with h | ⟨o, its, n, h1, h2, _⟩
    · exact h
    · exact absurd h2 (noLst_ok hk h1)
  refine ⟨fun b => if b = a then H a else none, [.list (ns.map .int)], fun b o e => ?_, t, ?_, rfl, ?_⟩
  · dsimp only at e
    by_cases z : b = a
    · rw [if_pos z] at e
      rw [z]
      refine ⟨e, fun ps w => ?_⟩
      rw [w] at e
      rcases ht with q | ⟨o, q⟩ <;> (rw [q] at e; cases e)
    · rw [if_neg z] at e; cases e
  · refine .cons (.lst (xs := ns.map V.int) ?_ ?_) .nil
    · rcases ht with q | ⟨o, q⟩
      · exact .inl (by simpa using q)
      · exact .inr ⟨o, by simpa using q⟩
    · clear h ht hF
      induction ns with
      | nil => exact .nil
      | cons i r ih => exact .cons (.int i) ih
  · rw [hF]
    intro S' H' _ v r
    cases r
    rfl
theorem tw_code {K : PySem.W.Frag} {x qual : Str} {params : Arguments} {body : List Stmt} {scope : Scope} {p : He.Defn} {fd : FuncData} (F : FunD K x qual params body scope [] [] (He.fAd K p) fd) : fd.code = .ref (He.cT K p).1 := by
  obtain ⟨v1, v2, v3, v4, v5, v6, v7, cdv, v9, v10, rfl, lk, hcd, _, _⟩ := F.ex
  obtain ⟨c, rfl⟩ := He.codeIn_ref hcd
  show Value.ref c = .ref (He.codeOf K p)
  rw [He.codeOf_eq lk rfl]
section
variable {fa : List He.Fa} {fn : List He.DefD} {tf : List He.Defn} {ex : PySem.W.Frag → Bool} {w : World} {h : Heap} {K : PySem.W.Frag}
theorem tab_e (c : He.SaysX fa fn [] tf ex w h K) : ∀ p ∈ tf.map (He.cT K), h.get? p.2 = some { cls := .none, data := .fields #[] } := fun p hp => by
  obtain ⟨q, hq, rfl⟩ := List.mem_map.mp hp
  exact c.empty q hq
theorem tab_o (c : He.SaysX fa fn [] tf ex w h K) : ∀ p ∈ tf.map (He.cT K), K.lookup p.2 = none := fun p hp => by
  obtain ⟨q, hq, rfl⟩ := List.mem_map.mp hp
  exact c.out q hq
theorem tab_c (X : K.In h) (c : He.SaysX fa fn [] tf ex w h K) : ∀ p ∈ tf.map (He.cT K), PySem.W.CodeHd h p.1 p.2 := fun p hp => by
  obtain ⟨q, hq, rfl⟩ := List.mem_map.mp hp
  exact PySem.W.codeHd_of_K X (c.hd q hq)
theorem tabs_of {T : Tbs} {H : Hp} (hT : ∀ p ∈ T, ∃ q ∈ tf, p.1 = (He.cT K q).2) (hH : ∀ p ∈ tf.map (He.cT K), H p.2 = some (.tbl #[])) : LamX.Tabs T H := fun p hp => by
  obtain ⟨q, hq, e⟩ := hT p hp
  rw [e]
  exact LamX.TabS.nil (hH _ (List.mem_map.mpr ⟨q, hq, rfl⟩))
end
/-- a def keeps a promise that says less -/
theorem Wd.Has.imp {Z : Wd} {k n : Nat} {x : Str} {F G : Fn} (h : Z.Has k ⟨x, n, F⟩) (i : ∀ ds, F ds = G ds ∨ G ds = .stuck) : Z.Has k ⟨x, n, G⟩ := by
  obtain ⟨f, fd, ps, h1, h2, h3, h4⟩ := h
  refine ⟨f, fd, ps, h1, h2, h3, h4.imp fun vs H Q E ⟨S, ds, a, b, c, d, o⟩ => ⟨S, ds, a, b, c, d, ?_⟩⟩
  rcases i ds with e | e
  · show okM _ _ (F ds) _ _ _
    rw [e]; exact o
  · rw [show (FnE.mk x n G).F ds = .stuck from e] at o; exact o.elim
end Rw
namespace Rw
open PySem
/-! ## the meaning, step by step -/
section
variable {α β : Type} {ρ : Rho} {e : Fr}
@[simp] theorem bind_ok (a : α) (f : α → M β) : (M.ok a).bind f = f a := rfl
@[simp] theorem bind_err (c : ErrC) (f : α → M β) : (M.err c : M α).bind f = .err c := rfl
@[simp] theorem bind_stuck (f : α → M β) : (M.stuck : M α).bind f = .stuck := rfl
@[simp] theorem okIf_t (a : α) : okIf true a = .ok a := rfl
@[simp] theorem quiet_ok (a : α) : (M.ok a).quiet = .ok a := rfl
@[simp] theorem slotD_v (d : D) : slotD (some (.val d)) = .ok d := rfl
@[simp] theorem gcD_s (p : Str × D) : gcD (some p) = .ok p.2 := rfl
@[simp] theorem fnD_c (p : FnE) (l : List FnE) (g : List (Str × D)) (ds : List D) : fnD ⟨p :: l, g⟩ 0 ds = p.F ds := rfl
@[simp] theorem fnD_s (p : FnE) (l : List FnE) (g : List (Str × D)) (k : Nat) (ds : List D) : fnD ⟨p :: l, g⟩ (k + 1) ds = fnD ⟨l, g⟩ k ds := rfl
@[simp] theorem semE_var (i : Nat) : semE ρ (.var i) e = slotD e[i]? := by simp only [semE]
@[simp] theorem semE_int (n : Int) : semE ρ (.int n) e = .ok (.int n) := by simp only [semE]
@[simp] theorem semE_none : semE ρ .none e = .ok .none := by simp only [semE]
@[simp] theorem semE_bl (b : Bool) : semE ρ (.bl b) e = .ok (.bool b) := by simp only [semE]
@[simp] theorem semE_str (s : Str) : semE ρ (.str s) e = .ok (.str s) := by simp only [semE]
@[simp] theorem semE_neg (a : Ex) : semE ρ (.neg a) e = (semE ρ a e).bind negD := by simp only [semE]
@[simp] theorem semE_glob (j : Nat) : semE ρ (.glob j) e = gcD ρ.gc[j]? := by simp only [semE]
@[simp] theorem semE_tup (es : Exs) : semE ρ (.tup es) e = (semEs ρ es e).bind fun ds => okIf (decide (ds.length ≤ big)) (.tuple ds) := by simp only [semE]
@[simp] theorem semE_lst (es : Exs) : semE ρ (.lst es) e = (semEs ρ es e).bind fun ds => okIf (decide (ds.length ≤ big)) (.list ds) := by simp only [semE]
@[simp] theorem semE_bin (op : BOp) (a b : Ex) : semE ρ (.bin op a b) e = (semE ρ a e).bind fun x => (semE ρ b e).bind fun y => binD op x y := by simp only [semE]
@[simp] theorem semE_cmp (op : COp) (a b : Ex) : semE ρ (.cmp op a b) e = (semE ρ a e).bind fun x => (semE ρ b e).bind fun y => (cmpD op x y).bind fun k => .ok (.bool k) := by simp only [semE]
@[simp] theorem semE_chain (op op' : COp) (a b c : Ex) : semE ρ (.chain op op' a b c) e = (semE ρ a e).bind fun x => (semE ρ b e).bind fun y => (cmpD op x y).bind fun k =>
      if k then (semE ρ c e).bind fun z => (cmpD op' y z).bind fun k => .ok (.bool k) else .ok (.bool false) := by simp only [semE]
@[simp] theorem semE_isN (a : Ex) : semE ρ (.isN a) e = (semE ρ a e).bind fun x => .ok (.bool (isNoneD x)) := by simp only [semE]
@[simp] theorem semE_isNN (a : Ex) : semE ρ (.isNN a) e = (semE ρ a e).bind fun x => .ok (.bool (!isNoneD x)) := by simp only [semE]
@[simp] theorem semE_and (es : Exs) : semE ρ (.andE es) e = semAnd ρ es e := by simp only [semE]
@[simp] theorem semE_or (es : Exs) : semE ρ (.orE es) e = semOr ρ es e := by simp only [semE]
@[simp] theorem semE_not (a : Ex) : semE ρ (.notE a) e = (semE ρ a e).bind fun x => (boolD x).bind fun k => .ok (.bool (!k)) := by simp only [semE]
@[simp] theorem semE_ite (t a b : Ex) : semE ρ (.ite t a b) e = (semT ρ t e).bind fun k => if k then semE ρ a e else semE ρ b e := by simp only [semE]
@[simp] theorem semE_idx (a i : Ex) : semE ρ (.idx a i) e = (semE ρ a e).bind fun x => (semE ρ i e).bind fun y => idxD x y := by simp only [semE]
@[simp] theorem semE_slL (a lo : Ex) : semE ρ (.slL a lo) e = (semE ρ a e).bind fun x => (semE ρ lo e).bind fun y => (intM y).bind fun i => slD x (some i) none := by simp only [semE]
@[simp] theorem semE_slU (a hi : Ex) : semE ρ (.slU a hi) e = (semE ρ a e).bind fun x => (semE ρ hi e).bind fun y => (intM y).bind fun i => slD x none (some i) := by simp only [semE]
@[simp] theorem semE_slB (a lo hi : Ex) : semE ρ (.slB a lo hi) e = (semE ρ a e).bind fun x => (semE ρ lo e).bind fun y => (intM y).bind fun i => (semE ρ hi e).bind fun z => (intM z).bind fun j => slD x (some i) (some j) := by simp only [semE]
@[simp] theorem semE_slR (a : Ex) : semE ρ (.slR a) e = (semE ρ a e).bind revD := by simp only [semE]
@[simp] theorem semE_call (g : Nat) (es : Exs) : semE ρ (.call g es) e = (semEs ρ es e).bind fun ds => fnD ρ g ds := by simp only [semE]
@[simp] theorem semE_blt (b : Blt) (es : Exs) : semE ρ (.blt b es) e = (semEs ρ es e).bind fun ds => bltD b ds := by simp only [semE]
@[simp] theorem semE_isI (t : Ty) (a : Ex) : semE ρ (.isI t a) e = (semE ρ a e).bind fun x => .ok (.bool (isIb t x)) := by simp only [semE]
@[simp] theorem semE_index (a b : Ex) : semE ρ (.index a b) e = (semE ρ a e).bind fun x => (itL x).bind fun ds => (semE ρ b e).bind fun y => indexD ds y := by simp only [semE]
@[simp] theorem isI_bb (b : Bool) : isIb .bool (.bool b) = true := rfl
@[simp] theorem isI_ll (l : List D) : isIb .list (.list l) = true := rfl
@[simp] theorem isI_tt (l : List D) : isIb .tuple (.tuple l) = true := rfl
@[simp] theorem semE_told (b : Ex) : semE ρ (.told b) e = toldM (semE ρ b e) := by simp only [semE]
@[simp] theorem told_ok' (d : D) : toldM (.ok d) = .ok d := rfl
@[simp] theorem told_br : toldM (.err .badReach) = .ok (.str "BadReach") := rfl
@[simp] theorem told_nr : toldM (.err .noRoom) = .ok (.str "NoRoom") := rfl
@[simp] theorem told_nw : toldM (.err .noWall) = .ok (.str "NoWall") := rfl
@[simp] theorem told_tm : toldM (.err .tooMany) = .ok (.str "TooMany") := rfl
@[simp] theorem semE_comp (own : List (Str × Nat)) (tg : Tg) (it : It) (cs : Exs) (elt : Ex) : semE ρ (.comp own tg it cs elt) e = (semIt ρ it e).bind (compV (compF tg (own.map (·.2)) (semCs ρ cs) (semE ρ elt) e)) := by simp only [semE]
@[simp] theorem semT_not (a : Ex) : semT ρ (.notE a) e = (semT ρ a e).bind fun k => .ok (!k) := by simp only [semT]
@[simp] theorem semT_and (es : Exs) : semT ρ (.andE es) e = semTAnd ρ es e := by simp only [semT]
@[simp] theorem semT_or (es : Exs) : semT ρ (.orE es) e = semTOr ρ es e := by simp only [semT]
@[simp] theorem semT_cmp (op : COp) (a b : Ex) : semT ρ (.cmp op a b) e = (semE ρ a e).bind fun x => (semE ρ b e).bind fun y => cmpD op x y := by simp only [semT]
@[simp] theorem semT_chain (op op' : COp) (a b c : Ex) : semT ρ (.chain op op' a b c) e = (semE ρ a e).bind fun x => (semE ρ b e).bind fun y => (cmpD op x y).bind fun k =>
      if k then (semE ρ c e).bind fun z => cmpD op' y z else .ok false := by simp only [semT]
@[simp] theorem semT_isN (a : Ex) : semT ρ (.isN a) e = (semE ρ a e).bind fun x => .ok (isNoneD x) := by simp only [semT]
@[simp] theorem semT_isNN (a : Ex) : semT ρ (.isNN a) e = (semE ρ a e).bind fun x => .ok (!isNoneD x) := by simp only [semT]
@[simp] theorem semT_var (i : Nat) : semT ρ (.var i) e = (slotD e[i]?).bind boolD := by simp only [semT]
@[simp] theorem semT_bl (b : Bool) : semT ρ (.bl b) e = .ok b := by simp only [semT]
@[simp] theorem semT_idx (a i : Ex) : semT ρ (.idx a i) e = ((semE ρ a e).bind fun x => (semE ρ i e).bind fun y => idxD x y).bind boolD := by simp only [semT]
@[simp] theorem semT_call (g : Nat) (es : Exs) : semT ρ (.call g es) e = ((semEs ρ es e).bind fun ds => fnD ρ g ds).bind boolD := by simp only [semT]
@[simp] theorem semT_blt (b : Blt) (es : Exs) : semT ρ (.blt b es) e = ((semEs ρ es e).bind fun ds => bltD b ds).bind boolD := by simp only [semT]
@[simp] theorem semT_isI (t : Ty) (a : Ex) : semT ρ (.isI t a) e = ((semE ρ a e).bind fun x => .ok (.bool (isIb t x))).bind boolD := by simp only [semT]
@[simp] theorem semAnd_1 (a : Ex) : semAnd ρ (.cons a .nil) e = semE ρ a e := by simp only [semAnd]
@[simp] theorem semAnd_2 (a b : Ex) (r : Exs) : semAnd ρ (.cons a (.cons b r)) e = (semE ρ a e).bind fun x => (boolD x).bind fun k => if k then semAnd ρ (.cons b r) e else .ok (.bool false) := by simp only [semAnd]
@[simp] theorem semOr_1 (a : Ex) : semOr ρ (.cons a .nil) e = semE ρ a e := by simp only [semOr]
@[simp] theorem semOr_2 (a b : Ex) (r : Exs) : semOr ρ (.cons a (.cons b r)) e = (semE ρ a e).bind fun x => (boolD x).bind fun k => if k then .ok (.bool true) else semOr ρ (.cons b r) e := by simp only [semOr]
@[simp] theorem semTAnd_1 (a : Ex) : semTAnd ρ (.cons a .nil) e = semT ρ a e := by simp only [semTAnd]
@[simp] theorem semTAnd_2 (a b : Ex) (r : Exs) : semTAnd ρ (.cons a (.cons b r)) e = (semT ρ a e).bind fun k => if k then semTAnd ρ (.cons b r) e else .ok false := by simp only [semTAnd]
@[simp] theorem semTOr_1 (a : Ex) : semTOr ρ (.cons a .nil) e = semT ρ a e := by simp only [semTOr]
@[simp] theorem semTOr_2 (a b : Ex) (r : Exs) : semTOr ρ (.cons a (.cons b r)) e = (semT ρ a e).bind fun k => if k then .ok true else semTOr ρ (.cons b r) e := by simp only [semTOr]
@[simp] theorem semEs_n : semEs ρ .nil e = .ok [] := by simp only [semEs]
@[simp] theorem semEs_c (a : Ex) (r : Exs) : semEs ρ (.cons a r) e = (semE ρ a e).bind fun x => (semEs ρ r e).bind fun xs => .ok (x :: xs) := by simp only [semEs]
@[simp] theorem semCs_n : semCs ρ .nil e = .ok true := by simp only [semCs]
@[simp] theorem semCs_1 (a : Ex) : semCs ρ (.cons a .nil) e = semT ρ a e := by simp only [semCs]
@[simp] theorem semIt_lst (a : Ex) : semIt ρ (.lst a) e = (semE ρ a e).bind itL := by simp only [semIt]
@[simp] theorem semIt_tup (a : Ex) : semIt ρ (.tup a) e = (semE ρ a e).bind itT := by simp only [semIt]
@[simp] theorem semIt_rng1 (a : Ex) : semIt ρ (.rng1 a) e = (semE ρ a e).bind itR1 := by simp only [semIt]
@[simp] theorem semIt_rng2 (a b : Ex) : semIt ρ (.rng2 a b) e = (semE ρ a e).bind fun x => (semE ρ b e).bind fun y => itR2 x y := by simp only [semIt]
@[simp] theorem semIt_enum (a : Ex) : semIt ρ (.enum a) e = (semE ρ a e).bind itE := by simp only [semIt]
@[simp] theorem semIt_zip (a b : Ex) : semIt ρ (.zip a b) e = (semE ρ a e).bind fun x => (semE ρ b e).bind fun y => itZ x y := by simp only [semIt]
@[simp] theorem semIt_rev (a : Ex) : semIt ρ (.rev a) e = (semE ρ a e).bind itV := by simp only [semIt]
@[simp] theorem itL_l (l : List D) : itL (.list l) = .ok l := rfl
@[simp] theorem itT_t (l : List D) : itT (.tuple l) = .ok l := rfl
@[simp] theorem itE_l (l : List D) : itE (.list l) = .ok (l.zipIdx.map fun p => .tuple [.int p.2, p.1]) := rfl
@[simp] theorem itZ_l (l m : List D) : itZ (.list l) (.list m) = .ok (List.zipWith (fun p q => .tuple [p, q]) l m) := rfl
@[simp] theorem itV_l (l : List D) : itV (.list l) = .ok l.reverse := rfl
@[simp] theorem add_i (i j : Int) : binD .add (.int i) (.int j) = .ok (.int (i + j)) := rfl
@[simp] theorem add_l (a b : List D) : binD .add (.list a) (.list b) = okIf (decide (a.length + b.length ≤ big)) (.list (a ++ b)) := rfl
@[simp] theorem add_t (a b : List D) : binD .add (.tuple a) (.tuple b) = okIf (decide (a.length + b.length ≤ big)) (.tuple (a ++ b)) := rfl
@[simp] theorem sub_i (i j : Int) : binD .sub (.int i) (.int j) = .ok (.int (i - j)) := rfl
@[simp] theorem mul_i (i j : Int) : binD .mul (.int i) (.int j) = okIf (mulOk i j) (.int (i * j)) := rfl
@[simp] theorem fdiv_i (i j : Int) : binD .fdiv (.int i) (.int j) = okIf (divOk j) (.int (i / j)) := rfl
@[simp] theorem mod_i (i j : Int) : binD .mod (.int i) (.int j) = okIf (decide (0 < j)) (.int (i % j)) := rfl
@[simp] theorem shl_i (i j : Int) : binD .shl (.int i) (.int j) = okIf (powOk i j) (.int (i * 2 ^ j.toNat)) := rfl
@[simp] theorem pow_i (i j : Int) : binD .pow (.int i) (.int j) = okIf (powOk i j) (.int (i ^ j.toNat)) := rfl
@[simp] theorem neg_i (i : Int) : negD (.int i) = .ok (.int (-i)) := rfl
@[simp] theorem lt_i (i j : Int) : cmpD .lt (.int i) (.int j) = .ok (decide (i < j)) := rfl
@[simp] theorem le_i (i j : Int) : cmpD .le (.int i) (.int j) = .ok (decide (i ≤ j)) := rfl
@[simp] theorem gt_i (i j : Int) : cmpD .gt (.int i) (.int j) = .ok (decide (j < i)) := rfl
@[simp] theorem ge_i (i j : Int) : cmpD .ge (.int i) (.int j) = .ok (decide (j ≤ i)) := rfl
@[simp] theorem eq_d (a b : D) : cmpD .eq a b = eqD a b := rfl
@[simp] theorem ne_d (a b : D) : cmpD .ne a b = (eqD a b).bind fun k => .ok (!k) := rfl
@[simp] theorem in_d (a b : D) : cmpD .in_ a b = inD a b := rfl
@[simp] theorem nin_d (a b : D) : cmpD .nin a b = (inD a b).bind fun k => .ok (!k) := rfl
@[simp] theorem boolD_b (b : Bool) : boolD (.bool b) = .ok b := rfl
@[simp] theorem intM_i (i : Int) : intM (.int i) = .ok i := rfl
@[simp] theorem revD_l (l : List D) : revD (.list l) = .ok (.list l.reverse) := rfl
theorem at_nat {l : List D} {i : Int} {d : D} (h0 : 0 ≤ i) (h : l[i.toNat]? = some d) : L2.atI l i = some d := by
  have h1 := (List.getElem?_eq_some_iff.mp h).1
  unfold L2.atI L2.ixN
  rw [if_pos h0, if_pos (by omega)]
  exact h
theorem idx_t {l : List D} {i : Int} {d : D} (h0 : 0 ≤ i) (h : l[i.toNat]? = some d) : idxD (.tuple l) (.int i) = .ok d := by
  unfold idxD
  dsimp only
  rw [at_nat h0 h]
theorem idx_l {l : List D} {i : Int} {d : D} (h0 : 0 ≤ i) (h : l[i.toNat]? = some d) : idxD (.list l) (.int i) = .ok d := by
  unfold idxD
  dsimp only
  rw [at_nat h0 h]
@[simp] theorem idx_t0 (a : D) (l : List D) : idxD (.tuple (a :: l)) (.int 0) = .ok a := idx_t (by decide) rfl
@[simp] theorem idx_t1 (a b : D) (l : List D) : idxD (.tuple (a :: b :: l)) (.int 1) = .ok b := idx_t (by decide) rfl
@[simp] theorem idx_t2 (a b c : D) (l : List D) : idxD (.tuple (a :: b :: c :: l)) (.int 2) = .ok c := idx_t (by decide) rfl
@[simp] theorem idx_t3 (a b c d : D) (l : List D) : idxD (.tuple (a :: b :: c :: d :: l)) (.int 3) = .ok d := idx_t (by decide) rfl
@[simp] theorem idx_l0 (a : D) (l : List D) : idxD (.list (a :: l)) (.int 0) = .ok a := idx_l (by decide) rfl
@[simp] theorem idx_l1 (a b : D) (l : List D) : idxD (.list (a :: b :: l)) (.int 1) = .ok b := idx_l (by decide) rfl
@[simp] theorem semSs_n : semSs ρ .nil e = .nx e := by simp only [semSs]
@[simp] theorem semSs_f (i : Nat) (r : Sts) : semSs ρ (.frz i r) e = ownAt e i fun l => semSs ρ r (e.set i (.val (.list l))) := by simp only [semSs]
@[simp] theorem semSs_c (s : St) (r : Sts) : semSs ρ (.cons s r) e = seqF (semS ρ s e) (semSs ρ r) := by simp only [semSs]
@[simp] theorem seq_nx (f : Fr → Fl) : seqF (.nx e) f = f e := rfl
@[simp] theorem seq_rt (d : D) (f : Fr → Fl) : seqF (.rt d) f = .rt d := rfl
@[simp] theorem seq_err (c : ErrC) (f : Fr → Fl) : seqF (.err c) f = .err c := rfl
@[simp] theorem seq_ct (f : Fr → Fl) : seqF (.ct e) f = .ct e := rfl
@[simp] theorem seq_stuck (f : Fr → Fl) : seqF .stuck f = .stuck := rfl
@[simp] theorem turn_nx (f : Fr → Fl) : turnF (.nx e) f = f e := rfl
@[simp] theorem turn_ct (f : Fr → Fl) : turnF (.ct e) f = f e := rfl
@[simp] theorem turn_rt (d : D) (f : Fr → Fl) : turnF (.rt d) f = .rt d := rfl
@[simp] theorem turn_err (c : ErrC) (f : Fr → Fl) : turnF (.err c) f = .err c := rfl
@[simp] theorem toFl_ok (d : D) (f : D → Fl) : toFl (.ok d) f = f d := rfl
@[simp] theorem toFl_err (c : ErrC) (f : D → Fl) : toFl (.err c) f = .err c := rfl
@[simp] theorem brF_ok (b : Bool) (f : Bool → Fl) : brF (.ok b) f = f b := rfl
@[simp] theorem brF_err (c : ErrC) (f : Bool → Fl) : brF (.err c) f = .err c := rfl
@[simp] theorem tgF_s (f : Fr → Fl) : tgF (some e) f = f e := rfl
@[simp] theorem itF_ok (l : List D) (f : List D → Fl) : itF (.ok l) f = f l := rfl
@[simp] theorem listD_l (l : List D) (f : List D → Fl) : listD (.list l) f = f l := rfl
@[simp] theorem evS_f (a : Ex) : evS ρ false a e = semE ρ a e := rfl
@[simp] theorem evT_f (a : Ex) : evT ρ false a e = semT ρ a e := rfl
theorem evS_t {a : Ex} {d : D} (h : semE ρ a (lendF e) = .ok d) (hf : flatD d = true) : evS ρ true a e = .ok d := by
  unfold evS
  rw [if_pos rfl, h]
  simp [hf]
@[simp] theorem evT_t (a : Ex) : evT ρ true a e = semT ρ a (lendF e) := rfl
@[simp] theorem semS_cont : semS ρ .cont e = .ct e := by simp only [semS]
@[simp] theorem semS_asg (l : Bool) (t : Tg) (a : Ex) : semS ρ (.asg l t a) e = toFl (evS ρ l a e) fun d => tgF (semTg t d e) .nx := by simp only [semS]
@[simp] theorem semS_par (i j : Nat) (a b : Ex) : semS ρ (.par i j a b) e = toFl (semE ρ a e) fun x => toFl (semE ρ b e) fun y => if i < e.length ∧ j < e.length then .nx ((e.set i (.val x)).set j (.val y)) else .stuck := by simp only [semS]
@[simp] theorem semS_ownL (i : Nat) (a : Ex) : semS ρ (.ownL i a) e = toFl (semE ρ a e) fun d => listD d fun l => if i < e.length then .nx (e.set i (.own l)) else .stuck := by simp only [semS]
@[simp] theorem semS_app (l : Bool) (i : Nat) (a : Ex) : semS ρ (.app l i a) e = ownAt e i fun xs => toFl (evS ρ l a e) fun d => if xs.length < big then .nx (e.set i (.own (xs ++ [d]))) else .stuck := by simp only [semS]
@[simp] theorem semS_ext (i : Nat) (a : Ex) : semS ρ (.ext i a) e = ownAt e i fun l => toFl (semE ρ a e) fun d => listD d fun m => if l.length + m.length ≤ big then .nx (e.set i (.own (l ++ m))) else .stuck := by simp only [semS]
@[simp] theorem semS_pop (i : Nat) : semS ρ (.pop i) e = ownAt e i fun l => if l = [] then .stuck else .nx (e.set i (.own l.dropLast)) := by simp only [semS]
@[simp] theorem semS_expr (a : Ex) : semS ρ (.expr a) e = toFl (semE ρ a e) fun _ => .nx e := by simp only [semS]
@[simp] theorem semS_ret (l : Bool) (a : Ex) : semS ρ (.ret l a) e = toFl (semE ρ a (if l then lendF e else e)) .rt := by simp only [semS]
@[simp] theorem semS_retN : semS ρ .retN e = .rt .none := by simp only [semS]
@[simp] theorem semS_if (l : Bool) (c : Ex) (a b : Sts) : semS ρ (.ifS l c a b) e = brF (evT ρ l c e) fun k => if k then semSs ρ a e else semSs ρ b e := by simp only [semS]
@[simp] theorem semS_whl (l : Bool) (fuel : Fr → Nat) (c : Ex) (b : Sts) : semS ρ (.whl l fuel c b) e = whileN (evT ρ l c) (semSs ρ b) (fuel e) e := by simp only [semS]
@[simp] theorem semS_for (t : Tg) (it : It) (b : Sts) : semS ρ (.forS t it b) e = itF (semIt ρ it e) fun items => forN (fun d e' => tgF (semTg t d e') (semSs ρ b)) items e := by simp only [semS]
@[simp] theorem semS_raise (c : ErrC) (x m : Str) : semS ρ (.raise c x m) e = .err c := by simp only [semS]
@[simp] theorem endFl_nx : endFl (.nx e) = .ok .none := rfl
@[simp] theorem endFl_rt (d : D) : endFl (.rt d) = .ok d := rfl
@[simp] theorem endFl_err (c : ErrC) : endFl (.err c) = .err c := rfl
@[simp] theorem semTg_nm (i : Nat) (d : D) : semTg (.nm i) d e = if i < e.length then some (e.set i (.val d)) else none := by simp only [semTg]
@[simp] theorem semTg_tp (ts : Tgs) (ds : List D) : semTg (.tp ts) (.tuple ds) e = semTgs ts ds e := by simp only [semTg]
@[simp] theorem semTg_ls (ts : Tgs) (ds : List D) : semTg (.ls ts) (.list ds) e = semTgs ts ds e := by simp only [semTg]
@[simp] theorem semTgs_n : semTgs .nil [] e = some e := by simp only [semTgs]
@[simp] theorem semTgs_c (t : Tg) (ts : Tgs) (d : D) (ds : List D) : semTgs (.cons t ts) (d :: ds) e = (semTg t d e).bind fun e' => semTgs ts ds e' := by
  rw [semTgs]
  cases semTg t d e <;> rfl
@[simp] theorem for_n (f : D → Fr → Fl) : forN f [] e = .nx e := rfl
@[simp] theorem for_c (f : D → Fr → Fl) (d : D) (ds : List D) : forN f (d :: ds) e = turnF (f d e) (forN f ds) := rfl
end
theorem run_eq {ρ : Rho} {b : Sts} {n : Nat} {ds : List D} {e : Fr} (h : ds.map Sl.val ++ List.replicate (n - ds.length) .un = e) : runD ρ b n ds = endFl (semSs ρ b e) := by
  unfold runD
  rw [h]
end Rw
namespace Rw
open PySem
def fuelI (i : Nat) : Fr → Nat := fun e => match e[i]? with
  | some (.val (.int n)) => n.natAbs + 1
  | _ => 0
def N_law_drawn : List Str := ["_law_cell_here", "_law_k", "_law_more"]
def b_law_drawn : Sts :=
 (.cons (.asg false (.nm 2) (.bin .mod (.bin .add (.bin .mul (.var 0) (.int 6364136223846793005)) (.bin .mul (.bin .add (.var 1) (.int 1)) (.int 1442695040888963407))) (.int 340282366920938463463374607431768211507)))
 (.cons (.asg false (.nm 2) (.bin .mod (.bin .mul (.var 2) (.var 2)) (.int 340282366920938463463374607431768211297)))
 (.cons (.asg false (.nm 2) (.bin .mul (.bin .mul (.bin .add (.bin .mod (.var 2) (.int 18446744073709551557)) (.int 1)) (.bin .add (.bin .fdiv (.var 2) (.int 18446744073709551557)) (.int 1))) (.var 2)))
 (.cons (.ret false (.bin .mod (.var 2) (.int 340282366920938463463374607431768211507)))
 .nil))))
def r_law_drawn : Rho := ⟨[], []⟩
def F_law_drawn : Fn := runD r_law_drawn b_law_drawn 3
def N_law_cell : List Str := ["_law_script", "_law_k"]
def b_law_cell : Sts :=
 (.cons (.ifS false (.cmp .eq (.var 0) (.lst .nil))
 (.cons (.ret false (.bin .mul (.var 1) (.int 7919)))
 .nil)
 .nil)
 (.cons (.ret false (.bin .add (.idx (.var 0) (.bin .mod (.var 1) (.blt .len (.cons (.var 0) .nil)))) (.bin .mul (.bin .fdiv (.var 1) (.blt .len (.cons (.var 0) .nil))) (.int 104729))))
 .nil))
def r_law_cell : Rho := ⟨[], []⟩
def F_law_cell : Fn := runD r_law_cell b_law_cell 2
def N_law_made : List Str := ["_law_top", "_law_under", "_law_one", "_law_other"]
def b_law_made : Sts :=
 (.cons (.par 2 3 (.blt .abs (.cons (.var 0) .nil)) (.var 1))
 (.cons (.whl false (fuelI 3) (.cmp .gt (.var 3) (.int 0))
 (.cons (.par 2 3 (.var 3) (.bin .mod (.var 2) (.var 3)))
 .nil))
 (.cons (.ret false (.tup (.cons (.bin .fdiv (.var 0) (.var 2)) (.cons (.bin .fdiv (.var 1) (.var 2)) .nil))))
 .nil)))
def r_law_made : Rho := ⟨[], []⟩
def F_law_made : Fn := runD r_law_made b_law_made 4
def N_law_point : List Str := ["_law_more", "_law_under"]
def b_law_point : Sts :=
 (.cons (.asg false (.nm 1) (.idx (.lst (.cons (.int 1) (.cons (.int 1) (.cons (.int 1) (.cons (.int 2) (.cons (.int 3) .nil)))))) (.bin .mod (.bin .fdiv (.var 0) (.bin .pow (.int 2) (.int 20))) (.int 5))))
 (.cons (.ret false (.tup (.cons (.call 0 (.cons (.bin .sub (.bin .mod (.var 0) (.int 25)) (.int 12)) (.cons (.var 1) .nil))) (.cons (.call 0 (.cons (.bin .sub (.bin .mod (.bin .fdiv (.var 0) (.int 32)) (.int 25)) (.int 12)) (.cons (.var 1) .nil))) .nil))))
 .nil))
def r_law_point : Rho := ⟨[⟨"_law_made", 2, F_law_made⟩], []⟩
def F_law_point : Fn := runD r_law_point b_law_point 2
def N_law_minus : List Str := ["_law_one", "_law_other"]
def b_law_minus : Sts :=
 (.cons (.ret false (.call 0 (.cons (.bin .sub (.bin .mul (.idx (.var 0) (.int 0)) (.idx (.var 1) (.int 1))) (.bin .mul (.idx (.var 1) (.int 0)) (.idx (.var 0) (.int 1)))) (.cons (.bin .mul (.idx (.var 0) (.int 1)) (.idx (.var 1) (.int 1))) .nil))))
 .nil)
def r_law_minus : Rho := ⟨[⟨"_law_made", 2, F_law_made⟩], []⟩
def F_law_minus : Fn := runD r_law_minus b_law_minus 2
def N_law_plus : List Str := ["_law_one", "_law_other"]
def b_law_plus : Sts :=
 (.cons (.ret false (.call 0 (.cons (.bin .add (.bin .mul (.idx (.var 0) (.int 0)) (.idx (.var 1) (.int 1))) (.bin .mul (.idx (.var 1) (.int 0)) (.idx (.var 0) (.int 1)))) (.cons (.bin .mul (.idx (.var 0) (.int 1)) (.idx (.var 1) (.int 1))) .nil))))
 .nil)
def r_law_plus : Rho := ⟨[⟨"_law_made", 2, F_law_made⟩], []⟩
def F_law_plus : Fn := runD r_law_plus b_law_plus 2
def N_fraction : List Str := ["top", "under", "one", "other"]
def b_fraction : Sts :=
 (.cons (.ifS false (.cmp .lt (.var 1) (.int 0))
 (.cons (.asg false (.nm 0) (.bin .sub (.int 0) (.var 0)))
 (.cons (.asg false (.nm 1) (.bin .sub (.int 0) (.var 1)))
 .nil))
 .nil)
 (.cons (.par 2 3 (.blt .abs (.cons (.var 0) .nil)) (.var 1))
 (.cons (.whl false (fuelI 3) (.cmp .gt (.var 3) (.int 0))
 (.cons (.par 2 3 (.var 3) (.bin .mod (.var 2) (.var 3)))
 .nil))
 (.cons (.ret false (.tup (.cons (.bin .fdiv (.var 0) (.var 2)) (.cons (.bin .fdiv (.var 1) (.var 2)) .nil))))
 .nil))))
def r_fraction : Rho := ⟨[], []⟩
def F_fraction : Fn := runD r_fraction b_fraction 4
def N_minus : List Str := ["one", "other"]
def b_minus : Sts :=
 (.cons (.ret false (.call 0 (.cons (.bin .sub (.bin .mul (.idx (.var 0) (.int 0)) (.idx (.var 1) (.int 1))) (.bin .mul (.idx (.var 1) (.int 0)) (.idx (.var 0) (.int 1)))) (.cons (.bin .mul (.idx (.var 0) (.int 1)) (.idx (.var 1) (.int 1))) .nil))))
 .nil)
def r_minus : Rho := ⟨[⟨"fraction", 2, F_fraction⟩], []⟩
def F_minus : Fn := runD r_minus b_minus 2
def N_times : List Str := ["one", "other"]
def b_times : Sts :=
 (.cons (.ret false (.call 0 (.cons (.bin .mul (.idx (.var 0) (.int 0)) (.idx (.var 1) (.int 0))) (.cons (.bin .mul (.idx (.var 0) (.int 1)) (.idx (.var 1) (.int 1))) .nil))))
 .nil)
def r_times : Rho := ⟨[⟨"fraction", 2, F_fraction⟩], []⟩
def F_times : Fn := runD r_times b_times 2
def N_across : List Str := ["one", "other"]
def b_across : Sts :=
 (.cons (.ret false (.call 0 (.cons (.call 1 (.cons (.idx (.var 0) (.int 0)) (.cons (.idx (.var 1) (.int 1)) .nil))) (.cons (.call 1 (.cons (.idx (.var 0) (.int 1)) (.cons (.idx (.var 1) (.int 0)) .nil))) .nil))))
 .nil)
def r_across : Rho := ⟨[⟨"minus", 2, F_minus⟩, ⟨"times", 2, F_times⟩], []⟩
def F_across : Fn := runD r_across b_across 2
def N_step_from : List Str := ["one", "other"]
def b_step_from : Sts :=
 (.cons (.ret false (.tup (.cons (.call 0 (.cons (.idx (.var 1) (.int 0)) (.cons (.idx (.var 0) (.int 0)) .nil))) (.cons (.call 0 (.cons (.idx (.var 1) (.int 1)) (.cons (.idx (.var 0) (.int 1)) .nil))) .nil))))
 .nil)
def r_step_from : Rho := ⟨[⟨"minus", 2, F_minus⟩], []⟩
def F_step_from : Fn := runD r_step_from b_step_from 2
def N_side_of : List Str := ["one", "other", "third", "found"]
def b_side_of : Sts :=
 (.cons (.asg false (.nm 3) (.idx (.call 0 (.cons (.call 1 (.cons (.var 0) (.cons (.var 1) .nil))) (.cons (.call 1 (.cons (.var 0) (.cons (.var 2) .nil))) .nil))) (.int 0)))
 (.cons (.ret false (.bin .sub (.blt .int (.cons (.cmp .gt (.var 3) (.int 0)) .nil)) (.blt .int (.cons (.cmp .lt (.var 3) (.int 0)) .nil))))
 .nil))
def r_side_of : Rho := ⟨[⟨"across", 2, F_across⟩, ⟨"step_from", 2, F_step_from⟩], []⟩
def F_side_of : Fn := runD r_side_of b_side_of 4
def N_law_times : List Str := ["_law_one", "_law_other"]
def b_law_times : Sts :=
 (.cons (.ret false (.call 0 (.cons (.bin .mul (.idx (.var 0) (.int 0)) (.idx (.var 1) (.int 0))) (.cons (.bin .mul (.idx (.var 0) (.int 1)) (.idx (.var 1) (.int 1))) .nil))))
 .nil)
def r_law_times : Rho := ⟨[⟨"_law_made", 2, F_law_made⟩], []⟩
def F_law_times : Fn := runD r_law_times b_law_times 2
def N_law_across : List Str := ["_law_one", "_law_other"]
def b_law_across : Sts :=
 (.cons (.ret false (.call 0 (.cons (.call 1 (.cons (.idx (.var 0) (.int 0)) (.cons (.idx (.var 1) (.int 1)) .nil))) (.cons (.call 1 (.cons (.idx (.var 0) (.int 1)) (.cons (.idx (.var 1) (.int 0)) .nil))) .nil))))
 .nil)
def r_law_across : Rho := ⟨[⟨"_law_minus", 2, F_law_minus⟩, ⟨"_law_times", 2, F_law_times⟩], []⟩
def F_law_across : Fn := runD r_law_across b_law_across 2
def N_law_gone : List Str := ["_law_one", "_law_other"]
def b_law_gone : Sts :=
 (.cons (.ret false (.tup (.cons (.call 0 (.cons (.idx (.var 1) (.int 0)) (.cons (.idx (.var 0) (.int 0)) .nil))) (.cons (.call 0 (.cons (.idx (.var 1) (.int 1)) (.cons (.idx (.var 0) (.int 1)) .nil))) .nil))))
 .nil)
def r_law_gone : Rho := ⟨[⟨"_law_minus", 2, F_law_minus⟩], []⟩
def F_law_gone : Fn := runD r_law_gone b_law_gone 2
def N_law_sense : List Str := ["_law_one", "_law_other", "_law_third", "_law_found"]
def b_law_sense : Sts :=
 (.cons (.asg false (.nm 3) (.idx (.call 0 (.cons (.call 1 (.cons (.var 0) (.cons (.var 1) .nil))) (.cons (.call 1 (.cons (.var 0) (.cons (.var 2) .nil))) .nil))) (.int 0)))
 (.cons (.ret false (.bin .sub (.blt .int (.cons (.cmp .gt (.var 3) (.int 0)) .nil)) (.blt .int (.cons (.cmp .lt (.var 3) (.int 0)) .nil))))
 .nil))
def r_law_sense : Rho := ⟨[⟨"_law_across", 2, F_law_across⟩, ⟨"_law_gone", 2, F_law_gone⟩], []⟩
def F_law_sense : Fn := runD r_law_sense b_law_sense 4
def N_plus : List Str := ["one", "other"]
def b_plus : Sts :=
 (.cons (.ret false (.call 0 (.cons (.bin .add (.bin .mul (.idx (.var 0) (.int 0)) (.idx (.var 1) (.int 1))) (.bin .mul (.idx (.var 1) (.int 0)) (.idx (.var 0) (.int 1)))) (.cons (.bin .mul (.idx (.var 0) (.int 1)) (.idx (.var 1) (.int 1))) .nil))))
 .nil)
def r_plus : Rho := ⟨[⟨"fraction", 2, F_fraction⟩], []⟩
def F_plus : Fn := runD r_plus b_plus 2
def N_inner : List Str := ["one", "other"]
def b_inner : Sts :=
 (.cons (.ret false (.call 0 (.cons (.call 1 (.cons (.idx (.var 0) (.int 0)) (.cons (.idx (.var 1) (.int 0)) .nil))) (.cons (.call 1 (.cons (.idx (.var 0) (.int 1)) (.cons (.idx (.var 1) (.int 1)) .nil))) .nil))))
 .nil)
def r_inner : Rho := ⟨[⟨"plus", 2, F_plus⟩, ⟨"times", 2, F_times⟩], []⟩
def F_inner : Fn := runD r_inner b_inner 2
def N_square_far : List Str := ["one", "other", "gone"]
def b_square_far : Sts :=
 (.cons (.asg false (.nm 2) (.call 0 (.cons (.var 0) (.cons (.var 1) .nil))))
 (.cons (.ret false (.call 1 (.cons (.var 2) (.cons (.var 2) .nil))))
 .nil))
def r_square_far : Rho := ⟨[⟨"step_from", 2, F_step_from⟩, ⟨"inner", 2, F_inner⟩], []⟩
def F_square_far : Fn := runD r_square_far b_square_far 3
def N_law_inner : List Str := ["_law_one", "_law_other"]
def b_law_inner : Sts :=
 (.cons (.ret false (.call 0 (.cons (.call 1 (.cons (.idx (.var 0) (.int 0)) (.cons (.idx (.var 1) (.int 0)) .nil))) (.cons (.call 1 (.cons (.idx (.var 0) (.int 1)) (.cons (.idx (.var 1) (.int 1)) .nil))) .nil))))
 .nil)
def r_law_inner : Rho := ⟨[⟨"_law_plus", 2, F_law_plus⟩, ⟨"_law_times", 2, F_law_times⟩], []⟩
def F_law_inner : Fn := runD r_law_inner b_law_inner 2
def N_law_square : List Str := ["_law_one", "_law_other"]
def b_law_square : Sts :=
 (.cons (.ret false (.call 0 (.cons (.call 1 (.cons (.var 0) (.cons (.var 1) .nil))) (.cons (.call 1 (.cons (.var 0) (.cons (.var 1) .nil))) .nil))))
 .nil)
def r_law_square : Rho := ⟨[⟨"_law_inner", 2, F_law_inner⟩, ⟨"_law_gone", 2, F_law_gone⟩], []⟩
def F_law_square : Fn := runD r_law_square b_law_square 2
def N_law_one_fence : List Str := ["_law_more", "_law_one", "_law_x", "_law_y"]
def b_law_one_fence : Sts :=
 (.cons (.asg false (.nm 1) (.tup (.cons (.call 0 (.cons (.bin .sub (.bin .mod (.var 0) (.int 21)) (.int 10)) (.cons (.int 1) .nil))) (.cons (.call 0 (.cons (.bin .sub (.bin .mod (.bin .fdiv (.var 0) (.int 32)) (.int 21)) (.int 10)) (.cons (.int 1) .nil))) .nil))))
 (.cons (.ifS false (.cmp .eq (.bin .mod (.bin .fdiv (.var 0) (.int 1024)) (.int 6)) (.int 0))
 (.cons (.ret false (.tup (.cons (.var 1) (.cons (.var 1) .nil))))
 .nil)
 .nil)
 (.cons (.asg false (.nm 2) (.bin .sub (.bin .add (.idx (.idx (.var 1) (.int 0)) (.int 0)) (.bin .mod (.bin .fdiv (.var 0) (.int 8192)) (.int 17))) (.int 8)))
 (.cons (.asg false (.nm 3) (.bin .add (.idx (.idx (.var 1) (.int 1)) (.int 0)) (.idx (.lst (.cons (.int 0) (.cons (.bin .sub (.bin .mod (.bin .fdiv (.var 0) (.bin .pow (.int 2) (.int 18))) (.int 17)) (.int 8)) .nil))) (.blt .int (.cons (.cmp .gt (.bin .mod (.bin .fdiv (.var 0) (.bin .pow (.int 2) (.int 23))) (.int 4)) (.int 0)) .nil)))))
 (.cons (.ret false (.tup (.cons (.var 1) (.cons (.tup (.cons (.call 0 (.cons (.var 2) (.cons (.int 1) .nil))) (.cons (.call 0 (.cons (.var 3) (.cons (.int 1) .nil))) .nil))) .nil))))
 .nil)))))
def r_law_one_fence : Rho := ⟨[⟨"_law_made", 2, F_law_made⟩], []⟩
def F_law_one_fence : Fn := runD r_law_one_fence b_law_one_fence 4
def N_over : List Str := ["one", "other"]
def b_over : Sts :=
 (.cons (.ret false (.call 0 (.cons (.bin .mul (.idx (.var 0) (.int 0)) (.idx (.var 1) (.int 1))) (.cons (.bin .mul (.idx (.var 0) (.int 1)) (.idx (.var 1) (.int 0))) .nil))))
 .nil)
def r_over : Rho := ⟨[⟨"fraction", 2, F_fraction⟩], []⟩
def F_over : Fn := runD r_over b_over 2
def N_is_less : List Str := ["one", "other"]
def b_is_less : Sts :=
 (.cons (.ret false (.cmp .lt (.bin .mul (.idx (.var 0) (.int 0)) (.idx (.var 1) (.int 1))) (.bin .mul (.idx (.var 1) (.int 0)) (.idx (.var 0) (.int 1)))))
 .nil)
def r_is_less : Rho := ⟨[], []⟩
def F_is_less : Fn := runD r_is_less b_is_less 2
def N_point_at : List Str := ["wall", "share", "gone"]
def b_point_at : Sts :=
 (.cons (.asg false (.nm 2) (.call 0 (.cons (.idx (.var 0) (.int 0)) (.cons (.idx (.var 0) (.int 1)) .nil))))
 (.cons (.ret false (.tup (.cons (.call 1 (.cons (.idx (.idx (.var 0) (.int 0)) (.int 0)) (.cons (.call 2 (.cons (.var 1) (.cons (.idx (.var 2) (.int 0)) .nil))) .nil))) (.cons (.call 1 (.cons (.idx (.idx (.var 0) (.int 0)) (.int 1)) (.cons (.call 2 (.cons (.var 1) (.cons (.idx (.var 2) (.int 1)) .nil))) .nil))) .nil))))
 .nil))
def r_point_at : Rho := ⟨[⟨"step_from", 2, F_step_from⟩, ⟨"plus", 2, F_plus⟩, ⟨"times", 2, F_times⟩], []⟩
def F_point_at : Fn := runD r_point_at b_point_at 3
def N_nearest : List Str := ["wall", "point", "gone", "whole", "share"]
def b_nearest : Sts :=
 (.cons (.asg false (.nm 2) (.call 0 (.cons (.idx (.var 0) (.int 0)) (.cons (.idx (.var 0) (.int 1)) .nil))))
 (.cons (.asg false (.nm 3) (.call 1 (.cons (.var 2) (.cons (.var 2) .nil))))
 (.cons (.ifS false (.cmp .eq (.var 3) (.glob 0))
 (.cons (.ret false (.idx (.var 0) (.int 0)))
 .nil)
 .nil)
 (.cons (.asg false (.nm 4) (.call 2 (.cons (.call 1 (.cons (.var 2) (.cons (.call 0 (.cons (.idx (.var 0) (.int 0)) (.cons (.var 1) .nil))) .nil))) (.cons (.var 3) .nil))))
 (.cons (.ifS false (.call 3 (.cons (.var 4) (.cons (.glob 0) .nil)))
 (.cons (.ret false (.idx (.var 0) (.int 0)))
 .nil)
 .nil)
 (.cons (.ifS false (.call 3 (.cons (.glob 1) (.cons (.var 4) .nil)))
 (.cons (.ret false (.idx (.var 0) (.int 1)))
 .nil)
 .nil)
 (.cons (.ret false (.call 4 (.cons (.var 0) (.cons (.var 4) .nil))))
 .nil)))))))
def r_nearest : Rho := ⟨[⟨"step_from", 2, F_step_from⟩, ⟨"inner", 2, F_inner⟩, ⟨"over", 2, F_over⟩, ⟨"is_less", 2, F_is_less⟩, ⟨"point_at", 2, F_point_at⟩], [("NOUGHT", .tuple [.int 0, .int 1]), ("ONE", .tuple [.int 1, .int 1])]⟩
def F_nearest : Fn := runD r_nearest b_nearest 5
def N_law_less : List Str := ["_law_one", "_law_other"]
def b_law_less : Sts :=
 (.cons (.ret false (.cmp .lt (.bin .mul (.idx (.var 0) (.int 0)) (.idx (.var 1) (.int 1))) (.bin .mul (.idx (.var 1) (.int 0)) (.idx (.var 0) (.int 1)))))
 .nil)
def r_law_less : Rho := ⟨[], []⟩
def F_law_less : Fn := runD r_law_less b_law_less 2
def N_law_to_fence : List Str := ["_law_fence", "_law_point_here", "_law_gone_here", "_law_whole", "_law_share", "_law_side"]
def b_law_to_fence : Sts :=
 (.cons (.asg false (.nm 2) (.call 0 (.cons (.idx (.var 0) (.int 0)) (.cons (.idx (.var 0) (.int 1)) .nil))))
 (.cons (.asg false (.nm 3) (.call 1 (.cons (.var 2) (.cons (.var 2) .nil))))
 (.cons (.asg false (.nm 4) (.call 1 (.cons (.var 2) (.cons (.call 0 (.cons (.idx (.var 0) (.int 0)) (.cons (.var 1) .nil))) .nil))))
 (.cons (.ifS false (.orE (.cons (.cmp .eq (.idx (.var 3) (.int 0)) (.int 0)) (.cons (.cmp .le (.idx (.var 4) (.int 0)) (.int 0)) .nil)))
 (.cons (.ret false (.call 2 (.cons (.idx (.var 0) (.int 0)) (.cons (.var 1) .nil))))
 .nil)
 .nil)
 (.cons (.ifS false (.notE (.call 3 (.cons (.var 4) (.cons (.var 3) .nil))))
 (.cons (.ret false (.call 2 (.cons (.idx (.var 0) (.int 1)) (.cons (.var 1) .nil))))
 .nil)
 .nil)
 (.cons (.asg false (.nm 5) (.call 4 (.cons (.var 2) (.cons (.call 0 (.cons (.idx (.var 0) (.int 0)) (.cons (.var 1) .nil))) .nil))))
 (.cons (.asg false (.nm 5) (.call 5 (.cons (.var 5) (.cons (.var 5) .nil))))
 (.cons (.ret false (.call 6 (.cons (.bin .mul (.idx (.var 5) (.int 0)) (.idx (.var 3) (.int 1))) (.cons (.bin .mul (.idx (.var 5) (.int 1)) (.idx (.var 3) (.int 0))) .nil))))
 .nil))))))))
def r_law_to_fence : Rho := ⟨[⟨"_law_gone", 2, F_law_gone⟩, ⟨"_law_inner", 2, F_law_inner⟩, ⟨"_law_square", 2, F_law_square⟩, ⟨"_law_less", 2, F_law_less⟩, ⟨"_law_across", 2, F_law_across⟩, ⟨"_law_times", 2, F_law_times⟩, ⟨"_law_made", 2, F_law_made⟩], []⟩
def F_law_to_fence : Fn := runD r_law_to_fence b_law_to_fence 6
def N_crossing : List Str := ["one", "other", "gone", "more", "whole", "between", "shares", "share"]
def b_crossing : Sts :=
 (.cons (.asg false (.nm 2) (.call 0 (.cons (.idx (.var 0) (.int 0)) (.cons (.idx (.var 0) (.int 1)) .nil))))
 (.cons (.asg false (.nm 3) (.call 0 (.cons (.idx (.var 1) (.int 0)) (.cons (.idx (.var 1) (.int 1)) .nil))))
 (.cons (.asg false (.nm 4) (.call 1 (.cons (.var 2) (.cons (.var 3) .nil))))
 (.cons (.ifS false (.cmp .eq (.var 4) (.glob 0))
 (.cons (.ret false .none)
 .nil)
 .nil)
 (.cons (.asg false (.nm 5) (.call 0 (.cons (.idx (.var 0) (.int 0)) (.cons (.idx (.var 1) (.int 0)) .nil))))
 (.cons (.asg false (.nm 6) (.lst (.cons (.call 2 (.cons (.call 1 (.cons (.var 5) (.cons (.var 3) .nil))) (.cons (.var 4) .nil))) (.cons (.call 2 (.cons (.call 1 (.cons (.var 5) (.cons (.var 2) .nil))) (.cons (.var 4) .nil))) .nil))))
 (.cons (.ifS false (.blt .any (.cons (.comp [("share", 7)] (.nm 7) (.lst (.var 6)) .nil (.orE (.cons (.call 3 (.cons (.var 7) (.cons (.glob 0) .nil))) (.cons (.call 3 (.cons (.glob 1) (.cons (.var 7) .nil))) .nil)))) .nil))
 (.cons (.ret false .none)
 .nil)
 .nil)
 (.cons (.ret false (.call 4 (.cons (.var 0) (.cons (.idx (.var 6) (.int 0)) .nil))))
 .nil))))))))
def r_crossing : Rho := ⟨[⟨"step_from", 2, F_step_from⟩, ⟨"across", 2, F_across⟩, ⟨"over", 2, F_over⟩, ⟨"is_less", 2, F_is_less⟩, ⟨"point_at", 2, F_point_at⟩], [("NOUGHT", .tuple [.int 0, .int 1]), ("ONE", .tuple [.int 1, .int 1])]⟩
def F_crossing : Fn := runD r_crossing b_crossing 8
def N_nearest_two : List Str := ["one", "other", "point", "some", "end", "found", "pair"]
def b_nearest_two : Sts :=
 (.cons (.asg false (.nm 2) (.call 0 (.cons (.var 0) (.cons (.var 1) .nil))))
 (.cons (.ifS false (.isNN (.var 2))
 (.cons (.ret false (.tup (.cons (.var 2) (.cons (.var 2) .nil))))
 .nil)
 .nil)
 (.cons (.asg false (.nm 3) (.bin .add (.comp [("end", 4)] (.nm 4) (.tup (.var 0)) .nil (.tup (.cons (.var 4) (.cons (.call 1 (.cons (.var 1) (.cons (.var 4) .nil))) .nil)))) (.comp [("end", 4)] (.nm 4) (.tup (.var 1)) .nil (.tup (.cons (.call 1 (.cons (.var 0) (.cons (.var 4) .nil))) (.cons (.var 4) .nil))))))
 (.cons (.asg false (.nm 5) (.idx (.var 3) (.int 0)))
 (.cons (.forS (.nm 6) (.lst (.var 3))
 (.cons (.ifS false (.call 2 (.cons (.call 3 (.cons (.idx (.var 6) (.int 0)) (.cons (.idx (.var 6) (.int 1)) .nil))) (.cons (.call 3 (.cons (.idx (.var 5) (.int 0)) (.cons (.idx (.var 5) (.int 1)) .nil))) .nil)))
 (.cons (.asg false (.nm 5) (.var 6))
 .nil)
 .nil)
 .nil))
 (.cons (.ret false (.var 5))
 .nil))))))
def r_nearest_two : Rho := ⟨[⟨"crossing", 2, F_crossing⟩, ⟨"nearest", 2, F_nearest⟩, ⟨"is_less", 2, F_is_less⟩, ⟨"square_far", 2, F_square_far⟩], []⟩
def F_nearest_two : Fn := runD r_nearest_two b_nearest_two 7
def N_law_touch : List Str := ["_law_one", "_law_other", "_law_some", "_law_end", "_law_first", "_law_second"]
def b_law_touch : Sts :=
 (.cons (.asg false (.nm 2) (.comp [("_law_end", 3)] (.nm 3) (.tup (.var 1)) .nil (.call 0 (.cons (.var 0) (.cons (.var 3) .nil)))))
 (.cons (.ifS false (.cmp .in_ (.tup (.cons (.int 0) (.cons (.int 1) .nil))) (.bin .add (.var 2) (.comp [("_law_end", 3)] (.nm 3) (.tup (.var 0)) .nil (.call 0 (.cons (.var 1) (.cons (.var 3) .nil))))))
 (.cons (.ret false (.bl true))
 .nil)
 .nil)
 (.cons (.asg false (.nm 4) (.bin .mul (.call 1 (.cons (.idx (.var 0) (.int 0)) (.cons (.idx (.var 0) (.int 1)) (.cons (.idx (.var 1) (.int 0)) .nil)))) (.call 1 (.cons (.idx (.var 0) (.int 0)) (.cons (.idx (.var 0) (.int 1)) (.cons (.idx (.var 1) (.int 1)) .nil))))))
 (.cons (.asg false (.nm 5) (.bin .mul (.call 1 (.cons (.idx (.var 1) (.int 0)) (.cons (.idx (.var 1) (.int 1)) (.cons (.idx (.var 0) (.int 0)) .nil)))) (.call 1 (.cons (.idx (.var 1) (.int 0)) (.cons (.idx (.var 1) (.int 1)) (.cons (.idx (.var 0) (.int 1)) .nil))))))
 (.cons (.ret false (.andE (.cons (.cmp .lt (.var 4) (.int 0)) (.cons (.cmp .lt (.var 5) (.int 0)) .nil))))
 .nil)))))
def r_law_touch : Rho := ⟨[⟨"_law_to_fence", 2, F_law_to_fence⟩, ⟨"_law_sense", 3, F_law_sense⟩], []⟩
def F_law_touch : Fn := runD r_law_touch b_law_touch 6
def N_law_apart : List Str := ["_law_one", "_law_other", "_law_some", "_law_end", "_law_found", "_law_here"]
def b_law_apart : Sts :=
 (.cons (.ifS false (.call 0 (.cons (.var 0) (.cons (.var 1) .nil)))
 (.cons (.ret false (.tup (.cons (.int 0) (.cons (.int 1) .nil))))
 .nil)
 .nil)
 (.cons (.asg false (.nm 2) (.comp [("_law_end", 3)] (.nm 3) (.tup (.var 1)) .nil (.call 1 (.cons (.var 0) (.cons (.var 3) .nil)))))
 (.cons (.asg false (.nm 2) (.bin .add (.var 2) (.comp [("_law_end", 3)] (.nm 3) (.tup (.var 0)) .nil (.call 1 (.cons (.var 1) (.cons (.var 3) .nil))))))
 (.cons (.asg false (.nm 4) (.idx (.var 2) (.int 0)))
 (.cons (.forS (.nm 5) (.lst (.var 2))
 (.cons (.asg false (.nm 4) (.idx (.lst (.cons (.var 4) (.cons (.var 5) .nil))) (.blt .int (.cons (.call 2 (.cons (.var 5) (.cons (.var 4) .nil))) .nil))))
 .nil))
 (.cons (.ret false (.var 4))
 .nil))))))
def r_law_apart : Rho := ⟨[⟨"_law_touch", 2, F_law_touch⟩, ⟨"_law_to_fence", 2, F_law_to_fence⟩, ⟨"_law_less", 2, F_law_less⟩], []⟩
def F_law_apart : Fn := runD r_law_apart b_law_apart 6
def N_law : List Str := ["_law_script", "_law_k", "_law_more", "_law_told", "_law_one", "_law_cross", "_law_others", "_law_other", "_law_near", "_law_under", "_law_due", "_law_a", "_law_b", "_law_c", "_law_first", "_law_second", "_law_j"]
def b_law : Sts :=
 (.cons (.forS (.nm 1) (.rng1 (.blt .max2 (.cons (.int 1) (.cons (.blt .min2 (.cons (.int 5) (.cons (.blt .len (.cons (.var 0) .nil)) .nil))) .nil))))
 (.cons (.asg false (.nm 2) (.call 0 (.cons (.call 1 (.cons (.var 0) (.cons (.var 1) .nil))) (.cons (.var 1) .nil))))
 (.cons (.asg false (.ls (.cons (.nm 11) (.cons (.nm 12) (.cons (.nm 13) .nil)))) (.comp [("_law_j", 16)] (.nm 16) (.rng1 (.int 3)) .nil (.call 2 (.cons (.call 0 (.cons (.var 2) (.cons (.var 16) .nil))) .nil))))
 (.cons (.ifS false (.cmp .eq (.bin .mod (.var 2) (.int 4)) (.int 0))
 (.cons (.asg false (.nm 13) (.tup (.cons (.call 3 (.cons (.call 4 (.cons (.idx (.var 12) (.int 0)) (.cons (.idx (.var 12) (.int 0)) .nil))) (.cons (.idx (.var 11) (.int 0)) .nil))) (.cons (.call 3 (.cons (.call 4 (.cons (.idx (.var 12) (.int 1)) (.cons (.idx (.var 12) (.int 1)) .nil))) (.cons (.idx (.var 11) (.int 1)) .nil))) .nil))))
 .nil)
 .nil)
 (.cons (.asg false (.nm 3) (.call 5 (.cons (.var 11) (.cons (.var 12) (.cons (.var 13) .nil)))))
 (.cons (.ifS false (.orE (.cons (.isI .bool (.var 3)) (.cons (.cmp .ne (.var 3) (.call 6 (.cons (.var 11) (.cons (.var 12) (.cons (.var 13) .nil))))) (.cons (.cmp .ne (.call 7 (.cons (.var 11) (.cons (.var 12) .nil))) (.call 8 (.cons (.var 11) (.cons (.var 12) .nil)))) .nil))))
 (.cons (.ret false (.bl false))
 .nil)
 .nil)
 (.cons (.asg false (.nm 4) (.call 9 (.cons (.call 0 (.cons (.var 2) (.cons (.int 7) .nil))) .nil)))
 (.cons (.asg false (.nm 5) (.tup (.cons (.tup (.cons (.idx (.idx (.var 4) (.int 0)) (.int 0)) (.cons (.idx (.idx (.var 4) (.int 1)) (.int 1)) .nil))) (.cons (.tup (.cons (.idx (.idx (.var 4) (.int 1)) (.int 0)) (.cons (.idx (.idx (.var 4) (.int 0)) (.int 1)) .nil))) .nil))))
 (.cons (.asg false (.nm 6) (.lst (.cons (.call 9 (.cons (.call 0 (.cons (.var 2) (.cons (.int 8) .nil))) .nil)) (.cons (.tup (.cons (.idx (.var 4) (.int 1)) (.cons (.var 13) .nil))) (.cons (.tup (.cons (.var 11) (.cons (.var 11) .nil))) (.cons (.tup (.cons (.idx (.var 4) (.int 0)) (.cons (.idx (.var 4) (.int 0)) .nil))) (.cons (.var 4) (.cons (.var 5) .nil))))))))
 (.cons (.asg false (.nm 7) (.idx (.var 6) (.bin .mod (.bin .fdiv (.var 2) (.int 8)) (.int 6))))
 (.cons (.asg false (.nm 8) (.call 10 (.cons (.var 4) (.cons (.var 11) .nil))))
 (.cons (.ifS false (.orE (.cons (.cmp .ne (.call 11 (.cons (.var 4) (.cons (.var 8) .nil))) (.tup (.cons (.int 0) (.cons (.int 1) .nil)))) (.cons (.cmp .ne (.call 8 (.cons (.var 8) (.cons (.var 11) .nil))) (.call 11 (.cons (.var 4) (.cons (.var 11) .nil)))) .nil)))
 (.cons (.ret false (.bl false))
 .nil)
 .nil)
 (.cons (.asg false (.tp (.cons (.nm 14) (.cons (.nm 15) .nil))) (.call 12 (.cons (.var 4) (.cons (.var 7) .nil))))
 (.cons (.ifS false (.orE (.cons (.cmp .ne (.call 11 (.cons (.var 4) (.cons (.var 14) .nil))) (.tup (.cons (.int 0) (.cons (.int 1) .nil)))) (.cons (.cmp .ne (.call 11 (.cons (.var 7) (.cons (.var 15) .nil))) (.tup (.cons (.int 0) (.cons (.int 1) .nil)))) .nil)))
 (.cons (.ret false (.bl false))
 .nil)
 .nil)
 (.cons (.ifS false (.cmp .ne (.call 8 (.cons (.var 14) (.cons (.var 15) .nil))) (.call 13 (.cons (.var 4) (.cons (.var 7) .nil))))
 (.cons (.ret false (.bl false))
 .nil)
 .nil)
 (.cons (.ifS false (.cmp .ne (.call 12 (.cons (.var 4) (.cons (.var 7) .nil))) (.tup (.cons (.var 14) (.cons (.var 15) .nil))))
 (.cons (.ret false (.bl false))
 .nil)
 .nil)
 (.cons (.asg false (.nm 9) (.idx (.lst (.cons (.bin .add (.int 1) (.bin .mod (.bin .fdiv (.var 2) (.int 64)) (.int 9))) (.cons (.bin .sub (.neg (.int 1)) (.bin .mod (.bin .fdiv (.var 2) (.int 64)) (.int 9))) .nil))) (.bin .mod (.bin .fdiv (.var 2) (.int 1024)) (.int 2))))
 (.cons (.asg false (.nm 10) (.call 14 (.cons (.bin .mul (.bin .sub (.bin .mod (.bin .fdiv (.var 2) (.bin .pow (.int 2) (.int 14))) (.int 40)) (.int 20)) (.bin .sub (.int 1) (.bin .mul (.int 2) (.blt .int (.cons (.cmp .lt (.var 9) (.int 0)) .nil))))) (.cons (.blt .abs (.cons (.var 9) .nil)) .nil))))
 (.cons (.ifS false (.cmp .ne (.call 15 (.cons (.bin .sub (.bin .mod (.bin .fdiv (.var 2) (.bin .pow (.int 2) (.int 14))) (.int 40)) (.int 20)) (.cons (.var 9) .nil))) (.var 10))
 (.cons (.ret false (.bl false))
 .nil)
 .nil)
 .nil)))))))))))))))))))
 (.cons (.ret false (.bl true))
 .nil))
def r_law : Rho := ⟨[⟨"_law_drawn", 2, F_law_drawn⟩, ⟨"_law_cell", 2, F_law_cell⟩, ⟨"_law_point", 1, F_law_point⟩, ⟨"_law_minus", 2, F_law_minus⟩, ⟨"_law_plus", 2, F_law_plus⟩, ⟨"side_of", 3, F_side_of⟩, ⟨"_law_sense", 3, F_law_sense⟩, ⟨"square_far", 2, F_square_far⟩, ⟨"_law_square", 2, F_law_square⟩, ⟨"_law_one_fence", 1, F_law_one_fence⟩, ⟨"nearest", 2, F_nearest⟩, ⟨"_law_to_fence", 2, F_law_to_fence⟩, ⟨"nearest_two", 2, F_nearest_two⟩, ⟨"_law_apart", 2, F_law_apart⟩, ⟨"_law_made", 2, F_law_made⟩, ⟨"fraction", 2, F_fraction⟩], []⟩
def F_law : Fn := runD r_law b_law 17
end Rw
namespace Rw
open PySem
def N_law_fences : List Str := ["_law_more", "_law_most", "_law_j"]
def b_law_fences : Sts :=
 (.cons (.ret false (.comp [("_law_j", 2)] (.nm 2) (.rng1 (.bin .mod (.var 0) (.bin .add (.var 1) (.int 1)))) .nil (.call 0 (.cons (.call 1 (.cons (.var 0) (.cons (.var 2) .nil))) .nil))))
 .nil)
def r_law_fences : Rho := ⟨[⟨"_law_one_fence", 1, F_law_one_fence⟩, ⟨"_law_drawn", 2, F_law_drawn⟩], []⟩
def F_law_fences : Fn := runD r_law_fences b_law_fences 3
def N_law_reach : List Str := ["_law_more", "_law_above"]
def b_law_reach : Sts :=
 (.cons (.asg false (.nm 1) (.idx (.lst (.cons (.int 1) (.cons (.int 2) (.cons (.int 3) (.cons (.int 4) (.cons (.int 9) (.cons (.int 25) (.cons (.bin .add (.int 1) (.bin .mod (.bin .fdiv (.var 0) (.int 64)) (.int 40))) .nil)))))))) (.bin .mod (.bin .fdiv (.var 0) (.int 8)) (.int 7))))
 (.cons (.ret false (.call 0 (.cons (.var 1) (.cons (.idx (.lst (.cons (.int 1) (.cons (.int 1) (.cons (.int 4) (.cons (.int 2) .nil))))) (.bin .mod (.bin .fdiv (.var 0) (.bin .pow (.int 2) (.int 12))) (.int 4))) .nil))))
 .nil))
def r_law_reach : Rho := ⟨[⟨"_law_made", 2, F_law_made⟩], []⟩
def F_law_reach : Fn := runD r_law_reach b_law_reach 2
def N_need_reach : List Str := ["reach"]
def b_need_reach : Sts :=
 (.cons (.ifS false (.notE (.call 0 (.cons (.glob 0) (.cons (.var 0) .nil))))
 (.cons (.raise .badReach "BadReach" "not above nought")
 .nil)
 .nil)
 .nil)
def r_need_reach : Rho := ⟨[⟨"is_less", 2, F_is_less⟩], [("NOUGHT", .tuple [.int 0, .int 1])]⟩
def F_need_reach : Fn := runD r_need_reach b_need_reach 1
def N_need_walls : List Str := ["walls", "reach"]
def b_need_walls : Sts :=
 (.cons (.expr (.call 0 (.cons (.var 1) .nil)))
 (.cons (.ifS false (.cmp .gt (.blt .len (.cons (.var 0) .nil)) (.glob 0))
 (.cons (.raise .tooMany "TooMany" "too many walls")
 .nil)
 .nil)
 .nil))
def r_need_walls : Rho := ⟨[⟨"need_reach", 1, F_need_reach⟩], [("MOST_WALLS", .int 40)]⟩
def F_need_walls : Fn := runD r_need_walls b_need_walls 2
def N_apart : List Str := ["one", "other", "pair"]
def b_apart : Sts :=
 (.cons (.asg false (.nm 2) (.call 0 (.cons (.var 0) (.cons (.var 1) .nil))))
 (.cons (.ret false (.call 1 (.cons (.idx (.var 2) (.int 0)) (.cons (.idx (.var 2) (.int 1)) .nil))))
 .nil))
def r_apart : Rho := ⟨[⟨"nearest_two", 2, F_nearest_two⟩, ⟨"square_far", 2, F_square_far⟩], []⟩
def F_apart : Fn := runD r_apart b_apart 3
def N_in_way : List Str := ["walls", "reach", "piece", "number", "wall"]
def b_in_way : Sts :=
 (.cons (.ret false (.comp [("number", 3), ("wall", 4)] (.tp (.cons (.nm 3) (.cons (.nm 4) .nil))) (.enum (.var 0)) (.cons (.call 0 (.cons (.call 1 (.cons (.var 4) (.cons (.var 2) .nil))) (.cons (.var 1) .nil))) .nil) (.var 3)))
 .nil)
def r_in_way : Rho := ⟨[⟨"is_less", 2, F_is_less⟩, ⟨"apart", 2, F_apart⟩], []⟩
def F_in_way : Fn := runD r_in_way b_in_way 5
def N_walls_met : List Str := ["walls", "reach", "piece"]
def b_walls_met : Sts :=
 (.cons (.expr (.call 0 (.cons (.var 0) (.cons (.var 1) .nil))))
 (.cons (.ret false (.call 1 (.cons (.var 0) (.cons (.var 1) (.cons (.var 2) .nil)))))
 .nil))
def r_walls_met : Rho := ⟨[⟨"need_walls", 2, F_need_walls⟩, ⟨"in_way", 3, F_in_way⟩], []⟩
def F_walls_met : Fn := runD r_walls_met b_walls_met 3
def N_may_go : List Str := ["walls", "reach", "piece"]
def b_may_go : Sts :=
 (.cons (.ret false (.cmp .eq (.call 0 (.cons (.var 0) (.cons (.var 1) (.cons (.var 2) .nil)))) (.lst .nil)))
 .nil)
def r_may_go : Rho := ⟨[⟨"walls_met", 3, F_walls_met⟩], []⟩
def F_may_go : Fn := runD r_may_go b_may_go 3
def N_law_between : List Str := ["_law_one", "_law_other", "_law_share", "_law_gone_here"]
def b_law_between : Sts :=
 (.cons (.asg false (.nm 3) (.call 0 (.cons (.var 0) (.cons (.var 1) .nil))))
 (.cons (.ret false (.tup (.cons (.call 1 (.cons (.idx (.var 0) (.int 0)) (.cons (.call 2 (.cons (.var 2) (.cons (.idx (.var 3) (.int 0)) .nil))) .nil))) (.cons (.call 1 (.cons (.idx (.var 0) (.int 1)) (.cons (.call 2 (.cons (.var 2) (.cons (.idx (.var 3) (.int 1)) .nil))) .nil))) .nil))))
 .nil))
def r_law_between : Rho := ⟨[⟨"_law_gone", 2, F_law_gone⟩, ⟨"_law_plus", 2, F_law_plus⟩, ⟨"_law_times", 2, F_law_times⟩], []⟩
def F_law_between : Fn := runD r_law_between b_law_between 4
def N_may_be : List Str := ["walls", "reach", "point"]
def b_may_be : Sts :=
 (.cons (.ret false (.call 0 (.cons (.var 0) (.cons (.var 1) (.cons (.tup (.cons (.var 2) (.cons (.var 2) .nil))) .nil)))))
 .nil)
def r_may_be : Rho := ⟨[⟨"may_go", 3, F_may_go⟩], []⟩
def F_may_be : Fn := runD r_may_be b_may_be 3
def N_law_piece_right : List Str := ["_law_fences_here", "_law_reach_here", "_law_piece", "_law_more", "_law_due", "_law_number", "_law_fence", "_law_found", "_law_told_here", "_law_j", "_law_point_here", "_law_near", "_law_here"]
def b_law_piece_right : Sts :=
 (.cons (.asg false (.nm 4) (.comp [("_law_number", 5), ("_law_fence", 6)] (.tp (.cons (.nm 5) (.cons (.nm 6) .nil))) (.enum (.var 0)) (.cons (.call 0 (.cons (.call 1 (.cons (.var 6) (.cons (.var 2) .nil))) (.cons (.var 1) .nil))) .nil) (.var 5)))
 (.cons (.asg false (.nm 7) (.call 2 (.cons (.blt .list (.cons (.var 0) .nil)) (.cons (.var 1) (.cons (.var 2) .nil)))))
 (.cons (.asg false (.nm 8) (.call 3 (.cons (.var 0) (.cons (.var 1) (.cons (.var 2) .nil)))))
 (.cons (.ifS false (.orE (.cons (.notE (.isI .list (.var 7))) (.cons (.cmp .ne (.var 7) (.var 4)) (.cons (.notE (.isI .bool (.var 8))) (.cons (.cmp .ne (.var 8) (.cmp .eq (.var 4) (.lst .nil))) .nil)))))
 (.cons (.ret false (.bl false))
 .nil)
 .nil)
 (.cons (.forS (.nm 9) (.rng1 (.int 3))
 (.cons (.asg false (.nm 10) (.call 4 (.cons (.idx (.var 2) (.int 0)) (.cons (.idx (.var 2) (.int 1)) (.cons (.call 5 (.cons (.bin .mod (.bin .fdiv (.var 3) (.idx (.lst (.cons (.int 1) (.cons (.int 17) (.cons (.int 289) .nil)))) (.var 9))) (.int 17)) (.cons (.int 16) .nil))) .nil)))))
 (.cons (.asg false (.nm 11) (.comp [("_law_number", 5), ("_law_fence", 6)] (.tp (.cons (.nm 5) (.cons (.nm 6) .nil))) (.enum (.var 0)) (.cons (.call 0 (.cons (.call 6 (.cons (.var 6) (.cons (.var 10) .nil))) (.cons (.var 1) .nil))) .nil) (.var 5)))
 (.cons (.asg false (.nm 12) (.call 7 (.cons (.var 0) (.cons (.var 1) (.cons (.var 10) .nil)))))
 (.cons (.ifS false (.orE (.cons (.notE (.isI .bool (.var 12))) (.cons (.cmp .ne (.var 12) (.cmp .eq (.var 11) (.lst .nil))) (.cons (.notE (.blt .all (.cons (.comp [("_law_number", 5)] (.nm 5) (.lst (.var 11)) .nil (.cmp .in_ (.var 5) (.var 4))) .nil))) .nil))))
 (.cons (.ret false (.bl false))
 .nil)
 .nil)
 .nil)))))
 (.cons (.ret false (.bl true))
 .nil))))))
def r_law_piece_right : Rho := ⟨[⟨"_law_less", 2, F_law_less⟩, ⟨"_law_apart", 2, F_law_apart⟩, ⟨"walls_met", 3, F_walls_met⟩, ⟨"may_go", 3, F_may_go⟩, ⟨"_law_between", 3, F_law_between⟩, ⟨"_law_made", 2, F_law_made⟩, ⟨"_law_to_fence", 2, F_law_to_fence⟩, ⟨"may_be", 3, F_may_be⟩], []⟩
def F_law_piece_right : Fn := runD r_law_piece_right b_law_piece_right 13
def N_law20 : List Str := ["_law_script", "_law_k", "_law_more", "_law_fences_here", "_law_reach_here", "_law_j", "_law_bad", "_law_point_here", "_law_many", "_law_here", "_law_piece", "_law_far_off", "_law_most", "_law_beyond", "_law_fence"]
def b_law20 : Sts :=
 (.cons (.forS (.nm 1) (.rng1 (.blt .max2 (.cons (.int 1) (.cons (.blt .min2 (.cons (.int 4) (.cons (.blt .len (.cons (.var 0) .nil)) .nil))) .nil))))
 (.cons (.asg false (.nm 2) (.call 0 (.cons (.call 1 (.cons (.var 0) (.cons (.var 1) .nil))) (.cons (.var 1) .nil))))
 (.cons (.asg false (.nm 3) (.call 2 (.cons (.var 2) (.cons (.int 7) .nil))))
 (.cons (.asg false (.nm 4) (.call 3 (.cons (.bin .fdiv (.var 2) (.int 64)) .nil)))
 (.cons (.forS (.nm 5) (.rng1 (.int 3))
 (.cons (.asg false (.nm 9) (.call 0 (.cons (.var 2) (.cons (.bin .add (.int 20) (.var 5)) .nil))))
 (.cons (.asg false (.nm 10) (.tup (.cons (.call 4 (.cons (.var 9) .nil)) (.cons (.call 4 (.cons (.bin .fdiv (.var 9) (.bin .pow (.int 2) (.int 30))) .nil)) .nil))))
 (.cons (.ifS false (.notE (.call 5 (.cons (.var 3) (.cons (.var 4) (.cons (.var 10) (.cons (.bin .fdiv (.var 9) (.bin .pow (.int 2) (.int 60))) .nil))))))
 (.cons (.ret false (.bl false))
 .nil)
 .nil)
 (.cons (.asg false (.nm 11) (.comp [("_law_fence", 14)] (.nm 14) (.lst (.var 3)) .nil (.call 6 (.cons (.var 14) (.cons (.idx (.var 10) (.int 0)) .nil)))))
 (.cons (.forS (.nm 12) (.lst (.var 11))
 (.cons (.asg false (.nm 13) (.call 7 (.cons (.var 12) (.cons (.tup (.cons (.int 1) (.cons (.int 1000) .nil))) .nil))))
 (.cons (.ifS false (.andE (.cons (.cmp .gt (.idx (.var 12) (.int 0)) (.int 0)) (.cons (.notE (.call 8 (.cons (.lst (.cons (.idx (.var 3) (.index (.var 11) (.var 12))) .nil)) (.cons (.var 12) (.cons (.idx (.var 10) (.int 0)) .nil))))) .nil)))
 (.cons (.ret false (.bl false))
 .nil)
 .nil)
 (.cons (.ifS false (.call 8 (.cons (.lst (.cons (.idx (.var 3) (.index (.var 11) (.var 12))) .nil)) (.cons (.var 13) (.cons (.idx (.var 10) (.int 0)) .nil))))
 (.cons (.ret false (.bl false))
 .nil)
 .nil)
 .nil))))
 .nil))))))
 (.cons (.asg false (.nm 6) (.idx (.lst (.cons (.tup (.cons (.int 0) (.cons (.int 1) .nil))) (.cons (.tup (.cons (.neg (.int 1)) (.cons (.int 2) .nil))) (.cons (.tup (.cons (.neg (.int 4)) (.cons (.int 1) .nil))) .nil)))) (.bin .mod (.bin .fdiv (.var 2) (.bin .pow (.int 2) (.int 30))) (.int 3))))
 (.cons (.asg false (.nm 7) (.tup (.cons (.tup (.cons (.int 0) (.cons (.int 1) .nil))) (.cons (.tup (.cons (.int 0) (.cons (.int 1) .nil))) .nil))))
 (.cons (.asg false (.nm 8) (.bin .mul (.lst (.cons (.tup (.cons (.var 7) (.cons (.var 7) .nil))) .nil)) (.int 41)))
 (.cons (.ifS false (.cmp .ne (.told (.call 8 (.cons (.var 8) (.cons (.var 6) (.cons (.var 7) .nil))))) (.str "BadReach"))
 (.cons (.ret false (.bl false))
 .nil)
 .nil)
 (.cons (.ifS false (.cmp .ne (.told (.call 9 (.cons (.var 8) (.cons (.var 4) (.cons (.tup (.cons (.var 7) (.cons (.var 7) .nil))) .nil))))) (.str "TooMany"))
 (.cons (.ret false (.bl false))
 .nil)
 .nil)
 (.cons (.ifS false (.cmp .ne (.told (.call 10 (.cons (.var 3) (.cons (.var 6) (.cons (.tup (.cons (.var 7) (.cons (.var 7) .nil))) .nil))))) (.str "BadReach"))
 (.cons (.ret false (.bl false))
 .nil)
 .nil)
 .nil)))))))))))
 (.cons (.ret false (.bl true))
 .nil))
def r_law20 : Rho := ⟨[⟨"_law_drawn", 2, F_law_drawn⟩, ⟨"_law_cell", 2, F_law_cell⟩, ⟨"_law_fences", 2, F_law_fences⟩, ⟨"_law_reach", 1, F_law_reach⟩, ⟨"_law_point", 1, F_law_point⟩, ⟨"_law_piece_right", 4, F_law_piece_right⟩, ⟨"_law_to_fence", 2, F_law_to_fence⟩, ⟨"_law_plus", 2, F_law_plus⟩, ⟨"may_be", 3, F_may_be⟩, ⟨"may_go", 3, F_may_go⟩, ⟨"walls_met", 3, F_walls_met⟩], []⟩
def F_law20 : Fn := runD r_law20 b_law20 15
end Rw
namespace Rw
open PySem
/-! ## fractions -/
/-- a fraction as the program has it -/
def q (r : Rat) : D := .tuple [.int r.num, .int r.den]
/-- so great at most: top, under -/
structure Bd (n d : Nat) (r : Rat) : Prop where
  num : r.num.natAbs < 2 ^ n
  den : r.den ≤ 2 ^ d
theorem Bd.mono {n d n' d' : Nat} {r : Rat} (h : Bd n d r) (hn : n ≤ n') (hd : d ≤ d') : Bd n' d' r :=
  ⟨Nat.lt_of_lt_of_le h.num (Nat.pow_le_pow_right (by decide) hn), Nat.le_trans h.den (Nat.pow_le_pow_right (by decide) hd)⟩
theorem log_lt {n k : Nat} (h : n < 2 ^ k) : n.log2 < k + 1 := by
  by_cases hn : n = 0
  · subst hn; simp
  · have := (Nat.log2_lt hn).mpr h
    omega
theorem mulOk_of {i j : Int} {n m : Nat} (hi : i.natAbs < 2 ^ n) (hj : j.natAbs < 2 ^ m) (h : n + m < 900000) : mulOk i j = true := by
  unfold mulOk
  have h1 := log_lt hi
  have h2 := log_lt hj
  have : i.natAbs.log2 + j.natAbs.log2 < 1000000 := by omega
  rw [decide_eq_true this, Bool.or_true]
theorem gcd_loop {t u : Sl} {c : Fr → M Bool} {f : Fr → Fl} (hc : ∀ x y : Int, c [t, u, .val (.int x), .val (.int y)] = .ok (decide (0 < y)))
    (hf : ∀ x y : Int, 0 < y → f [t, u, .val (.int x), .val (.int y)] = .nx [t, u, .val (.int y), .val (.int (x % y))]) :
    ∀ (n : Nat) (x y : Int), 0 ≤ x → 0 ≤ y → y.natAbs < n → whileN c f n [t, u, .val (.int x), .val (.int y)] = .nx [t, u, .val (.int (Int.gcd x y)), .val (.int 0)] := by
  intro n
  induction n with
  | zero => intro x y _ _ h; omega
  | succ n ih =>
    intro x y hx hy h
    unfold whileN
    rw [hc]
    by_cases h0 : 0 < y
    · have h1 : x % y < y := Int.emod_lt_of_pos x h0
      have h2 : 0 ≤ x % y := Int.emod_nonneg x (by omega)
      simp only [brF_ok, h0, decide_true, if_true, hf x y h0, turn_nx]
      rw [ih y (x % y) hy h2 (by omega)]
      have : Int.gcd y (x % y) = Int.gcd x y := by
        rw [Int.gcd_comm y, Int.gcd_comm x y]
        have e1 : (x % y).natAbs = x.natAbs % y.natAbs := by
          rw [Int.natAbs_emod_of_nonneg hx]
        unfold Int.gcd
        rw [e1, ← Nat.gcd_rec]
      rw [this]
    · have : y = 0 := by omega
      subst this
      simp only [brF_ok, Int.lt_irrefl, decide_false, Bool.false_eq_true, if_false]
      have : (Int.gcd x 0 : Int) = x := by
        rw [Int.gcd_zero_right]; omega
      rw [this]
theorem divInt_pos {a b : Int} (hb : 0 < b) : (Rat.divInt a b).num = a / (Int.gcd (if a < 0 then -a else a) b : Int) ∧ ((Rat.divInt a b).den : Int) = b / (Int.gcd (if a < 0 then -a else a) b : Int) := by
  have e : Int.gcd (if a < 0 then -a else a) b = Int.gcd b a := by
    rw [Int.gcd_comm]
    split
    · rw [Int.gcd_neg]
    · rfl
  rw [e]
  constructor
  · rw [Rat.num_divInt, Int.sign_eq_one_of_pos hb, Int.one_mul]
  · rw [Rat.den_divInt, if_neg (by omega)]
    rw [Int.natCast_ediv]
    congr 1
    omega
theorem log_mono {a b : Nat} (ha : a ≠ 0) (h : a ≤ b) : a.log2 ≤ b.log2 := by
  have h1 := Nat.log2_self_le ha
  exact (Nat.le_log2 (by omega)).mpr (Nat.le_trans h1 h)
theorem divOk_gcd {a b : Int} (hb : 0 < b) (hs : b.natAbs.log2 < 9000) : divOk (Int.gcd a b) = true := by
  have h1 : 0 < Int.gcd a b := Int.gcd_pos_of_ne_zero_right a (by omega)
  have h2 : Int.gcd a b ∣ b.natAbs := by
    unfold Int.gcd
    exact Nat.gcd_dvd_right _ _
  have h3 := Nat.le_of_dvd (by omega) h2
  have h4 := log_mono (Nat.pos_iff_ne_zero.mp h1) h3
  unfold divOk
  simp only [Bool.and_eq_true, decide_eq_true_eq]
  refine ⟨by omega, ?_⟩
  show (Int.gcd a b).log2 < 9000
  omega
/-- the rows that both texts share -/
def b_frac : Sts := .cons (.par 2 3 (.blt .abs (.cons (.var 0) .nil)) (.var 1)) (.cons (.whl false (fuelI 3) (.cmp .gt (.var 3) (.int 0)) (.cons (.par 2 3 (.var 3) (.bin .mod (.var 2) (.var 3))) .nil)) (.cons (.ret false (.tup (.cons (.bin .fdiv (.var 0) (.var 2)) (.cons (.bin .fdiv (.var 1) (.var 2)) .nil)))) .nil))
theorem frac_key (ρ : Rho) {a b : Int} (hb : 0 < b) (hs : b.natAbs.log2 < 9000) (x y : Sl) : semSs ρ b_frac [.val (.int a), .val (.int b), x, y] = .rt (q (Rat.divInt a b)) := by
  have habs : 0 ≤ (if a < 0 then -a else a) := by split <;> omega
  have hl := gcd_loop (t := .val (.int a)) (u := .val (.int b)) (c := evT ρ false (.cmp .gt (.var 3) (.int 0))) (f := semSs ρ (.cons (.par 2 3 (.var 3) (.bin .mod (.var 2) (.var 3))) .nil))
    (fun x y => by simp) (fun x y h => by simp [h]) (b.natAbs + 1) (if a < 0 then -a else a) b habs (by omega) (by omega)
  obtain ⟨h1, h2⟩ := divInt_pos (a := a) hb
  have h3 := divOk_gcd (a := if a < 0 then -a else a) hb hs
  unfold b_frac
  simp only [semSs_c, semS_par, semE_blt, semEs_c, semEs_n, semE_var, List.getElem?_cons_zero, List.getElem?_cons_succ, slotD_v, bind_ok, toFl_ok, bltD, List.length_cons, List.length_nil]
  simp only [show (2 < 0 + 1 + 1 + 1 + 1 ∧ 3 < 0 + 1 + 1 + 1 + 1) = True by simp, if_true, seq_nx, semS_whl, List.set_cons_succ, List.set_cons_zero]
  have hfu : fuelI 3 [.val (.int a), .val (.int b), .val (.int (if a < 0 then -a else a)), .val (.int b)] = b.natAbs + 1 := rfl
  rw [semSs_c, semS_whl, hfu, hl]
  simp [h3, q, h1, h2, big]
theorem fraction_ok {a b : Int} (hb : b ≠ 0) (hs : b.natAbs.log2 < 9000) : F_fraction [.int a, .int b] = .ok (q (Rat.divInt a b)) := by
  unfold F_fraction
  rw [run_eq (e := [.val (.int a), .val (.int b), .un, .un]) rfl]
  show endFl (semSs r_fraction (.cons _ b_frac) _) = _
  by_cases h : b < 0
  · rw [semSs_c, semS_if]
    have e1 : evT r_fraction false (.cmp .lt (.var 1) (.int 0)) [.val (.int a), .val (.int b), .un, .un] = .ok true := by simp [h]
    rw [e1]
    simp only [brF_ok, if_true]
    have e2 : semSs r_fraction (.cons (.asg false (.nm 0) (.bin .sub (.int 0) (.var 0))) (.cons (.asg false (.nm 1) (.bin .sub (.int 0) (.var 1))) .nil)) [.val (.int a), .val (.int b), .un, .un] = .nx [.val (.int (0 - a)), .val (.int (0 - b)), .un, .un] := by simp
    rw [e2, seq_nx, frac_key _ (show 0 < 0 - b by omega) (by rw [show (0 - b).natAbs = b.natAbs by omega]; exact hs)]
    have e3 : Rat.divInt (0 - a) (0 - b) = Rat.divInt a b := by
      rw [Rat.divInt_eq_divInt_iff (by omega) hb]; grind
    rw [e3]; rfl
  · rw [semSs_c, semS_if]
    have e1 : evT r_fraction false (.cmp .lt (.var 1) (.int 0)) [.val (.int a), .val (.int b), .un, .un] = .ok false := by simp [h]
    rw [e1]
    simp only [brF_ok, Bool.false_eq_true, if_false, semSs_n, seq_nx]
    rw [frac_key _ (show 0 < b by omega) hs]
    rfl
theorem made_ok {a b : Int} (hb : 0 < b) (hs : b.natAbs.log2 < 9000) : F_law_made [.int a, .int b] = .ok (q (Rat.divInt a b)) := by
  unfold F_law_made
  rw [run_eq (e := [.val (.int a), .val (.int b), .un, .un]) rfl]
  show endFl (semSs r_law_made b_frac _) = _
  rw [frac_key _ hb hs]
  rfl
end Rw
namespace Rw
open PySem
/-! ## sums, products -/
theorem natAbs_ediv_le (a : Int) (g : Nat) : (a / (g : Int)).natAbs ≤ a.natAbs := by
  exact Int.natAbs_ediv_le_natAbs a g
theorem bd_divInt {a b : Int} {n d : Nat} (hb : b ≠ 0) (h1 : a.natAbs < 2 ^ n) (h2 : b.natAbs ≤ 2 ^ d) : Bd n d (Rat.divInt a b) := by
  constructor
  · rw [Rat.num_divInt]
    refine Nat.lt_of_le_of_lt (natAbs_ediv_le _ _) ?_
    rw [Int.natAbs_mul]
    have : b.sign.natAbs = 1 := by rw [Int.natAbs_sign_of_ne_zero hb]
    rw [this, Nat.one_mul]; exact h1
  · rw [Rat.den_divInt, if_neg hb]
    exact Nat.le_trans (Nat.div_le_self _ _) h2
theorem den_pos (a : Rat) : 0 < (a.den : Int) := by have := a.den_pos; omega
theorem den_ne (a : Rat) : (a.den : Int) ≠ 0 := by have := a.den_pos; omega
theorem add_divInt (a b : Rat) : a + b = Rat.divInt (a.num * b.den + b.num * a.den) (a.den * b.den) := by
  rw [← Rat.divInt_add_divInt _ _ (den_ne a) (den_ne b), Rat.num_divInt_den, Rat.num_divInt_den]
theorem sub_divInt (a b : Rat) : a - b = Rat.divInt (a.num * b.den - b.num * a.den) (a.den * b.den) := by
  rw [← Rat.divInt_sub_divInt _ _ (den_ne a) (den_ne b), Rat.num_divInt_den, Rat.num_divInt_den]
theorem mul_divInt (a b : Rat) : a * b = Rat.divInt (a.num * b.num) (a.den * b.den) := by
  rw [← Rat.divInt_mul_divInt, Rat.num_divInt_den, Rat.num_divInt_den]
theorem div_divInt (a b : Rat) : a / b = Rat.divInt (a.num * b.den) (a.den * b.num) := by
  rw [Rat.div_def]
  conv => lhs; rw [← Rat.num_divInt_den a, ← Rat.num_divInt_den b, Rat.inv_divInt, Rat.divInt_mul_divInt]
theorem lt_cross (a b : Rat) : a < b ↔ a.num * b.den < b.num * a.den := Rat.lt_iff a b
section
variable {a b c d : Int} {r : D}
theorem less_int (h1 : mulOk a d = true) (h2 : mulOk c b = true) : F_is_less [.tuple [.int a, .int b], .tuple [.int c, .int d]] = .ok (.bool (decide (a * d < c * b))) := by
  simp [F_is_less, runD, b_is_less, h1, h2]
theorem plus_int (h1 : mulOk a d = true) (h2 : mulOk c b = true) (h3 : mulOk b d = true) (h4 : F_fraction [.int (a * d + c * b), .int (b * d)] = .ok r) : F_plus [.tuple [.int a, .int b], .tuple [.int c, .int d]] = .ok r := by
  unfold F_plus r_plus
  generalize F_fraction = G at h4 ⊢
  simp [runD, b_plus, h1, h2, h3, h4]
theorem minus_int (h1 : mulOk a d = true) (h2 : mulOk c b = true) (h3 : mulOk b d = true) (h4 : F_fraction [.int (a * d - c * b), .int (b * d)] = .ok r) : F_minus [.tuple [.int a, .int b], .tuple [.int c, .int d]] = .ok r := by
  unfold F_minus r_minus
  generalize F_fraction = G at h4 ⊢
  simp [runD, b_minus, h1, h2, h3, h4]
theorem times_int (h1 : mulOk a c = true) (h3 : mulOk b d = true) (h4 : F_fraction [.int (a * c), .int (b * d)] = .ok r) : F_times [.tuple [.int a, .int b], .tuple [.int c, .int d]] = .ok r := by
  unfold F_times r_times
  generalize F_fraction = G at h4 ⊢
  simp [runD, b_times, h1, h3, h4]
theorem over_int (h1 : mulOk a d = true) (h3 : mulOk b c = true) (h4 : F_fraction [.int (a * d), .int (b * c)] = .ok r) : F_over [.tuple [.int a, .int b], .tuple [.int c, .int d]] = .ok r := by
  unfold F_over r_over
  generalize F_fraction = G at h4 ⊢
  simp [runD, b_over, h1, h3, h4]
end
section
variable {n d m e : Nat} {a b : Rat}
theorem nd_lt {x y : Int} {n m : Nat} (h : x.natAbs < 2 ^ n) (h' : y.natAbs ≤ 2 ^ m) : (x * y).natAbs < 2 ^ (n + m) := by
  rw [Int.natAbs_mul, Nat.pow_add]
  have h1 : x.natAbs * y.natAbs ≤ x.natAbs * 2 ^ m := Nat.mul_le_mul_left _ h'
  have h2 : x.natAbs * 2 ^ m < 2 ^ n * 2 ^ m := (Nat.mul_lt_mul_right (Nat.two_pow_pos m)).mpr h
  omega
theorem nn_lt {x y : Int} {n m : Nat} (h : x.natAbs < 2 ^ n) (h' : y.natAbs < 2 ^ m) : (x * y).natAbs < 2 ^ (n + m) := nd_lt h (Nat.le_of_lt h')
theorem dd_le {x y : Nat} {n m : Nat} (h : x ≤ 2 ^ n) (h' : y ≤ 2 ^ m) : x * y ≤ 2 ^ (n + m) := by
  rw [Nat.pow_add]; exact Nat.mul_le_mul h h'
theorem Bd.dabs (h : Bd n d a) : (a.den : Int).natAbs ≤ 2 ^ d := by simpa using h.den
theorem dd_abs (ha : Bd n d a) (hb : Bd m e b) : ((a.den : Int) * b.den).natAbs ≤ 2 ^ (d + e) := by
  rw [Int.natAbs_mul]
  exact dd_le ha.dabs hb.dabs
theorem dd_ne : ((a.den : Int) * b.den) ≠ 0 := Int.mul_ne_zero (den_ne a) (den_ne b)
theorem bd_add (ha : Bd n d a) (hb : Bd m e b) : Bd (max (n + e) (m + d) + 1) (d + e) (a + b) := by
  rw [add_divInt]
  refine bd_divInt dd_ne ?_ (dd_abs ha hb)
  have h1 := nd_lt ha.num hb.dabs
  have h2 := nd_lt hb.num ha.dabs
  have h3 : 2 ^ (n + e) ≤ 2 ^ (max (n + e) (m + d)) := Nat.pow_le_pow_right (by decide) (by omega)
  have h4 : 2 ^ (m + d) ≤ 2 ^ (max (n + e) (m + d)) := Nat.pow_le_pow_right (by decide) (by omega)
  have h5 : 2 ^ (max (n + e) (m + d) + 1) = 2 ^ (max (n + e) (m + d)) * 2 := Nat.pow_succ ..
  omega
theorem bd_sub (ha : Bd n d a) (hb : Bd m e b) : Bd (max (n + e) (m + d) + 1) (d + e) (a - b) := by
  rw [sub_divInt]
  refine bd_divInt dd_ne ?_ (dd_abs ha hb)
  have h1 := nd_lt ha.num hb.dabs
  have h2 := nd_lt hb.num ha.dabs
  have h3 : 2 ^ (n + e) ≤ 2 ^ (max (n + e) (m + d)) := Nat.pow_le_pow_right (by decide) (by omega)
  have h4 : 2 ^ (m + d) ≤ 2 ^ (max (n + e) (m + d)) := Nat.pow_le_pow_right (by decide) (by omega)
  have h5 : 2 ^ (max (n + e) (m + d) + 1) = 2 ^ (max (n + e) (m + d)) * 2 := Nat.pow_succ ..
  omega
theorem bd_mul (ha : Bd n d a) (hb : Bd m e b) : Bd (n + m) (d + e) (a * b) := by
  rw [mul_divInt]
  exact bd_divInt dd_ne (nn_lt ha.num hb.num) (dd_abs ha hb)
theorem bd_div (ha : Bd n d a) (hb : Bd m e b) (h : b ≠ 0) : Bd (n + e) (d + m) (a / b) := by
  rw [div_divInt]
  have hn : b.num ≠ 0 := by intro z; exact h (Rat.num_eq_zero.mp z)
  refine bd_divInt (Int.mul_ne_zero (den_ne a) hn) (nd_lt ha.num hb.dabs) ?_
  rw [Int.natAbs_mul]
  exact dd_le ha.dabs (Nat.le_of_lt hb.num)
/-- what is asked of two fractions' sizes -/
theorem is_less_ok (ha : Bd n d a) (hb : Bd m e b) (h : n + m + d + e < 800000) : F_is_less [q a, q b] = .ok (.bool (decide (a < b))) := by
  have h1 : mulOk a.num b.den = true := mulOk_of ha.num (m := e + 1) (by have := hb.dabs; have : 2 ^ (e + 1) = 2 ^ e * 2 := Nat.pow_succ ..; have := Nat.two_pow_pos e; omega) (by omega)
  have h2 : mulOk b.num a.den = true := mulOk_of hb.num (m := d + 1) (by have := ha.dabs; have : 2 ^ (d + 1) = 2 ^ d * 2 := Nat.pow_succ ..; have := Nat.two_pow_pos d; omega) (by omega)
  rw [decide_eq_decide.mpr (lt_cross a b)]
  exact less_int h1 h2
theorem mulOk_nd (ha : Bd n d a) (hb : Bd m e b) (h : n + e < 800000) : mulOk a.num b.den = true := mulOk_of ha.num (m := e + 1) (by have := hb.dabs; have : 2 ^ (e + 1) = 2 ^ e * 2 := Nat.pow_succ ..; have := Nat.two_pow_pos e; omega) (by omega)
theorem mulOk_dd (ha : Bd n d a) (hb : Bd m e b) (h : d + e < 800000) : mulOk a.den b.den = true :=
  mulOk_of (n := d + 1) (m := e + 1) (by have := ha.dabs; have : 2 ^ (d + 1) = 2 ^ d * 2 := Nat.pow_succ ..; have := Nat.two_pow_pos d; omega) (by have := hb.dabs; have : 2 ^ (e + 1) = 2 ^ e * 2 := Nat.pow_succ ..; have := Nat.two_pow_pos e; omega) (by omega)
theorem log_le {n k : Nat} (h : n ≤ 2 ^ k) : n.log2 ≤ k := by
  have : n < 2 ^ (k + 1) := by rw [Nat.pow_succ]; have := Nat.two_pow_pos k; omega
  by_cases hn : n = 0
  · subst hn; simp
  · have := (Nat.log2_lt hn).mpr this
    omega
theorem dd_lt (ha : Bd n d a) (hb : Bd m e b) (h : d + e < 9000) : ((a.den : Int) * b.den).natAbs.log2 < 9000 := by
  have := log_le (dd_abs ha hb)
  omega
theorem plus_ok (ha : Bd n d a) (hb : Bd m e b) (h : n + m + d + e < 800000) (h' : d + e < 9000) : F_plus [q a, q b] = .ok (q (a + b)) := by
  have h1 := mulOk_nd ha hb (by omega)
  have h2 := mulOk_nd hb ha (by omega)
  have h3 := mulOk_dd ha hb (by omega)
  have h4 := fraction_ok (a := a.num * b.den + b.num * a.den) (b := a.den * b.den) dd_ne (dd_lt ha hb h')
  rw [← add_divInt] at h4
  exact plus_int h1 h2 h3 h4
theorem minus_ok (ha : Bd n d a) (hb : Bd m e b) (h : n + m + d + e < 800000) (h' : d + e < 9000) : F_minus [q a, q b] = .ok (q (a - b)) := by
  have h1 := mulOk_nd ha hb (by omega)
  have h2 := mulOk_nd hb ha (by omega)
  have h3 := mulOk_dd ha hb (by omega)
  have h4 := fraction_ok (a := a.num * b.den - b.num * a.den) (b := a.den * b.den) dd_ne (dd_lt ha hb h')
  rw [← sub_divInt] at h4
  exact minus_int h1 h2 h3 h4
theorem times_ok (ha : Bd n d a) (hb : Bd m e b) (h : n + m + d + e < 800000) (h' : d + e < 9000) : F_times [q a, q b] = .ok (q (a * b)) := by
  have h1 : mulOk a.num b.num = true := mulOk_of ha.num hb.num (by omega)
  have h3 := mulOk_dd ha hb (by omega)
  have h4 := fraction_ok (a := a.num * b.num) (b := a.den * b.den) dd_ne (dd_lt ha hb h')
  rw [← mul_divInt] at h4
  exact times_int h1 h3 h4
theorem over_ok (ha : Bd n d a) (hb : Bd m e b) (hz : b ≠ 0) (h : n + m + d + e < 800000) (h' : d + m < 9000) : F_over [q a, q b] = .ok (q (a / b)) := by
  have hn : b.num ≠ 0 := by intro z; exact hz (Rat.num_eq_zero.mp z)
  have h1 := mulOk_nd ha hb (by omega)
  have h3 : mulOk a.den b.num = true := mulOk_of (n := d + 1) (by have := ha.dabs; have : 2 ^ (d + 1) = 2 ^ d * 2 := Nat.pow_succ ..; have := Nat.two_pow_pos d; omega) hb.num (by omega)
  have h4 := fraction_ok (a := a.num * b.den) (b := a.den * b.num) (Int.mul_ne_zero (den_ne a) hn) (by
    rw [Int.natAbs_mul]
    have h5 := dd_le ha.dabs (Nat.le_of_lt hb.num)
    have := log_le h5
    omega)
  rw [← div_divInt] at h4
  exact over_int h1 h3 h4
end
end Rw
namespace Rw
abbrev Pt := Rat × Rat
abbrev Sg := Pt × Pt
def gone (a b : Pt) : Pt := (b.1 - a.1, b.2 - a.2)
def dot (u v : Pt) : Rat := u.1 * v.1 + u.2 * v.2
def crs (u v : Pt) : Rat := u.1 * v.2 - u.2 * v.1
def far (a b : Pt) : Rat := dot (gone a b) (gone a b)
def atW (w : Sg) (t : Rat) : Pt := (w.1.1 + t * (gone w.1 w.2).1, w.1.2 + t * (gone w.1 w.2).2)
def near (w : Sg) (p : Pt) : Pt :=
  if dot (gone w.1 w.2) (gone w.1 w.2) = 0 then w.1
  else if dot (gone w.1 w.2) (gone w.1 p) / dot (gone w.1 w.2) (gone w.1 w.2) < 0 then w.1
  else if 1 < dot (gone w.1 w.2) (gone w.1 p) / dot (gone w.1 w.2) (gone w.1 w.2) then w.2
  else atW w (dot (gone w.1 w.2) (gone w.1 p) / dot (gone w.1 w.2) (gone w.1 w.2))
def cross (a b : Sg) : Option Pt :=
  if crs (gone a.1 a.2) (gone b.1 b.2) = 0 then none
  else if (crs (gone a.1 b.1) (gone b.1 b.2) / crs (gone a.1 a.2) (gone b.1 b.2) < 0 ∨ 1 < crs (gone a.1 b.1) (gone b.1 b.2) / crs (gone a.1 a.2) (gone b.1 b.2)) ∨
      (crs (gone a.1 b.1) (gone a.1 a.2) / crs (gone a.1 a.2) (gone b.1 b.2) < 0 ∨ 1 < crs (gone a.1 b.1) (gone a.1 a.2) / crs (gone a.1 a.2) (gone b.1 b.2)) then none
  else some (atW a (crs (gone a.1 b.1) (gone b.1 b.2) / crs (gone a.1 a.2) (gone b.1 b.2)))
def pairs (a b : Sg) : List Sg := [(a.1, near b a.1), (a.2, near b a.2), (near a b.1, b.1), (near a b.2, b.2)]
def best (l : List Sg) (f : Sg) : Sg := l.foldl (fun f z => if far z.1 z.2 < far f.1 f.2 then z else f) f
def nearTwo (a b : Sg) : Sg := match cross a b with
  | some p => (p, p)
  | none => best (pairs a b) (a.1, near b a.1)
def toF (w : Sg) (p : Pt) : Rat :=
  if dot (gone w.1 w.2) (gone w.1 w.2) = 0 ∨ dot (gone w.1 w.2) (gone w.1 p) ≤ 0 then far w.1 p
  else if ¬ dot (gone w.1 w.2) (gone w.1 p) < dot (gone w.1 w.2) (gone w.1 w.2) then far w.2 p
  else crs (gone w.1 w.2) (gone w.1 p) * crs (gone w.1 w.2) (gone w.1 p) / dot (gone w.1 w.2) (gone w.1 w.2)
def sgn (r : Rat) : Int := (if 0 < r then 1 else 0) - (if r < 0 then 1 else 0)
def sense (a b c : Pt) : Int := sgn (crs (gone a b) (gone a c))
def touch (a b : Sg) : Bool := decide (toF a b.1 = 0 ∨ toF a b.2 = 0 ∨ toF b a.1 = 0 ∨ toF b a.2 = 0) ||
  decide (sense a.1 a.2 b.1 * sense a.1 a.2 b.2 < 0 ∧ sense b.1 b.2 a.1 * sense b.1 b.2 a.2 < 0)
def least (l : List Rat) (f : Rat) : Rat := l.foldl (fun f z => if z < f then z else f) f
def apartL (a b : Sg) : Rat := if touch a b then 0 else least [toF a b.1, toF a b.2, toF b a.1, toF b a.2] (toF a b.1)
end Rw
namespace Rw
open PySem
/-! ## data without truths and words -/
inductive Pl : Nat → D → Prop where
  | int (k : Nat) (i : Int) : Pl k (.int i)
  | non (k : Nat) : Pl k .none
  | tup {k : Nat} {l : List D} (h : ∀ x ∈ l, Pl k x) : Pl (k + 1) (.tuple l)
  | lst {k : Nat} {l : List D} (h : ∀ x ∈ l, Pl k x) : Pl (k + 1) (.list l)
theorem eqv_pl : ∀ (k : Nat), (∀ a b, Pl k a → Pl k b → (PyData.eqv a b = true ↔ a = b)) ∧ ∀ a b, (∀ x ∈ a, Pl k x) → (∀ x ∈ b, Pl k x) → (PyData.eqvAll a b = true ↔ a = b) := by
  have all : ∀ k, (∀ a b, Pl k a → Pl k b → (PyData.eqv a b = true ↔ a = b)) → ∀ a b, (∀ x ∈ a, Pl k x) → (∀ x ∈ b, Pl k x) → (PyData.eqvAll a b = true ↔ a = b) := by
    intro k h a
    induction a with
    | nil => intro b _ _; cases b <;> simp [PyData.eqvAll]
    | cons x xs ih =>
      intro b ha hb
      cases b with
      | nil => simp [PyData.eqvAll]
      | cons y ys =>
        simp only [PyData.eqvAll, Bool.and_eq_true, List.cons.injEq]
        rw [h x y (ha x (by simp)) (hb y (by simp)), ih ys (fun z hz => ha z (by simp [hz])) (fun z hz => hb z (by simp [hz]))]
  intro k
  induction k with
  | zero =>
    have h0 : ∀ a b, Pl 0 a → Pl 0 b → (PyData.eqv a b = true ↔ a = b) := by
      intro a b ha hb
      cases ha <;> cases hb <;> simp [PyData.eqv]
    exact ⟨h0, all 0 h0⟩
  | succ k ih =>
    have h1 : ∀ a b, Pl (k + 1) a → Pl (k + 1) b → (PyData.eqv a b = true ↔ a = b) := by
      intro a b ha hb
      cases ha with
      | int _ i => cases hb <;> simp [PyData.eqv]
      | non => cases hb <;> simp [PyData.eqv]
      | tup h => cases hb with
        | tup h' => simp only [PyData.eqv, PyData.tuple.injEq]; exact ih.2 _ _ h h'
        | _ => simp [PyData.eqv]
      | lst h => cases hb with
        | lst h' => simp only [PyData.eqv, PyData.list.injEq]; exact ih.2 _ _ h h'
        | _ => simp [PyData.eqv]
    exact ⟨h1, all _ h1⟩
theorem shp_pl : ∀ (k : Nat), (∀ a, Pl k a → a.canLay0 = true ∧ a.depth ≤ k) ∧ ∀ a, (∀ x ∈ a, Pl k x) → PyData.canLayAll0 a = true ∧ PyData.depthAll a ≤ k := by
  have all : ∀ k, (∀ a, Pl k a → a.canLay0 = true ∧ a.depth ≤ k) → ∀ a, (∀ x ∈ a, Pl k x) → PyData.canLayAll0 a = true ∧ PyData.depthAll a ≤ k := by
    intro k h a
    induction a with
    | nil => intro _; simp [PyData.canLayAll0, PyData.depthAll]
    | cons x xs ih =>
      intro ha
      obtain ⟨h1, h2⟩ := h x (ha x (by simp))
      obtain ⟨h3, h4⟩ := ih fun z hz => ha z (by simp [hz])
      simp only [PyData.canLayAll0, PyData.depthAll, h1, h3, Bool.and_self, true_and]
      omega
  intro k
  induction k with
  | zero =>
    have h0 : ∀ a, Pl 0 a → a.canLay0 = true ∧ a.depth ≤ 0 := by
      intro a ha
      cases ha <;> simp [PyData.canLay0, PyData.depth]
    exact ⟨h0, all 0 h0⟩
  | succ k ih =>
    have h1 : ∀ a, Pl (k + 1) a → a.canLay0 = true ∧ a.depth ≤ k + 1 := by
      intro a ha
      cases ha with
      | int _ i => simp [PyData.canLay0, PyData.depth]
      | non => simp [PyData.canLay0, PyData.depth]
      | tup h => obtain ⟨h1, h2⟩ := ih.2 _ h; simp only [PyData.canLay0, PyData.depth, h1, true_and]; omega
      | lst h => obtain ⟨h1, h2⟩ := ih.2 _ h; simp only [PyData.canLay0, PyData.depth, h1, true_and]; omega
    exact ⟨h1, all _ h1⟩
theorem Pl.shaped {k : Nat} {a : D} (h : Pl k a) (hk : k ≤ 64) : SeqAt.shaped a = true := by
  obtain ⟨h1, h2⟩ := (shp_pl k).1 a h
  unfold SeqAt.shaped
  rw [h1, Bool.true_and]
  exact decide_eq_true (by omega)
theorem Pl.mono {k : Nat} {a : D} (h : Pl k a) : ∀ {m}, k ≤ m → Pl m a := by
  induction h with
  | int k i => intro m _; exact .int _ _
  | non => intro m _; exact .non _
  | tup h ih =>
    intro m hm
    obtain ⟨m', rfl⟩ : ∃ m', m = m' + 1 := ⟨m - 1, by omega⟩
    exact .tup fun x hx => ih x hx (by omega)
  | lst h ih =>
    intro m hm
    obtain ⟨m', rfl⟩ : ∃ m', m = m' + 1 := ⟨m - 1, by omega⟩
    exact .lst fun x hx => ih x hx (by omega)
theorem eqD_pl {k : Nat} {a b : D} (ha : Pl k a) (hb : Pl k b) (hk : k ≤ 64) (c : Bool) (h : c = true ↔ a = b) : eqD a b = .ok c := by
  unfold eqD
  rw [ha.shaped hk, hb.shaped hk]
  have : PyData.eqv a b = c := by
    rw [Bool.eq_iff_iff, (eqv_pl k).1 a b ha hb, h]
  rw [this]; rfl
theorem inD_pl {k : Nat} {a : D} {l : List D} (ha : Pl k a) (hl : ∀ x ∈ l, Pl k x) (hk : k < 64) (c : Bool) (h : c = true ↔ a ∈ l) : inD a (.list l) = .ok c := by
  unfold inD
  dsimp only
  rw [ha.shaped (by omega), (Pl.lst hl).shaped (by omega)]
  have : (l.any fun z => PyData.eqv z a) = c := by
    rw [Bool.eq_iff_iff, h, List.any_eq_true]
    constructor
    · rintro ⟨x, hx, e⟩
      rw [(eqv_pl k).1 x a (hl x hx) ha] at e
      rw [← e]; exact hx
    · intro hx
      exact ⟨a, hx, ((eqv_pl k).1 a a ha ha).mpr rfl⟩
  rw [this]; rfl
/-! ## points -/
def pt (p : Pt) : D := .tuple [q p.1, q p.2]
def sg (s : Sg) : D := .tuple [pt s.1, pt s.2]
theorem pl_q (r : Rat) : Pl 1 (q r) := .tup fun x hx => by simp at hx; rcases hx with rfl | rfl <;> exact .int _ _
theorem pl_pt (p : Pt) : Pl 2 (pt p) := .tup fun x hx => by simp at hx; rcases hx with rfl | rfl <;> exact pl_q _
theorem pl_sg (s : Sg) : Pl 3 (sg s) := .tup fun x hx => by simp at hx; rcases hx with rfl | rfl <;> exact pl_pt _
theorem q_inj {a b : Rat} : q a = q b ↔ a = b := by
  constructor
  · intro h
    unfold q at h
    simp only [PyData.tuple.injEq, List.cons.injEq, PyData.int.injEq, and_true] at h
    exact Rat.ext h.1 (by omega)
  · rintro rfl; rfl
theorem pt_inj {a b : Pt} : pt a = pt b ↔ a = b := by
  unfold pt
  simp only [PyData.tuple.injEq, List.cons.injEq, q_inj, and_true]
  exact ⟨fun h => Prod.ext h.1 h.2, fun h => by rw [h]; exact ⟨rfl, rfl⟩⟩
theorem sg_inj {a b : Sg} : sg a = sg b ↔ a = b := by
  unfold sg
  simp only [PyData.tuple.injEq, List.cons.injEq, pt_inj, and_true]
  exact ⟨fun h => Prod.ext h.1 h.2, fun h => by rw [h]; exact ⟨rfl, rfl⟩⟩
theorem eq_q (a b : Rat) : eqD (q a) (q b) = .ok (decide (a = b)) := eqD_pl (pl_q a) (pl_q b) (by decide) _ (by simp [q_inj])
theorem eq_pt (a b : Pt) : eqD (pt a) (pt b) = .ok (decide (a = b)) := eqD_pl (pl_pt a) (pl_pt b) (by decide) _ (by simp [pt_inj])
/-- so great at most, both -/
def BP (n d : Nat) (p : Pt) : Prop := Bd n d p.1 ∧ Bd n d p.2
def BS (n d : Nat) (s : Sg) : Prop := BP n d s.1 ∧ BP n d s.2
theorem BP.mono {n d n' d' : Nat} {p : Pt} (h : BP n d p) (hn : n ≤ n') (hd : d ≤ d') : BP n' d' p := ⟨h.1.mono hn hd, h.2.mono hn hd⟩
theorem BS.mono {n d n' d' : Nat} {p : Sg} (h : BS n d p) (hn : n ≤ n') (hd : d ≤ d') : BS n' d' p := ⟨h.1.mono hn hd, h.2.mono hn hd⟩
section
variable {n d m e : Nat} {a b : Pt}
theorem bp_gone (ha : BP n d a) (hb : BP m e b) : BP (max (m + d) (n + e) + 1) (e + d) (gone a b) := ⟨bd_sub hb.1 ha.1, bd_sub hb.2 ha.2⟩
theorem bd_dot (ha : BP n d a) (hb : BP m e b) : Bd (n + m + d + e + 1) (d + e + (d + e)) (dot a b) :=
  (bd_add (bd_mul ha.1 hb.1) (bd_mul ha.2 hb.2)).mono (by omega) (by omega)
theorem bd_crs (ha : BP n d a) (hb : BP m e b) : Bd (n + m + d + e + 1) (d + e + (d + e)) (crs a b) :=
  (bd_sub (bd_mul ha.1 hb.2) (bd_mul ha.2 hb.1)).mono (by omega) (by omega)
end
section
variable {a b c d x y z : D}
theorem step_gen (h1 : F_minus [c, a] = .ok x) (h2 : F_minus [d, b] = .ok y) : F_step_from [.tuple [a, b], .tuple [c, d]] = .ok (.tuple [x, y]) := by
  unfold F_step_from r_step_from
  generalize F_minus = G at h1 h2 ⊢
  simp [runD, b_step_from, h1, h2, big]
theorem inner_gen (h1 : F_times [a, c] = .ok x) (h2 : F_times [b, d] = .ok y) (h3 : F_plus [x, y] = .ok z) : F_inner [.tuple [a, b], .tuple [c, d]] = .ok z := by
  unfold F_inner r_inner
  generalize F_times = G at h1 h2 ⊢
  generalize F_plus = G' at h3 ⊢
  simp [runD, b_inner, h1, h2, h3]
theorem across_gen (h1 : F_times [a, d] = .ok x) (h2 : F_times [b, c] = .ok y) (h3 : F_minus [x, y] = .ok z) : F_across [.tuple [a, b], .tuple [c, d]] = .ok z := by
  unfold F_across r_across
  generalize F_times = G at h1 h2 ⊢
  generalize F_minus = G' at h3 ⊢
  simp [runD, b_across, h1, h2, h3]
theorem square_gen (h1 : F_step_from [a, b] = .ok x) (h2 : F_inner [x, x] = .ok y) : F_square_far [a, b] = .ok y := by
  unfold F_square_far r_square_far
  generalize F_step_from = G at h1 ⊢
  generalize F_inner = G' at h2 ⊢
  simp [runD, b_square_far, h1, h2]
end
section
variable {n d m e : Nat} {a b : Pt}
theorem step_ok (ha : BP n d a) (hb : BP m e b) (h : n + m + d + e < 800000) (h' : d + e < 9000) : F_step_from [pt a, pt b] = .ok (pt (gone a b)) :=
  step_gen (minus_ok hb.1 ha.1 (by omega) (by omega)) (minus_ok hb.2 ha.2 (by omega) (by omega))
theorem inner_ok (ha : BP n d a) (hb : BP m e b) (h : 2 * (n + m + d + e) < 300000) (h' : 2 * (d + e) < 9000) : F_inner [pt a, pt b] = .ok (q (dot a b)) :=
  inner_gen (times_ok ha.1 hb.1 (by omega) (by omega)) (times_ok ha.2 hb.2 (by omega) (by omega)) (plus_ok (bd_mul ha.1 hb.1) (bd_mul ha.2 hb.2) (by omega) (by omega))
theorem across_ok (ha : BP n d a) (hb : BP m e b) (h : 2 * (n + m + d + e) < 300000) (h' : 2 * (d + e) < 9000) : F_across [pt a, pt b] = .ok (q (crs a b)) :=
  across_gen (times_ok ha.1 hb.2 (by omega) (by omega)) (times_ok ha.2 hb.1 (by omega) (by omega)) (minus_ok (bd_mul ha.1 hb.2) (bd_mul ha.2 hb.1) (by omega) (by omega))
theorem square_ok (ha : BP n d a) (hb : BP m e b) (h : n + m + d + e < 50000) (h' : 4 * (d + e) < 9000) : F_square_far [pt a, pt b] = .ok (q (far a b)) :=
  square_gen (step_ok ha hb (by omega) (by omega)) (inner_ok (bp_gone ha hb) (bp_gone ha hb) (by omega) (by omega))
end
end Rw
namespace Rw
open PySem
section
variable {a b c d x y z t g0 g1 u v w0 w1 p g whole gp num share pa : D}
theorem point_gen (h1 : F_step_from [.tuple [x, y], b] = .ok (.tuple [g0, g1])) (h2 : F_times [t, g0] = .ok u) (h3 : F_times [t, g1] = .ok v) (h4 : F_plus [x, u] = .ok c) (h5 : F_plus [y, v] = .ok d) :
    F_point_at [.tuple [.tuple [x, y], b], t] = .ok (.tuple [c, d]) := by
  unfold F_point_at r_point_at
  generalize F_step_from = G at h1 ⊢
  generalize F_times = G' at h2 h3 ⊢
  generalize F_plus = G'' at h4 h5 ⊢
  simp [runD, b_point_at, h1, h2, h3, h4, h5, big]
theorem nearest_gen {k l1 l2 : Bool} (h1 : F_step_from [w0, w1] = .ok g) (h2 : F_inner [g, g] = .ok whole) (hz : eqD whole (q 0) = .ok k)
    (h3 : k = false → F_step_from [w0, p] = .ok gp ∧ F_inner [g, gp] = .ok num ∧ F_over [num, whole] = .ok share ∧ F_is_less [share, q 0] = .ok (.bool l1) ∧ F_is_less [q 1, share] = .ok (.bool l2) ∧ F_point_at [.tuple [w0, w1], share] = .ok pa) :
    F_nearest [.tuple [w0, w1], p] = .ok (if k then w0 else if l1 then w0 else if l2 then w1 else pa) := by
  have e0 : q 0 = .tuple [.int 0, .int 1] := rfl
  have e1 : q 1 = .tuple [.int 1, .int 1] := rfl
  rw [e0] at hz h3
  rw [e1] at h3
  unfold F_nearest r_nearest
  generalize F_step_from = G1 at h1 h3 ⊢
  generalize F_inner = G2 at h2 h3 ⊢
  generalize F_over = G3 at h3 ⊢
  generalize F_is_less = G4 at h3 ⊢
  generalize F_point_at = G5 at h3 ⊢
  cases k with
  | true => simp [runD, b_nearest, h1, h2, hz]
  | false =>
    obtain ⟨a1, a2, a3, a4, a5, a6⟩ := h3 rfl
    cases l1 <;> cases l2 <;> simp [runD, b_nearest, h1, h2, hz, a1, a2, a3, a4, a5, a6]
theorem crossing_gen {a0 a1 b0 b1 s0 s1 bt n0 n1 : D} {k l1 l2 l3 l4 : Bool} (h1 : F_step_from [a0, a1] = .ok g) (h2 : F_step_from [b0, b1] = .ok gp) (h3 : F_across [g, gp] = .ok whole) (hz : eqD whole (q 0) = .ok k)
    (h4 : k = false → F_step_from [a0, b0] = .ok bt ∧ F_across [bt, gp] = .ok n0 ∧ F_across [bt, g] = .ok n1 ∧ F_over [n0, whole] = .ok s0 ∧ F_over [n1, whole] = .ok s1 ∧ F_is_less [s0, q 0] = .ok (.bool l1) ∧ F_is_less [q 1, s0] = .ok (.bool l2) ∧
      F_is_less [s1, q 0] = .ok (.bool l3) ∧ F_is_less [q 1, s1] = .ok (.bool l4) ∧ F_point_at [.tuple [a0, a1], s0] = .ok pa) :
    F_crossing [.tuple [a0, a1], .tuple [b0, b1]] = .ok (if k then .none else if (l1 || l2) || (l3 || l4) then .none else pa) := by
  have e0 : q 0 = .tuple [.int 0, .int 1] := rfl
  have e1 : q 1 = .tuple [.int 1, .int 1] := rfl
  rw [e0] at hz h4
  rw [e1] at h4
  unfold F_crossing r_crossing
  generalize F_step_from = G1 at h1 h2 h4 ⊢
  generalize F_across = G2 at h3 h4 ⊢
  generalize F_over = G3 at h4 ⊢
  generalize F_is_less = G4 at h4 ⊢
  generalize F_point_at = G5 at h4 ⊢
  cases k with
  | true => simp [runD, b_crossing, h1, h2, h3, hz]
  | false =>
    obtain ⟨c1, c2, c3, c4, c5, c6, c7, c8, c9, c10⟩ := h4 rfl
    cases l1 <;> cases l2 <;> cases l3 <;> cases l4 <;> simp [runD, b_crossing, h1, h2, h3, hz, c1, c2, c3, c4, c5, c6, c7, c8, c9, c10, compV, compN, compF, wipeF, big, bltD, boolsD]
theorem two_gen {a0 a1 b0 b1 m0 m1 m2 m3 : D} (h1 : F_crossing [.tuple [a0, a1], .tuple [b0, b1]] = .ok .none) (h2 : F_nearest [.tuple [b0, b1], a0] = .ok m0) (h3 : F_nearest [.tuple [b0, b1], a1] = .ok m1) (h4 : F_nearest [.tuple [a0, a1], b0] = .ok m2) (h5 : F_nearest [.tuple [a0, a1], b1] = .ok m3)
    {less : D → D → Bool} (hl : ∀ p p' r r', (p, p') ∈ [(a0, m0), (a1, m1), (m2, b0), (m3, b1)] → (r, r') ∈ [(a0, m0), (a1, m1), (m2, b0), (m3, b1)] → ∃ x y, F_square_far [p, p'] = .ok x ∧ F_square_far [r, r'] = .ok y ∧ F_is_less [x, y] = .ok (.bool (less (.tuple [p, p']) (.tuple [r, r'])))) :
    F_nearest_two [.tuple [a0, a1], .tuple [b0, b1]] = .ok ([.tuple [a0, m0], .tuple [a1, m1], .tuple [m2, b0], .tuple [m3, b1]].foldl (fun f z => if less z f then z else f) (.tuple [a0, m0])) := by
  unfold F_nearest_two r_nearest_two
  generalize F_crossing = G1 at h1 ⊢
  generalize F_nearest = G2 at h2 h3 h4 h5 ⊢
  generalize F_is_less = G3 at hl ⊢
  generalize F_square_far = G4 at hl ⊢
  have step : ∀ (l : List (D × D)) (r r' : D) (v0 v1 v2 v3 v4 : Sl) (w : Sl), (∀ z ∈ l, z ∈ [(a0, m0), (a1, m1), (m2, b0), (m3, b1)]) → (r, r') ∈ [(a0, m0), (a1, m1), (m2, b0), (m3, b1)] →
      ∃ w', forN (fun d e' => tgF (semTg (.nm 6) d e') (semSs ⟨[⟨"crossing", 2, G1⟩, ⟨"nearest", 2, G2⟩, ⟨"is_less", 2, G3⟩, ⟨"square_far", 2, G4⟩], []⟩
        (.cons (.ifS false (.call 2 (.cons (.call 3 (.cons (.idx (.var 6) (.int 0)) (.cons (.idx (.var 6) (.int 1)) .nil))) (.cons (.call 3 (.cons (.idx (.var 5) (.int 0)) (.cons (.idx (.var 5) (.int 1)) .nil))) .nil))) (.cons (.asg false (.nm 5) (.var 6)) .nil) .nil) .nil))) (l.map fun z => .tuple [z.1, z.2])
        [v0, v1, v2, v3, v4, .val (.tuple [r, r']), w] = .nx [v0, v1, v2, v3, v4, .val ((l.map fun z => .tuple [z.1, z.2]).foldl (fun f z => if less z f then z else f) (.tuple [r, r'])), w'] := by
    intro l
    induction l with
    | nil => intro r r' v0 v1 v2 v3 v4 w _ _; exact ⟨w, by simp⟩
    | cons z l ih =>
      intro r r' v0 v1 v2 v3 v4 w hz hr
      obtain ⟨x, y, e1, e2, e3⟩ := hl z.1 z.2 r r' (hz z (by simp)) hr
      cases hb : less (.tuple [z.1, z.2]) (.tuple [r, r']) with
      | true =>
        obtain ⟨w', hw⟩ := ih z.1 z.2 v0 v1 v2 v3 v4 (.val (.tuple [z.1, z.2])) (fun u hu => hz u (by simp [hu])) (hz z (by simp))
        refine ⟨w', ?_⟩
        rw [hb] at e3
        simp [e1, e2, e3, hb]
        simpa using hw
      | false =>
        obtain ⟨w', hw⟩ := ih r r' v0 v1 v2 v3 v4 (.val (.tuple [z.1, z.2])) (fun u hu => hz u (by simp [hu])) hr
        refine ⟨w', ?_⟩
        rw [hb] at e3
        simp [e1, e2, e3, hb]
        simpa using hw
  obtain ⟨w', hw⟩ := step [(a0, m0), (a1, m1), (m2, b0), (m3, b1)] a0 m0 (.val (.tuple [a0, a1])) (.val (.tuple [b0, b1])) (.val .none) (.val (.list [.tuple [a0, m0], .tuple [a1, m1], .tuple [m2, b0], .tuple [m3, b1]])) .un .un (fun z hz => hz) (by simp)
  simp [runD, b_nearest_two, h1, h2, h3, h4, h5, compV, compN, compF, wipeF, big, isNoneD]
  simp at hw
  simp [hw]
theorem two_gen' {a0 a1 b0 b1 : D} (hp : isNoneD p = false) (h1 : F_crossing [.tuple [a0, a1], .tuple [b0, b1]] = .ok p) : F_nearest_two [.tuple [a0, a1], .tuple [b0, b1]] = .ok (.tuple [p, p]) := by
  unfold F_nearest_two r_nearest_two
  generalize F_crossing = G1 at h1 ⊢
  simp [runD, b_nearest_two, h1, hp, big]
end
end Rw
namespace Rw
open PySem
/-- small enough for all that is reckoned of walls and points -/
def Cd (n d : Nat) : Prop := 8 * n + 80 * d + 100 < 9000
section
variable {n d m e : Nat} {a b w : Sg} {p : Pt} {t : Rat}
theorem bp_atW (hw : BS n d w) (ht : Bd m e t) : BP (max (n + (e + 2 * d)) (m + n + 2 * d + 1) + 1) (3 * d + e) (atW w t) := by
  have hg := bp_gone hw.1 hw.2
  exact ⟨(bd_add hw.1.1 (bd_mul ht hg.1)).mono (by omega) (by omega), (bd_add hw.1.2 (bd_mul ht hg.2)).mono (by omega) (by omega)⟩
theorem point_ok (hw : BS n d w) (ht : Bd m e t) (h : n + m < 100000) (h' : 3 * d + e < 9000) : F_point_at [sg w, q t] = .ok (pt (atW w t)) := by
  have hg := bp_gone hw.1 hw.2
  exact point_gen (step_ok hw.1 hw.2 (by omega) (by omega)) (times_ok ht hg.1 (by omega) (by omega)) (times_ok ht hg.2 (by omega) (by omega)) (plus_ok hw.1.1 (bd_mul ht hg.1) (by omega) (by omega)) (plus_ok hw.1.2 (bd_mul ht hg.2) (by omega) (by omega))
theorem bd_q0 : Bd 1 0 (0 : Rat) := ⟨by decide, by decide⟩
theorem bd_q1 : Bd 1 0 (1 : Rat) := ⟨by decide, by decide⟩
/-- the share along a wall -/
theorem bd_share (hw : BS n d w) (hp : BP n d p) (hz : dot (gone w.1 w.2) (gone w.1 w.2) ≠ 0) : Bd (2 * n + 14 * d + 3) (2 * n + 14 * d + 3) (dot (gone w.1 w.2) (gone w.1 p) / dot (gone w.1 w.2) (gone w.1 w.2)) :=
  (bd_div (bd_dot (bp_gone hw.1 hw.2) (bp_gone hw.1 hp)) (bd_dot (bp_gone hw.1 hw.2) (bp_gone hw.1 hw.2)) hz).mono (by omega) (by omega)
theorem bp_near (hw : BS n d w) (hp : BP n d p) : BP (3 * n + 17 * d + 6) (2 * n + 17 * d + 3) (near w p) := by
  unfold near
  split
  · exact hw.1.mono (by omega) (by omega)
  · rename_i hz
    split
    · exact hw.1.mono (by omega) (by omega)
    · split
      · exact hw.2.mono (by omega) (by omega)
      · exact (bp_atW hw (bd_share hw hp hz)).mono (by omega) (by omega)
theorem nearest_ok (hw : BS n d w) (hp : BP n d p) (c : Cd n d) : F_nearest [sg w, pt p] = .ok (pt (near w p)) := by
  unfold Cd at c
  have hg := bp_gone hw.1 hw.2
  have hgp := bp_gone hw.1 hp
  have hwh := bd_dot hg hg
  have := nearest_gen (w0 := pt w.1) (w1 := pt w.2) (p := pt p) (g := pt (gone w.1 w.2)) (whole := q (dot (gone w.1 w.2) (gone w.1 w.2))) (gp := pt (gone w.1 p)) (num := q (dot (gone w.1 w.2) (gone w.1 p)))
    (share := q (dot (gone w.1 w.2) (gone w.1 p) / dot (gone w.1 w.2) (gone w.1 w.2))) (pa := pt (atW w (dot (gone w.1 w.2) (gone w.1 p) / dot (gone w.1 w.2) (gone w.1 w.2))))
    (k := decide (dot (gone w.1 w.2) (gone w.1 w.2) = 0)) (l1 := decide (dot (gone w.1 w.2) (gone w.1 p) / dot (gone w.1 w.2) (gone w.1 w.2) < 0)) (l2 := decide (1 < dot (gone w.1 w.2) (gone w.1 p) / dot (gone w.1 w.2) (gone w.1 w.2)))
    (step_ok hw.1 hw.2 (by omega) (by omega)) (inner_ok hg hg (by omega) (by omega)) (eq_q _ _) fun hk => by
      have hz : dot (gone w.1 w.2) (gone w.1 w.2) ≠ 0 := of_decide_eq_false hk
      have hs := bd_share hw hp hz
      exact ⟨step_ok hw.1 hp (by omega) (by omega), inner_ok hg hgp (by omega) (by omega), over_ok (bd_dot hg hgp) hwh hz (by omega) (by omega), is_less_ok hs bd_q0 (by omega), is_less_ok bd_q1 hs (by omega), point_ok hw hs (by omega) (by omega)⟩
  rw [show F_nearest [sg w, pt p] = _ from this]
  unfold near
  by_cases h1 : dot (gone w.1 w.2) (gone w.1 w.2) = 0
  · simp [h1]
  · by_cases h2 : dot (gone w.1 w.2) (gone w.1 p) / dot (gone w.1 w.2) (gone w.1 w.2) < 0
    · simp [h1, h2]
    · by_cases h3 : 1 < dot (gone w.1 w.2) (gone w.1 p) / dot (gone w.1 w.2) (gone w.1 w.2) <;> simp [h1, h2, h3]
def optD : Option Pt → D
  | some p => pt p
  | none => .none
theorem bd_shareC (ha : BS n d a) (hb : BS n d b) {u v : Pt} (hu : BP (n + d + 1) (2 * d) u) (hv : BP (n + d + 1) (2 * d) v) (hz : crs (gone a.1 a.2) (gone b.1 b.2) ≠ 0) : Bd (2 * n + 14 * d + 3) (2 * n + 14 * d + 3) (crs u v / crs (gone a.1 a.2) (gone b.1 b.2)) :=
  (bd_div (bd_crs hu hv) (bd_crs (bp_gone ha.1 ha.2) (bp_gone hb.1 hb.2)) hz).mono (by omega) (by omega)
theorem bp_cross (ha : BS n d a) (hb : BS n d b) (h : cross a b = some p) : BP (3 * n + 17 * d + 6) (2 * n + 17 * d + 3) p := by
  unfold cross at h
  split at h
  · cases h
  · rename_i hz
    split at h
    · cases h
    · cases h
      exact (bp_atW ha (bd_shareC ha hb ((bp_gone ha.1 hb.1).mono (by omega) (by omega)) ((bp_gone hb.1 hb.2).mono (by omega) (by omega)) hz)).mono (by omega) (by omega)
theorem crossing_ok (ha : BS n d a) (hb : BS n d b) (c : Cd n d) : F_crossing [sg a, sg b] = .ok (optD (cross a b)) := by
  unfold Cd at c
  have hg := bp_gone ha.1 ha.2
  have hm := bp_gone hb.1 hb.2
  have ht := bp_gone ha.1 hb.1
  have := crossing_gen (a0 := pt a.1) (a1 := pt a.2) (b0 := pt b.1) (b1 := pt b.2) (g := pt (gone a.1 a.2)) (gp := pt (gone b.1 b.2)) (whole := q (crs (gone a.1 a.2) (gone b.1 b.2))) (bt := pt (gone a.1 b.1)) (n0 := q (crs (gone a.1 b.1) (gone b.1 b.2))) (n1 := q (crs (gone a.1 b.1) (gone a.1 a.2)))
    (s0 := q (crs (gone a.1 b.1) (gone b.1 b.2) / crs (gone a.1 a.2) (gone b.1 b.2))) (s1 := q (crs (gone a.1 b.1) (gone a.1 a.2) / crs (gone a.1 a.2) (gone b.1 b.2))) (pa := pt (atW a (crs (gone a.1 b.1) (gone b.1 b.2) / crs (gone a.1 a.2) (gone b.1 b.2))))
    (k := decide (crs (gone a.1 a.2) (gone b.1 b.2) = 0)) (l1 := decide (crs (gone a.1 b.1) (gone b.1 b.2) / crs (gone a.1 a.2) (gone b.1 b.2) < 0)) (l2 := decide (1 < crs (gone a.1 b.1) (gone b.1 b.2) / crs (gone a.1 a.2) (gone b.1 b.2)))
    (l3 := decide (crs (gone a.1 b.1) (gone a.1 a.2) / crs (gone a.1 a.2) (gone b.1 b.2) < 0)) (l4 := decide (1 < crs (gone a.1 b.1) (gone a.1 a.2) / crs (gone a.1 a.2) (gone b.1 b.2)))
    (step_ok ha.1 ha.2 (by omega) (by omega)) (step_ok hb.1 hb.2 (by omega) (by omega)) (across_ok hg hm (by omega) (by omega)) (eq_q _ _) fun hk => by
      have hz : crs (gone a.1 a.2) (gone b.1 b.2) ≠ 0 := of_decide_eq_false hk
      have hs := bd_shareC ha hb (ht.mono (by omega) (by omega)) (hm.mono (by omega) (by omega)) hz
      have hs' := bd_shareC ha hb (ht.mono (by omega) (by omega)) (hg.mono (by omega) (by omega)) hz
      exact ⟨step_ok ha.1 hb.1 (by omega) (by omega), across_ok ht hm (by omega) (by omega), across_ok ht hg (by omega) (by omega), over_ok (bd_crs ht hm) (bd_crs hg hm) hz (by omega) (by omega), over_ok (bd_crs ht hg) (bd_crs hg hm) hz (by omega) (by omega),
        is_less_ok hs bd_q0 (by omega), is_less_ok bd_q1 hs (by omega), is_less_ok hs' bd_q0 (by omega), is_less_ok bd_q1 hs' (by omega), point_ok ha hs (by omega) (by omega)⟩
  rw [show F_crossing [sg a, sg b] = _ from this]
  unfold cross
  by_cases h1 : crs (gone a.1 a.2) (gone b.1 b.2) = 0
  · simp [h1, optD]
  · simp only [h1, decide_false, Bool.false_eq_true, if_false, Bool.or_eq_true, decide_eq_true_eq]
    split <;> simp [optD]

open Classical in
noncomputable def lessD (x y : D) : Bool := decide (∃ z f : Sg, x = sg z ∧ y = sg f ∧ far z.1 z.2 < far f.1 f.2)
theorem lessD_sg (z f : Sg) : lessD (sg z) (sg f) = decide (far z.1 z.2 < far f.1 f.2) := by
  unfold lessD
  rw [decide_eq_decide]
  constructor
  · rintro ⟨z', f', h1, h2, h3⟩
    rw [sg_inj.mp h1, sg_inj.mp h2]; exact h3
  · intro h; exact ⟨z, f, rfl, rfl, h⟩
theorem fold_sg : ∀ (l : List Sg) (f : Sg), (l.map sg).foldl (fun f z => if lessD z f then z else f) (sg f) = sg (best l f)
  | [], _ => rfl
  | z :: l, f => by
    rw [List.map_cons, List.foldl_cons, lessD_sg]
    unfold best
    rw [List.foldl_cons]
    by_cases h : far z.1 z.2 < far f.1 f.2
    · rw [if_pos h, if_pos (by simpa using h)]; exact fold_sg l z
    · rw [if_neg h, if_neg (by simpa using h)]; exact fold_sg l f
theorem two_ok (ha : BS n d a) (hb : BS n d b) (c : Cd n d) : F_nearest_two [sg a, sg b] = .ok (sg (nearTwo a b)) := by
  have hc := crossing_ok ha hb c
  unfold nearTwo
  cases hx : cross a b with
  | some p =>
    rw [hx] at hc
    exact two_gen' (p := pt p) rfl hc
  | none =>
    rw [hx] at hc
    have c' := c
    unfold Cd at c'
    have hp : ∀ z ∈ pairs a b, BP (3 * n + 17 * d + 6) (2 * n + 17 * d + 3) z.1 ∧ BP n d z.2 ∨ BP n d z.1 ∧ BP (3 * n + 17 * d + 6) (2 * n + 17 * d + 3) z.2 := by
      intro z hz
      simp only [pairs, List.mem_cons, List.not_mem_nil, or_false] at hz
      rcases hz with rfl | rfl | rfl | rfl
      · exact .inr ⟨ha.1, bp_near hb ha.1⟩
      · exact .inr ⟨ha.2, bp_near hb ha.2⟩
      · exact .inl ⟨bp_near ha hb.1, hb.1⟩
      · exact .inl ⟨bp_near ha hb.2, hb.2⟩
    have hq : ∀ z ∈ pairs a b, F_square_far [pt z.1, pt z.2] = .ok (q (far z.1 z.2)) ∧ Bd 40000 9000 (far z.1 z.2) := by
      intro z hz
      rcases hp z hz with ⟨h1, h2⟩ | ⟨h1, h2⟩
      · exact ⟨square_ok h1 h2 (by omega) (by omega), (bd_dot (bp_gone h1 h2) (bp_gone h1 h2)).mono (by omega) (by omega)⟩
      · exact ⟨square_ok h1 h2 (by omega) (by omega), (bd_dot (bp_gone h1 h2) (bp_gone h1 h2)).mono (by omega) (by omega)⟩
    have := two_gen (less := lessD) hc (nearest_ok hb ha.1 c) (nearest_ok hb ha.2 c) (nearest_ok ha hb.1 c) (nearest_ok ha hb.2 c) fun p p' r r' h1 h2 => by
      obtain ⟨z, hz, e1, e2⟩ : ∃ z ∈ pairs a b, p = pt z.1 ∧ p' = pt z.2 := by
        simp only [List.mem_cons, Prod.mk.injEq, List.not_mem_nil, or_false] at h1
        rcases h1 with ⟨rfl, rfl⟩ | ⟨rfl, rfl⟩ | ⟨rfl, rfl⟩ | ⟨rfl, rfl⟩
        · exact ⟨(a.1, near b a.1), by simp [pairs], rfl, rfl⟩
        · exact ⟨(a.2, near b a.2), by simp [pairs], rfl, rfl⟩
        · exact ⟨(near a b.1, b.1), by simp [pairs], rfl, rfl⟩
        · exact ⟨(near a b.2, b.2), by simp [pairs], rfl, rfl⟩
      obtain ⟨z', hz', e3, e4⟩ : ∃ z ∈ pairs a b, r = pt z.1 ∧ r' = pt z.2 := by
        simp only [List.mem_cons, Prod.mk.injEq, List.not_mem_nil, or_false] at h2
        rcases h2 with ⟨rfl, rfl⟩ | ⟨rfl, rfl⟩ | ⟨rfl, rfl⟩ | ⟨rfl, rfl⟩
        · exact ⟨(a.1, near b a.1), by simp [pairs], rfl, rfl⟩
        · exact ⟨(a.2, near b a.2), by simp [pairs], rfl, rfl⟩
        · exact ⟨(near a b.1, b.1), by simp [pairs], rfl, rfl⟩
        · exact ⟨(near a b.2, b.2), by simp [pairs], rfl, rfl⟩
      subst e1 e2 e3 e4
      refine ⟨_, _, (hq z hz).1, (hq z' hz').1, ?_⟩
      rw [is_less_ok (hq z hz).2 (hq z' hz').2 (by omega)]
      rw [← lessD_sg]; rfl
    refine this.trans ?_
    rw [← fold_sg]; rfl
end
end Rw
namespace Rw
open PySem
/-! ## the law's own reckoning -/
section
variable {a b c d : Int} {r : D}
theorem lless_int (h1 : mulOk a d = true) (h2 : mulOk c b = true) : F_law_less [.tuple [.int a, .int b], .tuple [.int c, .int d]] = .ok (.bool (decide (a * d < c * b))) := by
  simp [F_law_less, runD, b_law_less, h1, h2]
theorem lplus_int (h1 : mulOk a d = true) (h2 : mulOk c b = true) (h3 : mulOk b d = true) (h4 : F_law_made [.int (a * d + c * b), .int (b * d)] = .ok r) : F_law_plus [.tuple [.int a, .int b], .tuple [.int c, .int d]] = .ok r := by
  unfold F_law_plus r_law_plus
  generalize F_law_made = G at h4 ⊢
  simp [runD, b_law_plus, h1, h2, h3, h4]
theorem lminus_int (h1 : mulOk a d = true) (h2 : mulOk c b = true) (h3 : mulOk b d = true) (h4 : F_law_made [.int (a * d - c * b), .int (b * d)] = .ok r) : F_law_minus [.tuple [.int a, .int b], .tuple [.int c, .int d]] = .ok r := by
  unfold F_law_minus r_law_minus
  generalize F_law_made = G at h4 ⊢
  simp [runD, b_law_minus, h1, h2, h3, h4]
theorem ltimes_int (h1 : mulOk a c = true) (h3 : mulOk b d = true) (h4 : F_law_made [.int (a * c), .int (b * d)] = .ok r) : F_law_times [.tuple [.int a, .int b], .tuple [.int c, .int d]] = .ok r := by
  unfold F_law_times r_law_times
  generalize F_law_made = G at h4 ⊢
  simp [runD, b_law_times, h1, h3, h4]
end
section
variable {n d m e : Nat} {a b : Rat}
theorem lis_less_ok (ha : Bd n d a) (hb : Bd m e b) (h : n + m + d + e < 800000) : F_law_less [q a, q b] = .ok (.bool (decide (a < b))) := by
  have h1 : mulOk a.num b.den = true := mulOk_of ha.num (m := e + 1) (by have := hb.dabs; have : 2 ^ (e + 1) = 2 ^ e * 2 := Nat.pow_succ ..; have := Nat.two_pow_pos e; omega) (by omega)
  have h2 : mulOk b.num a.den = true := mulOk_of hb.num (m := d + 1) (by have := ha.dabs; have : 2 ^ (d + 1) = 2 ^ d * 2 := Nat.pow_succ ..; have := Nat.two_pow_pos d; omega) (by omega)
  rw [decide_eq_decide.mpr (lt_cross a b)]
  exact lless_int h1 h2
theorem dd_pos : 0 < ((a.den : Int) * b.den) := Int.mul_pos (den_pos a) (den_pos b)
theorem lplus_ok (ha : Bd n d a) (hb : Bd m e b) (h : n + m + d + e < 800000) (h' : d + e < 9000) : F_law_plus [q a, q b] = .ok (q (a + b)) := by
  have h1 := mulOk_nd ha hb (by omega)
  have h2 := mulOk_nd hb ha (by omega)
  have h3 := mulOk_dd ha hb (by omega)
  have h4 := made_ok (a := a.num * b.den + b.num * a.den) (b := a.den * b.den) dd_pos (dd_lt ha hb h')
  rw [← add_divInt] at h4
  exact lplus_int h1 h2 h3 h4
theorem lminus_ok (ha : Bd n d a) (hb : Bd m e b) (h : n + m + d + e < 800000) (h' : d + e < 9000) : F_law_minus [q a, q b] = .ok (q (a - b)) := by
  have h1 := mulOk_nd ha hb (by omega)
  have h2 := mulOk_nd hb ha (by omega)
  have h3 := mulOk_dd ha hb (by omega)
  have h4 := made_ok (a := a.num * b.den - b.num * a.den) (b := a.den * b.den) dd_pos (dd_lt ha hb h')
  rw [← sub_divInt] at h4
  exact lminus_int h1 h2 h3 h4
theorem ltimes_ok (ha : Bd n d a) (hb : Bd m e b) (h : n + m + d + e < 800000) (h' : d + e < 9000) : F_law_times [q a, q b] = .ok (q (a * b)) := by
  have h1 : mulOk a.num b.num = true := mulOk_of ha.num hb.num (by omega)
  have h3 := mulOk_dd ha hb (by omega)
  have h4 := made_ok (a := a.num * b.num) (b := a.den * b.den) dd_pos (dd_lt ha hb h')
  rw [← mul_divInt] at h4
  exact ltimes_int h1 h3 h4
end
section
variable {a b c d x y z : D}
theorem lstep_gen (h1 : F_law_minus [c, a] = .ok x) (h2 : F_law_minus [d, b] = .ok y) : F_law_gone [.tuple [a, b], .tuple [c, d]] = .ok (.tuple [x, y]) := by
  unfold F_law_gone r_law_gone
  generalize F_law_minus = G at h1 h2 ⊢
  simp [runD, b_law_gone, h1, h2, big]
theorem linner_gen (h1 : F_law_times [a, c] = .ok x) (h2 : F_law_times [b, d] = .ok y) (h3 : F_law_plus [x, y] = .ok z) : F_law_inner [.tuple [a, b], .tuple [c, d]] = .ok z := by
  unfold F_law_inner r_law_inner
  generalize F_law_times = G at h1 h2 ⊢
  generalize F_law_plus = G' at h3 ⊢
  simp [runD, b_law_inner, h1, h2, h3]
theorem lacross_gen (h1 : F_law_times [a, d] = .ok x) (h2 : F_law_times [b, c] = .ok y) (h3 : F_law_minus [x, y] = .ok z) : F_law_across [.tuple [a, b], .tuple [c, d]] = .ok z := by
  unfold F_law_across r_law_across
  generalize F_law_times = G at h1 h2 ⊢
  generalize F_law_minus = G' at h3 ⊢
  simp [runD, b_law_across, h1, h2, h3]
theorem lsquare_gen (h1 : F_law_gone [a, b] = .ok x) (h2 : F_law_inner [x, x] = .ok y) : F_law_square [a, b] = .ok y := by
  unfold F_law_square r_law_square
  generalize F_law_gone = G at h1 ⊢
  generalize F_law_inner = G' at h2 ⊢
  simp [runD, b_law_square, h1, h2]
end
section
variable {n d m e : Nat} {a b : Pt}
theorem lstep_ok (ha : BP n d a) (hb : BP m e b) (h : n + m + d + e < 800000) (h' : d + e < 9000) : F_law_gone [pt a, pt b] = .ok (pt (gone a b)) :=
  lstep_gen (lminus_ok hb.1 ha.1 (by omega) (by omega)) (lminus_ok hb.2 ha.2 (by omega) (by omega))
theorem linner_ok (ha : BP n d a) (hb : BP m e b) (h : 2 * (n + m + d + e) < 300000) (h' : 2 * (d + e) < 9000) : F_law_inner [pt a, pt b] = .ok (q (dot a b)) :=
  linner_gen (ltimes_ok ha.1 hb.1 (by omega) (by omega)) (ltimes_ok ha.2 hb.2 (by omega) (by omega)) (lplus_ok (bd_mul ha.1 hb.1) (bd_mul ha.2 hb.2) (by omega) (by omega))
theorem lacross_ok (ha : BP n d a) (hb : BP m e b) (h : 2 * (n + m + d + e) < 300000) (h' : 2 * (d + e) < 9000) : F_law_across [pt a, pt b] = .ok (q (crs a b)) :=
  lacross_gen (ltimes_ok ha.1 hb.2 (by omega) (by omega)) (ltimes_ok ha.2 hb.1 (by omega) (by omega)) (lminus_ok (bd_mul ha.1 hb.2) (bd_mul ha.2 hb.1) (by omega) (by omega))
theorem lsquare_ok (ha : BP n d a) (hb : BP m e b) (h : n + m + d + e < 50000) (h' : 4 * (d + e) < 9000) : F_law_square [pt a, pt b] = .ok (q (far a b)) :=
  lsquare_gen (lstep_ok ha hb (by omega) (by omega)) (linner_ok (bp_gone ha hb) (bp_gone ha hb) (by omega) (by omega))
end
end Rw
namespace Rw
open PySem
theorem eq_i (i j : Int) : eqD (.int i) (.int j) = .ok (decide (i = j)) := eqD_pl (Pl.int 0 i) (Pl.int 0 j) (by decide) _ (by simp)
theorem num_zero {r : Rat} : decide (r.num = 0) = decide (r = 0) := by rw [decide_eq_decide, Rat.num_eq_zero]
theorem num_pos' {r : Rat} : 0 < r.num ↔ 0 < r := by
  rw [lt_cross]
  show _ ↔ (0 : Int) * _ < r.num * 1
  omega
theorem num_neg' {r : Rat} : r.num < 0 ↔ r < 0 := by
  rw [lt_cross]
  show _ ↔ r.num * 1 < (0 : Int) * _
  omega
theorem num_le {r : Rat} : decide (r.num ≤ 0) = decide (r ≤ 0) := by
  rw [decide_eq_decide]
  have := @num_pos' r
  constructor
  · intro h; exact Rat.not_lt.mp fun z => by have := this.mpr z; omega
  · intro h
    have h2 : ¬ 0 < r := Rat.not_lt.mpr h
    by_cases h3 : 0 < r.num
    · exact absurd (this.mp h3) h2
    · omega
section
variable {w0 w1 p g gp s1 s2 sd f1 f2 r : D} {wn wd sn sd' : Int}
theorem tofence_gen {l : Bool} {en ed : Int} (h1 : F_law_gone [w0, w1] = .ok g) (h2 : F_law_inner [g, g] = .ok (.tuple [.int wn, .int wd])) (h3 : F_law_gone [w0, p] = .ok gp) (h4 : F_law_inner [g, gp] = .ok (.tuple [.int sn, .int sd']))
    (h5 : F_law_square [w0, p] = .ok f1) (h6 : F_law_less [.tuple [.int sn, .int sd'], .tuple [.int wn, .int wd]] = .ok (.bool l)) (h7 : F_law_square [w1, p] = .ok f2) (h8 : F_law_across [g, gp] = .ok sd) (h9 : F_law_times [sd, sd] = .ok (.tuple [.int en, .int ed]))
    (h10 : ¬ (wn = 0 ∨ sn ≤ 0) → l = true → mulOk en wd = true ∧ mulOk ed wn = true ∧ F_law_made [.int (en * wd), .int (ed * wn)] = .ok r) :
    F_law_to_fence [.tuple [w0, w1], p] = .ok (if wn = 0 ∨ sn ≤ 0 then f1 else if l = false then f2 else r) := by
  unfold F_law_to_fence r_law_to_fence
  generalize F_law_gone = G1 at h1 h3 ⊢
  generalize F_law_inner = G2 at h2 h4 ⊢
  generalize F_law_square = G3 at h5 h7 ⊢
  generalize F_law_less = G4 at h6 ⊢
  generalize F_law_across = G5 at h8 ⊢
  generalize F_law_times = G6 at h9 ⊢
  generalize F_law_made = G7 at h10 ⊢
  by_cases c1 : wn = 0
  · simp [runD, b_law_to_fence, h1, h2, h3, h4, eq_i, c1, h5]
  · by_cases c2 : sn ≤ 0
    · simp [runD, b_law_to_fence, h1, h2, h3, h4, eq_i, c1, c2, h5]
    · cases l with
      | false => simp [runD, b_law_to_fence, h1, h2, h3, h4, eq_i, c1, c2, h6, h7]
      | true =>
        obtain ⟨k1, k2, k3⟩ := h10 (by simp [c1, c2]) rfl
        simp [runD, b_law_to_fence, h1, h2, h3, h4, eq_i, c1, c2, h6, h8, h9, k1, k2, k3]
theorem sense_gen {a b c x y : D} {cn cd : Int} (h1 : F_law_gone [a, b] = .ok x) (h2 : F_law_gone [a, c] = .ok y) (h3 : F_law_across [x, y] = .ok (.tuple [.int cn, .int cd])) : F_law_sense [a, b, c] = .ok (.int ((if 0 < cn then 1 else 0) - (if cn < 0 then 1 else 0))) := by
  unfold F_law_sense r_law_sense
  generalize F_law_gone = G1 at h1 h2 ⊢
  generalize F_law_across = G2 at h3 ⊢
  simp [runD, b_law_sense, h1, h2, h3, bltD]
theorem side_gen {a b c x y : D} {cn cd : Int} (h1 : F_step_from [a, b] = .ok x) (h2 : F_step_from [a, c] = .ok y) (h3 : F_across [x, y] = .ok (.tuple [.int cn, .int cd])) : F_side_of [a, b, c] = .ok (.int ((if 0 < cn then 1 else 0) - (if cn < 0 then 1 else 0))) := by
  unfold F_side_of r_side_of
  generalize F_step_from = G1 at h1 h2 ⊢
  generalize F_across = G2 at h3 ⊢
  simp [runD, b_side_of, h1, h2, h3, bltD]
end
section
variable {n d m e : Nat} {w : Sg} {p a b c : Pt}
theorem sgn_num (r : Rat) : (if 0 < r.num then (1 : Int) else 0) - (if r.num < 0 then 1 else 0) = sgn r := by
  unfold sgn
  simp only [num_pos', num_neg']
theorem sense_ok (ha : BP n d a) (hb : BP n d b) (hc : BP n d c) (k : Cd n d) : F_law_sense [pt a, pt b, pt c] = .ok (.int (sense a b c)) := by
  unfold Cd at k
  have := sense_gen (lstep_ok ha hb (by omega) (by omega)) (lstep_ok ha hc (by omega) (by omega)) (lacross_ok (bp_gone ha hb) (bp_gone ha hc) (by omega) (by omega))
  rw [this, sgn_num]; rfl
theorem side_ok (ha : BP n d a) (hb : BP n d b) (hc : BP n d c) (k : Cd n d) : F_side_of [pt a, pt b, pt c] = .ok (.int (sense a b c)) := by
  unfold Cd at k
  have := side_gen (step_ok ha hb (by omega) (by omega)) (step_ok ha hc (by omega) (by omega)) (across_ok (bp_gone ha hb) (bp_gone ha hc) (by omega) (by omega))
  rw [this, sgn_num]; rfl
theorem tofence_ok (hw : BS n d w) (hp : BP m e p) (h : 2 * n + 50 * d + 50 * e + 2 * m + 100 < 9000) : F_law_to_fence [sg w, pt p] = .ok (q (toF w p)) := by
  have hg := bp_gone hw.1 hw.2
  have hgp := bp_gone hw.1 hp
  have hc := bd_crs hg hgp
  have hcc := bd_mul hc hc
  have hwh := bd_dot hg hg
  have := tofence_gen (w0 := pt w.1) (w1 := pt w.2) (p := pt p) (r := q (crs (gone w.1 w.2) (gone w.1 p) * crs (gone w.1 w.2) (gone w.1 p) / dot (gone w.1 w.2) (gone w.1 w.2))) (l := decide (dot (gone w.1 w.2) (gone w.1 p) < dot (gone w.1 w.2) (gone w.1 w.2)))
    (lstep_ok hw.1 hw.2 (by omega) (by omega)) (linner_ok hg hg (by omega) (by omega)) (lstep_ok hw.1 hp (by omega) (by omega)) (linner_ok hg hgp (by omega) (by omega)) (lsquare_ok hw.1 hp (by omega) (by omega)) (lis_less_ok (bd_dot hg hgp) hwh (by omega))
    (lsquare_ok hw.2 hp (by omega) (by omega)) (lacross_ok hg hgp (by omega) (by omega)) (ltimes_ok hc hc (by omega) (by omega)) fun h1 h2 => by
      have h3 : 0 < (dot (gone w.1 w.2) (gone w.1 w.2)).num := by
        have h4 : ¬ dot (gone w.1 w.2) (gone w.1 p) ≤ 0 := by
          intro z
          have := num_le (r := dot (gone w.1 w.2) (gone w.1 p))
          rw [decide_eq_decide] at this
          exact h1 (.inr (this.mpr z))
        have h5 := of_decide_eq_true h2
        rw [num_pos']
        grind
      have k1 : mulOk (crs (gone w.1 w.2) (gone w.1 p) * crs (gone w.1 w.2) (gone w.1 p)).den (dot (gone w.1 w.2) (gone w.1 w.2)).num = true := mulOk_of (n := d + d + (d + e) + (d + d + (d + e)) + (d + d + (d + e) + (d + d + (d + e))) + 1) (by
        have := hcc.dabs
        have q1 : 2 ^ (d + d + (d + e) + (d + d + (d + e)) + (d + d + (d + e) + (d + d + (d + e))) + 1) = 2 ^ (d + d + (d + e) + (d + d + (d + e)) + (d + d + (d + e) + (d + d + (d + e)))) * 2 := Nat.pow_succ ..
        have q2 := Nat.two_pow_pos (d + d + (d + e) + (d + d + (d + e)) + (d + d + (d + e) + (d + d + (d + e))))
        have q3 : (((crs (gone w.1 w.2) (gone w.1 p) * crs (gone w.1 w.2) (gone w.1 p)).den : Int)).natAbs ≤ 2 ^ (d + d + (d + e) + (d + d + (d + e)) + (d + d + (d + e) + (d + d + (d + e)))) := Nat.le_trans this (Nat.pow_le_pow_right (by decide) (by omega))
        omega) hwh.num (by omega)
      refine ⟨mulOk_nd hcc hwh (by omega), k1, ?_⟩
      rw [div_divInt]
      refine made_ok (Int.mul_pos (den_pos _) h3) ?_
      have h6 : ((crs (gone w.1 w.2) (gone w.1 p) * crs (gone w.1 w.2) (gone w.1 p)).den * (dot (gone w.1 w.2) (gone w.1 w.2)).num : Int).natAbs ≤ 2 ^ (6 * d + 6 * d + 6 * e + 2 * n + 20 * d + 20) := by
        rw [Int.natAbs_mul]
        refine Nat.le_trans (dd_le hcc.dabs (Nat.le_of_lt hwh.num)) (Nat.pow_le_pow_right (by decide) (by omega))
      have := log_le h6
      omega
  rw [show F_law_to_fence [sg w, pt p] = _ from this]
  unfold toF
  have e1 := num_zero (r := dot (gone w.1 w.2) (gone w.1 w.2))
  have e2 := num_le (r := dot (gone w.1 w.2) (gone w.1 p))
  rw [decide_eq_decide] at e1 e2
  simp only [e1, e2]
  split
  · rfl
  · simp only [decide_eq_false_iff_not]
    split <;> rfl
end
end Rw
namespace Rw
open PySem
section
variable {a0 a1 b0 b1 f1 f2 f3 f4 : D}
theorem touch_gen {k : Bool} {x1 x2 y1 y2 : Int} (h1 : F_law_to_fence [.tuple [a0, a1], b0] = .ok f1) (h2 : F_law_to_fence [.tuple [a0, a1], b1] = .ok f2) (h3 : F_law_to_fence [.tuple [b0, b1], a0] = .ok f3) (h4 : F_law_to_fence [.tuple [b0, b1], a1] = .ok f4)
    (hk : inD (.tuple [.int 0, .int 1]) (.list [f1, f2, f3, f4]) = .ok k) (s1 : F_law_sense [a0, a1, b0] = .ok (.int x1)) (s2 : F_law_sense [a0, a1, b1] = .ok (.int x2)) (s3 : F_law_sense [b0, b1, a0] = .ok (.int y1)) (s4 : F_law_sense [b0, b1, a1] = .ok (.int y2))
    (m1 : mulOk x1 x2 = true) (m2 : mulOk y1 y2 = true) : F_law_touch [.tuple [a0, a1], .tuple [b0, b1]] = .ok (.bool (k || decide (x1 * x2 < 0 ∧ y1 * y2 < 0))) := by
  unfold F_law_touch r_law_touch
  generalize F_law_to_fence = G1 at h1 h2 h3 h4 ⊢
  generalize F_law_sense = G2 at s1 s2 s3 s4 ⊢
  cases k with
  | true => simp [runD, b_law_touch, h1, h2, h3, h4, compV, compN, compF, wipeF, big, hk]
  | false =>
    by_cases c : x1 * x2 < 0 <;> simp [runD, b_law_touch, h1, h2, h3, h4, compV, compN, compF, wipeF, big, hk, s1, s2, s3, s4, m1, m2, c]
theorem apart_gen {k : Bool} (h0 : F_law_touch [.tuple [a0, a1], .tuple [b0, b1]] = .ok (.bool k)) (h1 : F_law_to_fence [.tuple [a0, a1], b0] = .ok f1) (h2 : F_law_to_fence [.tuple [a0, a1], b1] = .ok f2) (h3 : F_law_to_fence [.tuple [b0, b1], a0] = .ok f3) (h4 : F_law_to_fence [.tuple [b0, b1], a1] = .ok f4)
    {less : D → D → Bool} (hl : ∀ x ∈ [f1, f2, f3, f4], ∀ y ∈ [f1, f2, f3, f4], F_law_less [x, y] = .ok (.bool (less x y))) :
    F_law_apart [.tuple [a0, a1], .tuple [b0, b1]] = .ok (if k then q 0 else [f1, f2, f3, f4].foldl (fun f z => if less z f then z else f) f1) := by
  unfold F_law_apart r_law_apart
  generalize F_law_touch = G0 at h0 ⊢
  generalize F_law_to_fence = G1 at h1 h2 h3 h4 ⊢
  generalize F_law_less = G2 at hl ⊢
  have e0 : q 0 = .tuple [.int 0, .int 1] := rfl
  cases k with
  | true => simp [runD, b_law_apart, h0, big, e0]
  | false =>
    have step : ∀ (l : List D) (r : D) (v0 v1 v2 v3 w : Sl), (∀ z ∈ l, z ∈ [f1, f2, f3, f4]) → r ∈ [f1, f2, f3, f4] →
        ∃ w', forN (fun d e' => tgF (semTg (.nm 5) d e') (semSs ⟨[⟨"_law_touch", 2, G0⟩, ⟨"_law_to_fence", 2, G1⟩, ⟨"_law_less", 2, G2⟩], []⟩
          (.cons (.asg false (.nm 4) (.idx (.lst (.cons (.var 4) (.cons (.var 5) .nil))) (.blt .int (.cons (.call 2 (.cons (.var 5) (.cons (.var 4) .nil))) .nil)))) .nil))) l
          [v0, v1, v2, v3, .val r, w] = .nx [v0, v1, v2, v3, .val (l.foldl (fun f z => if less z f then z else f) r), w'] := by
      intro l
      induction l with
      | nil => intro r v0 v1 v2 v3 w _ _; exact ⟨w, by simp⟩
      | cons z l ih =>
        intro r v0 v1 v2 v3 w hz hr
        have e := hl z (hz z (by simp)) r hr
        cases hb : less z r with
        | true =>
          obtain ⟨w', hw⟩ := ih z v0 v1 v2 v3 (.val z) (fun u hu => hz u (by simp [hu])) (hz z (by simp))
          refine ⟨w', ?_⟩
          rw [hb] at e
          simp [e, hb, bltD, big]
          simpa using hw
        | false =>
          obtain ⟨w', hw⟩ := ih r v0 v1 v2 v3 (.val z) (fun u hu => hz u (by simp [hu])) hr
          refine ⟨w', ?_⟩
          rw [hb] at e
          simp [e, hb, bltD, big]
          simpa using hw
    obtain ⟨w', hw⟩ := step [f1, f2, f3, f4] f1 (.val (.tuple [a0, a1])) (.val (.tuple [b0, b1])) (.val (.list [f1, f2, f3, f4])) .un .un (fun z hz => hz) (by simp)
    simp [runD, b_law_apart, h0, h1, h2, h3, h4, compV, compN, compF, wipeF, big, bltD, -for_c]
    simp [big, bltD, -for_c] at hw
    simp [hw, -for_c]
end
section
variable {n d : Nat} {a b : Sg}
theorem sgn_abs (r : Rat) : (sgn r).natAbs < 2 ^ 2 := by
  unfold sgn
  split <;> split <;> decide
theorem in_q0 (l : List Rat) : inD (.tuple [.int 0, .int 1]) (.list (l.map q)) = .ok (decide (0 ∈ l)) := by
  have e0 : q 0 = .tuple [.int 0, .int 1] := rfl
  rw [← e0]
  refine inD_pl (pl_q 0) (fun x hx => ?_) (by decide) _ ?_
  · obtain ⟨r, _, rfl⟩ := List.mem_map.mp hx
    exact pl_q r
  · simp only [decide_eq_true_eq, List.mem_map]
    constructor
    · intro h; exact ⟨0, h, rfl⟩
    · rintro ⟨r, h, e⟩
      rw [q_inj.mp e] at h; exact h
def Cl (n d : Nat) : Prop := 8 * n + 110 * d + 100 < 9000
theorem touch_ok (ha : BS n d a) (hb : BS n d b) (c : Cl n d) : F_law_touch [sg a, sg b] = .ok (.bool (touch a b)) := by
  unfold Cl at c
  have k : Cd n d := by unfold Cd; omega
  have := touch_gen (tofence_ok ha hb.1 (by omega)) (tofence_ok ha hb.2 (by omega)) (tofence_ok hb ha.1 (by omega)) (tofence_ok hb ha.2 (by omega)) (in_q0 [toF a b.1, toF a b.2, toF b a.1, toF b a.2])
    (sense_ok ha.1 ha.2 hb.1 k) (sense_ok ha.1 ha.2 hb.2 k) (sense_ok hb.1 hb.2 ha.1 k) (sense_ok hb.1 hb.2 ha.2 k) (mulOk_of (sgn_abs _) (sgn_abs _) (by decide)) (mulOk_of (sgn_abs _) (sgn_abs _) (by decide))
  refine (show F_law_touch [sg a, sg b] = _ from this).trans ?_
  unfold touch
  have e : decide ((0 : Rat) ∈ [toF a b.1, toF a b.2, toF b a.1, toF b a.2]) = decide (toF a b.1 = 0 ∨ toF a b.2 = 0 ∨ toF b a.1 = 0 ∨ toF b a.2 = 0) := by
    rw [decide_eq_decide]
    simp only [List.mem_cons, List.not_mem_nil, or_false, eq_comm (a := (0 : Rat))]
  rw [e]
open Classical in
noncomputable def lessQ (x y : D) : Bool := decide (∃ z f : Rat, x = q z ∧ y = q f ∧ z < f)
theorem lessQ_q (z f : Rat) : lessQ (q z) (q f) = decide (z < f) := by
  unfold lessQ
  rw [decide_eq_decide]
  constructor
  · rintro ⟨z', f', h1, h2, h3⟩
    rw [q_inj.mp h1, q_inj.mp h2]; exact h3
  · intro h; exact ⟨z, f, rfl, rfl, h⟩
theorem fold_q : ∀ (l : List Rat) (f : Rat), (l.map q).foldl (fun f z => if lessQ z f then z else f) (q f) = q (least l f)
  | [], _ => rfl
  | z :: l, f => by
    rw [List.map_cons, List.foldl_cons, lessQ_q]
    unfold least
    rw [List.foldl_cons]
    by_cases h : z < f
    · rw [if_pos h, if_pos (by simpa using h)]; exact fold_q l z
    · rw [if_neg h, if_neg (by simpa using h)]; exact fold_q l f
theorem bd_toF {w : Sg} {p : Pt} (hw : BS n d w) (hp : BP n d p) : Bd (4 * n + 20 * d + 6) (2 * n + 22 * d + 3) (toF w p) := by
  have hg := bp_gone hw.1 hw.2
  have hgp := bp_gone hw.1 hp
  have hc := bd_crs hg hgp
  have hwh := bd_dot hg hg
  unfold toF
  split
  · exact (bd_dot (bp_gone hw.1 hp) (bp_gone hw.1 hp)).mono (by omega) (by omega)
  · rename_i hz
    split
    · exact (bd_dot (bp_gone hw.2 hp) (bp_gone hw.2 hp)).mono (by omega) (by omega)
    · exact (bd_div (bd_mul hc hc) hwh fun z => hz (.inl z)).mono (by omega) (by omega)
theorem apart_ok (ha : BS n d a) (hb : BS n d b) (c : Cl n d) : F_law_apart [sg a, sg b] = .ok (q (apartL a b)) := by
  have ht := touch_ok ha hb c
  unfold Cl at c
  have hq : ∀ r ∈ [toF a b.1, toF a b.2, toF b a.1, toF b a.2], Bd (4 * n + 20 * d + 6) (2 * n + 22 * d + 3) r := by
    intro r hr
    simp only [List.mem_cons, List.not_mem_nil, or_false] at hr
    rcases hr with rfl | rfl | rfl | rfl
    · exact bd_toF ha hb.1
    · exact bd_toF ha hb.2
    · exact bd_toF hb ha.1
    · exact bd_toF hb ha.2
  have := apart_gen (less := lessQ) ht (tofence_ok ha hb.1 (by omega)) (tofence_ok ha hb.2 (by omega)) (tofence_ok hb ha.1 (by omega)) (tofence_ok hb ha.2 (by omega)) fun x hx y hy => by
    obtain ⟨r, hr, rfl⟩ := List.mem_map.mp (show x ∈ [toF a b.1, toF a b.2, toF b a.1, toF b a.2].map q from hx)
    obtain ⟨s, hs, rfl⟩ := List.mem_map.mp (show y ∈ [toF a b.1, toF a b.2, toF b a.1, toF b a.2].map q from hy)
    rw [lis_less_ok (hq r hr) (hq s hs) (by omega), lessQ_q]
  refine (show F_law_apart [sg a, sg b] = _ from this).trans ?_
  unfold apartL
  split
  · rfl
  · rw [← fold_q]; rfl
end
end Rw
namespace Rw
/-! ## plain geometry -/
theorem sq_nn (x : Rat) : 0 ≤ x * x := by
  rcases Rat.le_total (a := 0) (b := x) with h | h
  · exact Rat.mul_nonneg h h
  · have := Rat.mul_nonneg (a := -x) (b := -x) (by grind) (by grind)
    grind
theorem sq_zero {x : Rat} (h : x * x = 0) : x = 0 := by
  rcases Rat.mul_eq_zero.mp h with h | h <;> exact h
theorem dot_nn (u : Pt) : 0 ≤ dot u u := by
  unfold dot
  have := sq_nn u.1
  have := sq_nn u.2
  grind
theorem dot_zero {u : Pt} (h : dot u u = 0) : u.1 = 0 ∧ u.2 = 0 := by
  unfold dot at h
  have h1 := sq_nn u.1
  have h2 := sq_nn u.2
  exact ⟨sq_zero (by grind), sq_zero (by grind)⟩
theorem dot_pos {u : Pt} (h : dot u u ≠ 0) : 0 < dot u u := by
  have := dot_nn u
  grind
theorem far_nn (a b : Pt) : 0 ≤ far a b := dot_nn _
theorem far_self (a : Pt) : far a a = 0 := by unfold far dot gone; grind
theorem far_zero {a b : Pt} (h : far a b = 0) : a = b := by
  obtain ⟨h1, h2⟩ := dot_zero h
  unfold gone at h1 h2
  exact Prod.ext (by grind) (by grind)
theorem far_comm (a b : Pt) : far a b = far b a := by unfold far dot gone; grind
theorem at0 (w : Sg) : atW w 0 = w.1 := by
  unfold atW
  exact Prod.ext (by grind) (by grind)
theorem at1 (w : Sg) : atW w 1 = w.2 := by
  unfold atW gone
  exact Prod.ext (by grind) (by grind)
/-- a share -/
theorem div_eq' {a b c : Rat} (hb : b ≠ 0) (h : a = c * b) : a / b = c := by
  rw [Rat.div_def, h, Rat.mul_assoc, Rat.mul_inv_cancel b hb, Rat.mul_one]
theorem div_mul' {a b : Rat} (hb : b ≠ 0) : a / b * b = a := Rat.div_mul_cancel hb
theorem far_at (w : Sg) (p : Pt) (t : Rat) : far (atW w t) p = far w.1 p - 2 * t * dot (gone w.1 w.2) (gone w.1 p) + t * t * dot (gone w.1 w.2) (gone w.1 w.2) := by
  unfold far dot atW gone
  grind
theorem lagr (u v : Pt) : dot u u * dot v v = dot u v * dot u v + crs u v * crs u v := by
  unfold dot crs
  grind
theorem near_far (w : Sg) (p : Pt) : far (near w p) p = toF w p := by
  unfold near toF
  by_cases h0 : dot (gone w.1 w.2) (gone w.1 w.2) = 0
  · rw [if_pos h0, if_pos (.inl h0)]
  · have hW := dot_pos h0
    rw [if_neg h0]
    by_cases h1 : dot (gone w.1 w.2) (gone w.1 p) / dot (gone w.1 w.2) (gone w.1 w.2) < 0
    · rw [if_pos h1]
      rw [Rat.div_lt_iff hW] at h1
      rw [if_pos (.inr (by grind))]
    · rw [if_neg h1]
      rw [Rat.div_lt_iff hW] at h1
      by_cases h2 : 1 < dot (gone w.1 w.2) (gone w.1 p) / dot (gone w.1 w.2) (gone w.1 w.2)
      · rw [if_pos h2]
        rw [Rat.lt_div_iff hW] at h2
        rw [if_neg (by grind), if_pos (by grind)]
      · rw [if_neg h2]
        rw [Rat.lt_div_iff hW] at h2
        generalize ht : dot (gone w.1 w.2) (gone w.1 p) / dot (gone w.1 w.2) (gone w.1 w.2) = t
        have hS : dot (gone w.1 w.2) (gone w.1 p) = t * dot (gone w.1 w.2) (gone w.1 w.2) := by rw [← ht, div_mul' h0]
        by_cases h3 : dot (gone w.1 w.2) (gone w.1 p) ≤ 0
        · rw [if_pos (.inr h3)]
          have : t = 0 := by
            have h4 : t * dot (gone w.1 w.2) (gone w.1 w.2) = 0 := by grind
            rcases Rat.mul_eq_zero.mp h4 with h | h
            · exact h
            · exact absurd h h0
          rw [this, at0]
        · rw [if_neg (by grind)]
          by_cases h4 : dot (gone w.1 w.2) (gone w.1 p) < dot (gone w.1 w.2) (gone w.1 w.2)
          · rw [if_neg (by grind), far_at]
            have hl := lagr (gone w.1 w.2) (gone w.1 p)
            refine (div_eq' h0 ?_).symm
            have e : far w.1 p = dot (gone w.1 p) (gone w.1 p) := rfl
            rw [e]
            rw [hS] at hl ⊢
            generalize dot (gone w.1 w.2) (gone w.1 w.2) = W at *
            generalize dot (gone w.1 p) (gone w.1 p) = V at *
            generalize crs (gone w.1 w.2) (gone w.1 p) = C at *
            grind
          · rw [if_pos (by grind)]
            have : t = 1 := by
              have h5 : (t - 1) * dot (gone w.1 w.2) (gone w.1 w.2) = 0 := by grind
              rcases Rat.mul_eq_zero.mp h5 with h | h
              · grind
              · exact absurd h h0
            rw [this, at1]
/-- of a wall -/
def On (w : Sg) (x : Pt) : Prop := ∃ t, 0 ≤ t ∧ t ≤ 1 ∧ x = atW w t
theorem on_1 (w : Sg) : On w w.1 := ⟨0, by decide, by decide, (at0 w).symm⟩
theorem on_2 (w : Sg) : On w w.2 := ⟨1, by decide, by decide, (at1 w).symm⟩
theorem near_on (w : Sg) (p : Pt) : On w (near w p) := by
  unfold near
  split
  · exact on_1 w
  · split
    · exact on_1 w
    · split
      · exact on_2 w
      · exact ⟨_, by grind, by grind, rfl⟩
theorem gone_at (w : Sg) (t : Rat) : gone w.1 (atW w t) = (t * (gone w.1 w.2).1, t * (gone w.1 w.2).2) := by
  unfold atW gone
  exact Prod.ext (by grind) (by grind)
theorem toF_le (w : Sg) (p : Pt) {x : Pt} (h : On w x) : toF w p ≤ far x p := by
  obtain ⟨t, h0, h1, rfl⟩ := h
  rw [far_at]
  have hW := dot_nn (gone w.1 w.2)
  have hl := lagr (gone w.1 w.2) (gone w.1 p)
  have e : far w.1 p = dot (gone w.1 p) (gone w.1 p) := rfl
  have e2 : far w.2 p = far w.1 p - 2 * dot (gone w.1 w.2) (gone w.1 p) + dot (gone w.1 w.2) (gone w.1 w.2) := by
    have := far_at w p 1
    rw [at1] at this
    grind
  unfold toF
  split
  · rename_i hc
    rcases hc with hc | hc
    · obtain ⟨z1, z2⟩ := dot_zero hc
      have : dot (gone w.1 w.2) (gone w.1 p) = 0 := by unfold dot; rw [z1, z2]; grind
      rw [this, hc]; grind
    · have k1 := Rat.mul_nonneg (a := t) (b := -dot (gone w.1 w.2) (gone w.1 p)) h0 (by grind)
      have k2 := Rat.mul_nonneg (sq_nn t) hW
      grind
  · split
    · rename_i hc hd
      rw [e2]
      generalize dot (gone w.1 w.2) (gone w.1 w.2) = W at *
      generalize dot (gone w.1 w.2) (gone w.1 p) = S at *
      have k1 := Rat.mul_nonneg (a := 1 - t) (b := S - W) (by grind) (by grind)
      have k2 := Rat.mul_nonneg (a := (1 - t) * (1 - t)) (b := W) (sq_nn _) hW
      grind
    · rename_i hc hd
      have h0' : dot (gone w.1 w.2) (gone w.1 w.2) ≠ 0 := fun z => hc (.inl z)
      have hW' := dot_pos h0'
      rw [e]
      generalize dot (gone w.1 w.2) (gone w.1 w.2) = W at *
      generalize dot (gone w.1 w.2) (gone w.1 p) = S at *
      generalize dot (gone w.1 p) (gone w.1 p) = V at *
      generalize crs (gone w.1 w.2) (gone w.1 p) = C at *
      have k : C * C ≤ (V - 2 * t * S + t * t * W) * W := by
        have := sq_nn (S - t * W)
        grind
      have k2 := div_mul' (a := C * C) h0'
      exact Rat.le_of_mul_le_mul_right (by rw [k2]; exact k) hW'
theorem toF_nn (w : Sg) (p : Pt) : 0 ≤ toF w p := by rw [← near_far]; exact far_nn _ _
theorem toF_on {w : Sg} {x : Pt} (h : On w x) : toF w x = 0 := by
  have h1 := toF_le w x h
  have h2 := toF_nn w x
  rw [far_self] at h1
  grind
theorem on_toF {w : Sg} {x : Pt} (h : toF w x = 0) : On w x := by
  rw [← near_far] at h
  rw [← far_zero h]
  exact near_on w x
theorem toF_iff {w : Sg} {x : Pt} : toF w x = 0 ↔ On w x := ⟨on_toF, toF_on⟩
end Rw
namespace Rw
/-! ## crossing -/
abbrev Wc (a b : Sg) : Rat := crs (gone a.1 a.2) (gone b.1 b.2)
abbrev Sc (a b : Sg) : Rat := crs (gone a.1 b.1) (gone b.1 b.2) / Wc a b
abbrev Tc (a b : Sg) : Rat := crs (gone a.1 b.1) (gone a.1 a.2) / Wc a b
theorem mul_cancel {a b c : Rat} (hc : c ≠ 0) (h : a * c = b * c) : a = b := by
  have h1 : (a - b) * c = 0 := by grind
  rcases Rat.mul_eq_zero.mp h1 with h | h
  · grind
  · exact absurd h hc
theorem sc_mul {a b : Sg} (h : Wc a b ≠ 0) : Sc a b * Wc a b = crs (gone a.1 b.1) (gone b.1 b.2) := div_mul' h
theorem tc_mul {a b : Sg} (h : Wc a b ≠ 0) : Tc a b * Wc a b = crs (gone a.1 b.1) (gone a.1 a.2) := div_mul' h
theorem meet {a b : Sg} (h : Wc a b ≠ 0) : atW a (Sc a b) = atW b (Tc a b) := by
  have h1 := sc_mul h
  have h2 := tc_mul h
  generalize hs : Sc a b = s at *
  generalize ht : Tc a b = t at *
  unfold atW
  refine Prod.ext (mul_cancel h ?_) (mul_cancel h ?_)
  · show (a.1.1 + s * (gone a.1 a.2).1) * Wc a b = (b.1.1 + t * (gone b.1 b.2).1) * Wc a b
    have e : (a.1.1 + s * (gone a.1 a.2).1) * Wc a b = a.1.1 * Wc a b + (s * Wc a b) * (gone a.1 a.2).1 := by grind
    have e2 : (b.1.1 + t * (gone b.1 b.2).1) * Wc a b = b.1.1 * Wc a b + (t * Wc a b) * (gone b.1 b.2).1 := by grind
    rw [e, e2, h1, h2]
    unfold Wc crs gone
    grind
  · show (a.1.2 + s * (gone a.1 a.2).2) * Wc a b = (b.1.2 + t * (gone b.1 b.2).2) * Wc a b
    have e : (a.1.2 + s * (gone a.1 a.2).2) * Wc a b = a.1.2 * Wc a b + (s * Wc a b) * (gone a.1 a.2).2 := by grind
    have e2 : (b.1.2 + t * (gone b.1 b.2).2) * Wc a b = b.1.2 * Wc a b + (t * Wc a b) * (gone b.1 b.2).2 := by grind
    rw [e, e2, h1, h2]
    unfold Wc crs gone
    grind
theorem meet_uniq {a b : Sg} (h : Wc a b ≠ 0) {s t : Rat} (e : atW a s = atW b t) : s = Sc a b ∧ t = Tc a b := by
  have e1 : a.1.1 + s * (gone a.1 a.2).1 = b.1.1 + t * (gone b.1 b.2).1 := congrArg Prod.fst e
  have e2 : a.1.2 + s * (gone a.1 a.2).2 = b.1.2 + t * (gone b.1 b.2).2 := congrArg Prod.snd e
  refine ⟨mul_cancel h ?_, mul_cancel h ?_⟩
  · rw [sc_mul h]
    unfold Wc crs gone at *
    grind
  · rw [tc_mul h]
    unfold Wc crs gone at *
    grind
theorem cross_some {a b : Sg} {p : Pt} (h : cross a b = some p) : Wc a b ≠ 0 ∧ (0 ≤ Sc a b ∧ Sc a b ≤ 1) ∧ (0 ≤ Tc a b ∧ Tc a b ≤ 1) ∧ p = atW a (Sc a b) := by
  unfold cross at h
  split at h
  · cases h
  · rename_i hz
    split at h
    · cases h
    · rename_i hc
      cases h
      refine ⟨hz, ⟨?_, ?_⟩, ⟨?_, ?_⟩, rfl⟩
      · exact Rat.not_lt.mp fun z => hc (.inl (.inl z))
      · exact Rat.not_lt.mp fun z => hc (.inl (.inr z))
      · exact Rat.not_lt.mp fun z => hc (.inr (.inl z))
      · exact Rat.not_lt.mp fun z => hc (.inr (.inr z))
theorem cross_of {a b : Sg} (h : Wc a b ≠ 0) (h1 : 0 ≤ Sc a b ∧ Sc a b ≤ 1) (h2 : 0 ≤ Tc a b ∧ Tc a b ≤ 1) : cross a b = some (atW a (Sc a b)) := by
  unfold cross
  rw [if_neg h, if_neg]
  rintro ((z | z) | (z | z))
  · exact absurd h1.1 (Rat.not_le.mpr z)
  · exact absurd h1.2 (Rat.not_le.mpr z)
  · exact absurd h2.1 (Rat.not_le.mpr z)
  · exact absurd h2.2 (Rat.not_le.mpr z)
theorem cross_on {a b : Sg} {p : Pt} (h : cross a b = some p) : On a p ∧ On b p := by
  obtain ⟨h0, h1, h2, rfl⟩ := cross_some h
  exact ⟨⟨_, h1.1, h1.2, rfl⟩, ⟨_, h2.1, h2.2, meet h0⟩⟩
theorem on_cross {a b : Sg} (h : Wc a b ≠ 0) {x : Pt} (ha : On a x) (hb : On b x) : cross a b = some x := by
  obtain ⟨s, s0, s1, rfl⟩ := ha
  obtain ⟨t, t0, t1, e⟩ := hb
  obtain ⟨e1, e2⟩ := meet_uniq h e
  subst e1 e2
  exact cross_of h ⟨s0, s1⟩ ⟨t0, t1⟩
/-- signs -/
theorem sgn_mul_neg {x y : Rat} : sgn x * sgn y < 0 ↔ (0 < x ∧ y < 0) ∨ (x < 0 ∧ 0 < y) := by
  unfold sgn
  by_cases h1 : 0 < x <;> by_cases h2 : x < 0 <;> by_cases h3 : 0 < y <;> by_cases h4 : y < 0 <;> simp [h1, h2, h3, h4] <;> grind
theorem senses {a b : Sg} : (sense a.1 a.2 b.1 * sense a.1 a.2 b.2 < 0 ∧ sense b.1 b.2 a.1 * sense b.1 b.2 a.2 < 0) ↔ Wc a b ≠ 0 ∧ (0 < Sc a b ∧ Sc a b < 1) ∧ (0 < Tc a b ∧ Tc a b < 1) := by
  unfold sense
  rw [sgn_mul_neg, sgn_mul_neg]
  have f1 : crs (gone a.1 a.2) (gone a.1 b.1) = - crs (gone a.1 b.1) (gone a.1 a.2) := by unfold crs gone; grind
  have f2 : crs (gone a.1 a.2) (gone a.1 b.2) = Wc a b - crs (gone a.1 b.1) (gone a.1 a.2) := by unfold Wc crs gone; grind
  have f3 : crs (gone b.1 b.2) (gone b.1 a.1) = crs (gone a.1 b.1) (gone b.1 b.2) := by unfold crs gone; grind
  have f4 : crs (gone b.1 b.2) (gone b.1 a.2) = crs (gone a.1 b.1) (gone b.1 b.2) - Wc a b := by unfold Wc crs gone; grind
  rw [f1, f2, f3, f4]
  by_cases h : Wc a b = 0
  · rw [h]
    constructor
    · rintro ⟨h1, _⟩
      rcases h1 with h1 | h1 <;> grind
    · rintro ⟨z, _⟩; exact absurd rfl z
  · have h1 := sc_mul h
    have h2 := tc_mul h
    rw [← h1, ← h2]
    generalize Sc a b = s at *
    generalize Tc a b = t at *
    generalize Wc a b = W at *
    by_cases hp : 0 < W
    · have k1 : 0 < s ↔ 0 < s * W := (Rat.mul_pos_iff_of_pos_right hp).symm
      have k2 : 0 < t ↔ 0 < t * W := (Rat.mul_pos_iff_of_pos_right hp).symm
      have k3 : s < 1 ↔ s * W < W := by have := Rat.mul_lt_mul_right (a := s) (b := 1) hp; rw [Rat.one_mul] at this; exact this.symm
      have k4 : t < 1 ↔ t * W < W := by have := Rat.mul_lt_mul_right (a := t) (b := 1) hp; rw [Rat.one_mul] at this; exact this.symm
      rw [k1, k2, k3, k4]
      generalize s * W = u
      generalize t * W = v
      constructor
      · rintro ⟨h3, h4⟩
        refine ⟨h, ?_, ?_⟩
        · rcases h4 with h4 | h4 <;> grind
        · rcases h3 with h3 | h3 <;> grind
      · rintro ⟨_, h3, h4⟩
        exact ⟨.inr (by grind), .inl (by grind)⟩
    · have hn : 0 < -W := by grind
      have k1 : 0 < s ↔ 0 < s * -W := (Rat.mul_pos_iff_of_pos_right hn).symm
      have k2 : 0 < t ↔ 0 < t * -W := (Rat.mul_pos_iff_of_pos_right hn).symm
      have k3 : s < 1 ↔ s * -W < -W := by have := Rat.mul_lt_mul_right (a := s) (b := 1) hn; rw [Rat.one_mul] at this; exact this.symm
      have k4 : t < 1 ↔ t * -W < -W := by have := Rat.mul_lt_mul_right (a := t) (b := 1) hn; rw [Rat.one_mul] at this; exact this.symm
      rw [k1, k2, k3, k4]
      have e1 : s * -W = -(s * W) := by grind
      have e2 : t * -W = -(t * W) := by grind
      rw [e1, e2]
      generalize s * W = u
      generalize t * W = v
      constructor
      · rintro ⟨h3, h4⟩
        refine ⟨h, ?_, ?_⟩
        · rcases h4 with h4 | h4 <;> grind
        · rcases h3 with h3 | h3 <;> grind
      · rintro ⟨_, h3, h4⟩
        exact ⟨.inl (by grind), .inr (by grind)⟩
theorem touch_iff {a b : Sg} : touch a b = true ↔ (On a b.1 ∨ On a b.2 ∨ On b a.1 ∨ On b a.2) ∨ Wc a b ≠ 0 ∧ (0 < Sc a b ∧ Sc a b < 1) ∧ (0 < Tc a b ∧ Tc a b < 1) := by
  unfold touch
  rw [Bool.or_eq_true, decide_eq_true_eq, decide_eq_true_eq, senses, toF_iff, toF_iff, toF_iff, toF_iff]
theorem cross_touch {a b : Sg} {p : Pt} (h : cross a b = some p) : touch a b = true := by
  obtain ⟨h0, h1, h2, e⟩ := cross_some h
  obtain ⟨oa, ob⟩ := cross_on h
  rw [touch_iff]
  by_cases k1 : Sc a b = 0
  · rw [k1, at0] at e; subst e; exact .inl (.inr (.inr (.inl ob)))
  · by_cases k2 : Sc a b = 1
    · rw [k2, at1] at e; subst e; exact .inl (.inr (.inr (.inr ob)))
    · rw [meet h0] at e
      by_cases k3 : Tc a b = 0
      · rw [k3, at0] at e; subst e; exact .inl (.inl oa)
      · by_cases k4 : Tc a b = 1
        · rw [k4, at1] at e; subst e; exact .inl (.inr (.inl oa))
        · exact .inr ⟨h0, ⟨by grind, by grind⟩, ⟨by grind, by grind⟩⟩
theorem least_le : ∀ (l : List Rat) (f : Rat), least l f ≤ f ∧ (∀ x ∈ l, least l f ≤ x) ∧ (least l f = f ∨ least l f ∈ l)
  | [], f => ⟨Rat.le_refl, by simp, .inl rfl⟩
  | z :: l, f => by
    unfold least
    rw [List.foldl_cons]
    by_cases h : z < f
    · rw [if_pos h]
      obtain ⟨h1, h2, h3⟩ := least_le l z
      unfold least at h1 h2 h3
      refine ⟨by grind, fun x hx => ?_, .inr ?_⟩
      · rcases List.mem_cons.mp hx with rfl | hx
        · exact h1
        · exact h2 x hx
      · rcases h3 with h3 | h3
        · rw [h3]; simp
        · exact List.mem_cons_of_mem _ h3
    · rw [if_neg h]
      obtain ⟨h1, h2, h3⟩ := least_le l f
      unfold least at h1 h2 h3
      refine ⟨h1, fun x hx => ?_, ?_⟩
      · rcases List.mem_cons.mp hx with rfl | hx
        · grind
        · exact h2 x hx
      · rcases h3 with h3 | h3
        · exact .inl h3
        · exact .inr (List.mem_cons_of_mem _ h3)
theorem best_le : ∀ (l : List Sg) (f : Sg), far (best l f).1 (best l f).2 ≤ far f.1 f.2 ∧ (∀ x ∈ l, far (best l f).1 (best l f).2 ≤ far x.1 x.2) ∧ (best l f = f ∨ best l f ∈ l)
  | [], f => ⟨Rat.le_refl, by simp, .inl rfl⟩
  | z :: l, f => by
    unfold best
    rw [List.foldl_cons]
    by_cases h : far z.1 z.2 < far f.1 f.2
    · rw [if_pos h]
      obtain ⟨h1, h2, h3⟩ := best_le l z
      unfold best at h1 h2 h3
      refine ⟨by grind, fun x hx => ?_, .inr ?_⟩
      · rcases List.mem_cons.mp hx with rfl | hx
        · exact h1
        · exact h2 x hx
      · rcases h3 with h3 | h3
        · rw [h3]; simp
        · exact List.mem_cons_of_mem _ h3
    · rw [if_neg h]
      obtain ⟨h1, h2, h3⟩ := best_le l f
      unfold best at h1 h2 h3
      refine ⟨h1, fun x hx => ?_, ?_⟩
      · rcases List.mem_cons.mp hx with rfl | hx
        · grind
        · exact h2 x hx
      · rcases h3 with h3 | h3
        · exact .inl h3
        · exact .inr (List.mem_cons_of_mem _ h3)
/-- the four lengths -/
theorem pair_far {a b : Sg} {z : Sg} (h : z ∈ pairs a b) : far z.1 z.2 ∈ [toF a b.1, toF a b.2, toF b a.1, toF b a.2] ∧ On a z.1 ∧ On b z.2 := by
  simp only [pairs, List.mem_cons, List.not_mem_nil, or_false] at h
  rcases h with rfl | rfl | rfl | rfl
  · refine ⟨?_, on_1 a, near_on b _⟩
    rw [far_comm, near_far]; simp
  · refine ⟨?_, on_2 a, near_on b _⟩
    rw [far_comm, near_far]; simp
  · refine ⟨?_, near_on a _, on_1 b⟩
    rw [near_far]; simp
  · refine ⟨?_, near_on a _, on_2 b⟩
    rw [near_far]; simp
theorem pair_all {a b : Sg} : ∀ r ∈ [toF a b.1, toF a b.2, toF b a.1, toF b a.2], ∃ z ∈ pairs a b, far z.1 z.2 = r := by
  intro r hr
  simp only [List.mem_cons, List.not_mem_nil, or_false] at hr
  rcases hr with rfl | rfl | rfl | rfl
  · exact ⟨(near a b.1, b.1), by simp [pairs], near_far a _⟩
  · exact ⟨(near a b.2, b.2), by simp [pairs], near_far a _⟩
  · exact ⟨(a.1, near b a.1), by simp [pairs], by rw [far_comm]; exact near_far b _⟩
  · exact ⟨(a.2, near b a.2), by simp [pairs], by rw [far_comm]; exact near_far b _⟩
theorem best_mem (a b : Sg) : best (pairs a b) (a.1, near b a.1) ∈ pairs a b := by
  rcases (best_le (pairs a b) (a.1, near b a.1)).2.2 with h | h
  · rw [h]; simp [pairs]
  · exact h
theorem two_on (a b : Sg) : On a (nearTwo a b).1 ∧ On b (nearTwo a b).2 := by
  unfold nearTwo
  cases h : cross a b with
  | some p => exact cross_on h
  | none => exact (pair_far (best_mem a b)).2
theorem best_least (a b : Sg) : far (best (pairs a b) (a.1, near b a.1)).1 (best (pairs a b) (a.1, near b a.1)).2 = least [toF a b.1, toF a b.2, toF b a.1, toF b a.2] (toF a b.1) := by
  obtain ⟨h1, h2, h3⟩ := least_le [toF a b.1, toF a b.2, toF b a.1, toF b a.2] (toF a b.1)
  obtain ⟨k1, k2, k3⟩ := best_le (pairs a b) (a.1, near b a.1)
  have h4 := h2 _ (pair_far (best_mem a b)).1
  have h5 : least [toF a b.1, toF a b.2, toF b a.1, toF b a.2] (toF a b.1) ∈ [toF a b.1, toF a b.2, toF b a.1, toF b a.2] := by
    rcases h3 with h | h
    · rw [h]; simp
    · exact h
  obtain ⟨z, hz, e⟩ := pair_all _ h5
  have h6 := k2 z hz
  grind
theorem two_far (a b : Sg) : far (nearTwo a b).1 (nearTwo a b).2 = apartL a b := by
  unfold nearTwo apartL
  cases h : cross a b with
  | some p =>
    rw [if_pos (cross_touch h)]
    exact far_self p
  | none =>
    dsimp only
    rw [best_least]
    by_cases ht : touch a b = true
    · rw [if_pos ht]
      rw [touch_iff] at ht
      rcases ht with ht | ⟨h0, h1, h2⟩
      · obtain ⟨k1, k2, k3⟩ := least_le [toF a b.1, toF a b.2, toF b a.1, toF b a.2] (toF a b.1)
        have h5 : least [toF a b.1, toF a b.2, toF b a.1, toF b a.2] (toF a b.1) ∈ [toF a b.1, toF a b.2, toF b a.1, toF b a.2] := by
          rcases k3 with h | h
          · rw [h]; simp
          · exact h
        obtain ⟨z, hz, e⟩ := pair_all _ h5
        have h6 := far_nn z.1 z.2
        have h7 : ∃ r ∈ [toF a b.1, toF a b.2, toF b a.1, toF b a.2], r = 0 := by
          rcases ht with t | t | t | t
          · exact ⟨_, by simp, toF_on t⟩
          · exact ⟨_, by simp, toF_on t⟩
          · exact ⟨_, by simp, toF_on t⟩
          · exact ⟨_, by simp, toF_on t⟩
        obtain ⟨r, hr, e0⟩ := h7
        have h8 := k2 r hr
        grind
      · rw [cross_of h0 ⟨by grind, by grind⟩ ⟨by grind, by grind⟩] at h
        cases h
    · rw [if_neg ht]
end Rw
namespace Rw
/-! ## the length from a point of a piece to a wall is no less than that between wall and piece -/
/-- from within the square toward a point beyond it: an edge is met -/
theorem exit1 {s t S T : Rat} (hs : 0 ≤ s ∧ s ≤ 1) (ht : 0 ≤ t ∧ t ≤ 1) (h : ¬ ((0 ≤ S ∧ S ≤ 1) ∧ 0 ≤ T ∧ T ≤ 1)) :
    ∃ l, 0 ≤ l ∧ l ≤ 1 ∧ (0 ≤ s + l * (S - s) ∧ s + l * (S - s) ≤ 1) ∧ (0 ≤ t + l * (T - t) ∧ t + l * (T - t) ≤ 1) ∧ (s + l * (S - s) = 0 ∨ s + l * (S - s) = 1 ∨ t + l * (T - t) = 0 ∨ t + l * (T - t) = 1) := by
  -- one coordinate: how far until it leaves [0,1]
  have one : ∀ x X : Rat, 0 ≤ x ∧ x ≤ 1 → ¬ (0 ≤ X ∧ X ≤ 1) → ∃ l, 0 ≤ l ∧ l ≤ 1 ∧ (x + l * (X - x) = 0 ∨ x + l * (X - x) = 1) ∧ ∀ m, 0 ≤ m → m ≤ l → 0 ≤ x + m * (X - x) ∧ x + m * (X - x) ≤ 1 := by
    intro x X hx hX
    by_cases c : X < 0
    · have d : X - x ≠ 0 := by grind
      refine ⟨x / (x - X), ?_, ?_, .inl ?_, fun m h0 h1 => ?_⟩
      · have := Rat.div_mul_cancel (a := x) (b := x - X) (by grind)
        exact Rat.le_of_mul_le_mul_right (c := x - X) (by rw [this]; grind) (by grind)
      · have := Rat.div_mul_cancel (a := x) (b := x - X) (by grind)
        exact Rat.le_of_mul_le_mul_right (c := x - X) (by rw [this]; grind) (by grind)
      · have := Rat.div_mul_cancel (a := x) (b := x - X) (by grind)
        grind
      · have e := Rat.div_mul_cancel (a := x) (b := x - X) (by grind)
        have k := Rat.mul_nonneg (a := x / (x - X) - m) (b := x - X) (by grind) (by grind)
        have k2 := Rat.mul_nonneg (a := m) (b := x - X) (by grind) (by grind)
        constructor <;> grind
    · have c2 : 1 < X := by grind
      refine ⟨(1 - x) / (X - x), ?_, ?_, .inr ?_, fun m h0 h1 => ?_⟩
      · have := Rat.div_mul_cancel (a := 1 - x) (b := X - x) (by grind)
        exact Rat.le_of_mul_le_mul_right (c := X - x) (by rw [this]; grind) (by grind)
      · have := Rat.div_mul_cancel (a := 1 - x) (b := X - x) (by grind)
        exact Rat.le_of_mul_le_mul_right (c := X - x) (by rw [this]; grind) (by grind)
      · have := Rat.div_mul_cancel (a := 1 - x) (b := X - x) (by grind)
        grind
      · have e := Rat.div_mul_cancel (a := 1 - x) (b := X - x) (by grind)
        have k := Rat.mul_nonneg (a := (1 - x) / (X - x) - m) (b := X - x) (by grind) (by grind)
        have k2 := Rat.mul_nonneg (a := m) (b := X - x) (by grind) (by grind)
        constructor <;> grind
  have inn : ∀ x X m : Rat, 0 ≤ x ∧ x ≤ 1 → 0 ≤ X ∧ X ≤ 1 → 0 ≤ m → m ≤ 1 → 0 ≤ x + m * (X - x) ∧ x + m * (X - x) ≤ 1 := by
    intro x X m hx hX h0 h1
    have k1 := Rat.mul_nonneg (a := m) (b := X) h0 hX.1
    have k2 := Rat.mul_nonneg (a := m) (b := 1 - X) h0 (by grind)
    have k3 := Rat.mul_nonneg (a := 1 - m) (b := x) (by grind) hx.1
    have k4 := Rat.mul_nonneg (a := 1 - m) (b := 1 - x) (by grind) (by grind)
    constructor <;> grind
  by_cases hS : 0 ≤ S ∧ S ≤ 1
  · have hT : ¬ (0 ≤ T ∧ T ≤ 1) := fun z => h ⟨hS, z⟩
    obtain ⟨l, h0, h1, h2, h3⟩ := one t T ht hT
    exact ⟨l, h0, h1, inn s S l hs hS h0 h1, h3 l h0 (by grind), by rcases h2 with h2 | h2 <;> simp [h2]⟩
  · obtain ⟨l, h0, h1, h2, h3⟩ := one s S hs hS
    by_cases hT : 0 ≤ T ∧ T ≤ 1
    · exact ⟨l, h0, h1, h3 l h0 (by grind), inn t T l ht hT h0 h1, by rcases h2 with h2 | h2 <;> simp [h2]⟩
    · obtain ⟨m, g0, g1, g2, g3⟩ := one t T ht hT
      by_cases c : l ≤ m
      · exact ⟨l, h0, h1, h3 l h0 (by grind), g3 l h0 c, by rcases h2 with h2 | h2 <;> simp [h2]⟩
      · exact ⟨m, g0, g1, h3 m g0 (by grind), g3 m g0 (by grind), by rcases g2 with g2 | g2 <;> simp [g2]⟩
/-- the square of the length at two shares -/
theorem far_st (a b : Sg) (s t s' t' : Rat) : gone (atW b t') (atW a s') = (( gone (atW b t) (atW a s)).1 + ((s' - s) * (gone a.1 a.2).1 - (t' - t) * (gone b.1 b.2).1), (gone (atW b t) (atW a s)).2 + ((s' - s) * (gone a.1 a.2).2 - (t' - t) * (gone b.1 b.2).2)) := by
  unfold atW gone
  exact Prod.ext (by grind) (by grind)
theorem apart_edge {a b : Sg} (s t : Rat) (hs : 0 ≤ s ∧ s ≤ 1) (ht : 0 ≤ t ∧ t ≤ 1) (he : s = 0 ∨ s = 1 ∨ t = 0 ∨ t = 1) : apartL a b ≤ far (atW a s) (atW b t) := by
  unfold apartL
  by_cases hc : touch a b = true
  · rw [if_pos hc]; exact far_nn _ _
  · rw [if_neg hc]
    obtain ⟨_, k, _⟩ := least_le [toF a b.1, toF a b.2, toF b a.1, toF b a.2] (toF a b.1)
    have oa : On a (atW a s) := ⟨s, hs.1, hs.2, rfl⟩
    have ob : On b (atW b t) := ⟨t, ht.1, ht.2, rfl⟩
    rcases he with e | e | e | e
    · subst e
      rw [at0]
      have := toF_le b a.1 ob
      have := k (toF b a.1) (by simp)
      rw [far_comm]; grind
    · subst e
      rw [at1]
      have := toF_le b a.2 ob
      have := k (toF b a.2) (by simp)
      rw [far_comm]; grind
    · subst e
      rw [at0]
      have := toF_le a b.1 oa
      have := k (toF a b.1) (by simp)
      grind
    · subst e
      rw [at1]
      have := toF_le a b.2 oa
      have := k (toF a b.2) (by simp)
      grind
theorem apart_le {a b : Sg} {x y : Pt} (hx : On a x) (hy : On b y) : apartL a b ≤ far x y := by
  obtain ⟨s, s0, s1, rfl⟩ := hx
  obtain ⟨t, t0, t1, rfl⟩ := hy
  by_cases hw : Wc a b = 0
  · by_cases hv : dot (gone b.1 b.2) (gone b.1 b.2) = 0
    · obtain ⟨z1, z2⟩ := dot_zero hv
      have e : atW b t = atW b 0 := by unfold atW; rw [z1, z2]; exact Prod.ext (by grind) (by grind)
      rw [e]
      exact apart_edge s 0 ⟨s0, s1⟩ ⟨by decide, by decide⟩ (by simp)
    · have hv' := dot_pos hv
      obtain ⟨l, h0, h1, h2, h3, h4⟩ := exit1 (s := s) (t := t) (S := s + 2) (T := t + 2 * dot (gone a.1 a.2) (gone b.1 b.2) / dot (gone b.1 b.2) (gone b.1 b.2)) ⟨s0, s1⟩ ⟨t0, t1⟩ (by grind)
      refine Rat.le_trans (apart_edge _ _ h2 h3 h4) ?_
      rw [show far (atW a (s + l * (s + 2 - s))) (atW b (t + l * (t + 2 * dot (gone a.1 a.2) (gone b.1 b.2) / dot (gone b.1 b.2) (gone b.1 b.2) - t))) = far (atW a s) (atW b t) from ?_]
      · exact Rat.le_refl
      · rw [far_comm, far_comm (atW a s)]
        unfold far
        rw [far_st a b s t]
        have e := Rat.div_mul_cancel (a := 2 * dot (gone a.1 a.2) (gone b.1 b.2)) hv
        have e1 : (2 * dot (gone a.1 a.2) (gone b.1 b.2) / dot (gone b.1 b.2) (gone b.1 b.2)) * (gone b.1 b.2).1 = 2 * (gone a.1 a.2).1 := by
          refine mul_cancel hv ?_
          generalize 2 * dot (gone a.1 a.2) (gone b.1 b.2) / dot (gone b.1 b.2) (gone b.1 b.2) = z at *
          unfold Wc crs at hw
          unfold dot at e ⊢
          generalize (gone a.1 a.2).1 = u1 at *
          generalize (gone a.1 a.2).2 = u2 at *
          generalize (gone b.1 b.2).1 = v1 at *
          generalize (gone b.1 b.2).2 = v2 at *
          grind
        have e2 : (2 * dot (gone a.1 a.2) (gone b.1 b.2) / dot (gone b.1 b.2) (gone b.1 b.2)) * (gone b.1 b.2).2 = 2 * (gone a.1 a.2).2 := by
          refine mul_cancel hv ?_
          generalize 2 * dot (gone a.1 a.2) (gone b.1 b.2) / dot (gone b.1 b.2) (gone b.1 b.2) = z at *
          unfold Wc crs at hw
          unfold dot at e ⊢
          generalize (gone a.1 a.2).1 = u1 at *
          generalize (gone a.1 a.2).2 = u2 at *
          generalize (gone b.1 b.2).1 = v1 at *
          generalize (gone b.1 b.2).2 = v2 at *
          grind
        generalize 2 * dot (gone a.1 a.2) (gone b.1 b.2) / dot (gone b.1 b.2) (gone b.1 b.2) = z at *
        have f1 : (s + l * (s + 2 - s) - s) * (gone a.1 a.2).1 - (t + l * (t + z - t) - t) * (gone b.1 b.2).1 = 0 := by grind
        have f2 : (s + l * (s + 2 - s) - s) * (gone a.1 a.2).2 - (t + l * (t + z - t) - t) * (gone b.1 b.2).2 = 0 := by grind
        rw [f1, f2]
        unfold dot
        grind
  · by_cases hin : (0 ≤ Sc a b ∧ Sc a b ≤ 1) ∧ 0 ≤ Tc a b ∧ Tc a b ≤ 1
    · have ht := cross_touch (cross_of hw hin.1 hin.2)
      unfold apartL
      rw [if_pos ht]
      exact far_nn _ _
    · obtain ⟨l, h0, h1, h2, h3, h4⟩ := exit1 (s := s) (t := t) ⟨s0, s1⟩ ⟨t0, t1⟩ hin
      refine Rat.le_trans (apart_edge _ _ h2 h3 h4) ?_
      have m := meet hw
      have e0 := far_st a b s t (Sc a b) (Tc a b)
      rw [m] at e0
      have g0 : gone (atW b (Tc a b)) (atW b (Tc a b)) = (0, 0) := by unfold gone; exact Prod.ext (by grind) (by grind)
      rw [g0] at e0
      have c1 := congrArg Prod.fst e0
      have c2 := congrArg Prod.snd e0
      dsimp only at c1 c2
      rw [far_comm, far_comm (atW a s)]
      unfold far
      rw [far_st a b s t (s + l * (Sc a b - s)) (t + l * (Tc a b - t))]
      generalize gone (atW b t) (atW a s) = g at *
      have f1 : g.1 + ((s + l * (Sc a b - s) - s) * (gone a.1 a.2).1 - (t + l * (Tc a b - t) - t) * (gone b.1 b.2).1) = (1 - l) * g.1 := by grind
      have f2 : g.2 + ((s + l * (Sc a b - s) - s) * (gone a.1 a.2).2 - (t + l * (Tc a b - t) - t) * (gone b.1 b.2).2) = (1 - l) * g.2 := by grind
      rw [f1, f2]
      unfold dot
      have k1 := Rat.mul_nonneg (a := l * (2 - l)) (b := g.1 * g.1) (Rat.mul_nonneg h0 (by grind)) (sq_nn _)
      have k2 := Rat.mul_nonneg (a := l * (2 - l)) (b := g.2 * g.2) (Rat.mul_nonneg h0 (by grind)) (sq_nn _)
      grind
theorem apart_toF {a b : Sg} {x : Pt} (h : On b x) : apartL a b ≤ toF a x := by
  rw [← near_far]
  exact apart_le (near_on a x) h
theorem on_post {p x : Pt} (h : On (p, p) x) : x = p := by
  obtain ⟨t, _, _, rfl⟩ := h
  unfold atW gone
  exact Prod.ext (by grind) (by grind)
theorem apart_post (a : Sg) (p : Pt) : apartL a (p, p) = toF a p := by
  have h1 := apart_toF (a := a) (on_1 (p, p))
  have h2 : toF a p ≤ apartL a (p, p) := by
    rw [← two_far]
    obtain ⟨o1, o2⟩ := two_on a (p, p)
    rw [on_post o2]
    exact toF_le a p o1
  exact Rat.le_antisymm h1 h2
theorem apart_nn (a b : Sg) : 0 ≤ apartL a b := by rw [← two_far]; exact far_nn _ _
end Rw
namespace Rw
open PySem
/-! ## what is drawn -/
theorem mulOk_r {i j : Int} (h : -(2 ^ 64) < j ∧ j < 2 ^ 64) : mulOk i j = true := by
  unfold mulOk
  rw [decide_eq_true h]; simp
theorem mulOk_l {i j : Int} (h : -(2 ^ 64) < i ∧ i < 2 ^ 64) : mulOk i j = true := by
  unfold mulOk
  rw [decide_eq_true h]; simp
def sc (ns : List Int) : D := .list (ns.map .int)
theorem divOk_nat {n : Nat} (h : 0 < n) (h' : n < 2 ^ 100) : divOk (n : Int) = true := by
  unfold divOk
  have : n.log2 < 101 := log_lt h'
  simp only [Bool.and_eq_true, decide_eq_true_eq]
  exact ⟨by omega, by show n.log2 < 9000; omega⟩
theorem cell_ok (ns : List Int) (k : Int) (hk : 0 ≤ k) (hl : ns.length ≤ 63) : ∃ c, F_law_cell [sc ns, .int k] = .ok (.int c) := by
  have hs : Pl 1 (sc ns) := .lst fun x hx => by obtain ⟨i, _, rfl⟩ := List.mem_map.mp hx; exact .int _ _
  have he : eqD (sc ns) (.list []) = .ok (decide (ns = [])) := eqD_pl hs (.lst (k := 0) fun x hx => by cases hx) (by decide) _ (by simp [sc])
  unfold F_law_cell r_law_cell
  cases ns with
  | nil =>
    have m : mulOk k 7919 = true := mulOk_r (by decide)
    unfold sc at he ⊢
    simp [runD, b_law_cell, big] at he ⊢
    simp [he, m]
  | cons i r =>
    have hlen : (0 : Int) < (i :: r).length := by simp
    have m : mulOk (k / (((i :: r).length : Nat) : Int)) 104729 = true := mulOk_r (by decide)
    have d : divOk (((i :: r).length : Nat) : Int) = true := divOk_nat (by simp) (Nat.lt_of_lt_of_le (show (i :: r).length < 2 ^ 6 by omega) (by decide))
    have h1 := Int.emod_nonneg k (b := (((i :: r).length : Nat) : Int)) (by omega)
    have h2 := Int.emod_lt_of_pos k hlen
    have hi : ∃ c, ((i :: r).map PyData.int)[(k % (((i :: r).length : Nat) : Int)).toNat]? = some (.int c) := by
      have : (k % (((i :: r).length : Nat) : Int)).toNat < (i :: r).length := by omega
      exact ⟨(i :: r)[(k % (((i :: r).length : Nat) : Int)).toNat], by rw [List.getElem?_map, List.getElem?_eq_getElem this]; rfl⟩
    obtain ⟨c, hc⟩ := hi
    have hidx := idx_l (l := (i :: r).map PyData.int) h1 hc
    have hb : bltD .len [sc (i :: r)] = .ok (.int (((i :: r).length : Nat) : Int)) := by simp [bltD, sc]
    have he' : eqD (sc (i :: r)) (.list []) = .ok false := by rw [he]; simp
    generalize hL : (((i :: r).length : Nat) : Int) = Ln at *
    have hsc : sc (i :: r) = .list ((i :: r).map PyData.int) := rfl
    rw [← hsc] at hidx
    generalize sc (i :: r) = s at *
    refine ⟨c + k / Ln * 104729, ?_⟩
    simp [runD, b_law_cell, big, he', hb, hlen, hidx, d, m]
theorem emod_nat {x m : Int} {k : Nat} (hm : 0 < m) (h : m ≤ 2 ^ k) : 0 ≤ x % m ∧ (x % m).natAbs < 2 ^ k := by
  have h1 := Int.emod_nonneg x (b := m) (by omega)
  have h2 := Int.emod_lt_of_pos x hm
  refine ⟨h1, ?_⟩
  have h3 : x % m < 2 ^ k := by omega
  have e : ((x % m).natAbs : Int) = x % m := by omega
  have h4 : ((2 ^ k : Nat) : Int) = 2 ^ k := by norm_cast
  omega
theorem drawn_ok (c k : Int) : ∃ m, F_law_drawn [.int c, .int k] = .ok (.int m) ∧ 0 ≤ m ∧ m.natAbs < 2 ^ 129 := by
  have hA : ∀ i, mulOk i 6364136223846793005 = true := fun i => mulOk_r (by decide)
  have hB : ∀ i, mulOk i 1442695040888963407 = true := fun i => mulOk_r (by decide)
  obtain ⟨a0, a1⟩ := emod_nat (x := c * 6364136223846793005 + (k + 1) * 1442695040888963407) (m := 340282366920938463463374607431768211507) (k := 129) (by decide) (by decide)
  have e1 : ∃ x, (c * 6364136223846793005 + (k + 1) * 1442695040888963407) % 340282366920938463463374607431768211507 = x := ⟨_, rfl⟩
  obtain ⟨x, e1⟩ := e1
  rw [e1] at a0 a1
  have m1 : mulOk x x = true := mulOk_of a1 a1 (by decide)
  obtain ⟨b0, b1⟩ := emod_nat (x := x * x) (m := 340282366920938463463374607431768211297) (k := 128) (by decide) (by decide)
  have e2 : ∃ y, x * x % 340282366920938463463374607431768211297 = y := ⟨_, rfl⟩
  obtain ⟨y, e2⟩ := e2
  rw [e2] at b0 b1
  obtain ⟨c0, c1⟩ := emod_nat (x := y) (m := 18446744073709551557) (k := 64) (by decide) (by decide)
  have e3 : ∃ u, y % 18446744073709551557 = u := ⟨_, rfl⟩
  obtain ⟨u, e3⟩ := e3
  rw [e3] at c0 c1
  have e4 : ∃ v, y / 18446744073709551557 = v := ⟨_, rfl⟩
  obtain ⟨v, e4⟩ := e4
  have d1 : v.natAbs ≤ y.natAbs := by rw [← e4]; exact Int.natAbs_ediv_le_natAbs _ _
  have p65 : (2 : Nat) ^ 65 = 2 ^ 64 * 2 := Nat.pow_succ ..
  have p129 : (2 : Nat) ^ 129 = 2 ^ 128 * 2 := Nat.pow_succ ..
  have q64 := Nat.two_pow_pos 64
  have q128 := Nat.two_pow_pos 128
  have f1 : (u + 1).natAbs < 2 ^ 65 := by omega
  have f2 : (v + 1).natAbs < 2 ^ 129 := by omega
  have m2 : mulOk (u + 1) (v + 1) = true := mulOk_of f1 f2 (by decide)
  have f3 : ((u + 1) * (v + 1)).natAbs < 2 ^ (65 + 129) := nn_lt f1 f2
  have m3 : mulOk ((u + 1) * (v + 1)) y = true := mulOk_of f3 b1 (by decide)
  obtain ⟨g0, g1⟩ := emod_nat (x := (u + 1) * (v + 1) * y) (m := 340282366920938463463374607431768211507) (k := 129) (by decide) (by decide)
  have dv : divOk 18446744073709551557 = true := by decide +kernel
  refine ⟨_, ?_, g0, g1⟩
  unfold F_law_drawn r_law_drawn
  simp [runD, b_law_drawn, hA, hB, e1, m1, e2, e3, e4, m2, m3, dv]
theorem int_divInt (x : Int) : Rat.divInt x 1 = (x : Rat) := by
  have h1 : (x : Rat).num = x := Rat.num_intCast x
  have h2 : (x : Rat).den = 1 := Rat.den_intCast x
  have := Rat.num_divInt_den (x : Rat)
  rw [h1, h2] at this
  exact this
theorem made1 (x : Int) : F_law_made [.int x, .int 1] = .ok (q (x : Rat)) := by
  rw [made_ok (by decide) (by decide), int_divInt]
theorem q_int (x : Int) : q (x : Rat) = .tuple [.int x, .int 1] := by
  unfold q
  rw [Rat.num_intCast, Rat.den_intCast]; rfl
theorem bd_int {x : Int} {n : Nat} (h : x.natAbs < 2 ^ n) : Bd n 0 (x : Rat) := ⟨by simpa using h, by simp⟩
theorem emod_r {x m : Int} (hm : 0 < m) : 0 ≤ x % m ∧ x % m < m := ⟨Int.emod_nonneg x (by omega), Int.emod_lt_of_pos x hm⟩
theorem point_drawn (m : Int) : ∃ p, F_law_point [.int m] = .ok (pt p) ∧ BP 4 2 p := by
  obtain ⟨a0, a1⟩ := emod_r (x := m) (m := 25) (by decide)
  obtain ⟨b0, b1⟩ := emod_r (x := m / 32) (m := 25) (by decide)
  obtain ⟨c0, c1⟩ := emod_r (x := m / 1048576) (m := 5) (by decide)
  have e1 : ∃ u, m % 25 = u := ⟨_, rfl⟩
  obtain ⟨u, e1⟩ := e1
  have e2 : ∃ v, m / 32 % 25 = v := ⟨_, rfl⟩
  obtain ⟨v, e2⟩ := e2
  have e3 : ∃ w, m / 1048576 % 5 = w := ⟨_, rfl⟩
  obtain ⟨w, e3⟩ := e3
  rw [e1] at a0 a1
  rw [e2] at b0 b1
  rw [e3] at c0 c1
  have d1 : divOk 1048576 = true := by decide +kernel
  have d2 : divOk 32 = true := by decide +kernel
  have pw : powOk 2 20 = true := by decide +kernel
  have hi : ∃ n : Int, idxD (.list [.int 1, .int 1, .int 1, .int 2, .int 3]) (.int w) = .ok (.int n) ∧ 0 < n ∧ n ≤ 3 := by
    have : w = 0 ∨ w = 1 ∨ w = 2 ∨ w = 3 ∨ w = 4 := by omega
    rcases this with rfl | rfl | rfl | rfl | rfl
    · exact ⟨1, rfl, by decide, by decide⟩
    · exact ⟨1, rfl, by decide, by decide⟩
    · exact ⟨1, rfl, by decide, by decide⟩
    · exact ⟨2, rfl, by decide, by decide⟩
    · exact ⟨3, rfl, by decide, by decide⟩
  obtain ⟨n, hn, n0, n1⟩ := hi
  have hlog : n.natAbs.log2 < 9000 := by
    have := log_lt (n := n.natAbs) (k := 2) (by omega)
    omega
  have k1 := made_ok (a := u - 12) n0 hlog
  have k2 := made_ok (a := v - 12) n0 hlog
  refine ⟨(Rat.divInt (u - 12) n, Rat.divInt (v - 12) n), ?_, bd_divInt (by omega) (by omega) (by omega), bd_divInt (by omega) (by omega) (by omega)⟩
  unfold F_law_point r_law_point
  generalize F_law_made = G at k1 k2 ⊢
  simp [runD, b_law_point, d1, d2, pw, e1, e2, e3, big, hn, k1, k2, pt]
theorem fence_drawn (m : Int) : ∃ s, F_law_one_fence [.int m] = .ok (sg s) ∧ BS 5 0 s := by
  obtain ⟨a0, a1⟩ := emod_r (x := m) (m := 21) (by decide)
  obtain ⟨b0, b1⟩ := emod_r (x := m / 32) (m := 21) (by decide)
  obtain ⟨c0, c1⟩ := emod_r (x := m / 8192) (m := 17) (by decide)
  obtain ⟨f0, f1⟩ := emod_r (x := m / 262144) (m := 17) (by decide)
  obtain ⟨g0, g1⟩ := emod_r (x := m / 8388608) (m := 4) (by decide)
  have e1 : ∃ u, m % 21 = u := ⟨_, rfl⟩
  obtain ⟨u, e1⟩ := e1
  have e2 : ∃ v, m / 32 % 21 = v := ⟨_, rfl⟩
  obtain ⟨v, e2⟩ := e2
  have e3 : ∃ w, m / 8192 % 17 = w := ⟨_, rfl⟩
  obtain ⟨w, e3⟩ := e3
  have e4 : ∃ y, m / 262144 % 17 = y := ⟨_, rfl⟩
  obtain ⟨y, e4⟩ := e4
  have e5 : ∃ z, m / 8388608 % 4 = z := ⟨_, rfl⟩
  obtain ⟨z, e5⟩ := e5
  rw [e1] at a0 a1
  rw [e2] at b0 b1
  rw [e3] at c0 c1
  rw [e4] at f0 f1
  have d1 : divOk 8192 = true := by decide +kernel
  have d2 : divOk 32 = true := by decide +kernel
  have d3 : divOk 1024 = true := by decide +kernel
  have d4 : divOk 262144 = true := by decide +kernel
  have d5 : divOk 8388608 = true := by decide +kernel
  have pw : powOk 2 18 = true := by decide +kernel
  have pw2 : powOk 2 23 = true := by decide +kernel
  have x1 : ∃ X, u - 10 = X := ⟨_, rfl⟩
  obtain ⟨X, x1⟩ := x1
  have x2 : ∃ Y, v - 10 = Y := ⟨_, rfl⟩
  obtain ⟨Y, x2⟩ := x2
  have k1 := made1 X
  have k2 := made1 Y
  have q1 := q_int X
  have q2 := q_int Y
  by_cases h0 : m / 1024 % 6 = 0
  · refine ⟨((X, Y), (X, Y)), ?_, ?_⟩
    · unfold F_law_one_fence r_law_one_fence
      generalize F_law_made = G at k1 k2 ⊢
      simp [runD, b_law_one_fence, d1, d2, d3, e1, e2, x1, x2, big, k1, k2, eq_i, h0, sg, pt]
    · exact ⟨⟨bd_int (by omega), bd_int (by omega)⟩, ⟨bd_int (by omega), bd_int (by omega)⟩⟩
  · have x3 : ∃ Z, X + w - 8 = Z := ⟨_, rfl⟩
    obtain ⟨Z, x3⟩ := x3
    have k3 := made1 Z
    have q3 := q_int Z
    have x4 : ∃ r : Int, idxD (.list [.int 0, .int (y - 8)]) (.int (if 0 < z then 1 else 0)) = .ok (.int r) ∧ -8 ≤ r ∧ r ≤ 8 := by
      by_cases h1 : 0 < z
      · exact ⟨y - 8, by rw [if_pos h1]; rfl, by omega, by omega⟩
      · exact ⟨0, by rw [if_neg h1]; rfl, by omega, by omega⟩
    obtain ⟨r, x4, r0, r1⟩ := x4
    have x5 : ∃ V, Y + r = V := ⟨_, rfl⟩
    obtain ⟨V, x5⟩ := x5
    have k4 := made1 V
    have q4 := q_int V
    refine ⟨((X, Y), (Z, V)), ?_, ?_⟩
    · unfold F_law_one_fence r_law_one_fence
      generalize F_law_made = G at k1 k2 k3 k4 ⊢
      rw [q1] at k1
      rw [q2] at k2
      simp [runD, b_law_one_fence, d1, d2, d3, d4, d5, pw, pw2, e1, e2, e3, e4, e5, x1, x2, x3, x4, x5, big, k1, k2, k3, k4, eq_i, h0, sg, pt, bltD, q1, q2]
    · exact ⟨⟨bd_int (by omega), bd_int (by omega)⟩, ⟨bd_int (by omega), bd_int (by omega)⟩⟩
end Rw
namespace Rw
open PySem
/-! ## rows of a text, one by one -/
section
variable {ρ : Rho} {e e' : Fr} {r a b : Sts} {x c : Ex} {d : D} {l k : Bool} {i : Nat} {t : Tg}
theorem go_set (h : evS ρ l x e = .ok d) (hi : i < e.length) : semSs ρ (.cons (.asg l (.nm i) x) r) e = semSs ρ r (e.set i (.val d)) := by
  rw [semSs_c, semS_asg, h, toFl_ok, semTg_nm, if_pos hi]; rfl
theorem go_tg (h : evS ρ l x e = .ok d) (ht : semTg t d e = some e') : semSs ρ (.cons (.asg l t x) r) e = semSs ρ r e' := by
  rw [semSs_c, semS_asg, h, toFl_ok, ht]; rfl
theorem go_if (h : evT ρ l c e = .ok k) : semSs ρ (.cons (.ifS l c a b) r) e = seqF (if k then semSs ρ a e else semSs ρ b e) (semSs ρ r) := by
  rw [semSs_c, semS_if, h]; rfl
theorem go_if0 (h : evT ρ l c e = .ok false) : semSs ρ (.cons (.ifS l c a .nil) r) e = semSs ρ r e := by
  rw [go_if h, if_neg Bool.false_ne_true, semSs_n]; rfl
theorem go_if1 (h : evT ρ l c e = .ok true) : semSs ρ (.cons (.ifS l c a b) r) e = seqF (semSs ρ a e) (semSs ρ r) := by
  rw [go_if h, if_pos rfl]
theorem go_ret (h : semE ρ x e = .ok d) : semSs ρ (.cons (.ret false x) r) e = .rt d := by
  rw [semSs_c, semS_ret]
  simp [h]
theorem go_expr (h : semE ρ x e = .ok d) : semSs ρ (.cons (.expr x) r) e = semSs ρ r e := by
  rw [semSs_c, semS_expr, h]; rfl
theorem go_own {xs : List D} (h : semE ρ x e = .ok (.list xs)) (hi : i < e.length) : semSs ρ (.cons (.ownL i x) r) e = semSs ρ r (e.set i (.own xs)) := by
  rw [semSs_c, semS_ownL, h]; simp [hi]
theorem go_app {xs : List D} (ho : e[i]? = some (.own xs)) (h : evS ρ l x e = .ok d) (hl : xs.length < big) : semSs ρ (.cons (.app l i x) r) e = semSs ρ r (e.set i (.own (xs ++ [d]))) := by
  rw [semSs_c, semS_app]; unfold ownAt; rw [ho]; simp only [h, toFl_ok, if_pos hl]; rfl
theorem go_ext {xs ys : List D} (ho : e[i]? = some (.own xs)) (h : semE ρ x e = .ok (.list ys)) (hl : xs.length + ys.length ≤ big) : semSs ρ (.cons (.ext i x) r) e = semSs ρ r (e.set i (.own (xs ++ ys))) := by
  rw [semSs_c, semS_ext]; unfold ownAt; rw [ho]; simp only [h, toFl_ok, listD_l, if_pos hl]; rfl
theorem go_frz {xs : List D} (ho : e[i]? = some (.own xs)) : semSs ρ (.frz i r) e = semSs ρ r (e.set i (.val (.list xs))) := by
  rw [semSs_f]; unfold ownAt; rw [ho]
theorem go_for {it : It} {items : List D} (h : semIt ρ it e = .ok items) (hf : forN (fun d e' => tgF (semTg t d e') (semSs ρ b)) items e = .nx e') : semSs ρ (.cons (.forS t it b) r) e = semSs ρ r e' := by
  rw [semSs_c, semS_for, h, itF_ok, hf]; rfl
theorem go_for_rt {it : It} {items : List D} (h : semIt ρ it e = .ok items) (hf : forN (fun d e' => tgF (semTg t d e') (semSs ρ b)) items e = .rt d) : semSs ρ (.cons (.forS t it b) r) e = .rt d := by
  rw [semSs_c, semS_for, h, itF_ok, hf]; rfl
end
/-! ## pieces of a text -/
def forB : Sts → Sts
  | .cons (.forS _ _ b) _ => b
  | _ => .nil
def dropS : Nat → Sts → Sts
  | 0, b => b
  | n + 1, .cons _ r => dropS n r
  | _ + 1, _ => .nil
/-! ## loops -/
theorem for_keep {P : Fr → Prop} {f : D → Fr → Fl} : ∀ (l : List D), (∀ d ∈ l, ∀ e, P e → ∃ e', f d e = .nx e' ∧ P e') → ∀ e, P e → ∃ e', forN f l e = .nx e' ∧ P e'
  | [], _, e, p => ⟨e, rfl, p⟩
  | d :: l, h, e, p => by
    obtain ⟨e1, h1, p1⟩ := h d (by simp) e p
    obtain ⟨e2, h2, p2⟩ := for_keep l (fun x hx => h x (by simp [hx])) e1 p1
    exact ⟨e2, by rw [for_c, h1]; exact h2, p2⟩
/-- a loop that keeps P, and what is behind it -/
theorem go_for_then {ρ : Rho} {e : Fr} {t : Tg} {it : It} {b r : Sts} {items : List D} {P : Fr → Prop} {R : Fl → Prop} (h : semIt ρ it e = .ok items) (hp : P e) (hk : ∀ d ∈ items, ∀ e, P e → ∃ e', tgF (semTg t d e) (semSs ρ b) = .nx e' ∧ P e') (hr : ∀ e', P e' → R (semSs ρ r e')) : R (semSs ρ (.cons (.forS t it b) r) e) := by
  obtain ⟨e', h1, h2⟩ := for_keep items hk e hp
  rw [go_for h h1]
  exact hr e' h2
/-- with the items that are behind -/
theorem for_at {P : List D → Fr → Prop} {f : D → Fr → Fl} : ∀ (l pre : List D), (∀ (pre : List D) (d : D) (post : List D) e, P pre e → d ∈ l → ∃ e', (f d e = .nx e' ∨ f d e = .ct e') ∧ P (pre ++ [d]) e') → ∀ e, P pre e → ∃ e', forN f l e = .nx e' ∧ P (pre ++ l) e'
  | [], pre, _, e, p => ⟨e, rfl, by simpa using p⟩
  | d :: l, pre, h, e, p => by
    obtain ⟨e1, h1, p1⟩ := h pre d l e p (by simp)
    obtain ⟨e2, h2, p2⟩ := for_at l (pre ++ [d]) (fun pre' x post e' p' hx => h pre' x post e' p' (by simp [hx])) e1 p1
    refine ⟨e2, ?_, by simpa using p2⟩
    rcases h1 with h1 | h1 <;> (rw [for_c, h1]; exact h2)
/-! ## comprehensions -/
theorem compN_fm {f : D → M (Option D)} {g : D → Option D} : ∀ (l : List D), (∀ d ∈ l, f d = .ok (g d)) → compN f l = .ok (l.filterMap g)
  | [], _ => rfl
  | d :: l, h => by
    simp only [compN]
    rw [h d (by simp), bind_ok, compN_fm l fun x hx => h x (by simp [hx]), bind_ok]
    cases hg : g d <;> simp [List.filterMap_cons, hg]
theorem compN_map {α : Type} (ι : α → D) {f : D → M (Option D)} {g : α → Option D} : ∀ (l : List α), (∀ x ∈ l, f (ι x) = .ok (g x)) → compN f (l.map ι) = .ok (l.filterMap g)
  | [], _ => rfl
  | d :: l, h => by
    rw [List.map_cons]
    simp only [compN]
    rw [h d (by simp), bind_ok, compN_map ι l fun x hx => h x (by simp [hx]), bind_ok]
    cases hg : g d <;> simp [List.filterMap_cons, hg]
/-- over a row of things -/
theorem comp_of {α : Type} {ρ : Rho} {e : Fr} {own : List (Str × Nat)} {tg : Tg} {it : It} {cs : Exs} {elt : Ex} {l : List α} (ι : α → D) (g : α → Option D) (hi : semIt ρ it e = .ok (l.map ι)) (hl : l.length ≤ big)
    (hf : ∀ x ∈ l, compF tg (own.map (·.2)) (semCs ρ cs) (semE ρ elt) e (ι x) = .ok (g x)) : semE ρ (.comp own tg it cs elt) e = .ok (.list (l.filterMap g)) := by
  rw [semE_comp, hi, bind_ok]
  unfold compV
  rw [if_pos (by simpa using hl), compN_map ι l hf]; rfl
theorem comp_each {α : Type} {ρ : Rho} {e : Fr} {own : List (Str × Nat)} {tg : Tg} {it : It} {cs : Exs} {elt : Ex} {l : List α} (ι : α → D) (g : α → D) (hi : semIt ρ it e = .ok (l.map ι)) (hl : l.length ≤ big)
    (hf : ∀ x ∈ l, compF tg (own.map (·.2)) (semCs ρ cs) (semE ρ elt) e (ι x) = .ok (some (g x))) : semE ρ (.comp own tg it cs elt) e = .ok (.list (l.map g)) := by
  rw [comp_of ι (fun x => some (g x)) hi hl hf, List.filterMap_eq_map']
theorem compN_some {α β : Type} (ι : α → D) (κ : β → D) (P : β → Prop) {f : D → M (Option D)} : ∀ (l : List α), (∀ x ∈ l, ∃ y, f (ι x) = .ok (some (κ y)) ∧ P y) → ∃ ys : List β, ys.length = l.length ∧ (∀ y ∈ ys, P y) ∧ compN f (l.map ι) = .ok (ys.map κ)
  | [], _ => ⟨[], rfl, by simp, rfl⟩
  | d :: l, h => by
    obtain ⟨y, h1, h2⟩ := h d (by simp)
    obtain ⟨ys, h3, h4, h5⟩ := compN_some ι κ P l fun x hx => h x (by simp [hx])
    refine ⟨y :: ys, by simp [h3], fun z hz => ?_, ?_⟩
    · rcases List.mem_cons.mp hz with rfl | hz
      · exact h2
      · exact h4 z hz
    · rw [List.map_cons]
      simp only [compN]
      rw [h1, bind_ok, h5, bind_ok]; rfl
/-- each item somehow -/
theorem comp_some {α β : Type} {ρ : Rho} {e : Fr} {own : List (Str × Nat)} {tg : Tg} {it : It} {cs : Exs} {elt : Ex} {l : List α} (ι : α → D) (κ : β → D) (P : β → Prop) (hi : semIt ρ it e = .ok (l.map ι)) (hl : l.length ≤ big)
    (hf : ∀ x ∈ l, ∃ y, compF tg (own.map (·.2)) (semCs ρ cs) (semE ρ elt) e (ι x) = .ok (some (κ y)) ∧ P y) : ∃ ys : List β, ys.length = l.length ∧ (∀ y ∈ ys, P y) ∧ semE ρ (.comp own tg it cs elt) e = .ok (.list (ys.map κ)) := by
  obtain ⟨ys, h1, h2, h3⟩ := compN_some ι κ P l hf
  refine ⟨ys, h1, h2, ?_⟩
  rw [semE_comp, hi, bind_ok]
  unfold compV
  rw [if_pos (by simpa using hl), h3]; rfl
theorem comp_ok {ρ : Rho} {e : Fr} {own : List (Str × Nat)} {tg : Tg} {it : It} {cs : Exs} {elt : Ex} {items : List D} (g : D → Option D) (hi : semIt ρ it e = .ok items) (hl : items.length ≤ big)
    (hf : ∀ d ∈ items, compF tg (own.map (·.2)) (semCs ρ cs) (semE ρ elt) e d = .ok (g d)) : semE ρ (.comp own tg it cs elt) e = .ok (.list (items.filterMap g)) := by
  rw [semE_comp, hi, bind_ok]
  unfold compV
  rw [if_pos hl, compN_fm items hf]; rfl
theorem comp_map {ρ : Rho} {e : Fr} {own : List (Str × Nat)} {tg : Tg} {it : It} {cs : Exs} {elt : Ex} {items : List D} (g : D → D) (hi : semIt ρ it e = .ok items) (hl : items.length ≤ big)
    (hf : ∀ d ∈ items, compF tg (own.map (·.2)) (semCs ρ cs) (semE ρ elt) e d = .ok (some (g d))) : semE ρ (.comp own tg it cs elt) e = .ok (.list (items.map g)) := by
  rw [comp_ok (fun d => some (g d)) hi hl hf, List.filterMap_eq_map']
end Rw
namespace Rw
open PySem
/-! ## where the middle may be: the rooms' functions -/
/-- sizes that all points, walls and reaches of the laws keep -/
def SmP (p : Pt) : Prop := BP 40 20 p
def SmS (s : Sg) : Prop := BS 40 20 s
def SmR (r : Rat) : Prop := Bd 300 200 r
theorem SmS.post {p : Pt} (h : SmP p) : SmS (p, p) := ⟨h, h⟩
def inWay (ws : List Sg) (r : Rat) (p : Sg) : List Nat := (ws.zipIdx.filter fun z => decide (apartL z.1 p < r)).map (·.2)
def nums (l : List Nat) : D := .list (l.map fun n => .int (n : Nat))
def walls (ws : List Sg) : D := .list (ws.map sg)
theorem apart_gen2 {a b x y s : D} (h1 : F_nearest_two [a, b] = .ok (.tuple [x, y])) (h2 : F_square_far [x, y] = .ok s) : F_apart [a, b] = .ok s := by
  unfold F_apart r_apart
  generalize F_nearest_two = G1 at h1 ⊢
  generalize F_square_far = G2 at h2 ⊢
  simp [runD, b_apart, h1, h2]
theorem bp_two {a b : Sg} (ha : SmS a) (hb : SmS b) : BP 466 423 (nearTwo a b).1 ∧ BP 466 423 (nearTwo a b).2 := by
  unfold nearTwo
  cases h : cross a b with
  | some p =>
    have := bp_cross ha hb h
    exact ⟨this.mono (by omega) (by omega), this.mono (by omega) (by omega)⟩
  | none =>
    dsimp only
    have hm := best_mem a b
    generalize best (pairs a b) (a.1, near b a.1) = z at hm ⊢
    simp only [pairs, List.mem_cons, List.not_mem_nil, or_false] at hm
    rcases hm with rfl | rfl | rfl | rfl
    · exact ⟨ha.1.mono (by omega) (by omega), (bp_near hb ha.1).mono (by omega) (by omega)⟩
    · exact ⟨ha.2.mono (by omega) (by omega), (bp_near hb ha.2).mono (by omega) (by omega)⟩
    · exact ⟨(bp_near ha hb.1).mono (by omega) (by omega), hb.1.mono (by omega) (by omega)⟩
    · exact ⟨(bp_near ha hb.2).mono (by omega) (by omega), hb.2.mono (by omega) (by omega)⟩
theorem apart_sm {a b : Sg} (ha : SmS a) (hb : SmS b) : F_apart [sg a, sg b] = .ok (q (apartL a b)) := by
  obtain ⟨h1, h2⟩ := bp_two ha hb
  rw [← two_far]
  exact apart_gen2 (two_ok ha hb (by unfold Cd; omega)) (square_ok h1 h2 (by omega) (by omega))
theorem bd_apart {a b : Sg} (ha : SmS a) (hb : SmS b) : Bd 4000 4000 (apartL a b) := by
  obtain ⟨h1, h2⟩ := bp_two ha hb
  rw [← two_far]
  exact (bd_dot (bp_gone h1 h2) (bp_gone h1 h2)).mono (by omega) (by omega)
theorem less_apart {a b : Sg} {r : Rat} (ha : SmS a) (hb : SmS b) (hr : SmR r) : F_is_less [q (apartL a b), q r] = .ok (.bool (decide (apartL a b < r))) := is_less_ok (bd_apart ha hb) hr (by omega)
theorem lless_apart {a b : Sg} {r : Rat} (ha : SmS a) (hb : SmS b) (hr : SmR r) : F_law_less [q (apartL a b), q r] = .ok (.bool (decide (apartL a b < r))) := lis_less_ok (bd_apart ha hb) hr (by omega)
theorem lapart_sm {a b : Sg} (ha : SmS a) (hb : SmS b) : F_law_apart [sg a, sg b] = .ok (q (apartL a b)) := apart_ok ha hb (by unfold Cl; omega)
/-- [number for number, x in enumerate(l) if t] -/
theorem comp_enum {α : Type} {ρ : Rho} {e : Fr} {own : List (Str × Nat)} {tg : Tg} {a : Ex} {cs : Exs} {elt : Ex} {l : List α} (f : α → D) (p : α → Bool) (hi : semE ρ a e = .ok (.list (l.map f))) (hl : l.length ≤ big)
    (hf : ∀ x ∈ l, ∀ n : Nat, compF tg (own.map (·.2)) (semCs ρ cs) (semE ρ elt) e (.tuple [.int n, f x]) = .ok (if p x then some (.int n) else none)) :
    semE ρ (.comp own tg (.enum a) cs elt) e = .ok (nums ((l.zipIdx.filter fun z => p z.1).map (·.2))) := by
  rw [comp_of (l := l.zipIdx) (fun z : α × Nat => .tuple [.int z.2, f z.1]) (fun z => if p z.1 then some (.int z.2) else none)]
  · unfold nums
    congr 2
    generalize l.zipIdx = m
    induction m with
    | nil => rfl
    | cons z m ih => by_cases h : p z.1 = true <;> simp [List.filterMap_cons, List.filter_cons, h, ih]
  · rw [semIt_enum, hi, bind_ok, itE_l, List.zipIdx_map, List.map_map]; rfl
  · simpa using hl
  · rintro ⟨x, n⟩ hx
    exact hf x (List.fst_mem_of_mem_zipIdx hx) n
theorem inway_sm {ws : List Sg} {r : Rat} {p : Sg} (hw : ∀ w ∈ ws, SmS w) (hr : SmR r) (hp : SmS p) (hl : ws.length ≤ big) : F_in_way [walls ws, q r, sg p] = .ok (nums (inWay ws r p)) := by
  have key : ∀ w ∈ ws, F_apart [sg w, sg p] = .ok (q (apartL w p)) ∧ F_is_less [q (apartL w p), q r] = .ok (.bool (decide (apartL w p < r))) := fun w h => ⟨apart_sm (hw w h) hp, less_apart (hw w h) hp hr⟩
  unfold F_in_way r_in_way
  generalize F_apart = G1 at key ⊢
  generalize F_is_less = G2 at key ⊢
  rw [run_eq (e := [.val (walls ws), .val (q r), .val (sg p), .un, .un]) rfl]
  unfold b_in_way
  rw [go_ret (d := nums (inWay ws r p))]
  · rfl
  · refine comp_enum (l := ws) sg (fun w => decide (apartL w p < r)) ?_ hl fun w hw' n => ?_
    · rw [semE_var]; rfl
    · obtain ⟨k1, k2⟩ := key w hw'
      simp only [compF]
      by_cases h : apartL w p < r <;> simp [wipeF, k1, k2, h]
theorem q0_eq : q 0 = .tuple [.int 0, .int 1] := rfl
theorem reach_sm {r : Rat} (hr : SmR r) : F_need_reach [q r] = if 0 < r then .ok .none else .err .badReach := by
  have key : F_is_less [q 0, q r] = .ok (.bool (decide (0 < r))) := is_less_ok bd_q0 hr (by omega)
  unfold F_need_reach r_need_reach
  generalize F_is_less = G at key ⊢
  rw [q0_eq] at key
  generalize q r = R at key ⊢
  by_cases h : 0 < r <;> simp [runD, b_need_reach, key, h]
theorem need_sm {l : List D} {r : Rat} (hr : SmR r) : F_need_walls [.list l, q r] = if 0 < r then (if 40 < l.length then .err .tooMany else .ok .none) else .err .badReach := by
  have key := reach_sm hr
  unfold F_need_walls r_need_walls
  generalize F_need_reach = G at key ⊢
  generalize q r = R at key ⊢
  by_cases h : 0 < r
  · rw [if_pos h] at key ⊢
    by_cases h2 : 40 < l.length
    · have h3 : (40 : Int) < l.length := by omega
      simp [runD, b_need_walls, key, h2, h3, bltD]
    · have h3 : ¬ (40 : Int) < l.length := by omega
      simp [runD, b_need_walls, key, h2, h3, bltD]
  · rw [if_neg h] at key ⊢
    simp [runD, b_need_walls, key]
theorem met_bad {l : List D} {r : Rat} {x : D} (hr : SmR r) (h : ¬ 0 < r) : F_walls_met [.list l, q r, x] = .err .badReach := by
  have key := need_sm (l := l) hr
  rw [if_neg h] at key
  unfold F_walls_met r_walls_met
  generalize F_need_walls = G at key ⊢
  generalize F_in_way = G2
  generalize q r = R at key ⊢
  simp [runD, b_walls_met, key]
theorem met_many {l : List D} {r : Rat} {x : D} (hr : SmR r) (h : 0 < r) (hl : 40 < l.length) : F_walls_met [.list l, q r, x] = .err .tooMany := by
  have key := need_sm (l := l) hr
  rw [if_pos h, if_pos hl] at key
  unfold F_walls_met r_walls_met
  generalize F_need_walls = G at key ⊢
  generalize F_in_way = G2
  generalize q r = R at key ⊢
  simp [runD, b_walls_met, key]
theorem met_sm {ws : List Sg} {r : Rat} {p : Sg} (hw : ∀ w ∈ ws, SmS w) (hr : SmR r) (hp : SmS p) (hl : ws.length ≤ 40) (h : 0 < r) : F_walls_met [walls ws, q r, sg p] = .ok (nums (inWay ws r p)) := by
  have key := need_sm (l := ws.map sg) hr
  rw [if_pos h, if_neg (by simpa using hl)] at key
  have k2 := inway_sm hw hr hp (Nat.le_trans hl (by decide))
  change F_need_walls [walls ws, q r] = _ at key
  unfold F_walls_met r_walls_met
  generalize F_need_walls = G at key ⊢
  generalize F_in_way = G2 at k2 ⊢
  generalize q r = R at key k2 ⊢
  generalize walls ws = W at key k2 ⊢
  generalize sg p = P at k2 ⊢
  simp [runD, b_walls_met, key, k2]
theorem pl_nums (l : List Nat) : Pl 1 (nums l) := .lst fun x hx => by
  obtain ⟨n, _, rfl⟩ := List.mem_map.mp hx
  exact .int _ _
theorem nums_inj {a b : List Nat} : nums a = nums b ↔ a = b := by
  constructor
  · intro h
    unfold nums at h
    replace h := PyData.list.inj h
    induction a generalizing b with
    | nil => cases b with
      | nil => rfl
      | cons _ _ => simp at h
    | cons x a ih => cases b with
      | nil => simp at h
      | cons y b =>
        simp only [List.map_cons, List.cons.injEq, PyData.int.injEq] at h
        rw [ih h.2]
        have := h.1
        congr 1
        omega
  · intro h; rw [h]
theorem eq_nums (a b : List Nat) : eqD (nums a) (nums b) = .ok (decide (a = b)) := eqD_pl (pl_nums a) (pl_nums b) (by decide) _ (by simp [nums_inj])
theorem eq_nums0 (a : List Nat) : eqD (nums a) (.list []) = .ok (decide (a = [])) := eq_nums a []
theorem go_gen {w r p : D} {x' : List Nat} (h : F_walls_met [w, r, p] = .ok (nums x')) : F_may_go [w, r, p] = .ok (.bool (decide (x' = []))) := by
  have k := eq_nums0 x'
  unfold F_may_go r_may_go
  generalize F_walls_met = G at h ⊢
  generalize nums x' = X at h k ⊢
  simp [runD, b_may_go, h, k, big]
theorem go_err {w r p : D} {c : ErrC} (h : F_walls_met [w, r, p] = .err c) : F_may_go [w, r, p] = .err c := by
  unfold F_may_go r_may_go
  generalize F_walls_met = G at h ⊢
  simp [runD, b_may_go, h]
theorem be_gen {w r p : D} {m : M D} (h : F_may_go [w, r, .tuple [p, p]] = m) (hm : m ≠ .stuck) : F_may_be [w, r, p] = m := by
  unfold F_may_be r_may_be
  generalize F_may_go = G at h ⊢
  cases m with
  | ok d => simp [runD, b_may_be, h, big]
  | err c => simp [runD, b_may_be, h, big]
  | stuck => exact (hm rfl).elim
theorem go_sm {ws : List Sg} {r : Rat} {p : Sg} (hw : ∀ w ∈ ws, SmS w) (hr : SmR r) (hp : SmS p) (hl : ws.length ≤ 40) (h : 0 < r) : F_may_go [walls ws, q r, sg p] = .ok (.bool (decide (inWay ws r p = []))) := go_gen (met_sm hw hr hp hl h)
theorem be_sm {ws : List Sg} {r : Rat} {p : Pt} (hw : ∀ w ∈ ws, SmS w) (hr : SmR r) (hp : SmP p) (hl : ws.length ≤ 40) (h : 0 < r) : F_may_be [walls ws, q r, pt p] = .ok (.bool (decide (inWay ws r (p, p) = []))) :=
  be_gen (go_sm (p := (p, p)) hw hr (SmS.post hp) hl h) (by simp)
theorem be_bad {l : List D} {r : Rat} {x : D} (hr : SmR r) (h : ¬ 0 < r) : F_may_be [.list l, q r, x] = .err .badReach := be_gen (go_err (met_bad hr h)) (by simp)
theorem go_many {l : List D} {r : Rat} {x : D} (hr : SmR r) (h : 0 < r) (hl : 40 < l.length) : F_may_go [.list l, q r, x] = .err .tooMany := go_err (met_many hr h hl)
theorem inway_nil {ws : List Sg} {r : Rat} {p : Sg} : inWay ws r p = [] ↔ ∀ w ∈ ws, r ≤ apartL w p := by
  unfold inWay
  rw [List.map_eq_nil_iff, List.filter_eq_nil_iff]
  constructor
  · intro h w hw
    obtain ⟨i, hi, rfl⟩ := List.mem_iff_getElem.mp hw
    have := h (ws[i], i) (by simp [List.mem_zipIdx_iff_getElem?])
    exact Rat.not_lt.mp (by simpa using this)
  · intro h z hz
    have := Rat.not_lt.mpr (h z.1 (List.fst_mem_of_mem_zipIdx hz))
    simpa using this
theorem inway_mem {ws : List Sg} {r : Rat} {p : Sg} {n : Nat} : n ∈ inWay ws r p ↔ ∃ w, ws[n]? = some w ∧ apartL w p < r := by
  unfold inWay
  simp only [List.mem_map, List.mem_filter, decide_eq_true_eq]
  constructor
  · rintro ⟨⟨w, m⟩, ⟨h1, h2⟩, rfl⟩
    exact ⟨w, by simpa [List.mem_zipIdx_iff_getElem?] using h1, h2⟩
  · rintro ⟨w, h1, h2⟩
    exact ⟨(w, n), ⟨by simpa [List.mem_zipIdx_iff_getElem?] using h1, h2⟩, rfl⟩
end Rw
namespace Rw
open PySem
/-! ## what is drawn -/
theorem rng1_ok {ρ : Rho} {e : Fr} {a : Ex} {n : Nat} (h : semE ρ a e = .ok (.int n)) (hn : (n : Int) < 2 ^ 62) : semIt ρ (.rng1 a) e = .ok ((List.range n).map fun i => .int ((i : Nat) : Int)) := by
  rw [semIt_rng1, h, bind_ok]
  have : smallI (n : Int) = true := by unfold smallI; simp; omega
  simp only [itR1, this, okIf_t, rangeD]
  simp
theorem fences_ok (m : Int) (k : Nat) (hk : k < 40) : ∃ ws : List Sg, F_law_fences [.int m, .int k] = .ok (walls ws) ∧ ws.length ≤ k ∧ ∀ w ∈ ws, BS 5 0 w := by
  have h1 : ∀ j : Nat, ∃ x, F_law_drawn [.int m, .int j] = .ok (.int x) := fun j => by
    obtain ⟨x, hx, _⟩ := drawn_ok m j
    exact ⟨x, hx⟩
  have h2 : ∀ x : Int, ∃ s, F_law_one_fence [.int x] = .ok (sg s) ∧ BS 5 0 s := fence_drawn
  unfold F_law_fences r_law_fences
  generalize F_law_drawn = G1 at h1 ⊢
  generalize F_law_one_fence = G2 at h2 ⊢
  rw [run_eq (e := [.val (.int m), .val (.int k), .un]) rfl]
  unfold b_law_fences
  have hm : (m % ((k : Int) + 1)).toNat ≤ k ∧ ((m % ((k : Int) + 1)).toNat : Int) = m % ((k : Int) + 1) := by
    have := emod_r (x := m) (m := (k : Int) + 1) (by omega)
    omega
  obtain ⟨n, hn⟩ : ∃ n, n = (m % ((k : Int) + 1)).toNat := ⟨_, rfl⟩
  rw [← hn] at hm
  have hp : (0 : Int) < (k : Int) + 1 := by omega
  obtain ⟨ys, e1, e2, e3⟩ := comp_some (ρ := ⟨[⟨"_law_one_fence", 1, G2⟩, ⟨"_law_drawn", 2, G1⟩], []⟩) (e := [.val (.int m), .val (.int k), .un]) (own := [("_law_j", 2)]) (tg := .nm 2) (it := .rng1 (.bin .mod (.var 0) (.bin .add (.var 1) (.int 1)))) (cs := .nil)
    (elt := .call 0 (.cons (.call 1 (.cons (.var 0) (.cons (.var 2) .nil))) .nil)) (l := List.range n) (fun i => PyData.int ((i : Nat) : Int)) sg (fun s => BS 5 0 s) (rng1_ok (by simp [hp, hm.2]) (by omega)) (by simp [big]; omega) (fun j hj => by
      obtain ⟨x, hx⟩ := h1 j
      obtain ⟨s, hs, bs⟩ := h2 x
      exact ⟨s, by simp [compF, wipeF, hx, hs], bs⟩)
  refine ⟨ys, ?_, by rw [e1]; simpa using hm.1, e2⟩
  rw [go_ret e3]; rfl
theorem reach_drawn (m : Int) : ∃ r : Rat, F_law_reach [.int m] = .ok (q r) ∧ 0 < r ∧ Bd 7 3 r := by
  have h1 : ∀ a b : Int, 0 < a → a < 100 → 0 < b → b < 5 → F_law_made [.int a, .int b] = .ok (q (Rat.divInt a b)) ∧ 0 < Rat.divInt a b ∧ Bd 7 3 (Rat.divInt a b) := fun a b h1 h2 h3 h4 => by
    refine ⟨made_ok h3 ?_, ?_, bd_divInt (by omega) (by omega) (by omega)⟩
    · have := log_lt (n := b.natAbs) (k := 3) (by omega); omega
    · have h5 : 0 ≤ Rat.divInt a b := (Rat.divInt_nonneg_iff_of_pos_right h3).mpr (by omega)
      have h6 : Rat.divInt a b ≠ 0 := fun z => by
        have := (Rat.divInt_eq_divInt_iff (n₁ := a) (n₂ := 0) (by omega : b ≠ 0) (by decide : (1 : Int) ≠ 0)).mp (z.trans (by decide +kernel))
        omega
      grind
  unfold F_law_reach r_law_reach
  generalize F_law_made = G1 at h1 ⊢
  rw [run_eq (e := [.val (.int m), .un]) rfl]
  unfold b_law_reach
  have a1 := emod_r (x := m / 64) (m := 40) (by decide)
  have a2 := emod_r (x := m / 8) (m := 7) (by decide)
  have a3 := emod_r (x := m / 4096) (m := 4) (by decide)
  have d1 : divOk 64 = true := by decide +kernel
  have d2 : divOk 8 = true := by decide +kernel
  have d3 : divOk 4096 = true := by decide +kernel
  have pw : powOk 2 12 = true := by decide +kernel
  obtain ⟨a, ha, ha1, ha2⟩ : ∃ a : Int, idxD (.list [.int 1, .int 2, .int 3, .int 4, .int 9, .int 25, .int (1 + m / 64 % 40)]) (.int (m / 8 % 7)) = .ok (.int a) ∧ 0 < a ∧ a < 100 := by
    obtain ⟨j, hj⟩ : ∃ j : Nat, m / 8 % 7 = j := ⟨(m / 8 % 7).toNat, by omega⟩
    rw [hj] at a2 ⊢
    have : j = 0 ∨ j = 1 ∨ j = 2 ∨ j = 3 ∨ j = 4 ∨ j = 5 ∨ j = 6 := by omega
    rcases this with rfl | rfl | rfl | rfl | rfl | rfl | rfl
    · exact ⟨_, idx_l (by decide) rfl, by omega, by omega⟩
    · exact ⟨_, idx_l (by decide) rfl, by omega, by omega⟩
    · exact ⟨_, idx_l (by decide) rfl, by omega, by omega⟩
    · exact ⟨_, idx_l (by decide) rfl, by omega, by omega⟩
    · exact ⟨_, idx_l (by decide) rfl, by omega, by omega⟩
    · exact ⟨_, idx_l (by decide) rfl, by omega, by omega⟩
    · exact ⟨_, idx_l (by decide) rfl, by omega, by omega⟩
  obtain ⟨b, hb, hb1, hb2⟩ : ∃ b : Int, idxD (.list [.int 1, .int 1, .int 4, .int 2]) (.int (m / 4096 % 4)) = .ok (.int b) ∧ 0 < b ∧ b < 5 := by
    obtain ⟨j, hj⟩ : ∃ j : Nat, m / 4096 % 4 = j := ⟨(m / 4096 % 4).toNat, by omega⟩
    rw [hj] at a3 ⊢
    have : j = 0 ∨ j = 1 ∨ j = 2 ∨ j = 3 := by omega
    rcases this with rfl | rfl | rfl | rfl
    · exact ⟨_, idx_l (by decide) rfl, by omega, by omega⟩
    · exact ⟨_, idx_l (by decide) rfl, by omega, by omega⟩
    · exact ⟨_, idx_l (by decide) rfl, by omega, by omega⟩
    · exact ⟨_, idx_l (by decide) rfl, by omega, by omega⟩
  obtain ⟨g1, g2, g3⟩ := h1 a b ha1 ha2 hb1 hb2
  refine ⟨_, ?_, g2, g3⟩
  rw [go_set (d := .int a) (by simp [d1, d2, big, ha]) (by simp)]
  rw [go_ret (d := q (Rat.divInt a b)) (by simp [d3, pw, big, hb, g1])]
  rfl
end Rw
namespace Rw
open PySem
theorem between_gen {x y b t g0 g1 u v c d : D} (h1 : F_law_gone [.tuple [x, y], b] = .ok (.tuple [g0, g1])) (h2 : F_law_times [t, g0] = .ok u) (h3 : F_law_times [t, g1] = .ok v) (h4 : F_law_plus [x, u] = .ok c) (h5 : F_law_plus [y, v] = .ok d) :
    F_law_between [.tuple [x, y], b, t] = .ok (.tuple [c, d]) := by
  unfold F_law_between r_law_between
  generalize F_law_gone = G1 at h1 ⊢
  generalize F_law_times = G2 at h2 h3 ⊢
  generalize F_law_plus = G3 at h4 h5 ⊢
  simp [runD, b_law_between, h1, h2, h3, h4, h5, big]
theorem between_ok {a b : Pt} {t : Rat} {n d m e : Nat} (ha : BP n d a) (hb : BP n d b) (ht : Bd m e t) (h : n + m < 100000) (h' : 3 * d + e < 9000) : F_law_between [pt a, pt b, q t] = .ok (pt (atW (a, b) t)) := by
  have hg := bp_gone ha hb
  exact between_gen (lstep_ok ha hb (by omega) (by omega)) (ltimes_ok ht hg.1 (by omega) (by omega)) (ltimes_ok ht hg.2 (by omega) (by omega)) (lplus_ok ha.1 (bd_mul ht hg.1) (by omega) (by omega)) (lplus_ok ha.2 (bd_mul ht hg.2) (by omega) (by omega))
theorem eq_b (a b : Bool) : eqD (.bool a) (.bool b) = .ok (a == b) := by
  unfold eqD
  simp [SeqAt.shaped, PyData.canLay0, PyData.depth, PyData.eqv]
def nearOf (ws : List Sg) (r : Rat) (p : Pt) : List Nat := (ws.zipIdx.filter fun z => decide (toF z.1 p < r)).map (·.2)
theorem nearof_eq (ws : List Sg) (r : Rat) (p : Pt) : nearOf ws r p = inWay ws r (p, p) := by
  unfold nearOf inWay
  congr 2
  funext z
  rw [apart_post]
theorem tofence_sm {w : Sg} {p : Pt} (hw : SmS w) (hp : SmP p) : F_law_to_fence [sg w, pt p] = .ok (q (toF w p)) := tofence_ok hw hp (by omega)
theorem lless_toF {w : Sg} {p : Pt} {r : Rat} (hw : SmS w) (hp : SmP p) (hr : SmR r) : F_law_less [q (toF w p), q r] = .ok (.bool (decide (toF w p < r))) := lis_less_ok (bd_toF hw hp) hr (by omega)
theorem in_nums (n : Nat) (l : List Nat) : inD (.int n) (nums l) = .ok (decide (n ∈ l)) := by
  refine inD_pl (k := 0) (.int 0 _) (fun x hx => ?_) (by decide) _ ?_
  · obtain ⟨n, _, rfl⟩ := List.mem_map.mp hx
    exact .int _ _
  · simp only [decide_eq_true_eq, List.mem_map, PyData.int.injEq]
    constructor
    · intro h; exact ⟨n, h, rfl⟩
    · rintro ⟨m, h, e⟩
      have : m = n := by omega
      rw [← this]; exact h
theorem bools_map {α : Type} (f : α → Bool) : ∀ l : List α, boolsD (l.map fun x => PyData.bool (f x)) = some (l.map f)
  | [] => rfl
  | x :: l => by simp [boolsD, bools_map f l]
theorem piece_turn {ws : List Sg} {r : Rat} {a b : Pt} {m : Int} (hw : ∀ w ∈ ws, SmS w) (hl : ws.length ≤ 40) (hr : SmR r) (h0 : 0 < r) (ha : BP 4 2 a) (hb : BP 4 2 b) (j : Nat) (hj : j < 3) {x5 x6 x9 x10 x11 x12 : Sl} {fo to : D} :
    ∃ x5' x6' x10' x11' x12', semSs r_law_piece_right (forB (dropS 4 b_law_piece_right)) [.val (walls ws), .val (q r), .val (sg (a, b)), .val (.int m), .val (nums (inWay ws r (a, b))), x5, x6, .val fo, .val to, .val (.int j), x10, x11, x12] =
      .nx [.val (walls ws), .val (q r), .val (sg (a, b)), .val (.int m), .val (nums (inWay ws r (a, b))), x5', x6', .val fo, .val to, .val (.int j), x10', x11', x12'] := by
  unfold b_law_piece_right
  simp only [dropS, forB]
  obtain ⟨v, hv, hv0, hvd⟩ : ∃ v : Int, idxD (.list [.int 1, .int 17, .int 289]) (.int j) = .ok (.int v) ∧ 0 < v ∧ divOk v = true := by
    have : j = 0 ∨ j = 1 ∨ j = 2 := by omega
    rcases this with rfl | rfl | rfl
    · exact ⟨_, idx_l (by decide) rfl, by decide, by decide +kernel⟩
    · exact ⟨_, idx_l (by decide) rfl, by decide, by decide +kernel⟩
    · exact ⟨_, idx_l (by decide) rfl, by decide, by decide +kernel⟩
  have k1 := emod_r (x := m / v) (m := 17) (by decide)
  obtain ⟨k, hk⟩ : ∃ k, m / v % 17 = k := ⟨_, rfl⟩
  rw [hk] at k1
  obtain ⟨t, ht⟩ : ∃ t, t = Rat.divInt k 16 := ⟨_, rfl⟩
  have hd : Bd 5 4 t := by rw [ht]; exact bd_divInt (by decide) (by omega) (by decide)
  have ht0 : 0 ≤ t := by rw [ht]; exact (Rat.divInt_nonneg_iff_of_pos_right (by decide)).mpr k1.1
  have ht1 : t ≤ 1 := by
    have : t * 16 = k := by
      rw [ht, Rat.divInt_eq_div]
      exact Rat.div_mul_cancel (by decide)
    have : (k : Rat) ≤ 16 := by
      have h := Rat.intCast_le_intCast.mpr (by omega : k ≤ 16)
      simpa using h
    grind
  obtain ⟨p, hp⟩ : ∃ p, p = atW (a, b) t := ⟨_, rfl⟩
  have hpS : SmP p := by rw [hp]; exact (bp_atW (w := (a, b)) (t := t) ⟨ha, hb⟩ hd).mono (by omega) (by omega)
  have hon : On (a, b) p := ⟨t, ht0, ht1, hp⟩
  have f1 : F_law_made [.int k, .int 16] = .ok (q t) := by rw [ht]; exact made_ok (by decide) (by have := log_lt (n := (16 : Int).natAbs) (k := 5) (by decide); omega)
  have f2 : F_law_between [pt a, pt b, q t] = .ok (pt p) := by rw [hp]; exact between_ok ha hb hd (by omega) (by omega)
  have f3 : ∀ w ∈ ws, F_law_to_fence [sg w, pt p] = .ok (q (toF w p)) ∧ F_law_less [q (toF w p), q r] = .ok (.bool (decide (toF w p < r))) := fun w h => ⟨tofence_sm (hw w h) hpS, lless_toF (hw w h) hpS hr⟩
  have f4 := be_sm hw hr hpS hl h0
  have hall : ∀ n ∈ inWay ws r (p, p), n ∈ inWay ws r (a, b) := fun n hn => by
    obtain ⟨w, h1, h2⟩ := inway_mem.mp hn
    rw [apart_post] at h2
    exact inway_mem.mpr ⟨w, h1, by have := apart_toF (a := w) hon; grind⟩
  have hle : (nearOf ws r p).length ≤ big := by
    unfold nearOf
    rw [List.length_map]
    have := List.length_filter_le (fun z : Sg × Nat => decide (toF z.1 p < r)) ws.zipIdx
    simp at this
    simp [big]; omega
  unfold r_law_piece_right
  generalize F_law_made = G1 at f1 ⊢
  generalize F_law_between = G2 at f2 ⊢
  generalize F_law_to_fence = G3 at f3 ⊢
  generalize F_law_less = G4 at f3 ⊢
  generalize F_may_be = G5 at f4 ⊢
  rw [go_set (d := pt p) (by simp [hv, hvd, hk, big, f1, sg, f2]) (by simp)]
  simp only [List.set_cons_succ, List.set_cons_zero]
  rw [go_set (d := nums (nearOf ws r p))]
  rotate_left
  · rw [evS_f]
    refine comp_enum (l := ws) sg (fun w => decide (toF w p < r)) ?_ (by simp [big]; omega) fun w hw' n => ?_
    · rw [semE_var]; rfl
    · obtain ⟨k1, k2⟩ := f3 w hw'
      simp only [compF]
      by_cases h : toF w p < r <;> simp [wipeF, k1, k2, h]
  · simp
  simp only [List.set_cons_succ, List.set_cons_zero]
  rw [go_set (d := .bool (decide (inWay ws r (p, p) = []))) (by simp [f4]) (by simp)]
  simp only [List.set_cons_succ, List.set_cons_zero]
  refine ⟨x5, x6, .val (pt p), .val (nums (nearOf ws r p)), .val (.bool (decide (inWay ws r (p, p) = []))), ?_⟩
  rw [go_if0]
  · exact semSs_n
  · rw [evT_f]
    have c1 : semE ⟨[⟨"_law_less", 2, G4⟩, ⟨"_law_apart", 2, F_law_apart⟩, ⟨"walls_met", 3, F_walls_met⟩, ⟨"may_go", 3, F_may_go⟩, ⟨"_law_between", 3, G2⟩, ⟨"_law_made", 2, G1⟩, ⟨"_law_to_fence", 2, G3⟩, ⟨"may_be", 3, G5⟩], []⟩ (.comp [("_law_number", 5)] (.nm 5) (.lst (.var 11)) .nil (.cmp .in_ (.var 5) (.var 4)))
        [.val (walls ws), .val (q r), .val (sg (a, b)), .val (.int m), .val (nums (inWay ws r (a, b))), x5, x6, .val fo, .val to, .val (.int j), .val (pt p), .val (nums (nearOf ws r p)), .val (.bool (decide (inWay ws r (p, p) = [])))] = .ok (.list ((nearOf ws r p).map fun n => .bool (decide (n ∈ inWay ws r (a, b))))) := by
      refine comp_each (l := nearOf ws r p) (fun n => PyData.int ((n : Nat) : Int)) (fun n => .bool (decide (n ∈ inWay ws r (a, b)))) ?_ hle fun n hn => ?_
      · rw [semIt_lst, semE_var]; rfl
      · simp [compF, wipeF, in_nums]
    have c2 : ((nearOf ws r p).map fun n => decide (n ∈ inWay ws r (a, b))).all id = true := by
      rw [List.all_map, List.all_eq_true]
      intro n hn
      rw [nearof_eq] at hn
      simpa using hall n hn
    simp only [semT_or, semTOr_2, semTOr_1, semT_not, semT_isI, semT_cmp, semT_blt, semE_var, semE_cmp, semEs_c, semEs_n, c1, semE_lst, eq_d, ne_d, List.getElem?_cons_succ, List.getElem?_cons_zero, slotD_v, bind_ok, isIb, boolD_b, eq_nums0]
    simp [eq_nums0, eq_b, big, nearof_eq, bltD, bools_map, isIb]
    exact hall
/-- frames of the loop -/
def Ppr (W R P M due fo to : D) (e : Fr) : Prop := ∃ x5 x6 x9 x10 x11 x12 : Sl, e = [.val W, .val R, .val P, .val M, .val due, x5, x6, .val fo, .val to, x9, x10, x11, x12]
theorem piece_right {ws : List Sg} {r : Rat} {a b : Pt} {m : Int} (hw : ∀ w ∈ ws, SmS w) (hl : ws.length ≤ 40) (hr : SmR r) (h0 : 0 < r) (ha : BP 4 2 a) (hb : BP 4 2 b) :
    F_law_piece_right [walls ws, q r, sg (a, b), .int m] = .ok (.bool true) := by
  have hp : SmS (a, b) := ⟨ha.mono (by omega) (by omega), hb.mono (by omega) (by omega)⟩
  have turn := fun (j : Nat) (hj : j < 3) (x5 x6 x9 x10 x11 x12 : Sl) (fo to : D) => piece_turn (m := m) hw hl hr h0 ha hb j hj (x5 := x5) (x6 := x6) (x9 := x9) (x10 := x10) (x11 := x11) (x12 := x12) (fo := fo) (to := to)
  have f1 : ∀ w ∈ ws, F_law_apart [sg w, sg (a, b)] = .ok (q (apartL w (a, b))) ∧ F_law_less [q (apartL w (a, b)), q r] = .ok (.bool (decide (apartL w (a, b) < r))) := fun w h => ⟨lapart_sm (hw w h) hp, lless_apart (hw w h) hp hr⟩
  have f2 := met_sm hw hr hp hl h0
  have f3 := go_sm hw hr hp hl h0
  unfold F_law_piece_right
  rw [run_eq (e := [.val (walls ws), .val (q r), .val (sg (a, b)), .val (.int m), .un, .un, .un, .un, .un, .un, .un, .un, .un]) rfl]
  unfold b_law_piece_right at turn ⊢
  simp only [dropS, forB] at turn
  unfold r_law_piece_right at turn ⊢
  generalize F_law_apart = G1 at f1 turn ⊢
  generalize F_law_less = G2 at f1 turn ⊢
  generalize F_walls_met = G3 at f2 turn ⊢
  generalize F_may_go = G4 at f3 turn ⊢
  generalize F_law_between = G5 at turn ⊢
  generalize F_law_made = G6 at turn ⊢
  generalize F_law_to_fence = G7 at turn ⊢
  generalize F_may_be = G8 at turn ⊢
  rw [go_set (d := nums (inWay ws r (a, b)))]
  rotate_left
  · rw [evS_f]
    refine comp_enum (l := ws) sg (fun w => decide (apartL w (a, b) < r)) ?_ (by simp [big]; omega) fun w hw' n => ?_
    · rw [semE_var]; rfl
    · obtain ⟨k1, k2⟩ := f1 w hw'
      simp only [compF]
      by_cases h : apartL w (a, b) < r <;> simp [wipeF, k1, k2, h]
  · simp
  simp only [List.set_cons_succ, List.set_cons_zero]
  have wl : bltD .list [walls ws] = .ok (walls ws) := rfl
  rw [go_set (d := nums (inWay ws r (a, b))) (by simp [wl, f2]) (by simp)]
  simp only [List.set_cons_succ, List.set_cons_zero]
  rw [go_set (d := .bool (decide (inWay ws r (a, b) = []))) (by simp [f3]) (by simp)]
  simp only [List.set_cons_succ, List.set_cons_zero]
  rw [go_if0]
  rotate_left
  · have nl : isIb .list (nums (inWay ws r (a, b))) = true := rfl
    simp [eq_nums, eq_nums0, eq_b, nl, big]
  refine go_for_then (R := fun fl => endFl fl = .ok (.bool true)) (P := Ppr (walls ws) (q r) (sg (a, b)) (.int m) (nums (inWay ws r (a, b))) (nums (inWay ws r (a, b))) (.bool (decide (inWay ws r (a, b) = [])))) (rng1_ok (n := 3) (by simp) (by decide)) ⟨_, _, _, _, _, _, rfl⟩ (fun d hd e he => ?_) fun e' he => ?_
  · obtain ⟨j, hj, rfl⟩ := List.mem_map.mp hd
    obtain ⟨x5, x6, x9, x10, x11, x12, rfl⟩ := he
    obtain ⟨y5, y6, y10, y11, y12, ht⟩ := turn j (List.mem_range.mp hj) x5 x6 x9 x10 x11 x12 (nums (inWay ws r (a, b))) (.bool (decide (inWay ws r (a, b) = [])))
    exact ⟨_, Eq.trans (by rw [semTg_nm, if_pos (by simp)]; rfl) ht, y5, y6, _, y10, y11, y12, rfl⟩
  · rw [go_ret (d := .bool true) (by simp)]
    rfl
end Rw
namespace Rw
open PySem
theorem eq_strs (a b : Str) (ha : PyData.strOk a = true) (hb : PyData.strOk b = true) : eqD (.str a) (.str b) = .ok (a == b) := by
  unfold eqD
  simp [SeqAt.shaped, PyData.canLay0, PyData.depth, PyData.eqv, ha, hb]
theorem index_q : ∀ (l : List Rat) (x : Rat), x ∈ l → ∃ j : Nat, indexD (l.map q) (q x) = .ok (.int j) ∧ l[j]? = some x := by
  intro l x hx
  have sh : SeqAt.shaped (.list (l.map q)) = true := (Pl.lst (k := 1) fun y hy => by
    obtain ⟨z, _, rfl⟩ := List.mem_map.mp hy
    exact pl_q z).shaped (by decide)
  have sh2 : SeqAt.shaped (q x) = true := (pl_q x).shaped (by decide)
  have ev : ∀ z : Rat, PyData.eqv (q z) (q x) = true ↔ z = x := fun z => by rw [(eqv_pl 1).1 _ _ (pl_q z) (pl_q x), q_inj]
  obtain ⟨j, hj, h2⟩ : ∃ j : Nat, (l.map q).findIdx? (fun z => PyData.eqv z (q x)) = some j ∧ l[j]? = some x := by
    cases h : (l.map q).findIdx? (fun z => PyData.eqv z (q x)) with
    | none =>
      rw [List.findIdx?_eq_none_iff] at h
      have := h (q x) (List.mem_map.mpr ⟨x, hx, rfl⟩)
      rw [(ev x).mpr rfl] at this
      cases this
    | some j =>
      obtain ⟨h1, h2, _⟩ := List.findIdx?_eq_some_iff_getElem.mp h
      refine ⟨j, rfl, ?_⟩
      have h1' : j < l.length := by simpa using h1
      have : (l.map q)[j] = q l[j] := by simp
      rw [this, ev] at h2
      rw [List.getElem?_eq_getElem h1', h2]
  refine ⟨j, ?_, h2⟩
  unfold indexD
  rw [sh, sh2, hj]; rfl
theorem q_thou : q (1 / 1000) = .tuple [.int 1, .int 1000] := by
  have h1 : (1 / 1000 : Rat).num = 1 := by decide +kernel
  have h2 : (1 / 1000 : Rat).den = 1000 := by decide +kernel
  unfold q
  rw [h1, h2]; rfl
theorem bd_thou : Bd 1 10 (1 / 1000 : Rat) := ⟨by decide +kernel, by decide +kernel⟩
/-- what is asked of a wall just so far -/
theorem turn_most {ws : List Sg} {p : Pt} {x : Rat} (hw : ∀ w ∈ ws, BS 5 0 w) (hp : BP 4 2 p) (hx : x ∈ ws.map fun w => toF w p) {s pc : D} {x1 x2 x4 x5 x6 x7 x8 x9 x13 x14 : Sl} {p2 : D} :
    ∃ x13', semSs r_law20 (forB (dropS 4 (forB (dropS 3 (forB b_law20))))) [.val s, x1, x2, .val (walls ws), x4, x5, x6, x7, x8, x9, .val (.tuple [pt p, p2]), .val (.list ((ws.map fun w => toF w p).map q)), .val (q x), x13, x14] =
      .nx [.val s, x1, x2, .val (walls ws), x4, x5, x6, x7, x8, x9, .val (.tuple [pt p, p2]), .val (.list ((ws.map fun w => toF w p).map q)), .val (q x), x13', x14] := by
  obtain ⟨j, hj, hjx⟩ := index_q _ x hx
  rw [List.getElem?_map, Option.map_eq_some_iff] at hjx
  obtain ⟨w, hwj, rfl⟩ := hjx
  have hwm : w ∈ ws := List.mem_of_getElem? hwj
  have wS : SmS w := (hw w hwm).mono (by omega) (by omega)
  have pS : SmP p := hp.mono (by omega) (by omega)
  have bx : Bd 66 57 (toF w p) := (bd_toF (n := 5) (d := 2) ((hw w hwm).mono (by omega) (by omega)) (hp.mono (by omega) (by omega))).mono (by omega) (by omega)
  have f1 : F_law_plus [q (toF w p), .tuple [.int 1, .int 1000]] = .ok (q (toF w p + 1 / 1000)) := by rw [← q_thou]; exact lplus_ok bx bd_thou (by omega) (by omega)
  have bb : SmR (toF w p + 1 / 1000) := (bd_add bx bd_thou).mono (by omega) (by omega)
  have t0 := toF_nn w p
  have ws1 : ∀ v ∈ [w], SmS v := fun v hv => by simp at hv; subst hv; exact wS
  have f2 : 0 < toF w p → F_may_be [.list [sg w], q (toF w p), pt p] = .ok (.bool true) := fun h => by
    have k := be_sm (ws := [w]) ws1 (bx.mono (by omega) (by omega)) pS (by simp) h
    have e : inWay [w] (toF w p) (p, p) = [] := inway_nil.mpr fun v hv => by
      simp at hv; subst hv
      rw [apart_post]; exact Rat.le_refl
    rw [e] at k
    exact k
  have f3 : F_may_be [.list [sg w], q (toF w p + 1 / 1000), pt p] = .ok (.bool false) := by
    have k := be_sm (ws := [w]) ws1 bb pS (by simp) (by grind)
    have e : inWay [w] (toF w p + 1 / 1000) (p, p) ≠ [] := fun z => by
      have := inway_nil.mp z w (by simp)
      rw [apart_post] at this
      grind
    rw [decide_eq_false e] at k
    exact k
  have f4 : idxD (walls ws) (.int j) = .ok (sg w) := idx_l (by omega) (by simp [hwj])
  have f5 : idxD (q (toF w p)) (.int 0) = .ok (.int (toF w p).num) := rfl
  have f6 : 0 < (toF w p).num ↔ 0 < toF w p := num_pos'
  unfold b_law20
  simp only [dropS, forB]
  unfold r_law20
  generalize F_law_plus = G1 at f1 ⊢
  generalize F_may_be = G2 at f2 f3 ⊢
  generalize hl : ((ws.map fun w => toF w p).map q) = L at hj ⊢
  generalize walls ws = W at f4 ⊢
  generalize toF w p = x at *
  generalize q x = X at *
  generalize q (x + 1 / 1000) = Y at *
  refine ⟨.val Y, ?_⟩
  rw [go_set (d := Y) (by simp [f1, big]) (by simp)]
  simp only [List.set_cons_succ, List.set_cons_zero]
  rw [go_if0, go_if0]
  · exact semSs_n
  · simp [hj, f4, f3, big]
  · by_cases h : 0 < x
    · have h' := f6.mpr h
      simp [hj, f4, f2 h, f5, h', big]
    · have h' : ¬ 0 < x.num := fun z => h (f6.mp z)
      simp [f5, h']
/-- frames in a cell's turn: piece loop -/
def Pj (s k m W R : D) (e : Fr) : Prop := ∃ x5 x6 x7 x8 x9 x10 x11 x12 x13 x14 : Sl, e = [.val s, .val k, .val m, .val W, .val R, x5, x6, x7, x8, x9, x10, x11, x12, x13, x14]
theorem turn_j {ws : List Sg} {r : Rat} (hw : ∀ w ∈ ws, BS 5 0 w) (hl : ws.length ≤ 7) (hr : Bd 7 3 r) (h0 : 0 < r) (s k : D) (m : Int) (j : Nat) (x6 x7 x8 x9 x10 x11 x12 x13 x14 : Sl) :
    ∃ e', semSs r_law20 (forB (dropS 3 (forB b_law20))) [.val s, .val k, .val (.int m), .val (walls ws), .val (q r), .val (.int j), x6, x7, x8, x9, x10, x11, x12, x13, x14] = .nx e' ∧ Pj s k (.int m) (walls ws) (q r) e' := by
  obtain ⟨h, f1, hh0, _⟩ := drawn_ok m (20 + j)
  obtain ⟨a, f2, ba⟩ := point_drawn h
  obtain ⟨b, f3, bb⟩ := point_drawn (h / 1073741824)
  have hwS : ∀ w ∈ ws, SmS w := fun w z => (hw w z).mono (by omega) (by omega)
  have f4 := piece_right (m := h / 1152921504606846976) hwS (by omega) (hr.mono (by omega) (by omega)) h0 ba bb
  have f5 : ∀ w ∈ ws, F_law_to_fence [sg w, pt a] = .ok (q (toF w a)) := fun w z => tofence_sm (hwS w z) (ba.mono (by omega) (by omega))
  have tm := fun (x : Rat) (hx : x ∈ ws.map fun w => toF w a) (x1 x2 x4 x5 x6 x7 x8 x9 x13 x14 : Sl) => turn_most hw ba hx (s := s) (pc := s) (p2 := pt b) (x1 := x1) (x2 := x2) (x4 := x4) (x5 := x5) (x6 := x6) (x7 := x7) (x8 := x8) (x9 := x9) (x13 := x13) (x14 := x14)
  have d1 : divOk 1073741824 = true := by decide +kernel
  have d2 : divOk 1152921504606846976 = true := by decide +kernel
  have p1 : powOk 2 30 = true := by decide +kernel
  have p2 : powOk 2 60 = true := by decide +kernel
  unfold b_law20 at tm ⊢
  simp only [dropS, forB] at tm ⊢
  unfold r_law20 at tm ⊢
  generalize F_law_drawn = G1 at f1 tm ⊢
  generalize F_law_point = G2 at f2 f3 tm ⊢
  generalize F_law_piece_right = G3 at f4 tm ⊢
  generalize F_law_to_fence = G4 at f5 tm ⊢
  generalize F_law_plus = G5 at tm ⊢
  generalize F_may_be = G6 at tm ⊢
  rw [go_set (d := .int h) (by simp [f1]) (by simp)]
  simp only [List.set_cons_succ, List.set_cons_zero]
  rw [go_set (d := sg (a, b)) (by simp [f2, f3, p1, d1, big, sg]) (by simp)]
  simp only [List.set_cons_succ, List.set_cons_zero]
  rw [go_if0]
  rotate_left
  · simp [p2, d2, f4]
  rw [go_set (d := .list ((ws.map fun w => toF w a).map q))]
  rotate_left
  · rw [evS_f]
    rw [List.map_map]
    refine comp_each (l := ws) sg (fun w => q (toF w a)) ?_ (by simp [big]; omega) fun w hw' => ?_
    · rw [semIt_lst, semE_var]; rfl
    · have e : idxD (sg (a, b)) (.int 0) = .ok (pt a) := rfl
      simp [compF, wipeF, f5 w hw', e]
  · simp
  simp only [List.set_cons_succ, List.set_cons_zero]
  have hi : ∀ ρ : Rho, semIt ρ (.lst (.var 11)) [.val s, .val k, .val (.int m), .val (walls ws), .val (q r), .val (.int j), x6, x7, x8, .val (.int h), .val (sg (a, b)), .val (.list ((ws.map fun w => toF w a).map q)), x12, x13, x14] = .ok ((ws.map fun w => toF w a).map q) := fun ρ => by
    rw [semIt_lst, semE_var]; rfl
  refine go_for_then (R := fun fl => ∃ e', fl = .nx e' ∧ Pj s k (.int m) (walls ws) (q r) e') (P := fun e => ∃ x12 x13 : Sl, e = [.val s, .val k, .val (.int m), .val (walls ws), .val (q r), .val (.int j), x6, x7, x8, .val (.int h), .val (sg (a, b)), .val (.list ((ws.map fun w => toF w a).map q)), x12, x13, x14]) (hi _) ⟨_, _, rfl⟩ (fun d hd e he => ?_) fun e' he => ?_
  · obtain ⟨x, hx, rfl⟩ := List.mem_map.mp hd
    obtain ⟨x12, x13, rfl⟩ := he
    obtain ⟨y13, ht⟩ := tm x hx (.val k) (.val (.int m)) (.val (q r)) (.val (.int j)) x6 x7 x8 (.val (.int h)) x13 x14
    exact ⟨_, Eq.trans (by rw [semTg_nm, if_pos (by simp)]; rfl) ht, _, y13, rfl⟩
  · obtain ⟨x12, x13, rfl⟩ := he
    exact ⟨_, semSs_n, _, _, _, _, _, _, _, _, _, _, rfl⟩
theorem q_half : q (-1 / 2) = .tuple [.int (-1), .int 2] := by
  have h1 : (-1 / 2 : Rat).num = -1 := by decide +kernel
  have h2 : (-1 / 2 : Rat).den = 2 := by decide +kernel
  unfold q
  rw [h1, h2]; rfl
theorem q_m4 : q (-4) = .tuple [.int (-4), .int 1] := by
  have h1 : (-4 : Rat).num = -4 := by decide +kernel
  have h2 : (-4 : Rat).den = 1 := by decide +kernel
  unfold q
  rw [h1, h2]; rfl
theorem bad_ok (m : Int) : ∃ r : Rat, idxD (.list [.tuple [.int 0, .int 1], .tuple [.int (-1), .int 2], .tuple [.int (-4), .int 1]]) (.int (m % 3)) = .ok (q r) ∧ ¬ 0 < r ∧ SmR r := by
  have a3 := emod_r (x := m) (m := 3) (by decide)
  obtain ⟨j, hj⟩ : ∃ j : Nat, m % 3 = j := ⟨(m % 3).toNat, by omega⟩
  rw [hj] at a3 ⊢
  have : j = 0 ∨ j = 1 ∨ j = 2 := by omega
  rcases this with rfl | rfl | rfl
  · exact ⟨0, idx_l (by decide) rfl, by decide, ⟨by decide, by decide⟩⟩
  · exact ⟨-1 / 2, by rw [q_half]; exact idx_l (by decide) rfl, by decide +kernel, Bd.mono (n := 2) (d := 2) ⟨by decide +kernel, by decide +kernel⟩ (by omega) (by omega)⟩
  · exact ⟨-4, by rw [q_m4]; exact idx_l (by decide) rfl, by decide +kernel, Bd.mono (n := 4) (d := 2) ⟨by decide +kernel, by decide +kernel⟩ (by omega) (by omega)⟩
def P20 (s : D) (e : Fr) : Prop := ∃ x1 x2 x3 x4 x5 x6 x7 x8 x9 x10 x11 x12 x13 x14 : Sl, e = [.val s, x1, x2, x3, x4, x5, x6, x7, x8, x9, x10, x11, x12, x13, x14]
theorem turn_k (ns : List Int) (hl : ns.length ≤ 63) (k : Nat) (x2 x3 x4 x5 x6 x7 x8 x9 x10 x11 x12 x13 x14 : Sl) :
    ∃ e', semSs r_law20 (forB b_law20) [.val (sc ns), .val (.int k), x2, x3, x4, x5, x6, x7, x8, x9, x10, x11, x12, x13, x14] = .nx e' ∧ P20 (sc ns) e' := by
  obtain ⟨c, f1⟩ := cell_ok ns k (by omega) hl
  obtain ⟨m, f2, _, _⟩ := drawn_ok c k
  obtain ⟨ws, f3, hwl, hw⟩ := fences_ok m 7 (by decide)
  obtain ⟨r, f4, h0, hr⟩ := reach_drawn (m / 64)
  obtain ⟨bad, f5, hb, hbS⟩ := bad_ok (m / 1073741824)
  have tj := turn_j hw hwl hr h0 (sc ns) (.int k) m
  have hrS : SmR r := hr.mono (by omega) (by omega)
  have d1 : divOk 64 = true := by decide +kernel
  have d2 : divOk 1073741824 = true := by decide +kernel
  have p1 : powOk 2 30 = true := by decide +kernel
  obtain ⟨pp, hpp⟩ : ∃ pp : D, pp = .tuple [.tuple [.int 0, .int 1], .tuple [.int 0, .int 1]] := ⟨_, rfl⟩
  obtain ⟨many, hm⟩ : ∃ many : List D, many = (List.replicate 41 [PyData.tuple [pp, pp]]).flatten := ⟨_, rfl⟩
  have hml : 40 < many.length := by rw [hm]; simp
  have g1 : F_may_be [.list many, q bad, pp] = .err .badReach := be_bad hbS hb
  have g2 : F_may_go [.list many, q r, .tuple [pp, pp]] = .err .tooMany := go_many hrS h0 hml
  have g3 : F_walls_met [walls ws, q bad, .tuple [pp, pp]] = .err .badReach := met_bad hbS hb
  have s1 : eqD (.str "BadReach") (.str "BadReach") = .ok true := (eq_strs _ _ (by decide +kernel) (by decide +kernel)).trans (by simp)
  have s2 : eqD (.str "TooMany") (.str "TooMany") = .ok true := (eq_strs _ _ (by decide +kernel) (by decide +kernel)).trans (by simp)
  have mulL : binD .mul (.list [.tuple [pp, pp]]) (.int 41) = .ok (.list many) := by rw [hm]; simp [binD, big]
  unfold b_law20 at tj ⊢
  simp only [dropS, forB] at tj ⊢
  unfold r_law20 at tj ⊢
  generalize F_law_cell = G0 at f1 tj ⊢
  generalize F_law_drawn = G1 at f2 tj ⊢
  generalize F_law_fences = G2 at f3 tj ⊢
  generalize F_law_reach = G3 at f4 tj ⊢
  generalize F_may_be = G4 at g1 tj ⊢
  generalize F_may_go = G5 at g2 tj ⊢
  generalize F_walls_met = G6 at g3 tj ⊢
  generalize F_law_point = G7 at tj ⊢
  generalize F_law_piece_right = G8 at tj ⊢
  generalize F_law_to_fence = G9 at tj ⊢
  generalize F_law_plus = G10 at tj ⊢
  rw [go_set (d := .int m) (by simp [f1, f2]) (by simp)]
  simp only [List.set_cons_succ, List.set_cons_zero]
  rw [go_set (d := walls ws) (by simpa using f3) (by simp)]
  simp only [List.set_cons_succ, List.set_cons_zero]
  rw [go_set (d := q r) (by simp [d1, f4]) (by simp)]
  simp only [List.set_cons_succ, List.set_cons_zero]
  refine go_for_then (R := fun fl => ∃ e', fl = .nx e' ∧ P20 (sc ns) e') (P := Pj (sc ns) (.int k) (.int m) (walls ws) (q r)) (rng1_ok (n := 3) (by simp) (by decide)) ⟨_, _, _, _, _, _, _, _, _, _, rfl⟩ (fun d hd e he => ?_) fun e' he => ?_
  · obtain ⟨j, hj, rfl⟩ := List.mem_map.mp hd
    obtain ⟨x5, x6, x7, x8, x9, x10, x11, x12, x13, x14, rfl⟩ := he
    obtain ⟨e', h1, h2⟩ := tj j x6 x7 x8 x9 x10 x11 x12 x13 x14
    exact ⟨e', Eq.trans (by rw [semTg_nm, if_pos (by simp)]; rfl) h1, h2⟩
  · obtain ⟨x5, x6, x7, x8, x9, x10, x11, x12, x13, x14, rfl⟩ := he
    rw [go_set (d := q bad) (by simp [p1, d2, big, f5]) (by simp)]
    simp only [List.set_cons_succ, List.set_cons_zero]
    rw [go_set (d := pp) (by simp [big, hpp]) (by simp)]
    simp only [List.set_cons_succ, List.set_cons_zero]
    rw [go_set (d := .list many) (by simp [big, mulL]) (by simp)]
    simp only [List.set_cons_succ, List.set_cons_zero]
    rw [go_if0, go_if0, go_if0]
    · exact ⟨_, semSs_n, _, _, _, _, _, _, _, _, _, _, _, _, _, _, rfl⟩
    · simp [g3, s1, big]
    · simp [g2, s2, big]
    · simp [g1, s1, big]
theorem law20_true (ns : List Int) (h : ns.length ≤ 63) : F_law20 [.list (ns.map .int)] = .ok (.bool true) := by
  have tk := turn_k ns h
  have hsc : (PyData.list (ns.map .int)) = sc ns := rfl
  have hlen : bltD .len [sc ns] = .ok (.int (ns.length : Nat)) := by simp [bltD, sc]
  rw [hsc]
  unfold F_law20
  rw [run_eq (e := [.val (sc ns), .un, .un, .un, .un, .un, .un, .un, .un, .un, .un, .un, .un, .un, .un]) rfl]
  unfold b_law20 at tk ⊢
  simp only [forB] at tk
  generalize sc ns = s at *
  obtain ⟨n, hn, hs⟩ : ∃ n : Nat, (if (if (ns.length : Int) < 4 then (ns.length : Int) else 4) > 1 then (if (ns.length : Int) < 4 then (ns.length : Int) else 4) else 1) = (n : Int) ∧ n < 5 := by
    refine ⟨if (if ns.length < 4 then ns.length else 4) > 1 then (if ns.length < 4 then ns.length else 4) else 1, ?_, ?_⟩ <;> (repeat' split) <;> omega
  refine go_for_then (R := fun fl => endFl fl = .ok (.bool true)) (P := P20 s) (rng1_ok (n := n) ?_ (by omega)) ⟨_, _, _, _, _, _, _, _, _, _, _, _, _, _, rfl⟩ (fun d hd e he => ?_) fun e' he => ?_
  · simp only [semE_blt, semEs_c, semEs_n, semE_int, semE_var, List.getElem?_cons_zero, slotD_v, bind_ok, hlen]
    simp only [bltD, bind_ok, hn]
  · obtain ⟨j, hj, rfl⟩ := List.mem_map.mp hd
    obtain ⟨x1, x2, x3, x4, x5, x6, x7, x8, x9, x10, x11, x12, x13, x14, rfl⟩ := he
    obtain ⟨e', h1, h2⟩ := tk j x2 x3 x4 x5 x6 x7 x8 x9 x10 x11 x12 x13 x14
    exact ⟨e', Eq.trans (by rw [semTg_nm, if_pos (by simp)]; rfl) h1, h2⟩
  · rw [go_ret (d := .bool true) (by simp)]
    rfl
end Rw
namespace Rw
open PySem PySem.Spec PyProof.Rows
open L2 hiding St
def top (i : Nat) : Stmt := PySem.Challenge.pw_rimway_k20_whole_room.main.body.getD i (.Pass ⟨0, 0, 0, 0⟩)
theorem s_law_drawn : FnScope N_law_drawn ["_law_cell_here", "_law_k"] (defScope (top 35)) := ⟨rfl, rfl, rfl, by decide +kernel, rfl, by decide +kernel, by decide +kernel⟩
theorem c_law_drawn : chkSs ⟨N_law_drawn, defScope (top 35), fun _ => true, false⟩ r_law_drawn [] b_law_drawn (defBody (top 35)) = true := by decide +kernel
theorem s_law_cell : FnScope N_law_cell ["_law_script", "_law_k"] (defScope (top 34)) := ⟨rfl, rfl, rfl, by decide +kernel, rfl, by decide +kernel, by decide +kernel⟩
theorem c_law_cell : chkSs ⟨N_law_cell, defScope (top 34), fun _ => true, false⟩ r_law_cell [] b_law_cell (defBody (top 34)) = true := by decide +kernel
theorem s_law_made : FnScope N_law_made ["_law_top", "_law_under"] (defScope (top 38)) := ⟨rfl, rfl, rfl, by decide +kernel, rfl, by decide +kernel, by decide +kernel⟩
theorem c_law_made : chkSs ⟨N_law_made, defScope (top 38), fun _ => true, false⟩ r_law_made [] b_law_made (defBody (top 38)) = true := by decide +kernel
theorem s_law_one_fence : FnScope N_law_one_fence ["_law_more"] (defScope (top 52)) := ⟨rfl, rfl, rfl, by decide +kernel, rfl, by decide +kernel, by decide +kernel⟩
theorem c_law_one_fence : chkSs ⟨N_law_one_fence, defScope (top 52), fun _ => true, false⟩ r_law_one_fence [] b_law_one_fence (defBody (top 52)) = true := by decide +kernel
theorem s_law_fences : FnScope N_law_fences ["_law_more", "_law_most"] (defScope (top 53)) := ⟨rfl, rfl, rfl, by decide +kernel, rfl, by decide +kernel, by decide +kernel⟩
theorem c_law_fences : chkSs ⟨N_law_fences, defScope (top 53), fun _ => true, false⟩ r_law_fences [] b_law_fences (defBody (top 53)) = true := by decide +kernel
theorem s_law_reach : FnScope N_law_reach ["_law_more"] (defScope (top 54)) := ⟨rfl, rfl, rfl, by decide +kernel, rfl, by decide +kernel, by decide +kernel⟩
theorem c_law_reach : chkSs ⟨N_law_reach, defScope (top 54), fun _ => true, false⟩ r_law_reach [] b_law_reach (defBody (top 54)) = true := by decide +kernel
theorem s_law_point : FnScope N_law_point ["_law_more"] (defScope (top 51)) := ⟨rfl, rfl, rfl, by decide +kernel, rfl, by decide +kernel, by decide +kernel⟩
theorem c_law_point : chkSs ⟨N_law_point, defScope (top 51), fun _ => true, false⟩ r_law_point [] b_law_point (defBody (top 51)) = true := by decide +kernel
theorem s_law_less : FnScope N_law_less ["_law_one", "_law_other"] (defScope (top 39)) := ⟨rfl, rfl, rfl, by decide +kernel, rfl, by decide +kernel, by decide +kernel⟩
theorem c_law_less : chkSs ⟨N_law_less, defScope (top 39), fun _ => true, false⟩ r_law_less [] b_law_less (defBody (top 39)) = true := by decide +kernel
theorem s_law_minus : FnScope N_law_minus ["_law_one", "_law_other"] (defScope (top 40)) := ⟨rfl, rfl, rfl, by decide +kernel, rfl, by decide +kernel, by decide +kernel⟩
theorem c_law_minus : chkSs ⟨N_law_minus, defScope (top 40), fun _ => true, false⟩ r_law_minus [] b_law_minus (defBody (top 40)) = true := by decide +kernel
theorem s_law_gone : FnScope N_law_gone ["_law_one", "_law_other"] (defScope (top 43)) := ⟨rfl, rfl, rfl, by decide +kernel, rfl, by decide +kernel, by decide +kernel⟩
theorem c_law_gone : chkSs ⟨N_law_gone, defScope (top 43), fun _ => true, false⟩ r_law_gone [] b_law_gone (defBody (top 43)) = true := by decide +kernel
theorem s_law_plus : FnScope N_law_plus ["_law_one", "_law_other"] (defScope (top 42)) := ⟨rfl, rfl, rfl, by decide +kernel, rfl, by decide +kernel, by decide +kernel⟩
theorem c_law_plus : chkSs ⟨N_law_plus, defScope (top 42), fun _ => true, false⟩ r_law_plus [] b_law_plus (defBody (top 42)) = true := by decide +kernel
theorem s_law_times : FnScope N_law_times ["_law_one", "_law_other"] (defScope (top 41)) := ⟨rfl, rfl, rfl, by decide +kernel, rfl, by decide +kernel, by decide +kernel⟩
theorem c_law_times : chkSs ⟨N_law_times, defScope (top 41), fun _ => true, false⟩ r_law_times [] b_law_times (defBody (top 41)) = true := by decide +kernel
theorem s_law_inner : FnScope N_law_inner ["_law_one", "_law_other"] (defScope (top 44)) := ⟨rfl, rfl, rfl, by decide +kernel, rfl, by decide +kernel, by decide +kernel⟩
theorem c_law_inner : chkSs ⟨N_law_inner, defScope (top 44), fun _ => true, false⟩ r_law_inner [] b_law_inner (defBody (top 44)) = true := by decide +kernel
theorem s_law_square : FnScope N_law_square ["_law_one", "_law_other"] (defScope (top 46)) := ⟨rfl, rfl, rfl, by decide +kernel, rfl, by decide +kernel, by decide +kernel⟩
theorem c_law_square : chkSs ⟨N_law_square, defScope (top 46), fun _ => true, false⟩ r_law_square [] b_law_square (defBody (top 46)) = true := by decide +kernel
theorem s_law_across : FnScope N_law_across ["_law_one", "_law_other"] (defScope (top 45)) := ⟨rfl, rfl, rfl, by decide +kernel, rfl, by decide +kernel, by decide +kernel⟩
theorem c_law_across : chkSs ⟨N_law_across, defScope (top 45), fun _ => true, false⟩ r_law_across [] b_law_across (defBody (top 45)) = true := by decide +kernel
theorem s_law_to_fence : FnScope N_law_to_fence ["_law_fence", "_law_point_here"] (defScope (top 47)) := ⟨rfl, rfl, rfl, by decide +kernel, rfl, by decide +kernel, by decide +kernel⟩
theorem c_law_to_fence : chkSs ⟨N_law_to_fence, defScope (top 47), fun _ => true, false⟩ r_law_to_fence [] b_law_to_fence (defBody (top 47)) = true := by decide +kernel
theorem s_law_sense : FnScope N_law_sense ["_law_one", "_law_other", "_law_third"] (defScope (top 48)) := ⟨rfl, rfl, rfl, by decide +kernel, rfl, by decide +kernel, by decide +kernel⟩
theorem c_law_sense : chkSs ⟨N_law_sense, defScope (top 48), fun _ => true, false⟩ r_law_sense [] b_law_sense (defBody (top 48)) = true := by decide +kernel
theorem s_law_touch : FnScope N_law_touch ["_law_one", "_law_other"] (defScope (top 49)) := ⟨rfl, rfl, rfl, by decide +kernel, rfl, by decide +kernel, by decide +kernel⟩
theorem c_law_touch : chkSs ⟨N_law_touch, defScope (top 49), fun _ => true, false⟩ r_law_touch [] b_law_touch (defBody (top 49)) = true := by decide +kernel
theorem s_law_apart : FnScope N_law_apart ["_law_one", "_law_other"] (defScope (top 50)) := ⟨rfl, rfl, rfl, by decide +kernel, rfl, by decide +kernel, by decide +kernel⟩
theorem c_law_apart : chkSs ⟨N_law_apart, defScope (top 50), fun _ => true, false⟩ r_law_apart [] b_law_apart (defBody (top 50)) = true := by decide +kernel
theorem s_is_less : FnScope N_is_less ["one", "other"] (defScope (top 14)) := ⟨rfl, rfl, rfl, by decide +kernel, rfl, by decide +kernel, by decide +kernel⟩
theorem c_is_less : chkSs ⟨N_is_less, defScope (top 14), fun _ => true, false⟩ r_is_less [] b_is_less (defBody (top 14)) = true := by decide +kernel
theorem s_need_reach : FnScope N_need_reach ["reach"] (defScope (top 27)) := ⟨rfl, rfl, rfl, by decide +kernel, rfl, by decide +kernel, by decide +kernel⟩
theorem c_need_reach : chkSs ⟨N_need_reach, defScope (top 27), fun _ => true, false⟩ r_need_reach [.badReach] b_need_reach (defBody (top 27)) = true := by decide +kernel
theorem s_need_walls : FnScope N_need_walls ["walls", "reach"] (defScope (top 28)) := ⟨rfl, rfl, rfl, by decide +kernel, rfl, by decide +kernel, by decide +kernel⟩
theorem c_need_walls : chkSs ⟨N_need_walls, defScope (top 28), fun _ => true, false⟩ r_need_walls [.tooMany] b_need_walls (defBody (top 28)) = true := by decide +kernel
theorem s_fraction : FnScope N_fraction ["top", "under"] (defScope (top 9)) := ⟨rfl, rfl, rfl, by decide +kernel, rfl, by decide +kernel, by decide +kernel⟩
theorem c_fraction : chkSs ⟨N_fraction, defScope (top 9), fun _ => true, false⟩ r_fraction [] b_fraction (defBody (top 9)) = true := by decide +kernel
theorem s_minus : FnScope N_minus ["one", "other"] (defScope (top 11)) := ⟨rfl, rfl, rfl, by decide +kernel, rfl, by decide +kernel, by decide +kernel⟩
theorem c_minus : chkSs ⟨N_minus, defScope (top 11), fun _ => true, false⟩ r_minus [] b_minus (defBody (top 11)) = true := by decide +kernel
theorem s_step_from : FnScope N_step_from ["one", "other"] (defScope (top 16)) := ⟨rfl, rfl, rfl, by decide +kernel, rfl, by decide +kernel, by decide +kernel⟩
theorem c_step_from : chkSs ⟨N_step_from, defScope (top 16), fun _ => true, false⟩ r_step_from [] b_step_from (defBody (top 16)) = true := by decide +kernel
theorem s_times : FnScope N_times ["one", "other"] (defScope (top 12)) := ⟨rfl, rfl, rfl, by decide +kernel, rfl, by decide +kernel, by decide +kernel⟩
theorem c_times : chkSs ⟨N_times, defScope (top 12), fun _ => true, false⟩ r_times [] b_times (defBody (top 12)) = true := by decide +kernel
theorem s_across : FnScope N_across ["one", "other"] (defScope (top 18)) := ⟨rfl, rfl, rfl, by decide +kernel, rfl, by decide +kernel, by decide +kernel⟩
theorem c_across : chkSs ⟨N_across, defScope (top 18), fun _ => true, false⟩ r_across [] b_across (defBody (top 18)) = true := by decide +kernel
theorem s_over : FnScope N_over ["one", "other"] (defScope (top 13)) := ⟨rfl, rfl, rfl, by decide +kernel, rfl, by decide +kernel, by decide +kernel⟩
theorem c_over : chkSs ⟨N_over, defScope (top 13), fun _ => true, false⟩ r_over [] b_over (defBody (top 13)) = true := by decide +kernel
theorem s_plus : FnScope N_plus ["one", "other"] (defScope (top 10)) := ⟨rfl, rfl, rfl, by decide +kernel, rfl, by decide +kernel, by decide +kernel⟩
theorem c_plus : chkSs ⟨N_plus, defScope (top 10), fun _ => true, false⟩ r_plus [] b_plus (defBody (top 10)) = true := by decide +kernel
theorem s_point_at : FnScope N_point_at ["wall", "share"] (defScope (top 20)) := ⟨rfl, rfl, rfl, by decide +kernel, rfl, by decide +kernel, by decide +kernel⟩
theorem c_point_at : chkSs ⟨N_point_at, defScope (top 20), fun _ => true, false⟩ r_point_at [] b_point_at (defBody (top 20)) = true := by decide +kernel
theorem s_crossing : FnScope N_crossing ["one", "other"] (defScope (top 22)) := ⟨rfl, rfl, rfl, by decide +kernel, rfl, by decide +kernel, by decide +kernel⟩
theorem c_crossing : chkSs ⟨N_crossing, defScope (top 22), fun _ => true, false⟩ r_crossing [] b_crossing (defBody (top 22)) = true := by decide +kernel
theorem s_inner : FnScope N_inner ["one", "other"] (defScope (top 17)) := ⟨rfl, rfl, rfl, by decide +kernel, rfl, by decide +kernel, by decide +kernel⟩
theorem c_inner : chkSs ⟨N_inner, defScope (top 17), fun _ => true, false⟩ r_inner [] b_inner (defBody (top 17)) = true := by decide +kernel
theorem s_nearest : FnScope N_nearest ["wall", "point"] (defScope (top 21)) := ⟨rfl, rfl, rfl, by decide +kernel, rfl, by decide +kernel, by decide +kernel⟩
theorem c_nearest : chkSs ⟨N_nearest, defScope (top 21), fun _ => true, false⟩ r_nearest [] b_nearest (defBody (top 21)) = true := by decide +kernel
theorem s_square_far : FnScope N_square_far ["one", "other"] (defScope (top 19)) := ⟨rfl, rfl, rfl, by decide +kernel, rfl, by decide +kernel, by decide +kernel⟩
theorem c_square_far : chkSs ⟨N_square_far, defScope (top 19), fun _ => true, false⟩ r_square_far [] b_square_far (defBody (top 19)) = true := by decide +kernel
theorem s_nearest_two : FnScope N_nearest_two ["one", "other"] (defScope (top 23)) := ⟨rfl, rfl, rfl, by decide +kernel, rfl, by decide +kernel, by decide +kernel⟩
theorem c_nearest_two : chkSs ⟨N_nearest_two, defScope (top 23), fun _ => true, false⟩ r_nearest_two [] b_nearest_two (defBody (top 23)) = true := by decide +kernel
theorem s_apart : FnScope N_apart ["one", "other"] (defScope (top 24)) := ⟨rfl, rfl, rfl, by decide +kernel, rfl, by decide +kernel, by decide +kernel⟩
theorem c_apart : chkSs ⟨N_apart, defScope (top 24), fun _ => true, false⟩ r_apart [] b_apart (defBody (top 24)) = true := by decide +kernel
theorem s_in_way : FnScope N_in_way ["walls", "reach", "piece"] (defScope (top 29)) := ⟨rfl, rfl, rfl, by decide +kernel, rfl, by decide +kernel, by decide +kernel⟩
theorem c_in_way : chkSs ⟨N_in_way, defScope (top 29), fun _ => true, false⟩ r_in_way [] b_in_way (defBody (top 29)) = true := by decide +kernel
theorem s_walls_met : FnScope N_walls_met ["walls", "reach", "piece"] (defScope (top 30)) := ⟨rfl, rfl, rfl, by decide +kernel, rfl, by decide +kernel, by decide +kernel⟩
theorem c_walls_met : chkSs ⟨N_walls_met, defScope (top 30), fun _ => true, false⟩ r_walls_met [] b_walls_met (defBody (top 30)) = true := by decide +kernel
theorem s_may_go : FnScope N_may_go ["walls", "reach", "piece"] (defScope (top 31)) := ⟨rfl, rfl, rfl, by decide +kernel, rfl, by decide +kernel, by decide +kernel⟩
theorem c_may_go : chkSs ⟨N_may_go, defScope (top 31), fun _ => true, false⟩ r_may_go [] b_may_go (defBody (top 31)) = true := by decide +kernel
theorem s_law_between : FnScope N_law_between ["_law_one", "_law_other", "_law_share"] (defScope (top 55)) := ⟨rfl, rfl, rfl, by decide +kernel, rfl, by decide +kernel, by decide +kernel⟩
theorem c_law_between : chkSs ⟨N_law_between, defScope (top 55), fun _ => true, false⟩ r_law_between [] b_law_between (defBody (top 55)) = true := by decide +kernel
theorem s_may_be : FnScope N_may_be ["walls", "reach", "point"] (defScope (top 32)) := ⟨rfl, rfl, rfl, by decide +kernel, rfl, by decide +kernel, by decide +kernel⟩
theorem c_may_be : chkSs ⟨N_may_be, defScope (top 32), fun _ => true, false⟩ r_may_be [] b_may_be (defBody (top 32)) = true := by decide +kernel
theorem s_law_piece_right : FnScope N_law_piece_right ["_law_fences_here", "_law_reach_here", "_law_piece", "_law_more"] (defScope (top 56)) := ⟨rfl, rfl, rfl, by decide +kernel, rfl, by decide +kernel, by decide +kernel⟩
theorem c_law_piece_right : chkSs ⟨N_law_piece_right, defScope (top 56), fun _ => true, false⟩ r_law_piece_right [] b_law_piece_right (defBody (top 56)) = true := by decide +kernel
theorem s_law20 : FnScope N_law20 ["_law_script"] (defScope (top 57)) := ⟨rfl, rfl, rfl, by decide +kernel, rfl, by decide +kernel, by decide +kernel⟩
theorem c_law20 : chkSs ⟨N_law20, defScope (top 57), fun _ => true, true⟩ r_law20 [] b_law20 (defBody (top 57)) = true := by decide +kernel
abbrev dd (x : Str) (i : Nat) : He.DefD := ⟨(x, none), x, x, defArgs (top i), defBody (top i), defScope (top i), [], []⟩
theorem s_told : FnScope ["_law_deed", "_law_e"] ["_law_deed"] (defScope (top 37)) := ⟨rfl, rfl, rfl, by decide +kernel, rfl, by decide +kernel, by decide +kernel⟩
theorem s_word : FnScope ["_law_e", "_law_flags"] ["_law_e"] (defScope (top 36)) := ⟨rfl, rfl, rfl, by decide +kernel, rfl, by decide +kernel, by decide +kernel⟩
theorem t_told : toldB (defScope (top 37)) (defBody (top 37)) = true := by decide +kernel
theorem t_word : wordB (defScope (top 36)) (defBody (top 36)) = true := by decide +kernel
def fn : List He.DefD := [dd "_law_told" 37, dd "_law_word" 36, dd "_law_drawn" 35, dd "_law_cell" 34, dd "_law_made" 38, dd "_law_one_fence" 52, dd "_law_fences" 53, dd "_law_reach" 54, dd "_law_point" 51, dd "_law_less" 39, dd "_law_minus" 40, dd "_law_gone" 43, dd "_law_plus" 42, dd "_law_times" 41, dd "_law_inner" 44, dd "_law_square" 46, dd "_law_across" 45, dd "_law_to_fence" 47, dd "_law_sense" 48, dd "_law_touch" 49, dd "_law_apart" 50, dd "is_less" 14, dd "need_reach" 27, dd "need_walls" 28, dd "fraction" 9, dd "minus" 11, dd "step_from" 16, dd "times" 12, dd "across" 18, dd "over" 13, dd "plus" 10, dd "point_at" 20, dd "crossing" 22, dd "inner" 17, dd "nearest" 21, dd "square_far" 19, dd "nearest_two" 23, dd "apart" 24, dd "in_way" 29, dd "walls_met" 30, dd "may_go" 31, dd "_law_between" 55, dd "may_be" 32, dd "_law_piece_right" 56, dd "law" 57]
def fa : List He.Fa := [.glo "_law_told", .glo "_law_word", .glo "_law_drawn", .glo "_law_cell", .glo "_law_made", .glo "_law_one_fence", .glo "_law_fences", .glo "_law_reach", .glo "_law_point", .glo "_law_less", .glo "_law_minus", .glo "_law_gone", .glo "_law_plus", .glo "_law_times", .glo "_law_inner", .glo "_law_square", .glo "_law_across", .glo "_law_to_fence", .glo "_law_sense", .glo "_law_touch", .glo "_law_apart", .glo "is_less", .glo "need_reach", .glo "need_walls", .glo "fraction", .glo "minus", .glo "step_from", .glo "times", .glo "across", .glo "over", .glo "plus", .glo "point_at", .glo "crossing", .glo "inner", .glo "nearest", .glo "square_far", .glo "nearest_two", .glo "apart", .glo "in_way", .glo "walls_met", .glo "may_go", .glo "_law_between", .glo "may_be", .glo "_law_piece_right", .glo "law", .free "len", .free "abs", .free "int", .free "min", .free "max", .free "any", .free "all", .free "sum", .free "list", .free "tuple", .free "range", .free "enumerate", .free "zip", .free "reversed", .free "isinstance", .free "sorted", .free "dict", .free "bool", .free "str", .free "ValueError", .glo "NOUGHT", .glo "ONE", .int "MOST_WALLS" 40, .glo "RimError", .exc "RimError", .glo "BadReach", .exc "BadReach", .glo "NoRoom", .exc "NoRoom", .glo "NoWall", .exc "NoWall", .glo "TooMany", .exc "TooMany"]
def tf : List He.Defn := [("law", none)]
def TT (K : PySem.W.Frag) : Tbs := [((He.cT K ("law", none)).2, "law" ++ ".<locals>." ++ "<lambda>")]
def ex (K : PySem.W.Frag) : Bool := noLst K && He.tupB K "NOUGHT" [.int 0, .int 1] && He.tupB K "ONE" [.int 1, .int 1] && twK K
abbrev R : PySem.W.OpenRow := PySem.W.OpenLaw.row PySem.Challenge.rw_rimway_k20_whole_room
abbrev hk : PySem.W.Hook := He.hookX 4 fa fn [] tf ex
def ob (s : PySem.W.SharedT) : He.AlX := He.obsX 4 fa fn [] tf ex (HandSHeadRun.getT s)
theorem ob_eq (s : PySem.W.SharedT) : ob s = hk.obs s.abs := He.obsX_eq (HandSHeadRun.getT_eq s)
def names0 : List Str := ["__name__", "RimError", "BadReach", "NoRoom", "NoWall", "TooMany", "NOUGHT", "ONE", "fraction", "plus", "minus", "times", "over", "is_less", "step_from", "inner", "across", "square_far", "point_at", "nearest", "crossing", "nearest_two", "apart", "MOST_WALLS", "need_reach", "need_walls", "in_way", "walls_met", "may_go", "may_be"]
def names1 : List Str := ["_law_cell", "_law_drawn", "_law_word", "_law_told", "_law_made", "_law_less", "_law_minus", "_law_times", "_law_plus", "_law_gone", "_law_inner", "_law_across", "_law_square", "_law_to_fence", "_law_sense", "_law_touch", "_law_apart", "_law_point", "_law_one_fence", "_law_fences", "_law_reach", "_law_between", "_law_piece_right"]
def names : List Str := names0 ++ names1
set_option maxHeartbeats 0 in
theorem run (w : World) : HandSHeadRun.RunEq R (PySem.W.view R.prog [57]) hk ob 6000 names w := by
  intro os
  kernel_rfl
theorem facts {w : World} {K : PySem.W.Frag} {h : Heap} {mg : Str → Option Value} {f : Addr} (X : K.In h) (G : h.Ns mainGlobals mg) (hfa : mg ("law" : Str) = some (.ref f)) (c : He.SaysX fa fn [] tf ex w h K)
    (hF : ∀ ns : List Int, ns.length ≤ 63 → F_law20 [.list (ns.map .int)] = .ok (.bool true)) : LamX.LawAtS PySem.Challenge.rw_rimway_k20_whole_room w K (L2N.CX (PySem.Challenge.rw_rimway_k20_whole_room).prog w) 15 63 "_law_script" mg f h := by
  have d := c.t.d
  have e := c.more
  unfold ex at e
  simp only [Bool.and_eq_true] at e
  obtain ⟨⟨⟨e0, e1⟩, e2⟩, etw⟩ := e
  obtain ⟨fd__law_told, D__law_told⟩ := d.def_ 0 (d := dd "_law_told" 37) rfl
  obtain ⟨fd__law_word, D__law_word⟩ := d.def_ 1 (d := dd "_law_word" 36) rfl
  obtain ⟨fd_law_drawn, D_law_drawn⟩ := d.def_ 2 (d := dd "_law_drawn" 35) rfl
  obtain ⟨fd_law_cell, D_law_cell⟩ := d.def_ 3 (d := dd "_law_cell" 34) rfl
  obtain ⟨fd_law_made, D_law_made⟩ := d.def_ 4 (d := dd "_law_made" 38) rfl
  obtain ⟨fd_law_one_fence, D_law_one_fence⟩ := d.def_ 5 (d := dd "_law_one_fence" 52) rfl
  obtain ⟨fd_law_fences, D_law_fences⟩ := d.def_ 6 (d := dd "_law_fences" 53) rfl
  obtain ⟨fd_law_reach, D_law_reach⟩ := d.def_ 7 (d := dd "_law_reach" 54) rfl
  obtain ⟨fd_law_point, D_law_point⟩ := d.def_ 8 (d := dd "_law_point" 51) rfl
  obtain ⟨fd_law_less, D_law_less⟩ := d.def_ 9 (d := dd "_law_less" 39) rfl
  obtain ⟨fd_law_minus, D_law_minus⟩ := d.def_ 10 (d := dd "_law_minus" 40) rfl
  obtain ⟨fd_law_gone, D_law_gone⟩ := d.def_ 11 (d := dd "_law_gone" 43) rfl
  obtain ⟨fd_law_plus, D_law_plus⟩ := d.def_ 12 (d := dd "_law_plus" 42) rfl
  obtain ⟨fd_law_times, D_law_times⟩ := d.def_ 13 (d := dd "_law_times" 41) rfl
  obtain ⟨fd_law_inner, D_law_inner⟩ := d.def_ 14 (d := dd "_law_inner" 44) rfl
  obtain ⟨fd_law_square, D_law_square⟩ := d.def_ 15 (d := dd "_law_square" 46) rfl
  obtain ⟨fd_law_across, D_law_across⟩ := d.def_ 16 (d := dd "_law_across" 45) rfl
  obtain ⟨fd_law_to_fence, D_law_to_fence⟩ := d.def_ 17 (d := dd "_law_to_fence" 47) rfl
  obtain ⟨fd_law_sense, D_law_sense⟩ := d.def_ 18 (d := dd "_law_sense" 48) rfl
  obtain ⟨fd_law_touch, D_law_touch⟩ := d.def_ 19 (d := dd "_law_touch" 49) rfl
  obtain ⟨fd_law_apart, D_law_apart⟩ := d.def_ 20 (d := dd "_law_apart" 50) rfl
  obtain ⟨fd_is_less, D_is_less⟩ := d.def_ 21 (d := dd "is_less" 14) rfl
  obtain ⟨fd_need_reach, D_need_reach⟩ := d.def_ 22 (d := dd "need_reach" 27) rfl
  obtain ⟨fd_need_walls, D_need_walls⟩ := d.def_ 23 (d := dd "need_walls" 28) rfl
  obtain ⟨fd_fraction, D_fraction⟩ := d.def_ 24 (d := dd "fraction" 9) rfl
  obtain ⟨fd_minus, D_minus⟩ := d.def_ 25 (d := dd "minus" 11) rfl
  obtain ⟨fd_step_from, D_step_from⟩ := d.def_ 26 (d := dd "step_from" 16) rfl
  obtain ⟨fd_times, D_times⟩ := d.def_ 27 (d := dd "times" 12) rfl
  obtain ⟨fd_across, D_across⟩ := d.def_ 28 (d := dd "across" 18) rfl
  obtain ⟨fd_over, D_over⟩ := d.def_ 29 (d := dd "over" 13) rfl
  obtain ⟨fd_plus, D_plus⟩ := d.def_ 30 (d := dd "plus" 10) rfl
  obtain ⟨fd_point_at, D_point_at⟩ := d.def_ 31 (d := dd "point_at" 20) rfl
  obtain ⟨fd_crossing, D_crossing⟩ := d.def_ 32 (d := dd "crossing" 22) rfl
  obtain ⟨fd_inner, D_inner⟩ := d.def_ 33 (d := dd "inner" 17) rfl
  obtain ⟨fd_nearest, D_nearest⟩ := d.def_ 34 (d := dd "nearest" 21) rfl
  obtain ⟨fd_square_far, D_square_far⟩ := d.def_ 35 (d := dd "square_far" 19) rfl
  obtain ⟨fd_nearest_two, D_nearest_two⟩ := d.def_ 36 (d := dd "nearest_two" 23) rfl
  obtain ⟨fd_apart, D_apart⟩ := d.def_ 37 (d := dd "apart" 24) rfl
  obtain ⟨fd_in_way, D_in_way⟩ := d.def_ 38 (d := dd "in_way" 29) rfl
  obtain ⟨fd_walls_met, D_walls_met⟩ := d.def_ 39 (d := dd "walls_met" 30) rfl
  obtain ⟨fd_may_go, D_may_go⟩ := d.def_ 40 (d := dd "may_go" 31) rfl
  obtain ⟨fd_law_between, D_law_between⟩ := d.def_ 41 (d := dd "_law_between" 55) rfl
  obtain ⟨fd_may_be, D_may_be⟩ := d.def_ 42 (d := dd "may_be" 32) rfl
  obtain ⟨fd_law_piece_right, D_law_piece_right⟩ := d.def_ 43 (d := dd "_law_piece_right" 56) rfl
  obtain ⟨fd_law20, D_law20⟩ := d.def_ 44 (d := dd "law" 57) rfl
  have el := hfa.symm.trans (He.glo_ok X G (d.fact 44 (f := .glo "law") rfl))
  cases el
  have bl := FunD.bindsA (ps := ["_law_script"]) D_law20 fun _ _ _ _ _ _ us hl => match us, hl with | [_], _ => rfl
  refine ⟨fd_law20, tf.map (He.cT K), spM K (TT K) (fun r => .ref (He.ga K (errName r))) 1 F_law20, tab_e c, tab_o c, tab_c X c, fun s v => bl s [v] rfl, fun H a ns hl _ hH hS => sp_law e0 ⟨tabs_of ?_ hH⟩ hS (hF ns hl), fun base KB GB TB => ?_⟩
  · intro p hp; simp only [TT, List.mem_cons, List.not_mem_nil, or_false] at hp; subst hp; exact ⟨("law", none), by simp [tf], rfl⟩
  let Z : Wd := ⟨(PySem.Challenge.rw_rimway_k20_whole_room).prog, w, K, mg, base, TT K, fun r => .ref (He.ga K (errName r))⟩
  have ok : Z.Ok := ⟨by
    intro x hx
    have hx : x ∈ (["len", "abs", "int", "min", "max", "any", "all", "sum", "list", "tuple", "range", "enumerate", "zip", "reversed", "isinstance", "sorted", "dict", "bool", "str"] : List Str) := hx
    simp only [List.mem_cons, List.not_mem_nil, or_false] at hx
    rcases hx with rfl | rfl | rfl | rfl | rfl | rfl | rfl | rfl | rfl | rfl | rfl | rfl | rfl | rfl | rfl | rfl | rfl | rfl | rfl
    · exact He.free_ok X G (d.fact 45 (f := .free "len") rfl)
    · exact He.free_ok X G (d.fact 46 (f := .free "abs") rfl)
    · exact He.free_ok X G (d.fact 47 (f := .free "int") rfl)
    · exact He.free_ok X G (d.fact 48 (f := .free "min") rfl)
    · exact He.free_ok X G (d.fact 49 (f := .free "max") rfl)
    · exact He.free_ok X G (d.fact 50 (f := .free "any") rfl)
    · exact He.free_ok X G (d.fact 51 (f := .free "all") rfl)
    · exact He.free_ok X G (d.fact 52 (f := .free "sum") rfl)
    · exact He.free_ok X G (d.fact 53 (f := .free "list") rfl)
    · exact He.free_ok X G (d.fact 54 (f := .free "tuple") rfl)
    · exact He.free_ok X G (d.fact 55 (f := .free "range") rfl)
    · exact He.free_ok X G (d.fact 56 (f := .free "enumerate") rfl)
    · exact He.free_ok X G (d.fact 57 (f := .free "zip") rfl)
    · exact He.free_ok X G (d.fact 58 (f := .free "reversed") rfl)
    · exact He.free_ok X G (d.fact 59 (f := .free "isinstance") rfl)
    · exact He.free_ok X G (d.fact 60 (f := .free "sorted") rfl)
    · exact He.free_ok X G (d.fact 61 (f := .free "dict") rfl)
    · exact He.free_ok X G (d.fact 62 (f := .free "bool") rfl)
    · exact He.free_ok X G (d.fact 63 (f := .free "str") rfl)⟩
  have g_NOUGHT : Z.Gc ("NOUGHT", .tuple [.int 0, .int 1]) := gc_tup (Z := Z) X G (d.fact 65 (f := .glo "NOUGHT") rfl) e1 fun _ => (.cons (.int _) (.cons (.int _) .nil))
  have g_ONE : Z.Gc ("ONE", .tuple [.int 1, .int 1]) := gc_tup (Z := Z) X G (d.fact 66 (f := .glo "ONE") rfl) e2 fun _ => (.cons (.int _) (.cons (.int _) .nil))
  have g_MOST_WALLS : Z.Gc ("MOST_WALLS", .int 40) := gc_int (Z := Z) X G (d.fact 67 (f := .int "MOST_WALLS" 40) rfl)
  have x_TooMany : Z.Err .tooMany := gc_err (Z := Z) X G rfl (d.fact 76 (f := .glo "TooMany") rfl) (d.fact 77 (f := .exc "TooMany") rfl)
  have x_BadReach : Z.Err .badReach := gc_err (Z := Z) X G rfl (d.fact 70 (f := .glo "BadReach") rfl) (d.fact 71 (f := .exc "BadReach") rfl)
  have hnm : ∀ n ∈ wNames, Z.mg n = some (.ref (He.ga Z.K n)) := by
    intro n hn
    simp only [wNames, List.mem_cons, List.not_mem_nil, or_false] at hn
    rcases hn with rfl | rfl | rfl | rfl
    · exact He.glo_ok X G (d.fact 70 (f := .glo "BadReach") rfl)
    · exact He.glo_ok X G (d.fact 72 (f := .glo "NoRoom") rfl)
    · exact He.glo_ok X G (d.fact 74 (f := .glo "NoWall") rfl)
    · exact He.glo_ok X G (d.fact 76 (f := .glo "TooMany") rfl)
  have tw : TwF Z.K Z.mg Z.ce := twF_of (Z := Z) (fun _ => rfl) etw hnm (He.glo_ok X G (d.fact 68 (f := .glo "RimError") rfl)) (He.free_ok X G (d.fact 59 (f := .free "isinstance") rfl)) (He.free_ok X G (d.fact 52 (f := .free "sum") rfl)) (He.free_ok X G (d.fact 47 (f := .free "int") rfl)) (He.free_ok X G (d.fact 64 (f := .free "ValueError") rfl)) (He.glo_ok X G (d.fact 0 (f := .glo "_law_told") rfl)) D__law_told (D__law_told.bindsN fun _ _ _ _ _ _ us hl => match us, hl with | [_], _ => rfl) s_told t_told (He.glo_ok X G (d.fact 1 (f := .glo "_law_word") rfl)) D__law_word (D__law_word.bindsN fun _ _ _ _ _ _ us hl => match us, hl with | [_], _ => rfl) s_word t_word
  have h_law_drawn : Z.Has 1 ⟨"_law_drawn", 2, F_law_drawn⟩ := def_has (k := 0) ok D_law_drawn s_law_drawn c_law_drawn mem_n mem_n mem_n (He.glo_ok X G (d.fact 2 (f := .glo "_law_drawn") rfl)) (D_law_drawn.bindsN fun _ _ _ _ _ _ us hl => match us, hl with | [_, _], _ => rfl)
  have h_law_cell : Z.Has 1 ⟨"_law_cell", 2, F_law_cell⟩ := def_has (k := 0) ok D_law_cell s_law_cell c_law_cell mem_n mem_n mem_n (He.glo_ok X G (d.fact 3 (f := .glo "_law_cell") rfl)) (D_law_cell.bindsN fun _ _ _ _ _ _ us hl => match us, hl with | [_, _], _ => rfl)
  have h_law_made : Z.Has 1 ⟨"_law_made", 2, F_law_made⟩ := def_has (k := 0) ok D_law_made s_law_made c_law_made mem_n mem_n mem_n (He.glo_ok X G (d.fact 4 (f := .glo "_law_made") rfl)) (D_law_made.bindsN fun _ _ _ _ _ _ us hl => match us, hl with | [_, _], _ => rfl)
  have h_law_one_fence : Z.Has 2 ⟨"_law_one_fence", 1, F_law_one_fence⟩ := def_has (k := 1) ok D_law_one_fence s_law_one_fence c_law_one_fence (mem_c (h_law_made.mono (by decide)) mem_n) mem_n mem_n (He.glo_ok X G (d.fact 5 (f := .glo "_law_one_fence") rfl)) (D_law_one_fence.bindsN fun _ _ _ _ _ _ us hl => match us, hl with | [_], _ => rfl)
  have h_law_fences : Z.Has 3 ⟨"_law_fences", 2, F_law_fences⟩ := def_has (k := 2) ok D_law_fences s_law_fences c_law_fences (mem_c (h_law_one_fence.mono (by decide)) (mem_c (h_law_drawn.mono (by decide)) mem_n)) mem_n mem_n (He.glo_ok X G (d.fact 6 (f := .glo "_law_fences") rfl)) (D_law_fences.bindsN fun _ _ _ _ _ _ us hl => match us, hl with | [_, _], _ => rfl)
  have h_law_reach : Z.Has 2 ⟨"_law_reach", 1, F_law_reach⟩ := def_has (k := 1) ok D_law_reach s_law_reach c_law_reach (mem_c (h_law_made.mono (by decide)) mem_n) mem_n mem_n (He.glo_ok X G (d.fact 7 (f := .glo "_law_reach") rfl)) (D_law_reach.bindsN fun _ _ _ _ _ _ us hl => match us, hl with | [_], _ => rfl)
  have h_law_point : Z.Has 2 ⟨"_law_point", 1, F_law_point⟩ := def_has (k := 1) ok D_law_point s_law_point c_law_point (mem_c (h_law_made.mono (by decide)) mem_n) mem_n mem_n (He.glo_ok X G (d.fact 8 (f := .glo "_law_point") rfl)) (D_law_point.bindsN fun _ _ _ _ _ _ us hl => match us, hl with | [_], _ => rfl)
  have h_law_less : Z.Has 1 ⟨"_law_less", 2, F_law_less⟩ := def_has (k := 0) ok D_law_less s_law_less c_law_less mem_n mem_n mem_n (He.glo_ok X G (d.fact 9 (f := .glo "_law_less") rfl)) (D_law_less.bindsN fun _ _ _ _ _ _ us hl => match us, hl with | [_, _], _ => rfl)
  have h_law_minus : Z.Has 2 ⟨"_law_minus", 2, F_law_minus⟩ := def_has (k := 1) ok D_law_minus s_law_minus c_law_minus (mem_c (h_law_made.mono (by decide)) mem_n) mem_n mem_n (He.glo_ok X G (d.fact 10 (f := .glo "_law_minus") rfl)) (D_law_minus.bindsN fun _ _ _ _ _ _ us hl => match us, hl with | [_, _], _ => rfl)
  have h_law_gone : Z.Has 3 ⟨"_law_gone", 2, F_law_gone⟩ := def_has (k := 2) ok D_law_gone s_law_gone c_law_gone (mem_c (h_law_minus.mono (by decide)) mem_n) mem_n mem_n (He.glo_ok X G (d.fact 11 (f := .glo "_law_gone") rfl)) (D_law_gone.bindsN fun _ _ _ _ _ _ us hl => match us, hl with | [_, _], _ => rfl)
  have h_law_plus : Z.Has 2 ⟨"_law_plus", 2, F_law_plus⟩ := def_has (k := 1) ok D_law_plus s_law_plus c_law_plus (mem_c (h_law_made.mono (by decide)) mem_n) mem_n mem_n (He.glo_ok X G (d.fact 12 (f := .glo "_law_plus") rfl)) (D_law_plus.bindsN fun _ _ _ _ _ _ us hl => match us, hl with | [_, _], _ => rfl)
  have h_law_times : Z.Has 2 ⟨"_law_times", 2, F_law_times⟩ := def_has (k := 1) ok D_law_times s_law_times c_law_times (mem_c (h_law_made.mono (by decide)) mem_n) mem_n mem_n (He.glo_ok X G (d.fact 13 (f := .glo "_law_times") rfl)) (D_law_times.bindsN fun _ _ _ _ _ _ us hl => match us, hl with | [_, _], _ => rfl)
  have h_law_inner : Z.Has 3 ⟨"_law_inner", 2, F_law_inner⟩ := def_has (k := 2) ok D_law_inner s_law_inner c_law_inner (mem_c (h_law_plus.mono (by decide)) (mem_c (h_law_times.mono (by decide)) mem_n)) mem_n mem_n (He.glo_ok X G (d.fact 14 (f := .glo "_law_inner") rfl)) (D_law_inner.bindsN fun _ _ _ _ _ _ us hl => match us, hl with | [_, _], _ => rfl)
  have h_law_square : Z.Has 4 ⟨"_law_square", 2, F_law_square⟩ := def_has (k := 3) ok D_law_square s_law_square c_law_square (mem_c (h_law_inner.mono (by decide)) (mem_c (h_law_gone.mono (by decide)) mem_n)) mem_n mem_n (He.glo_ok X G (d.fact 15 (f := .glo "_law_square") rfl)) (D_law_square.bindsN fun _ _ _ _ _ _ us hl => match us, hl with | [_, _], _ => rfl)
  have h_law_across : Z.Has 3 ⟨"_law_across", 2, F_law_across⟩ := def_has (k := 2) ok D_law_across s_law_across c_law_across (mem_c (h_law_minus.mono (by decide)) (mem_c (h_law_times.mono (by decide)) mem_n)) mem_n mem_n (He.glo_ok X G (d.fact 16 (f := .glo "_law_across") rfl)) (D_law_across.bindsN fun _ _ _ _ _ _ us hl => match us, hl with | [_, _], _ => rfl)
  have h_law_to_fence : Z.Has 5 ⟨"_law_to_fence", 2, F_law_to_fence⟩ := def_has (k := 4) ok D_law_to_fence s_law_to_fence c_law_to_fence (mem_c (h_law_gone.mono (by decide)) (mem_c (h_law_inner.mono (by decide)) (mem_c (h_law_square.mono (by decide)) (mem_c (h_law_less.mono (by decide)) (mem_c (h_law_across.mono (by decide)) (mem_c (h_law_times.mono (by decide)) (mem_c (h_law_made.mono (by decide)) mem_n))))))) mem_n mem_n (He.glo_ok X G (d.fact 17 (f := .glo "_law_to_fence") rfl)) (D_law_to_fence.bindsN fun _ _ _ _ _ _ us hl => match us, hl with | [_, _], _ => rfl)
  have h_law_sense : Z.Has 4 ⟨"_law_sense", 3, F_law_sense⟩ := def_has (k := 3) ok D_law_sense s_law_sense c_law_sense (mem_c (h_law_across.mono (by decide)) (mem_c (h_law_gone.mono (by decide)) mem_n)) mem_n mem_n (He.glo_ok X G (d.fact 18 (f := .glo "_law_sense") rfl)) (D_law_sense.bindsN fun _ _ _ _ _ _ us hl => match us, hl with | [_, _, _], _ => rfl)
  have h_law_touch : Z.Has 6 ⟨"_law_touch", 2, F_law_touch⟩ := def_has (k := 5) ok D_law_touch s_law_touch c_law_touch (mem_c (h_law_to_fence.mono (by decide)) (mem_c (h_law_sense.mono (by decide)) mem_n)) mem_n mem_n (He.glo_ok X G (d.fact 19 (f := .glo "_law_touch") rfl)) (D_law_touch.bindsN fun _ _ _ _ _ _ us hl => match us, hl with | [_, _], _ => rfl)
  have h_law_apart : Z.Has 7 ⟨"_law_apart", 2, F_law_apart⟩ := def_has (k := 6) ok D_law_apart s_law_apart c_law_apart (mem_c (h_law_touch.mono (by decide)) (mem_c (h_law_to_fence.mono (by decide)) (mem_c (h_law_less.mono (by decide)) mem_n))) mem_n mem_n (He.glo_ok X G (d.fact 20 (f := .glo "_law_apart") rfl)) (D_law_apart.bindsN fun _ _ _ _ _ _ us hl => match us, hl with | [_, _], _ => rfl)
  have h_is_less : Z.Has 1 ⟨"is_less", 2, F_is_less⟩ := def_has (k := 0) ok D_is_less s_is_less c_is_less mem_n mem_n mem_n (He.glo_ok X G (d.fact 21 (f := .glo "is_less") rfl)) (D_is_less.bindsN fun _ _ _ _ _ _ us hl => match us, hl with | [_, _], _ => rfl)
  have h_need_reach : Z.Has 2 ⟨"need_reach", 1, F_need_reach⟩ := def_has (k := 1) ok D_need_reach s_need_reach c_need_reach (mem_c (h_is_less.mono (by decide)) mem_n) (mem_c g_NOUGHT mem_n) (mem_c x_BadReach mem_n) (He.glo_ok X G (d.fact 22 (f := .glo "need_reach") rfl)) (D_need_reach.bindsN fun _ _ _ _ _ _ us hl => match us, hl with | [_], _ => rfl)
  have h_need_walls : Z.Has 3 ⟨"need_walls", 2, F_need_walls⟩ := def_has (k := 2) ok D_need_walls s_need_walls c_need_walls (mem_c (h_need_reach.mono (by decide)) mem_n) (mem_c g_MOST_WALLS mem_n) (mem_c x_TooMany mem_n) (He.glo_ok X G (d.fact 23 (f := .glo "need_walls") rfl)) (D_need_walls.bindsN fun _ _ _ _ _ _ us hl => match us, hl with | [_, _], _ => rfl)
  have h_fraction : Z.Has 1 ⟨"fraction", 2, F_fraction⟩ := def_has (k := 0) ok D_fraction s_fraction c_fraction mem_n mem_n mem_n (He.glo_ok X G (d.fact 24 (f := .glo "fraction") rfl)) (D_fraction.bindsN fun _ _ _ _ _ _ us hl => match us, hl with | [_, _], _ => rfl)
  have h_minus : Z.Has 2 ⟨"minus", 2, F_minus⟩ := def_has (k := 1) ok D_minus s_minus c_minus (mem_c (h_fraction.mono (by decide)) mem_n) mem_n mem_n (He.glo_ok X G (d.fact 25 (f := .glo "minus") rfl)) (D_minus.bindsN fun _ _ _ _ _ _ us hl => match us, hl with | [_, _], _ => rfl)
  have h_step_from : Z.Has 3 ⟨"step_from", 2, F_step_from⟩ := def_has (k := 2) ok D_step_from s_step_from c_step_from (mem_c (h_minus.mono (by decide)) mem_n) mem_n mem_n (He.glo_ok X G (d.fact 26 (f := .glo "step_from") rfl)) (D_step_from.bindsN fun _ _ _ _ _ _ us hl => match us, hl with | [_, _], _ => rfl)
  have h_times : Z.Has 2 ⟨"times", 2, F_times⟩ := def_has (k := 1) ok D_times s_times c_times (mem_c (h_fraction.mono (by decide)) mem_n) mem_n mem_n (He.glo_ok X G (d.fact 27 (f := .glo "times") rfl)) (D_times.bindsN fun _ _ _ _ _ _ us hl => match us, hl with | [_, _], _ => rfl)
  have h_across : Z.Has 3 ⟨"across", 2, F_across⟩ := def_has (k := 2) ok D_across s_across c_across (mem_c (h_minus.mono (by decide)) (mem_c (h_times.mono (by decide)) mem_n)) mem_n mem_n (He.glo_ok X G (d.fact 28 (f := .glo "across") rfl)) (D_across.bindsN fun _ _ _ _ _ _ us hl => match us, hl with | [_, _], _ => rfl)
  have h_over : Z.Has 2 ⟨"over", 2, F_over⟩ := def_has (k := 1) ok D_over s_over c_over (mem_c (h_fraction.mono (by decide)) mem_n) mem_n mem_n (He.glo_ok X G (d.fact 29 (f := .glo "over") rfl)) (D_over.bindsN fun _ _ _ _ _ _ us hl => match us, hl with | [_, _], _ => rfl)
  have h_plus : Z.Has 2 ⟨"plus", 2, F_plus⟩ := def_has (k := 1) ok D_plus s_plus c_plus (mem_c (h_fraction.mono (by decide)) mem_n) mem_n mem_n (He.glo_ok X G (d.fact 30 (f := .glo "plus") rfl)) (D_plus.bindsN fun _ _ _ _ _ _ us hl => match us, hl with | [_, _], _ => rfl)
  have h_point_at : Z.Has 4 ⟨"point_at", 2, F_point_at⟩ := def_has (k := 3) ok D_point_at s_point_at c_point_at (mem_c (h_step_from.mono (by decide)) (mem_c (h_plus.mono (by decide)) (mem_c (h_times.mono (by decide)) mem_n))) mem_n mem_n (He.glo_ok X G (d.fact 31 (f := .glo "point_at") rfl)) (D_point_at.bindsN fun _ _ _ _ _ _ us hl => match us, hl with | [_, _], _ => rfl)
  have h_crossing : Z.Has 5 ⟨"crossing", 2, F_crossing⟩ := def_has (k := 4) ok D_crossing s_crossing c_crossing (mem_c (h_step_from.mono (by decide)) (mem_c (h_across.mono (by decide)) (mem_c (h_over.mono (by decide)) (mem_c (h_is_less.mono (by decide)) (mem_c (h_point_at.mono (by decide)) mem_n))))) (mem_c g_NOUGHT (mem_c g_ONE mem_n)) mem_n (He.glo_ok X G (d.fact 32 (f := .glo "crossing") rfl)) (D_crossing.bindsN fun _ _ _ _ _ _ us hl => match us, hl with | [_, _], _ => rfl)
  have h_inner : Z.Has 3 ⟨"inner", 2, F_inner⟩ := def_has (k := 2) ok D_inner s_inner c_inner (mem_c (h_plus.mono (by decide)) (mem_c (h_times.mono (by decide)) mem_n)) mem_n mem_n (He.glo_ok X G (d.fact 33 (f := .glo "inner") rfl)) (D_inner.bindsN fun _ _ _ _ _ _ us hl => match us, hl with | [_, _], _ => rfl)
  have h_nearest : Z.Has 5 ⟨"nearest", 2, F_nearest⟩ := def_has (k := 4) ok D_nearest s_nearest c_nearest (mem_c (h_step_from.mono (by decide)) (mem_c (h_inner.mono (by decide)) (mem_c (h_over.mono (by decide)) (mem_c (h_is_less.mono (by decide)) (mem_c (h_point_at.mono (by decide)) mem_n))))) (mem_c g_NOUGHT (mem_c g_ONE mem_n)) mem_n (He.glo_ok X G (d.fact 34 (f := .glo "nearest") rfl)) (D_nearest.bindsN fun _ _ _ _ _ _ us hl => match us, hl with | [_, _], _ => rfl)
  have h_square_far : Z.Has 4 ⟨"square_far", 2, F_square_far⟩ := def_has (k := 3) ok D_square_far s_square_far c_square_far (mem_c (h_step_from.mono (by decide)) (mem_c (h_inner.mono (by decide)) mem_n)) mem_n mem_n (He.glo_ok X G (d.fact 35 (f := .glo "square_far") rfl)) (D_square_far.bindsN fun _ _ _ _ _ _ us hl => match us, hl with | [_, _], _ => rfl)
  have h_nearest_two : Z.Has 6 ⟨"nearest_two", 2, F_nearest_two⟩ := def_has (k := 5) ok D_nearest_two s_nearest_two c_nearest_two (mem_c (h_crossing.mono (by decide)) (mem_c (h_nearest.mono (by decide)) (mem_c (h_is_less.mono (by decide)) (mem_c (h_square_far.mono (by decide)) mem_n)))) mem_n mem_n (He.glo_ok X G (d.fact 36 (f := .glo "nearest_two") rfl)) (D_nearest_two.bindsN fun _ _ _ _ _ _ us hl => match us, hl with | [_, _], _ => rfl)
  have h_apart : Z.Has 7 ⟨"apart", 2, F_apart⟩ := def_has (k := 6) ok D_apart s_apart c_apart (mem_c (h_nearest_two.mono (by decide)) (mem_c (h_square_far.mono (by decide)) mem_n)) mem_n mem_n (He.glo_ok X G (d.fact 37 (f := .glo "apart") rfl)) (D_apart.bindsN fun _ _ _ _ _ _ us hl => match us, hl with | [_, _], _ => rfl)
  have h_in_way : Z.Has 8 ⟨"in_way", 3, F_in_way⟩ := def_has (k := 7) ok D_in_way s_in_way c_in_way (mem_c (h_is_less.mono (by decide)) (mem_c (h_apart.mono (by decide)) mem_n)) mem_n mem_n (He.glo_ok X G (d.fact 38 (f := .glo "in_way") rfl)) (D_in_way.bindsN fun _ _ _ _ _ _ us hl => match us, hl with | [_, _, _], _ => rfl)
  have h_walls_met : Z.Has 9 ⟨"walls_met", 3, F_walls_met⟩ := def_has (k := 8) ok D_walls_met s_walls_met c_walls_met (mem_c (h_need_walls.mono (by decide)) (mem_c (h_in_way.mono (by decide)) mem_n)) mem_n mem_n (He.glo_ok X G (d.fact 39 (f := .glo "walls_met") rfl)) (D_walls_met.bindsN fun _ _ _ _ _ _ us hl => match us, hl with | [_, _, _], _ => rfl)
  have h_may_go : Z.Has 10 ⟨"may_go", 3, F_may_go⟩ := def_has (k := 9) ok D_may_go s_may_go c_may_go (mem_c (h_walls_met.mono (by decide)) mem_n) mem_n mem_n (He.glo_ok X G (d.fact 40 (f := .glo "may_go") rfl)) (D_may_go.bindsN fun _ _ _ _ _ _ us hl => match us, hl with | [_, _, _], _ => rfl)
  have h_law_between : Z.Has 4 ⟨"_law_between", 3, F_law_between⟩ := def_has (k := 3) ok D_law_between s_law_between c_law_between (mem_c (h_law_gone.mono (by decide)) (mem_c (h_law_plus.mono (by decide)) (mem_c (h_law_times.mono (by decide)) mem_n))) mem_n mem_n (He.glo_ok X G (d.fact 41 (f := .glo "_law_between") rfl)) (D_law_between.bindsN fun _ _ _ _ _ _ us hl => match us, hl with | [_, _, _], _ => rfl)
  have h_may_be : Z.Has 11 ⟨"may_be", 3, F_may_be⟩ := def_has (k := 10) ok D_may_be s_may_be c_may_be (mem_c (h_may_go.mono (by decide)) mem_n) mem_n mem_n (He.glo_ok X G (d.fact 42 (f := .glo "may_be") rfl)) (D_may_be.bindsN fun _ _ _ _ _ _ us hl => match us, hl with | [_, _, _], _ => rfl)
  have h_law_piece_right : Z.Has 12 ⟨"_law_piece_right", 4, F_law_piece_right⟩ := def_has (k := 11) ok D_law_piece_right s_law_piece_right c_law_piece_right (mem_c (h_law_less.mono (by decide)) (mem_c (h_law_apart.mono (by decide)) (mem_c (h_walls_met.mono (by decide)) (mem_c (h_may_go.mono (by decide)) (mem_c (h_law_between.mono (by decide)) (mem_c (h_law_made.mono (by decide)) (mem_c (h_law_to_fence.mono (by decide)) (mem_c (h_may_be.mono (by decide)) mem_n)))))))) mem_n mem_n (He.glo_ok X G (d.fact 43 (f := .glo "_law_piece_right") rfl)) (D_law_piece_right.bindsN fun _ _ _ _ _ _ us hl => match us, hl with | [_, _, _, _], _ => rfl)
  exact def_ok (k := 14) ok D_law20 s_law20 c_law20 (mem_c (h_law_drawn.mono (by decide)) (mem_c (h_law_cell.mono (by decide)) (mem_c (h_law_fences.mono (by decide)) (mem_c (h_law_reach.mono (by decide)) (mem_c (h_law_point.mono (by decide)) (mem_c (h_law_piece_right.mono (by decide)) (mem_c (h_law_to_fence.mono (by decide)) (mem_c (h_law_plus.mono (by decide)) (mem_c (h_may_be.mono (by decide)) (mem_c (h_may_go.mono (by decide)) (mem_c (h_walls_met.mono (by decide)) mem_n))))))))))) mem_n mem_n (fun _ => ⟨12, _, _, by decide, (mem_c (h_law_drawn.mono (by decide)) (mem_c (h_law_cell.mono (by decide)) (mem_c (h_law_fences.mono (by decide)) (mem_c (h_law_reach.mono (by decide)) (mem_c (h_law_point.mono (by decide)) (mem_c (h_law_piece_right.mono (by decide)) (mem_c (h_law_to_fence.mono (by decide)) (mem_c (h_law_plus.mono (by decide)) (mem_c (h_may_be.mono (by decide)) (mem_c (h_may_go.mono (by decide)) (mem_c (h_walls_met.mono (by decide)) mem_n))))))))))), tw, tw_code D_law20, TB _ (by simp [tf]), by simp [TT, Z], fun p hp _ => by simp [TT, Z] at hp; rw [hp]⟩)
theorem law_true (ns : List Int) (h : ns.length ≤ 63) : F_law20 [.list (ns.map .int)] = .ok (.bool true) := law20_true ns h
end Rw
open PySem PySem.W PySem.Calls PyProof.Rows
theorem PySem.Challenge.cw_rimway_k20_whole_room_holds : PySem.Challenge.rw_rimway_k20_whole_room.Holds := by
  w_on; o_law
  refine HandSHeadRun.head_any (r := OpenLaw.row PySem.Challenge.rw_rimway_k20_whole_room) (q := view (OpenLaw.row PySem.Challenge.rw_rimway_k20_whole_room).prog [57]) (H := Rw.hk) (ob := Rw.ob) (M := 6000) (loose := Rw.names) (d := HandSHeadRun.topDef (OpenLaw.row PySem.Challenge.rw_rimway_k20_whole_room).prog 57) (kwd := []) Rw.ob_eq
    (by kernel_rfl) (fun s => by kernel_rfl) Rw.run (by kernel_rfl) (by kernel_rfl) (by kernel_rfl) (by rfl) (by first | assumption | decide +kernel) (by decide +kernel) ⟨rfl, rfl, rfl, rfl, rfl, by decide +kernel⟩ ?hw ?hc
  case hw => w_witness2
  case hc =>
    refine LamX.walk_ofTsE (l := PySem.Challenge.rw_rimway_k20_whole_room) (n := 63) (k := 15) (x := "_law_script") (CX := fun w => L2N.CX (PySem.Challenge.rw_rimway_k20_whole_room).prog w) rfl (by decide) (by kernel_rfl) ⟨rfl, by decide, by decide⟩ ?F ?hCX
    case F =>
      intro w mg fa h Y G hmg0
      obtain ⟨K, KX, c⟩ := Y
      have hmg : mg ("law" : PySem.Str) = some (.ref fa) := by
        have e : (HandSHeadRun.topDef (OpenLaw.row PySem.Challenge.rw_rimway_k20_whole_room).prog 57).name = ("law" : PySem.Str) := by kernel_rfl
        rw [← e]
        exact hmg0
      exact ⟨K, KX, Rw.facts KX G hmg c Rw.law_true⟩
    case hCX =>
      intro w H s e s' hh
      obtain ⟨a, B, H', cls, d, _, _, _, _, _, _, _, z⟩ := hh
      exact z
