import PyProof.Rows.All
import Wide.All
import OpenK.AllK
import Wide.FinOn
import HandS.ForMost
import HandS.Wide
import HandS.WideBits
import HandS.TupAny
import HandS.Style
import HandS.EndBits
import HandS.IsInst
import HandS.Zip
import KE.GoesZip
import KE.GoesMore
import HandS.Flow
import KE.KStrBytes
import PySem.Challenge.RW_stepjudge_k03_whole_laws_of_fractions
set_option Elab.async false
set_option linter.all false
set_option maxRecDepth 100000
set_option maxHeartbeats 0
namespace Jd
open PySem PySem.Spec PyProof.Rows L2

/-! ### data -/
inductive D where
  | non | bl (b : Bool) | int (i : Int) | str (x : Str) | tup (ds : List D) | lst (ds : List D) | scr (ds : List D) | ref (n : Nat)
  deriving Inhabited

mutual
def D.pure : D → Bool
  | .ref _ => false
  | .tup ds => pureL ds
  | .lst ds => pureL ds
  | .scr ds => pureL ds
  | .non => true
  | .bl _ => true
  | .int _ => true
  | .str _ => true
def pureL : List D → Bool
  | [] => true
  | d :: ds => d.pure && pureL ds
end
mutual
def D.refLt (n : Nat) : D → Bool
  | .ref k => decide (k < n)
  | .tup ds => refLtL n ds
  | .lst ds => refLtL n ds
  | .scr ds => refLtL n ds
  | .non => true
  | .bl _ => true
  | .int _ => true
  | .str _ => true
def refLtL (n : Nat) : List D → Bool
  | [] => true
  | d :: ds => d.refLt n && refLtL n ds
end
/-- data that may be compared: no references, of depth n at most -/
def dOk : Nat → D → Bool
  | _, .ref _ => false
  | _, .scr _ => false
  | 0, .tup _ => false
  | 0, .lst _ => false
  | n + 1, .tup ds => ds.all (dOk n)
  | n + 1, .lst ds => ds.all (dOk n)
  | _, .non => true
  | _, .bl _ => true
  | _, .int _ => true
  | _, .str x => PyData.strOk x
mutual
def eqD : D → D → Bool
  | .non, .non => true
  | .bl a, .bl b => a == b
  | .bl a, .int j => (if a then 1 else 0) == j
  | .int i, .bl b => i == (if b then 1 else 0)
  | .int i, .int j => i == j
  | .str x, .str y => x == y
  | .lst xs, .lst ys => eqL xs ys
  | .tup xs, .tup ys => eqL xs ys
  | _, _ => false
def eqL : List D → List D → Bool
  | [], [] => true
  | x :: xs, y :: ys => eqD x y && eqL xs ys
  | _, _ => false
end
mutual
def toP : D → PyData
  | .non => .none
  | .bl b => .bool b
  | .int i => .int i
  | .str x => .str x
  | .tup ds => .tuple (toPs ds)
  | .lst ds => .list (toPs ds)
  | .scr _ => .none
  | .ref _ => .none
def toPs : List D → List PyData
  | [] => []
  | d :: ds => toP d :: toPs ds
end

inductive Md where | mut | dead
  deriving DecidableEq
structure Cell where
  md : Md
  xs : List D
abbrev Sto := List Cell
abbrev En := List (Option D)

inductive Fl where | nx (σ : En) | bk (σ : En) | ct (σ : En) | rt (d : D)

/-! ### the little language -/
inductive Uop where | neg
inductive Bop where | add | sub | mul | fdiv | mod | pow | shl | shr | band | bor
inductive Cop where | eq | ne | lt | le | gt | ge | isN | notN | in_ | notIn
inductive Ty where | int | bool | str | tuple | list
inductive Blt where | abs | int | len | list | tuple | str | max | min | isI (t : Ty)
inductive Mth where | append

inductive C where
  | var (i : Nat) | kint (i : Int) | kbl (b : Bool) | kstr (s : Str) | knon | glb (j : Nat)
  | un (o : Uop) (a : C) | bin (o : Bop) (m : Bool) (a b : C) | cmp (o : Cop) (a b : C) | chain (o o' : Cop) (a b c : C)
  | and (a b : C) | or (a b : C) | one (a : C) | not (a : C) | ife (t a b : C)
  | tup (as : C) | dsp (m : Bool) (as : C) | idx (a i : C) | slc (m : Bool) (a lo hi : C)
  | call (f : Nat) (as : C) | blt (b : Blt) (m : Bool) (as : C) | lcp (m : Bool) (own : List Nat) (tg it ifs el : C)
  | dsel (ks : List Str) (as i : C) | rev (m : Bool) (a : C)
  | frz (a : C) | mth (mt : Mth) (o as : C)
  | nil | cons (a as : C)
  | iV (a : C) | iR1 (a : C) | iR2 (a b : C) | iEn (a : C) | iZip (a b : C)
  | tN (i : Nat) | tT (ts : C) | tS (o i : C)
  | asg (t a : C) | par (i j : Nat) (a b : C) | aug (i : Nat) (o : Bop) (a : C) | ifs (t a b : C) | whl (t b : C) | for_ (t it b : C)
  | ret (a : C) | retN | ex (a : C) | pass | brk | cnt | nev

/-! ### what its parts mean -/
/-- a list that is made: kept as data, or as a cell that may be changed -/
def mkL (m : Bool) (xs : List D) (st : Sto) : Option (D × Sto) :=
  if m then (if pureL xs then some (.ref st.length, st ++ [⟨.mut, xs⟩]) else none) else some (.lst xs, st)
def rdL (st : Sto) : D → Option (List D)
  | .lst xs => some xs
  | .ref n => (st[n]?).map (·.xs)
  | _ => none
def rdQ (st : Sto) : D → Option (List D)
  | .lst xs => some xs
  | .scr xs => some xs
  | .ref n => (st[n]?).map (·.xs)
  | _ => none
def rdS (st : Sto) : D → Option (List D)
  | .lst xs => some xs
  | .scr xs => some xs
  | .tup xs => some xs
  | .ref n => (st[n]?).map (·.xs)
  | _ => none
def drf (st : Sto) : D → D
  | .ref n => match st[n]? with
    | some c => .lst c.xs
    | none => .ref n
  | d => d

def gUn : Uop → D → Sto → Option (D × Sto)
  | .neg, .int i, st => some (.int (-i), st)
  | _, _, _ => none

/-- the sum of two numbers of bits -/
def mulOk (i j : Int) : Bool := decide (i.natAbs.log2 + j.natAbs.log2 < 100000000)
def divOk (j : Int) : Bool := decide (j ≠ 0 ∧ j.natAbs.log2 < 9000)
def powOk (i j : Int) : Bool := decide (0 ≤ j ∧ j ≤ 1000000 ∧ i.natAbs < 2 ^ 64)
def lenOk (n : Nat) : Bool := decide (n ≤ sizeLine)

def gInt (ok : Int → Int → Bool) (f : Int → Int → Int) (x y : D) (st : Sto) : Option (D × Sto) :=
  match x, y with
  | .int i, .int j => if ok i j then some (.int (f i j), st) else none
  | _, _ => none
def gAdd (m : Bool) (x y : D) (st : Sto) : Option (D × Sto) :=
  match x, y with
  | .int i, .int j => some (.int (i + j), st)
  | .str a, .str b => if lenOk (a.length + b.length) then some (.str (a ++ b), st) else none
  | .tup xs, .tup ys => if lenOk (xs.length + ys.length) then some (.tup (xs ++ ys), st) else none
  | x, y => match rdL st x, rdL st y with
    | some xs, some ys => if lenOk (xs.length + ys.length) then mkL m (xs ++ ys) st else none
    | _, _ => none
def repOk (n : Nat) (k : Int) : Bool := decide (-(2 ^ 63) ≤ k ∧ k < 2 ^ 63 ∧ n * k.toNat ≤ sizeLine)
def gMul (m : Bool) (x y : D) (st : Sto) : Option (D × Sto) :=
  match x, y with
  | .int i, .int j => if mulOk i j then some (.int (i * j), st) else none
  | x, .int k => match rdL st x with
    | some xs => if repOk xs.length k then mkL m (List.replicate k.toNat xs).flatten st else none
    | none => none
  | _, _ => none
def gBin (o : Bop) (m : Bool) (x y : D) (st : Sto) : Option (D × Sto) :=
  match o with
  | .add => gAdd m x y st
  | .sub => gInt (fun _ _ => true) (fun i j => i - j) x y st
  | .mul => gMul m x y st
  | .fdiv => gInt (fun _ j => divOk j) (fun i j => i.fdiv j) x y st
  | .mod => gInt (fun _ j => decide (j ≠ 0)) (fun i j => i.fmod j) x y st
  | .pow => gInt powOk (fun i j => i ^ j.toNat) x y st
  | .shl => gInt powOk (fun i j => i * 2 ^ j.toNat) x y st
  | .shr => gInt (fun _ j => decide (0 ≤ j)) (fun i j => i / 2 ^ j.toNat) x y st
  | .band => gInt (fun _ _ => true) Builtin.bitAnd x y st
  | .bor => gInt (fun _ _ => true) Builtin.bitOr x y st

def flatD : D → Bool
  | .non => true | .bl _ => true | .int _ => true | .str _ => true | _ => false
def isOne (x : Str) : Option Nat := match x.cps.toList with
  | [c] => some c
  | _ => none
def inD (st : Sto) (x y : D) : Option Bool :=
  match x, y with
  | .str a, .str b => (isOne a).map fun c => decide (c ∈ b.cps.toList)
  | x, y => match rdS st y with
    | some ys => if flatD x && ys.all flatD then some (ys.any fun z => eqD z x) else none
    | none => none
def eqQ (st : Sto) (x y : D) : Option Bool :=
  match x, y with
  | .str a, .str b => some (a == b)
  | x, y => if dOk 60 (drf st x) && dOk 60 (drf st y) then some (eqD (drf st x) (drf st y)) else none

def gCmp (o : Cop) (x y : D) (st : Sto) : Option (Bool × Sto) :=
  match o with
  | .eq => (eqQ st x y).map (·, st)
  | .ne => (eqQ st x y).map fun b => (!b, st)
  | .lt => match x, y with | .int i, .int j => some (decide (i < j), st) | _, _ => none
  | .le => match x, y with | .int i, .int j => some (decide (i ≤ j), st) | _, _ => none
  | .gt => match x, y with | .int i, .int j => some (decide (j < i), st) | _, _ => none
  | .ge => match x, y with | .int i, .int j => some (decide (j ≤ i), st) | _, _ => none
  | .isN => match x, y with
    | .non, .non => some (true, st)
    | _, .non => some (false, st)
    | _, _ => none
  | .notN => match x, y with
    | .non, .non => some (false, st)
    | _, .non => some (true, st)
    | _, _ => none
  | .in_ => (inD st x y).map (·, st)
  | .notIn => (inD st x y).map fun b => (!b, st)

def truD (st : Sto) : D → Option Bool
  | .non => some false
  | .bl b => some b
  | .int i => some (i != 0)
  | .str x => if lenOk x.length then some (x.length != 0) else none
  | .tup xs => some (!xs.isEmpty)
  | .lst xs => some (!xs.isEmpty)
  | .scr xs => some (!xs.isEmpty)
  | .ref n => (st[n]?).map fun c => !c.xs.isEmpty

def gIdx (x i : D) (st : Sto) : Option (D × Sto) :=
  match x, i with
  | .str z, .int k => if lenOk z.length then (atI z.cps.toList k).map fun c => (.str ⟨#[c]⟩, st) else none
  | x, .int k => match rdS st x with
    | some xs => (atI xs k).map (·, st)
    | none => none
  | _, _ => none

def cutD (xs : List D) (lo hi : Option Int) : List D := (xs.drop (HT.sIx xs.length 0 lo)).take (HT.sIx xs.length xs.length hi - HT.sIx xs.length 0 lo)
def gSlc (m : Bool) (x : D) (lo hi : Option Int) (st : Sto) : Option (D × Sto) :=
  match x with
  | .tup xs => some (.tup (cutD xs lo hi), st)
  | .str z => if lenOk z.length then some (.str (cutS z lo hi), st) else none
  | x => match rdQ st x with
    | some xs => mkL m (cutD xs lo hi) st
    | none => none

def gBlt (b : Blt) (m : Bool) (xs : List D) (st : Sto) : Option (D × Sto) :=
  match b, xs with
  | .abs, [.int i] => some (.int (if i < 0 then -i else i), st)
  | .int, [.int i] => some (.int i, st)
  | .int, [.bl k] => some (.int (if k then 1 else 0), st)
  | .len, [.str z] => if lenOk z.length then some (.int z.length, st) else none
  | .len, [x] => (rdS st x).map fun ys => (.int ys.length, st)
  | .list, [x] => match rdS st x with
    | some ys => mkL m ys st
    | none => none
  | .tuple, [.tup ys] => some (.tup ys, st)
  | .tuple, [x] => (rdQ st x).map fun ys => (.tup ys, st)
  | .str, [.int i] => if i.natAbs.log2 < 1920 then some (.str (toString i), st) else none
  | .max, [.int i, .int j] => some (.int (if j > i then j else i), st)
  | .min, [.int i, .int j] => some (.int (if j < i then j else i), st)
  | .isI t, [x] => match t, x with
    | .int, .int _ => some (.bl true, st)
    | .int, .bl _ => some (.bl true, st)
    | .bool, .bl _ => some (.bl true, st)
    | .str, .str _ => some (.bl true, st)
    | .tuple, .tup _ => some (.bl true, st)
    | .list, .lst _ => some (.bl true, st)
    | .list, .ref _ => some (.bl true, st)
    | _, .scr _ => none
    | _, _ => some (.bl false, st)
  | _, _ => none

def gMth (mt : Mth) (x : D) (xs : List D) (st : Sto) : Option (D × Sto) :=
  match mt, x, xs with
  | .append, .ref n, [y] => match st[n]? with
    | some ⟨.mut, zs⟩ => if y.pure && decide (zs.length < sizeLine) then some (.non, st.set n ⟨.mut, zs ++ [y]⟩) else none
    | _ => none
  | _, _, _ => none
def gSet (x i y : D) (st : Sto) : Option Sto :=
  match x, i with
  | .ref n, .int k => match st[n]? with
    | some ⟨.mut, zs⟩ => if y.pure then (ixN zs.length k).map fun j => st.set n ⟨.mut, zs.set j y⟩ else none
    | _ => none
  | _, _ => none
def gFrz (x : D) (st : Sto) : Option (D × Sto) :=
  match x with
  | .ref n => match st[n]? with
    | some c => some (.lst c.xs, st.set n ⟨.dead, c.xs⟩)
    | none => none
  | d => some (d, st)

/-- {k: d, ..}[z] -/
def selD : List Str → List D → Str → Option D
  | k :: ks, d :: ds, z => match selD ks ds z with
    | some x => some x
    | none => if z = k then some d else none
  | _, _, _ => none
def gSel (ks : List Str) (ds : List D) (x : D) (st : Sto) : Option (D × Sto) :=
  match x with
  | .str z => (selD ks ds z).map (·, st)
  | _ => none
def gRev (m : Bool) (x : D) (st : Sto) : Option (D × Sto) :=
  match rdQ st x with
  | some xs => mkL m xs.reverse st
  | none => none

def wipeD (σ : En) : List Nat → En
  | [] => σ
  | v :: vs => (wipeD σ vs).set v none

/-- what a loop walks -/
inductive Src where
  | its (xs : List D)
  | cell (n : Nat)
  | enc (n : Nat)

/-- a list or a tuple that is data -/
def itemsD : D → Option (List D)
  | .lst xs => some xs
  | .tup xs => some xs
  | _ => none
def enumD (xs : List D) : List D := xs.mapIdx fun i x => .tup [.int i, x]
def rngD (lo : Int) (n : Nat) : List D := (List.range n).map fun (i : Nat) => D.int (lo + (i : Int))
def zipD (xs ys : List D) : List D := List.zipWith (fun x y => .tup [x, y]) xs ys
/-- the item of a turn -/
def srcAt (s : Src) (st : Sto) (i : Nat) : Option (Option D) :=
  match s with
  | .its xs => some xs[i]?
  | .cell n => (st[n]?).map fun c => c.xs[i]?
  | .enc n => (st[n]?).map fun c => (c.xs[i]?).map fun x => .tup [.int i, x]

/-- a for: at most n turns -/
def forS (s : Src) (tg : D → En → Sto → Option (En × Sto)) (b : En → Sto → Option (Fl × Sto)) : Nat → Nat → En → Sto → Option (Fl × Sto)
  | n, i, σ, st => match srcAt s st i with
    | none => none
    | some none => some (.nx σ, st)
    | some (some x) => match n with
      | 0 => none
      | n + 1 => match tg x σ st with
        | none => none
        | some (σ1, st1) => match b σ1 st1 with
          | some (.nx σ2, st2) => forS s tg b n (i + 1) σ2 st2
          | some (.ct σ2, st2) => forS s tg b n (i + 1) σ2 st2
          | some (.bk σ2, st2) => some (.nx σ2, st2)
          | some (.rt d, st2) => some (.rt d, st2)
          | none => none
/-- a comprehension: at most n turns; the items made -/
def lcS (s : Src) (tg : D → En → Sto → Option (En × Sto)) (t : En → Sto → Option (Bool × Sto)) (e : En → Sto → Option (D × Sto)) (σ : En) : Nat → Nat → Sto → Option (List D × Sto)
  | n, i, st => match srcAt s st i with
    | none => none
    | some none => some ([], st)
    | some (some x) => match n with
      | 0 => none
      | n + 1 => match tg x σ st with
        | none => none
        | some (σ1, st1) => match t σ1 st1 with
          | none => none
          | some (false, st2) => lcS s tg t e σ n (i + 1) st2
          | some (true, st2) => match e σ1 st2 with
            | none => none
            | some (y, st3) => match lcS s tg t e σ n (i + 1) st3 with
              | none => none
              | some (ys, st4) => some (y :: ys, st4)
def srcLen (s : Src) (st : Sto) : Nat :=
  match s with
  | .its xs => xs.length
  | .cell n => match st[n]? with | some c => c.xs.length | none => 0
  | .enc n => match st[n]? with | some c => c.xs.length | none => 0

/-- a while, by turns -/
def whN (t : En → Sto → Option (Bool × Sto)) (b : En → Sto → Option (Fl × Sto)) : Nat → En → Sto → Option (Fl × Sto)
  | 0, _, _ => none
  | n + 1, σ, st => match t σ st with
    | none => none
    | some (false, st1) => some (.nx σ, st1)
    | some (true, st1) => match b σ st1 with
      | some (.nx σ2, st2) => whN t b n σ2 st2
      | some (.ct σ2, st2) => whN t b n σ2 st2
      | some (.bk σ2, st2) => some (.nx σ2, st2)
      | some (.rt d, st2) => some (.rt d, st2)
      | none => none
open Classical in
noncomputable def whS (t : En → Sto → Option (Bool × Sto)) (b : En → Sto → Option (Fl × Sto)) (σ : En) (st : Sto) : Option (Fl × Sto) :=
  if h : ∃ n r, whN t b n σ st = some r then whN t b h.choose σ st else none

/-! ### the meaning of a piece: gs: the module's data, cs: what its functions do -/
section
variable (gs : List D) (cs : Nat → List D → Sto → Option (D × Sto))
mutual
noncomputable def evE : C → En → Sto → Option (D × Sto)
  | .var i => fun σ st => match σ[i]? with
    | some (some d) => some (d, st)
    | _ => none
  | .kint i => fun _ st => some (.int i, st)
  | .kbl b => fun _ st => some (.bl b, st)
  | .kstr x => fun _ st => some (.str x, st)
  | .knon => fun _ st => some (.non, st)
  | .glb j => fun _ st => (gs[j]?).map (·, st)
  | .un o a => fun σ st => (evE a σ st).bind fun p => gUn o p.1 p.2
  | .bin o m a b => fun σ st => (evE a σ st).bind fun p => (evE b σ p.2).bind fun q => gBin o m p.1 q.1 q.2
  | .cmp o a b => fun σ st => (evE a σ st).bind fun p => (evE b σ p.2).bind fun q => (gCmp o p.1 q.1 q.2).map fun r => (.bl r.1, r.2)
  | .chain o o' a b c => fun σ st => (evE a σ st).bind fun p => (evE b σ p.2).bind fun q => (gCmp o p.1 q.1 q.2).bind fun r =>
      if r.1 then (evE c σ r.2).bind fun z => (gCmp o' q.1 z.1 z.2).map fun w => (.bl w.1, w.2) else some (.bl false, r.2)
  | .and a b => fun σ st => (evE a σ st).bind fun p => (truD p.2 p.1).bind fun k => if k then evE b σ p.2 else some p
  | .or a b => fun σ st => (evE a σ st).bind fun p => (truD p.2 p.1).bind fun k => if k then some p else evE b σ p.2
  | .one a => fun σ st => evE a σ st
  | .not a => fun σ st => (evE a σ st).bind fun p => (truD p.2 p.1).map fun k => (.bl (!k), p.2)
  | .ife t a b => fun σ st => (evT t σ st).bind fun p => if p.1 then evE a σ p.2 else evE b σ p.2
  | .tup as => fun σ st => (evA as σ st).bind fun p => if lenOk p.1.length then some (.tup p.1, p.2) else none
  | .dsp m as => fun σ st => (evA as σ st).bind fun p => if lenOk p.1.length then mkL m p.1 p.2 else none
  | .idx a i => fun σ st => (evE a σ st).bind fun p => (evE i σ p.2).bind fun q => gIdx p.1 q.1 q.2
  | .slc m a lo hi => fun σ st => (evE a σ st).bind fun p => (evO lo σ p.2).bind fun q => (evO hi σ q.2).bind fun r => gSlc m p.1 q.1 r.1 r.2
  | .call f as => fun σ st => (evA as σ st).bind fun p => cs f p.1 p.2
  | .blt b m as => fun σ st => (evA as σ st).bind fun p => gBlt b m p.1 p.2
  | .lcp m own tg it ifs el => fun σ st => (evI it σ st).bind fun p =>
      (lcS p.1 (evG tg) (evT ifs) (evE el) (wipeD σ own) (srcLen p.1 p.2) 0 p.2).bind fun q => if lenOk q.1.length then mkL m q.1 q.2 else none
  | .dsel ks as i => fun σ st => (evA as σ st).bind fun p => (evE i σ p.2).bind fun q => gSel ks p.1 q.1 q.2
  | .rev m a => fun σ st => (evE a σ st).bind fun p => gRev m p.1 p.2
  | .frz a => fun σ st => (evE a σ st).bind fun p => gFrz p.1 p.2
  | .mth mt o as => fun σ st => (evE o σ st).bind fun p => (evA as σ p.2).bind fun q => gMth mt p.1 q.1 q.2
  | _ => fun _ _ => none
noncomputable def evO : C → En → Sto → Option (Option Int × Sto)
  | .nil => fun _ st => some (none, st)
  | .cons a _ => fun σ st => (evE a σ st).bind fun p => match p.1 with
    | .int i => some (some i, p.2)
    | _ => none
  | _ => fun _ _ => none
noncomputable def evA : C → En → Sto → Option (List D × Sto)
  | .nil => fun _ st => some ([], st)
  | .cons a as => fun σ st => (evE a σ st).bind fun p => (evA as σ p.2).map fun q => (p.1 :: q.1, q.2)
  | _ => fun _ _ => none
/-- a test -/
noncomputable def evT : C → En → Sto → Option (Bool × Sto)
  | .nil => fun _ st => some (true, st)
  | .and a b => fun σ st => (evT a σ st).bind fun p => if p.1 then evT b σ p.2 else some (false, p.2)
  | .or a b => fun σ st => (evT a σ st).bind fun p => if p.1 then some (true, p.2) else evT b σ p.2
  | .one a => fun σ st => evT a σ st
  | .not a => fun σ st => (evT a σ st).map fun p => (!p.1, p.2)
  | .cmp o a b => fun σ st => (evE a σ st).bind fun p => (evE b σ p.2).bind fun q => gCmp o p.1 q.1 q.2
  | .chain o o' a b c => fun σ st => (evE a σ st).bind fun p => (evE b σ p.2).bind fun q => (gCmp o p.1 q.1 q.2).bind fun r =>
      if r.1 then (evE c σ r.2).bind fun z => gCmp o' q.1 z.1 z.2 else some (false, r.2)
  | .ex a => fun σ st => (evE a σ st).bind fun p => (truD p.2 p.1).map fun k => (k, p.2)
  | _ => fun _ _ => none
noncomputable def evI : C → En → Sto → Option (Src × Sto)
  | .iV a => fun σ st => (evE a σ st).bind fun p => match p.1 with
    | .lst xs => some (.its xs, p.2)
    | .scr xs => some (.its xs, p.2)
    | .tup xs => some (.its xs, p.2)
    | .str x => some (.its (x.cps.toList.map fun c => .str ⟨#[c]⟩), p.2)
    | .ref n => some (.cell n, p.2)
    | _ => none
  | .iR1 a => fun σ st => (evE a σ st).bind fun p => match p.1 with
    | .int j => if -(2 ^ 62) ≤ j ∧ j < 2 ^ 62 then some (.its (rngD 0 j.toNat), p.2) else none
    | _ => none
  | .iR2 a b => fun σ st => (evE a σ st).bind fun p => (evE b σ p.2).bind fun q => match p.1, q.1 with
    | .int i, .int j => if -(2 ^ 62) ≤ i ∧ i < 2 ^ 62 ∧ -(2 ^ 62) ≤ j ∧ j < 2 ^ 62 then some (.its (rngD i (j - i).toNat), q.2) else none
    | _, _ => none
  | .iEn a => fun σ st => (evE a σ st).bind fun p => match p.1 with
    | .lst xs => some (.its (enumD xs), p.2)
    | .ref n => some (.enc n, p.2)
    | _ => none
  | .iZip a b => fun σ st => (evE a σ st).bind fun p => (evE b σ p.2).bind fun q => (itemsD p.1).bind fun xs => (itemsD q.1).map fun ys => (.its (zipD xs ys), q.2)
  | _ => fun _ _ => none
noncomputable def evG : C → D → En → Sto → Option (En × Sto)
  | .tN i => fun d σ st => some (σ.set i (some d), st)
  | .tT ts => fun d σ st => match d with
    | .tup ds => evGs ts ds σ st
    | _ => none
  | .tS o i => fun d σ st => (evE o σ st).bind fun p => (evE i σ p.2).bind fun q => (gSet p.1 q.1 d q.2).map fun st' => (σ, st')
  | _ => fun _ _ _ => none
noncomputable def evGs : C → List D → En → Sto → Option (En × Sto)
  | .nil => fun ds σ st => match ds with
    | [] => some (σ, st)
    | _ => none
  | .cons t ts => fun ds σ st => match ds with
    | d :: ds => (evG t d σ st).bind fun p => evGs ts ds p.1 p.2
    | _ => none
  | _ => fun _ _ _ => none
noncomputable def exS : C → En → Sto → Option (Fl × Sto)
  | .nil => fun σ st => some (.nx σ, st)
  | .cons a as => fun σ st => (exS a σ st).bind fun p => match p.1 with
    | .nx σ' => exS as σ' p.2
    | f => some (f, p.2)
  | .asg t a => fun σ st => (evE a σ st).bind fun p => (evG t p.1 σ p.2).map fun q => (.nx q.1, q.2)
  | .par i j a b => fun σ st => (evE a σ st).bind fun p => (evE b σ p.2).map fun q => (.nx ((σ.set i (some p.1)).set j (some q.1)), q.2)
  | .aug i o a => fun σ st => match σ[i]? with
    | some (some d) => (evE a σ st).bind fun p => match d, p.1 with
      | .int _, .int _ => (gBin o false d p.1 p.2).map fun q => (.nx (σ.set i (some q.1)), q.2)
      | .str _, .str _ => (gBin o false d p.1 p.2).map fun q => (.nx (σ.set i (some q.1)), q.2)
      | _, _ => none
    | _ => none
  | .ifs t a b => fun σ st => (evT t σ st).bind fun p => if p.1 then exS a σ p.2 else exS b σ p.2
  | .whl t b => fun σ st => whS (evT t) (exS b) σ st
  | .for_ t it b => fun σ st => (evI it σ st).bind fun p => forS p.1 (evG t) (exS b) (srcLen p.1 p.2) 0 σ p.2
  | .ret a => fun σ st => (evE a σ st).map fun p => (.rt p.1, p.2)
  | .retN => fun _ st => some (.rt .non, st)
  | .ex a => fun σ st => (evE a σ st).map fun p => (.nx σ, p.2)
  | .pass => fun σ st => some (.nx σ, st)
  | .brk => fun σ st => some (.bk σ, st)
  | .cnt => fun σ st => some (.ct σ, st)
  | _ => fun _ _ => none
end
end

/-- a function: how many parameters, how many names, its body -/
structure Fn where
  np : Nat
  nn : Nat
  body : C
/-- what a body hands back; what it made for itself is dropped -/
def endF (n0 : Nat) : Option (Fl × Sto) → Option (D × Sto)
  | some (.rt d, st) => if d.refLt n0 then some (d, st.take n0) else some (d, st)
  | some (.nx _, st) => some (.non, st.take n0)
  | _ => none
noncomputable def run (gs : List D) (fs : List Fn) : Nat → Nat → List D → Sto → Option (D × Sto)
  | 0, _, _, _ => none
  | k + 1, f, ds, st => match fs[f]? with
    | none => none
    | some g => if ds.length = g.np then endF st.length (exS gs (run gs fs k) g.body (ds.map some ++ List.replicate (g.nn - ds.length) none) st) else none
end Jd

namespace Jd
open PySem PySem.Spec PyProof.Rows L2

/-! ### how data lie in the heap: F what stands for good, mu the cells' addresses -/
mutual
inductive DV (K : PySem.W.Frag) (F : Hp) (mu : List Addr) : V → D → Prop
  | non : DV K F mu .non .non
  | bl (b : Bool) : DV K F mu (.bl b) (.bl b)
  | int (i : Int) : DV K F mu (.int i) (.int i)
  | str (x : Str) : DV K F mu (.str x) (.str x)
  | tup {a : Addr} {xs : List V} {ds : List D} : SqT K F a xs → DVs K F mu xs ds → DV K F mu (.ref a) (.tup ds)
  | lst {a : Addr} {xs : List V} {ds : List D} : F a = some (.lst xs) → DVs K F mu xs ds → DV K F mu (.ref a) (.lst ds)
  | scr {a : Addr} {xs : List V} {ds : List D} : SqL K F a xs → DVs K F mu xs ds → DV K F mu (.ref a) (.scr ds)
  | ref {n : Nat} {a : Addr} : mu[n]? = some a → DV K F mu (.ref a) (.ref n)
inductive DVs (K : PySem.W.Frag) (F : Hp) (mu : List Addr) : List V → List D → Prop
  | nil : DVs K F mu [] []
  | cons {v : V} {vs : List V} {d : D} {ds : List D} : DV K F mu v d → DVs K F mu vs ds → DVs K F mu (v :: vs) (d :: ds)
end
def Ex (F : Hp) (mu : List Addr) (F' : Hp) (mu' : List Addr) : Prop := Same F F' ∧ ∃ t, mu' = mu ++ t
theorem Ex.refl {F : Hp} {mu : List Addr} : Ex F mu F mu := ⟨Same.refl _, [], by simp⟩
theorem Ex.trans {F F1 F2 : Hp} {mu mu1 mu2 : List Addr} (a : Ex F mu F1 mu1) (b : Ex F1 mu1 F2 mu2) : Ex F mu F2 mu2 := by
  obtain ⟨a1, t1, e1⟩ := a
  obtain ⟨b1, t2, e2⟩ := b
  exact ⟨a1.trans b1, t1 ++ t2, by rw [e2, e1, List.append_assoc]⟩
theorem Same.rd {F F' : Hp} {a : Addr} {u : HO} (e : Same F F') (h : Rd F a u) : Rd F' a u := by
  rcases h with h | ⟨o, h⟩
  · exact .inl (e _ _ h)
  · exact .inr ⟨o, e _ _ h⟩
theorem Same.tupT {K : PySem.W.Frag} {F F' : Hp} {a : Addr} {xs : List V} (e : Same F F') (h : SqT K F a xs) : SqT K F' a xs := by
  rcases h with h | h
  · exact .inl (Same.rd e h)
  · exact .inr h
theorem get_app {α : Type} {l t : List α} {n : Nat} {a : α} (h : l[n]? = some a) : (l ++ t)[n]? = some a := by
  have hn : n < l.length := by
    rcases Nat.lt_or_ge n l.length with z | z
    · exact z
    · rw [List.getElem?_eq_none z] at h
      cases h
  rw [List.getElem?_append_left hn]
  exact h
section
variable {K : PySem.W.Frag} {F F' : Hp} {mu mu' : List Addr}
mutual
theorem DV.mono (e : Ex F mu F' mu') : ∀ {d : D} {v : V}, DV K F mu v d → DV K F' mu' v d
  | .non, _, .non => .non
  | .bl _, _, .bl b => .bl b
  | .int _, _, .int i => .int i
  | .str _, _, .str x => .str x
  | .tup _, _, .tup h r => .tup (Same.tupT e.1 h) (DVs.mono e r)
  | .lst _, _, .lst h r => .lst (e.1 _ _ h) (DVs.mono e r)
  | .scr _, _, .scr h r => .scr (e.1.seq h) (DVs.mono e r)
  | .ref _, _, .ref h => .ref (by
    obtain ⟨t, e2⟩ := e.2
    rw [e2]
    exact get_app h)
theorem DVs.mono (e : Ex F mu F' mu') : ∀ {ds : List D} {vs : List V}, DVs K F mu vs ds → DVs K F' mu' vs ds
  | [], _, .nil => .nil
  | _ :: _, _, .cons h r => .cons (DV.mono e h) (DVs.mono e r)
end
mutual
theorem DV.ofPure : ∀ {d : D} {v : V}, DV K F mu v d → d.pure = true → DV K F mu' v d
  | .non, _, .non, _ => .non
  | .bl _, _, .bl b, _ => .bl b
  | .int _, _, .int i, _ => .int i
  | .str _, _, .str x, _ => .str x
  | .tup _, _, .tup h r, p => .tup h (DVs.ofPure r p)
  | .lst _, _, .lst h r, p => .lst h (DVs.ofPure r p)
  | .scr _, _, .scr h r, p => .scr h (DVs.ofPure r p)
  | .ref _, _, .ref _, p => by cases p
theorem DVs.ofPure : ∀ {ds : List D} {vs : List V}, DVs K F mu vs ds → pureL ds = true → DVs K F mu' vs ds
  | [], _, .nil, _ => .nil
  | _ :: _, _, .cons h r, p => .cons (DV.ofPure h (Bool.and_eq_true_iff.mp p).1) (DVs.ofPure r (Bool.and_eq_true_iff.mp p).2)
end
mutual
theorem DV.cut {n : Nat} : ∀ {d : D} {v : V}, DV K F mu v d → d.refLt n = true → DV K F (mu.take n) v d
  | .non, _, .non, _ => .non
  | .bl _, _, .bl b, _ => .bl b
  | .int _, _, .int i, _ => .int i
  | .str _, _, .str x, _ => .str x
  | .tup _, _, .tup h r, p => .tup h (DVs.cut r p)
  | .lst _, _, .lst h r, p => .lst h (DVs.cut r p)
  | .scr _, _, .scr h r, p => .scr h (DVs.cut r p)
  | .ref _, _, .ref h, p => .ref (by
    have hk := of_decide_eq_true p
    rw [List.getElem?_take_of_lt hk]
    exact h)
theorem DVs.cut {n : Nat} : ∀ {ds : List D} {vs : List V}, DVs K F mu vs ds → refLtL n ds = true → DVs K F (mu.take n) vs ds
  | [], _, .nil, _ => .nil
  | _ :: _, _, .cons h r, p => .cons (DV.cut h (Bool.and_eq_true_iff.mp p).1) (DVs.cut r (Bool.and_eq_true_iff.mp p).2)
end
theorem DVs.length : ∀ {ds : List D} {vs : List V}, DVs K F mu vs ds → vs.length = ds.length
  | [], _, .nil => rfl
  | _ :: _, _, .cons _ r => congrArg (· + 1) (DVs.length r)
theorem DVs.get : ∀ {ds : List D} {vs : List V} {i : Nat} {d : D}, DVs K F mu vs ds → ds[i]? = some d → ∃ v, vs[i]? = some v ∧ DV K F mu v d
  | [], _, _, _, .nil, h => by simp at h
  | _ :: _, _, 0, d, .cons h _, e => by
    have e2 := Option.some.inj (show some _ = some d from e)
    subst e2
    exact ⟨_, rfl, h⟩
  | _ :: _, _, i + 1, d, .cons _ r, e => by
    obtain ⟨v, h1, h2⟩ := DVs.get (i := i) (d := d) r (by simpa using e)
    exact ⟨v, by simpa using h1, h2⟩
theorem DVs.getV : ∀ {ds : List D} {vs : List V} {i : Nat} {v : V}, DVs K F mu vs ds → vs[i]? = some v → ∃ d, ds[i]? = some d ∧ DV K F mu v d
  | [], _, _, _, .nil, h => by simp at h
  | _ :: _, _, 0, v, .cons h _, e => by
    have e2 := Option.some.inj (show some _ = some v from e)
    subst e2
    exact ⟨_, rfl, h⟩
  | _ :: _, _, i + 1, v, .cons _ r, e => by
    obtain ⟨d, h1, h2⟩ := DVs.getV (i := i) (v := v) r (by simpa using e)
    exact ⟨d, by simpa using h1, h2⟩
theorem DVs.append : ∀ {ds es : List D} {vs ws : List V}, DVs K F mu vs ds → DVs K F mu ws es → DVs K F mu (vs ++ ws) (ds ++ es)
  | [], _, _, _, .nil, s => s
  | _ :: _, _, _, _, .cons h r, s => .cons h (DVs.append r s)
theorem DVs.take : ∀ {ds : List D} {vs : List V} (n : Nat), DVs K F mu vs ds → DVs K F mu (vs.take n) (ds.take n)
  | _, _, 0, _ => .nil
  | [], _, _ + 1, .nil => .nil
  | _ :: _, _, n + 1, .cons h r => .cons h (DVs.take n r)
theorem DVs.drop : ∀ {ds : List D} {vs : List V} (n : Nat), DVs K F mu vs ds → DVs K F mu (vs.drop n) (ds.drop n)
  | _, _, 0, r => r
  | [], _, _ + 1, .nil => .nil
  | _ :: _, _, n + 1, .cons _ r => DVs.drop n r
theorem DVs.set {v : V} {d : D} (h : DV K F mu v d) : ∀ {ds : List D} {vs : List V} (i : Nat), DVs K F mu vs ds → DVs K F mu (vs.set i v) (ds.set i d)
  | [], _, _, .nil => .nil
  | _ :: _, _, 0, .cons _ r => .cons h r
  | _ :: _, _, i + 1, .cons q r => .cons q (DVs.set h i r)
theorem DVs.rep {ds : List D} {vs : List V} (h : DVs K F mu vs ds) : ∀ n : Nat, DVs K F mu (List.replicate n vs).flatten (List.replicate n ds).flatten
  | 0 => .nil
  | n + 1 => by
    rw [List.replicate_succ, List.replicate_succ, List.flatten_cons, List.flatten_cons]
    exact h.append (DVs.rep h n)
theorem DVs.one {v : V} {d : D} (h : DV K F mu v d) : DVs K F mu [v] [d] := .cons h .nil
end
theorem pureL_append : ∀ {xs ys : List D}, pureL (xs ++ ys) = (pureL xs && pureL ys)
  | [], _ => rfl
  | x :: xs, ys => by
    show (x.pure && pureL (xs ++ ys)) = ((x.pure && pureL xs) && pureL ys)
    rw [pureL_append, Bool.and_assoc]
theorem pureL_iff : ∀ {xs : List D}, pureL xs = true ↔ ∀ x ∈ xs, x.pure = true
  | [] => by simp [pureL]
  | x :: xs => by simp [pureL, pureL_iff (xs := xs)]

/-- the cells lie in the heap -/
structure Rp (K : PySem.W.Frag) (G F : Hp) (mu : List Addr) (st : Sto) (H : Hp) : Prop where
  sub : Same F H
  gs : Same G H
  gd : ∀ a ∈ mu, G a = none
  gf : ∀ b o, G b = some o → F b = none
  len : mu.length = st.length
  nd : mu.Nodup
  cell : ∀ (n : Nat) (a : Addr) (c : Cell), mu[n]? = some a → st[n]? = some c → ∃ vs, H a = some (.lst vs) ∧ DVs K F [] vs c.xs ∧ (c.md = .mut → F a = none) ∧ (c.md = .dead → F a = some (.lst vs))
def Rs (K : PySem.W.Frag) (F : Hp) (mu : List Addr) (sd : En) (σ : L2.St) : Prop := sd.length = σ.length ∧ ∀ (i : Nat) (d : D), sd[i]? = some (some d) → ∃ v, σ[i]? = some (some v) ∧ DV K F mu v d
theorem Rs.mono {K : PySem.W.Frag} {F F' : Hp} {mu mu' : List Addr} {sd : En} {σ : L2.St} (e : Ex F mu F' mu') (h : Rs K F mu sd σ) : Rs K F' mu' sd σ :=
  ⟨h.1, fun i d q => let ⟨v, a, b⟩ := h.2 i d q; ⟨v, a, b.mono e⟩⟩
theorem Rs.set {K : PySem.W.Frag} {F : Hp} {mu : List Addr} {sd : En} {σ : L2.St} (h : Rs K F mu sd σ) {v : V} {d : D} (r : DV K F mu v d) (i : Nat) : Rs K F mu (sd.set i (some d)) (σ.set i (some v)) := by
  refine ⟨by rw [List.length_set, List.length_set, h.1], fun j e q => ?_⟩
  by_cases hij : i = j
  · subst hij
    by_cases hi : i < sd.length
    · rw [List.getElem?_set_self hi] at q
      cases q
      exact ⟨v, by rw [List.getElem?_set_self (by rw [← h.1]; exact hi)], r⟩
    · rw [List.getElem?_eq_none (by simpa using hi)] at q
      cases q
  · rw [List.getElem?_set_ne hij] at q ⊢
    exact h.2 j e q
section
variable {K : PySem.W.Frag} {F : Hp} {mu : List Addr} {st : Sto} {H : Hp}
theorem Rp.there (h : Rp K G F mu st H) {n : Nat} {a : Addr} (e : mu[n]? = some a) : ∃ c, st[n]? = some c := by
  have hn : n < mu.length := by
    rcases Nat.lt_or_ge n mu.length with z | z
    · exact z
    · rw [List.getElem?_eq_none z] at e
      cases e
  exact ⟨st[n]'(h.len ▸ hn), List.getElem?_eq_getElem _⟩
theorem Rp.mem (h : Rp K G F mu st H) {a : Addr} (e : a ∈ mu) : ∃ vs, H a = some (.lst vs) := by
  obtain ⟨n, hn⟩ := List.mem_iff_getElem?.mp e
  obtain ⟨c, hc⟩ := h.there hn
  obtain ⟨vs, q, _⟩ := h.cell n a c hn hc
  exact ⟨vs, q⟩
theorem Same.up {F H : Hp} {p : Addr} {o : HO} (h : Same F H) (hp : H p = none) : Same F (upd H p o) := fun b u q => by
  rw [upd_ne (ne_of_none (h _ _ q) hp)]
  exact h _ _ q
theorem Rp.newF (h : Rp K G F mu st H) {p : Addr} {o : HO} (hp : H p = none) : Rp K G (upd F p o) mu st (upd H p o) ∧ Ex F mu (upd F p o) mu := by
  have hF : F p = none := Same.free h.sub hp
  have e : Same F (upd F p o) := fun b u q => by
    rw [upd_ne (ne_of_none q hF)]
    exact q
  have gf : ∀ b u, G b = some u → (upd F p o) b = none := fun b u q => by
    rw [upd_ne (ne_of_none (h.gs _ _ q) hp)]
    exact h.gf b u q
  refine ⟨⟨fun b u q => ?_, Same.up h.gs hp, h.gd, gf, h.len, h.nd, fun n a c h1 h2 => ?_⟩, e, [], by simp⟩
  · by_cases hb : b = p
    · subst hb
      rw [upd_same] at q ⊢
      exact q
    · rw [upd_ne hb] at q ⊢
      exact h.sub _ _ q
  · obtain ⟨vs, q, r, m1, m2⟩ := h.cell n a c h1 h2
    have ne : a ≠ p := ne_of_none q hp
    refine ⟨vs, by rw [upd_ne ne]; exact q, r.mono ⟨e, [], by simp⟩, fun z => by rw [upd_ne ne]; exact m1 z, fun z => by rw [upd_ne ne]; exact m2 z⟩
theorem Rp.newH (h : Rp K G F mu st H) {p : Addr} {o : HO} (hp : H p = none) : Rp K G F mu st (upd H p o) := by
  refine ⟨fun b u q => ?_, Same.up h.gs hp, h.gd, h.gf, h.len, h.nd, fun n a c h1 h2 => ?_⟩
  · rw [upd_ne (ne_of_none (h.sub _ _ q) hp)]
    exact h.sub _ _ q
  · obtain ⟨vs, q, r, m1, m2⟩ := h.cell n a c h1 h2
    exact ⟨vs, by rw [upd_ne (ne_of_none q hp)]; exact q, r, m1, m2⟩
theorem Rp.newC (h : Rp K G F mu st H) {p : Addr} {vs : List V} {xs : List D} (hp : H p = none) (r : DVs K F [] vs xs) : Rp K G F (mu ++ [p]) (st ++ [⟨.mut, xs⟩]) (upd H p (.lst vs)) ∧ Ex F mu F (mu ++ [p]) := by
  have gd : ∀ a ∈ mu ++ [p], G a = none := fun a ha => by
    rcases List.mem_append.mp ha with z | z
    · exact h.gd a z
    · rw [List.mem_singleton.mp z]
      exact Same.free h.gs hp
  refine ⟨⟨fun b u q => ?_, Same.up h.gs hp, gd, h.gf, by simp [h.len], ?_, fun n a c h1 h2 => ?_⟩, Same.refl _, [p], rfl⟩
  · rw [upd_ne (ne_of_none (h.sub _ _ q) hp)]
    exact h.sub _ _ q
  · rw [List.nodup_append]
    refine ⟨h.nd, by simp, fun a ha b hb => ?_⟩
    obtain ⟨vs, q⟩ := h.mem ha
    have : b = p := by simpa using hb
    subst this
    exact ne_of_none q hp
  · by_cases hn : n < mu.length
    · rw [List.getElem?_append_left hn] at h1
      rw [List.getElem?_append_left (by rw [← h.len]; exact hn)] at h2
      obtain ⟨ws, q, r, m1, m2⟩ := h.cell n a c h1 h2
      exact ⟨ws, by rw [upd_ne (ne_of_none q hp)]; exact q, r, m1, m2⟩
    · have hn' : mu.length ≤ n := Nat.not_lt.mp hn
      rw [List.getElem?_append_right hn'] at h1
      rw [List.getElem?_append_right (by rw [← h.len]; exact hn')] at h2
      have en : n - mu.length = 0 := by
        rcases Nat.eq_zero_or_pos (n - mu.length) with z | z
        · exact z
        · rw [List.getElem?_eq_none (show [p].length ≤ n - mu.length from z)] at h1
          cases h1
      rw [en] at h1
      rw [← h.len, en] at h2
      simp at h1 h2
      subst h1
      subst h2
      exact ⟨vs, upd_same, r, fun _ => Same.free h.sub hp, fun z => by cases z⟩
theorem nodup_get {α : Type} {l : List α} (nd : l.Nodup) {i j : Nat} {a : α} (h1 : l[i]? = some a) (h2 : l[j]? = some a) : i = j := by
  have hi : i < l.length := by
    rcases Nat.lt_or_ge i l.length with z | z
    · exact z
    · rw [List.getElem?_eq_none z] at h1
      cases h1
  exact (List.getElem?_inj hi nd).mp (h1.trans h2.symm)
theorem Rp.setC (h : Rp K G F mu st H) {n : Nat} {a : Addr} {c : Cell} {vs : List V} {xs : List D} (h1 : mu[n]? = some a) (h2 : st[n]? = some c) (hm : c.md = .mut) (r : DVs K F [] vs xs) : Rp K G F mu (st.set n ⟨.mut, xs⟩) (upd H a (.lst vs)) := by
  obtain ⟨ws, q, _, m1, _⟩ := h.cell n a c h1 h2
  have hF := m1 hm
  have hG : G a = none := h.gd a (List.mem_of_getElem? h1)
  have gs : Same G (upd H a (.lst vs)) := fun b u q => by
    rw [upd_ne (ne_of_none q hG)]
    exact h.gs _ _ q
  refine ⟨fun b u q => ?_, gs, h.gd, h.gf, by simp [h.len], h.nd, fun n' a' c' h1' h2' => ?_⟩
  · have : b ≠ a := ne_of_none q hF
    rw [upd_ne this]
    exact h.sub _ _ q
  · by_cases hn : n = n'
    · subst hn
      have hl : n < st.length := by
        rcases Nat.lt_or_ge n st.length with z | z
        · exact z
        · rw [List.getElem?_eq_none z] at h2
          cases h2
      rw [List.getElem?_set_self hl] at h2'
      cases h2'
      rw [h1] at h1'
      cases h1'
      exact ⟨vs, upd_same, r, fun _ => hF, fun z => by cases z⟩
    · rw [List.getElem?_set_ne hn] at h2'
      obtain ⟨ws', q', r', m1', m2'⟩ := h.cell n' a' c' h1' h2'
      have ne : a' ≠ a := fun z => hn (nodup_get h.nd h1 (z ▸ h1'))
      exact ⟨ws', by rw [upd_ne ne]; exact q', r', m1', m2'⟩
theorem Rp.frz (h : Rp K G F mu st H) {n : Nat} {a : Addr} {c : Cell} (h1 : mu[n]? = some a) (h2 : st[n]? = some c) :
    ∃ vs, H a = some (.lst vs) ∧ DVs K F [] vs c.xs ∧ Rp K G (upd F a (.lst vs)) mu (st.set n ⟨.dead, c.xs⟩) H ∧ Ex F mu (upd F a (.lst vs)) mu := by
  obtain ⟨vs, q, r, m1, m2⟩ := h.cell n a c h1 h2
  have e : Same F (upd F a (.lst vs)) := fun b u z => by
    by_cases hb : b = a
    · subst hb
      have := h.sub _ _ z
      rw [q] at this
      rw [upd_same]
      exact this
    · rw [upd_ne hb]
      exact z
  have hG : G a = none := h.gd a (List.mem_of_getElem? h1)
  have gf : ∀ b u, G b = some u → (upd F a (.lst vs)) b = none := fun b u q => by
    rw [upd_ne (ne_of_none q hG)]
    exact h.gf b u q
  refine ⟨vs, q, r, ⟨fun b u z => ?_, h.gs, h.gd, gf, by simp [h.len], h.nd, fun n' a' c' h1' h2' => ?_⟩, e, [], by simp⟩
  · by_cases hb : b = a
    · subst hb
      rw [upd_same] at z
      rw [q]
      exact z
    · rw [upd_ne hb] at z
      exact h.sub _ _ z
  · by_cases hn : n = n'
    · subst hn
      have hl : n < st.length := by
        rcases Nat.lt_or_ge n st.length with z | z
        · exact z
        · rw [List.getElem?_eq_none z] at h2
          cases h2
      rw [List.getElem?_set_self hl] at h2'
      cases h2'
      rw [h1] at h1'
      cases h1'
      exact ⟨vs, q, r.mono ⟨e, [], by simp⟩, (fun z => by cases z), fun _ => upd_same⟩
    · rw [List.getElem?_set_ne hn] at h2'
      obtain ⟨ws', q', r', m1', m2'⟩ := h.cell n' a' c' h1' h2'
      have ne : a' ≠ a := fun z => hn (nodup_get h.nd h1 (z ▸ h1'))
      exact ⟨ws', q', r'.mono ⟨e, [], by simp⟩, fun z => by rw [upd_ne ne]; exact m1' z, fun z => by rw [upd_ne ne]; exact m2' z⟩
theorem Rp.take (h : Rp K G F mu st H) (n : Nat) : Rp K G F (mu.take n) (st.take n) H := by
  refine ⟨h.sub, h.gs, fun a z => h.gd a (List.mem_of_mem_take z), h.gf, by simp [h.len], h.nd.sublist (List.take_sublist _ _), fun i a c h1 h2 => ?_⟩
  have hi : i < n := by
    rcases Nat.lt_or_ge i n with z | z
    · exact z
    · rw [List.getElem?_eq_none (by rw [List.length_take]; omega)] at h1
      cases h1
  rw [List.getElem?_take_of_lt hi] at h1 h2
  exact h.cell i a c h1 h2
/-- a thing that the pieces must leave as it is -/
theorem Rp.addG (h : Rp K G F mu st H) {p : Addr} {o : HO} (hp : H p = none) : Rp K (upd G p o) F mu st (upd H p o) := by
  have h2 := h.newH (o := o) hp
  refine ⟨h2.sub, fun b u q => ?_, fun a ha => ?_, fun b u q => ?_, h2.len, h2.nd, h2.cell⟩
  · by_cases hb : b = p
    · subst hb
      rw [upd_same] at q ⊢
      exact q
    · rw [upd_ne hb] at q
      exact h2.gs _ _ q
  · obtain ⟨vs, q⟩ := h.mem ha
    rw [upd_ne (ne_of_none q hp)]
    exact h.gd a ha
  · by_cases hb : b = p
    · subst hb
      exact Same.free h.sub hp
    · rw [upd_ne hb] at q
      exact h.gf b u q
theorem Rp.chG {p : Addr} {o o' : HO} (h : Rp K (upd G p o) F mu st H) : Rp K (upd G p o') F mu st (upd H p o') := by
  have hF : F p = none := h.gf p o upd_same
  have hm : p ∉ mu := fun z => by
    have := h.gd p z
    rw [upd_same] at this
    cases this
  refine ⟨fun b u q => ?_, fun b u q => ?_, fun a ha => ?_, fun b u q => ?_, h.len, h.nd, fun n a c h1 h2 => ?_⟩
  · rw [upd_ne (ne_of_none q hF)]
    exact h.sub _ _ q
  · by_cases hb : b = p
    · subst hb
      rw [upd_same] at q ⊢
      exact q
    · rw [upd_ne hb] at q ⊢
      exact h.gs _ _ (by rw [upd_ne hb]; exact q)
  · have ne : a ≠ p := fun z => hm (z ▸ ha)
    have := h.gd a ha
    rw [upd_ne ne] at this ⊢
    exact this
  · by_cases hb : b = p
    · subst hb
      exact hF
    · rw [upd_ne hb] at q
      exact h.gf b u (by rw [upd_ne hb]; exact q)
  · obtain ⟨vs, q, r, m⟩ := h.cell n a c h1 h2
    have ne : a ≠ p := fun z => hm (z ▸ List.mem_of_getElem? h1)
    exact ⟨vs, by rw [upd_ne ne]; exact q, r, m⟩
theorem Rp.toF {p : Addr} {o : HO} (h : Rp K (upd G p o) F mu st H) (hG : G p = none) : Rp K G (upd F p o) mu st H ∧ Ex F mu (upd F p o) mu := by
  have hF : F p = none := h.gf p o upd_same
  have hm : p ∉ mu := fun z => by
    have := h.gd p z
    rw [upd_same] at this
    cases this
  have e : Same F (upd F p o) := Same.up (Same.refl _) hF
  refine ⟨⟨fun b u q => ?_, fun b u q => ?_, fun a ha => ?_, fun b u q => ?_, h.len, h.nd, fun n a c h1 h2 => ?_⟩, e, [], by simp⟩
  · by_cases hb : b = p
    · subst hb
      rw [upd_same] at q
      cases q
      exact h.gs _ _ upd_same
    · rw [upd_ne hb] at q
      exact h.sub _ _ q
  · exact h.gs _ _ (by rw [upd_ne (ne_of_none q hG)]; exact q)
  · have ne : a ≠ p := fun z => hm (z ▸ ha)
    have := h.gd a ha
    rw [upd_ne ne] at this
    exact this
  · have ne : b ≠ p := ne_of_none q hG
    rw [upd_ne ne]
    exact h.gf b u (by rw [upd_ne ne]; exact q)
  · obtain ⟨vs, q, r, m1, m2⟩ := h.cell n a c h1 h2
    have ne : a ≠ p := fun z => hm (z ▸ List.mem_of_getElem? h1)
    exact ⟨vs, q, r.mono ⟨e, [], by simp⟩, fun z => by rw [upd_ne ne]; exact m1 z, fun z => by rw [upd_ne ne]; exact m2 z⟩
theorem Rp.toC {p : Addr} {vs : List V} {xs : List D} (h : Rp K (upd G p (.lst vs)) F mu st H) (hG : G p = none) (r : DVs K F [] vs xs) : Rp K G F (mu ++ [p]) (st ++ [⟨.mut, xs⟩]) H ∧ Ex F mu F (mu ++ [p]) := by
  have hF : F p = none := h.gf p _ upd_same
  have hm : p ∉ mu := fun z => by
    have := h.gd p z
    rw [upd_same] at this
    cases this
  have hH : H p = some (.lst vs) := h.gs _ _ upd_same
  refine ⟨⟨h.sub, fun b u q => ?_, fun a ha => ?_, fun b u q => ?_, by simp [h.len], ?_, fun n a c h1 h2 => ?_⟩, Same.refl _, [p], rfl⟩
  · exact h.gs _ _ (by rw [upd_ne (ne_of_none q hG)]; exact q)
  · rcases List.mem_append.mp ha with z | z
    · have ne : a ≠ p := fun y => hm (y ▸ z)
      have := h.gd a z
      rw [upd_ne ne] at this
      exact this
    · rw [List.mem_singleton.mp z]
      exact hG
  · exact h.gf b u (by rw [upd_ne (ne_of_none q hG)]; exact q)
  · rw [List.nodup_append]
    refine ⟨h.nd, by simp, fun a ha b hb => ?_⟩
    have : b = p := by simpa using hb
    subst this
    exact fun z => hm (z ▸ ha)
  · by_cases hn : n < mu.length
    · rw [List.getElem?_append_left hn] at h1
      rw [List.getElem?_append_left (by rw [← h.len]; exact hn)] at h2
      exact h.cell n a c h1 h2
    · have hn' : mu.length ≤ n := Nat.not_lt.mp hn
      rw [List.getElem?_append_right hn'] at h1
      rw [List.getElem?_append_right (by rw [← h.len]; exact hn')] at h2
      have en : n - mu.length = 0 := by
        rcases Nat.eq_zero_or_pos (n - mu.length) with z | z
        · exact z
        · rw [List.getElem?_eq_none (show [p].length ≤ n - mu.length from z)] at h1
          cases h1
      rw [en] at h1
      rw [← h.len, en] at h2
      simp at h1 h2
      subst h1
      subst h2
      exact ⟨vs, hH, r, fun _ => hF, fun z => by cases z⟩
end
/-- the end of an evaluation -/
def Po (K : PySem.W.Frag) (G F : Hp) (mu : List Addr) (st' : Sto) (d : D) (Q : VK) : Prop := ∀ F' mu' H' v, Ex F mu F' mu' → Rp K G F' mu' st' H' → DV K F' mu' v d → Q v H'
theorem Po.step {K : PySem.W.Frag} {F F1 : Hp} {mu mu1 : List Addr} {st' : Sto} {d : D} {Q : VK} (p : Po K G F mu st' d Q) (e : Ex F mu F1 mu1) : Po K G F1 mu1 st' d Q := fun F' mu' H' v x => p F' mu' H' v (e.trans x)
/-- where a sequence lies -/
theorem rdL_at {K : PySem.W.Frag} {F : Hp} {mu : List Addr} {st : Sto} {H : Hp} {v : V} {d : D} {xs : List D} (R : Rp K G F mu st H) (r : DV K F mu v d) (h : rdL st d = some xs) : ∃ a vs, v = .ref a ∧ H a = some (.lst vs) ∧ DVs K F mu vs xs := by
  cases r with
  | lst hr rs =>
    have e := Option.some.inj (show some _ = some xs from h)
    subst e
    exact ⟨_, _, rfl, R.sub _ _ hr, rs⟩
  | ref hm =>
    obtain ⟨c, hc⟩ := R.there hm
    have h : (st[_]?).map Cell.xs = some xs := h
    rw [hc] at h
    have e := Option.some.inj h
    subst e
    obtain ⟨vs, q, rs, _⟩ := R.cell _ _ _ hm hc
    exact ⟨_, vs, rfl, q, rs.mono ⟨Same.refl _, mu, by simp⟩⟩
  | _ => cases h
theorem rdQ_at {K : PySem.W.Frag} {F : Hp} {mu : List Addr} {st : Sto} {H : Hp} {v : V} {d : D} {xs : List D} (R : Rp K G F mu st H) (r : DV K F mu v d) (h : rdQ st d = some xs) : ∃ a vs, v = .ref a ∧ SqL K H a vs ∧ DVs K F mu vs xs := by
  cases r with
  | lst hr rs =>
    have e := Option.some.inj (show some _ = some xs from h)
    subst e
    exact ⟨_, _, rfl, .inl (.inl (R.sub _ _ hr)), rs⟩
  | scr hr rs =>
    have e := Option.some.inj (show some _ = some xs from h)
    subst e
    exact ⟨_, _, rfl, R.sub.seq hr, rs⟩
  | ref hm =>
    obtain ⟨a, vs, e, q, rs⟩ := rdL_at R (.ref hm) h
    exact ⟨a, vs, e, .inl (.inl q), rs⟩
  | _ => cases h
theorem rdS_at {K : PySem.W.Frag} {F : Hp} {mu : List Addr} {st : Sto} {H : Hp} {v : V} {d : D} {xs : List D} (R : Rp K G F mu st H) (r : DV K F mu v d) (h : rdS st d = some xs) : ∃ a vs, v = .ref a ∧ (SqL K H a vs ∨ SqT K H a vs) ∧ DVs K F mu vs xs := by
  cases r with
  | tup hr rs =>
    have e := Option.some.inj (show some _ = some xs from h)
    subst e
    exact ⟨_, _, rfl, .inr (Same.tupT R.sub hr), rs⟩
  | lst hr rs =>
    obtain ⟨a, vs, e, q, z⟩ := rdQ_at R (.lst hr rs) h
    exact ⟨a, vs, e, .inl q, z⟩
  | scr hr rs =>
    obtain ⟨a, vs, e, q, z⟩ := rdQ_at R (.scr hr rs) h
    exact ⟨a, vs, e, .inl q, z⟩
  | ref hm =>
    obtain ⟨a, vs, e, q, z⟩ := rdQ_at R (.ref hm) h
    exact ⟨a, vs, e, .inl q, z⟩
  | _ => cases h
/-- a new list -/
theorem mkL_at {K : PySem.W.Frag} {F : Hp} {mu : List Addr} {st st' : Sto} {H : Hp} {m : Bool} {xs : List D} {vs : List V} {d : D} {Q : VK} {p : Addr} (R : Rp K G F mu st H) (r : DVs K F mu vs xs) (h : mkL m xs st = some (d, st')) (P : Po K G F mu st' d Q) (hp : H p = none) :
    Q (.ref p) (upd H p (.lst vs)) := by
  unfold mkL at h
  cases m with
  | false =>
    simp only [Bool.false_eq_true, if_false, Option.some.injEq, Prod.mk.injEq] at h
    obtain ⟨rfl, rfl⟩ := h
    obtain ⟨R', e⟩ := R.newF (o := .lst vs) hp
    exact P _ _ _ _ e R' (.lst upd_same (r.mono e))
  | true =>
    simp only [if_true] at h
    split at h
    · rename_i hpure
      simp only [Option.some.injEq, Prod.mk.injEq] at h
      obtain ⟨rfl, rfl⟩ := h
      obtain ⟨R', e⟩ := R.newC (xs := xs) hp (r.ofPure hpure)
      refine P _ _ _ _ e R' (.ref ?_)
      rw [← R.len, List.getElem?_append_right (Nat.le_refl _), Nat.sub_self]
      rfl
    · cases h
end Jd

namespace Jd
open PySem PySem.Spec PyProof.Rows L2

def TEd (K : PySem.W.Frag) (f : En → Sto → Option (D × Sto)) : TE := fun σ H Q => ∃ G F mu sd st d st', Rp K G F mu st H ∧ Rs K F mu sd σ ∧ f sd st = some (d, st') ∧ Po K G F mu st' d Q
def T2 (K : PySem.W.Frag) (g : D → D → Sto → Option (D × Sto)) : R2 := fun v1 v2 H Q => ∃ G F mu st x y d st', Rp K G F mu st H ∧ DV K F mu v1 x ∧ DV K F mu v2 y ∧ g x y st = some (d, st') ∧ Po K G F mu st' d Q
def T1 (K : PySem.W.Frag) (g : D → Sto → Option (D × Sto)) : V → Hp → VK → Prop := fun v H Q => ∃ G F mu st x d st', Rp K G F mu st H ∧ DV K F mu v x ∧ g x st = some (d, st') ∧ Po K G F mu st' d Q
def TN (K : PySem.W.Frag) (g : List D → Sto → Option (D × Sto)) : List V → Hp → VK → Prop := fun vs H Q => ∃ G F mu st xs d st', Rp K G F mu st H ∧ DVs K F mu vs xs ∧ g xs st = some (d, st') ∧ Po K G F mu st' d Q
def TTd (K : PySem.W.Frag) (f : En → Sto → Option (Bool × Sto)) : TT := fun σ H Q => ∃ G F mu sd st b st', Rp K G F mu st H ∧ Rs K F mu sd σ ∧ f sd st = some (b, st') ∧ ∀ F' mu' H', Ex F mu F' mu' → Rp K G F' mu' st' H' → Q b H'
def TAd (K : PySem.W.Frag) (f : En → Sto → Option (List D × Sto)) : TA := fun σ H Q => ∃ G F mu sd st ds st', Rp K G F mu st H ∧ Rs K F mu sd σ ∧ f sd st = some (ds, st') ∧ ∀ F' mu' H' vs, Ex F mu F' mu' → Rp K G F' mu' st' H' → DVs K F' mu' vs ds → Q vs H'
/-- a value in the heap that stands, or a new one -/
theorem Po.here {K : PySem.W.Frag} {F : Hp} {mu : List Addr} {st' : Sto} {d : D} {Q : VK} {H : Hp} {v : V} (p : Po K G F mu st' d Q) (R : Rp K G F mu st' H) (r : DV K F mu v d) : Q v H := p _ _ _ _ Ex.refl R r

theorem ofPE {X : Cx} {e : Expr} {t t' : TE} (h : PE X e t) (w : ∀ σ H Q, t' σ H Q → t σ H Q) : PE X e t' := ⟨fun pins s σ H Q I q => h.run pins s σ H Q I (w σ H Q q)⟩
theorem ofPT {X : Cx} {e : Expr} {t t' : TT} (h : PT X e t) (w : ∀ σ H Q, t' σ H Q → t σ H Q) : PT X e t' := ⟨fun pins s σ H Q I q => h.run pins s σ H Q I (w σ H Q q)⟩
theorem ofPW {X : Cx} {e : Expr} {t t' : TT} (h : PW X e t) (w : ∀ σ H Q, t' σ H Q → t σ H Q) : PW X e t' := ⟨fun wh pins s σ H Q I q => h.run wh pins s σ H Q I (w σ H Q q)⟩
theorem ofPA {X : Cx} {es : List Expr} {t t' : TA} (h : PA X es t) (w : ∀ σ H Q, t' σ H Q → t σ H Q) : PA X es t' := ⟨fun pos pins s σ H Q I q => h.run pos pins s σ H Q I (w σ H Q q)⟩
theorem ofPS {X : Cx} {e : Stmt} {t t' : TS} (h : PS X e t) (w : ∀ D σ H, t' D σ H → t D σ H) : PS X e t' := ⟨fun pins s σ H D I q => h.run pins s σ H D I (w D σ H q)⟩
theorem ofPSs {X : Cx} {e : List Stmt} {t t' : TS} (h : PSs X e t) (w : ∀ D σ H, t' D σ H → t D σ H) : PSs X e t' := ⟨fun pins s σ H D I q => h.run pins s σ H D I (w D σ H q)⟩
theorem ofPG {X : Cx} {e : Expr} {t t' : TG} (h : PG X e t) (w : ∀ v σ H Q, t' v σ H Q → t v σ H Q) : PG X e t' := ⟨fun pins s σ H v u Q I r q => h.run pins s σ H v u Q I r (w v σ H Q q)⟩
theorem ofPGs {X : Cx} {e : List Expr} {t t' : TGs} (h : PGs X e t) (w : ∀ v σ H Q, t' v σ H Q → t v σ H Q) : PGs X e t' := ⟨fun pins s σ H v u Q I r q => h.run pins s σ H v u Q I r (w v σ H Q q)⟩

section
variable {X : Cx} {a b c : Expr} {fa fb fc : En → Sto → Option (D × Sto)} {pos : Pos}
/-- two values, one after another -/
theorem two_of {K : PySem.W.Frag} {g : D → D → Sto → Option (D × Sto)} {σ : L2.St} {H : Hp} {Q : VK} (h : TEd K (fun sd st => (fa sd st).bind fun p => (fb sd p.2).bind fun q => g p.1 q.1 q.2) σ H Q) : tOp (T2 K g) (TEd K fa) (TEd K fb) σ H Q := by
  obtain ⟨G, F, mu, sd, st, d, st', R, S, e, P⟩ := h
  simp only [Option.bind_eq_some_iff] at e
  obtain ⟨⟨x, st1⟩, e1, ⟨y, st2⟩, e2, e3⟩ := e
  refine ⟨G, F, mu, sd, st, x, st1, R, S, e1, fun F1 mu1 H1 v1 x1 R1 r1 => ?_⟩
  refine ⟨G, F1, mu1, sd, st1, y, st2, R1, S.mono x1, e2, fun F2 mu2 H2 v2 x2 R2 r2 => ?_⟩
  exact ⟨G, F2, mu2, st2, x, y, d, st', R2, r1.mono x2, r2, e3, P.step (x1.trans x2)⟩
theorem sd_bin {op : Operator} {g : D → D → Sto → Option (D × Sto)} (ho : OpR X (binaryOp op) (T2 X.K g)) (ha : PE X a (TEd X.K fa)) (hb : PE X b (TEd X.K fb)) : PE X (.BinOp a op b pos) (TEd X.K fun sd st => (fa sd st).bind fun p => (fb sd p.2).bind fun q => g p.1 q.1 q.2) :=
  ofPE (pe_op ho ha hb) fun _ _ _ h => two_of h
theorem sd_un {op : UnaryOp} {g : D → Sto → Option (D × Sto)} (ho : UnR X (unaryOp op) (T1 X.K g)) (ha : PE X a (TEd X.K fa)) : PE X (.UnaryOp op a pos) (TEd X.K fun sd st => (fa sd st).bind fun p => g p.1 p.2) := by
  refine ofPE (pe_un ho ha) fun σ H Q h => ?_
  obtain ⟨G, F, mu, sd, st, d, st', R, S, e, P⟩ := h
  simp only [Option.bind_eq_some_iff] at e
  obtain ⟨⟨x, st1⟩, e1, e3⟩ := e
  exact ⟨G, F, mu, sd, st, x, st1, R, S, e1, fun F1 mu1 H1 v1 x1 R1 r1 => ⟨G, F1, mu1, st1, x, d, st', R1, r1, e3, P.step x1⟩⟩
/-! #### the operators -/
theorem DV.intI {K : PySem.W.Frag} {F : Hp} {mu : List Addr} {v : V} {i : Int} (r : DV K F mu v (.int i)) : v = .int i := by cases r; rfl
theorem DV.strI {K : PySem.W.Frag} {F : Hp} {mu : List Addr} {v : V} {i : Str} (r : DV K F mu v (.str i)) : v = .str i := by cases r; rfl
theorem DV.blI {K : PySem.W.Frag} {F : Hp} {mu : List Addr} {v : V} {i : Bool} (r : DV K F mu v (.bl i)) : v = .bl i := by cases r; rfl
theorem DV.nonI {K : PySem.W.Frag} {F : Hp} {mu : List Addr} {v : V} (r : DV K F mu v .non) : v = .non := by cases r; rfl
theorem od_neg : UnR X (unaryOp .USub) (T1 X.K (gUn .neg)) := by
  intro pins s σ H x v Q I rx h
  obtain ⟨G, F, mu, st, x, d, st', R, r, e, P⟩ := h
  cases x with
  | int i =>
    cases r.intI
    simp only [gUn, Option.some.injEq, Prod.mk.injEq] at e
    obtain ⟨rfl, rfl⟩ := e
    exact un_neg pins s σ H _ v Q I rx ⟨i, rfl, P.here R (.int _)⟩
  | _ => cases e
theorem lsts_at {K : PySem.W.Frag} {F : Hp} {mu : List Addr} {st : Sto} {H : Hp} {v w : V} {x y : D} {xs ys : List D} (R : Rp K G F mu st H) (r1 : DV K F mu v x) (r2 : DV K F mu w y) (h1 : rdL st x = some xs) (h2 : rdL st y = some ys) :
    ∃ a b vs ws, v = .ref a ∧ w = .ref b ∧ H a = some (.lst vs) ∧ H b = some (.lst ws) ∧ DVs K F mu vs xs ∧ DVs K F mu ws ys := by
  obtain ⟨a, vs, e1, q1, s1⟩ := rdL_at R r1 h1
  obtain ⟨b, ws, e2, q2, s2⟩ := rdL_at R r2 h2
  exact ⟨a, b, vs, ws, e1, e2, q1, q2, s1, s2⟩
theorem od_cat {m : Bool} {pins : List (Addr × Obj)} {s : Shared} {σ : L2.St} {H : Hp} {v1 v2 : V} {v u : Value} {Q : VK} {F : Hp} {mu : List Addr} {st : Sto} {x y d : D} {st' : Sto} {xs ys : List D} (I : Inv X pins σ H s) (rx : RelV v1 v) (ry : RelV v2 u)
    (R : Rp X.K G F mu st H) (r1 : DV X.K F mu v1 x) (r2 : DV X.K F mu v2 y) (h1 : rdL st x = some xs) (h2 : rdL st y = some ys) (hl : lenOk (xs.length + ys.length) = true) (hm : mkL m (xs ++ ys) st = some (d, st')) (P : Po X.K G F mu st' d Q) :
    wpAny (model X.prog X.w) X.A (binaryOp .Add v u) (EP X pins σ Q) X.xe s := by
  obtain ⟨a, b, vs, ws, rfl, rfl, q1, q2, s1, s2⟩ := lsts_at R r1 r2 h1 h2
  refine op_cat pins s σ H _ _ v u Q I rx ry ⟨a, b, vs, ws, rfl, rfl, q1, q2, ?_, fun p hp => mkL_at R (s1.append s2) hm P hp⟩
  rw [s1.length, s2.length]
  exact of_decide_eq_true hl
theorem od_add {m : Bool} : OpR X (binaryOp .Add) (T2 X.K (gBin .add m)) := by
  intro pins s σ H v1 v2 v u Q I rx ry h
  obtain ⟨G, F, mu, st, x, y, d, st', R, r1, r2, e, P⟩ := h
  have e : gAdd m x y st = some (d, st') := e
  unfold gAdd at e
  split at e
  · cases r1.intI; cases r2.intI
    simp only [Option.some.injEq, Prod.mk.injEq] at e
    obtain ⟨rfl, rfl⟩ := e
    exact op_add pins s σ H _ _ v u Q I rx ry ⟨_, _, rfl, rfl, P.here R (.int _)⟩
  · cases r1.strI; cases r2.strI
    split at e
    · rename_i hz
      simp only [Option.some.injEq, Prod.mk.injEq] at e
      obtain ⟨rfl, rfl⟩ := e
      exact op_add_str pins s σ H _ _ v u Q I rx ry ⟨_, _, rfl, rfl, of_decide_eq_true hz, P.here R (.str _)⟩
    · cases e
  · rename_i xs ys _
    split at e
    · rename_i hz
      simp only [Option.some.injEq, Prod.mk.injEq] at e
      obtain ⟨rfl, rfl⟩ := e
      cases r1 with
      | tup q1 s1 =>
        cases r2 with
        | tup q2 s2 =>
          rename_i a1 vs a2 ws
          have hz' : vs.length + ws.length ≤ sizeLine := by
            rw [s1.length, s2.length]
            exact of_decide_eq_true hz
          have nil1 : vs = [] → xs = [] := fun z => List.eq_nil_of_length_eq_zero (by rw [← s1.length, z]; rfl)
          have nil2 : ws = [] → ys = [] := fun z => List.eq_nil_of_length_eq_zero (by rw [← s2.length, z]; rfl)
          refine op_catA pins s σ H _ _ v u Q I rx ry ⟨_, _, vs, ws, rfl, rfl, Same.tupT R.sub q1, Same.tupT R.sub q2, hz', fun ev => ?_, fun _ ew => ?_, fun _ _ p hp => ?_⟩
          · refine P.here R ?_
            rw [nil1 ev, List.nil_append]
            exact .tup q2 s2
          · refine P.here R ?_
            rw [nil2 ew, List.append_nil]
            exact .tup q1 s1
          · obtain ⟨R', ex⟩ := R.newF (o := .tup (vs ++ ws)) hp
            exact P _ _ _ _ ex R' (.tup (.inl (.inl upd_same)) ((s1.append s2).mono ex))
    · cases e
  · split at e
    · rename_i h1 h2
      split at e
      · rename_i hz
        exact od_cat I rx ry R r1 r2 h1 h2 hz e P
      · cases e
    · cases e
/-- an operator on two numbers -/
theorem od_int {f : Value → Value → Sem Value} {ok : Int → Int → Bool} {g : Int → Int → Int} {Cd : Int → Int → Prop} (ho : OpR X f (rI Cd fun i j => .int (g i j))) (hc : ∀ i j, ok i j = true → Cd i j) : OpR X f (T2 X.K (gInt ok g)) := by
  intro pins s σ H v1 v2 v u Q I rx ry h
  obtain ⟨G, F, mu, st, x, y, d, st', R, r1, r2, e, P⟩ := h
  unfold gInt at e
  split at e
  · cases r1.intI; cases r2.intI
    split at e
    · rename_i hk
      simp only [Option.some.injEq, Prod.mk.injEq] at e
      obtain ⟨rfl, rfl⟩ := e
      exact ho pins s σ H _ _ v u Q I rx ry ⟨_, _, rfl, rfl, hc _ _ hk, P.here R (.int _)⟩
    · cases e
  · cases e
theorem od_int0 {f : Value → Value → Sem Value} {g : Int → Int → Int} (ho : OpR X f (rI0 fun i j => .int (g i j))) : OpR X f (T2 X.K (gInt (fun _ _ => true) g)) :=
  od_int (Cd := fun _ _ => True) (fun pins s σ H x y v u Q I rx ry ⟨i, j, e1, e2, _, q⟩ => ho pins s σ H x y v u Q I rx ry ⟨i, j, e1, e2, q⟩) fun _ _ _ => trivial
theorem op_fdivD : OpR X (binaryOp .FloorDiv) (rI (fun _ j => j ≠ 0 ∧ j.natAbs.log2 < 9000) fun i j => .int (i.fdiv j)) := opI fun i j _ _ _ _ _ hc q => floordiv_int hc.1 q (.inl (PyProof.noPylong_of_log2 hc.2))
theorem od_fdiv {m : Bool} : OpR X (binaryOp .FloorDiv) (T2 X.K (gBin .fdiv m)) := od_int op_fdivD fun _ _ h => of_decide_eq_true h
theorem od_mod {m : Bool} : OpR X (binaryOp .Mod) (T2 X.K (gBin .mod m)) := od_int op_modN fun _ _ h => of_decide_eq_true h
theorem od_sub {m : Bool} : OpR X (binaryOp .Sub) (T2 X.K (gBin .sub m)) := od_int0 op_sub
theorem od_pow {m : Bool} : OpR X (binaryOp .Pow) (T2 X.K (gBin .pow m)) := od_int op_pow fun _ _ h => (of_decide_eq_true h : _ ∧ _ ∧ _)
theorem od_shl {m : Bool} : OpR X (binaryOp .LShift) (T2 X.K (gBin .shl m)) := od_int op_shl fun _ _ h => (of_decide_eq_true h : _ ∧ _ ∧ _)
theorem od_shr {m : Bool} : OpR X (binaryOp .RShift) (T2 X.K (gBin .shr m)) := od_int op_shr fun _ _ h => of_decide_eq_true h
theorem od_band {m : Bool} : OpR X (binaryOp .BitAnd) (T2 X.K (gBin .band m)) := od_int0 op_and
theorem od_bor {m : Bool} : OpR X (binaryOp .BitOr) (T2 X.K (gBin .bor m)) := od_int0 op_or
theorem bits_log (x : Int) : Builtin.Int.intBits x ≤ x.natAbs.log2 + 1 := by
  unfold Builtin.Int.intBits
  split
  · exact Nat.zero_le _
  · exact Nat.le_refl _
theorem mulOk_X {i j : Int} (h : mulOk i j = true) : CMulX i j := by
  have h' := of_decide_eq_true h
  have hi := bits_log i
  have hj := bits_log j
  unfold CMulX
  omega
theorem od_mul {m : Bool} : OpR X (binaryOp .Mult) (T2 X.K (gBin .mul m)) := by
  intro pins s σ H v1 v2 v u Q I rx ry h
  obtain ⟨G, F, mu, st, x, y, d, st', R, r1, r2, e, P⟩ := h
  have e : gMul m x y st = some (d, st') := e
  unfold gMul at e
  split at e
  · cases r1.intI; cases r2.intI
    split at e
    · rename_i hk
      simp only [Option.some.injEq, Prod.mk.injEq] at e
      obtain ⟨rfl, rfl⟩ := e
      exact op_mulX pins s σ H _ _ v u Q I rx ry ⟨_, _, rfl, rfl, mulOk_X hk, P.here R (.int _)⟩
    · cases e
  · cases r2.intI
    split at e
    · rename_i h1
      split at e
      · rename_i hz
        obtain ⟨a, vs, rfl, q1, s1⟩ := rdL_at R r1 h1
        obtain ⟨h3, h4, h5⟩ := of_decide_eq_true hz
        exact op_rep pins s σ H _ _ v u Q I rx ry ⟨a, _, vs, rfl, rfl, q1, h3, h4, by rw [s1.length]; exact h5, fun p hp => mkL_at R (s1.rep _) e P hp⟩
      · cases e
    · cases e
  · cases e

/-! #### comparisons -/
mutual
theorem toP_lay : ∀ (n : Nat) (d : D), dOk n d = true → (toP d).canLay0 = true ∧ (toP d).depth ≤ n
  | _, .non, _ => ⟨by simp [toP, PyData.canLay0], by simp [toP, PyData.depth]⟩
  | _, .bl _, _ => ⟨by simp [toP, PyData.canLay0], by simp [toP, PyData.depth]⟩
  | _, .int _, _ => ⟨by simp [toP, PyData.canLay0], by simp [toP, PyData.depth]⟩
  | _, .str x, h => ⟨by
      have h : PyData.strOk x = true := by
        unfold dOk at h
        exact h
      simpa [toP, PyData.canLay0] using h, by simp [toP, PyData.depth]⟩
  | n, .ref _, h => by cases n <;> cases h
  | n, .scr _, h => by cases n <;> cases h
  | 0, .tup _, h => by cases h
  | 0, .lst _, h => by cases h
  | n + 1, .tup ds, h => by
    have h : ds.all (dOk n) = true := h
    obtain ⟨a, b⟩ := toPs_lay n ds h
    simp only [toP, PyData.canLay0, PyData.depth]
    exact ⟨a, by omega⟩
  | n + 1, .lst ds, h => by
    have h : ds.all (dOk n) = true := h
    obtain ⟨a, b⟩ := toPs_lay n ds h
    simp only [toP, PyData.canLay0, PyData.depth]
    exact ⟨a, by omega⟩
theorem toPs_lay : ∀ (n : Nat) (ds : List D), ds.all (dOk n) = true → PyData.canLayAll0 (toPs ds) = true ∧ PyData.depthAll (toPs ds) ≤ n
  | _, [], _ => ⟨by simp [toPs, PyData.canLayAll0], by simp [toPs, PyData.depthAll]⟩
  | n, d :: ds, h => by
    rw [List.all_cons, Bool.and_eq_true] at h
    obtain ⟨a, b⟩ := toP_lay n d h.1
    obtain ⟨a', b'⟩ := toPs_lay n ds h.2
    simp only [toPs, PyData.canLayAll0, PyData.depthAll]
    exact ⟨by rw [a, a']; rfl, by omega⟩
end
mutual
theorem toP_at {K : PySem.W.Frag} {F H : Hp} {mu : List Addr} (S : Same F H) : ∀ (n : Nat) (d : D) (v : V), dOk n d = true → DV K F mu v d → Dp K H v (toP d)
  | _, _, _, _, .non => by
    unfold toP
    exact .non
  | _, _, _, _, .bl b => by
    unfold toP
    exact .bl b
  | _, _, _, _, .int i => by
    unfold toP
    exact .int i
  | _, _, _, _, .str x => by
    unfold toP
    exact .str x
  | 0, _, _, h, .tup _ _ => by cases h
  | 0, _, _, h, .lst _ _ => by cases h
  | n + 1, .tup ds, _, h, .tup q r => by
    unfold toP
    exact .tup (Same.tupT S q) (toPs_at S n ds _ h r)
  | n + 1, .lst ds, _, h, .lst q r => by
    unfold toP
    exact .lst (.inl (.inl (S _ _ q))) (toPs_at S n ds _ h r)
  | n, _, _, h, .scr _ _ => by cases n <;> cases h
  | n, _, _, h, .ref _ => by cases n <;> cases h
theorem toPs_at {K : PySem.W.Frag} {F H : Hp} {mu : List Addr} (S : Same F H) : ∀ (n : Nat) (ds : List D) (vs : List V), ds.all (dOk n) = true → DVs K F mu vs ds → DpAll K H vs (toPs ds)
  | _, _, _, _, .nil => by
    unfold toPs
    exact .nil
  | n, d :: ds, _, h, .cons q r => by
    rw [List.all_cons, Bool.and_eq_true] at h
    unfold toPs
    exact .cons (toP_at S n d _ h.1 q) (toPs_at S n ds _ h.2 r)
end
mutual
theorem eqD_toP : ∀ (n m : Nat) (x y : D), dOk n x = true → dOk m y = true → PyData.eqv (toP x) (toP y) = eqD x y
  | n, m, x, y, h, h' => by
    cases x with
    | ref _ => cases n <;> cases h
    | scr _ => cases n <;> cases h
    | tup xs =>
      cases y with
      | ref _ => cases m <;> cases h'
      | scr _ => cases m <;> cases h'
      | tup ys =>
        cases n with
        | zero => cases h
        | succ n =>
          cases m with
          | zero => cases h'
          | succ m =>
            have := eqL_toP n m xs ys h h'
            simpa [toP, eqD, PyData.eqv] using this
      | _ => simp [toP, eqD, PyData.eqv]
    | lst xs =>
      cases y with
      | ref _ => cases m <;> cases h'
      | scr _ => cases m <;> cases h'
      | lst ys =>
        cases n with
        | zero => cases h
        | succ n =>
          cases m with
          | zero => cases h'
          | succ m =>
            have := eqL_toP n m xs ys h h'
            simpa [toP, eqD, PyData.eqv] using this
      | _ => simp [toP, eqD, PyData.eqv]
    | _ =>
      cases y with
      | ref _ => cases m <;> cases h'
      | scr _ => cases m <;> cases h'
      | _ => simp [toP, eqD, PyData.eqv]
theorem eqL_toP : ∀ (n m : Nat) (xs ys : List D), xs.all (dOk n) = true → ys.all (dOk m) = true → PyData.eqvAll (toPs xs) (toPs ys) = eqL xs ys
  | _, _, [], [], _, _ => by simp [toPs, eqL, PyData.eqvAll]
  | _, _, [], _ :: _, _, _ => by simp [toPs, eqL, PyData.eqvAll]
  | _, _, _ :: _, [], _, _ => by simp [toPs, eqL, PyData.eqvAll]
  | n, m, x :: xs, y :: ys, h, h' => by
    rw [List.all_cons, Bool.and_eq_true] at h h'
    simp only [toPs, eqL, PyData.eqvAll]
    rw [eqD_toP n m x y h.1 h'.1, eqL_toP n m xs ys h.2 h'.2]
end
theorem drf_at {K : PySem.W.Frag} {F H : Hp} {mu : List Addr} {st : Sto} {v : V} {d : D} (R : Rp K G F mu st H) (r : DV K F mu v d) (h : dOk 60 (drf st d) = true) : Dp K H v (toP (drf st d)) := by
  cases r with
  | ref hm =>
    rename_i n a
    obtain ⟨c, hc⟩ := R.there hm
    obtain ⟨vs, q, rs, _⟩ := R.cell _ _ _ hm hc
    have e : drf st (.ref n) = .lst c.xs := by
      simp only [drf, hc]
    rw [e] at h ⊢
    unfold toP
    exact .lst (.inl (.inl q)) (toPs_at R.sub 59 c.xs vs h rs)
  | non => exact toP_at (mu := mu) R.sub 60 _ _ h .non
  | bl b => exact toP_at (mu := mu) R.sub 60 _ _ h (.bl b)
  | int b => exact toP_at (mu := mu) R.sub 60 _ _ h (.int b)
  | str b => exact toP_at (mu := mu) R.sub 60 _ _ h (.str b)
  | tup q s => exact toP_at R.sub 60 _ _ h (.tup q s)
  | lst q s => exact toP_at R.sub 60 _ _ h (.lst q s)
  | scr q s => cases h
theorem shaped_of {d : D} (h : dOk 60 d = true) : SeqAt.shaped (toP d) = true := by
  obtain ⟨a, b⟩ := toP_lay 60 d h
  unfold SeqAt.shaped
  rw [a, decide_eq_true (show (toP d).depth ≤ 64 by omega)]
  rfl
theorem eqQ_at {K : PySem.W.Frag} {F H : Hp} {mu : List Addr} {st : Sto} {v w : V} {x y : D} {b : Bool} (R : Rp K G F mu st H) (r1 : DV K F mu v x) (r2 : DV K F mu w y) (h : eqQ st x y = some b) :
    (∃ a c, v = .str a ∧ w = .str c ∧ b = decide (V.str a = V.str c)) ∨ ∃ d e, Dp K H v d ∧ Dp K H w e ∧ SeqAt.shaped d = true ∧ SeqAt.shaped e = true ∧ PyData.eqv d e = b := by
  unfold eqQ at h
  split at h
  · exact .inl ⟨_, _, r1.strI, r2.strI, by rw [dec_str]; exact (Option.some.inj h).symm⟩
  split at h
  · right
    rename_i hk
    rw [Bool.and_eq_true] at hk
    have e := Option.some.inj h
    exact ⟨_, _, drf_at R r1 hk.1, drf_at R r2 hk.2, shaped_of hk.1, shaped_of hk.2, (eqD_toP 60 60 _ _ hk.1 hk.2).trans e⟩
  · cases h
def T2b (K : PySem.W.Frag) (g : D → D → Sto → Option (Bool × Sto)) : R2 := T2 K fun x y st => (g x y st).map fun r => (.bl r.1, r.2)
theorem T2b.cases {K : PySem.W.Frag} {g : D → D → Sto → Option (Bool × Sto)} {v w : V} {H : Hp} {Q : VK} (h : T2b K g v w H Q) : ∃ G F mu st x y b st', Rp K G F mu st H ∧ DV K F mu v x ∧ DV K F mu w y ∧ g x y st = some (b, st') ∧ Po K G F mu st' (.bl b) Q := by
  obtain ⟨G, F, mu, st, x, y, d, st', R, r1, r2, e, P⟩ := h
  rw [Option.map_eq_some_iff] at e
  obtain ⟨⟨b, st1⟩, e1, e2⟩ := e
  cases e2
  exact ⟨G, F, mu, st, x, y, b, _, R, r1, r2, e1, P⟩
theorem od_eq (hu : X.A.units + 64 < cLine) : OpR X (compareOp .Eq) (T2b X.K (gCmp .eq)) := by
  intro pins s σ H v1 v2 v u Q I rx ry h
  obtain ⟨G, F, mu, st, x, y, b, st', R, r1, r2, e, P⟩ := h.cases
  have e : (eqQ st x y).map (·, st) = some (b, st') := e
  rw [Option.map_eq_some_iff] at e
  obtain ⟨c, e1, e2⟩ := e
  cases e2
  rcases eqQ_at R r1 r2 e1 with ⟨a, c, rfl, rfl, rfl⟩ | ⟨d1, d2, h1, h2, h3, h4, h5⟩
  · exact op_eq pins s σ H _ _ v u Q I rx ry ⟨rfl, P.here R (.bl _)⟩
  exact op_eqD hu pins s σ H _ _ v u Q I rx ry ⟨d1, d2, h1, h2, h3, h4, by rw [h5]; exact P.here R (.bl _)⟩
theorem od_ne (hu : X.A.units + 64 < cLine) : OpR X (compareOp .NotEq) (T2b X.K (gCmp .ne)) := by
  intro pins s σ H v1 v2 v u Q I rx ry h
  obtain ⟨G, F, mu, st, x, y, b, st', R, r1, r2, e, P⟩ := h.cases
  have e : (eqQ st x y).map (fun b => (!b, st)) = some (b, st') := e
  rw [Option.map_eq_some_iff] at e
  obtain ⟨c, e1, e2⟩ := e
  cases e2
  rcases eqQ_at R r1 r2 e1 with ⟨a, c, rfl, rfl, rfl⟩ | ⟨d1, d2, h1, h2, h3, h4, h5⟩
  · exact op_ne pins s σ H _ _ v u Q I rx ry ⟨rfl, P.here R (.bl _)⟩
  exact op_neD hu pins s σ H _ _ v u Q I rx ry ⟨d1, d2, h1, h2, h3, h4, by rw [h5]; exact P.here R (.bl _)⟩
theorem od_ord {f : Value → Value → Sem Value} {p : Int → Int → Bool} {g : D → D → Sto → Option (Bool × Sto)} (ho : OpR X f (rI0 fun i j => .bl (p i j))) (hg : ∀ x y st b st', g x y st = some (b, st') → ∃ i j, x = .int i ∧ y = .int j ∧ b = p i j ∧ st' = st) : OpR X f (T2b X.K g) := by
  intro pins s σ H v1 v2 v u Q I rx ry h
  obtain ⟨G, F, mu, st, x, y, b, st', R, r1, r2, e, P⟩ := h.cases
  obtain ⟨i, j, rfl, rfl, rfl, rfl⟩ := hg _ _ _ _ _ e
  cases r1.intI; cases r2.intI
  exact ho pins s σ H _ _ v u Q I rx ry ⟨_, _, rfl, rfl, P.here R (.bl _)⟩
theorem od_lt : OpR X (compareOp .Lt) (T2b X.K (gCmp .lt)) := od_ord op_lt fun x y st b st' e => by
  simp only [gCmp] at e
  split at e
  · cases e; exact ⟨_, _, rfl, rfl, rfl, rfl⟩
  · cases e
theorem od_le : OpR X (compareOp .LtE) (T2b X.K (gCmp .le)) := od_ord op_le fun x y st b st' e => by
  simp only [gCmp] at e
  split at e
  · cases e; exact ⟨_, _, rfl, rfl, rfl, rfl⟩
  · cases e
theorem od_gt : OpR X (compareOp .Gt) (T2b X.K (gCmp .gt)) := od_ord op_gt fun x y st b st' e => by
  simp only [gCmp] at e
  split at e
  · cases e; exact ⟨_, _, rfl, rfl, rfl, rfl⟩
  · cases e
theorem od_ge : OpR X (compareOp .GtE) (T2b X.K (gCmp .ge)) := od_ord op_ge fun x y st b st' e => by
  simp only [gCmp] at e
  split at e
  · cases e; exact ⟨_, _, rfl, rfl, rfl, rfl⟩
  · cases e
theorem DV.non_iff {K : PySem.W.Frag} {F : Hp} {mu : List Addr} {v : V} {d : D} (r : DV K F mu v d) : v = .non ↔ d = .non := by
  cases r <;> simp
theorem od_isN : OpR X (compareOp .Is) (T2b X.K (gCmp .isN)) := by
  intro pins s σ H v1 v2 v u Q I rx ry h
  obtain ⟨G, F, mu, st, x, y, b, st', R, r1, r2, e, P⟩ := h.cases
  have hx := r1.non_iff
  simp only [gCmp] at e
  split at e
  · cases e
    cases r1.nonI; cases r2.nonI
    exact op_isN pins s σ H _ _ v u Q I rx ry ⟨rfl, P.here R (.bl _)⟩
  · rename_i hn
    cases e
    cases r2.nonI
    refine op_isN pins s σ H _ _ v u Q I rx ry ⟨rfl, ?_⟩
    rw [decide_eq_false (fun z => hn (hx.mp z))]
    exact P.here R (.bl _)
  · cases e
theorem od_notN : OpR X (compareOp .IsNot) (T2b X.K (gCmp .notN)) := by
  intro pins s σ H v1 v2 v u Q I rx ry h
  obtain ⟨G, F, mu, st, x, y, b, st', R, r1, r2, e, P⟩ := h.cases
  have hx := r1.non_iff
  simp only [gCmp] at e
  split at e
  · cases e
    cases r1.nonI; cases r2.nonI
    exact op_notN pins s σ H _ _ v u Q I rx ry ⟨rfl, P.here R (.bl _)⟩
  · rename_i hn
    cases e
    cases r2.nonI
    refine op_notN pins s σ H _ _ v u Q I rx ry ⟨rfl, ?_⟩
    rw [decide_eq_false (fun z => hn (hx.mp z))]
    exact P.here R (.bl _)
  · cases e
theorem flat_at {K : PySem.W.Frag} {F : Hp} {mu : List Addr} {v : V} {d : D} (r : DV K F mu v d) (h : flatD d = true) : flatV v = true := by
  cases r <;> first | rfl | cases h
theorem eqV_at {K : PySem.W.Frag} {F : Hp} {mu : List Addr} {v w : V} {d e : D} (r : DV K F mu v d) (s : DV K F mu w e) (h : flatD d = true) (h' : flatD e = true) : eqV v w = eqD d e := by
  cases r <;> cases s <;> first | (cases h; done) | (cases h'; done) | rfl | skip
  all_goals (try simp [eqV, eqD])
  all_goals (try (rename_i a b; cases a <;> simp))
theorem flats_at {K : PySem.W.Frag} {F : Hp} {mu : List Addr} : ∀ {vs : List V} {ds : List D}, DVs K F mu vs ds → ds.all flatD = true → vs.all flatV = true
  | _, _, .nil, _ => rfl
  | _, _, .cons h r, p => by
    rw [List.all_cons, Bool.and_eq_true] at p ⊢
    exact ⟨flat_at h p.1, flats_at r p.2⟩
theorem inV_at {K : PySem.W.Frag} {F : Hp} {mu : List Addr} {w : V} {e : D} (s : DV K F mu w e) (h' : flatD e = true) : ∀ {vs : List V} {ds : List D}, DVs K F mu vs ds → ds.all flatD = true → inV w vs = ds.any fun z => eqD z e
  | _, _, .nil, _ => rfl
  | _, _, .cons h r, p => by
    rw [List.all_cons, Bool.and_eq_true] at p
    show (eqV _ w || inV w _) = (eqD _ e || _)
    rw [eqV_at h s p.1 h', inV_at s h' r p.2]
theorem od_inG {neg : Bool} {f : Value → Value → Sem Value} {g : D → D → Sto → Option (Bool × Sto)} (ho : OpR X f (rIn X.K neg)) (hs : OpR X f (fun x y H Q => ∃ (c : Nat) (z : Str), x = .str ⟨#[c]⟩ ∧ y = .str z ∧ Q (.bl (if neg then !decide (c ∈ z.cps.toList) else decide (c ∈ z.cps.toList))) H))
    (hg : ∀ x y st b st', g x y st = some (b, st') → ∃ c, inD st x y = some c ∧ b = (if neg then !c else c) ∧ st' = st) : OpR X f (T2b X.K g) := by
  intro pins s σ H v1 v2 v u Q I rx ry h
  obtain ⟨G, F, mu, st, x, y, b, st', R, r1, r2, e, P⟩ := h.cases
  obtain ⟨c, e1, rfl, rfl⟩ := hg _ _ _ _ _ e
  unfold inD at e1
  split at e1
  · cases r1.strI; cases r2.strI
    rw [Option.map_eq_some_iff] at e1
    obtain ⟨k, e1, rfl⟩ := e1
    rename_i a z
    have ea : a = ⟨#[k]⟩ := by
      unfold isOne at e1
      split at e1
      · rename_i hc
        cases e1
        obtain ⟨l⟩ := a
        obtain ⟨l⟩ := l
        have hc : l = [k] := hc
        rw [hc]
      · cases e1
    subst ea
    exact hs pins s σ H _ _ v u Q I rx ry ⟨k, _, rfl, rfl, P.here R (.bl _)⟩
  · split at e1
    · rename_i h1
      split at e1
      · rename_i hk
        rw [Bool.and_eq_true] at hk
        cases e1
        obtain ⟨a, vs, rfl, q, rs⟩ := rdS_at R r2 h1
        refine ho pins s σ H _ _ v u Q I rx ry ⟨a, vs, rfl, q, flat_at r1 hk.1, flats_at rs hk.2, ?_⟩
        rw [inV_at r1 hk.1 rs hk.2]
        exact P.here R (.bl _)
      · cases e1
    · cases e1
theorem od_in : OpR X (compareOp .In) (T2b X.K (gCmp .in_)) := od_inG (neg := false) op_in_seq op_in_sign fun x y st b st' e => by
  have e : (inD st x y).map (·, st) = some (b, st') := e
  rw [Option.map_eq_some_iff] at e
  obtain ⟨c, e1, e2⟩ := e
  cases e2
  exact ⟨_, e1, rfl, rfl⟩
theorem od_notIn : OpR X (compareOp .NotIn) (T2b X.K (gCmp .notIn)) := od_inG (neg := true) op_notIn_seq op_notIn_sign fun x y st b st' e => by
  have e : (inD st x y).map (fun b => (!b, st)) = some (b, st') := e
  rw [Option.map_eq_some_iff] at e
  obtain ⟨c, e1, e2⟩ := e
  cases e2
  exact ⟨_, e1, rfl, rfl⟩
def copOf : Cop → CmpOp
  | .eq => .Eq | .ne => .NotEq | .lt => .Lt | .le => .LtE | .gt => .Gt | .ge => .GtE | .isN => .Is | .notN => .IsNot | .in_ => .In | .notIn => .NotIn
theorem od_cmp (hu : X.A.units + 64 < cLine) : ∀ o : Cop, OpR X (compareOp (copOf o)) (T2b X.K (gCmp o))
  | .eq => od_eq hu | .ne => od_ne hu | .lt => od_lt | .le => od_le | .gt => od_gt | .ge => od_ge | .isN => od_isN | .notN => od_notN | .in_ => od_in | .notIn => od_notIn
def bopOf : Bop → Operator
  | .add => .Add | .sub => .Sub | .mul => .Mult | .fdiv => .FloorDiv | .mod => .Mod | .pow => .Pow | .shl => .LShift | .shr => .RShift | .band => .BitAnd | .bor => .BitOr
theorem od_bin {m : Bool} : ∀ o : Bop, OpR X (binaryOp (bopOf o)) (T2 X.K (gBin o m))
  | .add => od_add | .sub => od_sub | .mul => od_mul | .fdiv => od_fdiv | .mod => od_mod | .pow => od_pow | .shl => od_shl | .shr => od_shr | .band => od_band | .bor => od_bor
end
end Jd

namespace Jd
open PySem PySem.Spec PyProof.Rows L2
section
variable {X : Cx}
theorem DVs.one' {K : PySem.W.Frag} {F : Hp} {mu : List Addr} {vs : List V} {d : D} (r : DVs K F mu vs [d]) : ∃ v, vs = [v] ∧ DV K F mu v d := by
  cases r with
  | cons h r => cases r; exact ⟨_, rfl, h⟩
theorem DVs.two' {K : PySem.W.Frag} {F : Hp} {mu : List Addr} {vs : List V} {d e : D} (r : DVs K F mu vs [d, e]) : ∃ v w, vs = [v, w] ∧ DV K F mu v d ∧ DV K F mu w e := by
  cases r with
  | cons h r => cases r with
    | cons h' r => cases r; exact ⟨_, _, rfl, h, h'⟩
/-- a built-in's name -/
def bltName : Blt → Str
  | .abs => "abs" | .int => "int" | .len => "len" | .list => "list" | .tuple => "tuple" | .str => "str" | .max => "max" | .min => "min" | .isI _ => "isinstance"
theorem cd_abs {m : Bool} : CallR X (.builtin "abs") (TN X.K (gBlt .abs m)) := by
  intro pins s σ H vs us Q I rv h
  obtain ⟨G, F, mu, st, xs, d, st', R, r, e, P⟩ := h
  unfold gBlt at e
  split at e <;> first | (rename_i hb; cases hb; done) | skip
  · obtain ⟨v, rfl, r1⟩ := r.one'
    cases r1.intI
    cases e
    exact call_abs pins s σ H _ us Q I rv ⟨_, rfl, P.here R (.int _)⟩
  · cases e
theorem cd_int {m : Bool} : CallR X (.type "int") (TN X.K (gBlt .int m)) := by
  intro pins s σ H vs us Q I rv h
  obtain ⟨G, F, mu, st, xs, d, st', R, r, e, P⟩ := h
  unfold gBlt at e
  split at e <;> first | (rename_i hb; cases hb; done) | skip
  · obtain ⟨v, rfl, r1⟩ := r.one'
    cases r1.intI
    cases e
    exact call_int1 pins s σ H _ us Q I rv (.inl ⟨_, rfl, P.here R (.int _)⟩)
  · obtain ⟨v, rfl, r1⟩ := r.one'
    cases r1.blI
    cases e
    exact call_int1 pins s σ H _ us Q I rv (.inr ⟨_, rfl, P.here R (.int _)⟩)
  · cases e
theorem cd_len {m : Bool} : CallR X (.builtin "len") (TN X.K (gBlt .len m)) := by
  intro pins s σ H vs us Q I rv h
  obtain ⟨G, F, mu, st, xs, d, st', R, r, e, P⟩ := h
  unfold gBlt at e
  split at e <;> first | (rename_i hb; cases hb; done) | skip
  · obtain ⟨v, rfl, r1⟩ := r.one'
    cases r1.strI
    split at e
    · rename_i hz
      cases e
      exact call_len_str pins s σ H _ us Q I rv ⟨_, rfl, of_decide_eq_true hz, P.here R (.int _)⟩
    · cases e
  · rw [Option.map_eq_some_iff] at e
    obtain ⟨ys, e1, e2⟩ := e
    cases e2
    obtain ⟨v, rfl, r1⟩ := r.one'
    obtain ⟨a, ws, rfl, q, rs⟩ := rdS_at R r1 e1
    refine call_len_seq pins s σ H _ us Q I rv ⟨a, ws, rfl, q, ?_⟩
    rw [rs.length]
    exact P.here R (.int _)
  · cases e
theorem cd_list {m : Bool} : CallR X (.type "list") (TN X.K (gBlt .list m)) := by
  intro pins s σ H vs us Q I rv h
  obtain ⟨G, F, mu, st, xs, d, st', R, r, e, P⟩ := h
  unfold gBlt at e
  split at e <;> first | (rename_i hb; cases hb; done) | skip
  · split at e
    · rename_i e1
      obtain ⟨v, rfl, r1⟩ := r.one'
      obtain ⟨a, ws, rfl, q, rs⟩ := rdS_at R r1 e1
      exact call_list_of pins s σ H _ us Q I rv ⟨a, ws, rfl, q, fun p hp => mkL_at R rs e P hp⟩
    · cases e
  · cases e
theorem cd_tuple {m : Bool} : CallR X (.type "tuple") (TN X.K (gBlt .tuple m)) := by
  intro pins s σ H vs us Q I rv h
  obtain ⟨G, F, mu, st, xs, d, st', R, r, e, P⟩ := h
  unfold gBlt at e
  split at e <;> first | (rename_i hb; cases hb; done) | skip
  · obtain ⟨v, rfl, r1⟩ := r.one'
    cases e
    cases r1 with
    | tup q rs => exact call_tuple_of pins s σ H _ us Q I rv ⟨_, _, rfl, .inr ⟨Same.tupT R.sub q, P.here R (.tup q rs)⟩⟩
  · rw [Option.map_eq_some_iff] at e
    obtain ⟨ys, e1, e2⟩ := e
    cases e2
    obtain ⟨v, rfl, r1⟩ := r.one'
    obtain ⟨a, ws, rfl, q, rs⟩ := rdQ_at R r1 e1
    refine call_tuple_of pins s σ H _ us Q I rv ⟨a, ws, rfl, .inl ⟨q, fun p hp => ?_⟩⟩
    obtain ⟨R', ex⟩ := R.newF (o := .tup ws) hp
    exact P _ _ _ _ ex R' (.tup (.inl (.inl upd_same)) (rs.mono ex))
  · cases e
theorem cd_str {m : Bool} : CallR X (.type "str") (TN X.K (gBlt .str m)) := by
  intro pins s σ H vs us Q I rv h
  obtain ⟨G, F, mu, st, xs, d, st', R, r, e, P⟩ := h
  unfold gBlt at e
  split at e <;> first | (rename_i hb; cases hb; done) | skip
  · obtain ⟨v, rfl, r1⟩ := r.one'
    cases r1.intI
    split at e
    · rename_i hz
      cases e
      exact call_str_int pins s σ H _ us Q I rv ⟨_, rfl, hz, P.here R (.str _)⟩
    · cases e
  · cases e
theorem cd_max {m : Bool} (hc : X.calm = true) : CallR X (.builtin "max") (TN X.K (gBlt .max m)) := by
  intro pins s σ H vs us Q I rv h
  obtain ⟨G, F, mu, st, xs, d, st', R, r, e, P⟩ := h
  unfold gBlt at e
  split at e <;> first | (rename_i hb; cases hb; done) | skip
  · obtain ⟨v, w, rfl, r1, r2⟩ := r.two'
    cases r1.intI
    cases r2.intI
    cases e
    exact call_max2 hc pins s σ H _ us Q I rv ⟨_, _, rfl, P.here R (.int _)⟩
  · cases e
theorem cd_min {m : Bool} (hc : X.calm = true) : CallR X (.builtin "min") (TN X.K (gBlt .min m)) := by
  intro pins s σ H vs us Q I rv h
  obtain ⟨G, F, mu, st, xs, d, st', R, r, e, P⟩ := h
  unfold gBlt at e
  split at e <;> first | (rename_i hb; cases hb; done) | skip
  · obtain ⟨v, w, rfl, r1, r2⟩ := r.two'
    cases r1.intI
    cases r2.intI
    cases e
    exact call_min2 hc pins s σ H _ us Q I rv ⟨_, _, rfl, P.here R (.int _)⟩
  · cases e
def tyName : Ty → String
  | .int => "int" | .bool => "bool" | .str => "str" | .tuple => "tuple" | .list => "list"

def tyIs (t : Ty) (d : D) : Option Bool := match t, d with
  | .int, .int _ => some true
  | .int, .bl _ => some true
  | .bool, .bl _ => some true
  | .str, .str _ => some true
  | .tuple, .tup _ => some true
  | .list, .lst _ => some true
  | .list, .ref _ => some true
  | _, .scr _ => none
  | _, _ => some false
theorem gBlt_isI {t : Ty} {m : Bool} {d : D} {st : Sto} : gBlt (.isI t) m [d] st = (tyIs t d).map fun b => (.bl b, st) := by
  cases t <;> cases d <;> rfl
theorem ty_at {K : PySem.W.Frag} {F H : Hp} {mu : List Addr} {st : Sto} {v : V} {d : D} {t : Ty} {b : Bool} (R : Rp K G F mu st H) (r : DV K F mu v d) (h : tyIs t d = some b) : ∃ T, TyX K H v (.type T) ∧ kitB T (tyName t) = some b := by
  cases r with
  | non => cases t <;> (cases h; exact ⟨"NoneType", .base .non, by decide +kernel⟩)
  | bl k => cases t <;> (cases h; exact ⟨"bool", .base (.bl k), by decide +kernel⟩)
  | int k => cases t <;> (cases h; exact ⟨"int", .base (.int k), by decide +kernel⟩)
  | str k => cases t <;> (cases h; exact ⟨"str", .base (.str k), by decide +kernel⟩)
  | tup q rs =>
    refine ⟨"tuple", ?_, by cases t <;> (cases h; decide +kernel)⟩
    rcases Same.tupT R.sub q with (q | ⟨o, q⟩) | ⟨o, its, n, q, qc, _⟩
    · exact .base (.tup q)
    · exact .fTuple q
    · exact .kTuple q qc
  | lst q rs => exact ⟨"list", .base (.lst (R.sub _ _ q)), by cases t <;> (cases h; decide +kernel)⟩
  | scr q rs => cases t <;> cases h
  | ref hm =>
    obtain ⟨c, hc⟩ := R.there hm
    obtain ⟨vs, q, rs, _⟩ := R.cell _ _ _ hm hc
    exact ⟨"list", .base (.lst q), by cases t <;> (cases h; decide +kernel)⟩
/-! #### items and slices -/
theorem atI_at {K : PySem.W.Frag} {F : Hp} {mu : List Addr} {vs : List V} {ds : List D} {i : Int} {d : D} (r : DVs K F mu vs ds) (h : atI ds i = some d) : ∃ v, atI vs i = some v ∧ DV K F mu v d := by
  unfold atI at h ⊢
  rw [r.length]
  rw [Option.bind_eq_some_iff] at h
  obtain ⟨j, h1, h2⟩ := h
  obtain ⟨v, h3, h4⟩ := r.get h2
  exact ⟨v, by rw [h1]; exact h3, h4⟩
theorem xd_idx : IxR X (T2 X.K gIdx) := by
  intro value slice pins s σ H v1 v2 v u Q I rx ry h hs
  obtain ⟨G, F, mu, st, x, y, d, st', R, r1, r2, e, P⟩ := h
  unfold gIdx at e
  split at e
  · cases r1.strI; cases r2.intI
    split at e
    · rename_i hz
      rw [Option.map_eq_some_iff] at e
      obtain ⟨c, e1, e2⟩ := e
      cases e2
      exact ix_str value slice pins s σ H _ _ v u Q I rx ry ⟨_, _, c, rfl, rfl, of_decide_eq_true hz, e1, P.here R (.str _)⟩ hs
    · cases e
  · cases r2.intI
    split at e
    · rename_i h1
      rw [Option.map_eq_some_iff] at e
      obtain ⟨z, e1, e2⟩ := e
      cases e2
      obtain ⟨a, ws, rfl, q, rs⟩ := rdS_at R r1 h1
      obtain ⟨w, e3, r3⟩ := atI_at rs e1
      rcases q with q | q
      · exact ix_list value slice pins s σ H _ _ v u Q I rx ry ⟨a, ws, _, w, rfl, rfl, q, e3, P.here R r3⟩ hs
      · exact ix_tup value slice pins s σ H _ _ v u Q I rx ry ⟨a, ws, _, w, rfl, rfl, q, e3, P.here R r3⟩ hs
    · cases e
  · cases e
theorem cut_at {K : PySem.W.Frag} {F : Hp} {mu : List Addr} {vs : List V} {ds : List D} (r : DVs K F mu vs ds) (lo hi : Option Int) : DVs K F mu (cutV vs lo hi) (cutD ds lo hi) := by
  unfold cutV cutD
  rw [r.length]
  exact (r.drop _).take _
def TS3 (K : PySem.W.Frag) (m : Bool) : V → Option Int → Option Int → Hp → VK → Prop := fun v lo hi H Q => ∃ G F mu st x d st', Rp K G F mu st H ∧ DV K F mu v x ∧ gSlc m x lo hi st = some (d, st') ∧ Po K G F mu st' d Q
theorem xd_slc {m : Bool} : SlR X (TS3 X.K m) := by
  intro pins s σ H x v vl vu lo hi sl Q I rx hs pl pu h
  obtain ⟨G, F, mu, st, y, d, st', R, r1, e, P⟩ := h
  unfold gSlc at e
  split at e
  · cases e
    cases r1 with
    | tup q rs =>
      refine sl_tupA pins s σ H _ v vl vu lo hi sl Q I rx hs pl pu ⟨_, _, rfl, Same.tupT R.sub q, fun hw => ?_, fun _ p hp => ?_⟩
      · refine P.here R ?_
        rename_i xs _ vs
        have e2 : cutD xs lo hi = xs := by
          rw [rs.length] at hw
          unfold cutD
          rw [hw.1, hw.2, List.drop_zero, Nat.sub_zero, List.take_length]
        rw [e2]
        exact .tup q rs
      · obtain ⟨R', ex⟩ := R.newF (o := .tup (cutV _ lo hi)) hp
        exact P _ _ _ _ ex R' (.tup (.inl (.inl upd_same)) ((cut_at rs lo hi).mono ex))
  · cases r1.strI
    split at e
    · rename_i hz
      cases e
      exact sl_str pins s σ H _ v vl vu lo hi sl Q I rx hs pl pu ⟨_, rfl, of_decide_eq_true hz, P.here R (.str _)⟩
    · cases e
  · split at e
    · rename_i h1
      obtain ⟨a, ws, rfl, q, rs⟩ := rdQ_at R r1 h1
      exact sl_list pins s σ H _ v vl vu lo hi sl Q I rx hs pl pu ⟨a, ws, rfl, q, fun p hp => mkL_at R (cut_at rs lo hi) e P hp⟩
    · cases e
/-! #### truth -/
theorem tru_at {K : PySem.W.Frag} {F H : Hp} {mu : List Addr} {st : Sto} {v : V} {d : D} {b : Bool} (R : Rp K G F mu st H) (r : DV K F mu v d) (h : truD st d = some b) : TruV K v H b := by
  have nil : ∀ {xs : List D} {vs : List V}, DVs K F mu vs xs → (!vs.isEmpty) = (!xs.isEmpty) := fun {xs vs} z => by
    cases z <;> rfl
  cases r with
  | non => cases h; rfl
  | bl k => cases h; rfl
  | int i => cases h; rfl
  | str x =>
    unfold truD at h
    simp only at h
    split at h
    · rename_i hz
      cases h
      exact ⟨of_decide_eq_true hz, by rw [Bool.eq_iff_iff]; simp⟩
    · cases h
  | tup q rs =>
    cases h
    exact .inr (.inl ⟨_, Same.tupT R.sub q, (nil rs).symm⟩)
  | lst q rs =>
    cases h
    exact .inl ⟨_, .inl (.inl (R.sub _ _ q)), (nil rs).symm⟩
  | scr q rs =>
    cases h
    exact .inl ⟨_, R.sub.seq q, (nil rs).symm⟩
  | ref hm =>
    obtain ⟨c, hc⟩ := R.there hm
    have h : (st[_]?).map (fun c : Cell => !c.xs.isEmpty) = some b := h
    rw [hc] at h
    cases h
    obtain ⟨vs, q, rs, _⟩ := R.cell _ _ _ hm hc
    refine .inl ⟨_, .inl (.inl q), ?_⟩
    have hl := rs.length
    obtain ⟨md, cs⟩ := c
    cases vs <;> cases cs <;> first | rfl | cases hl
/-! #### stores -/
theorem sd_set : PSet X (fun o i v H Q => ∃ G F mu st x k y st', Rp X.K G F mu st H ∧ DV X.K F mu o x ∧ DV X.K F mu i k ∧ DV X.K F mu v y ∧ gSet x k y st = some st' ∧ ∀ H', Rp X.K G F mu st' H' → Q H') := by
  intro pins s σ H o i v ov iv u Q I ro ri rv h
  obtain ⟨G, F, mu, st, x, k, y, st', R, r1, r2, r3, e, P⟩ := h
  unfold gSet at e
  split at e
  · cases r2.intI
    split at e
    · rename_i n k zs hc
      split at e
      · rename_i hp
        rw [Option.map_eq_some_iff] at e
        obtain ⟨j, e1, e2⟩ := e
        cases e2
        cases r1 with
        | ref hm =>
          obtain ⟨vs, q, rs, _⟩ := R.cell _ _ _ hm hc
          refine set_list pins s σ H _ _ _ ov iv u Q I ro ri rv ⟨_, vs, _, j, rfl, rfl, q, by rw [rs.length]; exact e1, P _ ?_⟩
          exact R.setC hm hc rfl (DVs.set (r3.ofPure hp) j rs)
      · cases e
    · cases e
  · cases e
theorem md_append : MtR X "list.append" (fun v vs H Q => ∃ G F mu st x xs d st', Rp X.K G F mu st H ∧ DV X.K F mu v x ∧ DVs X.K F mu vs xs ∧ gMth .append x xs st = some (d, st') ∧ Po X.K G F mu st' d Q) := by
  intro pins s σ H x xs v us Q I rx rv h
  obtain ⟨G, F, mu, st, dx, ds, d, st', R, r1, r2, e, P⟩ := h
  unfold gMth at e
  split at e
  · split at e
    · rename_i zs hc
      split at e
      · rename_i hp
        rw [Bool.and_eq_true, decide_eq_true_eq] at hp
        cases e
        obtain ⟨w, rfl, r3⟩ := r2.one'
        cases r1 with
        | ref hm =>
          obtain ⟨vs, q, rs, _⟩ := R.cell _ _ _ hm hc
          refine mt_append pins s σ H _ _ v us Q I rx rv ⟨_, vs, w, rfl, rfl, q, by rw [rs.length]; exact hp.2, P.here (R.setC hm hc rfl ?_) .non⟩
          exact rs.append (.one (r3.ofPure hp.1))
      · cases e
    · cases e
  · cases e
theorem ty_list {K : PySem.W.Frag} {F H : Hp} {mu : List Addr} {st : Sto} {v : V} {n : Nat} (R : Rp K G F mu st H) (r : DV K F mu v (.ref n)) : tyV K "list" v H := by
  cases r with
  | ref hm =>
    obtain ⟨c, hc⟩ := R.there hm
    obtain ⟨vs, q, rs, _⟩ := R.cell _ _ _ hm hc
    exact .inl ⟨rfl, _, .inl (.inl q)⟩
end
end Jd

namespace Jd
open PySem PySem.Spec PyProof.Rows L2

/-! ### what a loop walks -/
structure Walks (K : PySem.W.Frag) (F : Hp) (mu : List Addr) (src : Src) (J : It) : Prop where
  stop : ∀ G F' mu' st H i, Ex F mu F' mu' → Rp K G F' mu' st H → srcAt src st i = some none → J.stop i H
  go : ∀ G F' mu' st H i x, Ex F mu F' mu' → Rp K G F' mu' st H → srcAt src st i = some (some x) → J.go i H ∧ ∀ v H', J.yld i H v H' → ∃ F2, Ex F' mu' F2 mu' ∧ Rp K G F2 mu' st H' ∧ DV K F2 mu' v x
def TId (K : PySem.W.Frag) (f : En → Sto → Option (Src × Sto)) : TI := fun σ H R => ∃ G F mu sd st src st', Rp K G F mu st H ∧ Rs K F mu sd σ ∧ f sd st = some (src, st') ∧
  ∀ F' mu' H' J, Ex F mu F' mu' → Rp K G F' mu' st' H' → Walks K F' mu' src J → R J H'
theorem ofPI {X : Cx} {tg e : Expr} {t t' : TI} (h : PI X tg e t) (w : ∀ σ H R, t' σ H R → t σ H R) : PI X tg e t' := ⟨fun pins s σ H R I q => h.run pins s σ H R I (w σ H R q)⟩
section
variable {K : PySem.W.Frag} {F : Hp} {mu : List Addr} {a b : Addr}
theorem SqL.one {H : Hp} {a : Addr} {xs ys : List V} {X : Cx} {pins : List (Addr × Obj)} {σ : L2.St} {s : Shared} (I : Inv X pins σ H s) (h : SqL X.K H a xs) (h' : SqL X.K H a ys) : xs = ys := I.list_inj h h'
theorem walks_list {xs : List D} {vs : List V} (q : SqL K F a vs) (r : DVs K F mu vs xs) : Walks K F mu (.its xs) (Itl K a) where
  stop := fun G F' mu' st H i e R h => by
    have h : some xs[i]? = some none := h
    refine ⟨vs, R.sub.seq (e.1.seq q), ?_⟩
    rw [r.length]
    exact List.getElem?_eq_none_iff.mp (Option.some.inj h)
  go := fun G F' mu' st H i x e R h => by
    have h : some xs[i]? = some (some x) := h
    obtain ⟨v, h1, h2⟩ := (r.mono e).get (Option.some.inj h)
    have q' := R.sub.seq (e.1.seq q)
    refine ⟨⟨vs, v, q', h1⟩, fun w H' y => ?_⟩
    obtain ⟨rfl, y⟩ := y
    have := (y vs q').symm.trans h1
    cases this
    exact ⟨F', Ex.refl, R, h2⟩
theorem walks_tup {xs : List D} {vs : List V} (q : SqT K F a vs) (r : DVs K F mu vs xs) : Walks K F mu (.its xs) (Itt K a) where
  stop := fun G F' mu' st H i e R h => by
    have h : some xs[i]? = some none := h
    refine ⟨vs, Same.tupT R.sub (Same.tupT e.1 q), ?_⟩
    rw [r.length]
    exact List.getElem?_eq_none_iff.mp (Option.some.inj h)
  go := fun G F' mu' st H i x e R h => by
    have h : some xs[i]? = some (some x) := h
    obtain ⟨v, h1, h2⟩ := (r.mono e).get (Option.some.inj h)
    have q' := Same.tupT R.sub (Same.tupT e.1 q)
    refine ⟨⟨vs, v, q', h1⟩, fun w H' y => ?_⟩
    obtain ⟨rfl, y⟩ := y
    have := (y vs q').symm.trans h1
    cases this
    exact ⟨F', Ex.refl, R, h2⟩
theorem walks_cell {n : Nat} (hm : mu[n]? = some a) : Walks K F mu (.cell n) (Itl K a) where
  stop := fun G F' mu' st H i e R h => by
    obtain ⟨t, et⟩ := e.2
    have hm' : mu'[n]? = some a := by
      rw [et]
      exact get_app hm
    obtain ⟨c, hc⟩ := R.there hm'
    have h : (st[n]?).map (fun c : Cell => c.xs[i]?) = some none := h
    rw [hc] at h
    have h := Option.some.inj h
    obtain ⟨vs, q, rs, _⟩ := R.cell _ _ _ hm' hc
    refine ⟨vs, .inl (.inl q), ?_⟩
    rw [rs.length]
    exact List.getElem?_eq_none_iff.mp h
  go := fun G F' mu' st H i x e R h => by
    obtain ⟨t, et⟩ := e.2
    have hm' : mu'[n]? = some a := by
      rw [et]
      exact get_app hm
    obtain ⟨c, hc⟩ := R.there hm'
    have h : (st[n]?).map (fun c : Cell => c.xs[i]?) = some (some x) := h
    rw [hc] at h
    have h := Option.some.inj h
    obtain ⟨vs, q, rs, _⟩ := R.cell _ _ _ hm' hc
    obtain ⟨v, h1, h2⟩ := rs.get h
    refine ⟨⟨vs, v, .inl (.inl q), h1⟩, fun w H' y => ?_⟩
    obtain ⟨rfl, y⟩ := y
    have := (y vs (.inl (.inl q))).symm.trans h1
    cases this
    exact ⟨F', Ex.refl, R, h2.mono ⟨Same.refl _, mu', by simp⟩⟩
theorem rng_get {lo : Int} {n i : Nat} : (rngD lo n)[i]? = if i < n then some (.int (lo + (i : Int))) else none := by
  unfold rngD
  rw [List.getElem?_map]
  by_cases h : i < n
  · rw [if_pos h, List.getElem?_range h]
    rfl
  · rw [if_neg h, List.getElem?_eq_none (by simpa using h)]
    rfl
theorem walks_rng {lo : Int} {n : Nat} : Walks K F mu (.its (rngD lo n)) (Itr lo n) where
  stop := fun G F' mu' st H i e R h => by
    have h : some (rngD lo n)[i]? = some none := h
    rw [rng_get] at h
    split at h
    · cases h
    · rename_i hi
      exact Nat.le_of_not_lt hi
  go := fun G F' mu' st H i x e R h => by
    have h : some (rngD lo n)[i]? = some (some x) := h
    rw [rng_get] at h
    split at h
    · rename_i hi
      cases h
      refine ⟨hi, fun w H' y => ?_⟩
      obtain ⟨rfl, rfl⟩ := y
      exact ⟨F', Ex.refl, R, .int _⟩
    · cases h
theorem walks_str {x : Str} : Walks K F mu (.its (x.cps.toList.map fun c => .str ⟨#[c]⟩)) (Its x) where
  stop := fun G F' mu' st H i e R h => by
    have h : some (x.cps.toList.map fun c => D.str ⟨#[c]⟩)[i]? = some none := h
    have h := List.getElem?_eq_none_iff.mp (Option.some.inj h)
    show x.cps.size ≤ i
    simpa using h
  go := fun G F' mu' st H i y e R h => by
    have h : some (x.cps.toList.map fun c => D.str ⟨#[c]⟩)[i]? = some (some y) := h
    have h := Option.some.inj h
    rw [List.getElem?_map, Option.map_eq_some_iff] at h
    obtain ⟨c, h1, h2⟩ := h
    have h1 : x.cps[i]? = some c := by
      rw [← Array.getElem?_toList]
      exact h1
    refine ⟨?_, fun w H' z => ?_⟩
    · have : i < x.cps.size := by
        rcases Nat.lt_or_ge i x.cps.size with z | z
        · exact z
        · rw [Array.getElem?_eq_none z] at h1
          cases h1
      exact this
    · obtain ⟨rfl, c', h3, rfl⟩ := z
      rw [h1] at h3
      cases h3
      subst h2
      exact ⟨F', Ex.refl, R, .str _⟩
theorem enum_get {xs : List D} {i : Nat} : (enumD xs)[i]? = (xs[i]?).map fun x => .tup [.int i, x] := by
  unfold enumD
  rw [List.getElem?_mapIdx]
theorem walks_enum {xs : List D} {vs : List V} (q : SqL K F a vs) (r : DVs K F mu vs xs) : Walks K F mu (.its (enumD xs)) (Ite K a) where
  stop := fun G F' mu' st H i e R h => by
    have h : some (enumD xs)[i]? = some none := h
    rw [enum_get] at h
    have h := Option.some.inj h
    rw [Option.map_eq_none_iff] at h
    refine ⟨vs, R.sub.seq (e.1.seq q), ?_⟩
    rw [r.length]
    exact List.getElem?_eq_none_iff.mp h
  go := fun G F' mu' st H i x e R h => by
    have h : some (enumD xs)[i]? = some (some x) := h
    rw [enum_get] at h
    have h := Option.some.inj h
    rw [Option.map_eq_some_iff] at h
    obtain ⟨y, hy, rfl⟩ := h
    obtain ⟨v, h1, h2⟩ := (r.mono e).get hy
    have q' := R.sub.seq (e.1.seq q)
    refine ⟨⟨vs, v, q', h1⟩, fun w H' z => ?_⟩
    obtain ⟨T, x, rfl, hT, rfl, z⟩ := z
    have := (z vs q').symm.trans h1
    cases this
    obtain ⟨R', ex⟩ := R.newF (o := .tup [.int (i : Nat), v]) hT
    exact ⟨_, ex, R', .tup (.inl (.inl upd_same)) (.cons (.int _) (.one (h2.mono ex)))⟩
theorem walks_enc {n : Nat} (hm : mu[n]? = some a) : Walks K F mu (.enc n) (Ite K a) where
  stop := fun G F' mu' st H i e R h => by
    obtain ⟨t, et⟩ := e.2
    have hm' : mu'[n]? = some a := by
      rw [et]
      exact get_app hm
    obtain ⟨c, hc⟩ := R.there hm'
    have h : (st[n]?).map (fun c : Cell => (c.xs[i]?).map fun x => D.tup [.int i, x]) = some none := h
    rw [hc] at h
    have h := Option.some.inj h
    rw [Option.map_eq_none_iff] at h
    obtain ⟨vs, q, rs, _⟩ := R.cell _ _ _ hm' hc
    refine ⟨vs, .inl (.inl q), ?_⟩
    rw [rs.length]
    exact List.getElem?_eq_none_iff.mp h
  go := fun G F' mu' st H i x e R h => by
    obtain ⟨t, et⟩ := e.2
    have hm' : mu'[n]? = some a := by
      rw [et]
      exact get_app hm
    obtain ⟨c, hc⟩ := R.there hm'
    have h : (st[n]?).map (fun c : Cell => (c.xs[i]?).map fun x => D.tup [.int i, x]) = some (some x) := h
    rw [hc] at h
    have h := Option.some.inj h
    rw [Option.map_eq_some_iff] at h
    obtain ⟨y, hy, rfl⟩ := h
    obtain ⟨vs, q, rs, _⟩ := R.cell _ _ _ hm' hc
    obtain ⟨v, h1, h2⟩ := rs.get hy
    refine ⟨⟨vs, v, .inl (.inl q), h1⟩, fun w H' z => ?_⟩
    obtain ⟨T, x, rfl, hT, rfl, z⟩ := z
    have := (z vs (.inl (.inl q))).symm.trans h1
    cases this
    obtain ⟨R', ex⟩ := R.newF (o := .tup [.int (i : Nat), v]) hT
    exact ⟨_, ex, R', .tup (.inl (.inl upd_same)) (.cons (.int _) (.one ((h2.mono ⟨Same.refl _, mu', by simp⟩).mono ex)))⟩
theorem zip_get {xs ys : List D} {i : Nat} : (zipD xs ys)[i]? = match xs[i]?, ys[i]? with | some x, some y => some (.tup [x, y]) | _, _ => none := by
  unfold zipD
  rw [List.getElem?_zipWith]
  cases xs[i]? <;> cases ys[i]? <;> rfl
theorem walks_zip {xs ys : List D} {vs ws : List V} (q : SqL K F a vs) (q2 : SqL K F b ws) (r : DVs K F mu vs xs) (r2 : DVs K F mu ws ys) : Walks K F mu (.its (zipD xs ys)) (Itz K a b) where
  stop := fun G F' mu' st H i e R h => by
    have h : some (zipD xs ys)[i]? = some none := h
    rw [zip_get] at h
    have h := Option.some.inj h
    refine ⟨vs, ws, R.sub.seq (e.1.seq q), R.sub.seq (e.1.seq q2), ?_⟩
    rw [r.length, r2.length]
    split at h
    · cases h
    · rename_i hn
      rcases Nat.lt_or_ge i xs.length with z | z
      · rcases Nat.lt_or_ge i ys.length with z2 | z2
        · exact absurd (List.getElem?_eq_getElem z2) (hn _ _ (List.getElem?_eq_getElem z))
        · exact .inr z2
      · exact .inl z
  go := fun G F' mu' st H i x e R h => by
    have h : some (zipD xs ys)[i]? = some (some x) := h
    rw [zip_get] at h
    have h := Option.some.inj h
    split at h
    · rename_i x1 y1 hx hy
      cases h
      obtain ⟨v, h1, h2⟩ := (r.mono e).get hx
      obtain ⟨w, g1, g2⟩ := (r2.mono e).get hy
      have q' := R.sub.seq (e.1.seq q)
      have q2' := R.sub.seq (e.1.seq q2)
      refine ⟨⟨vs, ws, v, w, q', q2', h1, g1⟩, fun u H' z => ?_⟩
      obtain ⟨T, x, y, rfl, hT, rfl, z, z2⟩ := z
      have := (z vs q').symm.trans h1
      cases this
      have := (z2 ws q2').symm.trans g1
      cases this
      obtain ⟨R', ex⟩ := R.newF (o := .tup [v, w]) hT
      exact ⟨_, ex, R', .tup (.inl (.inl upd_same)) (.cons (h2.mono ex) (.one (g2.mono ex)))⟩
    · cases h
theorem walks_zipT {xs ys : List D} {vs ws : List V} (q : SqT K F a vs) (q2 : SqT K F b ws) (r : DVs K F mu vs xs) (r2 : DVs K F mu ws ys) : Walks K F mu (.its (zipD xs ys)) (RZ.ItzT K a b) where
  stop := fun G F' mu' st H i e R h => by
    have h : some (zipD xs ys)[i]? = some none := h
    rw [zip_get] at h
    have h := Option.some.inj h
    refine ⟨vs, ws, Same.tupT R.sub (Same.tupT e.1 q), Same.tupT R.sub (Same.tupT e.1 q2), ?_⟩
    rw [r.length, r2.length]
    split at h
    · cases h
    · rename_i hn
      rcases Nat.lt_or_ge i xs.length with z | z
      · rcases Nat.lt_or_ge i ys.length with z2 | z2
        · exact absurd (List.getElem?_eq_getElem z2) (hn _ _ (List.getElem?_eq_getElem z))
        · exact .inr z2
      · exact .inl z
  go := fun G F' mu' st H i x e R h => by
    have h : some (zipD xs ys)[i]? = some (some x) := h
    rw [zip_get] at h
    have h := Option.some.inj h
    split at h
    · rename_i x1 y1 hx hy
      cases h
      obtain ⟨v, h1, h2⟩ := (r.mono e).get hx
      obtain ⟨w, g1, g2⟩ := (r2.mono e).get hy
      have q' := Same.tupT R.sub (Same.tupT e.1 q)
      have q2' := Same.tupT R.sub (Same.tupT e.1 q2)
      refine ⟨⟨vs, ws, v, w, q', q2', h1, g1⟩, fun u H' z => ?_⟩
      obtain ⟨T, x, y, rfl, hT, rfl, z, z2⟩ := z
      have := (z vs q').symm.trans h1
      cases this
      have := (z2 ws q2').symm.trans g1
      cases this
      obtain ⟨R', ex⟩ := R.newF (o := .tup [v, w]) hT
      exact ⟨_, ex, R', .tup (.inl (.inl upd_same)) (.cons (h2.mono ex) (.one (g2.mono ex)))⟩
    · cases h
end
section
variable {X : Cx} {tg a b : Expr} {fa fb : En → Sto → Option (D × Sto)} {p pos : Pos}
/-- a value is walked: a list, a tuple, a text, a cell -/
theorem pi_or {t t' : TI} {e : Expr} (h : PI X tg e t) (h' : PI X tg e t') : PI X tg e (fun σ H R => t σ H R ∨ t' σ H R) := ⟨fun pins s σ H R I q => by
  rcases q with q | q
  · exact h.run pins s σ H R I q
  · exact h'.run pins s σ H R I q⟩
def srcV (p : D × Sto) : Option (Src × Sto) := match p.1 with
  | .lst xs => some (.its xs, p.2)
  | .scr xs => some (.its xs, p.2)
  | .tup xs => some (.its xs, p.2)
  | .str x => some (.its (x.cps.toList.map fun c => .str ⟨#[c]⟩), p.2)
  | .ref n => some (.cell n, p.2)
  | _ => none
theorem sd_iV (ha : PE X a (TEd X.K fa)) : PI X tg a (TId X.K fun sd st => (fa sd st).bind srcV) := by
  refine ofPI (pi_or (pi_list ha) (pi_or (pi_tup ha) (pi_str ha))) fun σ H R h => ?_
  obtain ⟨G, F, mu, sd, st, src, st', Rr, S, e, P⟩ := h
  rw [Option.bind_eq_some_iff] at e
  obtain ⟨⟨d, st1⟩, e1, e2⟩ := e
  unfold srcV at e2
  split at e2
  · rename_i xs hd
    have hd : d = .lst xs := hd
    subst hd
    cases e2
    refine .inl ⟨G, F, mu, sd, st, _, _, Rr, S, e1, fun F1 mu1 H1 v1 x1 R1 r1 => ?_⟩
    cases r1 with
    | lst q rs => exact ⟨_, rfl, ⟨_, .inl (.inl (R1.sub _ _ q))⟩, P _ _ _ _ x1 R1 (walks_list (.inl (.inl q)) rs)⟩
  · rename_i xs hd
    have hd : d = .scr xs := hd
    subst hd
    cases e2
    refine .inl ⟨G, F, mu, sd, st, _, _, Rr, S, e1, fun F1 mu1 H1 v1 x1 R1 r1 => ?_⟩
    cases r1 with
    | scr q rs => exact ⟨_, rfl, ⟨_, R1.sub.seq q⟩, P _ _ _ _ x1 R1 (walks_list q rs)⟩
  · rename_i xs hd
    have hd : d = .tup xs := hd
    subst hd
    cases e2
    refine .inr (.inl ⟨G, F, mu, sd, st, _, _, Rr, S, e1, fun F1 mu1 H1 v1 x1 R1 r1 => ?_⟩)
    cases r1 with
    | tup q rs => exact ⟨_, rfl, ⟨_, Same.tupT R1.sub q⟩, P _ _ _ _ x1 R1 (walks_tup q rs)⟩
  · rename_i x hd
    have hd : d = .str x := hd
    subst hd
    cases e2
    refine .inr (.inr ⟨G, F, mu, sd, st, _, _, Rr, S, e1, fun F1 mu1 H1 v1 x1 R1 r1 => ?_⟩)
    cases r1.strI
    exact ⟨_, rfl, P _ _ _ _ x1 R1 walks_str⟩
  · rename_i n hd
    have hd : d = .ref n := hd
    subst hd
    cases e2
    refine .inl ⟨G, F, mu, sd, st, _, _, Rr, S, e1, fun F1 mu1 H1 v1 x1 R1 r1 => ?_⟩
    cases r1 with
    | ref hm =>
      obtain ⟨c, hc⟩ := R1.there hm
      obtain ⟨vs, q, rs, _⟩ := R1.cell _ _ _ hm hc
      exact ⟨_, rfl, ⟨_, .inl (.inl q)⟩, P _ _ _ _ x1 R1 (walks_cell hm)⟩
  · cases e2
theorem sd_nil : PA X [] (TAd X.K fun _ st => some ([], st)) := by
  refine ofPA pa_nil fun σ H Q h => ?_
  obtain ⟨G, F, mu, sd, st, ds, st', R, S, e, P⟩ := h
  cases e
  exact P _ _ _ _ Ex.refl R .nil
theorem sd_cons {es : List Expr} {fs : En → Sto → Option (List D × Sto)} (ha : PE X a (TEd X.K fa)) (hr : PA X es (TAd X.K fs)) (hs : starEach (a :: es) X.env = (false, eval a X.env) :: starEach es X.env) :
    PA X (a :: es) (TAd X.K fun sd st => (fa sd st).bind fun p => (fs sd p.2).map fun q => (p.1 :: q.1, q.2)) := by
  refine ofPA (pa_cons ha hr hs) fun σ H Q h => ?_
  obtain ⟨G, F, mu, sd, st, ds, st', R, S, e, P⟩ := h
  simp only [Option.bind_eq_some_iff, Option.map_eq_some_iff] at e
  obtain ⟨⟨x, st1⟩, e1, ⟨xs, st2⟩, e2, e3⟩ := e
  cases e3
  refine ⟨G, F, mu, sd, st, x, st1, R, S, e1, fun F1 mu1 H1 v1 x1 R1 r1 => ?_⟩
  refine ⟨G, F1, mu1, sd, st1, xs, _, R1, S.mono x1, e2, fun F2 mu2 H2 vs x2 R2 r2 => ?_⟩
  exact P _ _ _ _ (x1.trans x2) R2 (.cons (r1.mono x2) r2)
/-- a call of a built-in -/
theorem sd_callB {id : String} {x : Str} {es : List Expr} {fs : En → Sto → Option (List D × Sto)} {g : List D → Sto → Option (D × Sto)} (hc : CallR X (.builtin id) (TN X.K g)) (hg : Gl X x) (hm : X.mg x = none) (hv : bootBuiltins x = some (.builtin id)) (ha : PA X (a :: es) (TAd X.K fs))
    (hn : x ≠ "__name__") (hdb : (x == ("__debug__" : Str)) = false) (he : starEach (a :: es) X.env = (false, eval a X.env) :: starEach es X.env) (hpl : (backTo pos (starEach es X.env)).any (·.1) = false) :
    PE X (.Call (.Name x p) (a :: es) [] pos) (TEd X.K fun sd st => (fs sd st).bind fun q => g q.1 q.2) := by
  refine ofPE (pe_callB hc hg hm hv ha hn hdb he hpl) fun σ H Q h => ?_
  obtain ⟨G, F, mu, sd, st, d, st', R, S, e, P⟩ := h
  simp only [Option.bind_eq_some_iff] at e
  obtain ⟨⟨xs, st1⟩, e1, e2⟩ := e
  exact ⟨G, F, mu, sd, st, xs, st1, R, S, e1, fun F1 mu1 H1 vs x1 R1 r1 => ⟨G, F1, mu1, st1, xs, d, st', R1, r1, e2, P.step x1⟩⟩
theorem sd_callTy {T : String} {x : Str} {es : List Expr} {fs : En → Sto → Option (List D × Sto)} {g : List D → Sto → Option (D × Sto)} (hc : CallR X (.type T) (TN X.K g)) (hg : Gl X x) (hm : X.mg x = none) (hv : bootBuiltins x = some (.type T)) (ha : PA X (a :: es) (TAd X.K fs))
    (hn : x ≠ "__name__") (hdb : (x == ("__debug__" : Str)) = false) (he : starEach (a :: es) X.env = (false, eval a X.env) :: starEach es X.env) (hpl : (backTo pos (starEach es X.env)).any (·.1) = false) :
    PE X (.Call (.Name x p) (a :: es) [] pos) (TEd X.K fun sd st => (fs sd st).bind fun q => g q.1 q.2) := by
  refine ofPE (pe_callTy hc hg hm hv ha hn hdb he hpl) fun σ H Q h => ?_
  obtain ⟨G, F, mu, sd, st, d, st', R, S, e, P⟩ := h
  simp only [Option.bind_eq_some_iff] at e
  obtain ⟨⟨xs, st1⟩, e1, e2⟩ := e
  exact ⟨G, F, mu, sd, st, xs, st1, R, S, e1, fun F1 mu1 H1 vs x1 R1 r1 => ⟨G, F1, mu1, st1, xs, d, st', R1, r1, e2, P.step x1⟩⟩
/-- isinstance(e, T) -/
theorem sd_isI {t : Ty} {m : Bool} {e2 : Expr} (hg : Gl X "isinstance") (hm : X.mg "isinstance" = none) (hgt : Gl X (Str.ofString (tyName t))) (hmt : X.mg (Str.ofString (tyName t)) = none) (ha : PE X a (TEd X.K fa)) (he2 : ∃ p2, e2 = .Name (Str.ofString (tyName t)) p2)
    (he : starEach [a, e2] X.env = (false, eval a X.env) :: starEach [e2] X.env) (hpl : (backTo pos (starEach [e2] X.env)).any (·.1) = false) :
    PE X (.Call (.Name "isinstance" p) [a, e2] [] pos) (TEd X.K fun sd st => ((fa sd st).bind fun p => some ([p.1], p.2)).bind fun q => gBlt (.isI t) m q.1 q.2) := by
  obtain ⟨p2, rfl⟩ := he2
  have hb : PE X (.Name (Str.ofString (tyName t)) p2) (tC (.ty (tyName t))) := pe_bltn (v := .ty (tyName t)) (u := .type (tyName t)) hgt hmt (by cases t <;> decide +kernel) rfl (by cases t <;> decide) (by cases t <;> decide)
  refine ofPE (pe_callB call_isi hg hm (by decide +kernel) (pa_cons ha (pa_cons hb pa_nil) he) (by decide) (by decide) he hpl) fun σ H Q h => ?_
  obtain ⟨G, F, mu, sd, st, d, st', R, S, e, P⟩ := h
  simp only [Option.bind_eq_some_iff] at e
  obtain ⟨⟨xs, st1⟩, ⟨⟨y, st2⟩, e1, e3⟩, e2⟩ := e
  cases e3
  simp only [gBlt_isI, Option.map_eq_some_iff] at e2
  obtain ⟨b, e4, e5⟩ := e2
  cases e5
  refine ⟨G, F, mu, sd, st, y, _, R, S, e1, fun F1 mu1 H1 v1 x1 R1 r1 => ?_⟩
  obtain ⟨T, h1, h2⟩ := ty_at R1 r1 e4
  exact ⟨v1, .ty (tyName t), .type T, .type (tyName t), b, rfl, .ty _, h1, kit_ty h2, (P.step x1).here R1 (.bl _)⟩
theorem sd_iR1 (hg : Gl X "range") (hm : X.mg "range" = none) (ha : PE X a (TEd X.K fa)) (hs : starEach [a] X.env = [(false, eval a X.env)]) :
    PI X tg (.Call (.Name "range" p) [a] [] pos) (TId X.K fun sd st => (fa sd st).bind fun p => match p.1 with
      | .int j => if -(2 ^ 62) ≤ j ∧ j < 2 ^ 62 then some (.its (rngD 0 j.toNat), p.2) else none
      | _ => none) := by
  refine ofPI (pi_range1 hg hm (pa_cons ha pa_nil hs) hs) fun σ H R h => ?_
  obtain ⟨G, F, mu, sd, st, src, st', Rr, S, e, P⟩ := h
  rw [Option.bind_eq_some_iff] at e
  obtain ⟨⟨d, st1⟩, e1, e2⟩ := e
  split at e2
  · rename_i j hd
    have hd : d = .int j := hd
    subst hd
    split at e2
    · rename_i hj
      cases e2
      refine ⟨G, F, mu, sd, st, _, _, Rr, S, e1, fun F1 mu1 H1 v1 x1 R1 r1 => ?_⟩
      cases r1.intI
      exact ⟨j, rfl, hj.1, hj.2, P _ _ _ _ x1 R1 walks_rng⟩
    · cases e2
  · cases e2
theorem sd_iR2 (hg : Gl X "range") (hm : X.mg "range" = none) (ha : PE X a (TEd X.K fa)) (hb : PE X b (TEd X.K fb)) (hs : starEach [a, b] X.env = [(false, eval a X.env), (false, eval b X.env)]) (hs2 : starEach [b] X.env = [(false, eval b X.env)]) :
    PI X tg (.Call (.Name "range" p) [a, b] [] pos) (TId X.K fun sd st => (fa sd st).bind fun p => (fb sd p.2).bind fun q => match p.1, q.1 with
      | .int i, .int j => if -(2 ^ 62) ≤ i ∧ i < 2 ^ 62 ∧ -(2 ^ 62) ≤ j ∧ j < 2 ^ 62 then some (.its (rngD i (j - i).toNat), q.2) else none
      | _, _ => none) := by
  refine ofPI (pi_range2 hg hm (pa_cons ha (pa_cons hb pa_nil hs2) (by rw [hs, hs2])) hs hs2) fun σ H R h => ?_
  obtain ⟨G, F, mu, sd, st, src, st', Rr, S, e, P⟩ := h
  simp only [Option.bind_eq_some_iff] at e
  obtain ⟨⟨d, st1⟩, e1, ⟨d2, st2⟩, e3, e2⟩ := e
  split at e2
  · rename_i i j hd hd2
    have hd : d = .int i := hd
    have hd2 : d2 = .int j := hd2
    subst hd
    subst hd2
    split at e2
    · rename_i hj
      cases e2
      refine ⟨G, F, mu, sd, st, _, _, Rr, S, e1, fun F1 mu1 H1 v1 x1 R1 r1 => ?_⟩
      refine ⟨G, F1, mu1, sd, st1, _, _, R1, S.mono x1, e3, fun F2 mu2 H2 v2 x2 R2 r2 => ?_⟩
      cases r1.intI
      cases r2.intI
      exact ⟨i, j, rfl, hj, P _ _ _ _ (x1.trans x2) R2 walks_rng⟩
    · cases e2
  · cases e2
theorem sd_iEn {elts : List Expr} {kk : Nat} {tpos : Pos} (hg : Gl X "enumerate") (hm : X.mg "enumerate" = none) (ha : PE X a (TEd X.K fa)) (hs : starEach [a] X.env = [(false, eval a X.env)]) :
    PI X (.Tuple elts kk tpos) (.Call (.Name "enumerate" p) [a] [] pos) (TId X.K fun sd st => (fa sd st).bind fun p => match p.1 with
      | .lst xs => some (.its (enumD xs), p.2)
      | .ref n => some (.enc n, p.2)
      | _ => none) := by
  refine ofPI (pi_enum hg hm (pa_cons ha pa_nil hs) hs) fun σ H R h => ?_
  obtain ⟨G, F, mu, sd, st, src, st', Rr, S, e, P⟩ := h
  rw [Option.bind_eq_some_iff] at e
  obtain ⟨⟨d, st1⟩, e1, e2⟩ := e
  split at e2
  · rename_i xs hd
    have hd : d = .lst xs := hd
    subst hd
    cases e2
    refine ⟨G, F, mu, sd, st, _, _, Rr, S, e1, fun F1 mu1 H1 v1 x1 R1 r1 => ?_⟩
    cases r1 with
    | lst q rs => exact ⟨_, _, rfl, .inl (.inl (R1.sub _ _ q)), P _ _ _ _ x1 R1 (walks_enum (.inl (.inl q)) rs)⟩
  · rename_i n hd
    have hd : d = .ref n := hd
    subst hd
    cases e2
    refine ⟨G, F, mu, sd, st, _, _, Rr, S, e1, fun F1 mu1 H1 v1 x1 R1 r1 => ?_⟩
    cases r1 with
    | ref hm' =>
      obtain ⟨c, hc⟩ := R1.there hm'
      obtain ⟨vs, q, rs, _⟩ := R1.cell _ _ _ hm' hc
      exact ⟨_, _, rfl, .inl (.inl q), P _ _ _ _ x1 R1 (walks_enc hm')⟩
  · cases e2
end
end Jd

namespace Jd
open PySem PySem.Spec PyProof.Rows L2

/-! ### zip of a list and a tuple, either way about -/
def SqB (K : PySem.W.Frag) (t : Bool) (H : Hp) (a : Addr) (xs : List V) : Prop := match t with
  | false => SqL K H a xs
  | true => SqT K H a xs
def ItB (t : Bool) (h : Heap) (it a : Addr) (i : Nat) : Prop := match t with
  | false => h.IsListIter it a i
  | true => h.IsTupleIter it a i
def HasB (t : Bool) (h : Heap) (a : Addr) (its : Array Value) : Prop := match t with
  | false => h.IsList a its
  | true => h.IsTuple a its
theorem drawsB {prog : Program} {w : World} {A : Around} (t : Bool) (hh : A.handled = none) (it l : Addr) (hne : l ≠ it) (items : Array Value) :
    Draws prog w A it [it, l] items.size (fun i v => items[i]? = some v) (fun i h => ItB t h it l i ∧ HasB t h l items) := by
  cases t
  · exact Draws.list hh it l hne items
  · exact Draws.tuple hh it l hne items
theorem invB {X : Cx} {pins : List (Addr × Obj)} {σ : L2.St} {H : Hp} {s : Shared} (I : Inv X pins σ H s) {t : Bool} {a : Addr} {xs : List V} (q : SqB X.K t H a xs) : ∃ its : List Value, Vals xs its ∧ HasB t s.heap a its.toArray ∧ a < s.heap.objs.size := by
  cases t
  · obtain ⟨its, rv, p, _⟩ := I.list q
    exact ⟨its, rv, p.isList, p.lt⟩
  · obtain ⟨its, rv, p, _⟩ := I.tuple q
    obtain ⟨o, ho, hr⟩ := id p
    exact ⟨its, rv, p, Heap.lt_size ho⟩
theorem injB {X : Cx} {pins : List (Addr × Obj)} {σ : L2.St} {H : Hp} {s : Shared} (I : Inv X pins σ H s) {t : Bool} {a : Addr} {xs ys : List V} (q : SqB X.K t H a xs) (q' : SqB X.K t H a ys) : xs = ys := by
  cases t
  · exact I.list_inj q q'
  · exact I.tuple_inj q q'
theorem ItB.over {t : Bool} {h h' : Heap} {it a : Addr} {i : Nat} (q : ItB t h it a i) (k : ∀ o, h.get? it = some o → h'.get? it = some o) : ItB t h' it a i := by
  cases t
  · exact Heap.IsListIter.at q k
  · exact Heap.IsTupleIter.at q k
theorem ItB.obj {t : Bool} {h : Heap} {it a : Addr} {i : Nat} (q : ItB t h it a i) : ∃ o, h.get? it = some o ∧ ∀ v, o.data ≠ .cell v := by
  cases t
  · obtain ⟨o, e, _, d⟩ := q
    exact ⟨o, e, fun v z => by rw [d] at z; cases z⟩
  · obtain ⟨o, e, _, d⟩ := q
    exact ⟨o, e, fun v z => by rw [d] at z; cases z⟩
/-- both stand as they were at the start, with n1 and n2 items -/
def ItzM (K : PySem.W.Frag) (t1 t2 : Bool) (a b : Addr) (n1 n2 : Nat) : It where
  go := fun i H => ∃ (xs ys : List V) (x y : V), (SqB K t1 H a xs ∧ xs.length = n1) ∧ (SqB K t2 H b ys ∧ ys.length = n2) ∧ xs[i]? = some x ∧ ys[i]? = some y
  yld := fun i H v H' => ∃ T x y, v = .ref T ∧ H T = none ∧ H' = upd H T (.tup [x, y]) ∧ (∀ xs, SqB K t1 H a xs → xs[i]? = some x) ∧ ∀ ys, SqB K t2 H b ys → ys[i]? = some y
  stop := fun i H => ∃ xs ys : List V, (SqB K t1 H a xs ∧ xs.length = n1) ∧ (SqB K t2 H b ys ∧ ys.length = n2) ∧ (n1 ≤ i ∨ n2 ≤ i)
theorem turn_zipM {P : Program} {w : World} {K : PySem.W.Frag} {elts : List Expr} {kk : Nat} {tpos : Pos} {t1 t2 : Bool} {a b z TI TO i1 i2 : Addr} {n1 n2 : Nat} (S : ZipSep2 z TI TO i1 i2 [i1, a] [i2, b]) (na : a ≠ i1) (nb : b ≠ i2) :
    Turn P w K (.Tuple elts kk tpos) (ItzM K t1 t2 a b n1 n2) [z, TI, TO, i1, i2] z (fun i h => (i ≤ n1 ∧ i ≤ n2) ∧ IsZip h z TI TO .none ∧ IsPair h TI (.ref i1) (.ref i2) ∧ (∃ x y, IsPair h TO x y) ∧ ItB t1 h i1 a i ∧ ItB t2 h i2 b i) where
  mem := List.mem_cons_self ..
  obj := by
    rintro i h ⟨_, hz, hTI, ⟨x, y, hTO⟩, h1, h2⟩ c hc
    simp only [List.mem_cons, List.not_mem_nil, or_false] at hc
    rcases hc with rfl | rfl | rfl | rfl | rfl
    · exact ⟨_, hz, fun v q => nomatch q⟩
    · exact ⟨_, hTI, fun v q => nomatch q⟩
    · exact ⟨_, hTO, fun v q => nomatch q⟩
    · exact h1.obj
    · exact h2.obj
  keep := by
    rintro i h h' ⟨hn, hz, hTI, ⟨x, y, hTO⟩, h1, h2⟩ k
    exact ⟨hn, k z (by simp) _ hz, k TI (by simp) _ hTI, ⟨x, y, k TO (by simp) _ hTO⟩, h1.over (k i1 (by simp)), h2.over (k i2 (by simp))⟩
  item := by
    rintro X rfl rfl rfl hc i pins s σ H E I hf ⟨⟨ni1, ni2⟩, hz, hTI, ⟨x0, y0, hTO⟩, h1, h2⟩ ⟨xs, ys, x, y, ⟨qx, lx⟩, ⟨qy, ly⟩, hx, hy⟩
    obtain ⟨its, rv, p, _⟩ := invB I qx
    obtain ⟨its2, rv2, p2, _⟩ := invB I qy
    have f1 := rv.length
    have f2 := rv2.length
    obtain ⟨u, hu, ru⟩ := rv.get hx
    obtain ⟨u2, hu2, ru2⟩ := rv2.get hy
    have j1 : i < its.toArray.size := by rw [List.size_toArray]; exact (List.getElem?_eq_some_iff.mp hu).1
    have j2 : i < its2.toArray.size := by rw [List.size_toArray]; exact (List.getElem?_eq_some_iff.mp hu2).1
    have zl := Heap.lt_size hz
    have ha : X.A.in1.handled = none := I.ok.hd hc
    refine wpAny_pyNext_zipD2_item S (drawsB t1 ha i1 a na its.toArray) (drawsB t2 ha i2 b nb its2.toArray) hz hTI hTO ⟨h1, p⟩ ⟨h2, p2⟩ j1 j2 fun v1 v2 hp tk y1 y2 zip' to' d1 d2 tup _ keeps => ?_
    have e1 : v1 = u := by
      rw [List.getElem?_toArray, hu] at y1
      exact (Option.some.inj y1).symm
    have e2 : v2 = u2 := by
      rw [List.getElem?_toArray, hu2] at y2
      exact (Option.some.inj y2).symm
    subst e1
    subst e2
    have keep4 : ∀ {c : Addr} {o : Obj}, c ∉ [z, TI, TO, i1, i2] → s.heap.get? c = some o → hp.get? c = some o := fun {c o} hn q => by
      simp only [List.mem_cons, List.not_mem_nil, or_false, not_or] at hn
      exact keeps c o hn.1 hn.2.2.1 hn.2.2.2.1 hn.2.2.2.2 q
    refine ⟨_, rfl, wpAny_letOwnedTupleGo_zip (s := { s with heap := hp, toks := tk }) zip' fun hq zipq sb => ?_⟩
    have tupq : hq.get? s.heap.objs.size = some { cls := .type "tuple", data := .seq #[v1, v2] } := (sb.2 _ (Nat.ne_of_gt zl)).trans tup
    have okq : ObjOk X.prog X.w (upd H s.heap.objs.size (.tup [x, y])) hq s.heap.objs.size (.tup [x, y]) := ⟨by show 2 ≤ sizeLine; decide, [v1, v2], .cons ru (.cons ru2 .nil), _, tupq, rfl, _, rfl⟩
    have Iq : Inv X pins σ (upd H s.heap.objs.size (.tup [x, y])) { s with heap := hq, toks := tk } :=
      I.turnedNew (t' := tk) (ch := [z, TI, TO, i1, i2]) (fun c o hn q => (sb.2 c (fun e => hn (e ▸ List.mem_cons_self ..))).trans (keep4 hn q)) hf (Nat.le_refl _) okq
    refine ⟨.ref s.heap.objs.size, _, Iq, rfl, ⟨_, x, y, rfl, I.hok.fresh (Nat.le_refl _), rfl, fun l hl => by rw [injB I hl qx]; exact hx, fun l hl => by rw [injB I hl qy]; exact hy⟩, ⟨⟨?_, ?_⟩, zipq, ?_, ⟨v1, v2, ?_⟩, ?_, ?_⟩, fun c hcm => ?_⟩
    · have := (List.getElem?_eq_some_iff.mp hx).1; omega
    · have := (List.getElem?_eq_some_iff.mp hy).1; omega
    · exact (sb.2 _ S.TIz).trans (keeps _ _ S.TIz S.TITO S.TIi1 S.TIi2 hTI)
    · exact (sb.2 _ S.TOz).trans to'
    · exact d1.1.over fun o q => (sb.2 _ (fun e => S.zi1 e.symm)).trans q
    · exact d2.1.over fun o q => (sb.2 _ (fun e => S.zi2 e.symm)).trans q
    · have old : c < s.heap.objs.size := by
        simp only [List.mem_cons, List.not_mem_nil, or_false] at hcm
        rcases hcm with rfl | rfl | rfl | rfl | rfl
        · exact zl
        · exact Heap.lt_size hTI
        · exact Heap.lt_size hTO
        · obtain ⟨_, q, _⟩ := h1.obj; exact Heap.lt_size q
        · obtain ⟨_, q, _⟩ := h2.obj; exact Heap.lt_size q
      rw [upd_ne (Nat.ne_of_lt old)]
      exact (hf c hcm).1
  done := by
    rintro X rfl rfl rfl hc i pins s σ H E I hf ⟨⟨ni1, ni2⟩, hz, hTI, ⟨x0, y0, hTO⟩, h1, h2⟩ ⟨xs, ys, ⟨qx, lx⟩, ⟨qy, ly⟩, hend⟩
    obtain ⟨its, rv, p, _⟩ := invB I qx
    obtain ⟨its2, rv2, p2, _⟩ := invB I qy
    have f1 := rv.length
    have f2 := rv2.length
    have ha : X.A.in1.handled = none := I.ok.hd hc
    have g1 : its.toArray.size = n1 := by rw [List.size_toArray]; omega
    have g2 : its2.toArray.size = n2 := by rw [List.size_toArray]; omega
    refine wpAny_pyNext_zipD2_end S (drawsB t1 ha i1 a na its.toArray) (drawsB t2 ha i2 b nb its2.toArray) hz hTI hTO ⟨h1, p⟩ ⟨h2, p2⟩ (by omega) (by omega) (by omega) fun hp tk keeps => ⟨rfl, I.turnedL (t' := tk) (ch := [z, TI, TO, i1, i2]) (fun c o hn q => ?_) hf⟩
    simp only [List.mem_cons, List.not_mem_nil, or_false, not_or] at hn
    exact keeps c o hn.1 hn.2.2.1 hn.2.2.2.1 hn.2.2.2.2 q
  self := by
    rintro A i s Q E ⟨_, hz, _⟩ h
    exact wpAny_pyIter_zip hz h
theorem begL {h : Heap} {it l : Addr} (q : h.get? it = some { cls := .type "list_iterator", data := .fields #[.ref l, .int 0 0] }) : ItB false h it l 0 := ⟨_, q, rfl, rfl⟩
theorem begT {h : Heap} {it l : Addr} (q : h.get? it = some { cls := .type "tuple_iterator", data := .fields #[.ref l, .int 0 0] }) : ItB true h it l 0 := ⟨_, q, rfl, rfl⟩
theorem begB (t : Bool) (l : Addr) (items : Array Value) : ∃ o : Obj, Begins (.ref l) o (fun h => HasB t h l items) ∧ ∀ (h : Heap) (it : Addr), h.get? it = some o → ItB t h it l 0 := by
  cases t
  · exact ⟨_, begins_list l items, fun h it q => begL q⟩
  · exact ⟨_, begins_tuple l items, fun h it q => begT q⟩
theorem nat_ne {m n : Nat} (h : m ≠ n) : (m : Addr) ≠ (n : Addr) := h
theorem nin2 {m x y : Nat} (h : m ≠ x) (h' : m ≠ y) : (m : Addr) ∉ ([x, y] : List Addr) := by
  intro q
  rcases List.mem_cons.mp q with q | q
  · exact h q
  · exact h' (List.mem_singleton.mp q)
theorem zipsep (n a b : Nat) (ha : a < n) (hb : b < n) : ZipSep2 (n+4) (n+2) (n+3) n (n+1) [n,a] [n+1,b] where
  TIz := nat_ne (by omega)
  TOz := nat_ne (by omega)
  TITO := nat_ne (by omega)
  TIi1 := nat_ne (by omega)
  mem1 := List.mem_cons_self ..
  zf1 := nin2 (by omega) (by omega)
  Tf1 := nin2 (by omega) (by omega)
  TIi2 := nat_ne (by omega)
  mem2 := List.mem_cons_self ..
  zf2 := nin2 (by omega) (by omega)
  Tf2 := nin2 (by omega) (by omega)
  sep1_2 := nin2 (by omega) (by omega)
  sep2_1 := nin2 (by omega) (by omega)

theorem fresh_le {n c : Nat} (h : (c : Addr) ∈ ([n + 4, n + 2, n + 3, n, n + 1] : List Addr)) : n ≤ c := by
  have h : (c : Nat) = n + 4 ∨ c = n + 2 ∨ c = n + 3 ∨ c = n ∨ c = n + 1 := by simpa using h
  omega
def iZipM (K : PySem.W.Frag) (ta : TA) : TI := fun σ H R => ta σ H fun vs H1 => ∃ t1 t2 a b xs ys, vs = [.ref a, .ref b] ∧ SqB K t1 H1 a xs ∧ SqB K t2 H1 b ys ∧ R (ItzM K t1 t2 a b xs.length ys.length) H1
theorem pi_zipM {X : Cx} {e e2 : Expr} {ta : TA} {p pos tpos : Pos} {elts : List Expr} {kk : Nat} (hg : Gl X "zip") (hm : X.mg "zip" = none) (ha : PA X [e, e2] ta)
    (hs : starEach [e, e2] X.env = (false, eval e X.env) :: starEach [e2] X.env) (hpl : (backTo pos (starEach [e2] X.env)).any (·.1) = false) :
    PI X (.Tuple elts kk tpos) (.Call (.Name "zip" p) [e, e2] [] pos) (iZipM X.K ta) := by
  refine ⟨fun pins s σ H R I h => ?_⟩
  refine Call_ (ld_blt I hg hm PyProof.Rows.boot_zip (PyProof.Rows.callWith_type1 (thn (ha.run pos pins s σ H _ I h) fun us s1 ⟨vs, H1, I1, r1, q1⟩ => ?_) hs hpl))
  obtain ⟨t1, t2, a, b, xs, ys, rfl, qx, qy, q⟩ := q1
  cases r1 with
  | cons ra r2 =>
  cases r2 with
  | cons rb r3 =>
  cases r3
  cases ra
  cases rb
  obtain ⟨its, rv, p1, l1⟩ := invB I1 qx
  obtain ⟨its2, rv2, p2, l2⟩ := invB I1 qy
  obtain ⟨o1, B1, s1'⟩ := begB t1 a its.toArray
  obtain ⟨o2, B2, s2'⟩ := begB t2 b its2.toArray
  refine zip_begins2 B1 B2 p1 p2 fun hp hz hTI hTO g1 g2 hsz hk => wpAny_pyIter_zip hz ?_
  have I2 : Inv X pins σ H1 { s1 with heap := hp } := I1.kept (t' := s1.toks) hk
  have S := zipsep s1.heap.objs.size a b l1 l2
  refine ⟨s1.heap.objs.size + 4, [s1.heap.objs.size + 4, s1.heap.objs.size + 2, s1.heap.objs.size + 3, s1.heap.objs.size, s1.heap.objs.size + 1], _, _, H1, rfl, I2, turn_zipM S (Nat.ne_of_lt l1) (Nat.ne_of_lt (Nat.lt_succ_of_lt l2)), ⟨⟨Nat.zero_le _, Nat.zero_le _⟩, hz, hTI, ⟨_, _, hTO⟩, s1' _ _ g1, s2' _ _ g2⟩, fun c hcm => ?_, q⟩
  have hle : s1.heap.objs.size ≤ c := fresh_le hcm
  exact I1.fpOk hle (I1.hok.fresh hle)
theorem SqB.up {K : PySem.W.Frag} {t : Bool} {F F' : Hp} {a : Addr} {xs : List V} (e : Same F F') (q : SqB K t F a xs) : SqB K t F' a xs := by
  cases t
  · exact e.seq q
  · exact Same.tupT e q
theorem walks_zipM {K : PySem.W.Frag} {F : Hp} {mu : List Addr} {t1 t2 : Bool} {a b : Addr} {xs ys : List D} {vs ws : List V} (q : SqB K t1 F a vs) (q2 : SqB K t2 F b ws) (r : DVs K F mu vs xs) (r2 : DVs K F mu ws ys) :
    Walks K F mu (.its (zipD xs ys)) (ItzM K t1 t2 a b vs.length ws.length) where
  stop := fun G F' mu' st H i e R h => by
    have h : some (zipD xs ys)[i]? = some none := h
    rw [zip_get] at h
    have h := Option.some.inj h
    refine ⟨vs, ws, ⟨(q.up e.1).up R.sub, rfl⟩, ⟨(q2.up e.1).up R.sub, rfl⟩, ?_⟩
    rw [r.length, r2.length]
    split at h
    · cases h
    · rename_i hn
      rcases Nat.lt_or_ge i xs.length with z | z
      · rcases Nat.lt_or_ge i ys.length with z2 | z2
        · exact absurd (List.getElem?_eq_getElem z2) (hn _ _ (List.getElem?_eq_getElem z))
        · exact .inr z2
      · exact .inl z
  go := fun G F' mu' st H i x e R h => by
    have h : some (zipD xs ys)[i]? = some (some x) := h
    rw [zip_get] at h
    have h := Option.some.inj h
    split at h
    · rename_i x1 y1 hx hy
      cases h
      obtain ⟨v, h1, h2⟩ := (r.mono e).get hx
      obtain ⟨w, g1, g2⟩ := (r2.mono e).get hy
      have q' := (q.up e.1).up R.sub
      have q2' := (q2.up e.1).up R.sub
      refine ⟨⟨vs, ws, v, w, ⟨q', rfl⟩, ⟨q2', rfl⟩, h1, g1⟩, fun u H' z => ?_⟩
      obtain ⟨T, x, y, rfl, hT, rfl, z, z2⟩ := z
      have := (z vs q').symm.trans h1
      cases this
      have := (z2 ws q2').symm.trans g1
      cases this
      obtain ⟨R', ex⟩ := R.newF (o := .tup [v, w]) hT
      exact ⟨_, ex, R', .tup (.inl (.inl upd_same)) (.cons (h2.mono ex) (.one (g2.mono ex)))⟩
    · cases h
theorem items_at {K : PySem.W.Frag} {F : Hp} {mu : List Addr} {v : V} {d : D} {xs : List D} (r : DV K F mu v d) (h : itemsD d = some xs) : ∃ t a vs, v = .ref a ∧ SqB K t F a vs ∧ DVs K F mu vs xs := by
  cases r with
  | lst q rs => cases h; exact ⟨false, _, _, rfl, .inl (.inl q), rs⟩
  | tup q rs => cases h; exact ⟨true, _, _, rfl, q, rs⟩
  | _ => cases h
theorem sd_iZip {X : Cx} {a b : Expr} {fa fb : En → Sto → Option (D × Sto)} {p pos : Pos} {elts : List Expr} {kk : Nat} {tpos : Pos} (hg : Gl X "zip") (hm : X.mg "zip" = none) (ha : PE X a (TEd X.K fa)) (hb : PE X b (TEd X.K fb)) (hs : starEach [a, b] X.env = (false, eval a X.env) :: starEach [b] X.env) (hs2 : starEach [b] X.env = [(false, eval b X.env)]) (hpl : (backTo pos (starEach [b] X.env)).any (·.1) = false) :
    PI X (.Tuple elts kk tpos) (.Call (.Name "zip" p) [a, b] [] pos) (TId X.K fun sd st => (fa sd st).bind fun p => (fb sd p.2).bind fun q => (itemsD p.1).bind fun xs => (itemsD q.1).map fun ys => (.its (zipD xs ys), q.2)) := by
  refine ofPI (pi_zipM hg hm (pa_cons ha (pa_cons hb pa_nil hs2) hs) hs hpl) fun σ H R h => ?_
  obtain ⟨G, F, mu, sd, st, src, st', Rr, S, e, P⟩ := h
  simp only [Option.bind_eq_some_iff, Option.map_eq_some_iff] at e
  obtain ⟨⟨d, st1⟩, e1, ⟨d2, st2⟩, e3, xs, g1, ys, g2, e2⟩ := e
  cases e2
  refine ⟨G, F, mu, sd, st, _, _, Rr, S, e1, fun F1 mu1 H1 v1 x1 R1 r1 => ?_⟩
  refine ⟨G, F1, mu1, sd, st1, _, _, R1, S.mono x1, e3, fun F2 mu2 H2 v2 x2 R2 r2 => ?_⟩
  obtain ⟨t1, a1, vs, rfl, q1, rs1⟩ := items_at (r1.mono x2) g1
  obtain ⟨t2, a2, ws, rfl, q2, rs2⟩ := items_at r2 g2
  exact ⟨t1, t2, a1, a2, vs, ws, rfl, q1.up R2.sub, q2.up R2.sub, P _ _ _ _ (x1.trans x2) R2 (walks_zipM q1 q2 rs1 rs2)⟩
end Jd

namespace Jd
open PySem PySem.Spec PyProof.Rows L2

def TGd (K : PySem.W.Frag) (rl : L2.St → L2.St → Prop) (f : D → En → Sto → Option (En × Sto)) : TG := fun v σ H Q => ∃ G F mu sd st d sd' st', Rp K G F mu st H ∧ Rs K F mu sd σ ∧ DV K F mu v d ∧ f d sd st = some (sd', st') ∧ ∀ F' mu' H' σ', Ex F mu F' mu' → Rp K G F' mu' st' H' → Rs K F' mu' sd' σ' → rl σ σ' → Q σ' H'
def TGds (K : PySem.W.Frag) (rl : L2.St → L2.St → Prop) (f : List D → En → Sto → Option (En × Sto)) : TGs := fun vs σ H Q => ∃ G F mu sd st ds sd' st', Rp K G F mu st H ∧ Rs K F mu sd σ ∧ DVs K F mu vs ds ∧ f ds sd st = some (sd', st') ∧ ∀ F' mu' H' σ', Ex F mu F' mu' → Rp K G F' mu' st' H' → Rs K F' mu' sd' σ' → rl σ σ' → Q σ' H'
/-- what is wanted behind a statement -/
def PoS (K : PySem.W.Frag) (G F : Hp) (mu : List Addr) (st' : Sto) (fl : Fl) (Dn : Ends) : Prop := ∀ F' mu' H', Ex F mu F' mu' → Rp K G F' mu' st' H' → match fl with
  | .nx sd' => ∀ σ', Rs K F' mu' sd' σ' → Dn.nx σ' H'
  | .bk sd' => ∀ σ', Rs K F' mu' sd' σ' → Dn.bk σ' H'
  | .ct sd' => ∀ σ', Rs K F' mu' sd' σ' → Dn.ct σ' H'
  | .rt d => ∀ v, DV K F' mu' v d → Dn.rt v H'
def TSd (K : PySem.W.Frag) (f : En → Sto → Option (Fl × Sto)) : TS := fun Dn σ H => ∃ G F mu sd st fl st', Rp K G F mu st H ∧ Rs K F mu sd σ ∧ f sd st = some (fl, st') ∧ PoS K G F mu st' fl Dn
theorem PoS.step {K : PySem.W.Frag} {G F F1 : Hp} {mu mu1 : List Addr} {st' : Sto} {fl : Fl} {Dn : Ends} (p : PoS K G F mu st' fl Dn) (e : Ex F mu F1 mu1) : PoS K G F1 mu1 st' fl Dn := fun F' mu' H' x R => p F' mu' H' (e.trans x) R

section
variable {X : Cx} {rl : L2.St → L2.St → Prop}
theorem sg_name {i : Nat} {x : Str} {pos : Pos} (hr : ∀ σ v, rl σ (σ.set i v)) (hN : X.N.Nodup) (hi : X.N[i]? = some x) (hx : Loc X.env.scope x) (hf : X.fn x = true ∨ X.env.scope.names.lookup x = some .local) : PG X (.Name x pos) (TGd X.K rl fun d sd st => some (sd.set i (some d), st)) := by
  refine ofPG (pg_name hN hi hx hf) fun v σ H Q h => ?_
  obtain ⟨G, F, mu, sd, st, d, sd', st', R, S, r, e, P⟩ := h
  cases e
  exact P _ _ _ _ Ex.refl R (S.set r i) (hr _ _)
theorem sgs_nil (hr : ∀ σ, rl σ σ) : PGs X [] (TGds X.K rl fun ds sd st => match ds with | [] => some (sd, st) | _ => none) := by
  refine ofPGs pgs_nil fun vs σ H Q h => ?_
  obtain ⟨G, F, mu, sd, st, ds, sd', st', R, S, r, e, P⟩ := h
  simp only at e
  split at e
  · cases e
    cases r
    exact ⟨rfl, P _ _ _ _ Ex.refl R S (hr _)⟩
  · cases e
theorem sgs_cons {e : Expr} {es : List Expr} {f : D → En → Sto → Option (En × Sto)} {fs : List D → En → Sto → Option (En × Sto)} (hr : ∀ σ σ' σ'', rl σ σ' → rl σ' σ'' → rl σ σ'') (h1 : PG X e (TGd X.K rl f)) (h2 : PGs X es (TGds X.K rl fs))
    (hs : (assignEach (e :: es) X.env).map (·.2) = assign e X.env :: (assignEach es X.env).map (·.2)) : PGs X (e :: es) (TGds X.K rl fun ds sd st => match ds with
      | d :: ds => (f d sd st).bind fun p => fs ds p.1 p.2
      | _ => none) := by
  refine ofPGs (pgs_cons h1 h2 hs) fun vs σ H Q h => ?_
  obtain ⟨G, F, mu, sd, st, ds, sd', st', R, S, r, e, P⟩ := h
  simp only at e
  split at e
  · rw [Option.bind_eq_some_iff] at e
    obtain ⟨⟨sd1, st1⟩, e1, e2⟩ := e
    cases r with
    | cons r rr =>
      refine ⟨_, _, rfl, G, F, mu, sd, st, _, sd1, st1, R, S, r, e1, fun F1 mu1 H1 σ1 x1 R1 S1 l1 => ?_⟩
      exact ⟨G, F1, mu1, sd1, st1, _, sd', st', R1, S1, rr.mono x1, e2, fun F2 mu2 H2 σ2 x2 R2 S2 l2 => P _ _ _ _ (x1.trans x2) R2 S2 (hr _ _ _ l1 l2)⟩
  · cases e
theorem sg_tup {es : List Expr} {k : Nat} {pos : Pos} {fs : List D → En → Sto → Option (En × Sto)} (hc : X.calm = true) (h : PGs X es (TGds X.K rl fs)) (hst : (assignEach es X.env).findIdx? (·.1) = none)
    (hlen : ∀ ds sd st r, fs ds sd st = some r → ds.length = (assignEach es X.env).length) : PG X (.Tuple es k pos) (TGd X.K rl fun d sd st => match d with
      | .tup ds => fs ds sd st
      | _ => none) := by
  refine ofPG (pg_tup hc h rfl hst) fun v σ H Q h => ?_
  obtain ⟨G, F, mu, sd, st, d, sd', st', R, S, r, e, P⟩ := h
  simp only at e
  split at e
  · cases r with
    | tup q rs => exact ⟨_, _, rfl, Same.tupT R.sub q, by rw [rs.length]; exact hlen _ _ _ _ e, G, F, mu, sd, st, _, sd', st', R, S, rs, e, P⟩
  · cases e
theorem sg_sub {o i : Expr} {pos : Pos} {fo fi : En → Sto → Option (D × Sto)} (hr : ∀ σ, rl σ σ) (ho : PE X o (TEd X.K fo)) (hi : PE X i (TEd X.K fi)) (ha : ∀ v, assign (.Subscript o i pos) X.env v = (do
      let ov ← holding [v] (eval o X.env)
      let iv ← holding [v, ov] (eval i X.env)
      standAt pos
      holding [v, ov, iv] (setItem ov iv v)
      release [v, ov, iv] [])) : PG X (.Subscript o i pos) (TGd X.K rl fun d sd st => (fo sd st).bind fun p => (fi sd p.2).bind fun q => (gSet p.1 q.1 d q.2).map fun st' => (sd, st')) := by
  refine ofPG (pg_sub ho hi sd_set ha) fun v σ H Q h => ?_
  obtain ⟨G, F, mu, sd, st, d, sd', st', R, S, r, e, P⟩ := h
  simp only [Option.bind_eq_some_iff, Option.map_eq_some_iff] at e
  obtain ⟨⟨x, st1⟩, e1, ⟨y, st2⟩, e2, st3, e3, e4⟩ := e
  cases e4
  refine ⟨G, F, mu, sd, st, x, st1, R, S, e1, fun F1 mu1 H1 v1 x1 R1 r1 => ?_⟩
  refine ⟨G, F1, mu1, sd, st1, y, st2, R1, S.mono x1, e2, fun F2 mu2 H2 v2 x2 R2 r2 => ?_⟩
  exact ⟨G, F2, mu2, st2, x, y, d, _, R2, r1.mono x2, r2, r.mono (x1.trans x2), e3, fun H' R' => P _ _ _ _ (x1.trans x2) R' (S.mono (x1.trans x2)) (hr _)⟩
/-- anything goes -/
def rAll : L2.St → L2.St → Prop := fun _ _ => True
/-- but for places that are forgotten -/
def rOwn (own : List Nat) : L2.St → L2.St → Prop := fun σ σ' => wipe σ' own = wipe σ own
theorem wipe_set {σ : L2.St} {i : Nat} {v : Option V} : ∀ {own : List Nat}, i ∈ own → wipe (σ.set i v) own = wipe σ own
  | [], h => by cases h
  | j :: own, h => by
    show (wipe (σ.set i v) own).set j none = (wipe σ own).set j none
    by_cases hj : i ∈ own
    · rw [wipe_set hj]
    · have e : i = j := by
        rcases List.mem_cons.mp h with z | z
        · exact z
        · exact absurd z hj
      subst e
      have : ∀ (own : List Nat), i ∉ own → wipe (σ.set i v) own = (wipe σ own).set i v := fun own => by
        induction own with
        | nil => exact fun _ => rfl
        | cons k own ih =>
          intro hk
          rw [List.mem_cons, not_or] at hk
          show (wipe (σ.set i v) own).set k none = ((wipe σ own).set k none).set i v
          rw [ih hk.2, List.set_comm _ _ hk.1]
      rw [this own hj, List.set_set]
/-! ### loops -/
theorem ss_for {tg it : Expr} {body : List Stmt} {pos : Pos} {fI : En → Sto → Option (Src × Sto)} {fG : D → En → Sto → Option (En × Sto)} {fB : En → Sto → Option (Fl × Sto)} (hp : PassesOwn (model X.prog X.w) X.A X.env X.xe) (hc : X.calm = true) (hi : PI X tg it (TId X.K fI)) (hg : PG X tg (TGd X.K rAll fG)) (hb : PSs X body (TSd X.K fB))
    (hs : ∀ x, foldedSetIterable it X.env x = pure x) : PS X (.For tg it body [] pos) (TSd X.K fun sd st => (fI sd st).bind fun p => forS p.1 fG fB (srcLen p.1 p.2) 0 sd p.2) := by
  refine ofPS (ps_for hp hc hi hg hb hs) fun Dn σ H h => ?_
  obtain ⟨G, F, mu, sd, st, fl, st', R, S, e, P⟩ := h
  simp only [Option.bind_eq_some_iff] at e
  obtain ⟨⟨src, st1⟩, e1, e2⟩ := e
  refine ⟨G, F, mu, sd, st, src, st1, R, S, e1, fun F1 mu1 H1 J x1 R1 wk => ?_⟩
  refine ⟨fun i m σ H => ∃ F2 mu2 sd2 st2, Ex F1 mu1 F2 mu2 ∧ Rp X.K G F2 mu2 st2 H ∧ Rs X.K F2 mu2 sd2 σ ∧ forS src fG fB m i sd2 st2 = some (fl, st'), ⟨_, F1, mu1, sd, st1, Ex.refl, R1, S.mono x1, e2⟩, ?_⟩
  rintro i m σ2 H2 ⟨F2, mu2, sd2, st2, x2, R2, S2, e3⟩
  have x12 := x1.trans x2
  rw [forS.eq_def] at e3
  simp only at e3
  cases hsa : srcAt src st2 i with
  | none =>
    rw [hsa] at e3
    cases e3
  | some ox =>
    rw [hsa] at e3
    cases ox with
    | none =>
      cases e3
      exact .inl ⟨wk.stop _ _ _ _ _ _ x2 R2 hsa, P _ _ _ x12 R2 _ S2⟩
    | some x =>
      obtain ⟨g1, g2⟩ := wk.go _ _ _ _ _ _ _ x2 R2 hsa
      refine .inr ⟨g1, ?_⟩
      cases m with
      | zero => cases e3
      | succ m =>
        simp only at e3
        refine ⟨fun σ' H' => ∃ F2 mu2 sd2 st2, Ex F1 mu1 F2 mu2 ∧ Rp X.K G F2 mu2 st2 H' ∧ Rs X.K F2 mu2 sd2 σ' ∧ forS src fG fB m (i + 1) sd2 st2 = some (fl, st'), fun σ' H' w => ⟨m, Nat.lt_succ_self _, w⟩, fun v H3 hy => ?_⟩
        obtain ⟨F3, x3, R3, r3⟩ := g2 v H3 hy
        cases hg1 : fG x sd2 st2 with
        | none =>
          rw [hg1] at e3
          cases e3
        | some p =>
          obtain ⟨sd3, st3⟩ := p
          rw [hg1] at e3
          simp only at e3
          refine ⟨G, F3, mu2, sd2, st2, x, sd3, st3, R3, S2.mono x3, r3, hg1, fun F4 mu4 H4 σ4 x4 R4 S4 _ => ?_⟩
          have x14 := (x2.trans x3).trans x4
          cases hb1 : fB sd3 st3 with
          | none =>
            rw [hb1] at e3
            cases e3
          | some p =>
            obtain ⟨fl4, st4⟩ := p
            rw [hb1] at e3
            refine ⟨G, F4, mu4, sd3, st3, fl4, st4, R4, S4, hb1, fun F5 mu5 H5 x5 R5 => ?_⟩
            cases fl4 with
            | nx sd5 => exact fun σ5 S5 => ⟨F5, mu5, sd5, st4, x14.trans x5, R5, S5, e3⟩
            | ct sd5 => exact fun σ5 S5 => ⟨F5, mu5, sd5, st4, x14.trans x5, R5, S5, e3⟩
            | bk sd5 =>
              cases e3
              exact fun σ5 S5 => P _ _ _ (x1.trans (x14.trans x5)) R5 _ S5
            | rt d =>
              cases e3
              exact fun v5 r5 => P _ _ _ (x1.trans (x14.trans x5)) R5 _ r5
theorem whS_some {t : En → Sto → Option (Bool × Sto)} {b : En → Sto → Option (Fl × Sto)} {sd : En} {st : Sto} {r : Fl × Sto} (h : whS t b sd st = some r) : ∃ n, whN t b n sd st = some r := by
  unfold whS at h
  split at h
  · exact ⟨_, h⟩
  · cases h
theorem ss_while {c : Expr} {body : List Stmt} {pos : Pos} {fT : En → Sto → Option (Bool × Sto)} {fB : En → Sto → Option (Fl × Sto)} (hp : PassesOwn (model X.prog X.w) X.A X.env X.xe) (hc : PT X c (TTd X.K fT)) (hb : PSs X body (TSd X.K fB)) : PS X (.While c body [] pos) (TSd X.K fun sd st => whS fT fB sd st) := by
  refine ofPS (ps_while hp hc hb) fun Dn σ H h => ?_
  obtain ⟨G, F, mu, sd, st, fl, st', R, S, e, P⟩ := h
  obtain ⟨n, e⟩ := whS_some e
  refine ⟨fun m σ H => ∃ F2 mu2 sd2 st2, Ex F mu F2 mu2 ∧ Rp X.K G F2 mu2 st2 H ∧ Rs X.K F2 mu2 sd2 σ ∧ whN fT fB m sd2 st2 = some (fl, st'), ⟨n, F, mu, sd, st, Ex.refl, R, S, e⟩, ?_⟩
  rintro m σ2 H2 ⟨F2, mu2, sd2, st2, x2, R2, S2, e3⟩
  cases m with
  | zero => cases e3
  | succ m =>
    rw [whN.eq_def] at e3
    simp only at e3
    cases ht : fT sd2 st2 with
    | none =>
      rw [ht] at e3
      cases e3
    | some p =>
      obtain ⟨k, st3⟩ := p
      rw [ht] at e3
      refine ⟨G, F2, mu2, sd2, st2, k, st3, R2, S2, ht, fun F3 mu3 H3 x3 R3 => ?_⟩
      have x23 := x2.trans x3
      cases k with
      | false =>
        cases e3
        exact P _ _ _ x23 R3 _ (S2.mono x3)
      | true =>
        simp only at e3
        refine ⟨fun σ' H' => ∃ F2 mu2 sd2 st2, Ex F mu F2 mu2 ∧ Rp X.K G F2 mu2 st2 H' ∧ Rs X.K F2 mu2 sd2 σ' ∧ whN fT fB m sd2 st2 = some (fl, st'), fun σ' H' w => ⟨m, Nat.lt_succ_self _, w⟩, ?_⟩
        cases hb1 : fB sd2 st3 with
        | none =>
          rw [hb1] at e3
          cases e3
        | some p =>
          obtain ⟨fl4, st4⟩ := p
          rw [hb1] at e3
          refine ⟨G, F3, mu3, sd2, st3, fl4, st4, R3, S2.mono x3, hb1, fun F5 mu5 H5 x5 R5 => ?_⟩
          cases fl4 with
          | nx sd5 => exact fun σ5 S5 => ⟨F5, mu5, sd5, st4, x23.trans x5, R5, S5, e3⟩
          | ct sd5 => exact fun σ5 S5 => ⟨F5, mu5, sd5, st4, x23.trans x5, R5, S5, e3⟩
          | bk sd5 =>
            cases e3
            exact fun σ5 S5 => P _ _ _ (x23.trans x5) R5 _ S5
          | rt d =>
            cases e3
            exact fun v5 r5 => P _ _ _ (x23.trans x5) R5 _ r5
theorem Rs.wiped {K : PySem.W.Frag} {F : Hp} {mu : List Addr} {sd : En} {σ : L2.St} (h : Rs K F mu sd σ) : ∀ vs : List Nat, Rs K F mu (wipeD sd vs) (wipe σ vs)
  | [] => h
  | v :: vs => by
    have ih := Rs.wiped h vs
    refine ⟨by show ((wipeD sd vs).set v none).length = ((wipe σ vs).set v none).length; rw [List.length_set, List.length_set, ih.1], fun i d q => ?_⟩
    have q : ((wipeD sd vs).set v none)[i]? = some (some d) := q
    show ∃ w, ((wipe σ vs).set v none)[i]? = some (some w) ∧ _
    by_cases hi : v = i
    · subst hi
      by_cases hv : v < (wipeD sd vs).length
      · rw [List.getElem?_set_self hv] at q
        cases q
      · rw [List.getElem?_eq_none (by simpa using hv)] at q
        cases q
    · rw [List.getElem?_set_ne hi] at q ⊢
      exact ih.2 i d q
theorem ls_lc {own : List Nat} {K : PySem.W.Frag} {fI : En → Sto → Option (Src × Sto)} {fG : D → En → Sto → Option (En × Sto)} {fT : En → Sto → Option (Bool × Sto)} {fE : En → Sto → Option (D × Sto)} {m : Bool} {σ : L2.St} {H : Hp} {Q : VK}
    (h : TEd K (fun sd st => (fI sd st).bind fun p => (lcS p.1 fG fT fE (wipeD sd own) (srcLen p.1 p.2) 0 p.2).bind fun q => if lenOk q.1.length then mkL m q.1 q.2 else none) σ H Q) : tLc (TId K fI) (TGd K (rOwn own) fG) (TTd K fT) (TEd K fE) own σ H Q := by
  obtain ⟨G, F, mu, sd, st, d, st', R, S, e, P⟩ := h
  simp only [Option.bind_eq_some_iff] at e
  obtain ⟨⟨src, st1⟩, e1, ⟨ds, st2⟩, e2, e4⟩ := e
  split at e4
  case isFalse => cases e4
  rename_i hz
  have hz := of_decide_eq_true hz
  refine ⟨G, F, mu, sd, st, src, st1, R, S, e1, fun F1 mu1 H1 J x1 R1 wk Dd hD => ?_⟩
  have hGD : G Dd = none := Same.free R1.gs hD
  let W : Nat → Nat → Hp → Prop := fun i m H => ∃ F2 mu2 st3 pre vs rest, Ex F1 mu1 F2 mu2 ∧ Rp K (upd G Dd (.lst vs)) F2 mu2 st3 H ∧ DVs K F2 mu2 vs pre ∧ ds = pre ++ rest ∧ lcS src fG fT fE (wipeD sd own) m i st3 = some (rest, st2)
  refine ⟨W, ⟨_, F1, mu1, st1, [], [], ds, Ex.refl, R1.addG hD, .nil, rfl, e2⟩, ?_⟩
  rintro i k H2 ⟨F2, mu2, st3, pre, vs, rest, x2, R2, rp, ed, e3⟩
  have x12 := x1.trans x2
  rw [lcS.eq_def] at e3
  simp only at e3
  cases hsa : srcAt src st3 i with
  | none =>
    rw [hsa] at e3
    cases e3
  | some ox =>
    rw [hsa] at e3
    cases ox with
    | none =>
      cases e3
      refine .inl ⟨wk.stop _ _ _ _ _ _ x2 R2 hsa, ?_⟩
      rw [List.append_nil] at ed
      subst ed
      unfold mkL at e4
      cases m with
      | false =>
        simp only [Bool.false_eq_true, if_false] at e4
        cases e4
        obtain ⟨R3, x3⟩ := R2.toF hGD
        exact P _ _ _ _ (x12.trans x3) R3 (.lst upd_same (rp.mono x3))
      | true =>
        simp only [if_true] at e4
        split at e4
        · rename_i hp
          cases e4
          obtain ⟨R3, x3⟩ := R2.toC hGD (rp.ofPure hp)
          refine P _ _ _ _ (x12.trans x3) R3 (.ref ?_)
          rw [← R2.len, List.getElem?_append_right (Nat.le_refl _), Nat.sub_self]
          rfl
        · cases e4
    | some x =>
      obtain ⟨g1, g2⟩ := wk.go _ _ _ _ _ _ _ x2 R2 hsa
      refine .inr ⟨g1, ?_⟩
      cases k with
      | zero => cases e3
      | succ k =>
        simp only at e3
        refine ⟨W (i + 1) k, fun H' w => ⟨k, Nat.lt_succ_self _, w⟩, fun v H3 hy => ?_⟩
        obtain ⟨F3, x3, R3, r3⟩ := g2 v H3 hy
        cases hg1 : fG x (wipeD sd own) st3 with
        | none =>
          rw [hg1] at e3
          cases e3
        | some p =>
          obtain ⟨sd3, st4⟩ := p
          rw [hg1] at e3
          simp only at e3
          refine ⟨upd G Dd (.lst vs), F3, mu2, wipeD sd own, st3, x, sd3, st4, R3, ((S.mono x12).mono x3).wiped own, r3, hg1, fun F4 mu4 H4 σ4 x4 R4 S4 rl4 => ?_⟩
          refine ⟨?_, ?_⟩
          · have z : wipe σ4 own = wipe (wipe σ own) own := rl4
            have ww : ∀ o : List Nat, (∀ j ∈ o, (wipe σ own)[j]? = some none ∨ (wipe σ own)[j]? = none) → wipe (wipe σ own) o = wipe σ own := fun o => by
              induction o with
              | nil => exact fun _ => rfl
              | cons j o ih =>
                intro hj
                show (wipe (wipe σ own) o).set j none = wipe σ own
                rw [ih fun j' h' => hj j' (List.mem_cons_of_mem _ h')]
                refine List.ext_getElem? fun n => ?_
                by_cases hn : j = n
                · subst hn
                  rcases hj j List.mem_cons_self with q | q
                  · rw [q]
                    have : j < (wipe σ own).length := by
                      rcases Nat.lt_or_ge j (wipe σ own).length with z | z
                      · exact z
                      · rw [List.getElem?_eq_none z] at q
                        cases q
                    rw [List.getElem?_set_self this]
                  · rw [q, List.getElem?_eq_none]
                    rw [List.length_set]
                    exact List.getElem?_eq_none_iff.mp q
                · rw [List.getElem?_set_ne hn]
            rw [z]
            refine ww own fun j hj => ?_
            cases hq : (wipe σ own)[j]? with
            | none => exact .inr rfl
            | some o =>
              cases o with
              | none => exact .inl rfl
              | some u => exact absurd hj (wipe_some hq).2
          · have x24 := (x2.trans x3).trans x4
            cases ht1 : fT sd3 st4 with
            | none =>
              rw [ht1] at e3
              cases e3
            | some p =>
              obtain ⟨b, st5⟩ := p
              rw [ht1] at e3
              refine ⟨upd G Dd (.lst vs), F4, mu4, sd3, st4, b, st5, R4, S4, ht1, fun F5 mu5 H5 x5 R5 => ?_⟩
              cases b with
              | false =>
                simp only [Bool.false_eq_true, if_false] at e3 ⊢
                exact ⟨F5, mu5, st5, pre, vs, rest, x24.trans x5, R5, rp.mono ((x3.trans x4).trans x5), ed, e3⟩
              | true =>
                simp only [if_true] at e3 ⊢
                cases he1 : fE sd3 st5 with
                | none =>
                  rw [he1] at e3
                  cases e3
                | some p =>
                  obtain ⟨y, st6⟩ := p
                  rw [he1] at e3
                  simp only at e3
                  cases hr1 : lcS src fG fT fE (wipeD sd own) k (i + 1) st6 with
                  | none =>
                    rw [hr1] at e3
                    cases e3
                  | some p =>
                    obtain ⟨ys, st7⟩ := p
                    rw [hr1] at e3
                    simp only at e3
                    cases e3
                    refine ⟨upd G Dd (.lst vs), F5, mu5, sd3, st5, y, st6, R5, S4.mono x5, he1, fun F6 mu6 H6 v6 x6 R6 r6 => ?_⟩
                    have rp6 := rp.mono (((x3.trans x4).trans x5).trans x6)
                    refine ⟨vs, R6.gs _ _ upd_same, ?_, F6, mu6, st6, pre ++ [y], vs ++ [v6], ys, (x24.trans x5).trans x6, R6.chG, rp6.append (.one r6), by rw [ed, List.append_assoc]; rfl, hr1⟩
                    rw [rp.length]
                    rw [ed, List.length_append] at hz
                    simp only [List.length_cons] at hz
                    omega
end
end Jd

namespace Jd
open PySem PySem.Spec PyProof.Rows L2

/-! ### looks at the syntax -/
def notStar : Expr → Bool
  | .Starred .. => false
  | _ => true
def notSet : Expr → Bool
  | .Set .. => false
  | _ => true
def notSlice : Expr → Bool
  | .Slice .. => false
  | _ => true
def notComp : Expr → Bool
  | .ListComp .. => false
  | .SetComp .. => false
  | .DictComp .. => false
  | _ => true
def notTuple : Expr → Bool
  | .Tuple .. => false
  | _ => true
def plainT : Expr → Bool
  | .UnaryOp .Not _ _ => false
  | .BoolOp .. => false
  | .IfExp .. => false
  | .Compare .. => false
  | _ => true
def isTup : Expr → Bool
  | .Tuple .. => true
  | _ => false
def notSuper : Expr → Bool
  | .Call .. => false
  | _ => true
theorem star_cons {e : Expr} {es : List Expr} {env : Env} (h : notStar e = true) : starEach (e :: es) env = (false, eval e env) :: starEach es env := by
  cases e <;> first | rfl | cases h
theorem star_nil {env : Env} : starEach [] env = [] := rfl
theorem stars_plain {env : Env} {pos : Pos} : ∀ {es : List Expr}, es.all notStar = true → (backTo pos (starEach es env)).any (·.1) = false
  | [], _ => rfl
  | e :: es, h => by
    rw [List.all_cons, Bool.and_eq_true] at h
    rw [star_cons h.1]
    exact stars_plain h.2
theorem mark_of {op : CmpOp} {e : Expr} (h : notSet e = true) : behindInMarks op e = false := by
  cases e <;> first | rfl | cases h
theorem fold_of {e : Expr} {env : Env} (h : notSet e = true) : ∀ x, foldedSetIterable e env x = pure x := by
  intro x
  cases e <;> first | rfl | cases h
theorem slice_of {b : Expr} (h : notSlice b = true) : PlainIx b := by
  intro o i
  cases b <;> first | rfl | cases h
theorem plain_of {e : Expr} {env : Env} (h : plainT e = true) : ∀ whole, isTrue e env whole = (do let v ← whole; standAt e.pos; holding [v] (truthy v)) := by
  intro whole
  cases e with
  | UnaryOp op x p => cases op <;> first | rfl | cases h
  | _ => first | rfl | cases h
theorem swap_of {e : Expr} {t : Option Expr} {l : Nat} {env : Env} (h : notComp e = true) : swapsWith e t l env = pure false := by
  cases e <;> first | rfl | cases h
theorem swapS_of {e t : Expr} {l : Nat} {env : Env} (h : notComp e = true) : swapsWithSole [t] e l env = pure false := swap_of h
theorem stores_of {e t : Expr} {env : Env} (h : notTuple e = true) : swappedStores [t] e env = pure none := by
  cases e <;> first | (cases h; done) | (cases t <;> rfl)
theorem assign1 {t : Expr} {env : Env} (h : notStar t = true) : (assignEach [t] env).map (·.2) = [assign t env] := by
  cases t <;> first | rfl | cases h
theorem assignC {t : Expr} {ts : List Expr} {env : Env} (h : notStar t = true) : assignEach (t :: ts) env = (false, assign t env) :: assignEach ts env := by
  cases t <;> first | rfl | cases h
theorem assigns_len {env : Env} : ∀ {ts : List Expr}, ts.all notStar = true → (assignEach ts env).length = ts.length ∧ (assignEach ts env).findIdx? (·.1) = none
  | [], _ => ⟨rfl, rfl⟩
  | t :: ts, h => by
    rw [List.all_cons, Bool.and_eq_true] at h
    obtain ⟨a, b⟩ := assigns_len (env := env) h.2
    rw [assignC h.1]
    refine ⟨by rw [List.length_cons, List.length_cons, a], ?_⟩
    rw [List.findIdx?_cons]
    simp [b]
/-- y = [..] where the target is stored behind the loop (not within) -/
def swapF (y : Str) (py pos : Pos) (scope sc : Scope) : Bool := !(decide (sc.names.lookup y = some .local) && (py.line == pos.line) && !(scope.names.any fun (n, k) => n == y && (k == .local || k == .cell)))
theorem swap_false {elt : Expr} {gs : List Comprehension} {scope : Scope} {pos py : Pos} {y : Str} {l : Nat} {env : Env} (hk : env.scope.kind = .function) (h : swapF y py pos scope env.scope = true) : swapsWith (.ListComp elt gs scope pos) (some (.Name y py)) l env = pure false := by
  have hb : env.blockKind = .function := by unfold Env.blockKind; rw [hk]; rfl
  have e : (env.blockKind == .function && env.kindOf y == some .local && py.line == pos.line && !(scope.names.any fun (n, k) => n == y && (k == .local || k == .cell))) = false := by
    rw [hb]
    unfold swapF at h
    have e2 : (env.kindOf y == some NameKind.local) = decide (env.scope.names.lookup y = some .local) := by
      show (env.scope.names.lookup y == some NameKind.local) = _
      rw [Bool.eq_iff_iff]
      simp
    rw [e2]
    rw [Bool.not_eq_true'] at h
    rw [← h]
    simp
  show pure (env.blockKind == .function && env.kindOf y == some .local && py.line == pos.line && !(scope.names.any fun (n, k) => n == y && (k == .local || k == .cell))) = pure false
  rw [e]
theorem swap_par {x y : Str} {px py pt pt2 : Pos} {kt k2 : Nat} {a b : Expr} {env : Env} (hk : env.scope.kind = .function) (hx : env.scope.names.lookup x = some .local) (hy : env.scope.names.lookup y = some .local) (hne : x ≠ y) (hl : (py.line == px.line) = true) (ha : notStar a = true) (hb : notStar b = true)
    (hf : ([a, b].all (foldedForSure 8)) = false) (hc : ([a, b].all (constantsAlone 8)) = false) : swappedStores [.Tuple [.Name x px, .Name y py] kt pt] (.Tuple [a, b] k2 pt2) env = pure (some [x, y]) := by
  have hbk : env.blockKind = .function := by unfold Env.blockKind; rw [hk]; rfl
  have key : ∀ f : Expr → Bool, (∀ e, f e = !notStar e) → [a, b].any f = false := fun f hf => by
    simp [hf, ha, hb]
  have kx : (env.kindOf x == some NameKind.local) = true := by
    show (env.scope.names.lookup x == some NameKind.local) = true
    rw [hx]; rfl
  have ky : (env.kindOf y == some NameKind.local) = true := by
    show (env.scope.names.lookup y == some NameKind.local) = true
    rw [hy]; rfl
  have hd : ([x, y] : List Str).eraseDups = [x, y] := by
    have e : (y == x) = false := beq_eq_false_iff_ne.mpr (Ne.symm hne)
    simp [List.eraseDups_cons, e]
  unfold swappedStores
  simp only [List.length_cons, List.length_nil, hbk, hf, hc, List.head?_cons, Option.map_some, Option.getD_some, Expr.pos, List.filterMap_cons, List.filterMap_nil, kx, ky, hl, Bool.true_and, beq_self_eq_true, if_true, Bool.and_self, hd]
  rw [key _ (by intro e; cases e <;> rfl)]
  rfl
end Jd

namespace Jd
open PySem PySem.Spec PyProof.Rows L2

/-- where a piece stands: the def's names by place, the names' kinds, which names may be stored, a comprehension's own places -/
structure Ct where
  N : List Str
  sc : Scope
  fn : Str → Bool
  own : Option (List Nat)
/-- the module's names: its functions, its data, the built-ins that it leaves alone -/
structure Gam where
  fns : List Str
  gls : List Str
  blt : List Str

def ckGlob (κ : Ct) (x : Str) : Bool := decide (κ.sc.names.lookup x = some .globalImplicit) && !(x == ("__debug__" : Str))
def ckBlt (Γ : Gam) (κ : Ct) (x : Str) : Bool := decide (κ.sc.names.lookup x = some .globalImplicit) && Γ.blt.contains x
def visB (sc : Scope) (x : Str) : Bool := match sc.names.lookup x with
  | some .local => true | some .cell => true | some .free => true | _ => false
def locB (sc : Scope) (x : Str) : Bool := match sc.names.lookup x with
  | some .local => true | some .cell => true | _ => false
theorem visB_of {sc : Scope} {x : Str} (h : visB sc x = true) : Vis sc x := by
  unfold visB at h
  split at h
  · exact .inl (by assumption)
  · exact .inr (.inl (by assumption))
  · exact .inr (.inr (by assumption))
  · cases h
theorem locB_of {sc : Scope} {x : Str} (h : locB sc x = true) : Loc sc x := by
  unfold locB at h
  split at h
  · exact .inl (by assumption)
  · exact .inr (by assumption)
  · cases h
def ckVar (κ : Ct) (i : Nat) (x : Str) : Bool := decide (κ.N[i]? = some x) && visB κ.sc x && !(x == ("__debug__" : Str)) && !(x == ("__classdict__" : Str))
def ckSto (κ : Ct) (i : Nat) (x : Str) : Bool := decide (κ.N[i]? = some x) && locB κ.sc x && (κ.fn x || decide (κ.sc.names.lookup x = some .local)) && (match κ.own with | none => true | some o => o.contains i)
def isTyB : Blt → Bool
  | .int => true | .list => true | .tuple => true | .str => true | _ => false
def isIsI : Blt → Bool
  | .isI _ => true | _ => false
def blkCt (κ : Ct) (scope : Scope) (own : List Nat) : Ct := { κ with sc := relS scope κ.sc, fn := fun x => scope.names.lookup x == some .cell, own := some own }
def ownN (κ : Ct) (own : List Nat) : List (Str × Nat) := own.map fun i => ((κ.N[i]?).getD Str.empty, i)

def okStores (t e : Expr) : Bool := notTuple e || (match t with | .Tuple .. => false | .List .. => false | _ => true)
theorem okStores_of {t e : Expr} {env : Env} (h : okStores t e = true) : swappedStores [t] e env = pure none := by
  unfold okStores at h
  rw [Bool.or_eq_true] at h
  rcases h with h | h
  · exact stores_of h
  · cases t <;> first | rfl | cases h
def ckSw (κ : Ct) : Expr → Expr → C → Bool
  | .Name y py, .ListComp elt gens scope lp, .lcp _ _ _ _ _ _ => swapF y py lp scope κ.sc || (decide (κ.sc.names.lookup y = some .local) && (py.line == lp.line) && !(scope.names.any fun (n, k) => n == y && (k == .local || k == .cell)))
  | _, _, _ => false
def ckAug : Bop → Operator → Bool
  | .add, .Add => true
  | _, _ => false
def ckKeys : List Str → List (Option Expr) → Bool
  | k :: ks, some (.Constant (.str z) _ _) :: r => decide (k = z) && ckKeys ks r
  | [], [] => true
  | _, _ => false
def isRev : Expr → Bool
  | .Slice none none (some (.UnaryOp .USub (.Constant (.int i) _ _) _)) _ => decide (i = 1)
  | _ => false
def isNilC : C → Bool
  | .nil => true
  | _ => false
def ckIfs (c : C) (f : Expr → Bool) : List Expr → Bool
  | [] => isNilC c
  | [e] => f e
  | _ => false
mutual
def ckE (Γ : Gam) : C → Ct → Expr → Bool
  | .var i, κ, .Name x _ => ckVar κ i x
  | .kint i, _, .Constant (.int j) _ _ => decide (i = j)
  | .kbl i, _, .Constant (.bool j) _ _ => decide (i = j)
  | .kstr i, _, .Constant (.str j) _ _ => decide (i = j)
  | .knon, _, .Constant .none _ _ => true
  | .glb j, κ, .Name x _ => decide (Γ.gls[j]? = some x) && ckGlob κ x
  | .un .neg a, κ, .UnaryOp .USub x _ => ckE Γ a κ x
  | .bin o _ a b, κ, .BinOp x op y _ => decide (op = bopOf o) && ckE Γ a κ x && ckE Γ b κ y
  | .cmp o a b, κ, .Compare x ops ys _ => match ops, ys with
    | [op], [y] => decide (op = copOf o) && ckE Γ a κ x && ckE Γ b κ y && notSet y
    | _, _ => false
  | .chain o o' a b c, κ, .Compare x ops ys _ => match ops, ys with
    | [op, op'], [y, z] => decide (op = copOf o) && decide (op' = copOf o') && ckE Γ a κ x && ckE Γ b κ y && ckE Γ c κ z && notSet y && notSet z
    | _, _ => false
  | .and a b, κ, .BoolOp op xs p => match op, xs with
    | .And, x :: y :: r => ckE Γ a κ x && ckE Γ b κ (.BoolOp .And (y :: r) p)
    | _, _ => false
  | .or a b, κ, .BoolOp op xs p => match op, xs with
    | .Or, x :: y :: r => ckE Γ a κ x && ckE Γ b κ (.BoolOp .Or (y :: r) p)
    | _, _ => false
  | .one a, κ, .BoolOp _ xs _ => match xs with
    | [x] => ckE Γ a κ x
    | _ => false
  | .not a, κ, .UnaryOp .Not x _ => ckE Γ a κ x
  | .ife t a b, κ, .IfExp c x y _ => ckT Γ t κ c && ckE Γ a κ x && ckE Γ b κ y
  | .tup as, κ, .Tuple es _ _ => ckA Γ as κ es
  | .dsp _ as, κ, .List es _ => ckA Γ as κ es
  | .idx a i, κ, .Subscript x y _ => ckE Γ a κ x && ckE Γ i κ y && notSlice y
  | .slc _ a lo hi, κ, .Subscript x y _ => match y with
    | .Slice l h none _ => ckE Γ a κ x && ckO Γ lo κ l && ckO Γ hi κ h
    | _ => false
  | .call f as, κ, .Call (.Name x _) es ks _ => ks.isEmpty && decide (Γ.fns[f]? = some x) && ckGlob κ x && ckA Γ as κ es && !es.isEmpty
  | .blt b _ as, κ, .Call (.Name x _) es ks _ => match b with
    | .isI t => match as, es with
      | .cons a .nil, [y, .Name z _] => ks.isEmpty && decide (x = bltName b) && ckBlt Γ κ x && ckBlt Γ κ z && decide (z = Str.ofString (tyName t)) && ckE Γ a κ y && notStar y
      | _, _ => false
    | _ => ks.isEmpty && decide (x = bltName b) && ckBlt Γ κ x && ckA Γ as κ es && !es.isEmpty
  | .lcp _ own tg it ifs el, κ, .ListComp elt gens scope _ => match gens with
    | [⟨tg', it', ifs', 0⟩] => blkC κ.N κ.sc scope (ownN κ own) && ckI Γ it κ tg' it' && notSet it' && ckG Γ tg (blkCt κ scope own) tg' && ckIfs ifs (fun e => ckT Γ ifs (blkCt κ scope own) e) ifs' && ckE Γ el (blkCt κ scope own) elt
    | _ => false
  | .dsel ks as i, κ, .Subscript x y _ => match x with
    | .Dict keys vals _ => ckKeys ks keys && ckA Γ as κ vals && ckE Γ i κ y && notSlice y && decide (ks.length = vals.length) && decide (ks.length ≤ 15) && !ks.isEmpty
    | _ => false
  | .rev _ a, κ, .Subscript x y _ => ckE Γ a κ x && isRev y
  | .frz a, κ, e => ckE Γ a κ e
  | .mth mt o as, κ, .Call (.Attribute ob nm ap) es ks cp => match mt with
    | .append => ks.isEmpty && decide (nm = "append") && ckE Γ o κ ob && notSuper ob && ckA Γ as κ es && decide (es.length = 1) && (ap.endLine == cp.line)
  | _, _, _ => false
def ckO (Γ : Gam) : C → Ct → Option Expr → Bool
  | .nil, _, none => true
  | .cons a _, κ, some e => ckE Γ a κ e
  | _, _, _ => false
def ckA (Γ : Gam) : C → Ct → List Expr → Bool
  | .nil, _, [] => true
  | .cons a as, κ, e :: es => ckE Γ a κ e && notStar e && ckA Γ as κ es
  | _, _, _ => false
def ckT (Γ : Gam) : C → Ct → Expr → Bool
  | .and a b, κ, .BoolOp op xs p => match op, xs with
    | .And, x :: y :: r => ckT Γ a κ x && ckT Γ b κ (.BoolOp .And (y :: r) p)
    | _, _ => false
  | .or a b, κ, .BoolOp op xs p => match op, xs with
    | .Or, x :: y :: r => ckT Γ a κ x && ckT Γ b κ (.BoolOp .Or (y :: r) p)
    | _, _ => false
  | .one a, κ, .BoolOp _ xs _ => match xs with
    | [x] => ckT Γ a κ x
    | _ => false
  | .not a, κ, .UnaryOp .Not x _ => ckT Γ a κ x
  | .cmp o a b, κ, .Compare x ops ys _ => match ops, ys with
    | [op], [y] => decide (op = copOf o) && ckE Γ a κ x && ckE Γ b κ y && notSet y
    | _, _ => false
  | .chain o o' a b c, κ, .Compare x ops ys _ => match ops, ys with
    | [op, op'], [y, z] => decide (op = copOf o) && decide (op' = copOf o') && ckE Γ a κ x && ckE Γ b κ y && ckE Γ c κ z && notSet y && notSet z
    | _, _ => false
  | .ex a, κ, e => ckE Γ a κ e && plainT e
  | _, _, _ => false
def ckI (Γ : Gam) : C → Ct → Expr → Expr → Bool
  | .iV a, κ, _, e => ckE Γ a κ e
  | .iR1 a, κ, _, .Call (.Name x _) es ks _ => match es with
    | [e] => ks.isEmpty && decide (x = "range") && ckBlt Γ κ x && ckE Γ a κ e && notStar e
    | _ => false
  | .iR2 a b, κ, _, .Call (.Name x _) es ks _ => match es with
    | [e, e'] => ks.isEmpty && decide (x = "range") && ckBlt Γ κ x && ckE Γ a κ e && ckE Γ b κ e' && notStar e && notStar e'
    | _ => false
  | .iEn a, κ, tg, .Call (.Name x _) es ks _ => match es with
    | [e] => ks.isEmpty && decide (x = "enumerate") && ckBlt Γ κ x && ckE Γ a κ e && notStar e && isTup tg
    | _ => false
  | .iZip a b, κ, tg, .Call (.Name x _) es ks _ => match es with
    | [e, e'] => ks.isEmpty && decide (x = "zip") && ckBlt Γ κ x && ckE Γ a κ e && ckE Γ b κ e' && notStar e && notStar e' && isTup tg
    | _ => false
  | _, _, _, _ => false
def ckG (Γ : Gam) : C → Ct → Expr → Bool
  | .tN i, κ, .Name x _ => ckSto κ i x
  | .tT ts, κ, .Tuple es _ _ => ckGs Γ ts κ es
  | .tS o i, κ, .Subscript x y _ => ckE Γ o κ x && ckE Γ i κ y && notSlice y
  | _, _, _ => false
def ckGs (Γ : Gam) : C → Ct → List Expr → Bool
  | .nil, _, [] => true
  | .cons t ts, κ, e :: es => ckG Γ t κ e && notStar e && ckGs Γ ts κ es
  | _, _, _ => false
end
mutual
def ckS (Γ : Gam) : C → Ct → Stmt → Bool
  | .asg t a, κ, .Assign ts e pos => match ts with
    | [tg] => ckG Γ t κ tg && ckE Γ a κ e && okStores tg e && notStar tg && (notComp e || ckSw κ tg e a)
    | _ => false
  | .par i j a b, κ, .Assign ts e pos => match ts, e with
    | [.Tuple [.Name x px, .Name y py] _ _], .Tuple [e1, e2] _ _ => decide (κ.N[i]? = some x) && decide (κ.N[j]? = some y) && decide (i ≠ j) && decide (x ≠ y) && decide (κ.sc.names.lookup x = some .local) && decide (κ.sc.names.lookup y = some .local) && (py.line == px.line) &&
        ckE Γ a κ e1 && ckE Γ b κ e2 && notStar e1 && notStar e2 && !([e1, e2].all (foldedForSure 8)) && !([e1, e2].all (constantsAlone 8))
    | _, _ => false
  | .aug i o a, κ, .AugAssign (.Name x _) op e _ => ckAug o op && ckSto κ i x && ckE Γ a κ e
  | .ifs t a b, κ, .If c x y _ => ckT Γ t κ c && ckSs Γ a κ x && ckSs Γ b κ y
  | .whl t b, κ, .While c x els _ => els.isEmpty && ckT Γ t κ c && ckSs Γ b κ x
  | .for_ t it b, κ, .For tg i x els _ => els.isEmpty && ckI Γ it κ tg i && notSet i && ckG Γ t κ tg && ckSs Γ b κ x
  | .ret a, κ, .Return (some e) _ => ckE Γ a κ e
  | .retN, _, .Return none _ => true
  | .ex a, κ, .Expr e _ => ckE Γ a κ e && notComp e
  | .pass, _, .Pass _ => true
  | .brk, _, .Break _ => true
  | .cnt, _, .Continue _ => true
  | .nev, _, _ => true
  | _, _, _ => false
def ckSs (Γ : Gam) : C → Ct → List Stmt → Bool
  | .nil, _, [] => true
  | .cons a as, κ, e :: es => ckS Γ a κ e && ckSs Γ as κ es
  | _, _, _ => false
end

/-- what a function does, told to its callers -/
def SpD (K : PySem.W.Frag) (n : Nat) (g : List D → Sto → Option (D × Sto)) : Sp := fun vs H Q _ => vs.length = n ∧ ∃ G F mu st xs d st', Rp K G F mu st H ∧ DVs K F mu vs xs ∧ g xs st = some (d, st') ∧ Po K G F mu st' d Q
/-- a place where the pieces are sound -/
structure XG (Γ : Gam) (gs : List D) (cs : Nat → List D → Sto → Option (D × Sto)) (k : Nat) (κ : Ct) (X : Cx) : Prop where
  N : X.N = κ.N
  nd : X.N.Nodup
  sc : X.env.scope = κ.sc
  kind : X.env.scope.kind = .function
  fn : X.fn = κ.fn
  calm : X.calm = true
  xe : X.xe = fun _ _ => False
  units : X.A.units + 64 < cLine
  room : Room k X.A
  blt : ∀ x, Γ.blt.contains x = true → X.mg x = none
  gls : ∀ (j : Nat) (x : Str), Γ.gls[j]? = some x → ∃ v u d, X.mg x = some u ∧ RelV v u ∧ gs[j]? = some d ∧ ∀ F, DV X.K F [] v d
  fns : ∀ (j : Nat) (x : Str), Γ.fns[j]? = some x → ∃ f fd ps, X.mg x = some (.ref f) ∧ PySem.W.keepIn X.K (.ref f) = true ∧ Binds X.K fd ps [] ∧ (∀ xs st r, cs j xs st = some r → xs.length = ps.length) ∧ FnOk X.prog X.w X.K X.mg X.base CX0 k f fd ps (SpD X.K ps.length (cs j))
end Jd

namespace Jd
open PySem PySem.Spec PyProof.Rows L2

def rlOf (κ : Ct) : L2.St → L2.St → Prop := match κ.own with
  | none => rAll
  | some o => rOwn o
theorem rlOf_refl (κ : Ct) : ∀ σ, rlOf κ σ σ := fun σ => by
  unfold rlOf
  cases κ.own with
  | none => trivial
  | some o => rfl
theorem rlOf_trans (κ : Ct) : ∀ σ σ' σ'', rlOf κ σ σ' → rlOf κ σ' σ'' → rlOf κ σ σ'' := fun σ σ' σ'' h h' => by
  unfold rlOf at h h' ⊢
  cases hk : κ.own with
  | none => trivial
  | some o =>
    rw [hk] at h h'
    exact h'.trans h
section
variable {Γ : Gam} {gs : List D} {cs : Nat → List D → Sto → Option (D × Sto)} {k : Nat} {κ : Ct} {X : Cx}
theorem XG.gl (g : XG Γ gs cs k κ X) {x : Str} (h : κ.sc.names.lookup x = some .globalImplicit) : Gl X x := by
  show X.env.scope.names.lookup x = some .globalImplicit
  rw [g.sc]
  exact h
theorem XG.globB (g : XG Γ gs cs k κ X) {x : Str} (h : ckGlob κ x = true) : Gl X x ∧ (x == ("__debug__" : Str)) = false := by
  unfold ckGlob at h
  rw [Bool.and_eq_true, decide_eq_true_eq, Bool.not_eq_true'] at h
  exact ⟨g.gl h.1, h.2⟩
theorem XG.bltB (g : XG Γ gs cs k κ X) {x : Str} (h : ckBlt Γ κ x = true) : Gl X x ∧ X.mg x = none := by
  unfold ckBlt at h
  rw [Bool.and_eq_true, decide_eq_true_eq] at h
  exact ⟨g.gl h.1, g.blt x h.2⟩
theorem sd_var (g : XG Γ gs cs k κ X) {i : Nat} {x : Str} {pos : Pos} (h : ckVar κ i x = true) : PE X (.Name x pos) (TEd X.K (evE gs cs (.var i))) := by
  unfold ckVar at h
  simp only [Bool.and_eq_true, decide_eq_true_eq, Bool.not_eq_true'] at h
  obtain ⟨⟨⟨h1, h2⟩, h3⟩, h4⟩ := h
  refine ofPE (pe_var (i := i) (by rw [g.N]; exact h1) (by rw [g.sc]; exact visB_of h2) h3 h4) fun σ H Q h => ?_
  obtain ⟨G, F, mu, sd, st, d, st', R, S, e, P⟩ := h
  simp only [evE] at e
  split at e
  · rename_i d' hd
    cases e
    obtain ⟨v, hv, r⟩ := S.2 i _ hd
    exact ⟨v, hv, P.here R r⟩
  · cases e
theorem sd_const {e : Expr} {v : V} {d : D} (h : PE X e (tC v)) (hv : ∀ F mu, DV X.K F mu v d) : PE X e (TEd X.K fun _ st => some (d, st)) := by
  refine ofPE h fun σ H Q h => ?_
  obtain ⟨G, F, mu, sd, st, d, st', R, S, e, P⟩ := h
  cases e
  exact P.here R (hv _ _)
theorem sd_glb (g : XG Γ gs cs k κ X) {j : Nat} {x : Str} {pos : Pos} (h1 : Γ.gls[j]? = some x) (h2 : ckGlob κ x = true) : PE X (.Name x pos) (TEd X.K (evE gs cs (.glb j))) := by
  obtain ⟨a, b⟩ := g.globB h2
  obtain ⟨v, u, d, m1, m2, m3, m4⟩ := g.gls j x h1
  refine ofPE (sd_const (pe_glob a m1 m2 b) fun F mu => (m4 F).mono ⟨Same.refl _, mu, by simp⟩) fun σ H Q h => ?_
  obtain ⟨G, F, mu, sd, st, d', st', R, S, e, P⟩ := h
  simp only [evE, m3, Option.map_some] at e
  cases e
  exact ⟨G, F, mu, sd, st, d, st, R, S, rfl, P⟩
theorem sd_cmpE (g : XG Γ gs cs k κ X) {a b : Expr} {fa fb : En → Sto → Option (D × Sto)} {o : Cop} {pos : Pos} (ha : PE X a (TEd X.K fa)) (hb : PE X b (TEd X.K fb)) (hs : notSet b = true) :
    PE X (.Compare a [copOf o] [b] pos) (TEd X.K fun sd st => (fa sd st).bind fun p => (fb sd p.2).bind fun q => (gCmp o p.1 q.1 q.2).map fun r => (.bl r.1, r.2)) :=
  ofPE (pe_cmpR (od_cmp g.units o) ha hb (mark_of hs)) fun _ _ _ h => two_of h
theorem cmp_two {K : PySem.W.Frag} {fa fb : En → Sto → Option (D × Sto)} {gc : D → D → Sto → Option (Bool × Sto)} {σ : L2.St} {H : Hp} {Q : Bool → Hp → Prop}
    (h : TTd K (fun sd st => (fa sd st).bind fun p => (fb sd p.2).bind fun q => gc p.1 q.1 q.2) σ H Q) : tTest (tOp (T2b K gc) (TEd K fa) (TEd K fb)) σ H Q := by
  obtain ⟨G, F, mu, sd, st, b, st', R, S, e, P⟩ := h
  refine two_of ⟨G, F, mu, sd, st, .bl b, st', R, S, ?_, fun F' mu' H' v x R' r => ⟨b, r.blI, P _ _ _ x R'⟩⟩
  simp only [Option.bind_eq_some_iff] at e ⊢
  obtain ⟨p, e1, q, e2, e3⟩ := e
  exact ⟨p, e1, q, e2, by rw [e3]; rfl⟩
theorem sd_cmpT (g : XG Γ gs cs k κ X) {a b : Expr} {fa fb : En → Sto → Option (D × Sto)} {o : Cop} {pos : Pos} (ha : PE X a (TEd X.K fa)) (hb : PE X b (TEd X.K fb)) (hs : notSet b = true) :
    PT X (.Compare a [copOf o] [b] pos) (TTd X.K fun sd st => (fa sd st).bind fun p => (fb sd p.2).bind fun q => gCmp o p.1 q.1 q.2) :=
  ofPT (pt_cmpR (od_cmp g.units o) ha hb (mark_of hs)) fun _ _ _ h => cmp_two h
theorem chain_of {K : PySem.W.Frag} {fa fb fc : En → Sto → Option (D × Sto)} {g1 g2 : D → D → Sto → Option (Bool × Sto)} {σ : L2.St} {H : Hp} {Q : VK}
    (h : TEd K (fun sd st => (fa sd st).bind fun p => (fb sd p.2).bind fun q => (g1 p.1 q.1 q.2).bind fun r =>
      if r.1 then (fc sd r.2).bind fun z => (g2 q.1 z.1 z.2).map fun w => (.bl w.1, w.2) else some (.bl false, r.2)) σ H Q) : tChain (T2b K g1) (T2b K g2) (TEd K fa) (TEd K fb) (TEd K fc) σ H Q := by
  obtain ⟨G, F, mu, sd, st, d, st', R, S, e, P⟩ := h
  simp only [Option.bind_eq_some_iff] at e
  obtain ⟨⟨x, st1⟩, e1, ⟨y, st2⟩, e2, ⟨b, st3⟩, e3, e4⟩ := e
  refine ⟨G, F, mu, sd, st, x, st1, R, S, e1, fun F1 mu1 H1 v1 x1 R1 r1 => ?_⟩
  refine ⟨G, F1, mu1, sd, st1, y, st2, R1, S.mono x1, e2, fun F2 mu2 H2 v2 x2 R2 r2 => ?_⟩
  refine ⟨G, F2, mu2, st2, x, y, .bl b, st3, R2, r1.mono x2, r2, by show (g1 x y st2).map _ = _; rw [show g1 x y st2 = some (b, st3) from e3]; rfl, fun F3 mu3 H3 v3 x3 R3 r3 => ?_⟩
  have x13 := (x1.trans x2).trans x3
  refine ⟨b, r3.blI, ?_⟩
  cases b with
  | false =>
    simp only [Bool.false_eq_true, if_false] at e4 ⊢
    cases e4
    exact P _ _ _ _ x13 R3 (.bl _)
  | true =>
    simp only [if_true, Option.bind_eq_some_iff] at e4 ⊢
    obtain ⟨⟨z, st4⟩, e5, e6⟩ := e4
    refine ⟨G, F3, mu3, sd, st3, z, st4, R3, S.mono x13, e5, fun F4 mu4 H4 v4 x4 R4 r4 => ?_⟩
    exact ⟨G, F4, mu4, st4, y, z, d, st', R4, (r2.mono x3).mono x4, r4, e6, P.step (x13.trans x4)⟩
theorem sd_chainE (g : XG Γ gs cs k κ X) {a b c : Expr} {fa fb fc : En → Sto → Option (D × Sto)} {o o' : Cop} {pos : Pos} (ha : PE X a (TEd X.K fa)) (hb : PE X b (TEd X.K fb)) (hc : PE X c (TEd X.K fc)) (hs' : notSet c = true) :
    PE X (.Compare a [copOf o, copOf o'] [b, c] pos) (TEd X.K fun sd st => (fa sd st).bind fun p => (fb sd p.2).bind fun q => (gCmp o p.1 q.1 q.2).bind fun r =>
      if r.1 then (fc sd r.2).bind fun z => (gCmp o' q.1 z.1 z.2).map fun w => (.bl w.1, w.2) else some (.bl false, r.2)) :=
  ofPE (pe_chain (od_cmp g.units o) (od_cmp g.units o') ha hb hc (by show behindInMarks (copOf o') c = false; exact mark_of hs')) fun _ _ _ h => chain_of h
theorem sd_chainT (g : XG Γ gs cs k κ X) {a b c : Expr} {fa fb fc : En → Sto → Option (D × Sto)} {o o' : Cop} {pos : Pos} (ha : PE X a (TEd X.K fa)) (hb : PE X b (TEd X.K fb)) (hc : PE X c (TEd X.K fc)) (hs' : notSet c = true) :
    PT X (.Compare a [copOf o, copOf o'] [b, c] pos) (TTd X.K fun sd st => (fa sd st).bind fun p => (fb sd p.2).bind fun q => (gCmp o p.1 q.1 q.2).bind fun r =>
      if r.1 then (fc sd r.2).bind fun z => gCmp o' q.1 z.1 z.2 else some (false, r.2)) :=
  ofPT (pt_chain (od_cmp g.units o) (od_cmp g.units o') ha hb hc (by show behindInMarks (copOf o') c = false; exact mark_of hs')) fun σ H Q h => by
    obtain ⟨G, F, mu, sd, st, b, st', R, S, e, P⟩ := h
    refine chain_of ⟨G, F, mu, sd, st, .bl b, st', R, S, ?_, fun F' mu' H' v x R' r => ⟨b, r.blI, P _ _ _ x R'⟩⟩
    simp only [Option.bind_eq_some_iff] at e ⊢
    obtain ⟨p, e1, q, e2, ⟨r, st3⟩, e3, e4⟩ := e
    refine ⟨p, e1, q, e2, ⟨r, st3⟩, e3, ?_⟩
    cases r with
    | false =>
      simp only [Bool.false_eq_true, if_false] at e4 ⊢
      cases e4
      rfl
    | true =>
      simp only [if_true, Option.bind_eq_some_iff] at e4 ⊢
      obtain ⟨z, e5, e6⟩ := e4
      exact ⟨z, e5, by rw [e6]; rfl⟩
theorem sd_andE {a b : Expr} {rest : List Expr} {fa fb : En → Sto → Option (D × Sto)} {pos : Pos} (ha : PE X a (TEd X.K fa)) (hb : PE X (.BoolOp .And (b :: rest) pos) (TEd X.K fb)) : PE X (.BoolOp .And (a :: b :: rest) pos) (TEd X.K fun sd st => (fa sd st).bind fun p => (truD p.2 p.1).bind fun k => if k then fb sd p.2 else some p) := by
  refine ofPE (pe_andT ha hb) fun σ H Q h => ?_
  obtain ⟨G, F, mu, sd, st, d, st', R, S, e, P⟩ := h
  simp only [Option.bind_eq_some_iff] at e
  obtain ⟨⟨x, st1⟩, e1, k, e2, e3⟩ := e
  refine ⟨G, F, mu, sd, st, x, st1, R, S, e1, fun F1 mu1 H1 v1 x1 R1 r1 => ⟨k, tru_at R1 r1 e2, ?_⟩⟩
  cases k with
  | false =>
    simp only [Bool.false_eq_true, if_false] at e3 ⊢
    cases e3
    exact P _ _ _ _ x1 R1 r1
  | true => exact ⟨G, F1, mu1, sd, st1, d, st', R1, S.mono x1, e3, P.step x1⟩
theorem sd_orE {a b : Expr} {rest : List Expr} {fa fb : En → Sto → Option (D × Sto)} {pos : Pos} (ha : PE X a (TEd X.K fa)) (hb : PE X (.BoolOp .Or (b :: rest) pos) (TEd X.K fb)) : PE X (.BoolOp .Or (a :: b :: rest) pos) (TEd X.K fun sd st => (fa sd st).bind fun p => (truD p.2 p.1).bind fun k => if k then some p else fb sd p.2) := by
  refine ofPE (pe_orT ha hb) fun σ H Q h => ?_
  obtain ⟨G, F, mu, sd, st, d, st', R, S, e, P⟩ := h
  simp only [Option.bind_eq_some_iff] at e
  obtain ⟨⟨x, st1⟩, e1, k, e2, e3⟩ := e
  refine ⟨G, F, mu, sd, st, x, st1, R, S, e1, fun F1 mu1 H1 v1 x1 R1 r1 => ⟨k, tru_at R1 r1 e2, ?_⟩⟩
  cases k with
  | true =>
    simp only [if_true] at e3 ⊢
    cases e3
    exact P _ _ _ _ x1 R1 r1
  | false => exact ⟨G, F1, mu1, sd, st1, d, st', R1, S.mono x1, e3, P.step x1⟩
theorem sd_notE {a : Expr} {fa : En → Sto → Option (D × Sto)} {pos : Pos} (ha : PE X a (TEd X.K fa)) : PE X (.UnaryOp .Not a pos) (TEd X.K fun sd st => (fa sd st).bind fun p => (truD p.2 p.1).map fun k => (.bl (!k), p.2)) := by
  refine ofPE (pe_notT ha) fun σ H Q h => ?_
  obtain ⟨G, F, mu, sd, st, d, st', R, S, e, P⟩ := h
  simp only [Option.bind_eq_some_iff, Option.map_eq_some_iff] at e
  obtain ⟨⟨x, st1⟩, e1, k, e2, e3⟩ := e
  cases e3
  exact ⟨G, F, mu, sd, st, x, _, R, S, e1, fun F1 mu1 H1 v1 x1 R1 r1 => ⟨k, tru_at R1 r1 e2, P _ _ _ _ x1 R1 (.bl _)⟩⟩
theorem sd_andT {a b : Expr} {rest : List Expr} {fa fb : En → Sto → Option (Bool × Sto)} {pos : Pos} (ha : PT X a (TTd X.K fa)) (hb : PW X (.BoolOp .And (b :: rest) pos) (TTd X.K fb)) : PW X (.BoolOp .And (a :: b :: rest) pos) (TTd X.K fun sd st => (fa sd st).bind fun p => if p.1 then fb sd p.2 else some (false, p.2)) := by
  refine ofPW (pw_and ha hb) fun σ H Q h => ?_
  obtain ⟨G, F, mu, sd, st, d, st', R, S, e, P⟩ := h
  simp only [Option.bind_eq_some_iff] at e
  obtain ⟨⟨x, st1⟩, e1, e3⟩ := e
  refine ⟨G, F, mu, sd, st, x, st1, R, S, e1, fun F1 mu1 H1 x1 R1 => ?_⟩
  cases x with
  | false =>
    simp only [Bool.false_eq_true, if_false] at e3 ⊢
    cases e3
    exact P _ _ _ x1 R1
  | true => exact ⟨G, F1, mu1, sd, st1, d, st', R1, S.mono x1, e3, fun F2 mu2 H2 x2 R2 => P _ _ _ (x1.trans x2) R2⟩
theorem sd_orT {a b : Expr} {rest : List Expr} {fa fb : En → Sto → Option (Bool × Sto)} {pos : Pos} (ha : PT X a (TTd X.K fa)) (hb : PW X (.BoolOp .Or (b :: rest) pos) (TTd X.K fb)) : PW X (.BoolOp .Or (a :: b :: rest) pos) (TTd X.K fun sd st => (fa sd st).bind fun p => if p.1 then some (true, p.2) else fb sd p.2) := by
  refine ofPW (pw_or ha hb) fun σ H Q h => ?_
  obtain ⟨G, F, mu, sd, st, d, st', R, S, e, P⟩ := h
  simp only [Option.bind_eq_some_iff] at e
  obtain ⟨⟨x, st1⟩, e1, e3⟩ := e
  refine ⟨G, F, mu, sd, st, x, st1, R, S, e1, fun F1 mu1 H1 x1 R1 => ?_⟩
  cases x with
  | true =>
    simp only [if_true] at e3 ⊢
    cases e3
    exact P _ _ _ x1 R1
  | false => exact ⟨G, F1, mu1, sd, st1, d, st', R1, S.mono x1, e3, fun F2 mu2 H2 x2 R2 => P _ _ _ (x1.trans x2) R2⟩
theorem sd_notT {a : Expr} {fa : En → Sto → Option (Bool × Sto)} {pos : Pos} (ha : PT X a (TTd X.K fa)) : PT X (.UnaryOp .Not a pos) (TTd X.K fun sd st => (fa sd st).map fun p => (!p.1, p.2)) := by
  refine ofPT (pt_not ha) fun σ H Q h => ?_
  obtain ⟨G, F, mu, sd, st, d, st', R, S, e, P⟩ := h
  simp only [Option.map_eq_some_iff] at e
  obtain ⟨⟨x, st1⟩, e1, e3⟩ := e
  cases e3
  exact ⟨G, F, mu, sd, st, x, _, R, S, e1, fun F1 mu1 H1 x1 R1 => P _ _ _ x1 R1⟩
theorem sd_exT {a : Expr} {fa : En → Sto → Option (D × Sto)} (ha : PE X a (TEd X.K fa)) (hp : plainT a = true) : PT X a (TTd X.K fun sd st => (fa sd st).bind fun p => (truD p.2 p.1).map fun k => (k, p.2)) := by
  refine ofPT (pt_truth ha (plain_of hp)) fun σ H Q h => ?_
  obtain ⟨G, F, mu, sd, st, d, st', R, S, e, P⟩ := h
  simp only [Option.bind_eq_some_iff, Option.map_eq_some_iff] at e
  obtain ⟨⟨x, st1⟩, e1, k, e2, e3⟩ := e
  cases e3
  exact ⟨G, F, mu, sd, st, x, _, R, S, e1, fun F1 mu1 H1 v1 x1 R1 r1 => ⟨_, tru_at R1 r1 e2, P _ _ _ x1 R1⟩⟩
theorem sd_ife {c a b : Expr} {ft : En → Sto → Option (Bool × Sto)} {fa fb : En → Sto → Option (D × Sto)} {pos : Pos} (hc : PT X c (TTd X.K ft)) (ha : PE X a (TEd X.K fa)) (hb : PE X b (TEd X.K fb)) : PE X (.IfExp c a b pos) (TEd X.K fun sd st => (ft sd st).bind fun p => if p.1 then fa sd p.2 else fb sd p.2) := by
  refine ofPE (pe_ifExp hc ha hb) fun σ H Q h => ?_
  obtain ⟨G, F, mu, sd, st, d, st', R, S, e, P⟩ := h
  simp only [Option.bind_eq_some_iff] at e
  obtain ⟨⟨x, st1⟩, e1, e3⟩ := e
  refine ⟨G, F, mu, sd, st, x, st1, R, S, e1, fun F1 mu1 H1 x1 R1 => ?_⟩
  cases x with
  | true => exact ⟨G, F1, mu1, sd, st1, d, st', R1, S.mono x1, e3, P.step x1⟩
  | false => exact ⟨G, F1, mu1, sd, st1, d, st', R1, S.mono x1, e3, P.step x1⟩
theorem sd_tup {es : List Expr} {fs : En → Sto → Option (List D × Sto)} {q : Nat} {pos : Pos} (ha : PA X es (TAd X.K fs)) : PE X (.Tuple es q pos) (TEd X.K fun sd st => (fs sd st).bind fun p => if lenOk p.1.length then some (.tup p.1, p.2) else none) := by
  refine ofPE (pe_tup ha) fun σ H Q h => ?_
  obtain ⟨G, F, mu, sd, st, d, st', R, S, e, P⟩ := h
  simp only [Option.bind_eq_some_iff] at e
  obtain ⟨⟨xs, st1⟩, e1, e3⟩ := e
  split at e3
  · rename_i hz
    cases e3
    refine ⟨G, F, mu, sd, st, xs, _, R, S, e1, fun F1 mu1 H1 vs x1 R1 r1 => ⟨by rw [r1.length]; exact of_decide_eq_true hz, fun p hp => ?_⟩⟩
    obtain ⟨R', ex⟩ := R1.newF (o := .tup vs) hp
    exact P _ _ _ _ (x1.trans ex) R' (.tup (.inl (.inl upd_same)) (r1.mono ex))
  · cases e3
theorem sd_dsp {m : Bool} {es : List Expr} {fs : En → Sto → Option (List D × Sto)} {pos : Pos} (ha : PA X es (TAd X.K fs)) : PE X (.List es pos) (TEd X.K fun sd st => (fs sd st).bind fun p => if lenOk p.1.length then mkL m p.1 p.2 else none) := by
  refine ofPE (pe_lst ha) fun σ H Q h => ?_
  obtain ⟨G, F, mu, sd, st, d, st', R, S, e, P⟩ := h
  simp only [Option.bind_eq_some_iff] at e
  obtain ⟨⟨xs, st1⟩, e1, e3⟩ := e
  split at e3
  · rename_i hz
    refine ⟨G, F, mu, sd, st, xs, _, R, S, e1, fun F1 mu1 H1 vs x1 R1 r1 => ⟨by rw [r1.length]; exact of_decide_eq_true hz, fun p hp => mkL_at R1 r1 e3 (P.step x1) hp⟩⟩
  · cases e3
theorem sd_idx {a b : Expr} {fa fb : En → Sto → Option (D × Sto)} {pos : Pos} (ha : PE X a (TEd X.K fa)) (hb : PE X b (TEd X.K fb)) (hs : notSlice b = true) : PE X (.Subscript a b pos) (TEd X.K fun sd st => (fa sd st).bind fun p => (fb sd p.2).bind fun q => gIdx p.1 q.1 q.2) :=
  ofPE (pe_ix xd_idx ha hb (slice_of hs)) fun _ _ _ h => two_of h
def TOd (K : PySem.W.Frag) (f : En → Sto → Option (Option Int × Sto)) : TO := fun σ H Q => ∃ G F mu sd st o st', Rp K G F mu st H ∧ Rs K F mu sd σ ∧ f sd st = some (o, st') ∧ ∀ F' mu' H', Ex F mu F' mu' → Rp K G F' mu' st' H' → Q o H'
theorem ofPO {e : Option Expr} {t t' : TO} (h : PO X e t) (w : ∀ σ H Q, t' σ H Q → t σ H Q) : PO X e t' := ⟨fun pins s σ H Q I q => h.run pins s σ H Q I (w σ H Q q)⟩
theorem so_none : PO X none (TOd X.K fun _ st => some (none, st)) := ofPO po_none fun σ H Q h => by
  obtain ⟨G, F, mu, sd, st, o, st', R, S, e, P⟩ := h
  cases e
  exact P _ _ _ Ex.refl R
theorem so_some {e : Expr} {f : En → Sto → Option (D × Sto)} (h : PE X e (TEd X.K f)) : PO X (some e) (TOd X.K fun sd st => (f sd st).bind fun p => match p.1 with
    | .int i => some (some i, p.2)
    | _ => none) := ofPO (po_some h) fun σ H Q h => by
  obtain ⟨G, F, mu, sd, st, o, st', R, S, e, P⟩ := h
  simp only [Option.bind_eq_some_iff] at e
  obtain ⟨⟨x, st1⟩, e1, e3⟩ := e
  split at e3
  · rename_i i hx
    have hx : x = .int i := hx
    subst hx
    cases e3
    refine ⟨G, F, mu, sd, st, _, _, R, S, e1, fun F1 mu1 H1 v1 x1 R1 r1 => ⟨i, r1.intI, P _ _ _ x1 R1⟩⟩
  · cases e3
theorem sd_slc {m : Bool} {a : Expr} {l h : Option Expr} {fa : En → Sto → Option (D × Sto)} {fl fh : En → Sto → Option (Option Int × Sto)} {p2 pos : Pos} (ha : PE X a (TEd X.K fa)) (hl : PO X l (TOd X.K fl)) (hh : PO X h (TOd X.K fh)) :
    PE X (.Subscript a (.Slice l h none p2) pos) (TEd X.K fun sd st => (fa sd st).bind fun p => (fl sd p.2).bind fun q => (fh sd q.2).bind fun r => gSlc m p.1 q.1 r.1 r.2) := by
  refine ofPE (pe_slice (xd_slc (m := m)) ha hl hh) fun σ H Q h => ?_
  obtain ⟨G, F, mu, sd, st, d, st', R, S, e, P⟩ := h
  simp only [Option.bind_eq_some_iff] at e
  obtain ⟨⟨x, st1⟩, e1, ⟨lo, st2⟩, e2, ⟨hi, st3⟩, e3, e4⟩ := e
  refine ⟨G, F, mu, sd, st, x, st1, R, S, e1, fun F1 mu1 H1 v1 x1 R1 r1 => ?_⟩
  refine ⟨G, F1, mu1, sd, st1, lo, st2, R1, S.mono x1, e2, fun F2 mu2 H2 x2 R2 => ?_⟩
  refine ⟨G, F2, mu2, sd, st2, hi, st3, R2, S.mono (x1.trans x2), e3, fun F3 mu3 H3 x3 R3 => ?_⟩
  exact ⟨G, F3, mu3, st3, x, d, st', R3, r1.mono (x2.trans x3), e4, P.step ((x1.trans x2).trans x3)⟩
theorem sd_call (g : XG Γ gs cs k κ X) {f : Nat} {x : Str} {e : Expr} {es : List Expr} {fs : En → Sto → Option (List D × Sto)} {p pos : Pos} (hf : Γ.fns[f]? = some x) (hx : ckGlob κ x = true) (ha : PA X (e :: es) (TAd X.K fs)) (hs : notStar e = true) (hss : es.all notStar = true) :
    PE X (.Call (.Name x p) (e :: es) [] pos) (TEd X.K fun sd st => (fs sd st).bind fun p => cs f p.1 p.2) := by
  obtain ⟨a, fd, ps, m1, m2, m3, m5, m4⟩ := g.fns f x hf
  obtain ⟨g1, g2⟩ := g.globB hx
  refine ofPE (pe_call m4 g.room g1 m1 m2 m3 .nil pass0 ha g2 (star_cons hs) (stars_plain hss)) fun σ H Q h => ?_
  obtain ⟨G, F, mu, sd, st, d, st', R, S, e, P⟩ := h
  simp only [Option.bind_eq_some_iff] at e
  obtain ⟨⟨xs, st1⟩, e1, e3⟩ := e
  refine ⟨G, F, mu, sd, st, xs, st1, R, S, e1, fun F1 mu1 H1 vs x1 R1 r1 => ?_⟩
  show SpD X.K ps.length (cs f) (vs ++ []) H1 Q E0
  rw [List.append_nil]
  exact ⟨by rw [r1.length]; exact m5 _ _ _ e3, G, F1, mu1, st1, xs, d, st', R1, r1, e3, P.step x1⟩
theorem sd_frz {e : Expr} {f : En → Sto → Option (D × Sto)} (h : PE X e (TEd X.K f)) : PE X e (TEd X.K fun sd st => (f sd st).bind fun p => gFrz p.1 p.2) := by
  refine ofPE h fun σ H Q h => ?_
  obtain ⟨G, F, mu, sd, st, d, st', R, S, e, P⟩ := h
  simp only [Option.bind_eq_some_iff] at e
  obtain ⟨⟨x, st1⟩, e1, e3⟩ := e
  refine ⟨G, F, mu, sd, st, x, st1, R, S, e1, fun F1 mu1 H1 v1 x1 R1 r1 => ?_⟩
  have e3 : gFrz x st1 = some (d, st') := e3
  cases r1 with
  | ref hm =>
    obtain ⟨c, hc⟩ := R1.there hm
    simp only [gFrz, hc] at e3
    cases e3
    obtain ⟨vs, q, rs, R2, x2⟩ := R1.frz hm hc
    exact P _ _ _ _ (x1.trans x2) R2 (.lst upd_same (rs.mono ⟨x2.1, mu1, by simp⟩))
  | non => cases e3; exact P _ _ _ _ x1 R1 .non
  | bl b => cases e3; exact P _ _ _ _ x1 R1 (.bl b)
  | int b => cases e3; exact P _ _ _ _ x1 R1 (.int b)
  | str b => cases e3; exact P _ _ _ _ x1 R1 (.str b)
  | tup q s => cases e3; exact P _ _ _ _ x1 R1 (.tup q s)
  | lst q s => cases e3; exact P _ _ _ _ x1 R1 (.lst q s)
  | scr q s => cases e3; exact P _ _ _ _ x1 R1 (.scr q s)
theorem sd_append {o e : Expr} {fo : En → Sto → Option (D × Sto)} {fs : En → Sto → Option (List D × Sto)} {ap cp : Pos} (ho : PE X o (TEd X.K fo)) (ha : PA X [e] (TAd X.K fs)) (hn : notSuper o = true) (hs : notStar e = true) (hl : (ap.endLine == cp.line) = true) :
    PE X (.Call (.Attribute o "append" ap) [e] [] cp) (TEd X.K fun sd st => (fo sd st).bind fun p => (fs sd p.2).bind fun q => gMth .append p.1 q.1 q.2) := by
  refine ofPE (pe_bm PySem.F.plainAttrs_list PySem.F.slot_list_append PySem.F.type_list_append md_append ho ha (by cases o <;> first | rfl | cases hn) (by rw [star_cons hs]; rfl) hl (star_cons hs) rfl) fun σ H Q h => ?_
  obtain ⟨G, F, mu, sd, st, d, st', R, S, e, P⟩ := h
  simp only [Option.bind_eq_some_iff] at e
  obtain ⟨⟨x, st1⟩, e1, ⟨xs, st2⟩, e2, e3⟩ := e
  refine ⟨G, F, mu, sd, st, x, st1, R, S, e1, fun F1 mu1 H1 v1 x1 R1 r1 => ⟨?_, ?_⟩⟩
  · have : ∃ n, x = .ref n := by
      have e3 : gMth .append x xs st2 = some (d, st') := e3
      cases x with
      | ref n => exact ⟨n, rfl⟩
      | _ => cases e3
    obtain ⟨n, rfl⟩ := this
    exact ty_list R1 r1
  · refine ⟨G, F1, mu1, sd, st1, xs, st2, R1, S.mono x1, e2, fun F2 mu2 H2 vs x2 R2 r2 => ?_⟩
    exact ⟨G, F2, mu2, st2, x, xs, d, st', R2, r1.mono x2, r2, e3, P.step (x1.trans x2)⟩
theorem DVs.rev {K : PySem.W.Frag} {F : Hp} {mu : List Addr} : ∀ {ds : List D} {vs : List V}, DVs K F mu vs ds → DVs K F mu vs.reverse ds.reverse
  | _, _, .nil => .nil
  | _, _, .cons r rs => by
    rw [List.reverse_cons, List.reverse_cons]
    exact (DVs.rev rs).append (.one r)
theorem sd_rev {m : Bool} {a y : Expr} {pos : Pos} {fa : En → Sto → Option (D × Sto)} (ha : PE X a (TEd X.K fa)) (hy : isRev y = true) : PE X (.Subscript a y pos) (TEd X.K fun sd st => (fa sd st).bind fun p => gRev m p.1 p.2) := by
  have hs : ∃ k p1 p2 p3, y = .Slice none none (some (.UnaryOp .USub (.Constant (.int 1) k p1) p2)) p3 := by
    unfold isRev at hy
    split at hy
    · have e := of_decide_eq_true hy
      subst e
      exact ⟨_, _, _, _, rfl⟩
    · cases hy
  obtain ⟨k, p1, p2, p3, rfl⟩ := hs
  refine ofPE (pe_revL ha) fun σ H Q h => ?_
  obtain ⟨G, F, mu, sd, st, d, st', R, S, e, P⟩ := h
  rw [Option.bind_eq_some_iff] at e
  obtain ⟨⟨x, st1⟩, e1, e2⟩ := e
  refine ⟨G, F, mu, sd, st, x, st1, R, S, e1, fun F1 mu1 H1 v1 x1 R1 r1 => ?_⟩
  unfold gRev at e2
  split at e2
  · rename_i xs hx
    obtain ⟨a, vs, rfl, q, rs⟩ := rdQ_at R1 r1 hx
    exact ⟨a, vs, rfl, q, fun p hp => mkL_at R1 rs.rev e2 (P.step x1) hp⟩
  · cases e2
/-- the pairs of a display, keys told -/
def TPd (K : PySem.W.Frag) (ks : List Str) (f : En → Sto → Option (List D × Sto)) : L2.St → Hp → (List (V × V) → Hp → Prop) → Prop := fun σ H Q => ∃ G F mu sd st ds st', Rp K G F mu st H ∧ Rs K F mu sd σ ∧ f sd st = some (ds, st') ∧ ∀ F' mu' H' vs, Ex F mu F' mu' → Rp K G F' mu' st' H' → DVs K F' mu' vs ds → Q (List.zipWith (fun k v => (V.str k, v)) ks vs) H'
def lastV : List Str → List V → Str → Option V
  | k :: ks, v :: vs, z => match lastV ks vs z with
    | some x => some x
    | none => if z = k then some v else none
  | _, _, _ => none
def kvsOf (ks : List Str) (vs : List V) : List (Key × V) := List.zipWith (fun k v => ((.inr k : Key), v)) ks vs
theorem kvs_map : ∀ (ks : List Str) (vs : List V), List.zipWith (fun k v => (V.str k, v)) ks vs = (kvsOf ks vs).map fun kv => (kV kv.1, kv.2)
  | [], _ => rfl
  | _ :: _, [] => rfl
  | k :: ks, v :: vs => by
    show (V.str k, v) :: _ = (kV (.inr k), v) :: _
    rw [kvs_map ks vs]
    rfl
theorem valV_merge (z : Str) : ∀ (ks : List Str) (vs : List V) (acc : List (Key × V)), valV (mergeK acc (kvsOf ks vs)) (.inr z : Key) = match lastV ks vs z with
    | some x => some x
    | none => valV acc (.inr z : Key)
  | [], _, acc => rfl
  | _ :: _, [], acc => rfl
  | k :: ks, v :: vs, acc => by
    have ih := valV_merge z ks vs (putK acc (.inr k) v)
    show valV (mergeK (putK acc (.inr k) v) (kvsOf ks vs)) _ = _
    rw [ih, lastV]
    cases lastV ks vs z with
    | some x => rfl
    | none =>
      simp only
      rw [valV_put]
      by_cases hz : z = k
      · subst hz
        simp
      · rw [if_neg (by intro e; exact hz (by injection e)), if_neg hz]
theorem sel_at {K : PySem.W.Frag} {F : Hp} {mu : List Addr} {z : Str} : ∀ {ks : List Str} {ds : List D} {vs : List V} {d : D}, DVs K F mu vs ds → selD ks ds z = some d → ∃ v, lastV ks vs z = some v ∧ DV K F mu v d
  | [], _, _, _, _, e => by cases e
  | _ :: _, [], _, _, _, e => by cases e
  | k :: ks, d :: ds, _, d', .cons r rs, e => by
    rw [selD] at e
    rw [lastV]
    cases hs : selD ks ds z with
    | some x =>
      rw [hs] at e
      cases e
      obtain ⟨v, e1, e2⟩ := sel_at rs hs
      exact ⟨v, by rw [e1], e2⟩
    | none =>
      rw [hs] at e
      simp only at e
      split at e
      · rename_i hz
        cases e
        have hn : ∀ {ks : List Str} {ds : List D} {vs : List V}, DVs K F mu vs ds → selD ks ds z = none → lastV ks vs z = none := by
          intro ks
          induction ks with
          | nil => intro ds vs _ _; rfl
          | cons k ks ih =>
            intro ds vs r e
            cases r with
            | nil => rfl
            | cons r rs =>
              rw [selD] at e
              rw [lastV]
              rename_i v0 vs0 d0 ds0
              cases hq : selD ks ds0 z with
              | some x => rw [hq] at e; cases e
              | none =>
                rw [hq] at e
                rw [ih rs hq]
                simp only at e ⊢
                split at e
                · cases e
                · rename_i hk
                  rw [if_neg hk]
        refine ⟨_, by rw [hn rs hs]; simp only; rw [if_pos hz], r⟩
      · cases e
theorem sd_dsel {ks : List Str} {keys : List (Option Expr)} {vals : List Expr} {y : Expr} {dp pos : Pos} {trs : List (TE × TE)} {fs : En → Sto → Option (List D × Sto)} {fy : En → Sto → Option (D × Sto)} (g : XG Γ gs cs k κ X) (hp : PPs X dp keys vals trs) (ht : ∀ σ H Q, TPd X.K ks fs σ H Q → tPairs trs σ H Q) (hy : PE X y (TEd X.K fy)) (hs : notSlice y = true)
    (hall : keys.all (·.isSome) = true) (hl : keys.length = vals.length) (h0 : keys ≠ []) (h15 : keys.length ≤ 15) (hk : ks.length ≤ 15) : PE X (.Subscript (.Dict keys vals dp) y pos) (TEd X.K fun sd st => (fs sd st).bind fun p => (fy sd p.2).bind fun q => gSel ks p.1 q.1 q.2) := by
  refine ofPE (pe_dget (by have := g.units; omega) (pe_disp hp hall hl h0 h15) hy (by cases y <;> first | (intro a b; rfl) | cases hs)) fun σ H Q h => ?_
  obtain ⟨G, F, mu, sd, st, d, st', R, S, e, P⟩ := h
  simp only [Option.bind_eq_some_iff] at e
  obtain ⟨⟨ds, st1⟩, e1, ⟨w, st2⟩, e2, e3⟩ := e
  intro p hpn
  have hG : G p = none := by
    cases hg : G p with
    | none => rfl
    | some o => rw [R.gs _ _ hg] at hpn; cases hpn
  refine ht _ _ _ ⟨upd G p (.dK []), F, mu, sd, st, ds, st1, R.addG hpn, S, e1, fun F1 mu1 H1 vs x1 R1 r1 => ?_⟩
  have hH1 : H1 p = some (.dK []) := R1.gs _ _ upd_same
  refine ⟨hH1, kvsOf ks vs, kvs_map ks vs, ?_, ?_⟩
  · unfold kvsOf
    rw [List.length_zipWith]
    omega
  have R2 := R1.chG (o' := .dK (mergeK [] (kvsOf ks vs)))
  obtain ⟨R3, x3⟩ := R2.toF hG
  refine ⟨G, _, mu1, sd, st1, w, st2, R3, S.mono (x1.trans x3), e2, fun F4 mu4 H4 v4 x4 R4 r4 => ?_⟩
  unfold gSel at e3
  split at e3
  · rename_i z hw
    have hw : w = .str z := hw
    subst hw
    cases r4.strI
    rw [Option.map_eq_some_iff] at e3
    obtain ⟨d', e4, e5⟩ := e3
    cases e5
    obtain ⟨v, e6, r6⟩ := sel_at r1 e4
    refine ⟨p, v, rfl, ?_, (P.step ((x1.trans x3).trans x4)).here R4 (r6.mono (x3.trans x4))⟩
    have hF : H4 p = some (.dK (mergeK [] (kvsOf ks vs))) := R4.sub _ _ (x4.1 _ _ upd_same)
    have hd := DGet.k (k := (.inr z : Key)) hF
    rw [valV_merge, e6] at hd
    exact hd
  · cases e3
end
end Jd

namespace Jd
open PySem PySem.Spec PyProof.Rows L2

section
variable {Γ : Gam} {gs : List D} {cs : Nat → List D → Sto → Option (D × Sto)} {k : Nat} {κ : Ct} {X : Cx}
/-- a comprehension's block is such a place, too -/
theorem XG.blk (g : XG Γ gs cs k κ X) {scope : Scope} {own : List Nat} (ok : BlkOk X.N X.env.scope scope (ownN κ own)) (s : Shared) (H : Hp) (C : Addr) (cl : List (Str × Addr)) (fp : List Addr) : XG Γ gs cs k (blkCt κ scope own) (X.blk s H scope (compEnvC scope cl C X.env) fp) where
  N := g.N
  nd := g.nd
  sc := by
    show relabel scope X.env = relS scope κ.sc
    rw [← g.sc]
    rfl
  kind := ok.kind
  fn := rfl
  calm := g.calm
  xe := rfl
  units := g.units
  room := g.room
  blt := g.blt
  gls := g.gls
  fns := g.fns
theorem ownN_snd (κ : Ct) (own : List Nat) : (ownN κ own).map (·.2) = own := by
  unfold ownN
  rw [List.map_map]
  exact List.map_id own
theorem sd_lcp (g : XG Γ gs cs k κ X) {m : Bool} {own : List Nat} {tg it elt : Expr} {ifs : List Expr} {scope : Scope} {pos : Pos} {fI : En → Sto → Option (Src × Sto)} {fG : D → En → Sto → Option (En × Sto)} {fT : En → Sto → Option (Bool × Sto)} {fE : En → Sto → Option (D × Sto)}
    (hb : blkC κ.N κ.sc scope (ownN κ own) = true) (hi : PI X tg it (TId X.K fI)) (hn : notSet it = true) (hg : ∀ X', XG Γ gs cs k (blkCt κ scope own) X' → PG X' tg (TGd X'.K (rOwn own) fG)) (ht : ∀ X', XG Γ gs cs k (blkCt κ scope own) X' → PTs X' ifs (TTd X'.K fT)) (he : ∀ X', XG Γ gs cs k (blkCt κ scope own) X' → PE X' elt (TEd X'.K fE)) :
    PE X (.ListComp elt [⟨tg, it, ifs, 0⟩] scope pos) (TEd X.K fun sd st => (fI sd st).bind fun p => (lcS p.1 fG fT fE (wipeD sd own) (srcLen p.1 p.2) 0 p.2).bind fun q => if lenOk q.1.length then mkL m q.1 q.2 else none) := by
  have ok : BlkOk X.N X.env.scope scope (ownN κ own) := by
    rw [g.N, g.sc]
    exact blkOk_by hb
  have h := pe_lc (X := X) (pos := pos) (elt := elt) (ifs := ifs) (g := TGd X.K (rOwn own) fG) (tt := TTd X.K fT) (te := TEd X.K fE) g.calm g.nd hi ok (fun s H C cl fp => hg _ (g.blk ok s H C cl fp)) (fun s H C cl fp => ht _ (g.blk ok s H C cl fp)) (fun s H C cl fp => he _ (g.blk ok s H C cl fp)) (fold_of hn)
  rw [ownN_snd] at h
  exact ofPE h fun _ _ _ q => ls_lc q
theorem ss_setLc (g : XG Γ gs cs k κ X) {m : Bool} {i : Nat} {y : Str} {py spos : Pos} {own : List Nat} {tg it elt : Expr} {ifs : List Expr} {scope : Scope} {pos : Pos} {fI : En → Sto → Option (Src × Sto)} {fG : D → En → Sto → Option (En × Sto)} {fT : En → Sto → Option (Bool × Sto)} {fE : En → Sto → Option (D × Sto)}
    (hb : blkC κ.N κ.sc scope (ownN κ own) = true) (hi : PI X tg it (TId X.K fI)) (hn : notSet it = true) (hg : ∀ X', XG Γ gs cs k (blkCt κ scope own) X' → PG X' tg (TGd X'.K (rOwn own) fG)) (ht : ∀ X', XG Γ gs cs k (blkCt κ scope own) X' → PTs X' ifs (TTd X'.K fT)) (he : ∀ X', XG Γ gs cs k (blkCt κ scope own) X' → PE X' elt (TEd X'.K fE))
    (hy : κ.N[i]? = some y) (hl : κ.sc.names.lookup y = some .local) (hline : (py.line == pos.line) = true) (hany : (scope.names.any fun (n, k) => n == y && (k == .local || k == .cell)) = false) :
    PS X (.Assign [.Name y py] (.ListComp elt [⟨tg, it, ifs, 0⟩] scope pos) spos) (TSd X.K fun sd st => ((fI sd st).bind fun p => (lcS p.1 fG fT fE (wipeD sd own) (srcLen p.1 p.2) 0 p.2).bind fun q => if lenOk q.1.length then mkL m q.1 q.2 else none).bind fun p => (some (sd.set i (some p.1), p.2)).map fun q => (.nx q.1, q.2)) := by
  have ok : BlkOk X.N X.env.scope scope (ownN κ own) := by
    rw [g.N, g.sc]
    exact blkOk_by hb
  have h := ps_setLc (X := X) (pos := pos) (spos := spos) (py := py) (elt := elt) (ifs := ifs) (g := TGd X.K (rOwn own) fG) (tt := TTd X.K fT) (te := TEd X.K fE) g.calm g.nd (by rw [g.N]; exact hy) (by rw [g.sc]; exact hl) (sw_true g.kind (by rw [g.sc]; exact hl) hline hany) hi ok (fun s H C cl fp => hg _ (g.blk ok s H C cl fp)) (fun s H C cl fp => ht _ (g.blk ok s H C cl fp)) (fun s H C cl fp => he _ (g.blk ok s H C cl fp)) (fold_of hn)
  rw [ownN_snd] at h
  refine ofPS h fun Dn σ H q => ?_
  obtain ⟨G, F, mu, sd, st, fl, st', R, S, e, P⟩ := q
  rw [Option.bind_eq_some_iff] at e
  obtain ⟨⟨d, st1⟩, e1, e2⟩ := e
  cases e2
  exact ls_lc ⟨G, F, mu, sd, st, d, st1, R, S, e1, fun F' mu' H' v x R' r => P _ _ _ x R' _ ((S.mono x).set r i)⟩
theorem ss_asg {tg e : Expr} {pos : Pos} {fE : En → Sto → Option (D × Sto)} {fG : D → En → Sto → Option (En × Sto)} {rl : L2.St → L2.St → Prop} (he : PE X e (TEd X.K fE)) (hg : PG X tg (TGd X.K rl fG)) (hs : swapsWithSole [tg] e pos.line X.env = pure false) (hw : swappedStores [tg] e X.env = pure none) (h1 : (assignEach [tg] X.env).map (·.2) = [assign tg X.env]) :
    PS X (.Assign [tg] e pos) (TSd X.K fun sd st => (fE sd st).bind fun p => (fG p.1 sd p.2).map fun q => (.nx q.1, q.2)) := by
  refine ofPS (ps_asg he hg hs hw h1) fun Dn σ H h => ?_
  obtain ⟨G, F, mu, sd, st, fl, st', R, S, e, P⟩ := h
  simp only [Option.bind_eq_some_iff, Option.map_eq_some_iff] at e
  obtain ⟨⟨x, st1⟩, e1, ⟨sd2, st2⟩, e2, e3⟩ := e
  cases e3
  refine ⟨G, F, mu, sd, st, x, st1, R, S, e1, fun F1 mu1 H1 v1 x1 R1 r1 => ?_⟩
  exact ⟨G, F1, mu1, sd, st1, x, sd2, _, R1, S.mono x1, r1, e2, fun F2 mu2 H2 σ2 x2 R2 S2 _ => P _ _ _ (x1.trans x2) R2 _ S2⟩
theorem ss_par (g : XG Γ gs cs k κ X) {i j : Nat} {x y : Str} {px py pt pt2 pos : Pos} {kt k2 : Nat} {a b : Expr} {fa fb : En → Sto → Option (D × Sto)} (ha : PE X a (TEd X.K fa)) (hb : PE X b (TEd X.K fb)) (hi : κ.N[i]? = some x) (hj : κ.N[j]? = some y) (hij : i ≠ j) (hne : x ≠ y) (hx : κ.sc.names.lookup x = some .local) (hy : κ.sc.names.lookup y = some .local)
    (hl : (py.line == px.line) = true) (sa : notStar a = true) (sb : notStar b = true) (hf : ([a, b].all (foldedForSure 8)) = false) (hc : ([a, b].all (constantsAlone 8)) = false) :
    PS X (.Assign [.Tuple [.Name x px, .Name y py] kt pt] (.Tuple [a, b] k2 pt2) pos) (TSd X.K fun sd st => (fa sd st).bind fun p => (fb sd p.2).map fun q => (.nx ((sd.set i (some p.1)).set j (some q.1)), q.2)) := by
  have hx' : X.env.scope.names.lookup x = some .local := by rw [g.sc]; exact hx
  have hy' : X.env.scope.names.lookup y = some .local := by rw [g.sc]; exact hy
  refine ofPS (ps_par g.calm g.nd (by rw [g.N]; exact hi) (by rw [g.N]; exact hj) hij hx' hy' (pa_cons ha (pa_cons hb pa_nil (star_cons sb)) (star_cons sa)) (swap_par g.kind hx' hy' hne hl sa sb hf hc) rfl) fun Dn σ H h => ?_
  obtain ⟨G, F, mu, sd, st, fl, st', R, S, e, P⟩ := h
  simp only [Option.bind_eq_some_iff, Option.map_eq_some_iff] at e
  obtain ⟨⟨u, st1⟩, e1, ⟨w, st2⟩, e2, e3⟩ := e
  cases e3
  refine ⟨G, F, mu, sd, st, u, st1, R, S, e1, fun F1 mu1 H1 v1 x1 R1 r1 => ?_⟩
  refine ⟨G, F1, mu1, sd, st1, w, _, R1, S.mono x1, e2, fun F2 mu2 H2 v2 x2 R2 r2 => ⟨v1, v2, rfl, ?_⟩⟩
  exact P _ _ _ (x1.trans x2) R2 _ (((S.mono (x1.trans x2)).set (r1.mono x2) i).set r2 j)
theorem ss_aug (g : XG Γ gs cs k κ X) {i : Nat} {m : Bool} {x : Str} {px pos : Pos} {e : Expr} {fa : En → Sto → Option (D × Sto)} (ha : PE X e (TEd X.K fa)) (hx : ckSto κ i x = true) :
    PS X (.AugAssign (.Name x px) .Add e pos) (TSd X.K fun sd st => match sd[i]? with
      | some (some d) => (fa sd st).bind fun p => match d, p.1 with
        | .int _, .int _ => (gBin .add m d p.1 p.2).map fun q => (.nx (sd.set i (some q.1)), q.2)
        | .str _, .str _ => (gBin .add m d p.1 p.2).map fun q => (.nx (sd.set i (some q.1)), q.2)
        | _, _ => none
      | _ => none) := by
  unfold ckSto at hx
  simp only [Bool.and_eq_true, decide_eq_true_eq, Bool.or_eq_true] at hx
  obtain ⟨⟨⟨h1, h2⟩, h3⟩, _⟩ := hx
  have hip : PIp X .Add (fun x y H Q => (∃ i j, x = .int i ∧ y = .int j ∧ Q (.int (i + j)) H) ∨ ∃ i j, x = .str i ∧ y = .str j ∧ i.length + j.length ≤ sizeLine ∧ Q (.str (i ++ j)) H) := by
    intro pins s σ H x y v u Q I rx ry h
    rcases h with h | h
    · exact iop_add pins s σ H x y v u Q I rx ry h
    · exact iop_add_str pins s σ H x y v u Q I rx ry h
  refine ofPS (ps_aug (i := i) g.nd (by rw [g.N]; exact h1) (by rw [g.sc]; exact locB_of h2) ha hip (by rw [g.fn, g.sc]; exact h3)) fun Dn σ H h => ?_
  obtain ⟨G, F, mu, sd, st, fl, st', R, S, e, P⟩ := h
  simp only at e
  split at e
  · rename_i d hd
    obtain ⟨v, hv, r⟩ := S.2 i _ hd
    refine ⟨v, hv, ?_⟩
    rw [Option.bind_eq_some_iff] at e
    obtain ⟨⟨y, st1⟩, e1, e2⟩ := e
    refine ⟨G, F, mu, sd, st, y, st1, R, S, e1, fun F1 mu1 H1 v1 x1 R1 r1 => ?_⟩
    have r := r.mono x1
    split at e2
    · rename_i a b hb _
      have hb : y = .int b := hb
      subst hb
      cases r.intI
      cases r1.intI
      cases e2
      exact .inl ⟨_, _, rfl, rfl, P _ _ _ x1 R1 _ ((S.mono x1).set (.int _) i)⟩
    · rename_i a b hb _
      have hb : y = .str b := hb
      subst hb
      cases r.strI
      cases r1.strI
      rw [Option.map_eq_some_iff] at e2
      obtain ⟨⟨q, st2⟩, e3, e4⟩ := e2
      cases e4
      have e3 : (if lenOk (a.length + b.length) then some (D.str (a ++ b), st1) else none) = some (q, st2) := e3
      split at e3
      · rename_i hz
        cases e3
        exact .inr ⟨_, _, rfl, rfl, of_decide_eq_true hz, P _ _ _ x1 R1 _ ((S.mono x1).set (.str _) i)⟩
      · cases e3
    · cases e2
  · cases e
theorem ss_if {c : Expr} {a b : List Stmt} {pos : Pos} {ft : En → Sto → Option (Bool × Sto)} {fa fb : En → Sto → Option (Fl × Sto)} (hc : PT X c (TTd X.K ft)) (ha : PSs X a (TSd X.K fa)) (hb : PSs X b (TSd X.K fb)) : PS X (.If c a b pos) (TSd X.K fun sd st => (ft sd st).bind fun p => if p.1 then fa sd p.2 else fb sd p.2) := by
  refine ofPS (ps_if hc ha hb) fun Dn σ H h => ?_
  obtain ⟨G, F, mu, sd, st, fl, st', R, S, e, P⟩ := h
  rw [Option.bind_eq_some_iff] at e
  obtain ⟨⟨x, st1⟩, e1, e3⟩ := e
  refine ⟨G, F, mu, sd, st, x, st1, R, S, e1, fun F1 mu1 H1 x1 R1 => ?_⟩
  cases x with
  | true => exact ⟨G, F1, mu1, sd, st1, fl, st', R1, S.mono x1, e3, P.step x1⟩
  | false => exact ⟨G, F1, mu1, sd, st1, fl, st', R1, S.mono x1, e3, P.step x1⟩
theorem ss_ret {e : Expr} {pos : Pos} {f : En → Sto → Option (D × Sto)} (he : PE X e (TEd X.K f)) : PS X (.Return (some e) pos) (TSd X.K fun sd st => (f sd st).map fun p => (.rt p.1, p.2)) := by
  refine ofPS (ps_ret he) fun Dn σ H h => ?_
  obtain ⟨G, F, mu, sd, st, fl, st', R, S, e, P⟩ := h
  rw [Option.map_eq_some_iff] at e
  obtain ⟨⟨x, st1⟩, e1, e3⟩ := e
  cases e3
  exact ⟨G, F, mu, sd, st, x, _, R, S, e1, fun F1 mu1 H1 v1 x1 R1 r1 => P _ _ _ x1 R1 _ r1⟩
theorem ss_retN {pos : Pos} : PS X (.Return none pos) (TSd X.K fun _ st => some (.rt .non, st)) := by
  refine ofPS ps_retN fun Dn σ H h => ?_
  obtain ⟨G, F, mu, sd, st, fl, st', R, S, e, P⟩ := h
  cases e
  exact P _ _ _ Ex.refl R _ .non
theorem ss_ex {e : Expr} {pos : Pos} {f : En → Sto → Option (D × Sto)} (he : PE X e (TEd X.K f)) (hn : notComp e = true) : PS X (.Expr e pos) (TSd X.K fun sd st => (f sd st).map fun p => (.nx sd, p.2)) := by
  refine ofPS (ps_expr he (swap_of hn)) fun Dn σ H h => ?_
  obtain ⟨G, F, mu, sd, st, fl, st', R, S, e, P⟩ := h
  rw [Option.map_eq_some_iff] at e
  obtain ⟨⟨x, st1⟩, e1, e3⟩ := e
  cases e3
  exact ⟨G, F, mu, sd, st, x, _, R, S, e1, fun F1 mu1 H1 v1 x1 R1 r1 => P _ _ _ x1 R1 _ (S.mono x1)⟩
theorem ss_next {st : Stmt} (h : PS X st tNext) : PS X st (TSd X.K fun sd st => some (.nx sd, st)) := by
  refine ofPS h fun Dn σ H h => ?_
  obtain ⟨G, F, mu, sd, st, fl, st', R, S, e, P⟩ := h
  cases e
  exact P _ _ _ Ex.refl R _ S
theorem ss_brk {pos : Pos} : PS X (.Break pos) (TSd X.K fun sd st => some (.bk sd, st)) := by
  refine ofPS ps_break fun Dn σ H h => ?_
  obtain ⟨G, F, mu, sd, st, fl, st', R, S, e, P⟩ := h
  cases e
  exact P _ _ _ Ex.refl R _ S
theorem ss_cnt {pos : Pos} : PS X (.Continue pos) (TSd X.K fun sd st => some (.ct sd, st)) := by
  refine ofPS ps_continue fun Dn σ H h => ?_
  obtain ⟨G, F, mu, sd, st, fl, st', R, S, e, P⟩ := h
  cases e
  exact P _ _ _ Ex.refl R _ S
theorem ss_nil : PSs X [] (TSd X.K fun sd st => some (.nx sd, st)) := by
  refine ofPSs pss_nil fun Dn σ H h => ?_
  obtain ⟨G, F, mu, sd, st, fl, st', R, S, e, P⟩ := h
  cases e
  exact P _ _ _ Ex.refl R _ S
theorem ss_cons {s : Stmt} {ss : List Stmt} {f g : En → Sto → Option (Fl × Sto)} (h : PS X s (TSd X.K f)) (h' : PSs X ss (TSd X.K g)) : PSs X (s :: ss) (TSd X.K fun sd st => (f sd st).bind fun p => match p.1 with
    | .nx sd' => g sd' p.2
    | fl => some (fl, p.2)) := by
  refine ofPSs (pss_cons h h') fun Dn σ H h => ?_
  obtain ⟨G, F, mu, sd, st, fl, st', R, S, e, P⟩ := h
  rw [Option.bind_eq_some_iff] at e
  obtain ⟨⟨x, st1⟩, e1, e3⟩ := e
  refine ⟨G, F, mu, sd, st, x, st1, R, S, e1, fun F1 mu1 H1 x1 R1 => ?_⟩
  cases x with
  | nx sd1 => exact fun σ1 S1 => ⟨G, F1, mu1, sd1, st1, fl, st', R1, S1, e3, P.step x1⟩
  | bk sd1 => cases e3; exact P _ _ _ x1 R1
  | ct sd1 => cases e3; exact P _ _ _ x1 R1
  | rt d => cases e3; exact P _ _ _ x1 R1
end
end Jd

namespace Jd
open PySem PySem.Spec PyProof.Rows L2

/-- all that is promised of a piece -/
structure Snd (Γ : Gam) (gs : List D) (cs : Nat → List D → Sto → Option (D × Sto)) (k : Nat) (c : C) : Prop where
  E : ∀ κ X e, XG Γ gs cs k κ X → ckE Γ c κ e = true → PE X e (TEd X.K (evE gs cs c)) := by intro _ _ _ _ h; exact absurd h Bool.false_ne_true
  O : ∀ κ X e, XG Γ gs cs k κ X → ckO Γ c κ e = true → PO X e (TOd X.K (evO gs cs c)) := by intro _ _ _ _ h; exact absurd h Bool.false_ne_true
  A : ∀ κ X es, XG Γ gs cs k κ X → ckA Γ c κ es = true → PA X es (TAd X.K (evA gs cs c)) ∧ es.all notStar = true := by intro _ _ _ _ h; exact absurd h Bool.false_ne_true
  P : ∀ κ X ks keys es pos, XG Γ gs cs k κ X → ckA Γ c κ es = true → ckKeys ks keys = true → ks.length = es.length → ∃ trs, PPs X pos keys es trs ∧ ∀ σ H Q, TPd X.K ks (evA gs cs c) σ H Q → tPairs trs σ H Q := by intro _ _ _ _ _ _ _ h; exact absurd h Bool.false_ne_true
  T : ∀ κ X e, XG Γ gs cs k κ X → ckT Γ c κ e = true → PT X e (TTd X.K (evT gs cs c)) := by intro _ _ _ _ h; exact absurd h Bool.false_ne_true
  W : ∀ κ X op xs p, XG Γ gs cs k κ X → ckT Γ c κ (.BoolOp op xs p) = true → PW X (.BoolOp op xs p) (TTd X.K (evT gs cs c)) := by intro _ _ _ _ _ _ h; exact absurd h Bool.false_ne_true
  I : ∀ κ X tg e, XG Γ gs cs k κ X → ckI Γ c κ tg e = true → PI X tg e (TId X.K (evI gs cs c)) := by intro _ _ _ _ _ h; exact absurd h Bool.false_ne_true
  G : ∀ κ X e, XG Γ gs cs k κ X → ckG Γ c κ e = true → PG X e (TGd X.K (rlOf κ) (evG gs cs c)) := by intro _ _ _ _ h; exact absurd h Bool.false_ne_true
  Gs : ∀ κ X es, XG Γ gs cs k κ X → ckGs Γ c κ es = true → PGs X es (TGds X.K (rlOf κ) (evGs gs cs c)) := by intro _ _ _ _ h; exact absurd h Bool.false_ne_true
  L : ∀ κ es, ckGs Γ c κ es = true → es.all notStar = true ∧ ∀ ds sd st r, evGs gs cs c ds sd st = some r → ds.length = es.length := by intro _ _ h; exact absurd h Bool.false_ne_true
  S : ∀ κ X e, XG Γ gs cs k κ X → κ.own = none → ckS Γ c κ e = true → PS X e (TSd X.K (exS gs cs c)) := by intro _ _ _ _ _ h; exact absurd h Bool.false_ne_true
  Ss : ∀ κ X es, XG Γ gs cs k κ X → κ.own = none → ckSs Γ c κ es = true → PSs X es (TSd X.K (exS gs cs c)) := by intro _ _ _ _ _ h; exact absurd h Bool.false_ne_true

section
variable {Γ : Gam} {gs : List D} {cs : Nat → List D → Sto → Option (D × Sto)} {k : Nat}
theorem pts_d {X : Cx} {e : Expr} {f : En → Sto → Option (Bool × Sto)} (h : PT X e (TTd X.K f)) : PTs X [e] (TTd X.K f) := pts_one h
theorem sn_ifs' {c : C} (hc : Snd Γ gs cs k c) (κ : Ct) (X : Cx) (es : List Expr) (g : XG Γ gs cs k κ X) (h : ckIfs c (fun e => ckT Γ c κ e) es = true) : PTs X es (TTd X.K (evT gs cs c)) := by
  match es, h with
  | [], h =>
    cases c with
    | nil => exact ⟨fun pins s σ H Q I q => pts_nil.run pins s σ H Q I (by
        obtain ⟨G, F, mu, sd, st, b, st', R, S, e, P⟩ := q
        cases e
        exact P _ _ _ Ex.refl R)⟩
    | _ => exact absurd h Bool.false_ne_true
  | [e], h => exact pts_d (hc.T _ _ _ g h)
  | _ :: _ :: _, h => exact absurd h Bool.false_ne_true
theorem sn_var (i : Nat) : Snd Γ gs cs k (.var i) where
  E := by
    intro κ X e g h
    cases e with
    | Name x p => exact sd_var g h
    | _ => exact absurd h Bool.false_ne_true
theorem sn_kint (i : Int) : Snd Γ gs cs k (.kint i) where
  E := by
    intro κ X e g h
    cases e with
    | Constant c q p =>
      cases c with
      | int j =>
        have h : i = j := of_decide_eq_true h
        subst h
        exact sd_const pe_int fun _ _ => .int _
      | _ => exact absurd h Bool.false_ne_true
    | _ => exact absurd h Bool.false_ne_true
theorem sn_kbl (i : Bool) : Snd Γ gs cs k (.kbl i) where
  E := by
    intro κ X e g h
    cases e with
    | Constant c q p =>
      cases c with
      | bool j =>
        have h : i = j := of_decide_eq_true h
        subst h
        exact sd_const pe_bl fun _ _ => .bl _
      | _ => exact absurd h Bool.false_ne_true
    | _ => exact absurd h Bool.false_ne_true
theorem sn_kstr (i : Str) : Snd Γ gs cs k (.kstr i) where
  E := by
    intro κ X e g h
    cases e with
    | Constant c q p =>
      cases c with
      | str j =>
        have h : i = j := of_decide_eq_true h
        subst h
        exact sd_const pe_str fun _ _ => .str _
      | _ => exact absurd h Bool.false_ne_true
    | _ => exact absurd h Bool.false_ne_true
theorem sn_knon : Snd Γ gs cs k .knon where
  E := by
    intro κ X e g h
    cases e with
    | Constant c q p =>
      cases c with
      | none => exact sd_const pe_non fun _ _ => .non
      | _ => exact absurd h Bool.false_ne_true
    | _ => exact absurd h Bool.false_ne_true
theorem sn_glb (j : Nat) : Snd Γ gs cs k (.glb j) where
  E := by
    intro κ X e g h
    cases e with
    | Name x p =>
      have h : (decide (Γ.gls[j]? = some x) && ckGlob κ x) = true := h
      rw [Bool.and_eq_true, decide_eq_true_eq] at h
      exact sd_glb g h.1 h.2
    | _ => exact absurd h Bool.false_ne_true
theorem sn_un {o : Uop} {a : C} (ha : Snd Γ gs cs k a) : Snd Γ gs cs k (.un o a) where
  E := by
    intro κ X e g h
    cases o
    cases e with
    | UnaryOp op x p =>
      cases op with
      | USub => exact sd_un od_neg (ha.E _ _ _ g h)
      | _ => exact absurd h Bool.false_ne_true
    | _ => exact absurd h Bool.false_ne_true
theorem sn_bin {o : Bop} {m : Bool} {a b : C} (ha : Snd Γ gs cs k a) (hb : Snd Γ gs cs k b) : Snd Γ gs cs k (.bin o m a b) where
  E := by
    intro κ X e g h
    cases e with
    | BinOp x op y p =>
      have h : (decide (op = bopOf o) && ckE Γ a κ x && ckE Γ b κ y) = true := h
      simp only [Bool.and_eq_true, decide_eq_true_eq] at h
      obtain ⟨⟨rfl, h1⟩, h2⟩ := h
      exact sd_bin (od_bin o) (ha.E _ _ _ g h1) (hb.E _ _ _ g h2)
    | _ => exact absurd h Bool.false_ne_true
theorem sn_cmp {o : Cop} {a b : C} (ha : Snd Γ gs cs k a) (hb : Snd Γ gs cs k b) : Snd Γ gs cs k (.cmp o a b) := by
  have hT : ∀ κ X e, XG Γ gs cs k κ X → ckT Γ (.cmp o a b) κ e = true → PT X e (TTd X.K (evT gs cs (.cmp o a b))) := by
    intro κ X e g h
    cases e with
    | Compare x ops ys p =>
      match ops, ys, h with
      | [op], [y], h =>
        have h : (decide (op = copOf o) && ckE Γ a κ x && ckE Γ b κ y && notSet y) = true := h
        simp only [Bool.and_eq_true, decide_eq_true_eq] at h
        obtain ⟨⟨⟨rfl, h1⟩, h2⟩, h3⟩ := h
        exact sd_cmpT g (ha.E _ _ _ g h1) (hb.E _ _ _ g h2) h3
      | [], _, h => exact absurd h Bool.false_ne_true
      | [_], [], h => exact absurd h Bool.false_ne_true
      | [_], _ :: _ :: _, h => exact absurd h Bool.false_ne_true
      | _ :: _ :: _, _, h => exact absurd h Bool.false_ne_true
    | _ => exact absurd h Bool.false_ne_true
  exact {
    E := by
      intro κ X e g h
      cases e with
      | Compare x ops ys p =>
        match ops, ys, h with
        | [op], [y], h =>
          have h : (decide (op = copOf o) && ckE Γ a κ x && ckE Γ b κ y && notSet y) = true := h
          simp only [Bool.and_eq_true, decide_eq_true_eq] at h
          obtain ⟨⟨⟨rfl, h1⟩, h2⟩, h3⟩ := h
          exact sd_cmpE g (ha.E _ _ _ g h1) (hb.E _ _ _ g h2) h3
        | [], _, h => exact absurd h Bool.false_ne_true
        | [_], [], h => exact absurd h Bool.false_ne_true
        | [_], _ :: _ :: _, h => exact absurd h Bool.false_ne_true
        | _ :: _ :: _, _, h => exact absurd h Bool.false_ne_true
      | _ => exact absurd h Bool.false_ne_true
    T := hT }
theorem sn_chain {o o' : Cop} {a b c : C} (ha : Snd Γ gs cs k a) (hb : Snd Γ gs cs k b) (hc : Snd Γ gs cs k c) : Snd Γ gs cs k (.chain o o' a b c) := by
  have hT : ∀ κ X e, XG Γ gs cs k κ X → ckT Γ (.chain o o' a b c) κ e = true → PT X e (TTd X.K (evT gs cs (.chain o o' a b c))) := by
    intro κ X e g h
    cases e with
    | Compare x ops ys p =>
      match ops, ys, h with
      | [op, op'], [y, z], h =>
        have h : (decide (op = copOf o) && decide (op' = copOf o') && ckE Γ a κ x && ckE Γ b κ y && ckE Γ c κ z && notSet y && notSet z) = true := h
        simp only [Bool.and_eq_true, decide_eq_true_eq] at h
        obtain ⟨⟨⟨⟨⟨⟨rfl, rfl⟩, h1⟩, h2⟩, h3⟩, h4⟩, h5⟩ := h
        exact sd_chainT g (ha.E _ _ _ g h1) (hb.E _ _ _ g h2) (hc.E _ _ _ g h3) h5
      | [], _, h => exact absurd h Bool.false_ne_true
      | [_], _, h => exact absurd h Bool.false_ne_true
      | [_, _], [], h => exact absurd h Bool.false_ne_true
      | [_, _], [_], h => exact absurd h Bool.false_ne_true
      | [_, _], _ :: _ :: _ :: _, h => exact absurd h Bool.false_ne_true
      | _ :: _ :: _ :: _, _, h => exact absurd h Bool.false_ne_true
    | _ => exact absurd h Bool.false_ne_true
  exact {
    E := by
      intro κ X e g h
      cases e with
      | Compare x ops ys p =>
        match ops, ys, h with
        | [op, op'], [y, z], h =>
          have h : (decide (op = copOf o) && decide (op' = copOf o') && ckE Γ a κ x && ckE Γ b κ y && ckE Γ c κ z && notSet y && notSet z) = true := h
          simp only [Bool.and_eq_true, decide_eq_true_eq] at h
          obtain ⟨⟨⟨⟨⟨⟨rfl, rfl⟩, h1⟩, h2⟩, h3⟩, h4⟩, h5⟩ := h
          exact sd_chainE g (ha.E _ _ _ g h1) (hb.E _ _ _ g h2) (hc.E _ _ _ g h3) h5
        | [], _, h => exact absurd h Bool.false_ne_true
        | [_], _, h => exact absurd h Bool.false_ne_true
        | [_, _], [], h => exact absurd h Bool.false_ne_true
        | [_, _], [_], h => exact absurd h Bool.false_ne_true
        | [_, _], _ :: _ :: _ :: _, h => exact absurd h Bool.false_ne_true
        | _ :: _ :: _ :: _, _, h => exact absurd h Bool.false_ne_true
      | _ => exact absurd h Bool.false_ne_true
    T := hT }
theorem sn_and {a b : C} (ha : Snd Γ gs cs k a) (hb : Snd Γ gs cs k b) : Snd Γ gs cs k (.and a b) := by
  have hW : ∀ κ X op xs p, XG Γ gs cs k κ X → ckT Γ (.and a b) κ (.BoolOp op xs p) = true → PW X (.BoolOp op xs p) (TTd X.K (evT gs cs (.and a b))) := by
    intro κ X op xs p g h
    match op, xs, h with
    | .And, x :: y :: r, h =>
      have h : (ckT Γ a κ x && ckT Γ b κ (.BoolOp .And (y :: r) p)) = true := h
      rw [Bool.and_eq_true] at h
      exact sd_andT (ha.T _ _ _ g h.1) (hb.W _ _ _ _ _ g h.2)
    | .And, [], h => exact absurd h Bool.false_ne_true
    | .And, [_], h => exact absurd h Bool.false_ne_true
    | .Or, _, h => exact absurd h Bool.false_ne_true
  have hT : ∀ κ X e, XG Γ gs cs k κ X → ckT Γ (.and a b) κ e = true → PT X e (TTd X.K (evT gs cs (.and a b))) := by
    intro κ X e g h
    cases e with
    | BoolOp op xs p => exact (hW κ X op xs p g h).pt
    | _ => exact absurd h Bool.false_ne_true
  exact {
    E := by
      intro κ X e g h
      cases e with
      | BoolOp op xs p =>
        match op, xs, h with
        | .And, x :: y :: r, h =>
          have h : (ckE Γ a κ x && ckE Γ b κ (.BoolOp .And (y :: r) p)) = true := h
          rw [Bool.and_eq_true] at h
          exact sd_andE (ha.E _ _ _ g h.1) (hb.E _ _ _ g h.2)
        | .And, [], h => exact absurd h Bool.false_ne_true
        | .And, [_], h => exact absurd h Bool.false_ne_true
        | .Or, _, h => exact absurd h Bool.false_ne_true
      | _ => exact absurd h Bool.false_ne_true
    T := hT
    W := hW }
theorem sn_or {a b : C} (ha : Snd Γ gs cs k a) (hb : Snd Γ gs cs k b) : Snd Γ gs cs k (.or a b) := by
  have hW : ∀ κ X op xs p, XG Γ gs cs k κ X → ckT Γ (.or a b) κ (.BoolOp op xs p) = true → PW X (.BoolOp op xs p) (TTd X.K (evT gs cs (.or a b))) := by
    intro κ X op xs p g h
    match op, xs, h with
    | .Or, x :: y :: r, h =>
      have h : (ckT Γ a κ x && ckT Γ b κ (.BoolOp .Or (y :: r) p)) = true := h
      rw [Bool.and_eq_true] at h
      exact sd_orT (ha.T _ _ _ g h.1) (hb.W _ _ _ _ _ g h.2)
    | .Or, [], h => exact absurd h Bool.false_ne_true
    | .Or, [_], h => exact absurd h Bool.false_ne_true
    | .And, _, h => exact absurd h Bool.false_ne_true
  have hT : ∀ κ X e, XG Γ gs cs k κ X → ckT Γ (.or a b) κ e = true → PT X e (TTd X.K (evT gs cs (.or a b))) := by
    intro κ X e g h
    cases e with
    | BoolOp op xs p => exact (hW κ X op xs p g h).pt
    | _ => exact absurd h Bool.false_ne_true
  exact {
    E := by
      intro κ X e g h
      cases e with
      | BoolOp op xs p =>
        match op, xs, h with
        | .Or, x :: y :: r, h =>
          have h : (ckE Γ a κ x && ckE Γ b κ (.BoolOp .Or (y :: r) p)) = true := h
          rw [Bool.and_eq_true] at h
          exact sd_orE (ha.E _ _ _ g h.1) (hb.E _ _ _ g h.2)
        | .Or, [], h => exact absurd h Bool.false_ne_true
        | .Or, [_], h => exact absurd h Bool.false_ne_true
        | .And, _, h => exact absurd h Bool.false_ne_true
      | _ => exact absurd h Bool.false_ne_true
    T := hT
    W := hW }
theorem sn_one {a : C} (ha : Snd Γ gs cs k a) : Snd Γ gs cs k (.one a) := by
  have hW : ∀ κ X op xs p, XG Γ gs cs k κ X → ckT Γ (.one a) κ (.BoolOp op xs p) = true → PW X (.BoolOp op xs p) (TTd X.K (evT gs cs (.one a))) := by
    intro κ X op xs p g h
    match op, xs, h with
    | .And, [x], h => exact pw_and1 (ha.T _ _ _ g h)
    | .Or, [x], h => exact pw_or1 (ha.T _ _ _ g h)
    | _, [], h => exact absurd h Bool.false_ne_true
    | _, _ :: _ :: _, h => exact absurd h Bool.false_ne_true
  exact {
    E := by
      intro κ X e g h
      cases e with
      | BoolOp op xs p =>
        match op, xs, h with
        | .And, [x], h => exact pe_one (ha.E _ _ _ g h)
        | .Or, [x], h => exact pe_one (ha.E _ _ _ g h)
        | _, [], h => exact absurd h Bool.false_ne_true
        | _, _ :: _ :: _, h => exact absurd h Bool.false_ne_true
      | _ => exact absurd h Bool.false_ne_true
    T := by
      intro κ X e g h
      cases e with
      | BoolOp op xs p => exact (hW κ X op xs p g h).pt
      | _ => exact absurd h Bool.false_ne_true
    W := hW }
theorem sn_not {a : C} (ha : Snd Γ gs cs k a) : Snd Γ gs cs k (.not a) := by
  have hT : ∀ κ X e, XG Γ gs cs k κ X → ckT Γ (.not a) κ e = true → PT X e (TTd X.K (evT gs cs (.not a))) := by
    intro κ X e g h
    cases e with
    | UnaryOp op x p =>
      cases op with
      | Not => exact sd_notT (ha.T _ _ _ g h)
      | _ => exact absurd h Bool.false_ne_true
    | _ => exact absurd h Bool.false_ne_true
  exact {
    E := by
      intro κ X e g h
      cases e with
      | UnaryOp op x p =>
        cases op with
        | Not => exact sd_notE (ha.E _ _ _ g h)
        | _ => exact absurd h Bool.false_ne_true
      | _ => exact absurd h Bool.false_ne_true
    T := hT }
theorem sn_ex {a : C} (ha : Snd Γ gs cs k a) : Snd Γ gs cs k (.ex a) := by
  have hT : ∀ κ X e, XG Γ gs cs k κ X → ckT Γ (.ex a) κ e = true → PT X e (TTd X.K (evT gs cs (.ex a))) := by
    intro κ X e g h
    have h : (ckE Γ a κ e && plainT e) = true := by cases e <;> exact h
    rw [Bool.and_eq_true] at h
    exact sd_exT (ha.E _ _ _ g h.1) h.2
  exact {
    T := hT
    W := by
      intro κ X op xs p g h
      have h : (ckE Γ a κ (.BoolOp op xs p) && plainT (.BoolOp op xs p)) = true := h
      rw [Bool.and_eq_true] at h
      exact absurd h.2 Bool.false_ne_true
    S := by
      intro κ X e g ho h
      cases e with
      | Expr e p =>
        have h : (ckE Γ a κ e && notComp e) = true := h
        rw [Bool.and_eq_true] at h
        exact ss_ex (ha.E _ _ _ g h.1) h.2
      | _ => exact absurd h Bool.false_ne_true }
theorem sn_ife {t a b : C} (ht : Snd Γ gs cs k t) (ha : Snd Γ gs cs k a) (hb : Snd Γ gs cs k b) : Snd Γ gs cs k (.ife t a b) where
  E := by
    intro κ X e g h
    cases e with
    | IfExp c x y p =>
      have h : (ckT Γ t κ c && ckE Γ a κ x && ckE Γ b κ y) = true := h
      simp only [Bool.and_eq_true] at h
      exact sd_ife (ht.T _ _ _ g h.1.1) (ha.E _ _ _ g h.1.2) (hb.E _ _ _ g h.2)
    | _ => exact absurd h Bool.false_ne_true
theorem sn_tup {as : C} (ha : Snd Γ gs cs k as) : Snd Γ gs cs k (.tup as) where
  E := by
    intro κ X e g h
    cases e with
    | Tuple es q p => exact sd_tup (ha.A _ _ _ g h).1
    | _ => exact absurd h Bool.false_ne_true
theorem sn_dsp {m : Bool} {as : C} (ha : Snd Γ gs cs k as) : Snd Γ gs cs k (.dsp m as) where
  E := by
    intro κ X e g h
    cases e with
    | List es p => exact sd_dsp (ha.A _ _ _ g h).1
    | _ => exact absurd h Bool.false_ne_true
theorem sn_idx {a i : C} (ha : Snd Γ gs cs k a) (hi : Snd Γ gs cs k i) : Snd Γ gs cs k (.idx a i) where
  E := by
    intro κ X e g h
    cases e with
    | Subscript x y p =>
      have h : (ckE Γ a κ x && ckE Γ i κ y && notSlice y) = true := h
      simp only [Bool.and_eq_true] at h
      exact sd_idx (ha.E _ _ _ g h.1.1) (hi.E _ _ _ g h.1.2) h.2
    | _ => exact absurd h Bool.false_ne_true
theorem sn_slc {m : Bool} {a lo hi : C} (ha : Snd Γ gs cs k a) (hl : Snd Γ gs cs k lo) (hh : Snd Γ gs cs k hi) : Snd Γ gs cs k (.slc m a lo hi) where
  E := by
    intro κ X e g h
    cases e with
    | Subscript x y p =>
      cases y with
      | Slice l u st q =>
        cases st with
        | none =>
          have h : (ckE Γ a κ x && ckO Γ lo κ l && ckO Γ hi κ u) = true := h
          simp only [Bool.and_eq_true] at h
          exact sd_slc (ha.E _ _ _ g h.1.1) (hl.O _ _ _ g h.1.2) (hh.O _ _ _ g h.2)
        | some _ => exact absurd h Bool.false_ne_true
      | _ => exact absurd h Bool.false_ne_true
    | _ => exact absurd h Bool.false_ne_true
theorem sn_call {f : Nat} {as : C} (ha : Snd Γ gs cs k as) : Snd Γ gs cs k (.call f as) where
  E := by
    intro κ X e g h
    cases e with
    | Call fe es ks p =>
      cases fe with
      | Name x q =>
        have h : (ks.isEmpty && decide (Γ.fns[f]? = some x) && ckGlob κ x && ckA Γ as κ es && !es.isEmpty) = true := h
        simp only [Bool.and_eq_true, decide_eq_true_eq, List.isEmpty_iff] at h
        obtain ⟨⟨⟨⟨rfl, h1⟩, h2⟩, h3⟩, h4⟩ := h
        obtain ⟨a1, a2⟩ := ha.A _ _ _ g h3
        cases es with
        | nil => cases h4
        | cons e es =>
          rw [List.all_cons, Bool.and_eq_true] at a2
          exact sd_call g h1 h2 a1 a2.1 a2.2
      | _ => exact absurd h Bool.false_ne_true
    | _ => exact absurd h Bool.false_ne_true
theorem sn_blt {b : Blt} {m : Bool} {as : C} (ha : Snd Γ gs cs k as) (h1 : ∀ a, as = .cons a .nil → Snd Γ gs cs k a) : Snd Γ gs cs k (.blt b m as) where
  E := by
    intro κ X e g h
    cases e with
    | Call fe es ks p =>
      cases fe with
      | Name x q =>
        have hg : (ks.isEmpty && decide (x = bltName b) && ckBlt Γ κ x && ckA Γ as κ es && !es.isEmpty) = true → isIsI b = false → PE X (.Call (.Name x q) es ks p) (TEd X.K (evE gs cs (.blt b m as))) := by
          intro h hb
          simp only [Bool.and_eq_true, decide_eq_true_eq, List.isEmpty_iff] at h
          obtain ⟨⟨⟨⟨rfl, rfl⟩, h2⟩, h3⟩, h4⟩ := h
          obtain ⟨a1, a2⟩ := ha.A _ _ _ g h3
          obtain ⟨gl, gm⟩ := g.bltB h2
          cases es with
          | nil => cases h4
          | cons e es =>
            rw [List.all_cons, Bool.and_eq_true] at a2
            cases b with
            | abs => exact sd_callB cd_abs gl gm (by decide +kernel) a1 (by decide) (by decide) (star_cons a2.1) (stars_plain a2.2)
            | len => exact sd_callB cd_len gl gm (by decide +kernel) a1 (by decide) (by decide) (star_cons a2.1) (stars_plain a2.2)
            | max => exact sd_callB (cd_max g.calm) gl gm (by decide +kernel) a1 (by decide) (by decide) (star_cons a2.1) (stars_plain a2.2)
            | min => exact sd_callB (cd_min g.calm) gl gm (by decide +kernel) a1 (by decide) (by decide) (star_cons a2.1) (stars_plain a2.2)
            | int => exact sd_callTy cd_int gl gm (by decide +kernel) a1 (by decide) (by decide) (star_cons a2.1) (stars_plain a2.2)
            | list => exact sd_callTy cd_list gl gm (by decide +kernel) a1 (by decide) (by decide) (star_cons a2.1) (stars_plain a2.2)
            | tuple => exact sd_callTy cd_tuple gl gm (by decide +kernel) a1 (by decide) (by decide) (star_cons a2.1) (stars_plain a2.2)
            | str => exact sd_callTy cd_str gl gm (by decide +kernel) a1 (by decide) (by decide) (star_cons a2.1) (stars_plain a2.2)
            | isI t => cases hb
        cases b with
        | isI t =>
          cases as with
          | cons a as =>
            cases as with
            | nil =>
              match es, h with
              | [], h => exact absurd h Bool.false_ne_true
              | [_], h => exact absurd h Bool.false_ne_true
              | _ :: _ :: _ :: _, h => exact absurd h (by intro h; simp [ckE] at h)
              | [y, z], h =>
                cases z with
                | Name z pz =>
                  have h : (ks.isEmpty && decide (x = bltName (.isI t)) && ckBlt Γ κ x && ckBlt Γ κ z && decide (z = Str.ofString (tyName t)) && ckE Γ a κ y && notStar y) = true := h
                  simp only [Bool.and_eq_true, decide_eq_true_eq, List.isEmpty_iff] at h
                  obtain ⟨⟨⟨⟨⟨⟨rfl, rfl⟩, h2⟩, h3⟩, rfl⟩, h5⟩, h6⟩ := h
                  obtain ⟨gl, gm⟩ := g.bltB h2
                  obtain ⟨gl2, gm2⟩ := g.bltB h3
                  refine ofPE (sd_isI (m := m) gl gm gl2 gm2 ((h1 a rfl).E _ _ _ g h5) ⟨_, rfl⟩ (star_cons h6) (stars_plain rfl)) fun σ H Q h => ?_
                  obtain ⟨G, F, mu, sd, st, d, st', R, S, e, P⟩ := h
                  refine ⟨G, F, mu, sd, st, d, st', R, S, ?_, P⟩
                  simp only [evE, evA] at e
                  simp only [Option.bind_eq_some_iff, Option.map_eq_some_iff] at e ⊢
                  obtain ⟨q, ⟨p, e1, e2, e3, e4⟩, e5⟩ := e
                  cases e3
                  cases e4
                  exact ⟨_, ⟨p, e1, rfl⟩, e5⟩
                | _ => exact absurd h Bool.false_ne_true
            | _ => exact absurd h (by intro h; simp [ckE] at h)
          | _ => exact absurd h (by intro h; simp [ckE] at h)
        | _ => exact hg h rfl
      | _ => exact absurd h Bool.false_ne_true
    | _ => exact absurd h Bool.false_ne_true
theorem sn_lcp {m : Bool} {own : List Nat} {tg it ifs el : C} (ht : Snd Γ gs cs k tg) (hi : Snd Γ gs cs k it) (hf : Snd Γ gs cs k ifs) (he : Snd Γ gs cs k el) : Snd Γ gs cs k (.lcp m own tg it ifs el) where
  E := by
    intro κ X e g h
    cases e with
    | ListComp elt gens scope p =>
      match gens, h with
      | [], h => exact absurd h Bool.false_ne_true
      | _ :: _ :: _, h => exact absurd h (by intro h; simp [ckE] at h)
      | [⟨tg', it', ifs', n⟩], h =>
        by_cases hn : n = 0
        case neg => exact absurd h (by intro h; simp [ckE, hn] at h)
        subst hn
        have h : (blkC κ.N κ.sc scope (ownN κ own) && ckI Γ it κ tg' it' && notSet it' && ckG Γ tg (blkCt κ scope own) tg' && ckIfs ifs (fun e => ckT Γ ifs (blkCt κ scope own) e) ifs' && ckE Γ el (blkCt κ scope own) elt) = true := h
        simp only [Bool.and_eq_true] at h
        obtain ⟨⟨⟨⟨⟨h1, h2⟩, h3⟩, h4⟩, h5⟩, h6⟩ := h
        exact sd_lcp g h1 (hi.I _ _ _ _ g h2) h3 (fun X' g' => ht.G _ _ _ g' h4) (fun X' g' => sn_ifs' hf _ _ _ g' h5) (fun X' g' => he.E _ _ _ g' h6)
    | _ => exact absurd h Bool.false_ne_true
theorem sn_frz {a : C} (ha : Snd Γ gs cs k a) : Snd Γ gs cs k (.frz a) where
  E := by
    intro κ X e g h
    have h : ckE Γ a κ e = true := by cases e <;> exact h
    exact sd_frz (ha.E _ _ _ g h)
theorem keys_some : ∀ {ks : List Str} {keys : List (Option Expr)}, ckKeys ks keys = true → keys.all (·.isSome) = true ∧ keys.length = ks.length
  | [], [], _ => ⟨rfl, rfl⟩
  | [], _ :: _, h => absurd h (by simp [ckKeys])
  | _ :: _, [], h => absurd h (by simp [ckKeys])
  | k :: ks, e :: r, h => by
    cases e with
    | none => exact absurd h (by simp [ckKeys])
    | some e =>
      cases e with
      | Constant c q p =>
        cases c with
        | str z =>
          have h : (decide (k = z) && ckKeys ks r) = true := h
          rw [Bool.and_eq_true] at h
          obtain ⟨a, b⟩ := keys_some h.2
          exact ⟨by rw [List.all_cons, a]; rfl, by rw [List.length_cons, List.length_cons, b]⟩
        | _ => exact absurd h (by simp [ckKeys])
      | _ => exact absurd h (by simp [ckKeys])
theorem sn_dsel {ks : List Str} {as i : C} (ha : Snd Γ gs cs k as) (hi : Snd Γ gs cs k i) : Snd Γ gs cs k (.dsel ks as i) where
  E := by
    intro κ X e g h
    cases e with
    | Subscript x y p =>
      cases x with
      | Dict keys vals dp =>
        have h : (ckKeys ks keys && ckA Γ as κ vals && ckE Γ i κ y && notSlice y && decide (ks.length = vals.length) && decide (ks.length ≤ 15) && !ks.isEmpty) = true := h
        simp only [Bool.and_eq_true, decide_eq_true_eq, Bool.not_eq_true'] at h
        obtain ⟨⟨⟨⟨⟨⟨h1, h2⟩, h3⟩, h4⟩, h5⟩, h6⟩, h7⟩ := h
        obtain ⟨k1, k2⟩ := keys_some h1
        obtain ⟨trs, p1, p2⟩ := ha.P _ _ ks keys vals dp g h2 h1 h5
        exact sd_dsel g p1 p2 (hi.E _ _ _ g h3) h4 k1 (by omega) (by intro z; rw [z] at k2; cases ks with | nil => cases h7 | cons a b => cases k2) (by omega) h6
      | _ => exact absurd h Bool.false_ne_true
    | _ => exact absurd h Bool.false_ne_true
theorem sn_rev {m : Bool} {a : C} (ha : Snd Γ gs cs k a) : Snd Γ gs cs k (.rev m a) where
  E := by
    intro κ X e g h
    cases e with
    | Subscript x y p =>
      have h : (ckE Γ a κ x && isRev y) = true := h
      rw [Bool.and_eq_true] at h
      exact sd_rev (ha.E _ _ _ g h.1) h.2
    | _ => exact absurd h Bool.false_ne_true
theorem sn_mth {mt : Mth} {o as : C} (ho : Snd Γ gs cs k o) (ha : Snd Γ gs cs k as) : Snd Γ gs cs k (.mth mt o as) where
  E := by
    intro κ X e g h
    cases mt
    cases e with
    | Call fe es ks p =>
      cases fe with
      | Attribute ob nm ap =>
        have h : (ks.isEmpty && decide (nm = "append") && ckE Γ o κ ob && notSuper ob && ckA Γ as κ es && decide (es.length = 1) && (ap.endLine == p.line)) = true := h
        simp only [Bool.and_eq_true, decide_eq_true_eq, List.isEmpty_iff] at h
        obtain ⟨⟨⟨⟨⟨⟨rfl, rfl⟩, h2⟩, h3⟩, h4⟩, h5⟩, h6⟩ := h
        obtain ⟨a1, a2⟩ := ha.A _ _ _ g h4
        match es, h5, a1, a2 with
        | [e], _, a1, a2 =>
          rw [List.all_cons, Bool.and_eq_true] at a2
          exact sd_append (ho.E _ _ _ g h2) a1 h3 a2.1 h6
      | _ => exact absurd h Bool.false_ne_true
    | _ => exact absurd h Bool.false_ne_true
theorem sn_nil : Snd Γ gs cs k .nil where
  P := by
    intro κ X ks keys es pos g h hk hl
    cases es with
    | cons e es => exact absurd h Bool.false_ne_true
    | nil =>
      cases ks with
      | cons _ _ => cases hl
      | nil =>
        cases keys with
        | cons _ _ => exact absurd hk (by simp [ckKeys])
        | nil =>
          refine ⟨[], pps_nil, fun σ H Q q => ?_⟩
          obtain ⟨G, F, mu, sd, st, ds, st', R, S, e, P⟩ := q
          cases e
          exact P _ _ _ [] Ex.refl R .nil
  O := by
    intro κ X e g h
    cases e with
    | none => exact so_none
    | some e => exact absurd h Bool.false_ne_true
  A := by
    intro κ X es g h
    cases es with
    | nil => exact ⟨sd_nil, rfl⟩
    | cons e es => exact absurd h Bool.false_ne_true
  Gs := by
    intro κ X es g h
    cases es with
    | nil => exact sgs_nil (rlOf_refl κ)
    | cons e es => exact absurd h Bool.false_ne_true
  L := by
    intro κ es h
    cases es with
    | nil => exact ⟨rfl, fun ds sd st r e => by
        cases ds with
        | nil => rfl
        | cons d ds => cases e⟩
    | cons e es => exact absurd h Bool.false_ne_true
  Ss := by
    intro κ X es g _ h
    cases es with
    | nil => exact ss_nil
    | cons e es => exact absurd h Bool.false_ne_true
theorem sn_cons {a as : C} (ha : Snd Γ gs cs k a) (hs : Snd Γ gs cs k as) : Snd Γ gs cs k (.cons a as) where
  P := by
    intro κ X ks keys es pos g h hk hl
    cases es with
    | nil => exact absurd h Bool.false_ne_true
    | cons e es =>
      have h : (ckE Γ a κ e && notStar e && ckA Γ as κ es) = true := h
      simp only [Bool.and_eq_true] at h
      obtain ⟨⟨h1, h2⟩, h3⟩ := h
      match ks, keys, hk, hl with
      | [], _, _, hl => cases hl
      | _ :: _, [], hk, _ => exact absurd hk (by simp [ckKeys])
      | _ :: _, none :: _, hk, _ => exact absurd hk (by simp [ckKeys])
      | k0 :: ks, some ke :: keys, hk, hl =>
        cases ke with
        | Constant c q p =>
          cases c with
          | str z =>
            have hk : (decide (k0 = z) && ckKeys ks keys) = true := hk
            rw [Bool.and_eq_true, decide_eq_true_eq] at hk
            obtain ⟨hz, hk2⟩ := hk
            subst hz
            obtain ⟨trs, p1, p2⟩ := hs.P _ _ ks keys es pos g h3 hk2 (by simpa using hl)
            refine ⟨_, pps_cons pe_str (ha.E _ _ _ g h1) p1, fun σ H Q q => ?_⟩
            obtain ⟨G, F, mu, sd, st, ds, st', R, S, e, P⟩ := q
            have e : ((evE gs cs a sd st).bind fun p => (evA gs cs as sd p.2).map fun q => (p.1 :: q.1, q.2)) = some (ds, st') := e
            simp only [Option.bind_eq_some_iff, Option.map_eq_some_iff] at e
            obtain ⟨⟨x, st1⟩, e1, ⟨xs, st2⟩, e2, e3⟩ := e
            cases e3
            refine ⟨G, F, mu, sd, st, x, st1, R, S, e1, fun F1 mu1 H1 v1 x1 R1 r1 => ?_⟩
            refine p2 _ _ _ ⟨G, F1, mu1, sd, st1, xs, _, R1, S.mono x1, e2, fun F2 mu2 H2 vs x2 R2 r2 => ?_⟩
            exact P _ _ _ (v1 :: vs) (x1.trans x2) R2 (.cons (r1.mono x2) r2)
          | _ => exact absurd hk (by simp [ckKeys])
        | _ => exact absurd hk (by simp [ckKeys])
  O := by
    intro κ X e g h
    cases e with
    | none => exact absurd h Bool.false_ne_true
    | some e => exact so_some (ha.E _ _ _ g h)
  A := by
    intro κ X es g h
    cases es with
    | nil => exact absurd h Bool.false_ne_true
    | cons e es =>
      have h : (ckE Γ a κ e && notStar e && ckA Γ as κ es) = true := h
      simp only [Bool.and_eq_true] at h
      obtain ⟨⟨h1, h2⟩, h3⟩ := h
      obtain ⟨a1, a2⟩ := hs.A _ _ _ g h3
      exact ⟨sd_cons (ha.E _ _ _ g h1) a1 (star_cons h2), by rw [List.all_cons, h2, a2]; rfl⟩
  Gs := by
    intro κ X es g h
    cases es with
    | nil => exact absurd h Bool.false_ne_true
    | cons e es =>
      have h : (ckG Γ a κ e && notStar e && ckGs Γ as κ es) = true := h
      simp only [Bool.and_eq_true] at h
      obtain ⟨⟨h1, h2⟩, h3⟩ := h
      exact sgs_cons (rlOf_trans κ) (ha.G _ _ _ g h1) (hs.Gs _ _ _ g h3) (by rw [assignC h2]; rfl)
  L := by
    intro κ es h
    cases es with
    | nil => exact absurd h Bool.false_ne_true
    | cons e es =>
      have h : (ckG Γ a κ e && notStar e && ckGs Γ as κ es) = true := h
      simp only [Bool.and_eq_true] at h
      obtain ⟨⟨h1, h2⟩, h3⟩ := h
      obtain ⟨b1, b2⟩ := hs.L _ _ h3
      refine ⟨by rw [List.all_cons, h2, b1]; rfl, fun ds sd st r e => ?_⟩
      cases ds with
      | nil => cases e
      | cons d ds =>
        have e : ((evG gs cs a d sd st).bind fun p => evGs gs cs as ds p.1 p.2) = some r := e
        rw [Option.bind_eq_some_iff] at e
        obtain ⟨p, _, e⟩ := e
        rw [List.length_cons, List.length_cons, b2 _ _ _ _ e]
  Ss := by
    intro κ X es g ho h
    cases es with
    | nil => exact absurd h Bool.false_ne_true
    | cons e es =>
      have h : (ckS Γ a κ e && ckSs Γ as κ es) = true := h
      rw [Bool.and_eq_true] at h
      refine ofPSs (ss_cons (ha.S _ _ _ g ho h.1) (hs.Ss _ _ _ g ho h.2)) fun Dn σ H h => ?_
      obtain ⟨G, F, mu, sd, st, fl, st', R, S, e, P⟩ := h
      exact ⟨G, F, mu, sd, st, fl, st', R, S, e, P⟩
theorem sn_iV {a : C} (ha : Snd Γ gs cs k a) : Snd Γ gs cs k (.iV a) where
  I := by
    intro κ X tg e g h
    have h : ckE Γ a κ e = true := h
    exact sd_iV (ha.E _ _ _ g h)
theorem sn_iR1 {a : C} (ha : Snd Γ gs cs k a) : Snd Γ gs cs k (.iR1 a) where
  I := by
    intro κ X tg e g h
    cases e with
    | Call fe es ks p =>
      cases fe with
      | Name x q =>
        match es, h with
        | [], h => exact absurd h Bool.false_ne_true
        | _ :: _ :: _, h => exact absurd h Bool.false_ne_true
        | [e], h =>
          have h : (ks.isEmpty && decide (x = "range") && ckBlt Γ κ x && ckE Γ a κ e && notStar e) = true := h
          simp only [Bool.and_eq_true, decide_eq_true_eq, List.isEmpty_iff] at h
          obtain ⟨⟨⟨⟨rfl, rfl⟩, h2⟩, h3⟩, h4⟩ := h
          obtain ⟨gl, gm⟩ := g.bltB h2
          exact sd_iR1 gl gm (ha.E _ _ _ g h3) (star_cons h4)
      | _ => exact absurd h Bool.false_ne_true
    | _ => exact absurd h Bool.false_ne_true
theorem sn_iR2 {a b : C} (ha : Snd Γ gs cs k a) (hb : Snd Γ gs cs k b) : Snd Γ gs cs k (.iR2 a b) where
  I := by
    intro κ X tg e g h
    cases e with
    | Call fe es ks p =>
      cases fe with
      | Name x q =>
        match es, h with
        | [], h => exact absurd h Bool.false_ne_true
        | [_], h => exact absurd h Bool.false_ne_true
        | _ :: _ :: _ :: _, h => exact absurd h Bool.false_ne_true
        | [e, e'], h =>
          have h : (ks.isEmpty && decide (x = "range") && ckBlt Γ κ x && ckE Γ a κ e && ckE Γ b κ e' && notStar e && notStar e') = true := h
          simp only [Bool.and_eq_true, decide_eq_true_eq, List.isEmpty_iff] at h
          obtain ⟨⟨⟨⟨⟨⟨rfl, rfl⟩, h2⟩, h3⟩, h4⟩, h5⟩, h6⟩ := h
          obtain ⟨gl, gm⟩ := g.bltB h2
          exact sd_iR2 gl gm (ha.E _ _ _ g h3) (hb.E _ _ _ g h4) (by rw [star_cons h5, star_cons h6]; rfl) (star_cons h6)
      | _ => exact absurd h Bool.false_ne_true
    | _ => exact absurd h Bool.false_ne_true
theorem sn_iEn {a : C} (ha : Snd Γ gs cs k a) : Snd Γ gs cs k (.iEn a) where
  I := by
    intro κ X tg e g h
    cases e with
    | Call fe es ks p =>
      cases fe with
      | Name x q =>
        match es, h with
        | [], h => exact absurd h Bool.false_ne_true
        | _ :: _ :: _, h => exact absurd h Bool.false_ne_true
        | [e], h =>
          have h : (ks.isEmpty && decide (x = "enumerate") && ckBlt Γ κ x && ckE Γ a κ e && notStar e && isTup tg) = true := h
          simp only [Bool.and_eq_true, decide_eq_true_eq, List.isEmpty_iff] at h
          obtain ⟨⟨⟨⟨⟨rfl, rfl⟩, h2⟩, h3⟩, h4⟩, h5⟩ := h
          obtain ⟨gl, gm⟩ := g.bltB h2
          cases tg with
          | Tuple ts kk tp => exact sd_iEn gl gm (ha.E _ _ _ g h3) (star_cons h4)
          | _ => exact absurd h5 Bool.false_ne_true
      | _ => exact absurd h Bool.false_ne_true
    | _ => exact absurd h Bool.false_ne_true
theorem sn_iZip {a b : C} (ha : Snd Γ gs cs k a) (hb : Snd Γ gs cs k b) : Snd Γ gs cs k (.iZip a b) where
  I := by
    intro κ X tg e g h
    cases e with
    | Call fe es ks p =>
      cases fe with
      | Name x q =>
        match es, h with
        | [], h => exact absurd h Bool.false_ne_true
        | [_], h => exact absurd h Bool.false_ne_true
        | _ :: _ :: _ :: _, h => exact absurd h Bool.false_ne_true
        | [e, e'], h =>
          have h : (ks.isEmpty && decide (x = "zip") && ckBlt Γ κ x && ckE Γ a κ e && ckE Γ b κ e' && notStar e && notStar e' && isTup tg) = true := h
          simp only [Bool.and_eq_true, decide_eq_true_eq, List.isEmpty_iff] at h
          obtain ⟨⟨⟨⟨⟨⟨⟨rfl, rfl⟩, h2⟩, h3⟩, h4⟩, h5⟩, h6⟩, h7⟩ := h
          obtain ⟨gl, gm⟩ := g.bltB h2
          cases tg with
          | Tuple ts kk tp => exact sd_iZip gl gm (ha.E _ _ _ g h3) (hb.E _ _ _ g h4) (star_cons h5) (star_cons h6) (stars_plain (by rw [List.all_cons, h6]; rfl))
          | _ => exact absurd h7 Bool.false_ne_true
      | _ => exact absurd h Bool.false_ne_true
    | _ => exact absurd h Bool.false_ne_true
theorem sn_tN (i : Nat) : Snd Γ gs cs k (.tN i) where
  G := by
    intro κ X e g h
    cases e with
    | Name x p =>
      have h : ckSto κ i x = true := h
      unfold ckSto at h
      simp only [Bool.and_eq_true, decide_eq_true_eq, Bool.or_eq_true] at h
      obtain ⟨⟨⟨h1, h2⟩, h3⟩, h4⟩ := h
      refine sg_name (i := i) (fun σ v => ?_) g.nd (by rw [g.N]; exact h1) (by rw [g.sc]; exact locB_of h2) (by rw [g.fn, g.sc]; exact h3)
      unfold rlOf
      cases ho : κ.own with
      | none => trivial
      | some o =>
        rw [ho] at h4
        exact wipe_set (by simpa using h4)
    | _ => exact absurd h Bool.false_ne_true
theorem sn_tT {ts : C} (ht : Snd Γ gs cs k ts) : Snd Γ gs cs k (.tT ts) where
  G := by
    intro κ X e g h
    cases e with
    | Tuple es q p =>
      have h : ckGs Γ ts κ es = true := h
      obtain ⟨l1, l2⟩ := ht.L _ _ h
      obtain ⟨n1, n2⟩ := assigns_len (env := X.env) l1
      exact sg_tup g.calm (ht.Gs _ _ _ g h) n2 (fun ds sd st r e => by rw [n1]; exact l2 _ _ _ _ e)
    | _ => exact absurd h Bool.false_ne_true
theorem sn_tS {o i : C} (ho : Snd Γ gs cs k o) (hi : Snd Γ gs cs k i) : Snd Γ gs cs k (.tS o i) where
  G := by
    intro κ X e g h
    cases e with
    | Subscript x y p =>
      have h : (ckE Γ o κ x && ckE Γ i κ y && notSlice y) = true := h
      rw [Bool.and_eq_true, Bool.and_eq_true] at h
      exact sg_sub (rlOf_refl κ) (ho.E _ _ _ g h.1.1) (hi.E _ _ _ g h.1.2) (fun v => by
        have h3 := h.2
        cases y <;> first | rfl | cases h3)
    | _ => exact absurd h Bool.false_ne_true
theorem XG.hp {κ : Ct} {X : Cx} (g : XG Γ gs cs k κ X) : PassesOwn (model X.prog X.w) X.A X.env X.xe := by
  rw [g.xe]
  exact PassesOwn.never
theorem rlOf_all {κ : Ct} (h : κ.own = none) : rlOf κ = rAll := by
  unfold rlOf
  rw [h]
theorem sn_asg {t a : C} (ht : Snd Γ gs cs k t) (ha : Snd Γ gs cs k a) (h1 : ∀ m own tg it ifs el, a = .lcp m own tg it ifs el → Snd Γ gs cs k tg ∧ Snd Γ gs cs k it ∧ Snd Γ gs cs k ifs ∧ Snd Γ gs cs k el) : Snd Γ gs cs k (.asg t a) where
  S := by
    intro κ X e g ho h
    cases e with
    | Assign ts e pos =>
      match ts, h with
      | [], h => exact absurd h Bool.false_ne_true
      | _ :: _ :: _, h => exact absurd h Bool.false_ne_true
      | [tg], h =>
        have h : (ckG Γ t κ tg && ckE Γ a κ e && okStores tg e && notStar tg && (notComp e || ckSw κ tg e a)) = true := h
        rw [Bool.and_eq_true, Bool.and_eq_true, Bool.and_eq_true, Bool.and_eq_true] at h
        obtain ⟨⟨⟨⟨k1, k2⟩, k3⟩, k4⟩, k5⟩ := h
        have plain : swapsWithSole [tg] e pos.line X.env = pure false → PS X (.Assign [tg] e pos) (TSd X.K (exS gs cs (.asg t a))) := fun hsw => ss_asg (ha.E _ _ _ g k2) (ht.G _ _ _ g k1) hsw (okStores_of k3) (assign1 k4)
        rw [Bool.or_eq_true] at k5
        rcases k5 with k5 | k5
        · exact plain (swapS_of k5)
        · unfold ckSw at k5
          split at k5
          · rename_i y py elt gens scope lp m own tgc itc ifc elc hh
            rw [Bool.or_eq_true] at k5
            rcases k5 with k5 | k5
            · exact plain (swap_false (l := pos.line) g.kind (by rw [g.sc]; exact k5))
            · simp only [Bool.and_eq_true, decide_eq_true_eq, Bool.not_eq_true'] at k5
              obtain ⟨⟨s1, s2⟩, s3⟩ := k5
              obtain ⟨c1, c2, c3, c4⟩ := h1 _ _ _ _ _ _ rfl
              match gens, k2 with
              | [], k2 => exact absurd k2 Bool.false_ne_true
              | _ :: _ :: _, k2 => exact absurd k2 (by intro h; simp [ckE] at h)
              | [⟨tg', it', ifs', n⟩], k2 =>
                by_cases hn : n = 0
                case neg => exact absurd k2 (by intro h; simp [ckE, hn] at h)
                subst hn
                have k2 : (blkC κ.N κ.sc scope (ownN κ own) && ckI Γ itc κ tg' it' && notSet it' && ckG Γ tgc (blkCt κ scope own) tg' && ckIfs ifc (fun e => ckT Γ ifc (blkCt κ scope own) e) ifs' && ckE Γ elc (blkCt κ scope own) elt) = true := k2
                simp only [Bool.and_eq_true] at k2
                obtain ⟨⟨⟨⟨⟨h1, h2⟩, h3⟩, h4⟩, h5⟩, h6⟩ := k2
                cases t with
                | tN i =>
                  have k1 : ckSto κ i y = true := k1
                  unfold ckSto at k1
                  simp only [Bool.and_eq_true, decide_eq_true_eq] at k1
                  exact ss_setLc g h1 (c2.I _ _ _ _ g h2) h3 (fun X' g' => c1.G _ _ _ g' h4) (fun X' g' => sn_ifs' c3 _ _ _ g' h5) (fun X' g' => c4.E _ _ _ g' h6) k1.1.1.1 s1 s2 s3
                | _ => exact absurd k1 Bool.false_ne_true
          · cases k5
    | _ => exact absurd h Bool.false_ne_true
theorem sn_par {i j : Nat} {a b : C} (ha : Snd Γ gs cs k a) (hb : Snd Γ gs cs k b) : Snd Γ gs cs k (.par i j a b) where
  S := by
    intro κ X e g ho h
    cases e with
    | Assign ts e pos =>
      match ts, e, h with
      | [.Tuple [.Name x px, .Name y py] q1 q2], .Tuple [e1, e2] q3 q4, h =>
        have h : (decide (κ.N[i]? = some x) && decide (κ.N[j]? = some y) && decide (i ≠ j) && decide (x ≠ y) && decide (κ.sc.names.lookup x = some .local) && decide (κ.sc.names.lookup y = some .local) && (py.line == px.line) &&
        ckE Γ a κ e1 && ckE Γ b κ e2 && notStar e1 && notStar e2 && !([e1, e2].all (foldedForSure 8)) && !([e1, e2].all (constantsAlone 8))) = true := h
        simp only [Bool.and_eq_true, decide_eq_true_eq, Bool.not_eq_true'] at h
        obtain ⟨⟨⟨⟨⟨⟨⟨⟨⟨⟨⟨⟨h1, h2⟩, h3⟩, h4⟩, h5⟩, h6⟩, h7⟩, h8⟩, h9⟩, h10⟩, h11⟩, h12⟩, h13⟩ := h
        exact ss_par g (ha.E _ _ _ g h8) (hb.E _ _ _ g h9) h1 h2 h3 h4 h5 h6 h7 h10 h11 h12 h13
      | ts, e, h =>
        simp only [ckS] at h
        split at h
        · simp only [Bool.and_eq_true, decide_eq_true_eq, Bool.not_eq_true'] at h
          obtain ⟨⟨⟨⟨⟨⟨⟨⟨⟨⟨⟨⟨h1, h2⟩, h3⟩, h4⟩, h5⟩, h6⟩, h7⟩, h8⟩, h9⟩, h10⟩, h11⟩, h12⟩, h13⟩ := h
          exact ss_par g (ha.E _ _ _ g h8) (hb.E _ _ _ g h9) h1 h2 h3 h4 h5 h6 h7 h10 h11 h12 h13
        · cases h
    | _ => exact absurd h Bool.false_ne_true
theorem sn_aug {i : Nat} {o : Bop} {a : C} (ha : Snd Γ gs cs k a) : Snd Γ gs cs k (.aug i o a) where
  S := by
    intro κ X e g ho h
    cases e with
    | AugAssign t op e pos =>
      cases t with
      | Name x px =>
        have h : (ckAug o op && ckSto κ i x && ckE Γ a κ e) = true := h
        simp only [Bool.and_eq_true] at h
        obtain ⟨⟨h1, h2⟩, h3⟩ := h
        unfold ckAug at h1
        split at h1
        · refine ofPS (ss_aug (m := false) (px := px) (pos := pos) g (ha.E _ _ _ g h3) h2) fun Dn σ H h => ?_
          exact h
        · cases h1
      | _ => exact absurd h Bool.false_ne_true
    | _ => exact absurd h Bool.false_ne_true
theorem sn_ifs {t a b : C} (ht : Snd Γ gs cs k t) (ha : Snd Γ gs cs k a) (hb : Snd Γ gs cs k b) : Snd Γ gs cs k (.ifs t a b) where
  S := by
    intro κ X e g ho h
    cases e with
    | If c x y p =>
      have h : (ckT Γ t κ c && ckSs Γ a κ x && ckSs Γ b κ y) = true := h
      simp only [Bool.and_eq_true] at h
      exact ss_if (ht.T _ _ _ g h.1.1) (ha.Ss _ _ _ g ho h.1.2) (hb.Ss _ _ _ g ho h.2)
    | _ => exact absurd h Bool.false_ne_true
theorem sn_whl {t b : C} (ht : Snd Γ gs cs k t) (hb : Snd Γ gs cs k b) : Snd Γ gs cs k (.whl t b) where
  S := by
    intro κ X e g ho h
    cases e with
    | While c x els p =>
      have h : (els.isEmpty && ckT Γ t κ c && ckSs Γ b κ x) = true := h
      simp only [Bool.and_eq_true, List.isEmpty_iff] at h
      obtain ⟨⟨rfl, h1⟩, h2⟩ := h
      exact ss_while g.hp (ht.T _ _ _ g h1) (hb.Ss _ _ _ g ho h2)
    | _ => exact absurd h Bool.false_ne_true
theorem sn_for {t it b : C} (ht : Snd Γ gs cs k t) (hi : Snd Γ gs cs k it) (hb : Snd Γ gs cs k b) : Snd Γ gs cs k (.for_ t it b) where
  S := by
    intro κ X e g ho h
    cases e with
    | For tg i x els p =>
      have h : (els.isEmpty && ckI Γ it κ tg i && notSet i && ckG Γ t κ tg && ckSs Γ b κ x) = true := h
      simp only [Bool.and_eq_true, List.isEmpty_iff] at h
      obtain ⟨⟨⟨⟨rfl, h1⟩, h2⟩, h3⟩, h4⟩ := h
      have hg := ht.G _ _ _ g h3
      rw [rlOf_all ho] at hg
      exact ss_for g.hp g.calm (hi.I _ _ _ _ g h1) hg (hb.Ss _ _ _ g ho h4) (fold_of h2)
    | _ => exact absurd h Bool.false_ne_true
theorem sn_ret {a : C} (ha : Snd Γ gs cs k a) : Snd Γ gs cs k (.ret a) where
  S := by
    intro κ X e g ho h
    cases e with
    | Return v p =>
      cases v with
      | none => exact absurd h Bool.false_ne_true
      | some v => exact ss_ret (ha.E _ _ _ g h)
    | _ => exact absurd h Bool.false_ne_true
theorem sn_retN : Snd Γ gs cs k .retN where
  S := by
    intro κ X e g ho h
    cases e with
    | Return v p =>
      cases v with
      | none => exact ss_retN
      | some v => exact absurd h Bool.false_ne_true
    | _ => exact absurd h Bool.false_ne_true
theorem sn_pass : Snd Γ gs cs k .pass where
  S := by
    intro κ X e g ho h
    cases e with
    | Pass p => exact ss_next ps_pass
    | _ => exact absurd h Bool.false_ne_true
theorem sn_brk : Snd Γ gs cs k .brk where
  S := by
    intro κ X e g ho h
    cases e with
    | Break p => exact ss_brk
    | _ => exact absurd h Bool.false_ne_true
theorem sn_cnt : Snd Γ gs cs k .cnt where
  S := by
    intro κ X e g ho h
    cases e with
    | Continue p => exact ss_cnt
    | _ => exact absurd h Bool.false_ne_true
theorem sn_nev : Snd Γ gs cs k .nev where
  S := by
    intro κ X e g ho h
    exact ofPS ps_never fun Dn σ H q => by
      obtain ⟨G, F, mu, sd, st, fl, st', R, S, e, P⟩ := q
      cases e
def subs : C → List C
  | .cons a .nil => [a]
  | .lcp _ _ tg it ifs el => [tg, it, ifs, el]
  | _ => []
theorem snd_all : ∀ c : C, Snd Γ gs cs k c ∧ ∀ c' ∈ subs c, Snd Γ gs cs k c' := by
  intro c
  induction c with
  | var i => exact ⟨sn_var i, by simp [subs]⟩
  | kint i => exact ⟨sn_kint i, by simp [subs]⟩
  | kbl i => exact ⟨sn_kbl i, by simp [subs]⟩
  | kstr i => exact ⟨sn_kstr i, by simp [subs]⟩
  | knon => exact ⟨sn_knon, by simp [subs]⟩
  | glb i => exact ⟨sn_glb i, by simp [subs]⟩
  | un o a ha => exact ⟨sn_un ha.1, by simp [subs]⟩
  | bin o m a b ha hb => exact ⟨sn_bin ha.1 hb.1, by simp [subs]⟩
  | cmp o a b ha hb => exact ⟨sn_cmp ha.1 hb.1, by simp [subs]⟩
  | chain o o' a b c ha hb hc => exact ⟨sn_chain ha.1 hb.1 hc.1, by simp [subs]⟩
  | and a b ha hb => exact ⟨sn_and ha.1 hb.1, by simp [subs]⟩
  | or a b ha hb => exact ⟨sn_or ha.1 hb.1, by simp [subs]⟩
  | one a ha => exact ⟨sn_one ha.1, by simp [subs]⟩
  | not a ha => exact ⟨sn_not ha.1, by simp [subs]⟩
  | ife t a b ht ha hb => exact ⟨sn_ife ht.1 ha.1 hb.1, by simp [subs]⟩
  | tup as ha => exact ⟨sn_tup ha.1, by simp [subs]⟩
  | dsp m as ha => exact ⟨sn_dsp ha.1, by simp [subs]⟩
  | idx a i ha hi => exact ⟨sn_idx ha.1 hi.1, by simp [subs]⟩
  | slc m a lo hi ha hl hh => exact ⟨sn_slc ha.1 hl.1 hh.1, by simp [subs]⟩
  | call f as ha => exact ⟨sn_call ha.1, by simp [subs]⟩
  | blt b m as ha => exact ⟨sn_blt ha.1 fun a e => ha.2 a (by rw [e]; simp [subs]), by simp [subs]⟩
  | lcp m own tg it ifs el h1 h2 h3 h4 => exact ⟨sn_lcp h1.1 h2.1 h3.1 h4.1, by
      intro c' hc
      simp only [subs, List.mem_cons, List.not_mem_nil, or_false] at hc
      rcases hc with rfl | rfl | rfl | rfl
      · exact h1.1
      · exact h2.1
      · exact h3.1
      · exact h4.1⟩
  | dsel ks as i ha hi => exact ⟨sn_dsel ha.1 hi.1, by simp [subs]⟩
  | rev m a ha => exact ⟨sn_rev ha.1, by simp [subs]⟩
  | frz a ha => exact ⟨sn_frz ha.1, by simp [subs]⟩
  | mth mt o as ho ha => exact ⟨sn_mth ho.1 ha.1, by simp [subs]⟩
  | nil => exact ⟨sn_nil, by simp [subs]⟩
  | cons a as ha hs => exact ⟨sn_cons ha.1 hs.1, by
      intro c' hc
      cases as with
      | nil =>
        simp only [subs, List.mem_cons, List.not_mem_nil, or_false] at hc
        subst hc
        exact ha.1
      | _ => simp [subs] at hc⟩
  | iV a ha => exact ⟨sn_iV ha.1, by simp [subs]⟩
  | iR1 a ha => exact ⟨sn_iR1 ha.1, by simp [subs]⟩
  | iR2 a b ha hb => exact ⟨sn_iR2 ha.1 hb.1, by simp [subs]⟩
  | iEn a ha => exact ⟨sn_iEn ha.1, by simp [subs]⟩
  | iZip a b ha hb => exact ⟨sn_iZip ha.1 hb.1, by simp [subs]⟩
  | tN i => exact ⟨sn_tN i, by simp [subs]⟩
  | tT ts ht => exact ⟨sn_tT ht.1, by simp [subs]⟩
  | tS o i ho hi => exact ⟨sn_tS ho.1 hi.1, by simp [subs]⟩
  | asg t a ht ha => exact ⟨sn_asg ht.1 ha.1 fun m own tg it ifs el e => by
      subst e
      exact ⟨ha.2 _ (by simp [subs]), ha.2 _ (by simp [subs]), ha.2 _ (by simp [subs]), ha.2 _ (by simp [subs])⟩, by simp [subs]⟩
  | par i j a b ha hb => exact ⟨sn_par ha.1 hb.1, by simp [subs]⟩
  | aug i o a ha => exact ⟨sn_aug ha.1, by simp [subs]⟩
  | ifs t a b ht ha hb => exact ⟨sn_ifs ht.1 ha.1 hb.1, by simp [subs]⟩
  | whl t b ht hb => exact ⟨sn_whl ht.1 hb.1, by simp [subs]⟩
  | for_ t it b ht hi hb => exact ⟨sn_for ht.1 hi.1 hb.1, by simp [subs]⟩
  | ret a ha => exact ⟨sn_ret ha.1, by simp [subs]⟩
  | retN => exact ⟨sn_retN, by simp [subs]⟩
  | ex a ha => exact ⟨sn_ex ha.1, by simp [subs]⟩
  | pass => exact ⟨sn_pass, by simp [subs]⟩
  | brk => exact ⟨sn_brk, by simp [subs]⟩
  | cnt => exact ⟨sn_cnt, by simp [subs]⟩
  | nev => exact ⟨sn_nev, by simp [subs]⟩
theorem snd_body {κ : Ct} {X : Cx} {c : C} {es : List Stmt} (g : XG Γ gs cs k κ X) (ho : κ.own = none) (h : ckSs Γ c κ es = true) : PSs X es (TSd X.K (exS gs cs c)) := (snd_all c).1.Ss _ _ _ g ho h
end
end Jd

namespace Jd
open PySem PySem.Spec PyProof.Rows L2

/-- a def of the text and its code: a look that knows no machine -/
structure DefCk (Γ : Gam) (st : Stmt) (g : Fn) (N ps : List Str) : Prop where
  sc : FnScope N ps (defScope st)
  np : g.np = ps.length
  nn : g.nn = N.length
  ck : ckSs Γ g.body ⟨N, defScope st, fun _ => true, none⟩ (defBody st) = true
/-- a def of the module, as it stands behind the top -/
structure DefAt (K : PySem.W.Frag) (mg : Str → Option Value) (Γ : Gam) (x : Str) (g : Fn) (fa : Addr) (fd : FuncData) (ps N : List Str) (st : Stmt) : Prop where
  at_ : mg x = some (.ref fa)
  fn : Fun K x x st fa fd
  bd : ∀ us : List Value, us.length = ps.length → bindArgs fd ⟨us, []⟩ = pure (ps.zip us)
  ck : DefCk Γ st g N ps
def DefOk (K : PySem.W.Frag) (mg : Str → Option Value) (Γ : Gam) (x : Str) (g : Fn) : Prop := ∃ fa fd ps N st, DefAt K mg Γ x g fa fd ps N st
def DefsOk (K : PySem.W.Frag) (mg : Str → Option Value) (Γ : Gam) : List Str → List Fn → Prop
  | x :: xs, g :: gs => DefOk K mg Γ x g ∧ DefsOk K mg Γ xs gs
  | [], [] => True
  | _, _ => False
theorem DefsOk.get {K : PySem.W.Frag} {mg : Str → Option Value} {Γ : Gam} : ∀ {xs : List Str} {gs : List Fn}, DefsOk K mg Γ xs gs → ∀ (j : Nat) (x : Str), xs[j]? = some x → ∃ g, gs[j]? = some g ∧ DefOk K mg Γ x g
  | x :: xs, g :: gs, h, 0, y, e => by
    cases e
    exact ⟨g, rfl, h.1⟩
  | x :: xs, g :: gs, h, j + 1, y, e => DefsOk.get (xs := xs) (gs := gs) h.2 j y e
  | [], _, _, _, _, e => by cases e
  | _ :: _, [], h, _, _, _ => h.elim
/-- the module's data -/
def GlsOk (K : PySem.W.Frag) (mg : Str → Option Value) : List Str → List D → Prop
  | x :: xs, d :: ds => (∃ v u, mg x = some u ∧ RelV v u ∧ ∀ F, DV K F [] v d) ∧ GlsOk K mg xs ds
  | [], [] => True
  | _, _ => False
theorem GlsOk.get {K : PySem.W.Frag} {mg : Str → Option Value} : ∀ {xs : List Str} {gs : List D}, GlsOk K mg xs gs → ∀ (j : Nat) (x : Str), xs[j]? = some x → ∃ v u d, mg x = some u ∧ RelV v u ∧ gs[j]? = some d ∧ ∀ F, DV K F [] v d
  | x :: xs, g :: gs, h, 0, y, e => by
    cases e
    obtain ⟨⟨v, u, a, b, c⟩, _⟩ := h
    exact ⟨v, u, g, a, b, rfl, c⟩
  | x :: xs, g :: gs, h, j + 1, y, e => GlsOk.get (xs := xs) (gs := gs) h.2 j y e
  | [], _, _, _, _, e => by cases e
  | _ :: _, [], h, _, _, _ => h.elim
def BltOk (mg : Str → Option Value) (xs : List Str) : Prop := ∀ x ∈ xs, mg x = none
structure TopOk (K : PySem.W.Frag) (mg : Str → Option Value) (Γ : Gam) (gs : List D) (fs : List Fn) : Prop where
  blt : BltOk mg Γ.blt
  gls : GlsOk K mg Γ.gls gs
  fns : DefsOk K mg Γ Γ.fns fs

theorem Rs.start {K : PySem.W.Frag} {F : Hp} {mu : List Addr} {vs : List V} {xs : List D} (r : DVs K F mu vs xs) (N : List Str) {n : Nat} (hn : n = N.length) : Rs K F mu (xs.map some ++ List.replicate (n - xs.length) none) (L2.start N vs) := by
  have hl := r.length
  unfold L2.start
  refine ⟨by simp [hl, hn], fun i d h => ?_⟩
  rw [List.getElem?_append] at h
  split at h
  · rename_i hi
    rw [List.length_map] at hi
    rw [List.getElem?_map] at h
    rw [Option.map_eq_some_iff] at h
    obtain ⟨d', h1, h2⟩ := h
    cases h2
    obtain ⟨v, h3, h4⟩ := r.get h1
    refine ⟨v, ?_, h4⟩
    rw [List.getElem?_append_left (by rw [List.length_map]; omega), List.getElem?_map, h3]
    rfl
  · rw [List.getElem?_replicate] at h
    split at h
    · cases h
    · cases h
theorem run_arity {gs : List D} {fs : List Fn} {k j : Nat} {g : Fn} (hg : fs[j]? = some g) : ∀ xs st r, run gs fs k j xs st = some r → xs.length = g.np := by
  intro xs st r h
  cases k with
  | zero => cases h
  | succ k =>
    simp only [run, hg] at h
    split at h
    · assumption
    · cases h
section
variable {P : Program} {w : World} {K : PySem.W.Frag} {mg : Str → Option Value} {base : Heap} {Γ : Gam} {gs : List D} {fs : List Fn}
/-- every def of the module does what its code says -/
theorem fn_all (T : TopOk K mg Γ gs fs) : ∀ (k j : Nat) (x : Str) (g : Fn) (fa : Addr) (fd : FuncData) (ps N : List Str) (st : Stmt), fs[j]? = some g → DefAt K mg Γ x g fa fd ps N st → FnOk P w K mg base CX0 k fa fd ps (SpD K ps.length (run gs fs k j)) := by
  intro k
  induction k with
  | zero =>
    intro j x g fa fd ps N st hg D
    have no : ∀ vs H Q E, ¬ SpD K ps.length (run gs fs 0 j) vs H Q E := fun vs H Q E h => by
      obtain ⟨_, G, F, mu, st, xs, d, st', _, _, e, _⟩ := h
      cases e
    exact ⟨fun vs H Q E h => absurd h (no vs H Q E), fun A outer s H args us vs Q E _ _ _ _ h => absurd h (no vs H Q E)⟩
  | succ k ih =>
    intro j x g fa fd ps N st hg D
    have h4 := D.ck
    refine D.fn.ok h4.sc (fun vs H Q E h => h.1) (fun cdv A outer s H vs Q E hr h => ?_)
    obtain ⟨hlen, G, F, mu, sto, xs, d, st', R, rs, e, Pq⟩ := h
    have gX : XG Γ gs (run gs fs k) k ⟨N, defScope st, fun _ => true, none⟩ (cxOf CX0 P w K mg base N x (defScope st) fa cdv A outer s H E).nox := {
      N := rfl
      nd := h4.sc.nd
      sc := rfl
      kind := h4.sc.kind
      fn := rfl
      calm := rfl
      xe := rfl
      units := by
        have := hr.un
        show (A.deeper (envOfC x (defScope st) s.heap.objs.size fa cdv)).units + 64 < cLine
        omega
      room := hr
      blt := fun y hy => T.blt y (by simpa using hy)
      gls := fun j y hy => T.gls.get j y hy
      fns := fun j y hy => by
        obtain ⟨g', hg', fa', fd', ps', N', st', D'⟩ := T.fns.get j y hy
        exact ⟨fa', fd', ps', D'.at_, D'.fn.kp, .all D'.bd, fun xs st r e => by rw [← D'.ck.np]; exact run_arity hg' xs st r e, ih j y g' fa' fd' ps' N' st' hg' D'⟩ }
    refine ⟨_, snd_body gX rfl h4.ck, ?_⟩
    have hn : xs.length = g.np := by rw [← rs.length, hlen, h4.np]
    simp only [run, hg, hn, if_true] at e
    have hsl : mu.length = sto.length := R.len
    cases hb : exS gs (run gs fs k) g.body (xs.map some ++ List.replicate (g.nn - g.np) none) sto with
    | none =>
      rw [hb] at e
      cases e
    | some p =>
      obtain ⟨fl, st2⟩ := p
      rw [hb] at e
      refine ⟨G, F, mu, _, sto, fl, st2, R, Rs.start rs N h4.nn, by rw [hn]; exact hb, fun F' mu' H' x' R' => ?_⟩
      have hx := x'
      obtain ⟨s1, t, rfl⟩ := x'
      have hcut : (mu ++ t).take sto.length = mu := by rw [← hsl]; exact List.take_left
      cases fl with
      | rt dd =>
        intro v r
        have e : (if dd.refLt sto.length then some (dd, st2.take sto.length) else some (dd, st2)) = some (d, st') := e
        split at e
        · rename_i hz
          cases e
          have R2 := R'.take sto.length
          have r2 := r.cut hz
          rw [hcut] at R2 r2
          exact Pq _ _ _ _ ⟨s1, [], by simp⟩ R2 r2
        · cases e
          exact Pq _ _ _ _ hx R' r
      | nx sd2 =>
        intro σ' S'
        cases e
        have R2 := R'.take sto.length
        rw [hcut] at R2
        exact Pq _ _ _ _ ⟨s1, [], by simp⟩ R2 .non
      | bk sd2 => cases e
      | ct sd2 => cases e
theorem DVs.ints {F : Hp} {mu : List Addr} : ∀ ns : List Int, DVs K F mu (ns.map V.int) (ns.map D.int)
  | [] => .nil
  | n :: ns => .cons (.int n) (DVs.ints ns)
end
/-- the end: a law that its code answers with True -/
theorem law_walk {l : PySem.W.OpenLaw} {q : Program} {loose : List Str} {XP : (Str → Option Value) → Heap → Prop} {YP : World → Heap → Prop} {d : DefRec} {K : Params → PySem.W.Frag} {Γ : Gam} {gs : List D} {fs : List Fn} {k j : Nat} {x : Str} {g : Fn}
    (hn : l.most = some 63) (hdf : d.params.defaults = []) (hk : k ≤ 60) (hY : ∀ (w : World) (h : Heap), YP w h → (K w.params).In h) (hj : fs[j]? = some g)
    (T : ∀ (w : World) (mg : Str → Option Value) (h : Heap), (K w.params).In h → h.Ns mainGlobals mg → TopOk (K w.params) mg Γ gs fs ∧ ∃ fa fd N st, DefAt (K w.params) mg Γ d.name g fa fd [x] N st)
    (law : ∀ ns : List Int, ns.length ≤ 63 → (∀ z ∈ ns, Builtin.Int.intBits z ≤ 1048576) → ∃ st', run gs fs k j [.scr (ns.map D.int)] [] = some (.bl true, st')) :
    PySem.W.WalkO q loose XP YP l.row.toRowW d [] (fun f vs => PySem.call f vs) := by
  refine L2.walk_ofB (n := 63) (k := k) (x := x) (CX := fun _ => CX0) (sp := fun w => SpD (K w.params) 1 (run gs fs k j)) hn (by decide) hdf ⟨rfl, ?_, ?_⟩ hY (fun w mg fa h KX G hmg => ?_) (fun w H a ns hl hbits hO hS => ?_) (fun _ _ _ _ _ z => z)
  · have h60 : callerA.depth + 3 * 60 + 5 < recursionLimit := by decide
    omega
  · have h60 : callerA.units + 16 * 60 + 200 < cLine := by decide
    omega
  · obtain ⟨T', fa', fd, N, st, D⟩ := T w mg h KX G
    have h1 := D.at_
    rw [hmg] at h1
    cases h1
    exact ⟨fd, fun s u => .of_eq (D.bd [u] rfl), fun base hKb hNb => fn_all T' k j d.name g fa fd [x] N st hj D⟩
  · obtain ⟨st', e⟩ := law ns hl hbits
    refine ⟨rfl, fun _ => none, H, [], [], [.scr (ns.map D.int)], .bl true, st', ?_, .cons (.scr hS (DVs.ints ns)) .nil, e, fun F' mu' H' v x R r => r.blI⟩
    exact ⟨Same.refl _, fun b o h => (by cases h), fun a h => (by cases h), fun b o h => (by cases h), rfl, List.nodup_nil, fun n a c h => (by cases h)⟩
/-- what the last text shows of a def -/
theorem def_at {K : PySem.W.Frag} {mg : Str → Option Value} {h : Heap} {Γ : Gam} {x : Str} {g : Fn} {ps N : List Str} {st : Stmt} {fa : Addr} {oc : Value} {od an : Option Addr} {osl : Array (Option Value)} {kV doc pm cdv ct : Value} (KX : K.In h) (G : h.Ns mainGlobals mg) (ck : DefCk Γ st g N ps)
    (bd : ∀ (kV doc pm : Value) (an : Option Addr) (cdv ct : Value) (us : List Value), us.length = ps.length → bindArgs (PySem.W.fnOf x x (defArgs st) (defBody st) (defScope st) .none kV doc pm an cdv ct) ⟨us, []⟩ = pure (ps.zip us))
    (a : PySem.W.nsIn K mainGlobals x = some (some (.ref fa))) (l : K.lookup fa = some ⟨oc, od, .func (PySem.W.fnOf x x (defArgs st) (defBody st) (defScope st) .none kV doc pm an cdv ct), osl⟩) (c : PySem.W.codeIn K cdv x = true) (k : PySem.W.keepIn K (.ref fa) = true) :
    DefAt K mg Γ x g fa (PySem.W.fnOf x x (defArgs st) (defBody st) (defScope st) .none kV doc pm an cdv ct) ps N st :=
  ⟨PySem.W.mg_of KX G a, fun_mk l c k, bd _ _ _ _ _ _, ck⟩
theorem blt_nil {mg : Str → Option Value} : BltOk mg [] := fun _ h => by cases h
theorem blt_cons {K : PySem.W.Frag} {mg : Str → Option Value} {h : Heap} {x : Str} {xs : List Str} (KX : K.In h) (G : h.Ns mainGlobals mg) (a : PySem.W.nsIn K mainGlobals x = some none) (r : BltOk mg xs) : BltOk mg (x :: xs) := fun y hy => by
  rcases List.mem_cons.mp hy with rfl | hy
  · exact PySem.W.mg_none_of KX G a
  · exact r y hy
end Jd

namespace Jd
open PySem PySem.Spec PyProof.Rows L2

/-! ### reckoning with the meanings -/
theorem run_eq {gs : List D} {fs : List Fn} {k f : Nat} {ds : List D} {st : Sto} (g : Fn) (hg : fs[f]? = some g) (hn : ds.length = g.np) :
    run gs fs (k + 1) f ds st = endF st.length (exS gs (run gs fs k) g.body (ds.map some ++ List.replicate (g.nn - ds.length) none) st) := by
  simp only [run, hg, hn, if_true]
@[simp] theorem endF_rt {d : D} {st : Sto} : endF st.length (some (.rt d, st)) = some (d, st) := by
  simp [endF]
@[simp] theorem endF_nx {σ : En} {st : Sto} : endF st.length (some (.nx σ, st)) = some (.non, st) := by
  simp [endF]
section
variable {t : En → Sto → Option (Bool × Sto)} {b : En → Sto → Option (Fl × Sto)}
theorem whN_more : ∀ {n : Nat} {σ : En} {st : Sto} {r : Fl × Sto}, whN t b n σ st = some r → whN t b (n + 1) σ st = some r
  | 0, _, _, _, h => by cases h
  | n + 1, σ, st, r, h => by
    rw [whN] at h ⊢
    cases ht : t σ st with
    | none => rw [ht] at h; cases h
    | some p =>
      obtain ⟨c, st1⟩ := p
      rw [ht] at h
      cases c with
      | false => exact h
      | true =>
        simp only at h ⊢
        cases hb : b σ st1 with
        | none => rw [hb] at h; cases h
        | some q =>
          obtain ⟨fl, st2⟩ := q
          rw [hb] at h
          cases fl with
          | nx σ2 => exact whN_more h
          | ct σ2 => exact whN_more h
          | bk σ2 => exact h
          | rt d => exact h
theorem whN_le {n m : Nat} {σ : En} {st : Sto} {r : Fl × Sto} (h : whN t b n σ st = some r) (hm : n ≤ m) : whN t b m σ st = some r := by
  induction hm with
  | refl => exact h
  | step _ ih => exact whN_more ih
theorem whS_at {n : Nat} {σ : En} {st : Sto} {r : Fl × Sto} (h : whN t b n σ st = some r) : whS t b σ st = some r := by
  have hx : ∃ n r, whN t b n σ st = some r := ⟨n, r, h⟩
  unfold whS
  rw [dif_pos hx]
  obtain ⟨r', h'⟩ := hx.choose_spec
  rw [h']
  have h1 := whN_le h (Nat.le_max_left n hx.choose)
  have h2 := whN_le h' (Nat.le_max_right n hx.choose)
  exact h2.symm.trans h1
theorem whS_stop {σ : En} {st st1 : Sto} (h : t σ st = some (false, st1)) : whS t b σ st = some (.nx σ, st1) := whS_at (n := 1) (by rw [whN, h])
theorem whS_some' {σ : En} {st : Sto} {r : Fl × Sto} (h : whS t b σ st = some r) : ∃ n, whN t b n σ st = some r := whS_some h
theorem whS_go {σ σ2 : En} {st st1 st2 : Sto} {r : Fl × Sto} (h : t σ st = some (true, st1)) (hb : b σ st1 = some (.nx σ2, st2)) (hr : whS t b σ2 st2 = some r) : whS t b σ st = some r := by
  obtain ⟨n, hn⟩ := whS_some hr
  exact whS_at (n := n + 1) (by rw [whN, h]; simp only; rw [hb]; exact hn)
theorem srcAt_its {xs : List D} {st : Sto} {i : Nat} : srcAt (.its xs) st i = some xs[i]? := rfl
/-- a for over items, by an invariant at each place -/
theorem forS_inv {tg : D → En → Sto → Option (En × Sto)} {xs : List D} (P : Nat → En → Sto → Prop) (step : ∀ i x σ st, xs[i]? = some x → P i σ st → ∃ σ1 st1 σ2 st2, tg x σ st = some (σ1, st1) ∧ (b σ1 st1 = some (.nx σ2, st2) ∨ b σ1 st1 = some (.ct σ2, st2)) ∧ P (i + 1) σ2 st2) :
    ∀ (n i : Nat) (σ : En) (st : Sto), i + n = xs.length → P i σ st → ∃ σ' st', forS (.its xs) tg b n i σ st = some (.nx σ', st') ∧ P xs.length σ' st'
  | 0, i, σ, st, hn, h => by
    have hi : xs[i]? = none := List.getElem?_eq_none (by omega)
    refine ⟨σ, st, ?_, by rw [show xs.length = i by omega]; exact h⟩
    rw [forS.eq_def]
    simp only
    rw [srcAt_its, hi]
  | n + 1, i, σ, st, hn, h => by
    have hi : xs[i]? = some xs[i] := List.getElem?_eq_getElem (by omega)
    obtain ⟨σ1, st1, σ2, st2, e1, e2, e3⟩ := step i _ σ st hi h
    obtain ⟨σ', st', e4, e5⟩ := forS_inv P step n (i + 1) σ2 st2 (by omega) e3
    refine ⟨σ', st', ?_, e5⟩
    rw [forS.eq_def]
    simp only
    rw [srcAt_its, hi]
    simp only
    rw [e1]
    simp only
    rcases e2 with e2 | e2 <;> rw [e2] <;> exact e4
theorem forS_its {tg : D → En → Sto → Option (En × Sto)} {xs : List D} (P : Nat → En → Sto → Prop) {σ : En} {st : Sto} (h0 : P 0 σ st) (step : ∀ i x σ st, xs[i]? = some x → P i σ st → ∃ σ1 st1 σ2 st2, tg x σ st = some (σ1, st1) ∧ (b σ1 st1 = some (.nx σ2, st2) ∨ b σ1 st1 = some (.ct σ2, st2)) ∧ P (i + 1) σ2 st2) :
    ∃ σ' st', forS (.its xs) tg b (srcLen (.its xs) st) 0 σ st = some (.nx σ', st') ∧ P xs.length σ' st' := forS_inv P step _ 0 σ st (by simp [srcLen]) h0
end
/-- a comprehension without ifs, or with one, that changes nothing -/
theorem lcS_map {xs : List D} {tg : D → En → Sto → Option (En × Sto)} {t : En → Sto → Option (Bool × Sto)} {e : En → Sto → Option (D × Sto)} {σ : En} {st : Sto} (p : D → Bool) (f : D → D) (h : ∀ x ∈ xs, ∃ σ1, tg x σ st = some (σ1, st) ∧ t σ1 st = some (p x, st) ∧ (p x = true → e σ1 st = some (f x, st))) :
    ∀ (n i : Nat), i + n = xs.length → lcS (.its xs) tg t e σ n i st = some ((((xs.drop i).filter p).map f), st)
  | 0, i, hn => by
    have hi : xs[i]? = none := List.getElem?_eq_none (by omega)
    rw [List.drop_eq_nil_of_le (by omega), lcS.eq_def]
    simp only
    rw [srcAt_its, hi]
    rfl
  | n + 1, i, hn => by
    have hl : i < xs.length := by omega
    have hi : xs[i]? = some xs[i] := List.getElem?_eq_getElem hl
    obtain ⟨σ1, e1, e2, e3⟩ := h _ (List.getElem_mem hl)
    have ih := lcS_map p f h n (i + 1) (by omega)
    rw [List.drop_eq_getElem_cons hl, lcS.eq_def]
    simp only
    rw [srcAt_its, hi]
    simp only
    rw [e1]
    simp only
    rw [e2]
    cases hp : p xs[i] with
    | false =>
      rw [List.filter_cons_of_neg (by rw [hp]; decide)]
      exact ih
    | true =>
      rw [List.filter_cons_of_pos hp, List.map_cons]
      simp only
      rw [e3 hp]
      simp only
      rw [ih]
theorem lcS_its {xs : List D} {tg : D → En → Sto → Option (En × Sto)} {t : En → Sto → Option (Bool × Sto)} {e : En → Sto → Option (D × Sto)} {σ : En} {st : Sto} (p : D → Bool) (f : D → D) (h : ∀ x ∈ xs, ∃ σ1, tg x σ st = some (σ1, st) ∧ t σ1 st = some (p x, st) ∧ (p x = true → e σ1 st = some (f x, st))) :
    lcS (.its xs) tg t e σ (srcLen (.its xs) st) 0 st = some (((xs.filter p).map f), st) := by
  have := lcS_map p f h xs.length 0 (by simp)
  simpa [srcLen] using this
/-- one turn of the division that seeks the greatest common divisor -/
theorem fmod_gcd (a b : Int) : Int.gcd b (a.fmod b) = Int.gcd a b := by
  rw [Int.fmod_def, Int.gcd_comm b]
  have : a - b * a.fdiv b = a + b * (-(a.fdiv b)) := by rw [Int.mul_neg]; omega
  rw [this]
  simp
theorem fmod_lt (a : Int) {b : Int} (hb : b ≠ 0) : (a.fmod b).natAbs < b.natAbs := by
  rcases Int.lt_or_gt_of_ne hb with h | h
  · have e : a.fmod b = -((-a).fmod (-b)) := by
      have := Int.neg_fmod_neg a b
      omega
    have h1 := Int.fmod_lt_of_pos (-a) (show 0 < -b by omega)
    have h2 := Int.fmod_nonneg_of_pos (-a) (show 0 < -b by omega)
    omega
  · have h1 := Int.fmod_lt_of_pos a h
    have h2 := Int.fmod_nonneg_of_pos a h
    omega
section
variable {gs : List D} {cs : Nat → List D → Sto → Option (D × Sto)}
/-- while other != 0: one, other = other, one % other -/
def gcdLoop (i j : Nat) : C := .whl (.cmp .ne (.var j) (.kint 0)) (.cons (.par i j (.var j) (.bin .mod false (.var i) (.var j))) .nil)
theorem get_set2 {σ : En} {i j : Nat} {x y : Option D} (hi : i < σ.length) (hj : j < σ.length) (hij : i ≠ j) : ((σ.set i x).set j y)[i]? = some x ∧ ((σ.set i x).set j y)[j]? = some y := by
  constructor
  · rw [List.getElem?_set_ne (by omega), List.getElem?_set_self hi]
  · rw [List.getElem?_set_self (by rw [List.length_set]; exact hj)]
theorem gcd_loop {i j : Nat} (hij : i ≠ j) (st : Sto) : ∀ (m : Nat) (σ : En) (a b : Int), b.natAbs ≤ m → i < σ.length → j < σ.length → σ[i]? = some (some (.int a)) → σ[j]? = some (some (.int b)) →
    ∃ g : Int, (g.natAbs = Int.gcd a b ∧ (0 ≤ a → 0 ≤ b → 0 ≤ g)) ∧ exS gs cs (gcdLoop i j) σ st = some (.nx ((σ.set i (some (.int g))).set j (some (.int 0))), st) := by
  intro m
  induction m with
  | zero =>
    intro σ a b hb li lj hi hj
    obtain rfl : b = 0 := by omega
    refine ⟨a, ⟨by simp, fun h _ => h⟩, ?_⟩
    have e : (σ.set i (some (.int a))).set j (some (.int 0)) = σ := by
      apply List.ext_getElem?
      intro n
      by_cases h1 : n = j
      · subst h1; rw [(get_set2 li lj hij).2, hj]
      · by_cases h2 : n = i
        · subst h2; rw [(get_set2 li lj hij).1, hi]
        · rw [List.getElem?_set_ne (by omega), List.getElem?_set_ne (by omega)]
    rw [e]
    show whS _ _ σ st = _
    apply whS_stop
    simp [evT, evE, hj, gCmp, eqQ, dOk, drf, eqD]
  | succ m ih =>
    intro σ a b hb li lj hi hj
    by_cases h0 : b = 0
    · subst h0
      exact ih σ a 0 (by simp) li lj hi hj
    · have q := get_set2 (x := some (.int b)) (y := some (.int (a.fmod b))) li lj hij
      obtain ⟨g, g1, g2⟩ := ih ((σ.set i (some (.int b))).set j (some (.int (a.fmod b)))) b (a.fmod b) (by have := fmod_lt a h0; omega) (by simpa using li) (by simpa using lj) q.1 q.2
      refine ⟨g, ⟨by rw [g1.1, fmod_gcd], fun _ hb0 => g1.2 hb0 (Int.fmod_nonneg_of_pos a (by omega))⟩, ?_⟩
      have e : ((((σ.set i (some (.int b))).set j (some (.int (a.fmod b)))).set i (some (.int g))).set j (some (.int 0))) = (σ.set i (some (.int g))).set j (some (.int 0)) := by
        rw [List.set_comm _ _ (by omega : j ≠ i)]
        simp
      rw [e] at g2
      show whS _ _ σ st = _
      refine whS_go (st1 := st) ?_ ?_ g2
      · simp [evT, evE, hj, gCmp, eqQ, dOk, drf, eqD, h0]
      · simp [exS, evE, hi, hj, gBin, gInt, h0]
end
end Jd

namespace Jd
open PySem PySem.Spec PyProof.Rows L2

/-! ### rules to run code by hand -/
section
variable {gs : List D} {cs : Nat → List D → Sto → Option (D × Sto)} {σ σ1 σ2 : En} {st st1 st2 st3 : Sto} {a b c t rest : C} {x y z d : D} {xs ys : List D} {i j : Nat} {m : Bool} {r : Option (Fl × Sto)}
theorem e_var (h : σ[i]? = some (some d)) : evE gs cs (.var i) σ st = some (d, st) := by simp only [evE, h]
theorem e_int {k : Int} : evE gs cs (.kint k) σ st = some (.int k, st) := rfl
theorem e_bl {k : Bool} : evE gs cs (.kbl k) σ st = some (.bl k, st) := rfl
theorem e_str {k : Str} : evE gs cs (.kstr k) σ st = some (.str k, st) := rfl
theorem e_non : evE gs cs .knon σ st = some (.non, st) := rfl
theorem e_glb (h : gs[j]? = some d) : evE gs cs (.glb j) σ st = some (d, st) := by simp only [evE, h, Option.map_some]
theorem e_un {o : Uop} (h : evE gs cs a σ st = some (x, st1)) (g : gUn o x st1 = some (z, st2)) : evE gs cs (.un o a) σ st = some (z, st2) := by simp only [evE, h, Option.bind_some, g]
theorem e_bin {o : Bop} (h : evE gs cs a σ st = some (x, st1)) (h' : evE gs cs b σ st1 = some (y, st2)) (g : gBin o m x y st2 = some (z, st3)) : evE gs cs (.bin o m a b) σ st = some (z, st3) := by simp only [evE, h, h', Option.bind_some, g]
theorem e_cmp {o : Cop} {k : Bool} (h : evE gs cs a σ st = some (x, st1)) (h' : evE gs cs b σ st1 = some (y, st2)) (g : gCmp o x y st2 = some (k, st3)) : evE gs cs (.cmp o a b) σ st = some (.bl k, st3) := by simp only [evE, h, h', Option.bind_some, g, Option.map_some]
theorem e_one (h : evE gs cs a σ st = some (x, st1)) : evE gs cs (.one a) σ st = some (x, st1) := h
theorem e_and {k l : Bool} (h : evE gs cs a σ st = some (.bl k, st)) (h' : k = true → evE gs cs b σ st = some (.bl l, st)) : evE gs cs (.and a b) σ st = some (.bl (k && l), st) := by
  simp only [evE, h, Option.bind_some, truD]
  cases k with
  | false => rfl
  | true => simp [h' rfl]
theorem e_or {k l : Bool} (h : evE gs cs a σ st = some (.bl k, st)) (h' : k = false → evE gs cs b σ st = some (.bl l, st)) : evE gs cs (.or a b) σ st = some (.bl (k || l), st) := by
  simp only [evE, h, Option.bind_some, truD]
  cases k with
  | true => rfl
  | false => simp [h' rfl]
theorem e_not {k : Bool} (h : evE gs cs a σ st = some (x, st1)) (g : truD st1 x = some k) : evE gs cs (.not a) σ st = some (.bl (!k), st1) := by simp only [evE, h, Option.bind_some, g, Option.map_some]
theorem e_ifT (h : evT gs cs t σ st = some (true, st1)) (h' : evE gs cs a σ st1 = some (x, st2)) : evE gs cs (.ife t a b) σ st = some (x, st2) := by simp only [evE, h, Option.bind_some, if_true, h']
theorem e_ifF (h : evT gs cs t σ st = some (false, st1)) (h' : evE gs cs b σ st1 = some (x, st2)) : evE gs cs (.ife t a b) σ st = some (x, st2) := by simp [evE, h, h']
theorem e_tup (h : evA gs cs a σ st = some (xs, st1)) (g : lenOk xs.length = true) : evE gs cs (.tup a) σ st = some (.tup xs, st1) := by simp only [evE, h, Option.bind_some, g, if_true]
theorem e_dsp (h : evA gs cs a σ st = some (xs, st1)) (g : lenOk xs.length = true) : evE gs cs (.dsp false a) σ st = some (.lst xs, st1) := by
  simp only [evE, h, Option.bind_some, g, if_true]
  rfl
theorem e_dspM (h : evA gs cs a σ st = some (xs, st1)) (g : lenOk xs.length = true) (p : pureL xs = true) : evE gs cs (.dsp true a) σ st = some (.ref st1.length, st1 ++ [⟨.mut, xs⟩]) := by
  simp only [evE, h, Option.bind_some, g, if_true, mkL, p]
theorem e_idx (h : evE gs cs a σ st = some (x, st1)) (h' : evE gs cs b σ st1 = some (y, st2)) (g : gIdx x y st2 = some (z, st3)) : evE gs cs (.idx a b) σ st = some (z, st3) := by simp only [evE, h, h', Option.bind_some, g]
theorem e_slc {lo hi : C} {l u : Option Int} (h : evE gs cs a σ st = some (x, st1)) (h1 : evO gs cs lo σ st1 = some (l, st1)) (h2 : evO gs cs hi σ st1 = some (u, st1)) (g : gSlc m x l u st1 = some (z, st3)) : evE gs cs (.slc m a lo hi) σ st = some (z, st3) := by simp only [evE, h, h1, h2, Option.bind_some, g]
theorem o_nil : evO gs cs .nil σ st = some (none, st) := rfl
theorem o_cons {k : Int} (h : evE gs cs a σ st = some (.int k, st1)) : evO gs cs (.cons a b) σ st = some (some k, st1) := by simp only [evO, h, Option.bind_some]
theorem e_call {f : Nat} (h : evA gs cs a σ st = some (xs, st1)) (g : cs f xs st1 = some (z, st2)) : evE gs cs (.call f a) σ st = some (z, st2) := by simp only [evE, h, Option.bind_some, g]
theorem e_blt {bl : Blt} (h : evA gs cs a σ st = some (xs, st1)) (g : gBlt bl m xs st1 = some (z, st2)) : evE gs cs (.blt bl m a) σ st = some (z, st2) := by simp only [evE, h, Option.bind_some, g]
theorem e_frz (h : evE gs cs a σ st = some (x, st1)) (g : gFrz x st1 = some (z, st2)) : evE gs cs (.frz a) σ st = some (z, st2) := by simp only [evE, h, Option.bind_some, g]
theorem e_mth {mt : Mth} (h : evE gs cs a σ st = some (x, st1)) (h' : evA gs cs b σ st1 = some (xs, st2)) (g : gMth mt x xs st2 = some (z, st3)) : evE gs cs (.mth mt a b) σ st = some (z, st3) := by simp only [evE, h, h', Option.bind_some, g]
theorem e_lcp {own : List Nat} {tg it ifs el : C} {src : Src} (h : evI gs cs it σ st = some (src, st1)) (h' : lcS src (evG gs cs tg) (evT gs cs ifs) (evE gs cs el) (wipeD σ own) (srcLen src st1) 0 st1 = some (xs, st2)) (g : lenOk xs.length = true) : evE gs cs (.lcp false own tg it ifs el) σ st = some (.lst xs, st2) := by
  simp only [evE, h, Option.bind_some, h', g, if_true]
  rfl
theorem a_nil : evA gs cs .nil σ st = some ([], st) := rfl
theorem a_cons (h : evE gs cs a σ st = some (x, st1)) (h' : evA gs cs b σ st1 = some (xs, st2)) : evA gs cs (.cons a b) σ st = some (x :: xs, st2) := by simp only [evA, h, Option.bind_some, h', Option.map_some]
theorem t_cmp {o : Cop} {k : Bool} (h : evE gs cs a σ st = some (x, st1)) (h' : evE gs cs b σ st1 = some (y, st2)) (g : gCmp o x y st2 = some (k, st3)) : evT gs cs (.cmp o a b) σ st = some (k, st3) := by simp only [evT, h, h', Option.bind_some, g]
theorem t_chain {o o' : Cop} {k l : Bool} (h : evE gs cs a σ st = some (x, st)) (h' : evE gs cs b σ st = some (y, st)) (g : gCmp o x y st = some (k, st)) (h2 : k = true → evE gs cs c σ st = some (z, st)) (g2 : k = true → gCmp o' y z st = some (l, st)) : evT gs cs (.chain o o' a b c) σ st = some (k && l, st) := by
  simp only [evT, h, h', Option.bind_some, g]
  cases k with
  | false => rfl
  | true => simp [h2 rfl, g2 rfl]
theorem t_one {k : Bool} (h : evT gs cs a σ st = some (k, st1)) : evT gs cs (.one a) σ st = some (k, st1) := h
theorem t_not {k : Bool} (h : evT gs cs a σ st = some (k, st1)) : evT gs cs (.not a) σ st = some (!k, st1) := by simp only [evT, h, Option.map_some]
theorem t_and {k l : Bool} (h : evT gs cs a σ st = some (k, st)) (h' : k = true → evT gs cs b σ st = some (l, st)) : evT gs cs (.and a b) σ st = some (k && l, st) := by
  simp only [evT, h, Option.bind_some]
  cases k with
  | false => rfl
  | true => simp [h' rfl]
theorem t_or {k l : Bool} (h : evT gs cs a σ st = some (k, st)) (h' : k = false → evT gs cs b σ st = some (l, st)) : evT gs cs (.or a b) σ st = some (k || l, st) := by
  simp only [evT, h, Option.bind_some]
  cases k with
  | true => rfl
  | false => simp [h' rfl]
theorem t_ex {k : Bool} (h : evE gs cs a σ st = some (x, st1)) (g : truD st1 x = some k) : evT gs cs (.ex a) σ st = some (k, st1) := by simp only [evT, h, Option.bind_some, g, Option.map_some]
theorem i_lst (h : evE gs cs a σ st = some (.lst xs, st1)) : evI gs cs (.iV a) σ st = some (.its xs, st1) := by simp only [evI, h, Option.bind_some]
theorem i_scr (h : evE gs cs a σ st = some (.scr xs, st1)) : evI gs cs (.iV a) σ st = some (.its xs, st1) := by simp only [evI, h, Option.bind_some]
theorem i_tup (h : evE gs cs a σ st = some (.tup xs, st1)) : evI gs cs (.iV a) σ st = some (.its xs, st1) := by simp only [evI, h, Option.bind_some]
theorem i_ref {n : Nat} (h : evE gs cs a σ st = some (.ref n, st1)) : evI gs cs (.iV a) σ st = some (.cell n, st1) := by simp only [evI, h, Option.bind_some]
theorem i_r1 {k : Int} (h : evE gs cs a σ st = some (.int k, st1)) (g : -(2 ^ 62) ≤ k ∧ k < 2 ^ 62) : evI gs cs (.iR1 a) σ st = some (.its (rngD 0 k.toNat), st1) := by simp only [evI, h, Option.bind_some, if_pos g]
theorem i_r2 {k l : Int} (h : evE gs cs a σ st = some (.int k, st1)) (h' : evE gs cs b σ st1 = some (.int l, st2)) (g : -(2 ^ 62) ≤ k ∧ k < 2 ^ 62 ∧ -(2 ^ 62) ≤ l ∧ l < 2 ^ 62) : evI gs cs (.iR2 a b) σ st = some (.its (rngD k (l - k).toNat), st2) := by simp only [evI, h, h', Option.bind_some, if_pos g]
theorem i_en (h : evE gs cs a σ st = some (.lst xs, st1)) : evI gs cs (.iEn a) σ st = some (.its (enumD xs), st1) := by simp only [evI, h, Option.bind_some]
theorem i_zip {d d' : D} (h : evE gs cs a σ st = some (d, st1)) (h' : evE gs cs b σ st1 = some (d', st2)) (g : itemsD d = some xs) (g' : itemsD d' = some ys) : evI gs cs (.iZip a b) σ st = some (.its (zipD xs ys), st2) := by simp only [evI, h, h', Option.bind_some, g, g', Option.map_some]
theorem i_zipT (h : evE gs cs a σ st = some (.tup xs, st1)) (h' : evE gs cs b σ st1 = some (.tup ys, st2)) : evI gs cs (.iZip a b) σ st = some (.its (zipD xs ys), st2) := i_zip h h' rfl rfl
theorem i_zipL (h : evE gs cs a σ st = some (.lst xs, st1)) (h' : evE gs cs b σ st1 = some (.lst ys, st2)) : evI gs cs (.iZip a b) σ st = some (.its (zipD xs ys), st2) := i_zip h h' rfl rfl
theorem i_zipM (h : evE gs cs a σ st = some (.lst xs, st1)) (h' : evE gs cs b σ st1 = some (.tup ys, st2)) : evI gs cs (.iZip a b) σ st = some (.its (zipD xs ys), st2) := i_zip h h' rfl rfl
theorem g_name : evG gs cs (.tN i) d σ st = some (σ.set i (some d), st) := rfl
theorem g_tup (h : evGs gs cs a xs σ st = some (σ1, st1)) : evG gs cs (.tT a) (.tup xs) σ st = some (σ1, st1) := h
theorem gs_nil : evGs gs cs .nil [] σ st = some (σ, st) := rfl
theorem gs_cons (h : evG gs cs a d σ st = some (σ1, st1)) (h' : evGs gs cs b xs σ1 st1 = some (σ2, st2)) : evGs gs cs (.cons a b) (d :: xs) σ st = some (σ2, st2) := by simp only [evGs, h, Option.bind_some, h']
theorem g_sub (h : evE gs cs a σ st = some (x, st1)) (h' : evE gs cs b σ st1 = some (y, st2)) (g : gSet x y d st2 = some st3) : evG gs cs (.tS a b) d σ st = some (σ, st3) := by simp only [evG, h, h', Option.bind_some, g, Option.map_some]
/-! statements: the rest is run behind -/
def app : C → C → C
  | .cons a as, r => .cons a (app as r)
  | _, r => r
def isL : C → Bool
  | .cons _ as => isL as
  | .nil => true
  | _ => false
theorem ex_app : ∀ {a : C}, isL a = true → ∀ (σ : En) (st : Sto), exS gs cs (app a rest) σ st = (exS gs cs a σ st).bind fun p => match p.1 with
    | .nx σ' => exS gs cs rest σ' p.2
    | f => some (f, p.2)
  | .nil, _, σ, st => rfl
  | .cons a as, h, σ, st => by
    have ih := ex_app (a := as) h
    simp only [app, exS]
    cases hq : exS gs cs a σ st with
    | none => rfl
    | some p =>
      obtain ⟨fl, st1⟩ := p
      cases fl with
      | nx σ' => simp only [Option.bind_some]; exact ih σ' st1
      | bk _ => rfl
      | ct _ => rfl
      | rt _ => rfl
theorem s_nil : exS gs cs .nil σ st = some (.nx σ, st) := rfl
theorem s_step (h : exS gs cs a σ st = some (.nx σ1, st1)) (h' : exS gs cs rest σ1 st1 = r) : exS gs cs (.cons a rest) σ st = r := by simp only [exS, h, Option.bind_some, h']
theorem s_asg (h : evE gs cs a σ st = some (d, st1)) (h' : exS gs cs rest (σ.set i (some d)) st1 = r) : exS gs cs (.cons (.asg (.tN i) a) rest) σ st = r := by simp only [exS, h, Option.bind_some, evG, Option.map_some, h']
theorem s_asgG (h : evE gs cs a σ st = some (d, st1)) (hg : evG gs cs t d σ st1 = some (σ2, st2)) (h' : exS gs cs rest σ2 st2 = r) : exS gs cs (.cons (.asg t a) rest) σ st = r := by simp only [exS, h, Option.bind_some, hg, Option.map_some, h']
theorem s_par (h : evE gs cs a σ st = some (x, st1)) (h1 : evE gs cs b σ st1 = some (y, st2)) (h' : exS gs cs rest ((σ.set i (some x)).set j (some y)) st2 = r) : exS gs cs (.cons (.par i j a b) rest) σ st = r := by simp only [exS, h, h1, Option.bind_some, Option.map_some, h']
theorem s_ret (h : evE gs cs a σ st = some (d, st1)) : exS gs cs (.cons (.ret a) rest) σ st = some (.rt d, st1) := by simp only [exS, h, Option.bind_some, Option.map_some]
theorem s_retN : exS gs cs (.cons .retN rest) σ st = some (.rt .non, st) := by simp only [exS, Option.bind_some]
theorem s_ex (h : evE gs cs a σ st = some (d, st1)) (h' : exS gs cs rest σ st1 = r) : exS gs cs (.cons (.ex a) rest) σ st = r := by simp only [exS, h, Option.bind_some, Option.map_some, h']
theorem s_brk : exS gs cs (.cons .brk rest) σ st = some (.bk σ, st) := by simp only [exS, Option.bind_some]
theorem s_cnt : exS gs cs (.cons .cnt rest) σ st = some (.ct σ, st) := by simp only [exS, Option.bind_some]
theorem s_if {k : Bool} (h : evT gs cs t σ st = some (k, st1)) (ha : isL a = true) (hb : isL b = true) (h1 : k = true → exS gs cs (app a rest) σ st1 = r) (h2 : k = false → exS gs cs (app b rest) σ st1 = r) : exS gs cs (.cons (.ifs t a b) rest) σ st = r := by
  cases k with
  | true =>
    rw [← h1 rfl, ex_app ha]
    simp only [exS, h, Option.bind_some, if_true] <;> rfl
  | false =>
    rw [← h2 rfl, ex_app hb]
    simp only [exS, h, Option.bind_some, Bool.false_eq_true, if_false] <;> rfl
theorem s_ifF (h : evT gs cs t σ st = some (false, st1)) (hb : isL b = true) (h2 : exS gs cs (app b rest) σ st1 = r) : exS gs cs (.cons (.ifs t a b) rest) σ st = r := by
  rw [← h2, ex_app hb]
  simp only [exS, h, Option.bind_some, Bool.false_eq_true, if_false] <;> rfl
theorem s_ifT (h : evT gs cs t σ st = some (true, st1)) (ha : isL a = true) (h2 : exS gs cs (app a rest) σ st1 = r) : exS gs cs (.cons (.ifs t a b) rest) σ st = r := by
  rw [← h2, ex_app ha]
  simp only [exS, h, Option.bind_some, if_true] <;> rfl
theorem s_augI {o : Bop} {k l : Int} (h0 : σ[i]? = some (some (.int k))) (h : evE gs cs a σ st = some (.int l, st1)) (g : gBin o false (.int k) (.int l) st1 = some (z, st2)) (h' : exS gs cs rest (σ.set i (some z)) st2 = r) : exS gs cs (.cons (.aug i o a) rest) σ st = r := by simp only [exS, h0, h, Option.bind_some, g, Option.map_some, h']
theorem s_for {it : C} {src : Src} (h : evI gs cs it σ st = some (src, st1)) (h1 : forS src (evG gs cs t) (exS gs cs b) (srcLen src st1) 0 σ st1 = some (.nx σ2, st2)) (h' : exS gs cs rest σ2 st2 = r) : exS gs cs (.cons (.for_ t it b) rest) σ st = r := by simp only [exS, h, Option.bind_some, h1, h']
theorem s_forR {it : C} {src : Src} (h : evI gs cs it σ st = some (src, st1)) (h1 : forS src (evG gs cs t) (exS gs cs b) (srcLen src st1) 0 σ st1 = some (.rt d, st2)) : exS gs cs (.cons (.for_ t it b) rest) σ st = some (.rt d, st2) := by simp only [exS, h, Option.bind_some, h1]
/-! deeds -/
theorem b_add {k l : Int} : gBin .add m (.int k) (.int l) st = some (.int (k + l), st) := rfl
theorem b_sub {k l : Int} : gBin .sub m (.int k) (.int l) st = some (.int (k - l), st) := rfl
theorem b_mul {k l : Int} (h : mulOk k l = true) : gBin .mul m (.int k) (.int l) st = some (.int (k * l), st) := by simp only [gBin, gMul, h, if_true]
theorem b_mod {k l : Int} (h : l ≠ 0) : gBin .mod m (.int k) (.int l) st = some (.int (k.fmod l), st) := by simp [gBin, gInt, h]
theorem b_fdiv {k l : Int} (h : divOk l = true) : gBin .fdiv m (.int k) (.int l) st = some (.int (k.fdiv l), st) := by simp [gBin, gInt, h]
theorem b_pow {k l : Int} (h : powOk k l = true) : gBin .pow m (.int k) (.int l) st = some (.int (k ^ l.toNat), st) := by simp [gBin, gInt, h]
theorem b_powL {k : Int} {n : Nat} (h : powOk k (OfNat.ofNat n) = true) : gBin .pow m (.int k) (.int (OfNat.ofNat n)) st = some (.int (k ^ (OfNat.ofNat n : Nat)), st) := b_pow h
theorem l_abs {k : Int} : gBlt .abs m [.int k] st = some (.int (if k < 0 then -k else k), st) := rfl
theorem l_int {k : Int} : gBlt .int m [.int k] st = some (.int k, st) := rfl
theorem l_intB {k : Bool} : gBlt .int m [.bl k] st = some (.int (if k then 1 else 0), st) := rfl
theorem l_lenT : gBlt .len m [.tup xs] st = some (.int xs.length, st) := rfl
theorem l_lenL : gBlt .len m [.lst xs] st = some (.int xs.length, st) := rfl
theorem l_lenS : gBlt .len m [.scr xs] st = some (.int xs.length, st) := rfl
theorem l_str {k : Int} (h : k.natAbs.log2 < 1920) : gBlt .str m [.int k] st = some (.str (toString k), st) := by simp [gBlt, h]
theorem l_tupL : gBlt .tuple m [.lst xs] st = some (.tup xs, st) := rfl
theorem l_tupT : gBlt .tuple m [.tup xs] st = some (.tup xs, st) := rfl
theorem l_listT : gBlt .list false [.tup xs] st = some (.lst xs, st) := rfl
theorem l_listL : gBlt .list false [.lst xs] st = some (.lst xs, st) := rfl
theorem l_max {k l : Int} : gBlt .max m [.int k, .int l] st = some (.int (if l > k then l else k), st) := rfl
theorem l_min {k l : Int} : gBlt .min m [.int k, .int l] st = some (.int (if l < k then l else k), st) := rfl
theorem l_isTT : gBlt (.isI .tuple) m [.tup xs] st = some (.bl true, st) := rfl
theorem l_isII {k : Int} : gBlt (.isI .int) m [.int k] st = some (.bl true, st) := rfl
theorem l_isBI {k : Int} : gBlt (.isI .bool) m [.int k] st = some (.bl false, st) := rfl
theorem l_isBB {k : Bool} : gBlt (.isI .bool) m [.bl k] st = some (.bl true, st) := rfl
theorem l_isSS {k : Str} : gBlt (.isI .str) m [.str k] st = some (.bl true, st) := rfl
theorem l_isLL : gBlt (.isI .list) m [.lst xs] st = some (.bl true, st) := rfl
theorem z_bl {k : Bool} : truD st (.bl k) = some k := rfl
theorem z_int {k : Int} : truD st (.int k) = some (k != 0) := rfl
theorem v_slcL {l u : Option Int} : gSlc false (.lst xs) l u st = some (.lst (cutD xs l u), st) := rfl
theorem v_slcT {l u : Option Int} : gSlc m (.tup xs) l u st = some (.tup (cutD xs l u), st) := rfl
theorem v_slcS {l u : Option Int} : gSlc false (.scr xs) l u st = some (.lst (cutD xs l u), st) := rfl
theorem b_shr {k l : Int} (h : 0 ≤ l) : gBin .shr m (.int k) (.int l) st = some (.int (k / 2 ^ l.toNat), st) := by simp [gBin, gInt, h]
theorem b_cat {k l : Str} (h : lenOk (k.length + l.length) = true) : gBin .add m (.str k) (.str l) st = some (.str (k ++ l), st) := by simp only [gBin, gAdd, h, if_true]
theorem b_catL (h : lenOk (xs.length + ys.length) = true) : gBin .add false (.lst xs) (.lst ys) st = some (.lst (xs ++ ys), st) := by
  show gAdd false (.lst xs) (.lst ys) st = _
  simp only [gAdd, rdL, h, if_true]
  rfl
theorem b_catT (h : lenOk (xs.length + ys.length) = true) : gBin .add false (.tup xs) (.tup ys) st = some (.tup (xs ++ ys), st) := by
  show gAdd false (.tup xs) (.tup ys) st = _
  simp [gAdd, h]
theorem u_neg {k : Int} : gUn .neg (.int k) st = some (.int (-k), st) := rfl
theorem c_lt {k l : Int} : gCmp .lt (.int k) (.int l) st = some (decide (k < l), st) := rfl
theorem c_le {k l : Int} : gCmp .le (.int k) (.int l) st = some (decide (k ≤ l), st) := rfl
theorem c_gt {k l : Int} : gCmp .gt (.int k) (.int l) st = some (decide (l < k), st) := rfl
theorem c_ge {k l : Int} : gCmp .ge (.int k) (.int l) st = some (decide (l ≤ k), st) := rfl
theorem c_eqI {k l : Int} : gCmp .eq (.int k) (.int l) st = some (k == l, st) := by simp [gCmp, eqQ, dOk, drf, eqD]
theorem c_neI {k l : Int} : gCmp .ne (.int k) (.int l) st = some (!(k == l), st) := by simp [gCmp, eqQ, dOk, drf, eqD]
theorem c_eqS {k l : Str} : gCmp .eq (.str k) (.str l) st = some (k == l, st) := rfl
theorem c_neS {k l : Str} : gCmp .ne (.str k) (.str l) st = some (!(k == l), st) := rfl
theorem eqQ_ok (h : dOk 60 (drf st x) = true) (h' : dOk 60 (drf st y) = true) : eqQ st x y = some (eqD (drf st x) (drf st y)) := by
  unfold eqQ
  split
  · rfl
  · simp [h, h']
theorem c_eq (h : dOk 60 (drf st x) = true) (h' : dOk 60 (drf st y) = true) : gCmp .eq x y st = some (eqD (drf st x) (drf st y), st) := by
  show (eqQ st x y).map _ = _
  rw [eqQ_ok h h']
  rfl
theorem c_ne (h : dOk 60 (drf st x) = true) (h' : dOk 60 (drf st y) = true) : gCmp .ne x y st = some (!eqD (drf st x) (drf st y), st) := by
  show (eqQ st x y).map _ = _
  rw [eqQ_ok h h']
  rfl
theorem x_tup {k : Int} (h : atI xs k = some d) : gIdx (.tup xs) (.int k) st = some (d, st) := by simp [gIdx, rdS, h]
theorem x_lst {k : Int} (h : atI xs k = some d) : gIdx (.lst xs) (.int k) st = some (d, st) := by simp [gIdx, rdS, h]
theorem x_scr {k : Int} (h : atI xs k = some d) : gIdx (.scr xs) (.int k) st = some (d, st) := by simp [gIdx, rdS, h]
theorem x_ref {n : Nat} {cl : Cell} {k : Int} (h0 : st[n]? = some cl) (h : atI cl.xs k = some d) : gIdx (.ref n) (.int k) st = some (d, st) := by simp [gIdx, rdS, h0, h]
end
section
variable {gs : List D} {fs : List Fn} {k f : Nat} {ds : List D} {st : Sto} {d : D}
theorem run_rt (g : Fn) (hg : fs[f]? = some g) (hn : ds.length = g.np) (h : exS gs (run gs fs k) g.body (ds.map some ++ List.replicate (g.nn - ds.length) none) st = some (.rt d, st)) : run gs fs (k + 1) f ds st = some (d, st) := by
  rw [run_eq g hg hn, h, endF_rt]
end
end Jd

namespace Jd
open PySem PySem.Spec PyProof.Rows L2

/-! ### what is wanted at the end -/
def Wp (Q : Fl → Sto → Prop) (r : Option (Fl × Sto)) : Prop := ∃ fl st, r = some (fl, st) ∧ Q fl st
def Lp (P B : En → Sto → Prop) (Q : Fl → Sto → Prop) : Fl → Sto → Prop
  | .nx σ, st => P σ st
  | .ct σ, st => P σ st
  | .bk σ, st => B σ st
  | .rt d, st => Q (.rt d) st
section
variable {gs : List D} {cs : Nat → List D → Sto → Option (D × Sto)} {σ σ1 σ2 : En} {st st1 st2 st3 : Sto} {a b c t rest : C} {x y z d : D} {xs ys : List D} {i j : Nat} {m : Bool} {Q : Fl → Sto → Prop} {P : D → Prop}
theorem w_nil (h : Q (.nx σ) st) : Wp Q (exS gs cs .nil σ st) := ⟨_, _, rfl, h⟩
theorem w_eq {r r' : Option (Fl × Sto)} (e : r = r') (h : Wp Q r') : Wp Q r := by rw [e]; exact h
theorem Wp.imp {Q' : Fl → Sto → Prop} {r : Option (Fl × Sto)} (h : Wp Q r) (w : ∀ fl st, Q fl st → Q' fl st) : Wp Q' r := by
  obtain ⟨fl, st, e, q⟩ := h
  exact ⟨fl, st, e, w _ _ q⟩
theorem w_step (h : exS gs cs a σ st = some (.nx σ1, st1)) (h' : Wp Q (exS gs cs rest σ1 st1)) : Wp Q (exS gs cs (.cons a rest) σ st) := w_eq (s_step h rfl) h'
theorem w_asg (h : evE gs cs a σ st = some (d, st1)) (h' : Wp Q (exS gs cs rest (σ.set i (some d)) st1)) : Wp Q (exS gs cs (.cons (.asg (.tN i) a) rest) σ st) := w_eq (s_asg h rfl) h'
theorem w_asgX (P : D → Prop) (h : ∃ d, evE gs cs a σ st = some (d, st) ∧ P d) (h' : ∀ d, P d → Wp Q (exS gs cs rest (σ.set i (some d)) st)) : Wp Q (exS gs cs (.cons (.asg (.tN i) a) rest) σ st) := by
  obtain ⟨d, h, p⟩ := h
  exact w_asg h (h' d p)
theorem w_asgG (h : evE gs cs a σ st = some (d, st1)) (hg : evG gs cs t d σ st1 = some (σ2, st2)) (h' : Wp Q (exS gs cs rest σ2 st2)) : Wp Q (exS gs cs (.cons (.asg t a) rest) σ st) := w_eq (s_asgG h hg rfl) h'
theorem w_par (h : evE gs cs a σ st = some (x, st1)) (h1 : evE gs cs b σ st1 = some (y, st2)) (h' : Wp Q (exS gs cs rest ((σ.set i (some x)).set j (some y)) st2)) : Wp Q (exS gs cs (.cons (.par i j a b) rest) σ st) := w_eq (s_par h h1 rfl) h'
theorem w_ret (h : evE gs cs a σ st = some (d, st1)) (q : Q (.rt d) st1) : Wp Q (exS gs cs (.cons (.ret a) rest) σ st) := ⟨_, _, s_ret h, q⟩
theorem w_retX (P : D → Prop) (h : ∃ d, evE gs cs a σ st = some (d, st) ∧ P d) (q : ∀ d, P d → Q (.rt d) st) : Wp Q (exS gs cs (.cons (.ret a) rest) σ st) := by
  obtain ⟨d, h, p⟩ := h
  exact w_ret h (q d p)
theorem w_retN (q : Q (.rt .non) st) : Wp Q (exS gs cs (.cons .retN rest) σ st) := ⟨_, _, s_retN, q⟩
theorem w_ex (h : evE gs cs a σ st = some (d, st1)) (h' : Wp Q (exS gs cs rest σ st1)) : Wp Q (exS gs cs (.cons (.ex a) rest) σ st) := w_eq (s_ex h rfl) h'
theorem w_brk (q : Q (.bk σ) st) : Wp Q (exS gs cs (.cons .brk rest) σ st) := ⟨_, _, s_brk, q⟩
theorem w_cnt (q : Q (.ct σ) st) : Wp Q (exS gs cs (.cons .cnt rest) σ st) := ⟨_, _, s_cnt, q⟩
theorem w_if {k : Bool} (h : evT gs cs t σ st = some (k, st1)) (ha : isL a = true) (hb : isL b = true) (h1 : k = true → Wp Q (exS gs cs (app a rest) σ st1)) (h2 : k = false → Wp Q (exS gs cs (app b rest) σ st1)) : Wp Q (exS gs cs (.cons (.ifs t a b) rest) σ st) := by
  cases k with
  | true => exact w_eq (s_ifT h ha rfl) (h1 rfl)
  | false => exact w_eq (s_ifF h hb rfl) (h2 rfl)
theorem w_ifF (h : evT gs cs t σ st = some (false, st1)) (hb : isL b = true) (h2 : Wp Q (exS gs cs (app b rest) σ st1)) : Wp Q (exS gs cs (.cons (.ifs t a b) rest) σ st) := w_eq (s_ifF h hb rfl) h2
theorem w_ifT (h : evT gs cs t σ st = some (true, st1)) (ha : isL a = true) (h2 : Wp Q (exS gs cs (app a rest) σ st1)) : Wp Q (exS gs cs (.cons (.ifs t a b) rest) σ st) := w_eq (s_ifT h ha rfl) h2
theorem w_aug {o : Bop} {k l : Int} (h0 : σ[i]? = some (some (.int k))) (h : evE gs cs a σ st = some (.int l, st1)) (g : gBin o false (.int k) (.int l) st1 = some (z, st2)) (h' : Wp Q (exS gs cs rest (σ.set i (some z)) st2)) : Wp Q (exS gs cs (.cons (.aug i o a) rest) σ st) := w_eq (s_augI h0 h g rfl) h'
def Nx (R : En → Sto → Prop) (Q : Fl → Sto → Prop) : Fl → Sto → Prop
  | .nx σ, st => R σ st
  | fl, st => Q fl st
/-- an if behind which the same is known, whichever way it went -/
theorem w_ifR (R : En → Sto → Prop) {k : Bool} (h : evT gs cs t σ st = some (k, st1)) (ha : isL a = true) (hb : isL b = true) (h1 : k = true → Wp (Nx R Q) (exS gs cs a σ st1)) (h2 : k = false → Wp (Nx R Q) (exS gs cs b σ st1))
    (h3 : ∀ σ st, R σ st → Wp Q (exS gs cs rest σ st)) : Wp Q (exS gs cs (.cons (.ifs t a b) rest) σ st) := by
  have fin : ∀ {e : C}, isL e = true → Wp (Nx R Q) (exS gs cs e σ st1) → Wp Q (exS gs cs (app e rest) σ st1) := fun {e} he hw => by
    obtain ⟨fl, st', e1, q⟩ := hw
    rw [ex_app he, e1]
    cases fl with
    | nx σ' => exact h3 _ _ q
    | ct σ' => exact ⟨_, _, rfl, q⟩
    | bk σ' => exact ⟨_, _, rfl, q⟩
    | rt d => exact ⟨_, _, rfl, q⟩
  exact w_if h ha hb (fun z => fin ha (h1 z)) (fun z => fin hb (h2 z))
theorem forS_wp {b : En → Sto → Option (Fl × Sto)} {tg : D → En → Sto → Option (En × Sto)} {xs : List D} {Q : Fl → Sto → Prop} (P : Nat → En → Sto → Prop) (B : En → Sto → Prop) (step : ∀ i x σ st, xs[i]? = some x → P i σ st → ∃ σ1 st1, tg x σ st = some (σ1, st1) ∧ Wp (Lp (P (i + 1)) B Q) (b σ1 st1))
    (hQ : ∀ σ st, P xs.length σ st → Q (.nx σ) st) (hB : ∀ σ st, B σ st → Q (.nx σ) st) :
    ∀ (n i : Nat) (σ : En) (st : Sto), i + n = xs.length → P i σ st → Wp Q (forS (.its xs) tg b n i σ st)
  | 0, i, σ, st, hn, h => by
    have hi : xs[i]? = none := List.getElem?_eq_none (by omega)
    rw [forS.eq_def]
    simp only
    rw [srcAt_its, hi]
    exact ⟨_, _, rfl, hQ _ _ (by rw [show xs.length = i by omega]; exact h)⟩
  | n + 1, i, σ, st, hn, h => by
    have hi : xs[i]? = some xs[i] := List.getElem?_eq_getElem (by omega)
    obtain ⟨σ1, st1, e1, fl, st2, e2, q⟩ := step i _ σ st hi h
    rw [forS.eq_def]
    simp only
    rw [srcAt_its, hi]
    simp only
    rw [e1]
    simp only
    rw [e2]
    cases fl with
    | nx σ2 => exact forS_wp P B step hQ hB n (i + 1) σ2 st2 (by omega) q
    | ct σ2 => exact forS_wp P B step hQ hB n (i + 1) σ2 st2 (by omega) q
    | bk σ2 => exact ⟨_, _, rfl, hB _ _ q⟩
    | rt d => exact ⟨_, _, rfl, q⟩
theorem w_for {it : C} (P : Nat → En → Sto → Prop) (h : evI gs cs it σ st = some (.its xs, st1)) (h0 : P 0 σ st1) (step : ∀ i x σ st, xs[i]? = some x → P i σ st → ∃ σ1 st1, evG gs cs t x σ st = some (σ1, st1) ∧ Wp (Lp (P (i + 1)) (fun _ _ => False) Q) (exS gs cs b σ1 st1))
    (h' : ∀ σ st, P xs.length σ st → Wp Q (exS gs cs rest σ st)) : Wp Q (exS gs cs (.cons (.for_ t it b) rest) σ st) := by
  have hw : Wp (fun fl st => match fl with
      | .nx σ => P xs.length σ st
      | fl => ∃ d, fl = .rt d ∧ Q fl st) (forS (.its xs) (evG gs cs t) (exS gs cs b) (srcLen (.its xs) st1) 0 σ st1) := by
    refine forS_wp P (fun _ _ => False) (fun i x σ st hx hp => ?_) (fun σ st q => q) (fun _ _ q => q.elim) _ 0 σ st1 (by simp [srcLen]) h0
    obtain ⟨σ1, st1, e, q⟩ := step i x σ st hx hp
    refine ⟨σ1, st1, e, q.imp fun fl st q => ?_⟩
    cases fl with
    | nx σ => exact q
    | ct σ => exact q
    | bk σ => exact q
    | rt d => exact ⟨d, rfl, q⟩
  obtain ⟨fl, st2, e2, q⟩ := hw
  cases fl with
  | nx σ2 => exact w_eq (s_for h e2 rfl) (h' _ _ q)
  | ct σ2 => obtain ⟨d, e, _⟩ := q; cases e
  | bk σ2 => obtain ⟨d, e, _⟩ := q; cases e
  | rt d => obtain ⟨_, _, q⟩ := q; exact ⟨_, _, s_forR h e2, q⟩
/-- .. with a break -/
theorem w_forB {it : C} (P : Nat → En → Sto → Prop) (B : En → Sto → Prop) (h : evI gs cs it σ st = some (.its xs, st1)) (h0 : P 0 σ st1) (step : ∀ i x σ st, xs[i]? = some x → P i σ st → ∃ σ1 st1, evG gs cs t x σ st = some (σ1, st1) ∧ Wp (Lp (P (i + 1)) B Q) (exS gs cs b σ1 st1))
    (h' : ∀ σ st, P xs.length σ st ∨ B σ st → Wp Q (exS gs cs rest σ st)) : Wp Q (exS gs cs (.cons (.for_ t it b) rest) σ st) := by
  have hw : Wp (fun fl st => match fl with
      | .nx σ => P xs.length σ st ∨ B σ st
      | fl => ∃ d, fl = .rt d ∧ Q fl st) (forS (.its xs) (evG gs cs t) (exS gs cs b) (srcLen (.its xs) st1) 0 σ st1) := by
    refine forS_wp P B (fun i x σ st hx hp => ?_) (fun σ st q => .inl q) (fun _ _ q => .inr q) _ 0 σ st1 (by simp [srcLen]) h0
    obtain ⟨σ1, st1, e, q⟩ := step i x σ st hx hp
    refine ⟨σ1, st1, e, q.imp fun fl st q => ?_⟩
    cases fl with
    | nx σ => exact q
    | ct σ => exact q
    | bk σ => exact q
    | rt d => exact ⟨d, rfl, q⟩
  obtain ⟨fl, st2, e2, q⟩ := hw
  cases fl with
  | nx σ2 => exact w_eq (s_for h e2 rfl) (h' _ _ q)
  | ct σ2 => obtain ⟨d, e, _⟩ := q; cases e
  | bk σ2 => obtain ⟨d, e, _⟩ := q; cases e
  | rt d => obtain ⟨_, _, q⟩ := q; exact ⟨_, _, s_forR h e2, q⟩
theorem whS_wp {t : En → Sto → Option (Bool × Sto)} {b : En → Sto → Option (Fl × Sto)} (P : Nat → En → Sto → Prop) (step : ∀ n σ st, P n σ st → ∃ k st1, t σ st = some (k, st1) ∧ (k = false → Q (.nx σ) st1) ∧ (k = true → Wp (Lp (fun σ st => ∃ l, l < n ∧ P l σ st) (fun σ st => Q (.nx σ) st) Q) (b σ st1))) :
    ∀ (n : Nat) (σ : En) (st : Sto), P n σ st → ∃ fl st', whS t b σ st = some (fl, st') ∧ Q fl st' := by
  intro n
  induction n using Nat.strongRecOn with
  | _ n ih =>
    intro σ st h
    obtain ⟨k, st1, e, q1, q2⟩ := step n σ st h
    cases k with
    | false => exact ⟨_, _, whS_stop e, q1 rfl⟩
    | true =>
      obtain ⟨fl, st2, e2, q⟩ := q2 rfl
      cases fl with
      | nx σ2 =>
        obtain ⟨l, hl, p⟩ := q
        obtain ⟨fl, st3, e3, q3⟩ := ih l hl σ2 st2 p
        exact ⟨fl, st3, whS_go e e2 e3, q3⟩
      | ct σ2 =>
        obtain ⟨l, hl, p⟩ := q
        obtain ⟨fl, st3, e3, q3⟩ := ih l hl σ2 st2 p
        obtain ⟨n3, e4⟩ := whS_some e3
        exact ⟨fl, st3, whS_at (n := n3 + 1) (by rw [whN, e]; simp only; rw [e2]; exact e4), q3⟩
      | bk σ2 => exact ⟨_, _, whS_at (n := 1) (by rw [whN, e]; simp only; rw [e2]), q⟩
      | rt d => exact ⟨_, _, whS_at (n := 1) (by rw [whN, e]; simp only; rw [e2]), q⟩
theorem w_while (n : Nat) (P : Nat → En → Sto → Prop) (h0 : P n σ st) (R : En → Sto → Prop) (step : ∀ n σ st, P n σ st → ∃ k st1, evT gs cs t σ st = some (k, st1) ∧ (k = false → R σ st1) ∧ (k = true → Wp (Lp (fun σ st => ∃ l, l < n ∧ P l σ st) R Q) (exS gs cs b σ st1)))
    (h' : ∀ σ st, R σ st → Wp Q (exS gs cs rest σ st)) : Wp Q (exS gs cs (.cons (.whl t b) rest) σ st) := by
  have hw := whS_wp (t := evT gs cs t) (b := exS gs cs b) (Q := fun fl st => match fl with
      | .nx σ => R σ st
      | fl => ∃ d, fl = .rt d ∧ Q fl st) P (fun n σ st hp => by
    obtain ⟨k, st1, e, q1, q2⟩ := step n σ st hp
    refine ⟨k, st1, e, q1, fun hk => (q2 hk).imp fun fl st q => ?_⟩
    cases fl with
    | nx σ => exact q
    | ct σ => exact q
    | bk σ => exact q
    | rt d => exact ⟨d, rfl, q⟩) n σ st h0
  obtain ⟨fl, st2, e2, q⟩ := hw
  cases fl with
  | nx σ2 => exact w_step (a := .whl t b) e2 (h' _ _ q)
  | ct σ2 => obtain ⟨d, e, _⟩ := q; cases e
  | bk σ2 => obtain ⟨d, e, _⟩ := q; cases e
  | rt d =>
    obtain ⟨_, _, q⟩ := q
    refine ⟨.rt d, st2, ?_, q⟩
    show ((whS (evT gs cs t) (exS gs cs b) σ st).bind _) = _
    rw [e2]
    rfl
theorem e_idxX (P : D → Prop) {k : Int} (h : evE gs cs a σ st = some (.lst xs, st)) (h' : evE gs cs b σ st = some (.int k, st)) (g : ∃ d, atI xs k = some d ∧ P d) : ∃ d, evE gs cs (.idx a b) σ st = some (d, st) ∧ P d := by
  obtain ⟨d, g, p⟩ := g
  exact ⟨d, e_idx h h' (x_lst g), p⟩
end
section
variable {gs : List D} {fs : List Fn} {k f : Nat} {ds : List D} {st : Sto} {d : D}
theorem run_wp (g : Fn) (hg : fs[f]? = some g) (hn : ds.length = g.np) (P : D → Prop) (h : Wp (fun fl st' => match fl with
    | .rt d => st' = st ∧ P d
    | .nx _ => st' = st ∧ P .non
    | _ => False) (exS gs (run gs fs k) g.body (ds.map some ++ List.replicate (g.nn - ds.length) none) st)) : ∃ d, run gs fs (k + 1) f ds st = some (d, st) ∧ P d := by
  obtain ⟨fl, st', e, q⟩ := h
  rw [run_eq g hg hn, e]
  cases fl with
  | rt d =>
    obtain ⟨rfl, p⟩ := q
    exact ⟨d, endF_rt, p⟩
  | nx σ =>
    obtain ⟨rfl, p⟩ := q
    exact ⟨_, endF_nx, p⟩
  | bk _ => exact q.elim
  | ct _ => exact q.elim
/-- .. that may change cells, or make such -/
theorem run_wpS (g : Fn) (hg : fs[f]? = some g) (hn : ds.length = g.np) (P : D → Sto → Prop) (h : Wp (fun fl st' => match fl with
    | .rt d => P d (if d.refLt st.length then st'.take st.length else st')
    | .nx _ => P .non (st'.take st.length)
    | _ => False) (exS gs (run gs fs k) g.body (ds.map some ++ List.replicate (g.nn - ds.length) none) st)) : ∃ d st', run gs fs (k + 1) f ds st = some (d, st') ∧ P d st' := by
  obtain ⟨fl, st', e, q⟩ := h
  rw [run_eq g hg hn, e]
  cases fl with
  | rt d =>
    simp only [endF]
    cases hd : d.refLt st.length with
    | true => exact ⟨d, _, rfl, by simpa [hd] using q⟩
    | false => exact ⟨d, _, rfl, by simpa [hd] using q⟩
  | nx σ => exact ⟨_, _, rfl, q⟩
  | bk _ => exact q.elim
  | ct _ => exact q.elim
end
/-! ### sizes -/
theorem atI_mem {xs : List D} {k : Int} (h0 : 0 ≤ k) (h : k < xs.length) : ∃ d, atI xs k = some d ∧ d ∈ xs := by
  obtain ⟨n, rfl⟩ := Int.eq_ofNat_of_zero_le h0
  have hn : n < xs.length := by omega
  exact ⟨xs[n], atI_nat (List.getElem?_eq_getElem hn), List.getElem_mem hn⟩
theorem e_idxMod {gs : List D} {cs : Nat → List D → Sto → Option (D × Sto)} {σ : En} {st : Sto} {a b : C} {xs : List D} {P : D → Prop} {x m : Int} (h : evE gs cs a σ st = some (.lst xs, st)) (h' : evE gs cs b σ st = some (.int (x.fmod m), st)) (hm : 0 < m) (hl : (xs.length : Int) = m) (g : ∀ d ∈ xs, P d) :
    ∃ d, evE gs cs (.idx a b) σ st = some (d, st) ∧ P d := by
  obtain ⟨d, e, hd⟩ := atI_mem (xs := xs) (Int.fmod_nonneg_of_pos x hm) (by rw [hl]; exact Int.fmod_lt_of_pos x hm)
  exact ⟨d, e_idx h h' (x_lst e), g d hd⟩
def Sz (n : Nat) (i : Int) : Prop := i.natAbs < 2 ^ n
theorem Sz.mono {n m : Nat} {i : Int} (h : Sz n i) (hm : n ≤ m) : Sz m i := Nat.lt_of_lt_of_le h (Nat.pow_le_pow_right (by decide) hm)
theorem Sz.log {n : Nat} {i : Int} (h : Sz n i) : i.natAbs.log2 ≤ n := by
  by_cases h0 : i.natAbs = 0
  · rw [h0]; exact Nat.zero_le _
  · exact Nat.le_of_lt ((Nat.log2_lt h0).mpr h)
theorem mulOk_sz {n m : Nat} {i j : Int} (h : Sz n i) (h' : Sz m j) (hm : n + m < 100000000) : mulOk i j = true := decide_eq_true (by have := h.log; have := h'.log; omega)
theorem divOk_sz {n : Nat} {j : Int} (h : Sz n j) (h0 : j ≠ 0) (hm : n < 9000) : divOk j = true := decide_eq_true ⟨h0, by have := h.log; omega⟩
theorem Sz.mul {n m : Nat} {i j : Int} (h : Sz n i) (h' : Sz m j) : Sz (n + m) (i * j) := by
  unfold Sz
  rw [Int.natAbs_mul, Nat.pow_add]
  exact Nat.mul_lt_mul'' h h'
theorem two_pow_big {n m : Nat} : 2 ^ n ≤ 2 ^ (max n m) := Nat.pow_le_pow_right (by decide) (Nat.le_max_left _ _)
theorem Sz.add {n m : Nat} {i j : Int} (h : Sz n i) (h' : Sz m j) : Sz (max n m + 1) (i + j) := by
  have h1 := h.mono (Nat.le_max_left n m)
  have h2 := h'.mono (Nat.le_max_right n m)
  unfold Sz at *
  rw [Nat.pow_succ]
  omega
theorem Sz.neg {n : Nat} {i : Int} (h : Sz n i) : Sz n (-i) := by
  unfold Sz at *
  omega
theorem Sz.sub {n m : Nat} {i j : Int} (h : Sz n i) (h' : Sz m j) : Sz (max n m + 1) (i - j) := by
  rw [Int.sub_eq_add_neg]
  exact h.add h'.neg
theorem Sz.fmod {n : Nat} {i j : Int} (h : 0 < j) (h' : j.toNat ≤ 2 ^ n) : Sz n (i.fmod j) := by
  have h1 := Int.fmod_lt_of_pos i h
  have h2 := Int.fmod_nonneg_of_pos i h
  unfold Sz
  omega
theorem Sz.of_le {n : Nat} {i j : Int} (h : Sz n j) (h' : i.natAbs ≤ j.natAbs) : Sz n i := Nat.lt_of_le_of_lt h' h
theorem fdiv_abs (i : Int) {j : Int} (h : 0 < j) : (i.fdiv j).natAbs ≤ i.natAbs := by
  rw [Int.fdiv_eq_ediv_of_nonneg i (Int.le_of_lt h)]
  exact Int.natAbs_ediv_le_natAbs i j
theorem Sz.fdiv {n : Nat} {i j : Int} (h : Sz n i) (h' : 0 < j) : Sz n (i.fdiv j) := h.of_le (fdiv_abs i h')
theorem Sz.bits {z : Int} {n : Nat} (h : Builtin.Int.intBits z ≤ n) : Sz n z := by
  unfold Builtin.Int.intBits at h
  unfold Sz
  split at h
  · rename_i h0
    have : z.natAbs = 0 := by simpa using h0
    rw [this]
    exact Nat.pow_pos (by decide)
  · rename_i h0
    exact (Nat.log2_lt (by simpa using h0)).mp (by omega)
theorem strOk_sz {n : Nat} {j : Int} (h : Sz n j) (hm : n < 1920) : j.natAbs.log2 < 1920 := by have := h.log; omega
theorem num_len {n : Nat} {i : Int} (h : Sz n i) (hn : 0 < n) : (Str.ofString (toString i)).length ≤ n + 1 := by
  have pw : ∀ m : Nat, m < 2 ^ n → (m : Int) < 10 ^ n := fun m hm => by
    have : (2 : Nat) ^ n ≤ 10 ^ n := Nat.pow_le_pow_left (by decide) n
    have h2 : m < 10 ^ n := Nat.lt_of_lt_of_le hm this
    have h3 : ((10 ^ n : Nat) : Int) = 10 ^ n := by simp
    omega
  cases i with
  | ofNat m =>
    have := toString_length_le (v := (m : Int)) (by omega) hn (pw m h)
    exact Nat.le_succ_of_le this
  | negSucc m =>
    have h' : m + 1 < 2 ^ n := h
    have := toString_length_le (v := ((m + 1 : Nat) : Int)) (by omega) hn (pw _ h')
    rw [PyProof.Rows.ofString_length] at this ⊢
    have e : (toString (Int.negSucc m)) = "-" ++ toString ((m + 1 : Nat) : Int) := rfl
    rw [e, String.toList_append, List.length_append]
    have : "-".toList.length = 1 := rfl
    omega
end Jd

namespace Jd
open PySem PySem.Spec PyProof.Rows L2

/-! ### fractions in least terms -/
def byOf (n d : Int) : Int := if d < 0 then 0 - (Int.gcd n d : Int) else (Int.gcd n d : Int)
def mkF (n d : Int) : Int × Int := (n.fdiv (byOf n d), d.fdiv (byOf n d))
abbrev encF (p : Int × Int) : D := .tup [.int p.1, .int p.2]
structure Red (p : Int × Int) : Prop where
  pos : 0 < p.2
  co : Int.gcd p.1 p.2 = 1
theorem gcd_pos' {n d : Int} (h : d ≠ 0) : 0 < Int.gcd n d := Int.gcd_pos_iff.mpr (.inr h)
theorem byOf_abs {n d : Int} : (byOf n d).natAbs = Int.gcd n d := by
  unfold byOf
  split <;> omega
theorem byOf_ne {n d : Int} (h : d ≠ 0) : byOf n d ≠ 0 := by
  have := gcd_pos' (n := n) h
  have := byOf_abs (n := n) (d := d)
  omega
theorem byOf_dvd {n d : Int} : byOf n d ∣ n ∧ byOf n d ∣ d := by
  have h1 := Int.gcd_dvd_left n d
  have h2 := Int.gcd_dvd_right n d
  unfold byOf
  split
  · rw [Int.zero_sub]
    exact ⟨Int.neg_dvd.mpr h1, Int.neg_dvd.mpr h2⟩
  · exact ⟨h1, h2⟩
theorem mkF_eq {n d : Int} (h : d ≠ 0) : byOf n d * (mkF n d).1 = n ∧ byOf n d * (mkF n d).2 = d := by
  obtain ⟨h1, h2⟩ := byOf_dvd (n := n) (d := d)
  unfold mkF
  rw [Int.fdiv_eq_ediv_of_dvd h1, Int.fdiv_eq_ediv_of_dvd h2]
  exact ⟨Int.mul_ediv_cancel' h1, Int.mul_ediv_cancel' h2⟩
theorem mkF_red {n d : Int} (h : d ≠ 0) : Red (mkF n d) := by
  obtain ⟨e1, e2⟩ := mkF_eq (n := n) h
  generalize hp : (mkF n d).1 = p at e1
  generalize hq : (mkF n d).2 = q at e2
  have hb := byOf_ne (n := n) h
  refine ⟨?_, ?_⟩
  · rw [hq]
    have q0 : q ≠ 0 := fun z => by rw [z, Int.mul_zero] at e2; exact h e2.symm
    rcases Int.lt_or_gt_of_ne q0 with hq0 | hq0
    · exfalso
      by_cases hd : d < 0
      · have : byOf n d < 0 := by
          have := gcd_pos' (n := n) h
          unfold byOf
          rw [if_pos hd]
          omega
        have := Int.mul_pos_of_neg_of_neg this hq0
        omega
      · have : 0 < byOf n d := by
          have := gcd_pos' (n := n) h
          unfold byOf
          rw [if_neg hd]
          omega
        have := Int.mul_neg_of_pos_of_neg this hq0
        omega
    · exact hq0
  · rw [hp, hq]
    have g1 : Int.gcd (byOf n d * p) (byOf n d * q) = (byOf n d).natAbs * Int.gcd p q := Int.gcd_mul_left _ _ _
    rw [e1, e2, byOf_abs] at g1
    have := gcd_pos' (n := n) h
    exact (Nat.mul_right_cancel this (by rw [Nat.one_mul, Nat.mul_comm]; exact g1)).symm
theorem mkF_ratio {n d : Int} (h : d ≠ 0) : (mkF n d).1 * d = (mkF n d).2 * n := by
  obtain ⟨e1, e2⟩ := mkF_eq (n := n) h
  generalize (mkF n d).1 = p at *
  generalize (mkF n d).2 = q at *
  generalize byOf n d = b at *
  rw [← e1, ← e2, Int.mul_left_comm p, Int.mul_left_comm q, Int.mul_comm p]
theorem red_dvd {p q q' p' : Int} (h : Int.gcd p q = 1) (e : p * q' = p' * q) : q ∣ q' := by
  have h1 : q.natAbs ∣ p.natAbs * q'.natAbs := by
    rw [← Int.natAbs_mul, e, Int.natAbs_mul]
    exact Nat.dvd_mul_left _ _
  have h2 : Nat.Coprime q.natAbs p.natAbs := by
    unfold Nat.Coprime
    rw [Nat.gcd_comm]
    exact h
  exact Int.natAbs_dvd_natAbs.mp (h2.dvd_of_dvd_mul_left h1)
theorem red_uniq {a b : Int × Int} (ha : Red a) (hb : Red b) (e : a.1 * b.2 = b.1 * a.2) : a = b := by
  have h1 := red_dvd ha.co e
  have h2 := red_dvd hb.co e.symm
  have pa := ha.pos
  have pb := hb.pos
  have e2 : a.2 = b.2 := Int.dvd_antisymm (by omega) (by omega) h1 h2
  have e1 : a.1 = b.1 := by
    rw [e2] at e
    exact Int.eq_of_mul_eq_mul_right (by omega) e
  exact Prod.ext e1 e2
theorem mkF_uniq {n d : Int} {b : Int × Int} (h : d ≠ 0) (hb : Red b) (e : n * b.2 = b.1 * d) : mkF n d = b := by
  refine red_uniq (mkF_red h) hb ?_
  have r := mkF_ratio (n := n) h
  have : ((mkF n d).1 * b.2) * d = (b.1 * (mkF n d).2) * d := by
    rw [Int.mul_right_comm, r, Int.mul_assoc, e, Int.mul_left_comm, Int.mul_assoc]
  exact Int.eq_of_mul_eq_mul_right h this
theorem mkF_self {b : Int × Int} (hb : Red b) : mkF b.1 b.2 = b := mkF_uniq (by have := hb.pos; omega) hb rfl
theorem mkF_neg {n d : Int} (h : d ≠ 0) : mkF (0 - n) (0 - d) = mkF n d := by
  refine mkF_uniq (by omega) (mkF_red h) ?_
  have := mkF_ratio (n := n) h
  rw [Int.zero_sub, Int.zero_sub, Int.neg_mul, Int.mul_neg, this, Int.mul_comm n]
theorem encF_inj {a b : Int × Int} : eqD (encF a) (encF b) = decide (a = b) := by
  obtain ⟨a1, a2⟩ := a
  obtain ⟨b1, b2⟩ := b
  simp only [encF, eqD, eqL, Bool.and_true]
  rw [Bool.eq_iff_iff]
  simp
theorem encF_ok {a : Int × Int} {st : Sto} : dOk 60 (drf st (encF a)) = true := by simp [encF, drf, dOk]
theorem byOf_sz {n d : Int} {m : Nat} (h : d ≠ 0) (hs : Sz m d) : Sz m (byOf n d) := by
  refine hs.of_le ?_
  rw [byOf_abs]
  exact Int.gcd_le_natAbs_right n h
theorem mkF_sz {n d : Int} {k m : Nat} (h : d ≠ 0) (hn : Sz k n) (hd : Sz m d) : Sz k (mkF n d).1 ∧ Sz m (mkF n d).2 := by
  obtain ⟨e1, e2⟩ := mkF_eq (n := n) h
  have hb := byOf_ne (n := n) h
  have le : ∀ {x y : Int}, byOf n d * x = y → x.natAbs ≤ y.natAbs := fun {x y} e => by
    rw [← e, Int.natAbs_mul]
    exact Nat.le_mul_of_pos_left _ (by omega)
  exact ⟨hn.of_le (le e1), hd.of_le (le e2)⟩
def LS (n : Nat) : Prop := Nat.ble n 1000 = true
theorem LS_mk {n : Nat} (h : Nat.ble n 1000 = true) : LS n := h
theorem LS.ok {n : Nat} (h : LS n) : lenOk n = true := by
  have : n ≤ 1000 := Nat.le_of_ble_eq_true h
  exact decide_eq_true (Nat.le_trans this (by decide))
section
variable {gs : List D} {cs : Nat → List D → Sto → Option (D × Sto)} {σ : En} {st st1 : Sto} {a : C} {xs : List D}
theorem e_tupS (h : evA gs cs a σ st = some (xs, st1)) (g : LS xs.length) : evE gs cs (.tup a) σ st = some (.tup xs, st1) := e_tup h g.ok
theorem e_dspS (h : evA gs cs a σ st = some (xs, st1)) (g : LS xs.length) : evE gs cs (.dsp false a) σ st = some (.lst xs, st1) := e_dsp h g.ok
end
theorem lenQ {n : Nat} (h : decide (n ≤ 16777216) = true) : lenOk n = true := h
theorem Sz.lit {i : Int} (h : decide (i.natAbs < 2 ^ 128) = true) : Sz 128 i := of_decide_eq_true (p := i.natAbs < 2 ^ 128) h
theorem Sz.fmodL {i j : Int} (h : decide (0 < j) = true) (h' : decide (j.toNat ≤ 2 ^ 128) = true) : Sz 128 (i.fmod j) := Sz.fmod (of_decide_eq_true h) (of_decide_eq_true h')
theorem cut_mem {xs : List D} {l u : Option Int} {x : D} (h : x ∈ cutD xs l u) : x ∈ xs := List.mem_of_mem_drop (List.mem_of_mem_take h)
section
variable {gs : List D} {cs : Nat → List D → Sto → Option (D × Sto)}
/-- [one for one in thing if not isinstance(one, int) or isinstance(one, bool)] of a pair of numbers -/
theorem notInts {i j : Nat} {σ : En} {st : Sto} {p q : Int} (hi : σ[i]? = some (some (.tup [.int p, .int q]))) (hj : j < σ.length) :
    evE gs cs (.lcp false [j] (.tN j) (.iV (.var i)) (.or (.not (.ex (.blt (.isI .int) false (.cons (.var j) .nil)))) (.one (.ex (.blt (.isI .bool) false (.cons (.var j) .nil))))) (.var j)) σ st = some (.lst [], st) := by
  refine e_lcp (i_tup (e_var hi)) (xs := []) ?_ rfl
  have := lcS_its (xs := [.int p, .int q]) (tg := evG gs cs (.tN j)) (t := evT gs cs (.or (.not (.ex (.blt (.isI .int) false (.cons (.var j) .nil)))) (.one (.ex (.blt (.isI .bool) false (.cons (.var j) .nil)))))) (e := evE gs cs (.var j)) (σ := wipeD σ [j]) (st := st) (fun _ => false) id (fun x hx => ?_)
  · simpa using this
  · have hx' : ∃ k : Int, x = .int k := by
      simp only [List.mem_cons, List.not_mem_nil, or_false] at hx
      rcases hx with rfl | rfl
      · exact ⟨_, rfl⟩
      · exact ⟨_, rfl⟩
    obtain ⟨k, rfl⟩ := hx'
    have hl : ((wipeD σ [j]).set j (some (.int k)))[j]? = some (some (.int k)) := List.getElem?_set_self (by simpa [wipeD] using hj)
    refine ⟨_, g_name, ?_, fun h => by cases h⟩
    have h1 : evT gs cs (.not (.ex (.blt (.isI .int) false (.cons (.var j) .nil)))) ((wipeD σ [j]).set j (some (.int k))) st = some (false, st) := t_not (t_ex (e_blt (a_cons (e_var hl) a_nil) l_isII) z_bl)
    have h2 : evT gs cs (.one (.ex (.blt (.isI .bool) false (.cons (.var j) .nil)))) ((wipeD σ [j]).set j (some (.int k))) st = some (false, st) := t_one (t_ex (e_blt (a_cons (e_var hl) a_nil) l_isBI) z_bl)
    exact t_or h1 fun _ => h2
end
/-- a pair of numbers among the module's data -/
theorem gl_pair {K : PySem.W.Frag} {mg : Str → Option Value} {h : Heap} {x : Str} {a : Addr} {p q : Int} {t0 t1 : Tok} {od : Option Addr} {n : Nat} {sl : Array (Option Value)} (KX : K.In h) (G : h.Ns mainGlobals mg) (g : PySem.W.nsIn K mainGlobals x = some (some (.ref a)))
    (l : K.lookup a = some ⟨.type "tuple", od, .seq #[.int p t0, .int q t1] n, sl⟩) : ∃ v u, mg x = some u ∧ RelV v u ∧ ∀ F, DV K F [] v (.tup [.int p, .int q]) :=
  ⟨.ref a, .ref a, PySem.W.mg_of KX G g, rfl, fun F => .tup (xs := [.int p, .int q]) (.inr ⟨_, _, _, l, rfl, rfl, by show 2 ≤ sizeLine; decide, .cons ⟨t0, rfl⟩ (.cons ⟨t1, rfl⟩ .nil)⟩) (.cons (.int p) (.cons (.int q) .nil))⟩
end Jd

namespace Jd
open PySem PySem.Spec PyProof.Rows L2
/-! ### defs that many laws share: their codes, and what they do -/
/-- divisor: 0 one, 1 other -/
abbrev T_divisor : Fn := ⟨2, 2, (.cons (.whl (.cmp .ne (.var 1) (.kint 0)) (.cons (.par 0 1 (.var 1) (.bin .mod false (.var 0) (.var 1))) .nil)) (.cons (.ret (.blt .abs false (.cons (.var 0) .nil))) .nil))⟩
/-- make: 0 n, 1 d, 2 by -/
abbrev T_make (i_divisor : Nat) : Fn := ⟨2, 3, (.cons (.asg (.tN 2) (.call i_divisor (.cons (.var 0) (.cons (.var 1) .nil)))) (.cons (.ifs (.cmp .lt (.var 1) (.kint 0)) (.cons (.asg (.tN 2) (.bin .sub false (.kint 0) (.var 2))) .nil) .nil) (.cons (.ret (.tup (.cons (.bin .fdiv false (.var 0) (.var 2)) (.cons (.bin .fdiv false (.var 1) (.var 2)) .nil)))) .nil)))⟩
/-- shown: 0 a -/
abbrev T_shown : Fn := ⟨1, 1, (.cons (.ifs (.cmp .eq (.idx (.var 0) (.kint 1)) (.kint 1)) (.cons (.ret (.blt .str false (.cons (.idx (.var 0) (.kint 0)) .nil))) .nil) .nil) (.cons (.ret (.bin .add false (.bin .add false (.blt .str false (.cons (.idx (.var 0) (.kint 0)) .nil)) (.kstr "/")) (.blt .str false (.cons (.idx (.var 0) (.kint 1)) .nil)))) .nil))⟩
/-- _law_stir: 0 cell, 1 k, 2 number -/
abbrev T_law_stir : Fn := ⟨2, 3, (.cons (.ifs (.cmp .ge (.var 0) (.bin .pow false (.kint 10) (.kint 18))) (.cons (.ret (.bin .mod false (.bin .shr false (.bin .sub false (.var 0) (.bin .pow false (.kint 10) (.kint 18))) (.bin .mul false (.kint 28) (.var 1))) (.bin .pow false (.kint 2) (.kint 28)))) .nil) .nil) (.cons (.asg (.tN 2) (.bin .mod false (.bin .mul false (.bin .add false (.bin .add false (.var 0) (.bin .mul false (.kint 1013) (.var 1))) (.kint 1)) (.kint 16807)) (.kint 2147483647))) (.cons (.asg (.tN 2) (.bin .mod false (.bin .mul false (.var 2) (.var 2)) (.kint 2147483629))) (.cons (.ret (.bin .fdiv false (.bin .mod false (.bin .mul false (.var 2) (.kint 39373)) (.kint 2147483587)) (.kint 8))) .nil))))⟩
/-- _law_least: 0 n, 1 d, 2 by -/
abbrev T_law_least (i__law_divisor : Nat) : Fn := ⟨2, 3, (.cons (.asg (.tN 2) (.bin .mul false (.call i__law_divisor (.cons (.var 0) (.cons (.var 1) .nil))) (.bin .sub false (.kint 1) (.bin .mul false (.kint 2) (.blt .int false (.cons (.cmp .lt (.var 1) (.kint 0)) .nil)))))) (.cons (.ret (.tup (.cons (.bin .fdiv false (.var 0) (.var 2)) (.cons (.bin .fdiv false (.var 1) (.var 2)) .nil)))) .nil))⟩
/-- _law_is_fraction: 0 thing, 1 one -/
abbrev T_law_is_fraction (i__law_divisor : Nat) : Fn := ⟨1, 2, (.cons (.ifs (.or (.not (.ex (.blt (.isI .tuple) false (.cons (.var 0) .nil)))) (.one (.cmp .ne (.blt .len false (.cons (.var 0) .nil)) (.kint 2)))) (.cons (.ret (.kbl false)) .nil) .nil) (.cons (.ifs (.or (.cmp .ne (.lcp false [1] (.tN 1) (.iV (.var 0)) (.or (.not (.ex (.blt (.isI .int) false (.cons (.var 1) .nil)))) (.one (.ex (.blt (.isI .bool) false (.cons (.var 1) .nil))))) (.var 1)) (.dsp false .nil)) (.one (.cmp .lt (.idx (.var 0) (.kint 1)) (.kint 1)))) (.cons (.ret (.kbl false)) .nil) .nil) (.cons (.ret (.cmp .eq (.call i__law_divisor (.cons (.idx (.var 0) (.kint 0)) (.cons (.idx (.var 0) (.kint 1)) .nil))) (.kint 1))) .nil)))⟩
/-- _law_number: 0 cell, 1 k, 2 number, 3 far, 4 found -/
abbrev T_law_number (i__law_stir : Nat) : Fn := ⟨2, 5, (.cons (.asg (.tN 2) (.call i__law_stir (.cons (.var 0) (.cons (.var 1) .nil)))) (.cons (.asg (.tN 3) (.bin .add false (.bin .add false (.call i__law_stir (.cons (.var 0) (.cons (.bin .add false (.var 1) (.kint 1)) .nil))) (.bin .mul false (.call i__law_stir (.cons (.var 0) (.cons (.bin .add false (.var 1) (.kint 2)) .nil))) (.bin .pow false (.kint 10) (.kint 8)))) (.bin .mul false (.call i__law_stir (.cons (.var 0) (.cons (.bin .add false (.var 1) (.kint 3)) .nil))) (.bin .pow false (.kint 10) (.kint 16))))) (.cons (.asg (.tN 4) (.idx (.dsp false (.cons (.bin .mod false (.bin .fdiv false (.var 2) (.kint 16)) (.kint 10)) (.cons (.bin .mod false (.bin .fdiv false (.var 2) (.kint 16)) (.kint 1000)) (.cons (.bin .fdiv false (.var 2) (.kint 16)) (.cons (.var 3) (.cons (.bin .mod false (.bin .mul false (.var 3) (.bin .pow false (.kint 10) (.kint 6))) (.bin .pow false (.kint 10) (.kint 30))) (.cons (.kint 0) .nil))))))) (.bin .mod false (.var 2) (.kint 6)))) (.cons (.ret (.bin .mul false (.var 4) (.bin .sub false (.kint 1) (.bin .mul false (.bin .mod false (.bin .fdiv false (.var 2) (.kint 6)) (.kint 2)) (.kint 2))))) .nil))))⟩
/-- plus: 0 a, 1 b -/
abbrev T_plus (i_make : Nat) : Fn := ⟨2, 2, (.cons (.ret (.call i_make (.cons (.bin .add false (.bin .mul false (.idx (.var 0) (.kint 0)) (.idx (.var 1) (.kint 1))) (.bin .mul false (.idx (.var 1) (.kint 0)) (.idx (.var 0) (.kint 1)))) (.cons (.bin .mul false (.idx (.var 0) (.kint 1)) (.idx (.var 1) (.kint 1))) .nil)))) .nil)⟩
/-- minus: 0 a, 1 b -/
abbrev T_minus (i_make : Nat) : Fn := ⟨2, 2, (.cons (.ret (.call i_make (.cons (.bin .sub false (.bin .mul false (.idx (.var 0) (.kint 0)) (.idx (.var 1) (.kint 1))) (.bin .mul false (.idx (.var 1) (.kint 0)) (.idx (.var 0) (.kint 1)))) (.cons (.bin .mul false (.idx (.var 0) (.kint 1)) (.idx (.var 1) (.kint 1))) .nil)))) .nil)⟩
/-- times: 0 a, 1 b -/
abbrev T_times (i_make : Nat) : Fn := ⟨2, 2, (.cons (.ret (.call i_make (.cons (.bin .mul false (.idx (.var 0) (.kint 0)) (.idx (.var 1) (.kint 0))) (.cons (.bin .mul false (.idx (.var 0) (.kint 1)) (.idx (.var 1) (.kint 1))) .nil)))) .nil)⟩
/-- over: 0 a, 1 b -/
abbrev T_over (i_make : Nat) : Fn := ⟨2, 2, (.cons (.ret (.call i_make (.cons (.bin .mul false (.idx (.var 0) (.kint 0)) (.idx (.var 1) (.kint 1))) (.cons (.bin .mul false (.idx (.var 0) (.kint 1)) (.idx (.var 1) (.kint 0))) .nil)))) .nil)⟩
/-- below: 0 a, 1 b -/
abbrev T_below : Fn := ⟨2, 2, (.cons (.ret (.cmp .lt (.bin .mul false (.idx (.var 0) (.kint 0)) (.idx (.var 1) (.kint 1))) (.bin .mul false (.idx (.var 1) (.kint 0)) (.idx (.var 0) (.kint 1))))) .nil)⟩
/-- _law_fraction: 0 cell, 1 k, 2 d -/
abbrev T_law_fraction (i__law_number i__law_stir i__law_least : Nat) : Fn := ⟨2, 3, (.cons (.asg (.tN 2) (.blt .abs false (.cons (.call i__law_number (.cons (.var 0) (.cons (.bin .add false (.var 1) (.kint 10)) .nil))) .nil))) (.cons (.ifs (.or (.cmp .eq (.var 2) (.kint 0)) (.one (.cmp .eq (.bin .mod false (.call i__law_stir (.cons (.var 0) (.cons (.bin .add false (.var 1) (.kint 19)) .nil))) (.kint 4)) (.kint 0)))) (.cons (.asg (.tN 2) (.kint 1)) .nil) .nil) (.cons (.ret (.call i__law_least (.cons (.call i__law_number (.cons (.var 0) (.cons (.var 1) .nil))) (.cons (.var 2) .nil)))) .nil)))⟩
/-- _law_same: 0 found, 1 n, 2 d -/
abbrev T_law_same (i__law_is_fraction : Nat) : Fn := ⟨3, 3, (.cons (.ret (.and (.call i__law_is_fraction (.cons (.var 0) .nil)) (.one (.cmp .eq (.bin .mul false (.idx (.var 0) (.kint 0)) (.var 2)) (.bin .mul false (.idx (.var 0) (.kint 1)) (.var 1)))))) .nil)⟩
def stir (c j : Int) : Int := if 10 ^ 18 ≤ c then ((c - 10 ^ 18) / 2 ^ (28 * j).toNat).fmod (2 ^ 28) else
  (((((c + 1013 * j + 1) * 16807).fmod 2147483647 * ((c + 1013 * j + 1) * 16807).fmod 2147483647).fmod 2147483629 * 39373).fmod 2147483587).fdiv 8
theorem stir_bd (c j : Int) : 0 ≤ stir c j ∧ stir c j < 268435456 := by
  unfold stir
  split
  · exact ⟨Int.fmod_nonneg_of_pos _ (by decide), Int.fmod_lt_of_pos _ (by decide)⟩
  · generalize (((c + 1013 * j + 1) * 16807).fmod 2147483647 * ((c + 1013 * j + 1) * 16807).fmod 2147483647).fmod 2147483629 * 39373 = x
    have h1 := Int.fmod_nonneg_of_pos x (show (0 : Int) < 2147483587 by decide)
    have h2 := Int.fmod_lt_of_pos x (show (0 : Int) < 2147483587 by decide)
    rw [Int.fdiv_eq_ediv_of_nonneg _ (by decide)]
    omega
theorem stir_sz (c j : Int) : Sz 28 (stir c j) := by
  have := stir_bd c j
  unfold Sz
  omega
theorem fmod2_bd (x : Int) : 0 ≤ x.fmod 2 ∧ x.fmod 2 < 2 := ⟨Int.fmod_nonneg_of_pos x (by decide), Int.fmod_lt_of_pos x (by decide)⟩
section
variable {gs : List D} {fs : List Fn} {i v u t : Nat} (k : Nat) (st : Sto)
theorem sp_divisor (hi : fs[i]? = some T_divisor) (a b : Int) : run gs fs (k + 1) i [.int a, .int b] st = some (.int (Int.gcd a b), st) := by
  refine run_rt T_divisor hi rfl ?_
  obtain ⟨g, ⟨h1, _⟩, h2⟩ := gcd_loop (gs := gs) (cs := run gs fs k) (i := 0) (j := 1) (by decide) st b.natAbs [some (.int a), some (.int b)] a b (Nat.le_refl _) (by show 0 < 2; decide) (by show 1 < 2; decide) rfl rfl
  refine s_step h2 ?_
  have e2 : (if g < 0 then -g else g) = (Int.gcd a b : Int) := by rw [← h1]; split <;> omega
  rw [← e2]
  refine s_ret ?_
  (repeat' (first | with_reducible exact l_abs | with_reducible exact l_int | with_reducible exact l_intB | with_reducible exact l_lenT | with_reducible exact l_lenL | with_reducible exact l_lenS | with_reducible exact l_tupL | with_reducible exact l_tupT | with_reducible exact l_max | with_reducible exact l_min | with_reducible exact l_listT | with_reducible exact l_listL | with_reducible exact v_slcT | with_reducible exact l_isTT | with_reducible exact l_isII | with_reducible exact l_isBI | with_reducible exact l_isBB | with_reducible exact l_isSS | with_reducible exact l_isLL | with_reducible exact z_bl | with_reducible exact z_int | with_reducible exact v_slcL | with_reducible exact v_slcS | with_reducible exact e_int | with_reducible exact e_bl | with_reducible exact e_str | with_reducible exact e_non | with_reducible exact a_nil | with_reducible exact o_nil | with_reducible exact g_name | with_reducible exact gs_nil | with_reducible exact b_add | with_reducible exact b_sub | with_reducible exact u_neg | with_reducible exact c_lt | with_reducible exact c_le | with_reducible exact c_gt | with_reducible exact c_ge | with_reducible exact c_eqI | with_reducible exact c_neI | with_reducible exact c_eqS | with_reducible exact c_neS | ((with_reducible apply e_var); exact rfl) | ((with_reducible apply e_glb); exact rfl) | ((with_reducible apply x_tup); exact rfl) | ((with_reducible apply x_lst); exact rfl) | with_reducible apply a_cons | with_reducible apply e_bin | with_reducible apply e_un | with_reducible apply e_idx | with_reducible apply e_call | with_reducible apply e_blt | with_reducible apply e_cmp | with_reducible apply e_slc | with_reducible apply e_frz | with_reducible apply e_one | with_reducible apply e_not | with_reducible apply t_cmp | with_reducible apply t_not | with_reducible apply t_one | with_reducible apply t_ex | with_reducible apply o_cons | with_reducible apply g_tup | with_reducible apply gs_cons | with_reducible apply g_sub | with_reducible apply e_tupS | with_reducible apply e_dspS | ((with_reducible apply LS_mk); exact rfl) | with_reducible refine' t_and ?_ (fun _ => ?_) | with_reducible refine' t_or ?_ (fun _ => ?_) | with_reducible refine' e_and ?_ (fun _ => ?_) | with_reducible refine' e_or ?_ (fun _ => ?_) | ((with_reducible apply b_powL); decide) | ((with_reducible apply b_pow); decide) | ((with_reducible apply b_fdiv); decide) | ((with_reducible apply b_mod); decide) | ((with_reducible apply b_mul); decide) | ((with_reducible apply b_mul); with_reducible assumption) | ((with_reducible apply b_fdiv); with_reducible assumption) | with_reducible apply b_mul | with_reducible apply b_fdiv | with_reducible apply b_mod | with_reducible apply b_shr | with_reducible apply b_cat | with_reducible apply l_str))
theorem sp_stir (hi : fs[i]? = some T_law_stir) (c j : Int) (hc : Sz 1048577 c) (hj : 0 ≤ j) (hj2 : j < 1000) : run gs fs (k + 1) i [.int c, .int j] st = some (.int (stir c j), st) := by
  have sj : Sz 10 j := by unfold Sz; omega
  have s1 : Sz 12 1013 := by unfold Sz; decide
  have s2 : Sz 5 28 := by unfold Sz; decide
  have s3 : Sz 15 16807 := by unfold Sz; decide
  have s4 : Sz 16 39373 := by unfold Sz; decide
  have h2 : mulOk 1013 j = true := mulOk_sz s1 sj (by decide)
  have h3 : mulOk 28 j = true := mulOk_sz s2 sj (by decide)
  have h1 : mulOk (c + 1013 * j + 1) 16807 = true := mulOk_sz ((hc.add (s1.mul sj)).add (show Sz 1 1 by unfold Sz; decide)) s3 (by decide)
  refine run_rt T_law_stir hi rfl ?_
  unfold stir
  refine' s_if (by (repeat' (first | with_reducible exact l_abs | with_reducible exact l_int | with_reducible exact l_intB | with_reducible exact l_lenT | with_reducible exact l_lenL | with_reducible exact l_lenS | with_reducible exact l_tupL | with_reducible exact l_tupT | with_reducible exact l_max | with_reducible exact l_min | with_reducible exact l_listT | with_reducible exact l_listL | with_reducible exact v_slcT | with_reducible exact l_isTT | with_reducible exact l_isII | with_reducible exact l_isBI | with_reducible exact l_isBB | with_reducible exact l_isSS | with_reducible exact l_isLL | with_reducible exact z_bl | with_reducible exact z_int | with_reducible exact v_slcL | with_reducible exact v_slcS | with_reducible exact e_int | with_reducible exact e_bl | with_reducible exact e_str | with_reducible exact e_non | with_reducible exact a_nil | with_reducible exact o_nil | with_reducible exact g_name | with_reducible exact gs_nil | with_reducible exact b_add | with_reducible exact b_sub | with_reducible exact u_neg | with_reducible exact c_lt | with_reducible exact c_le | with_reducible exact c_gt | with_reducible exact c_ge | with_reducible exact c_eqI | with_reducible exact c_neI | with_reducible exact c_eqS | with_reducible exact c_neS | ((with_reducible apply e_var); exact rfl) | ((with_reducible apply e_glb); exact rfl) | ((with_reducible apply x_tup); exact rfl) | ((with_reducible apply x_lst); exact rfl) | with_reducible apply a_cons | with_reducible apply e_bin | with_reducible apply e_un | with_reducible apply e_idx | with_reducible apply e_call | with_reducible apply e_blt | with_reducible apply e_cmp | with_reducible apply e_slc | with_reducible apply e_frz | with_reducible apply e_one | with_reducible apply e_not | with_reducible apply t_cmp | with_reducible apply t_not | with_reducible apply t_one | with_reducible apply t_ex | with_reducible apply o_cons | with_reducible apply g_tup | with_reducible apply gs_cons | with_reducible apply g_sub | with_reducible apply e_tupS | with_reducible apply e_dspS | ((with_reducible apply LS_mk); exact rfl) | with_reducible refine' t_and ?_ (fun _ => ?_) | with_reducible refine' t_or ?_ (fun _ => ?_) | with_reducible refine' e_and ?_ (fun _ => ?_) | with_reducible refine' e_or ?_ (fun _ => ?_) | ((with_reducible apply b_powL); decide) | ((with_reducible apply b_pow); decide) | ((with_reducible apply b_fdiv); decide) | ((with_reducible apply b_mod); decide) | ((with_reducible apply b_mul); decide) | ((with_reducible apply b_mul); with_reducible assumption) | ((with_reducible apply b_fdiv); with_reducible assumption) | with_reducible apply b_mul | with_reducible apply b_fdiv | with_reducible apply b_mod | with_reducible apply b_shr | with_reducible apply b_cat | with_reducible apply l_str))) rfl rfl (fun h => ?_) (fun h => ?_)
  · rw [if_pos (of_decide_eq_true h)]
    refine s_ret ?_
    (repeat' (first | with_reducible exact l_abs | with_reducible exact l_int | with_reducible exact l_intB | with_reducible exact l_lenT | with_reducible exact l_lenL | with_reducible exact l_lenS | with_reducible exact l_tupL | with_reducible exact l_tupT | with_reducible exact l_max | with_reducible exact l_min | with_reducible exact l_listT | with_reducible exact l_listL | with_reducible exact v_slcT | with_reducible exact l_isTT | with_reducible exact l_isII | with_reducible exact l_isBI | with_reducible exact l_isBB | with_reducible exact l_isSS | with_reducible exact l_isLL | with_reducible exact z_bl | with_reducible exact z_int | with_reducible exact v_slcL | with_reducible exact v_slcS | with_reducible exact e_int | with_reducible exact e_bl | with_reducible exact e_str | with_reducible exact e_non | with_reducible exact a_nil | with_reducible exact o_nil | with_reducible exact g_name | with_reducible exact gs_nil | with_reducible exact b_add | with_reducible exact b_sub | with_reducible exact u_neg | with_reducible exact c_lt | with_reducible exact c_le | with_reducible exact c_gt | with_reducible exact c_ge | with_reducible exact c_eqI | with_reducible exact c_neI | with_reducible exact c_eqS | with_reducible exact c_neS | ((with_reducible apply e_var); exact rfl) | ((with_reducible apply e_glb); exact rfl) | ((with_reducible apply x_tup); exact rfl) | ((with_reducible apply x_lst); exact rfl) | with_reducible apply a_cons | with_reducible apply e_bin | with_reducible apply e_un | with_reducible apply e_idx | with_reducible apply e_call | with_reducible apply e_blt | with_reducible apply e_cmp | with_reducible apply e_slc | with_reducible apply e_frz | with_reducible apply e_one | with_reducible apply e_not | with_reducible apply t_cmp | with_reducible apply t_not | with_reducible apply t_one | with_reducible apply t_ex | with_reducible apply o_cons | with_reducible apply g_tup | with_reducible apply gs_cons | with_reducible apply g_sub | with_reducible apply e_tupS | with_reducible apply e_dspS | ((with_reducible apply LS_mk); exact rfl) | with_reducible refine' t_and ?_ (fun _ => ?_) | with_reducible refine' t_or ?_ (fun _ => ?_) | with_reducible refine' e_and ?_ (fun _ => ?_) | with_reducible refine' e_or ?_ (fun _ => ?_) | ((with_reducible apply b_powL); decide) | ((with_reducible apply b_pow); decide) | ((with_reducible apply b_fdiv); decide) | ((with_reducible apply b_mod); decide) | ((with_reducible apply b_mul); decide) | ((with_reducible apply b_mul); with_reducible assumption) | ((with_reducible apply b_fdiv); with_reducible assumption) | with_reducible apply b_mul | with_reducible apply b_fdiv | with_reducible apply b_mod | with_reducible apply b_shr | with_reducible apply b_cat | with_reducible apply l_str))
    omega
  · rw [if_neg (of_decide_eq_false h)]
    have m1 : ∀ x : Int, Sz 31 (x.fmod 2147483647) := fun x => Sz.fmod (by decide) (by decide)
    have m2 : ∀ x : Int, Sz 31 (x.fmod 2147483629) := fun x => Sz.fmod (by decide) (by decide)
    refine' s_asg (by (repeat' (first | with_reducible exact l_abs | with_reducible exact l_int | with_reducible exact l_intB | with_reducible exact l_lenT | with_reducible exact l_lenL | with_reducible exact l_lenS | with_reducible exact l_tupL | with_reducible exact l_tupT | with_reducible exact l_max | with_reducible exact l_min | with_reducible exact l_listT | with_reducible exact l_listL | with_reducible exact v_slcT | with_reducible exact l_isTT | with_reducible exact l_isII | with_reducible exact l_isBI | with_reducible exact l_isBB | with_reducible exact l_isSS | with_reducible exact l_isLL | with_reducible exact z_bl | with_reducible exact z_int | with_reducible exact v_slcL | with_reducible exact v_slcS | with_reducible exact e_int | with_reducible exact e_bl | with_reducible exact e_str | with_reducible exact e_non | with_reducible exact a_nil | with_reducible exact o_nil | with_reducible exact g_name | with_reducible exact gs_nil | with_reducible exact b_add | with_reducible exact b_sub | with_reducible exact u_neg | with_reducible exact c_lt | with_reducible exact c_le | with_reducible exact c_gt | with_reducible exact c_ge | with_reducible exact c_eqI | with_reducible exact c_neI | with_reducible exact c_eqS | with_reducible exact c_neS | ((with_reducible apply e_var); exact rfl) | ((with_reducible apply e_glb); exact rfl) | ((with_reducible apply x_tup); exact rfl) | ((with_reducible apply x_lst); exact rfl) | with_reducible apply a_cons | with_reducible apply e_bin | with_reducible apply e_un | with_reducible apply e_idx | with_reducible apply e_call | with_reducible apply e_blt | with_reducible apply e_cmp | with_reducible apply e_slc | with_reducible apply e_frz | with_reducible apply e_one | with_reducible apply e_not | with_reducible apply t_cmp | with_reducible apply t_not | with_reducible apply t_one | with_reducible apply t_ex | with_reducible apply o_cons | with_reducible apply g_tup | with_reducible apply gs_cons | with_reducible apply g_sub | with_reducible apply e_tupS | with_reducible apply e_dspS | ((with_reducible apply LS_mk); exact rfl) | with_reducible refine' t_and ?_ (fun _ => ?_) | with_reducible refine' t_or ?_ (fun _ => ?_) | with_reducible refine' e_and ?_ (fun _ => ?_) | with_reducible refine' e_or ?_ (fun _ => ?_) | ((with_reducible apply b_powL); decide) | ((with_reducible apply b_pow); decide) | ((with_reducible apply b_fdiv); decide) | ((with_reducible apply b_mod); decide) | ((with_reducible apply b_mul); decide) | ((with_reducible apply b_mul); with_reducible assumption) | ((with_reducible apply b_fdiv); with_reducible assumption) | with_reducible apply b_mul | with_reducible apply b_fdiv | with_reducible apply b_mod | with_reducible apply b_shr | with_reducible apply b_cat | with_reducible apply l_str))) ?_
    refine' s_asg (by ((repeat' (first | with_reducible exact l_abs | with_reducible exact l_int | with_reducible exact l_intB | with_reducible exact l_lenT | with_reducible exact l_lenL | with_reducible exact l_lenS | with_reducible exact l_tupL | with_reducible exact l_tupT | with_reducible exact l_max | with_reducible exact l_min | with_reducible exact l_listT | with_reducible exact l_listL | with_reducible exact v_slcT | with_reducible exact l_isTT | with_reducible exact l_isII | with_reducible exact l_isBI | with_reducible exact l_isBB | with_reducible exact l_isSS | with_reducible exact l_isLL | with_reducible exact z_bl | with_reducible exact z_int | with_reducible exact v_slcL | with_reducible exact v_slcS | with_reducible exact e_int | with_reducible exact e_bl | with_reducible exact e_str | with_reducible exact e_non | with_reducible exact a_nil | with_reducible exact o_nil | with_reducible exact g_name | with_reducible exact gs_nil | with_reducible exact b_add | with_reducible exact b_sub | with_reducible exact u_neg | with_reducible exact c_lt | with_reducible exact c_le | with_reducible exact c_gt | with_reducible exact c_ge | with_reducible exact c_eqI | with_reducible exact c_neI | with_reducible exact c_eqS | with_reducible exact c_neS | ((with_reducible apply e_var); exact rfl) | ((with_reducible apply e_glb); exact rfl) | ((with_reducible apply x_tup); exact rfl) | ((with_reducible apply x_lst); exact rfl) | with_reducible apply a_cons | with_reducible apply e_bin | with_reducible apply e_un | with_reducible apply e_idx | with_reducible apply e_call | with_reducible apply e_blt | with_reducible apply e_cmp | with_reducible apply e_slc | with_reducible apply e_frz | with_reducible apply e_one | with_reducible apply e_not | with_reducible apply t_cmp | with_reducible apply t_not | with_reducible apply t_one | with_reducible apply t_ex | with_reducible apply o_cons | with_reducible apply g_tup | with_reducible apply gs_cons | with_reducible apply g_sub | with_reducible apply e_tupS | with_reducible apply e_dspS | ((with_reducible apply LS_mk); exact rfl) | with_reducible refine' t_and ?_ (fun _ => ?_) | with_reducible refine' t_or ?_ (fun _ => ?_) | with_reducible refine' e_and ?_ (fun _ => ?_) | with_reducible refine' e_or ?_ (fun _ => ?_) | ((with_reducible apply b_powL); decide) | ((with_reducible apply b_pow); decide) | ((with_reducible apply b_fdiv); decide) | ((with_reducible apply b_mod); decide) | ((with_reducible apply b_mul); decide) | ((with_reducible apply b_mul); with_reducible assumption) | ((with_reducible apply b_fdiv); with_reducible assumption) | with_reducible apply b_mul | with_reducible apply b_fdiv | with_reducible apply b_mod | with_reducible apply b_shr | with_reducible apply b_cat | with_reducible apply l_str))); exact mulOk_sz (m1 _) (m1 _) (by decide)) ?_
    refine s_ret ?_
    (repeat' (first | with_reducible exact l_abs | with_reducible exact l_int | with_reducible exact l_intB | with_reducible exact l_lenT | with_reducible exact l_lenL | with_reducible exact l_lenS | with_reducible exact l_tupL | with_reducible exact l_tupT | with_reducible exact l_max | with_reducible exact l_min | with_reducible exact l_listT | with_reducible exact l_listL | with_reducible exact v_slcT | with_reducible exact l_isTT | with_reducible exact l_isII | with_reducible exact l_isBI | with_reducible exact l_isBB | with_reducible exact l_isSS | with_reducible exact l_isLL | with_reducible exact z_bl | with_reducible exact z_int | with_reducible exact v_slcL | with_reducible exact v_slcS | with_reducible exact e_int | with_reducible exact e_bl | with_reducible exact e_str | with_reducible exact e_non | with_reducible exact a_nil | with_reducible exact o_nil | with_reducible exact g_name | with_reducible exact gs_nil | with_reducible exact b_add | with_reducible exact b_sub | with_reducible exact u_neg | with_reducible exact c_lt | with_reducible exact c_le | with_reducible exact c_gt | with_reducible exact c_ge | with_reducible exact c_eqI | with_reducible exact c_neI | with_reducible exact c_eqS | with_reducible exact c_neS | ((with_reducible apply e_var); exact rfl) | ((with_reducible apply e_glb); exact rfl) | ((with_reducible apply x_tup); exact rfl) | ((with_reducible apply x_lst); exact rfl) | with_reducible apply a_cons | with_reducible apply e_bin | with_reducible apply e_un | with_reducible apply e_idx | with_reducible apply e_call | with_reducible apply e_blt | with_reducible apply e_cmp | with_reducible apply e_slc | with_reducible apply e_frz | with_reducible apply e_one | with_reducible apply e_not | with_reducible apply t_cmp | with_reducible apply t_not | with_reducible apply t_one | with_reducible apply t_ex | with_reducible apply o_cons | with_reducible apply g_tup | with_reducible apply gs_cons | with_reducible apply g_sub | with_reducible apply e_tupS | with_reducible apply e_dspS | ((with_reducible apply LS_mk); exact rfl) | with_reducible refine' t_and ?_ (fun _ => ?_) | with_reducible refine' t_or ?_ (fun _ => ?_) | with_reducible refine' e_and ?_ (fun _ => ?_) | with_reducible refine' e_or ?_ (fun _ => ?_) | ((with_reducible apply b_powL); decide) | ((with_reducible apply b_pow); decide) | ((with_reducible apply b_fdiv); decide) | ((with_reducible apply b_mod); decide) | ((with_reducible apply b_mul); decide) | ((with_reducible apply b_mul); with_reducible assumption) | ((with_reducible apply b_fdiv); with_reducible assumption) | with_reducible apply b_mul | with_reducible apply b_fdiv | with_reducible apply b_mod | with_reducible apply b_shr | with_reducible apply b_cat | with_reducible apply l_str))
    exact mulOk_sz (m2 _) s4 (by decide)
theorem sp_make (hi : fs[i]? = some (T_make v)) (hv : fs[v]? = some T_divisor) (n d : Int) (h0 : d ≠ 0) (hd : Sz 8000 d) : run gs fs (k + 2) i [.int n, .int d] st = some (encF (mkF n d), st) := by
  have hb : divOk (byOf n d) = true := divOk_sz (byOf_sz h0 hd) (byOf_ne h0) (by decide)
  have c1 := sp_divisor (gs := gs) k st hv n d
  refine run_rt (T_make v) hi rfl ?_
  refine' s_asg (by (repeat' (first | with_reducible apply c1 | with_reducible exact l_abs | with_reducible exact l_int | with_reducible exact l_intB | with_reducible exact l_lenT | with_reducible exact l_lenL | with_reducible exact l_lenS | with_reducible exact l_tupL | with_reducible exact l_tupT | with_reducible exact l_max | with_reducible exact l_min | with_reducible exact l_listT | with_reducible exact l_listL | with_reducible exact v_slcT | with_reducible exact l_isTT | with_reducible exact l_isII | with_reducible exact l_isBI | with_reducible exact l_isBB | with_reducible exact l_isSS | with_reducible exact l_isLL | with_reducible exact z_bl | with_reducible exact z_int | with_reducible exact v_slcL | with_reducible exact v_slcS | with_reducible exact e_int | with_reducible exact e_bl | with_reducible exact e_str | with_reducible exact e_non | with_reducible exact a_nil | with_reducible exact o_nil | with_reducible exact g_name | with_reducible exact gs_nil | with_reducible exact b_add | with_reducible exact b_sub | with_reducible exact u_neg | with_reducible exact c_lt | with_reducible exact c_le | with_reducible exact c_gt | with_reducible exact c_ge | with_reducible exact c_eqI | with_reducible exact c_neI | with_reducible exact c_eqS | with_reducible exact c_neS | ((with_reducible apply e_var); exact rfl) | ((with_reducible apply e_glb); exact rfl) | ((with_reducible apply x_tup); exact rfl) | ((with_reducible apply x_lst); exact rfl) | with_reducible apply a_cons | with_reducible apply e_bin | with_reducible apply e_un | with_reducible apply e_idx | with_reducible apply e_call | with_reducible apply e_blt | with_reducible apply e_cmp | with_reducible apply e_slc | with_reducible apply e_frz | with_reducible apply e_one | with_reducible apply e_not | with_reducible apply t_cmp | with_reducible apply t_not | with_reducible apply t_one | with_reducible apply t_ex | with_reducible apply o_cons | with_reducible apply g_tup | with_reducible apply gs_cons | with_reducible apply g_sub | with_reducible apply e_tupS | with_reducible apply e_dspS | ((with_reducible apply LS_mk); exact rfl) | with_reducible refine' t_and ?_ (fun _ => ?_) | with_reducible refine' t_or ?_ (fun _ => ?_) | with_reducible refine' e_and ?_ (fun _ => ?_) | with_reducible refine' e_or ?_ (fun _ => ?_) | ((with_reducible apply b_powL); decide) | ((with_reducible apply b_pow); decide) | ((with_reducible apply b_fdiv); decide) | ((with_reducible apply b_mod); decide) | ((with_reducible apply b_mul); decide) | ((with_reducible apply b_mul); with_reducible assumption) | ((with_reducible apply b_fdiv); with_reducible assumption) | with_reducible apply b_mul | with_reducible apply b_fdiv | with_reducible apply b_mod | with_reducible apply b_shr | with_reducible apply b_cat | with_reducible apply l_str))) ?_
  refine' s_if (by (repeat' (first | with_reducible exact l_abs | with_reducible exact l_int | with_reducible exact l_intB | with_reducible exact l_lenT | with_reducible exact l_lenL | with_reducible exact l_lenS | with_reducible exact l_tupL | with_reducible exact l_tupT | with_reducible exact l_max | with_reducible exact l_min | with_reducible exact l_listT | with_reducible exact l_listL | with_reducible exact v_slcT | with_reducible exact l_isTT | with_reducible exact l_isII | with_reducible exact l_isBI | with_reducible exact l_isBB | with_reducible exact l_isSS | with_reducible exact l_isLL | with_reducible exact z_bl | with_reducible exact z_int | with_reducible exact v_slcL | with_reducible exact v_slcS | with_reducible exact e_int | with_reducible exact e_bl | with_reducible exact e_str | with_reducible exact e_non | with_reducible exact a_nil | with_reducible exact o_nil | with_reducible exact g_name | with_reducible exact gs_nil | with_reducible exact b_add | with_reducible exact b_sub | with_reducible exact u_neg | with_reducible exact c_lt | with_reducible exact c_le | with_reducible exact c_gt | with_reducible exact c_ge | with_reducible exact c_eqI | with_reducible exact c_neI | with_reducible exact c_eqS | with_reducible exact c_neS | ((with_reducible apply e_var); exact rfl) | ((with_reducible apply e_glb); exact rfl) | ((with_reducible apply x_tup); exact rfl) | ((with_reducible apply x_lst); exact rfl) | with_reducible apply a_cons | with_reducible apply e_bin | with_reducible apply e_un | with_reducible apply e_idx | with_reducible apply e_call | with_reducible apply e_blt | with_reducible apply e_cmp | with_reducible apply e_slc | with_reducible apply e_frz | with_reducible apply e_one | with_reducible apply e_not | with_reducible apply t_cmp | with_reducible apply t_not | with_reducible apply t_one | with_reducible apply t_ex | with_reducible apply o_cons | with_reducible apply g_tup | with_reducible apply gs_cons | with_reducible apply g_sub | with_reducible apply e_tupS | with_reducible apply e_dspS | ((with_reducible apply LS_mk); exact rfl) | with_reducible refine' t_and ?_ (fun _ => ?_) | with_reducible refine' t_or ?_ (fun _ => ?_) | with_reducible refine' e_and ?_ (fun _ => ?_) | with_reducible refine' e_or ?_ (fun _ => ?_) | ((with_reducible apply b_powL); decide) | ((with_reducible apply b_pow); decide) | ((with_reducible apply b_fdiv); decide) | ((with_reducible apply b_mod); decide) | ((with_reducible apply b_mul); decide) | ((with_reducible apply b_mul); with_reducible assumption) | ((with_reducible apply b_fdiv); with_reducible assumption) | with_reducible apply b_mul | with_reducible apply b_fdiv | with_reducible apply b_mod | with_reducible apply b_shr | with_reducible apply b_cat | with_reducible apply l_str))) rfl rfl (fun h => ?_) (fun h => ?_)
  · have e : byOf n d = 0 - (Int.gcd n d : Int) := if_pos (of_decide_eq_true h)
    refine' s_asg (by (repeat' (first | with_reducible exact l_abs | with_reducible exact l_int | with_reducible exact l_intB | with_reducible exact l_lenT | with_reducible exact l_lenL | with_reducible exact l_lenS | with_reducible exact l_tupL | with_reducible exact l_tupT | with_reducible exact l_max | with_reducible exact l_min | with_reducible exact l_listT | with_reducible exact l_listL | with_reducible exact v_slcT | with_reducible exact l_isTT | with_reducible exact l_isII | with_reducible exact l_isBI | with_reducible exact l_isBB | with_reducible exact l_isSS | with_reducible exact l_isLL | with_reducible exact z_bl | with_reducible exact z_int | with_reducible exact v_slcL | with_reducible exact v_slcS | with_reducible exact e_int | with_reducible exact e_bl | with_reducible exact e_str | with_reducible exact e_non | with_reducible exact a_nil | with_reducible exact o_nil | with_reducible exact g_name | with_reducible exact gs_nil | with_reducible exact b_add | with_reducible exact b_sub | with_reducible exact u_neg | with_reducible exact c_lt | with_reducible exact c_le | with_reducible exact c_gt | with_reducible exact c_ge | with_reducible exact c_eqI | with_reducible exact c_neI | with_reducible exact c_eqS | with_reducible exact c_neS | ((with_reducible apply e_var); exact rfl) | ((with_reducible apply e_glb); exact rfl) | ((with_reducible apply x_tup); exact rfl) | ((with_reducible apply x_lst); exact rfl) | with_reducible apply a_cons | with_reducible apply e_bin | with_reducible apply e_un | with_reducible apply e_idx | with_reducible apply e_call | with_reducible apply e_blt | with_reducible apply e_cmp | with_reducible apply e_slc | with_reducible apply e_frz | with_reducible apply e_one | with_reducible apply e_not | with_reducible apply t_cmp | with_reducible apply t_not | with_reducible apply t_one | with_reducible apply t_ex | with_reducible apply o_cons | with_reducible apply g_tup | with_reducible apply gs_cons | with_reducible apply g_sub | with_reducible apply e_tupS | with_reducible apply e_dspS | ((with_reducible apply LS_mk); exact rfl) | with_reducible refine' t_and ?_ (fun _ => ?_) | with_reducible refine' t_or ?_ (fun _ => ?_) | with_reducible refine' e_and ?_ (fun _ => ?_) | with_reducible refine' e_or ?_ (fun _ => ?_) | ((with_reducible apply b_powL); decide) | ((with_reducible apply b_pow); decide) | ((with_reducible apply b_fdiv); decide) | ((with_reducible apply b_mod); decide) | ((with_reducible apply b_mul); decide) | ((with_reducible apply b_mul); with_reducible assumption) | ((with_reducible apply b_fdiv); with_reducible assumption) | with_reducible apply b_mul | with_reducible apply b_fdiv | with_reducible apply b_mod | with_reducible apply b_shr | with_reducible apply b_cat | with_reducible apply l_str))) ?_
    unfold encF mkF
    rw [e] at hb ⊢
    refine s_ret ?_
    (repeat' (first | with_reducible exact l_abs | with_reducible exact l_int | with_reducible exact l_intB | with_reducible exact l_lenT | with_reducible exact l_lenL | with_reducible exact l_lenS | with_reducible exact l_tupL | with_reducible exact l_tupT | with_reducible exact l_max | with_reducible exact l_min | with_reducible exact l_listT | with_reducible exact l_listL | with_reducible exact v_slcT | with_reducible exact l_isTT | with_reducible exact l_isII | with_reducible exact l_isBI | with_reducible exact l_isBB | with_reducible exact l_isSS | with_reducible exact l_isLL | with_reducible exact z_bl | with_reducible exact z_int | with_reducible exact v_slcL | with_reducible exact v_slcS | with_reducible exact e_int | with_reducible exact e_bl | with_reducible exact e_str | with_reducible exact e_non | with_reducible exact a_nil | with_reducible exact o_nil | with_reducible exact g_name | with_reducible exact gs_nil | with_reducible exact b_add | with_reducible exact b_sub | with_reducible exact u_neg | with_reducible exact c_lt | with_reducible exact c_le | with_reducible exact c_gt | with_reducible exact c_ge | with_reducible exact c_eqI | with_reducible exact c_neI | with_reducible exact c_eqS | with_reducible exact c_neS | ((with_reducible apply e_var); exact rfl) | ((with_reducible apply e_glb); exact rfl) | ((with_reducible apply x_tup); exact rfl) | ((with_reducible apply x_lst); exact rfl) | with_reducible apply a_cons | with_reducible apply e_bin | with_reducible apply e_un | with_reducible apply e_idx | with_reducible apply e_call | with_reducible apply e_blt | with_reducible apply e_cmp | with_reducible apply e_slc | with_reducible apply e_frz | with_reducible apply e_one | with_reducible apply e_not | with_reducible apply t_cmp | with_reducible apply t_not | with_reducible apply t_one | with_reducible apply t_ex | with_reducible apply o_cons | with_reducible apply g_tup | with_reducible apply gs_cons | with_reducible apply g_sub | with_reducible apply e_tupS | with_reducible apply e_dspS | ((with_reducible apply LS_mk); exact rfl) | with_reducible refine' t_and ?_ (fun _ => ?_) | with_reducible refine' t_or ?_ (fun _ => ?_) | with_reducible refine' e_and ?_ (fun _ => ?_) | with_reducible refine' e_or ?_ (fun _ => ?_) | ((with_reducible apply b_powL); decide) | ((with_reducible apply b_pow); decide) | ((with_reducible apply b_fdiv); decide) | ((with_reducible apply b_mod); decide) | ((with_reducible apply b_mul); decide) | ((with_reducible apply b_mul); with_reducible assumption) | ((with_reducible apply b_fdiv); with_reducible assumption) | with_reducible apply b_mul | with_reducible apply b_fdiv | with_reducible apply b_mod | with_reducible apply b_shr | with_reducible apply b_cat | with_reducible apply l_str))
  · have e : byOf n d = (Int.gcd n d : Int) := if_neg (of_decide_eq_false h)
    unfold encF mkF
    rw [e] at hb ⊢
    refine s_ret ?_
    (repeat' (first | with_reducible exact l_abs | with_reducible exact l_int | with_reducible exact l_intB | with_reducible exact l_lenT | with_reducible exact l_lenL | with_reducible exact l_lenS | with_reducible exact l_tupL | with_reducible exact l_tupT | with_reducible exact l_max | with_reducible exact l_min | with_reducible exact l_listT | with_reducible exact l_listL | with_reducible exact v_slcT | with_reducible exact l_isTT | with_reducible exact l_isII | with_reducible exact l_isBI | with_reducible exact l_isBB | with_reducible exact l_isSS | with_reducible exact l_isLL | with_reducible exact z_bl | with_reducible exact z_int | with_reducible exact v_slcL | with_reducible exact v_slcS | with_reducible exact e_int | with_reducible exact e_bl | with_reducible exact e_str | with_reducible exact e_non | with_reducible exact a_nil | with_reducible exact o_nil | with_reducible exact g_name | with_reducible exact gs_nil | with_reducible exact b_add | with_reducible exact b_sub | with_reducible exact u_neg | with_reducible exact c_lt | with_reducible exact c_le | with_reducible exact c_gt | with_reducible exact c_ge | with_reducible exact c_eqI | with_reducible exact c_neI | with_reducible exact c_eqS | with_reducible exact c_neS | ((with_reducible apply e_var); exact rfl) | ((with_reducible apply e_glb); exact rfl) | ((with_reducible apply x_tup); exact rfl) | ((with_reducible apply x_lst); exact rfl) | with_reducible apply a_cons | with_reducible apply e_bin | with_reducible apply e_un | with_reducible apply e_idx | with_reducible apply e_call | with_reducible apply e_blt | with_reducible apply e_cmp | with_reducible apply e_slc | with_reducible apply e_frz | with_reducible apply e_one | with_reducible apply e_not | with_reducible apply t_cmp | with_reducible apply t_not | with_reducible apply t_one | with_reducible apply t_ex | with_reducible apply o_cons | with_reducible apply g_tup | with_reducible apply gs_cons | with_reducible apply g_sub | with_reducible apply e_tupS | with_reducible apply e_dspS | ((with_reducible apply LS_mk); exact rfl) | with_reducible refine' t_and ?_ (fun _ => ?_) | with_reducible refine' t_or ?_ (fun _ => ?_) | with_reducible refine' e_and ?_ (fun _ => ?_) | with_reducible refine' e_or ?_ (fun _ => ?_) | ((with_reducible apply b_powL); decide) | ((with_reducible apply b_pow); decide) | ((with_reducible apply b_fdiv); decide) | ((with_reducible apply b_mod); decide) | ((with_reducible apply b_mul); decide) | ((with_reducible apply b_mul); with_reducible assumption) | ((with_reducible apply b_fdiv); with_reducible assumption) | with_reducible apply b_mul | with_reducible apply b_fdiv | with_reducible apply b_mod | with_reducible apply b_shr | with_reducible apply b_cat | with_reducible apply l_str))
theorem sp_least (hi : fs[i]? = some (T_law_least v)) (hv : fs[v]? = some T_divisor) (n d : Int) (h0 : d ≠ 0) (hd : Sz 8000 d) : run gs fs (k + 2) i [.int n, .int d] st = some (encF (mkF n d), st) := by
  have hb : divOk (byOf n d) = true := divOk_sz (byOf_sz h0 hd) (byOf_ne h0) (by decide)
  have c1 := sp_divisor (gs := gs) k st hv n d
  have sg : Sz 8000 ((Int.gcd n d : Nat) : Int) := by
    have := byOf_sz (n := n) h0 hd
    have e := byOf_abs (n := n) (d := d)
    unfold Sz at *
    omega
  have e : byOf n d = (Int.gcd n d : Int) * (1 - 2 * (if decide (d < 0) = true then 1 else 0)) := by
    unfold byOf
    by_cases h : d < 0
    · rw [if_pos h, decide_eq_true h, if_pos rfl]; omega
    · rw [if_neg h, decide_eq_false h, if_neg (by decide)]; omega
  have s2 : Sz 200 (1 - 2 * (if decide (d < 0) = true then (1 : Int) else 0)) := by
    refine Sz.mono (n := 2) ?_ (by decide)
    unfold Sz
    split <;> decide
  have s3 : mulOk 2 (if decide (d < 0) = true then (1 : Int) else 0) = true := by
    split <;> decide
  refine run_rt (T_law_least v) hi rfl ?_
  refine' s_asg (by ((repeat' (first | with_reducible apply c1 | with_reducible exact l_abs | with_reducible exact l_int | with_reducible exact l_intB | with_reducible exact l_lenT | with_reducible exact l_lenL | with_reducible exact l_lenS | with_reducible exact l_tupL | with_reducible exact l_tupT | with_reducible exact l_max | with_reducible exact l_min | with_reducible exact l_listT | with_reducible exact l_listL | with_reducible exact v_slcT | with_reducible exact l_isTT | with_reducible exact l_isII | with_reducible exact l_isBI | with_reducible exact l_isBB | with_reducible exact l_isSS | with_reducible exact l_isLL | with_reducible exact z_bl | with_reducible exact z_int | with_reducible exact v_slcL | with_reducible exact v_slcS | with_reducible exact e_int | with_reducible exact e_bl | with_reducible exact e_str | with_reducible exact e_non | with_reducible exact a_nil | with_reducible exact o_nil | with_reducible exact g_name | with_reducible exact gs_nil | with_reducible exact b_add | with_reducible exact b_sub | with_reducible exact u_neg | with_reducible exact c_lt | with_reducible exact c_le | with_reducible exact c_gt | with_reducible exact c_ge | with_reducible exact c_eqI | with_reducible exact c_neI | with_reducible exact c_eqS | with_reducible exact c_neS | ((with_reducible apply e_var); exact rfl) | ((with_reducible apply e_glb); exact rfl) | ((with_reducible apply x_tup); exact rfl) | ((with_reducible apply x_lst); exact rfl) | with_reducible apply a_cons | with_reducible apply e_bin | with_reducible apply e_un | with_reducible apply e_idx | with_reducible apply e_call | with_reducible apply e_blt | with_reducible apply e_cmp | with_reducible apply e_slc | with_reducible apply e_frz | with_reducible apply e_one | with_reducible apply e_not | with_reducible apply t_cmp | with_reducible apply t_not | with_reducible apply t_one | with_reducible apply t_ex | with_reducible apply o_cons | with_reducible apply g_tup | with_reducible apply gs_cons | with_reducible apply g_sub | with_reducible apply e_tupS | with_reducible apply e_dspS | ((with_reducible apply LS_mk); exact rfl) | with_reducible refine' t_and ?_ (fun _ => ?_) | with_reducible refine' t_or ?_ (fun _ => ?_) | with_reducible refine' e_and ?_ (fun _ => ?_) | with_reducible refine' e_or ?_ (fun _ => ?_) | ((with_reducible apply b_powL); decide) | ((with_reducible apply b_pow); decide) | ((with_reducible apply b_fdiv); decide) | ((with_reducible apply b_mod); decide) | ((with_reducible apply b_mul); decide) | ((with_reducible apply b_mul); with_reducible assumption) | ((with_reducible apply b_fdiv); with_reducible assumption) | with_reducible apply b_mul | with_reducible apply b_fdiv | with_reducible apply b_mod | with_reducible apply b_shr | with_reducible apply b_cat | with_reducible apply l_str))); all_goals first | with_reducible exact s3 | with_reducible exact mulOk_sz sg s2 (by decide)) ?_
  unfold encF mkF
  rw [e] at hb ⊢
  refine s_ret ?_
  (repeat' (first | with_reducible exact l_abs | with_reducible exact l_int | with_reducible exact l_intB | with_reducible exact l_lenT | with_reducible exact l_lenL | with_reducible exact l_lenS | with_reducible exact l_tupL | with_reducible exact l_tupT | with_reducible exact l_max | with_reducible exact l_min | with_reducible exact l_listT | with_reducible exact l_listL | with_reducible exact v_slcT | with_reducible exact l_isTT | with_reducible exact l_isII | with_reducible exact l_isBI | with_reducible exact l_isBB | with_reducible exact l_isSS | with_reducible exact l_isLL | with_reducible exact z_bl | with_reducible exact z_int | with_reducible exact v_slcL | with_reducible exact v_slcS | with_reducible exact e_int | with_reducible exact e_bl | with_reducible exact e_str | with_reducible exact e_non | with_reducible exact a_nil | with_reducible exact o_nil | with_reducible exact g_name | with_reducible exact gs_nil | with_reducible exact b_add | with_reducible exact b_sub | with_reducible exact u_neg | with_reducible exact c_lt | with_reducible exact c_le | with_reducible exact c_gt | with_reducible exact c_ge | with_reducible exact c_eqI | with_reducible exact c_neI | with_reducible exact c_eqS | with_reducible exact c_neS | ((with_reducible apply e_var); exact rfl) | ((with_reducible apply e_glb); exact rfl) | ((with_reducible apply x_tup); exact rfl) | ((with_reducible apply x_lst); exact rfl) | with_reducible apply a_cons | with_reducible apply e_bin | with_reducible apply e_un | with_reducible apply e_idx | with_reducible apply e_call | with_reducible apply e_blt | with_reducible apply e_cmp | with_reducible apply e_slc | with_reducible apply e_frz | with_reducible apply e_one | with_reducible apply e_not | with_reducible apply t_cmp | with_reducible apply t_not | with_reducible apply t_one | with_reducible apply t_ex | with_reducible apply o_cons | with_reducible apply g_tup | with_reducible apply gs_cons | with_reducible apply g_sub | with_reducible apply e_tupS | with_reducible apply e_dspS | ((with_reducible apply LS_mk); exact rfl) | with_reducible refine' t_and ?_ (fun _ => ?_) | with_reducible refine' t_or ?_ (fun _ => ?_) | with_reducible refine' e_and ?_ (fun _ => ?_) | with_reducible refine' e_or ?_ (fun _ => ?_) | ((with_reducible apply b_powL); decide) | ((with_reducible apply b_pow); decide) | ((with_reducible apply b_fdiv); decide) | ((with_reducible apply b_mod); decide) | ((with_reducible apply b_mul); decide) | ((with_reducible apply b_mul); with_reducible assumption) | ((with_reducible apply b_fdiv); with_reducible assumption) | with_reducible apply b_mul | with_reducible apply b_fdiv | with_reducible apply b_mod | with_reducible apply b_shr | with_reducible apply b_cat | with_reducible apply l_str))
theorem sp_isf (hi : fs[i]? = some (T_law_is_fraction v)) (hv : fs[v]? = some T_divisor) (p q : Int) (h : Red (p, q)) : run gs fs (k + 2) i [.tup [.int p, .int q]] st = some (.bl true, st) := by
  have c1 := sp_divisor (gs := gs) k st hv p q
  refine run_rt (T_law_is_fraction v) hi rfl ?_
  refine' s_if (by (repeat' (first | with_reducible exact l_abs | with_reducible exact l_int | with_reducible exact l_intB | with_reducible exact l_lenT | with_reducible exact l_lenL | with_reducible exact l_lenS | with_reducible exact l_tupL | with_reducible exact l_tupT | with_reducible exact l_max | with_reducible exact l_min | with_reducible exact l_listT | with_reducible exact l_listL | with_reducible exact v_slcT | with_reducible exact l_isTT | with_reducible exact l_isII | with_reducible exact l_isBI | with_reducible exact l_isBB | with_reducible exact l_isSS | with_reducible exact l_isLL | with_reducible exact z_bl | with_reducible exact z_int | with_reducible exact v_slcL | with_reducible exact v_slcS | with_reducible exact e_int | with_reducible exact e_bl | with_reducible exact e_str | with_reducible exact e_non | with_reducible exact a_nil | with_reducible exact o_nil | with_reducible exact g_name | with_reducible exact gs_nil | with_reducible exact b_add | with_reducible exact b_sub | with_reducible exact u_neg | with_reducible exact c_lt | with_reducible exact c_le | with_reducible exact c_gt | with_reducible exact c_ge | with_reducible exact c_eqI | with_reducible exact c_neI | with_reducible exact c_eqS | with_reducible exact c_neS | ((with_reducible apply e_var); exact rfl) | ((with_reducible apply e_glb); exact rfl) | ((with_reducible apply x_tup); exact rfl) | ((with_reducible apply x_lst); exact rfl) | with_reducible apply a_cons | with_reducible apply e_bin | with_reducible apply e_un | with_reducible apply e_idx | with_reducible apply e_call | with_reducible apply e_blt | with_reducible apply e_cmp | with_reducible apply e_slc | with_reducible apply e_frz | with_reducible apply e_one | with_reducible apply e_not | with_reducible apply t_cmp | with_reducible apply t_not | with_reducible apply t_one | with_reducible apply t_ex | with_reducible apply o_cons | with_reducible apply g_tup | with_reducible apply gs_cons | with_reducible apply g_sub | with_reducible apply e_tupS | with_reducible apply e_dspS | ((with_reducible apply LS_mk); exact rfl) | with_reducible refine' t_and ?_ (fun _ => ?_) | with_reducible refine' t_or ?_ (fun _ => ?_) | with_reducible refine' e_and ?_ (fun _ => ?_) | with_reducible refine' e_or ?_ (fun _ => ?_) | ((with_reducible apply b_powL); decide) | ((with_reducible apply b_pow); decide) | ((with_reducible apply b_fdiv); decide) | ((with_reducible apply b_mod); decide) | ((with_reducible apply b_mul); decide) | ((with_reducible apply b_mul); with_reducible assumption) | ((with_reducible apply b_fdiv); with_reducible assumption) | with_reducible apply b_mul | with_reducible apply b_fdiv | with_reducible apply b_mod | with_reducible apply b_shr | with_reducible apply b_cat | with_reducible apply l_str))) rfl rfl (fun h => by simp at h) (fun _ => ?_)
  refine' s_if (by ((repeat' (first | ((with_reducible apply notInts); exact rfl; exact Nat.le_refl _) | ((with_reducible apply c_ne); exact rfl; exact rfl) | with_reducible exact l_abs | with_reducible exact l_int | with_reducible exact l_intB | with_reducible exact l_lenT | with_reducible exact l_lenL | with_reducible exact l_lenS | with_reducible exact l_tupL | with_reducible exact l_tupT | with_reducible exact l_max | with_reducible exact l_min | with_reducible exact l_listT | with_reducible exact l_listL | with_reducible exact v_slcT | with_reducible exact l_isTT | with_reducible exact l_isII | with_reducible exact l_isBI | with_reducible exact l_isBB | with_reducible exact l_isSS | with_reducible exact l_isLL | with_reducible exact z_bl | with_reducible exact z_int | with_reducible exact v_slcL | with_reducible exact v_slcS | with_reducible exact e_int | with_reducible exact e_bl | with_reducible exact e_str | with_reducible exact e_non | with_reducible exact a_nil | with_reducible exact o_nil | with_reducible exact g_name | with_reducible exact gs_nil | with_reducible exact b_add | with_reducible exact b_sub | with_reducible exact u_neg | with_reducible exact c_lt | with_reducible exact c_le | with_reducible exact c_gt | with_reducible exact c_ge | with_reducible exact c_eqI | with_reducible exact c_neI | with_reducible exact c_eqS | with_reducible exact c_neS | ((with_reducible apply e_var); exact rfl) | ((with_reducible apply e_glb); exact rfl) | ((with_reducible apply x_tup); exact rfl) | ((with_reducible apply x_lst); exact rfl) | with_reducible apply a_cons | with_reducible apply e_bin | with_reducible apply e_un | with_reducible apply e_idx | with_reducible apply e_call | with_reducible apply e_blt | with_reducible apply e_cmp | with_reducible apply e_slc | with_reducible apply e_frz | with_reducible apply e_one | with_reducible apply e_not | with_reducible apply t_cmp | with_reducible apply t_not | with_reducible apply t_one | with_reducible apply t_ex | with_reducible apply o_cons | with_reducible apply g_tup | with_reducible apply gs_cons | with_reducible apply g_sub | with_reducible apply e_tupS | with_reducible apply e_dspS | ((with_reducible apply LS_mk); exact rfl) | with_reducible refine' t_and ?_ (fun _ => ?_) | with_reducible refine' t_or ?_ (fun _ => ?_) | with_reducible refine' e_and ?_ (fun _ => ?_) | with_reducible refine' e_or ?_ (fun _ => ?_) | ((with_reducible apply b_powL); decide) | ((with_reducible apply b_pow); decide) | ((with_reducible apply b_fdiv); decide) | ((with_reducible apply b_mod); decide) | ((with_reducible apply b_mul); decide) | ((with_reducible apply b_mul); with_reducible assumption) | ((with_reducible apply b_fdiv); with_reducible assumption) | with_reducible apply b_mul | with_reducible apply b_fdiv | with_reducible apply b_mod | with_reducible apply b_shr | with_reducible apply b_cat | with_reducible apply l_str)))) rfl rfl (fun z => ?_) (fun _ => ?_)
  · have h1 := h.pos
    simp [drf, eqD, eqL] at z
    omega
  · have h2 : Int.gcd p q = 1 := h.co
    have e : (.bl true : D) = .bl (((Int.gcd p q : Nat) : Int) == 1) := by rw [h2]; rfl
    rw [e]
    refine s_ret ?_
    (repeat' (first | with_reducible apply c1 | with_reducible exact l_abs | with_reducible exact l_int | with_reducible exact l_intB | with_reducible exact l_lenT | with_reducible exact l_lenL | with_reducible exact l_lenS | with_reducible exact l_tupL | with_reducible exact l_tupT | with_reducible exact l_max | with_reducible exact l_min | with_reducible exact l_listT | with_reducible exact l_listL | with_reducible exact v_slcT | with_reducible exact l_isTT | with_reducible exact l_isII | with_reducible exact l_isBI | with_reducible exact l_isBB | with_reducible exact l_isSS | with_reducible exact l_isLL | with_reducible exact z_bl | with_reducible exact z_int | with_reducible exact v_slcL | with_reducible exact v_slcS | with_reducible exact e_int | with_reducible exact e_bl | with_reducible exact e_str | with_reducible exact e_non | with_reducible exact a_nil | with_reducible exact o_nil | with_reducible exact g_name | with_reducible exact gs_nil | with_reducible exact b_add | with_reducible exact b_sub | with_reducible exact u_neg | with_reducible exact c_lt | with_reducible exact c_le | with_reducible exact c_gt | with_reducible exact c_ge | with_reducible exact c_eqI | with_reducible exact c_neI | with_reducible exact c_eqS | with_reducible exact c_neS | ((with_reducible apply e_var); exact rfl) | ((with_reducible apply e_glb); exact rfl) | ((with_reducible apply x_tup); exact rfl) | ((with_reducible apply x_lst); exact rfl) | with_reducible apply a_cons | with_reducible apply e_bin | with_reducible apply e_un | with_reducible apply e_idx | with_reducible apply e_call | with_reducible apply e_blt | with_reducible apply e_cmp | with_reducible apply e_slc | with_reducible apply e_frz | with_reducible apply e_one | with_reducible apply e_not | with_reducible apply t_cmp | with_reducible apply t_not | with_reducible apply t_one | with_reducible apply t_ex | with_reducible apply o_cons | with_reducible apply g_tup | with_reducible apply gs_cons | with_reducible apply g_sub | with_reducible apply e_tupS | with_reducible apply e_dspS | ((with_reducible apply LS_mk); exact rfl) | with_reducible refine' t_and ?_ (fun _ => ?_) | with_reducible refine' t_or ?_ (fun _ => ?_) | with_reducible refine' e_and ?_ (fun _ => ?_) | with_reducible refine' e_or ?_ (fun _ => ?_) | ((with_reducible apply b_powL); decide) | ((with_reducible apply b_pow); decide) | ((with_reducible apply b_fdiv); decide) | ((with_reducible apply b_mod); decide) | ((with_reducible apply b_mul); decide) | ((with_reducible apply b_mul); with_reducible assumption) | ((with_reducible apply b_fdiv); with_reducible assumption) | with_reducible apply b_mul | with_reducible apply b_fdiv | with_reducible apply b_mod | with_reducible apply b_shr | with_reducible apply b_cat | with_reducible apply l_str))
theorem sp_number (hi : fs[i]? = some (T_law_number v)) (hv : fs[v]? = some T_law_stir) (c j : Int) (hc : Sz 1048577 c) (hj : 0 ≤ j) (hj2 : j < 900) : ∃ v, run gs fs (k + 2) i [.int c, .int j] st = some (.int v, st) ∧ Sz 400 v := by
  have w : ∃ d, run gs fs (k + 2) i [.int c, .int j] st = some (d, st) ∧ ∃ v, d = .int v ∧ Sz 400 v := by
    have c0 := fun (j : Int) (h : 0 ≤ j) (h' : j < 1000) => sp_stir (gs := gs) k st hv c j hc h h'
    have c1 := c0 j hj (by omega)
    have c2 := c0 (j + 1) (by omega) (by omega)
    have c3 := c0 (j + 2) (by omega) (by omega)
    have c4 := c0 (j + 3) (by omega) (by omega)
    refine run_wp (T_law_number v) hi rfl _ ?_
    refine' w_asg (by (repeat' (first | with_reducible apply c1 | with_reducible exact l_abs | with_reducible exact l_int | with_reducible exact l_intB | with_reducible exact l_lenT | with_reducible exact l_lenL | with_reducible exact l_lenS | with_reducible exact l_tupL | with_reducible exact l_tupT | with_reducible exact l_max | with_reducible exact l_min | with_reducible exact l_listT | with_reducible exact l_listL | with_reducible exact v_slcT | with_reducible exact l_isTT | with_reducible exact l_isII | with_reducible exact l_isBI | with_reducible exact l_isBB | with_reducible exact l_isSS | with_reducible exact l_isLL | with_reducible exact z_bl | with_reducible exact z_int | with_reducible exact v_slcL | with_reducible exact v_slcS | with_reducible exact e_int | with_reducible exact e_bl | with_reducible exact e_str | with_reducible exact e_non | with_reducible exact a_nil | with_reducible exact o_nil | with_reducible exact g_name | with_reducible exact gs_nil | with_reducible exact b_add | with_reducible exact b_sub | with_reducible exact u_neg | with_reducible exact c_lt | with_reducible exact c_le | with_reducible exact c_gt | with_reducible exact c_ge | with_reducible exact c_eqI | with_reducible exact c_neI | with_reducible exact c_eqS | with_reducible exact c_neS | ((with_reducible apply e_var); exact rfl) | ((with_reducible apply e_glb); exact rfl) | ((with_reducible apply x_tup); exact rfl) | ((with_reducible apply x_lst); exact rfl) | with_reducible apply a_cons | with_reducible apply e_bin | with_reducible apply e_un | with_reducible apply e_idx | with_reducible apply e_call | with_reducible apply e_blt | with_reducible apply e_cmp | with_reducible apply e_slc | with_reducible apply e_frz | with_reducible apply e_one | with_reducible apply e_not | with_reducible apply t_cmp | with_reducible apply t_not | with_reducible apply t_one | with_reducible apply t_ex | with_reducible apply o_cons | with_reducible apply g_tup | with_reducible apply gs_cons | with_reducible apply g_sub | with_reducible apply e_tupS | with_reducible apply e_dspS | ((with_reducible apply LS_mk); exact rfl) | with_reducible refine' t_and ?_ (fun _ => ?_) | with_reducible refine' t_or ?_ (fun _ => ?_) | with_reducible refine' e_and ?_ (fun _ => ?_) | with_reducible refine' e_or ?_ (fun _ => ?_) | ((with_reducible apply b_powL); decide) | ((with_reducible apply b_pow); decide) | ((with_reducible apply b_fdiv); decide) | ((with_reducible apply b_mod); decide) | ((with_reducible apply b_mul); decide) | ((with_reducible apply b_mul); with_reducible assumption) | ((with_reducible apply b_fdiv); with_reducible assumption) | with_reducible apply b_mul | with_reducible apply b_fdiv | with_reducible apply b_mod | with_reducible apply b_shr | with_reducible apply b_cat | with_reducible apply l_str))) ?_
    refine' w_asg (by ((repeat' (first | with_reducible apply c2 | with_reducible apply c3 | with_reducible apply c4 | with_reducible exact l_abs | with_reducible exact l_int | with_reducible exact l_intB | with_reducible exact l_lenT | with_reducible exact l_lenL | with_reducible exact l_lenS | with_reducible exact l_tupL | with_reducible exact l_tupT | with_reducible exact l_max | with_reducible exact l_min | with_reducible exact l_listT | with_reducible exact l_listL | with_reducible exact v_slcT | with_reducible exact l_isTT | with_reducible exact l_isII | with_reducible exact l_isBI | with_reducible exact l_isBB | with_reducible exact l_isSS | with_reducible exact l_isLL | with_reducible exact z_bl | with_reducible exact z_int | with_reducible exact v_slcL | with_reducible exact v_slcS | with_reducible exact e_int | with_reducible exact e_bl | with_reducible exact e_str | with_reducible exact e_non | with_reducible exact a_nil | with_reducible exact o_nil | with_reducible exact g_name | with_reducible exact gs_nil | with_reducible exact b_add | with_reducible exact b_sub | with_reducible exact u_neg | with_reducible exact c_lt | with_reducible exact c_le | with_reducible exact c_gt | with_reducible exact c_ge | with_reducible exact c_eqI | with_reducible exact c_neI | with_reducible exact c_eqS | with_reducible exact c_neS | ((with_reducible apply e_var); exact rfl) | ((with_reducible apply e_glb); exact rfl) | ((with_reducible apply x_tup); exact rfl) | ((with_reducible apply x_lst); exact rfl) | with_reducible apply a_cons | with_reducible apply e_bin | with_reducible apply e_un | with_reducible apply e_idx | with_reducible apply e_call | with_reducible apply e_blt | with_reducible apply e_cmp | with_reducible apply e_slc | with_reducible apply e_frz | with_reducible apply e_one | with_reducible apply e_not | with_reducible apply t_cmp | with_reducible apply t_not | with_reducible apply t_one | with_reducible apply t_ex | with_reducible apply o_cons | with_reducible apply g_tup | with_reducible apply gs_cons | with_reducible apply g_sub | with_reducible apply e_tupS | with_reducible apply e_dspS | ((with_reducible apply LS_mk); exact rfl) | with_reducible refine' t_and ?_ (fun _ => ?_) | with_reducible refine' t_or ?_ (fun _ => ?_) | with_reducible refine' e_and ?_ (fun _ => ?_) | with_reducible refine' e_or ?_ (fun _ => ?_) | ((with_reducible apply b_powL); decide) | ((with_reducible apply b_pow); decide) | ((with_reducible apply b_fdiv); decide) | ((with_reducible apply b_mod); decide) | ((with_reducible apply b_mul); decide) | ((with_reducible apply b_mul); with_reducible assumption) | ((with_reducible apply b_fdiv); with_reducible assumption) | with_reducible apply b_mul | with_reducible apply b_fdiv | with_reducible apply b_mod | with_reducible apply b_shr | with_reducible apply b_cat | with_reducible apply l_str))); all_goals exact mulOk_sz (stir_sz _ _) (Sz.lit (by decide)) (by decide)) ?_
    refine w_asgX (fun d => ∃ v, d = .int v ∧ Sz 300 v) ?_ ?_
    · refine' e_idxMod (m := 6) (by ((repeat' (first | with_reducible exact l_abs | with_reducible exact l_int | with_reducible exact l_intB | with_reducible exact l_lenT | with_reducible exact l_lenL | with_reducible exact l_lenS | with_reducible exact l_tupL | with_reducible exact l_tupT | with_reducible exact l_max | with_reducible exact l_min | with_reducible exact l_listT | with_reducible exact l_listL | with_reducible exact v_slcT | with_reducible exact l_isTT | with_reducible exact l_isII | with_reducible exact l_isBI | with_reducible exact l_isBB | with_reducible exact l_isSS | with_reducible exact l_isLL | with_reducible exact z_bl | with_reducible exact z_int | with_reducible exact v_slcL | with_reducible exact v_slcS | with_reducible exact e_int | with_reducible exact e_bl | with_reducible exact e_str | with_reducible exact e_non | with_reducible exact a_nil | with_reducible exact o_nil | with_reducible exact g_name | with_reducible exact gs_nil | with_reducible exact b_add | with_reducible exact b_sub | with_reducible exact u_neg | with_reducible exact c_lt | with_reducible exact c_le | with_reducible exact c_gt | with_reducible exact c_ge | with_reducible exact c_eqI | with_reducible exact c_neI | with_reducible exact c_eqS | with_reducible exact c_neS | ((with_reducible apply e_var); exact rfl) | ((with_reducible apply e_glb); exact rfl) | ((with_reducible apply x_tup); exact rfl) | ((with_reducible apply x_lst); exact rfl) | with_reducible apply a_cons | with_reducible apply e_bin | with_reducible apply e_un | with_reducible apply e_idx | with_reducible apply e_call | with_reducible apply e_blt | with_reducible apply e_cmp | with_reducible apply e_slc | with_reducible apply e_frz | with_reducible apply e_one | with_reducible apply e_not | with_reducible apply t_cmp | with_reducible apply t_not | with_reducible apply t_one | with_reducible apply t_ex | with_reducible apply o_cons | with_reducible apply g_tup | with_reducible apply gs_cons | with_reducible apply g_sub | with_reducible apply e_tupS | with_reducible apply e_dspS | ((with_reducible apply LS_mk); exact rfl) | with_reducible refine' t_and ?_ (fun _ => ?_) | with_reducible refine' t_or ?_ (fun _ => ?_) | with_reducible refine' e_and ?_ (fun _ => ?_) | with_reducible refine' e_or ?_ (fun _ => ?_) | ((with_reducible apply b_powL); decide) | ((with_reducible apply b_pow); decide) | ((with_reducible apply b_fdiv); decide) | ((with_reducible apply b_mod); decide) | ((with_reducible apply b_mul); decide) | ((with_reducible apply b_mul); with_reducible assumption) | ((with_reducible apply b_fdiv); with_reducible assumption) | with_reducible apply b_mul | with_reducible apply b_fdiv | with_reducible apply b_mod | with_reducible apply b_shr | with_reducible apply b_cat | with_reducible apply l_str))); exact mulOk_sz (n := 400) (by (apply Sz.mono; (focus (repeat' (first | with_reducible assumption | exact stir_sz _ _ | exact Sz.lit (by decide) | exact Sz.fmodL (by decide) (by decide) | with_reducible apply Sz.mul | with_reducible apply Sz.add | with_reducible apply Sz.sub | with_reducible apply Sz.neg))); decide)) (Sz.lit (by decide)) (by decide)) (by (repeat' (first | with_reducible exact l_abs | with_reducible exact l_int | with_reducible exact l_intB | with_reducible exact l_lenT | with_reducible exact l_lenL | with_reducible exact l_lenS | with_reducible exact l_tupL | with_reducible exact l_tupT | with_reducible exact l_max | with_reducible exact l_min | with_reducible exact l_listT | with_reducible exact l_listL | with_reducible exact v_slcT | with_reducible exact l_isTT | with_reducible exact l_isII | with_reducible exact l_isBI | with_reducible exact l_isBB | with_reducible exact l_isSS | with_reducible exact l_isLL | with_reducible exact z_bl | with_reducible exact z_int | with_reducible exact v_slcL | with_reducible exact v_slcS | with_reducible exact e_int | with_reducible exact e_bl | with_reducible exact e_str | with_reducible exact e_non | with_reducible exact a_nil | with_reducible exact o_nil | with_reducible exact g_name | with_reducible exact gs_nil | with_reducible exact b_add | with_reducible exact b_sub | with_reducible exact u_neg | with_reducible exact c_lt | with_reducible exact c_le | with_reducible exact c_gt | with_reducible exact c_ge | with_reducible exact c_eqI | with_reducible exact c_neI | with_reducible exact c_eqS | with_reducible exact c_neS | ((with_reducible apply e_var); exact rfl) | ((with_reducible apply e_glb); exact rfl) | ((with_reducible apply x_tup); exact rfl) | ((with_reducible apply x_lst); exact rfl) | with_reducible apply a_cons | with_reducible apply e_bin | with_reducible apply e_un | with_reducible apply e_idx | with_reducible apply e_call | with_reducible apply e_blt | with_reducible apply e_cmp | with_reducible apply e_slc | with_reducible apply e_frz | with_reducible apply e_one | with_reducible apply e_not | with_reducible apply t_cmp | with_reducible apply t_not | with_reducible apply t_one | with_reducible apply t_ex | with_reducible apply o_cons | with_reducible apply g_tup | with_reducible apply gs_cons | with_reducible apply g_sub | with_reducible apply e_tupS | with_reducible apply e_dspS | ((with_reducible apply LS_mk); exact rfl) | with_reducible refine' t_and ?_ (fun _ => ?_) | with_reducible refine' t_or ?_ (fun _ => ?_) | with_reducible refine' e_and ?_ (fun _ => ?_) | with_reducible refine' e_or ?_ (fun _ => ?_) | ((with_reducible apply b_powL); decide) | ((with_reducible apply b_pow); decide) | ((with_reducible apply b_fdiv); decide) | ((with_reducible apply b_mod); decide) | ((with_reducible apply b_mul); decide) | ((with_reducible apply b_mul); with_reducible assumption) | ((with_reducible apply b_fdiv); with_reducible assumption) | with_reducible apply b_mul | with_reducible apply b_fdiv | with_reducible apply b_mod | with_reducible apply b_shr | with_reducible apply b_cat | with_reducible apply l_str))) (by decide) rfl (fun d h2 => ?_)
      simp only [List.mem_cons, List.not_mem_nil, or_false] at h2
      rcases h2 with rfl | rfl | rfl | rfl | rfl | rfl <;> refine ⟨_, rfl, ?_⟩
      · (apply Sz.mono; (focus (repeat' (first | with_reducible assumption | exact stir_sz _ _ | exact Sz.lit (by decide) | exact Sz.fmodL (by decide) (by decide) | with_reducible apply Sz.mul | with_reducible apply Sz.add | with_reducible apply Sz.sub | with_reducible apply Sz.neg))); decide)
      · (apply Sz.mono; (focus (repeat' (first | with_reducible assumption | exact stir_sz _ _ | exact Sz.lit (by decide) | exact Sz.fmodL (by decide) (by decide) | with_reducible apply Sz.mul | with_reducible apply Sz.add | with_reducible apply Sz.sub | with_reducible apply Sz.neg))); decide)
      · exact (Sz.fdiv (stir_sz _ _) (by decide)).mono (by decide)
      · (apply Sz.mono; (focus (repeat' (first | with_reducible assumption | exact stir_sz _ _ | exact Sz.lit (by decide) | exact Sz.fmodL (by decide) (by decide) | with_reducible apply Sz.mul | with_reducible apply Sz.add | with_reducible apply Sz.sub | with_reducible apply Sz.neg))); decide)
      · (apply Sz.mono; (focus (repeat' (first | with_reducible assumption | exact stir_sz _ _ | exact Sz.lit (by decide) | exact Sz.fmodL (by decide) (by decide) | with_reducible apply Sz.mul | with_reducible apply Sz.add | with_reducible apply Sz.sub | with_reducible apply Sz.neg))); decide)
      · (apply Sz.mono; (focus (repeat' (first | with_reducible assumption | exact stir_sz _ _ | exact Sz.lit (by decide) | exact Sz.fmodL (by decide) (by decide) | with_reducible apply Sz.mul | with_reducible apply Sz.add | with_reducible apply Sz.sub | with_reducible apply Sz.neg))); decide)
    · rintro d ⟨v, rfl, hv⟩
      have b2 := fmod2_bd ((stir c j).fdiv 6)
      have s2 : Sz 2 (1 - ((stir c j).fdiv 6).fmod 2 * 2) := by unfold Sz; omega
      refine' w_ret (by ((repeat' (first | with_reducible exact l_abs | with_reducible exact l_int | with_reducible exact l_intB | with_reducible exact l_lenT | with_reducible exact l_lenL | with_reducible exact l_lenS | with_reducible exact l_tupL | with_reducible exact l_tupT | with_reducible exact l_max | with_reducible exact l_min | with_reducible exact l_listT | with_reducible exact l_listL | with_reducible exact v_slcT | with_reducible exact l_isTT | with_reducible exact l_isII | with_reducible exact l_isBI | with_reducible exact l_isBB | with_reducible exact l_isSS | with_reducible exact l_isLL | with_reducible exact z_bl | with_reducible exact z_int | with_reducible exact v_slcL | with_reducible exact v_slcS | with_reducible exact e_int | with_reducible exact e_bl | with_reducible exact e_str | with_reducible exact e_non | with_reducible exact a_nil | with_reducible exact o_nil | with_reducible exact g_name | with_reducible exact gs_nil | with_reducible exact b_add | with_reducible exact b_sub | with_reducible exact u_neg | with_reducible exact c_lt | with_reducible exact c_le | with_reducible exact c_gt | with_reducible exact c_ge | with_reducible exact c_eqI | with_reducible exact c_neI | with_reducible exact c_eqS | with_reducible exact c_neS | ((with_reducible apply e_var); exact rfl) | ((with_reducible apply e_glb); exact rfl) | ((with_reducible apply x_tup); exact rfl) | ((with_reducible apply x_lst); exact rfl) | with_reducible apply a_cons | with_reducible apply e_bin | with_reducible apply e_un | with_reducible apply e_idx | with_reducible apply e_call | with_reducible apply e_blt | with_reducible apply e_cmp | with_reducible apply e_slc | with_reducible apply e_frz | with_reducible apply e_one | with_reducible apply e_not | with_reducible apply t_cmp | with_reducible apply t_not | with_reducible apply t_one | with_reducible apply t_ex | with_reducible apply o_cons | with_reducible apply g_tup | with_reducible apply gs_cons | with_reducible apply g_sub | with_reducible apply e_tupS | with_reducible apply e_dspS | ((with_reducible apply LS_mk); exact rfl) | with_reducible refine' t_and ?_ (fun _ => ?_) | with_reducible refine' t_or ?_ (fun _ => ?_) | with_reducible refine' e_and ?_ (fun _ => ?_) | with_reducible refine' e_or ?_ (fun _ => ?_) | ((with_reducible apply b_powL); decide) | ((with_reducible apply b_pow); decide) | ((with_reducible apply b_fdiv); decide) | ((with_reducible apply b_mod); decide) | ((with_reducible apply b_mul); decide) | ((with_reducible apply b_mul); with_reducible assumption) | ((with_reducible apply b_fdiv); with_reducible assumption) | with_reducible apply b_mul | with_reducible apply b_fdiv | with_reducible apply b_mod | with_reducible apply b_shr | with_reducible apply b_cat | with_reducible apply l_str))); all_goals first | exact mulOk_sz (Sz.fmodL (by decide) (by decide)) (Sz.lit (by decide)) (by decide) | exact mulOk_sz hv s2 (by decide)) ⟨rfl, _, rfl, ?_⟩
      exact (hv.mul s2).mono (by decide)
  obtain ⟨d, h1, v, rfl, h2⟩ := w
  exact ⟨v, h1, h2⟩
/-! fractions in the program -/
def isFr (N : Nat) (d : D) : Prop := ∃ p q, d = .tup [.int p, .int q] ∧ Red (p, q) ∧ Sz N p ∧ Sz N q
theorem sp_plus (hi : fs[i]? = some (T_plus u)) (hu : fs[u]? = some (T_make v)) (hv : fs[v]? = some T_divisor) (a b c d : Int) (h : b ≠ 0) (h' : d ≠ 0) {m : Nat} (hm : m ≤ 3000) (sa : Sz m a) (sb : Sz m b) (sc : Sz m c) (sd : Sz m d) :
    run gs fs (k + 3) i [.tup [.int a, .int b], .tup [.int c, .int d]] st = some (encF (mkF (a * d + c * b) (b * d)), st) := by
  have c1 := sp_make (gs := gs) k st hu hv (a * d + c * b) (b * d) (Int.mul_ne_zero h h') ((sb.mul sd).mono (by omega))
  refine run_rt (T_plus u) hi rfl ?_
  refine s_ret ?_
  (repeat' (first | with_reducible apply c1 | with_reducible exact l_abs | with_reducible exact l_int | with_reducible exact l_intB | with_reducible exact l_lenT | with_reducible exact l_lenL | with_reducible exact l_lenS | with_reducible exact l_tupL | with_reducible exact l_tupT | with_reducible exact l_max | with_reducible exact l_min | with_reducible exact l_listT | with_reducible exact l_listL | with_reducible exact v_slcT | with_reducible exact l_isTT | with_reducible exact l_isII | with_reducible exact l_isBI | with_reducible exact l_isBB | with_reducible exact l_isSS | with_reducible exact l_isLL | with_reducible exact z_bl | with_reducible exact z_int | with_reducible exact v_slcL | with_reducible exact v_slcS | with_reducible exact e_int | with_reducible exact e_bl | with_reducible exact e_str | with_reducible exact e_non | with_reducible exact a_nil | with_reducible exact o_nil | with_reducible exact g_name | with_reducible exact gs_nil | with_reducible exact b_add | with_reducible exact b_sub | with_reducible exact u_neg | with_reducible exact c_lt | with_reducible exact c_le | with_reducible exact c_gt | with_reducible exact c_ge | with_reducible exact c_eqI | with_reducible exact c_neI | with_reducible exact c_eqS | with_reducible exact c_neS | ((with_reducible apply e_var); exact rfl) | ((with_reducible apply e_glb); exact rfl) | ((with_reducible apply x_tup); exact rfl) | ((with_reducible apply x_lst); exact rfl) | with_reducible apply a_cons | with_reducible apply e_bin | with_reducible apply e_un | with_reducible apply e_idx | with_reducible apply e_call | with_reducible apply e_blt | with_reducible apply e_cmp | with_reducible apply e_slc | with_reducible apply e_frz | with_reducible apply e_one | with_reducible apply e_not | with_reducible apply t_cmp | with_reducible apply t_not | with_reducible apply t_one | with_reducible apply t_ex | with_reducible apply o_cons | with_reducible apply g_tup | with_reducible apply gs_cons | with_reducible apply g_sub | with_reducible apply e_tupS | with_reducible apply e_dspS | ((with_reducible apply LS_mk); exact rfl) | with_reducible refine' t_and ?_ (fun _ => ?_) | with_reducible refine' t_or ?_ (fun _ => ?_) | with_reducible refine' e_and ?_ (fun _ => ?_) | with_reducible refine' e_or ?_ (fun _ => ?_) | ((with_reducible apply b_powL); decide) | ((with_reducible apply b_pow); decide) | ((with_reducible apply b_fdiv); decide) | ((with_reducible apply b_mod); decide) | ((with_reducible apply b_mul); decide) | ((with_reducible apply b_mul); with_reducible assumption) | ((with_reducible apply b_fdiv); with_reducible assumption) | with_reducible apply b_mul | with_reducible apply b_fdiv | with_reducible apply b_mod | with_reducible apply b_shr | with_reducible apply b_cat | with_reducible apply l_str))
  all_goals first | exact mulOk_sz sa sd (by omega) | exact mulOk_sz sc sb (by omega) | exact mulOk_sz sb sd (by omega)
theorem sp_minus (hi : fs[i]? = some (T_minus u)) (hu : fs[u]? = some (T_make v)) (hv : fs[v]? = some T_divisor) (a b c d : Int) (h : b ≠ 0) (h' : d ≠ 0) {m : Nat} (hm : m ≤ 3000) (sa : Sz m a) (sb : Sz m b) (sc : Sz m c) (sd : Sz m d) :
    run gs fs (k + 3) i [.tup [.int a, .int b], .tup [.int c, .int d]] st = some (encF (mkF (a * d - c * b) (b * d)), st) := by
  have c1 := sp_make (gs := gs) k st hu hv (a * d - c * b) (b * d) (Int.mul_ne_zero h h') ((sb.mul sd).mono (by omega))
  refine run_rt (T_minus u) hi rfl ?_
  refine s_ret ?_
  (repeat' (first | with_reducible apply c1 | with_reducible exact l_abs | with_reducible exact l_int | with_reducible exact l_intB | with_reducible exact l_lenT | with_reducible exact l_lenL | with_reducible exact l_lenS | with_reducible exact l_tupL | with_reducible exact l_tupT | with_reducible exact l_max | with_reducible exact l_min | with_reducible exact l_listT | with_reducible exact l_listL | with_reducible exact v_slcT | with_reducible exact l_isTT | with_reducible exact l_isII | with_reducible exact l_isBI | with_reducible exact l_isBB | with_reducible exact l_isSS | with_reducible exact l_isLL | with_reducible exact z_bl | with_reducible exact z_int | with_reducible exact v_slcL | with_reducible exact v_slcS | with_reducible exact e_int | with_reducible exact e_bl | with_reducible exact e_str | with_reducible exact e_non | with_reducible exact a_nil | with_reducible exact o_nil | with_reducible exact g_name | with_reducible exact gs_nil | with_reducible exact b_add | with_reducible exact b_sub | with_reducible exact u_neg | with_reducible exact c_lt | with_reducible exact c_le | with_reducible exact c_gt | with_reducible exact c_ge | with_reducible exact c_eqI | with_reducible exact c_neI | with_reducible exact c_eqS | with_reducible exact c_neS | ((with_reducible apply e_var); exact rfl) | ((with_reducible apply e_glb); exact rfl) | ((with_reducible apply x_tup); exact rfl) | ((with_reducible apply x_lst); exact rfl) | with_reducible apply a_cons | with_reducible apply e_bin | with_reducible apply e_un | with_reducible apply e_idx | with_reducible apply e_call | with_reducible apply e_blt | with_reducible apply e_cmp | with_reducible apply e_slc | with_reducible apply e_frz | with_reducible apply e_one | with_reducible apply e_not | with_reducible apply t_cmp | with_reducible apply t_not | with_reducible apply t_one | with_reducible apply t_ex | with_reducible apply o_cons | with_reducible apply g_tup | with_reducible apply gs_cons | with_reducible apply g_sub | with_reducible apply e_tupS | with_reducible apply e_dspS | ((with_reducible apply LS_mk); exact rfl) | with_reducible refine' t_and ?_ (fun _ => ?_) | with_reducible refine' t_or ?_ (fun _ => ?_) | with_reducible refine' e_and ?_ (fun _ => ?_) | with_reducible refine' e_or ?_ (fun _ => ?_) | ((with_reducible apply b_powL); decide) | ((with_reducible apply b_pow); decide) | ((with_reducible apply b_fdiv); decide) | ((with_reducible apply b_mod); decide) | ((with_reducible apply b_mul); decide) | ((with_reducible apply b_mul); with_reducible assumption) | ((with_reducible apply b_fdiv); with_reducible assumption) | with_reducible apply b_mul | with_reducible apply b_fdiv | with_reducible apply b_mod | with_reducible apply b_shr | with_reducible apply b_cat | with_reducible apply l_str))
  all_goals first | exact mulOk_sz sa sd (by omega) | exact mulOk_sz sc sb (by omega) | exact mulOk_sz sb sd (by omega)
theorem sp_times (hi : fs[i]? = some (T_times u)) (hu : fs[u]? = some (T_make v)) (hv : fs[v]? = some T_divisor) (a b c d : Int) (h : b ≠ 0) (h' : d ≠ 0) {m : Nat} (hm : m ≤ 3000) (sa : Sz m a) (sb : Sz m b) (sc : Sz m c) (sd : Sz m d) :
    run gs fs (k + 3) i [.tup [.int a, .int b], .tup [.int c, .int d]] st = some (encF (mkF (a * c) (b * d)), st) := by
  have c1 := sp_make (gs := gs) k st hu hv (a * c) (b * d) (Int.mul_ne_zero h h') ((sb.mul sd).mono (by omega))
  refine run_rt (T_times u) hi rfl ?_
  refine s_ret ?_
  (repeat' (first | with_reducible apply c1 | with_reducible exact l_abs | with_reducible exact l_int | with_reducible exact l_intB | with_reducible exact l_lenT | with_reducible exact l_lenL | with_reducible exact l_lenS | with_reducible exact l_tupL | with_reducible exact l_tupT | with_reducible exact l_max | with_reducible exact l_min | with_reducible exact l_listT | with_reducible exact l_listL | with_reducible exact v_slcT | with_reducible exact l_isTT | with_reducible exact l_isII | with_reducible exact l_isBI | with_reducible exact l_isBB | with_reducible exact l_isSS | with_reducible exact l_isLL | with_reducible exact z_bl | with_reducible exact z_int | with_reducible exact v_slcL | with_reducible exact v_slcS | with_reducible exact e_int | with_reducible exact e_bl | with_reducible exact e_str | with_reducible exact e_non | with_reducible exact a_nil | with_reducible exact o_nil | with_reducible exact g_name | with_reducible exact gs_nil | with_reducible exact b_add | with_reducible exact b_sub | with_reducible exact u_neg | with_reducible exact c_lt | with_reducible exact c_le | with_reducible exact c_gt | with_reducible exact c_ge | with_reducible exact c_eqI | with_reducible exact c_neI | with_reducible exact c_eqS | with_reducible exact c_neS | ((with_reducible apply e_var); exact rfl) | ((with_reducible apply e_glb); exact rfl) | ((with_reducible apply x_tup); exact rfl) | ((with_reducible apply x_lst); exact rfl) | with_reducible apply a_cons | with_reducible apply e_bin | with_reducible apply e_un | with_reducible apply e_idx | with_reducible apply e_call | with_reducible apply e_blt | with_reducible apply e_cmp | with_reducible apply e_slc | with_reducible apply e_frz | with_reducible apply e_one | with_reducible apply e_not | with_reducible apply t_cmp | with_reducible apply t_not | with_reducible apply t_one | with_reducible apply t_ex | with_reducible apply o_cons | with_reducible apply g_tup | with_reducible apply gs_cons | with_reducible apply g_sub | with_reducible apply e_tupS | with_reducible apply e_dspS | ((with_reducible apply LS_mk); exact rfl) | with_reducible refine' t_and ?_ (fun _ => ?_) | with_reducible refine' t_or ?_ (fun _ => ?_) | with_reducible refine' e_and ?_ (fun _ => ?_) | with_reducible refine' e_or ?_ (fun _ => ?_) | ((with_reducible apply b_powL); decide) | ((with_reducible apply b_pow); decide) | ((with_reducible apply b_fdiv); decide) | ((with_reducible apply b_mod); decide) | ((with_reducible apply b_mul); decide) | ((with_reducible apply b_mul); with_reducible assumption) | ((with_reducible apply b_fdiv); with_reducible assumption) | with_reducible apply b_mul | with_reducible apply b_fdiv | with_reducible apply b_mod | with_reducible apply b_shr | with_reducible apply b_cat | with_reducible apply l_str))
  all_goals first | exact mulOk_sz sa sc (by omega) | exact mulOk_sz sb sd (by omega)
theorem sp_over (hi : fs[i]? = some (T_over u)) (hu : fs[u]? = some (T_make v)) (hv : fs[v]? = some T_divisor) (a b c d : Int) (h : b ≠ 0) (h' : c ≠ 0) {m : Nat} (hm : m ≤ 3000) (sa : Sz m a) (sb : Sz m b) (sc : Sz m c) (sd : Sz m d) :
    run gs fs (k + 3) i [.tup [.int a, .int b], .tup [.int c, .int d]] st = some (encF (mkF (a * d) (b * c)), st) := by
  have c1 := sp_make (gs := gs) k st hu hv (a * d) (b * c) (Int.mul_ne_zero h h') ((sb.mul sc).mono (by omega))
  refine run_rt (T_over u) hi rfl ?_
  refine s_ret ?_
  (repeat' (first | with_reducible apply c1 | with_reducible exact l_abs | with_reducible exact l_int | with_reducible exact l_intB | with_reducible exact l_lenT | with_reducible exact l_lenL | with_reducible exact l_lenS | with_reducible exact l_tupL | with_reducible exact l_tupT | with_reducible exact l_max | with_reducible exact l_min | with_reducible exact l_listT | with_reducible exact l_listL | with_reducible exact v_slcT | with_reducible exact l_isTT | with_reducible exact l_isII | with_reducible exact l_isBI | with_reducible exact l_isBB | with_reducible exact l_isSS | with_reducible exact l_isLL | with_reducible exact z_bl | with_reducible exact z_int | with_reducible exact v_slcL | with_reducible exact v_slcS | with_reducible exact e_int | with_reducible exact e_bl | with_reducible exact e_str | with_reducible exact e_non | with_reducible exact a_nil | with_reducible exact o_nil | with_reducible exact g_name | with_reducible exact gs_nil | with_reducible exact b_add | with_reducible exact b_sub | with_reducible exact u_neg | with_reducible exact c_lt | with_reducible exact c_le | with_reducible exact c_gt | with_reducible exact c_ge | with_reducible exact c_eqI | with_reducible exact c_neI | with_reducible exact c_eqS | with_reducible exact c_neS | ((with_reducible apply e_var); exact rfl) | ((with_reducible apply e_glb); exact rfl) | ((with_reducible apply x_tup); exact rfl) | ((with_reducible apply x_lst); exact rfl) | with_reducible apply a_cons | with_reducible apply e_bin | with_reducible apply e_un | with_reducible apply e_idx | with_reducible apply e_call | with_reducible apply e_blt | with_reducible apply e_cmp | with_reducible apply e_slc | with_reducible apply e_frz | with_reducible apply e_one | with_reducible apply e_not | with_reducible apply t_cmp | with_reducible apply t_not | with_reducible apply t_one | with_reducible apply t_ex | with_reducible apply o_cons | with_reducible apply g_tup | with_reducible apply gs_cons | with_reducible apply g_sub | with_reducible apply e_tupS | with_reducible apply e_dspS | ((with_reducible apply LS_mk); exact rfl) | with_reducible refine' t_and ?_ (fun _ => ?_) | with_reducible refine' t_or ?_ (fun _ => ?_) | with_reducible refine' e_and ?_ (fun _ => ?_) | with_reducible refine' e_or ?_ (fun _ => ?_) | ((with_reducible apply b_powL); decide) | ((with_reducible apply b_pow); decide) | ((with_reducible apply b_fdiv); decide) | ((with_reducible apply b_mod); decide) | ((with_reducible apply b_mul); decide) | ((with_reducible apply b_mul); with_reducible assumption) | ((with_reducible apply b_fdiv); with_reducible assumption) | with_reducible apply b_mul | with_reducible apply b_fdiv | with_reducible apply b_mod | with_reducible apply b_shr | with_reducible apply b_cat | with_reducible apply l_str))
  all_goals first | exact mulOk_sz sa sd (by omega) | exact mulOk_sz sb sc (by omega)
theorem sp_below (hi : fs[i]? = some T_below) (a b c d : Int) {m : Nat} (hm : m ≤ 3000) (sa : Sz m a) (sb : Sz m b) (sc : Sz m c) (sd : Sz m d) :
    run gs fs (k + 1) i [.tup [.int a, .int b], .tup [.int c, .int d]] st = some (.bl (decide (a * d < c * b)), st) := by
  refine run_rt T_below hi rfl ?_
  refine s_ret ?_
  (repeat' (first | with_reducible exact l_abs | with_reducible exact l_int | with_reducible exact l_intB | with_reducible exact l_lenT | with_reducible exact l_lenL | with_reducible exact l_lenS | with_reducible exact l_tupL | with_reducible exact l_tupT | with_reducible exact l_max | with_reducible exact l_min | with_reducible exact l_listT | with_reducible exact l_listL | with_reducible exact v_slcT | with_reducible exact l_isTT | with_reducible exact l_isII | with_reducible exact l_isBI | with_reducible exact l_isBB | with_reducible exact l_isSS | with_reducible exact l_isLL | with_reducible exact z_bl | with_reducible exact z_int | with_reducible exact v_slcL | with_reducible exact v_slcS | with_reducible exact e_int | with_reducible exact e_bl | with_reducible exact e_str | with_reducible exact e_non | with_reducible exact a_nil | with_reducible exact o_nil | with_reducible exact g_name | with_reducible exact gs_nil | with_reducible exact b_add | with_reducible exact b_sub | with_reducible exact u_neg | with_reducible exact c_lt | with_reducible exact c_le | with_reducible exact c_gt | with_reducible exact c_ge | with_reducible exact c_eqI | with_reducible exact c_neI | with_reducible exact c_eqS | with_reducible exact c_neS | ((with_reducible apply e_var); exact rfl) | ((with_reducible apply e_glb); exact rfl) | ((with_reducible apply x_tup); exact rfl) | ((with_reducible apply x_lst); exact rfl) | with_reducible apply a_cons | with_reducible apply e_bin | with_reducible apply e_un | with_reducible apply e_idx | with_reducible apply e_call | with_reducible apply e_blt | with_reducible apply e_cmp | with_reducible apply e_slc | with_reducible apply e_frz | with_reducible apply e_one | with_reducible apply e_not | with_reducible apply t_cmp | with_reducible apply t_not | with_reducible apply t_one | with_reducible apply t_ex | with_reducible apply o_cons | with_reducible apply g_tup | with_reducible apply gs_cons | with_reducible apply g_sub | with_reducible apply e_tupS | with_reducible apply e_dspS | ((with_reducible apply LS_mk); exact rfl) | with_reducible refine' t_and ?_ (fun _ => ?_) | with_reducible refine' t_or ?_ (fun _ => ?_) | with_reducible refine' e_and ?_ (fun _ => ?_) | with_reducible refine' e_or ?_ (fun _ => ?_) | ((with_reducible apply b_powL); decide) | ((with_reducible apply b_pow); decide) | ((with_reducible apply b_fdiv); decide) | ((with_reducible apply b_mod); decide) | ((with_reducible apply b_mul); decide) | ((with_reducible apply b_mul); with_reducible assumption) | ((with_reducible apply b_fdiv); with_reducible assumption) | with_reducible apply b_mul | with_reducible apply b_fdiv | with_reducible apply b_mod | with_reducible apply b_shr | with_reducible apply b_cat | with_reducible apply l_str))
  all_goals first | exact mulOk_sz sa sd (by omega) | exact mulOk_sz sc sb (by omega)
theorem sp_fraction (hi : fs[i]? = some (T_law_fraction u v t)) {w : Nat} (hu : fs[u]? = some (T_law_number v)) (hv : fs[v]? = some T_law_stir) (ht : fs[t]? = some (T_law_least w)) (hw : fs[w]? = some T_divisor) (c j : Int) (hc : Sz 1048577 c) (hj : 0 ≤ j) (hj2 : j < 800) :
    ∃ d, run gs fs (k + 3) i [.int c, .int j] st = some (d, st) ∧ isFr 400 d := by
  obtain ⟨n, hn, sn⟩ := sp_number (gs := gs) k st hu hv c j hc hj (by omega)
  obtain ⟨m, hm, sm⟩ := sp_number (gs := gs) k st hu hv c (j + 10) hc (by omega) (by omega)
  have c1 := sp_stir (gs := gs) (k + 1) st hv c (j + 19) hc (by omega) (by omega)
  refine run_wp (T_law_fraction u v t) hi rfl _ ?_
  refine' w_asg (by (repeat' (first | with_reducible apply hm | with_reducible exact l_abs | with_reducible exact l_int | with_reducible exact l_intB | with_reducible exact l_lenT | with_reducible exact l_lenL | with_reducible exact l_lenS | with_reducible exact l_tupL | with_reducible exact l_tupT | with_reducible exact l_max | with_reducible exact l_min | with_reducible exact l_listT | with_reducible exact l_listL | with_reducible exact v_slcT | with_reducible exact l_isTT | with_reducible exact l_isII | with_reducible exact l_isBI | with_reducible exact l_isBB | with_reducible exact l_isSS | with_reducible exact l_isLL | with_reducible exact z_bl | with_reducible exact z_int | with_reducible exact v_slcL | with_reducible exact v_slcS | with_reducible exact e_int | with_reducible exact e_bl | with_reducible exact e_str | with_reducible exact e_non | with_reducible exact a_nil | with_reducible exact o_nil | with_reducible exact g_name | with_reducible exact gs_nil | with_reducible exact b_add | with_reducible exact b_sub | with_reducible exact u_neg | with_reducible exact c_lt | with_reducible exact c_le | with_reducible exact c_gt | with_reducible exact c_ge | with_reducible exact c_eqI | with_reducible exact c_neI | with_reducible exact c_eqS | with_reducible exact c_neS | ((with_reducible apply e_var); exact rfl) | ((with_reducible apply e_glb); exact rfl) | ((with_reducible apply x_tup); exact rfl) | ((with_reducible apply x_lst); exact rfl) | with_reducible apply a_cons | with_reducible apply e_bin | with_reducible apply e_un | with_reducible apply e_idx | with_reducible apply e_call | with_reducible apply e_blt | with_reducible apply e_cmp | with_reducible apply e_slc | with_reducible apply e_frz | with_reducible apply e_one | with_reducible apply e_not | with_reducible apply t_cmp | with_reducible apply t_not | with_reducible apply t_one | with_reducible apply t_ex | with_reducible apply o_cons | with_reducible apply g_tup | with_reducible apply gs_cons | with_reducible apply g_sub | with_reducible apply e_tupS | with_reducible apply e_dspS | ((with_reducible apply LS_mk); exact rfl) | with_reducible refine' t_and ?_ (fun _ => ?_) | with_reducible refine' t_or ?_ (fun _ => ?_) | with_reducible refine' e_and ?_ (fun _ => ?_) | with_reducible refine' e_or ?_ (fun _ => ?_) | ((with_reducible apply b_powL); decide) | ((with_reducible apply b_pow); decide) | ((with_reducible apply b_fdiv); decide) | ((with_reducible apply b_mod); decide) | ((with_reducible apply b_mul); decide) | ((with_reducible apply b_mul); with_reducible assumption) | ((with_reducible apply b_fdiv); with_reducible assumption) | with_reducible apply b_mul | with_reducible apply b_fdiv | with_reducible apply b_mod | with_reducible apply b_shr | with_reducible apply b_cat | with_reducible apply l_str))) ?_
  have sa : Sz 400 (if m < 0 then -m else m) := by unfold Sz at *; split <;> omega
  refine' w_ifR (fun σ st' => st' = st ∧ ∃ d, σ = [some (.int c), some (.int j), some (.int d)] ∧ d ≠ 0 ∧ Sz 400 d) (by (repeat' (first | with_reducible apply c1 | with_reducible exact l_abs | with_reducible exact l_int | with_reducible exact l_intB | with_reducible exact l_lenT | with_reducible exact l_lenL | with_reducible exact l_lenS | with_reducible exact l_tupL | with_reducible exact l_tupT | with_reducible exact l_max | with_reducible exact l_min | with_reducible exact l_listT | with_reducible exact l_listL | with_reducible exact v_slcT | with_reducible exact l_isTT | with_reducible exact l_isII | with_reducible exact l_isBI | with_reducible exact l_isBB | with_reducible exact l_isSS | with_reducible exact l_isLL | with_reducible exact z_bl | with_reducible exact z_int | with_reducible exact v_slcL | with_reducible exact v_slcS | with_reducible exact e_int | with_reducible exact e_bl | with_reducible exact e_str | with_reducible exact e_non | with_reducible exact a_nil | with_reducible exact o_nil | with_reducible exact g_name | with_reducible exact gs_nil | with_reducible exact b_add | with_reducible exact b_sub | with_reducible exact u_neg | with_reducible exact c_lt | with_reducible exact c_le | with_reducible exact c_gt | with_reducible exact c_ge | with_reducible exact c_eqI | with_reducible exact c_neI | with_reducible exact c_eqS | with_reducible exact c_neS | ((with_reducible apply e_var); exact rfl) | ((with_reducible apply e_glb); exact rfl) | ((with_reducible apply x_tup); exact rfl) | ((with_reducible apply x_lst); exact rfl) | with_reducible apply a_cons | with_reducible apply e_bin | with_reducible apply e_un | with_reducible apply e_idx | with_reducible apply e_call | with_reducible apply e_blt | with_reducible apply e_cmp | with_reducible apply e_slc | with_reducible apply e_frz | with_reducible apply e_one | with_reducible apply e_not | with_reducible apply t_cmp | with_reducible apply t_not | with_reducible apply t_one | with_reducible apply t_ex | with_reducible apply o_cons | with_reducible apply g_tup | with_reducible apply gs_cons | with_reducible apply g_sub | with_reducible apply e_tupS | with_reducible apply e_dspS | ((with_reducible apply LS_mk); exact rfl) | with_reducible refine' t_and ?_ (fun _ => ?_) | with_reducible refine' t_or ?_ (fun _ => ?_) | with_reducible refine' e_and ?_ (fun _ => ?_) | with_reducible refine' e_or ?_ (fun _ => ?_) | ((with_reducible apply b_powL); decide) | ((with_reducible apply b_pow); decide) | ((with_reducible apply b_fdiv); decide) | ((with_reducible apply b_mod); decide) | ((with_reducible apply b_mul); decide) | ((with_reducible apply b_mul); with_reducible assumption) | ((with_reducible apply b_fdiv); with_reducible assumption) | with_reducible apply b_mul | with_reducible apply b_fdiv | with_reducible apply b_mod | with_reducible apply b_shr | with_reducible apply b_cat | with_reducible apply l_str))) rfl rfl (fun _ => ?_) (fun h => ?_) ?_
  · refine' w_asg (by (repeat' (first | with_reducible exact l_abs | with_reducible exact l_int | with_reducible exact l_intB | with_reducible exact l_lenT | with_reducible exact l_lenL | with_reducible exact l_lenS | with_reducible exact l_tupL | with_reducible exact l_tupT | with_reducible exact l_max | with_reducible exact l_min | with_reducible exact l_listT | with_reducible exact l_listL | with_reducible exact v_slcT | with_reducible exact l_isTT | with_reducible exact l_isII | with_reducible exact l_isBI | with_reducible exact l_isBB | with_reducible exact l_isSS | with_reducible exact l_isLL | with_reducible exact z_bl | with_reducible exact z_int | with_reducible exact v_slcL | with_reducible exact v_slcS | with_reducible exact e_int | with_reducible exact e_bl | with_reducible exact e_str | with_reducible exact e_non | with_reducible exact a_nil | with_reducible exact o_nil | with_reducible exact g_name | with_reducible exact gs_nil | with_reducible exact b_add | with_reducible exact b_sub | with_reducible exact u_neg | with_reducible exact c_lt | with_reducible exact c_le | with_reducible exact c_gt | with_reducible exact c_ge | with_reducible exact c_eqI | with_reducible exact c_neI | with_reducible exact c_eqS | with_reducible exact c_neS | ((with_reducible apply e_var); exact rfl) | ((with_reducible apply e_glb); exact rfl) | ((with_reducible apply x_tup); exact rfl) | ((with_reducible apply x_lst); exact rfl) | with_reducible apply a_cons | with_reducible apply e_bin | with_reducible apply e_un | with_reducible apply e_idx | with_reducible apply e_call | with_reducible apply e_blt | with_reducible apply e_cmp | with_reducible apply e_slc | with_reducible apply e_frz | with_reducible apply e_one | with_reducible apply e_not | with_reducible apply t_cmp | with_reducible apply t_not | with_reducible apply t_one | with_reducible apply t_ex | with_reducible apply o_cons | with_reducible apply g_tup | with_reducible apply gs_cons | with_reducible apply g_sub | with_reducible apply e_tupS | with_reducible apply e_dspS | ((with_reducible apply LS_mk); exact rfl) | with_reducible refine' t_and ?_ (fun _ => ?_) | with_reducible refine' t_or ?_ (fun _ => ?_) | with_reducible refine' e_and ?_ (fun _ => ?_) | with_reducible refine' e_or ?_ (fun _ => ?_) | ((with_reducible apply b_powL); decide) | ((with_reducible apply b_pow); decide) | ((with_reducible apply b_fdiv); decide) | ((with_reducible apply b_mod); decide) | ((with_reducible apply b_mul); decide) | ((with_reducible apply b_mul); with_reducible assumption) | ((with_reducible apply b_fdiv); with_reducible assumption) | with_reducible apply b_mul | with_reducible apply b_fdiv | with_reducible apply b_mod | with_reducible apply b_shr | with_reducible apply b_cat | with_reducible apply l_str))) (w_nil ⟨rfl, _, rfl, by decide, (Sz.lit (by decide)).mono (by decide)⟩)
  · refine w_nil ⟨rfl, _, rfl, ?_, sa⟩
    simp only [Bool.or_eq_false_iff, beq_eq_false_iff_ne] at h
    exact h.1
  · rintro σ st' ⟨rfl, d, rfl, d0, sd⟩
    have c2 := sp_least (gs := gs) k st' ht hw n d d0 (sd.mono (by decide))
    refine' w_ret (by (repeat' (first | with_reducible apply hn | with_reducible apply c2 | with_reducible exact l_abs | with_reducible exact l_int | with_reducible exact l_intB | with_reducible exact l_lenT | with_reducible exact l_lenL | with_reducible exact l_lenS | with_reducible exact l_tupL | with_reducible exact l_tupT | with_reducible exact l_max | with_reducible exact l_min | with_reducible exact l_listT | with_reducible exact l_listL | with_reducible exact v_slcT | with_reducible exact l_isTT | with_reducible exact l_isII | with_reducible exact l_isBI | with_reducible exact l_isBB | with_reducible exact l_isSS | with_reducible exact l_isLL | with_reducible exact z_bl | with_reducible exact z_int | with_reducible exact v_slcL | with_reducible exact v_slcS | with_reducible exact e_int | with_reducible exact e_bl | with_reducible exact e_str | with_reducible exact e_non | with_reducible exact a_nil | with_reducible exact o_nil | with_reducible exact g_name | with_reducible exact gs_nil | with_reducible exact b_add | with_reducible exact b_sub | with_reducible exact u_neg | with_reducible exact c_lt | with_reducible exact c_le | with_reducible exact c_gt | with_reducible exact c_ge | with_reducible exact c_eqI | with_reducible exact c_neI | with_reducible exact c_eqS | with_reducible exact c_neS | ((with_reducible apply e_var); exact rfl) | ((with_reducible apply e_glb); exact rfl) | ((with_reducible apply x_tup); exact rfl) | ((with_reducible apply x_lst); exact rfl) | with_reducible apply a_cons | with_reducible apply e_bin | with_reducible apply e_un | with_reducible apply e_idx | with_reducible apply e_call | with_reducible apply e_blt | with_reducible apply e_cmp | with_reducible apply e_slc | with_reducible apply e_frz | with_reducible apply e_one | with_reducible apply e_not | with_reducible apply t_cmp | with_reducible apply t_not | with_reducible apply t_one | with_reducible apply t_ex | with_reducible apply o_cons | with_reducible apply g_tup | with_reducible apply gs_cons | with_reducible apply g_sub | with_reducible apply e_tupS | with_reducible apply e_dspS | ((with_reducible apply LS_mk); exact rfl) | with_reducible refine' t_and ?_ (fun _ => ?_) | with_reducible refine' t_or ?_ (fun _ => ?_) | with_reducible refine' e_and ?_ (fun _ => ?_) | with_reducible refine' e_or ?_ (fun _ => ?_) | ((with_reducible apply b_powL); decide) | ((with_reducible apply b_pow); decide) | ((with_reducible apply b_fdiv); decide) | ((with_reducible apply b_mod); decide) | ((with_reducible apply b_mul); decide) | ((with_reducible apply b_mul); with_reducible assumption) | ((with_reducible apply b_fdiv); with_reducible assumption) | with_reducible apply b_mul | with_reducible apply b_fdiv | with_reducible apply b_mod | with_reducible apply b_shr | with_reducible apply b_cat | with_reducible apply l_str))) ⟨rfl, (mkF n d).1, (mkF n d).2, rfl, mkF_red d0, ?_⟩
    exact mkF_sz d0 sn sd
theorem sp_same (hi : fs[i]? = some (T_law_same v)) (hv : fs[v]? = some (T_law_is_fraction u)) (hu : fs[u]? = some T_divisor) (p q n d : Int) (h : Red (p, q)) {m : Nat} (hm : m ≤ 8000) (sp : Sz m p) (sq : Sz m q) (sn : Sz m n) (sd : Sz m d) :
    run gs fs (k + 3) i [.tup [.int p, .int q], .int n, .int d] st = some (.bl (p * d == q * n), st) := by
  have c1 := sp_isf (gs := gs) k st hv hu p q h
  refine run_rt (T_law_same v) hi rfl ?_
  have e : (.bl (p * d == q * n) : D) = .bl (true && (p * d == q * n)) := rfl
  rw [e]
  refine s_ret ?_
  (repeat' (first | with_reducible apply c1 | with_reducible exact l_abs | with_reducible exact l_int | with_reducible exact l_intB | with_reducible exact l_lenT | with_reducible exact l_lenL | with_reducible exact l_lenS | with_reducible exact l_tupL | with_reducible exact l_tupT | with_reducible exact l_max | with_reducible exact l_min | with_reducible exact l_listT | with_reducible exact l_listL | with_reducible exact v_slcT | with_reducible exact l_isTT | with_reducible exact l_isII | with_reducible exact l_isBI | with_reducible exact l_isBB | with_reducible exact l_isSS | with_reducible exact l_isLL | with_reducible exact z_bl | with_reducible exact z_int | with_reducible exact v_slcL | with_reducible exact v_slcS | with_reducible exact e_int | with_reducible exact e_bl | with_reducible exact e_str | with_reducible exact e_non | with_reducible exact a_nil | with_reducible exact o_nil | with_reducible exact g_name | with_reducible exact gs_nil | with_reducible exact b_add | with_reducible exact b_sub | with_reducible exact u_neg | with_reducible exact c_lt | with_reducible exact c_le | with_reducible exact c_gt | with_reducible exact c_ge | with_reducible exact c_eqI | with_reducible exact c_neI | with_reducible exact c_eqS | with_reducible exact c_neS | ((with_reducible apply e_var); exact rfl) | ((with_reducible apply e_glb); exact rfl) | ((with_reducible apply x_tup); exact rfl) | ((with_reducible apply x_lst); exact rfl) | with_reducible apply a_cons | with_reducible apply e_bin | with_reducible apply e_un | with_reducible apply e_idx | with_reducible apply e_call | with_reducible apply e_blt | with_reducible apply e_cmp | with_reducible apply e_slc | with_reducible apply e_frz | with_reducible apply e_one | with_reducible apply e_not | with_reducible apply t_cmp | with_reducible apply t_not | with_reducible apply t_one | with_reducible apply t_ex | with_reducible apply o_cons | with_reducible apply g_tup | with_reducible apply gs_cons | with_reducible apply g_sub | with_reducible apply e_tupS | with_reducible apply e_dspS | ((with_reducible apply LS_mk); exact rfl) | with_reducible refine' t_and ?_ (fun _ => ?_) | with_reducible refine' t_or ?_ (fun _ => ?_) | with_reducible refine' e_and ?_ (fun _ => ?_) | with_reducible refine' e_or ?_ (fun _ => ?_) | ((with_reducible apply b_powL); decide) | ((with_reducible apply b_pow); decide) | ((with_reducible apply b_fdiv); decide) | ((with_reducible apply b_mod); decide) | ((with_reducible apply b_mul); decide) | ((with_reducible apply b_mul); with_reducible assumption) | ((with_reducible apply b_fdiv); with_reducible assumption) | with_reducible apply b_mul | with_reducible apply b_fdiv | with_reducible apply b_mod | with_reducible apply b_shr | with_reducible apply b_cat | with_reducible apply l_str))
  all_goals first | exact mulOk_sz sp sd (by omega) | exact mulOk_sz sq sn (by omega)
end
end Jd


namespace Jd
open PySem PySem.Spec PyProof.Rows L2

/-! ### fractions as numbers -/
def qv (p : Int × Int) : Rat := (p.1 : Rat) / (p.2 : Rat)
theorem cast_ne {d : Int} (h : d ≠ 0) : (d : Rat) ≠ 0 := fun z => h (by exact_mod_cast z)
theorem cast_pos {d : Int} (h : 0 < d) : (0 : Rat) < (d : Rat) := by exact_mod_cast h
theorem qv_mk {n d : Int} (h : d ≠ 0) : qv (mkF n d) = (n : Rat) / (d : Rat) := by
  have r := mkF_ratio (n := n) h
  have p := cast_ne (show (mkF n d).2 ≠ 0 by have := (mkF_red (n := n) h).pos; omega)
  have q := cast_ne h
  have r' : ((mkF n d).1 : Rat) * (d : Rat) = ((mkF n d).2 : Rat) * (n : Rat) := by exact_mod_cast r
  unfold qv
  grind
theorem qv_lt {a b : Int × Int} (ha : 0 < a.2) (hb : 0 < b.2) : a.1 * b.2 < b.1 * a.2 ↔ qv a < qv b := by
  have p := cast_pos ha
  have q := cast_pos hb
  unfold qv
  rw [Rat.div_lt_iff p]
  have e : (b.1 : Rat) / (b.2 : Rat) * (a.2 : Rat) = ((b.1 : Rat) * (a.2 : Rat)) / (b.2 : Rat) := by
    have := cast_ne (show b.2 ≠ 0 by omega)
    grind
  rw [e, Rat.lt_div_iff q]
  constructor
  · intro h; exact_mod_cast h
  · intro h; exact_mod_cast h
theorem qv_eq {a b : Int × Int} (ha : Red a) (hb : Red b) : a = b ↔ qv a = qv b := by
  constructor
  · intro h; rw [h]
  · intro h
    refine red_uniq ha hb ?_
    have p := cast_ne (show a.2 ≠ 0 by have := ha.pos; omega)
    have q := cast_ne (show b.2 ≠ 0 by have := hb.pos; omega)
    unfold qv at h
    have : (a.1 : Rat) * (b.2 : Rat) = (b.1 : Rat) * (a.2 : Rat) := by grind
    exact_mod_cast this
theorem qv_plus {a b c d : Int} (hb : b ≠ 0) (hd : d ≠ 0) : qv (mkF (a * d + c * b) (b * d)) = qv (a, b) + qv (c, d) := by
  rw [qv_mk (Int.mul_ne_zero hb hd)]
  have p := cast_ne hb
  have q := cast_ne hd
  unfold qv
  simp only [Rat.intCast_add, Rat.intCast_mul]
  grind
theorem qv_minus {a b c d : Int} (hb : b ≠ 0) (hd : d ≠ 0) : qv (mkF (a * d - c * b) (b * d)) = qv (a, b) - qv (c, d) := by
  rw [qv_mk (Int.mul_ne_zero hb hd)]
  have p := cast_ne hb
  have q := cast_ne hd
  unfold qv
  simp only [Rat.intCast_sub, Rat.intCast_mul]
  grind
theorem qv_times {a b c d : Int} (hb : b ≠ 0) (hd : d ≠ 0) : qv (mkF (a * c) (b * d)) = qv (a, b) * qv (c, d) := by
  rw [qv_mk (Int.mul_ne_zero hb hd)]
  have p := cast_ne hb
  have q := cast_ne hd
  unfold qv
  simp only [Rat.intCast_mul]
  grind
theorem qv_over {a b c d : Int} (hb : b ≠ 0) (hc : c ≠ 0) (hd : d ≠ 0) : qv (mkF (a * d) (b * c)) = qv (a, b) / qv (c, d) := by
  rw [qv_mk (Int.mul_ne_zero hb hc)]
  have p := cast_ne hb
  have q := cast_ne hc
  have r := cast_ne hd
  unfold qv
  simp only [Rat.intCast_mul]
  grind
end Jd

namespace Jd
open PySem PySem.Spec PyProof.Rows L2
/-! ### defs that change a cell -/
/-- _law_cell_at: 0 script, 1 k -/
abbrev T_law_cell_at : Fn := ⟨2, 2, (.cons (.ifs (.cmp .lt (.var 1) (.blt .len false (.cons (.var 0) .nil))) (.cons (.ret (.idx (.var 0) (.var 1))) .nil) .nil) (.cons (.ret (.kint 0)) .nil))⟩
/-- _law_reel: 0 cell -/
abbrev T_law_reel : Fn := ⟨1, 1, (.cons (.ret (.dsp true (.cons (.blt .abs false (.cons (.var 0) .nil)) (.cons (.bin .mod false (.bin .mul false (.bin .add false (.bin .mod false (.var 0) (.kint 2147483647)) (.kint 1)) (.kint 742938285)) (.kint 2147483647)) .nil)))) .nil)⟩
/-- _law_take: 0 reel, 1 many, 2 stir, 3 found -/
abbrev T_law_take : Fn := ⟨2, 4, (.cons (.ifs (.cmp .ge (.idx (.var 0) (.kint 0)) (.bin .pow false (.kint 10) (.kint 18))) (.cons (.asg (.tN 3) (.bin .mod false (.idx (.var 0) (.kint 0)) (.var 1))) (.cons (.asg (.tS (.var 0) (.kint 0)) (.bin .fdiv false (.idx (.var 0) (.kint 0)) (.var 1))) (.cons (.ret (.var 3)) .nil))) .nil) (.cons (.asg (.tS (.var 0) (.kint 1)) (.bin .mod false (.bin .add false (.bin .mul false (.idx (.var 0) (.kint 1)) (.kint 48271)) (.kint 11)) (.kint 2147483647))) (.cons (.asg (.tN 2) (.bin .mod false (.bin .mul false (.idx (.var 0) (.kint 1)) (.idx (.var 0) (.kint 1))) (.kint 2147483629))) (.cons (.ret (.bin .mod false (.bin .fdiv false (.bin .mod false (.bin .mul false (.var 2) (.kint 69621)) (.kint 2147483587)) (.kint 8)) (.var 1))) .nil))))⟩
/-- _law_make: 0 n, 1 d, 2 one, 3 other -/
abbrev T_law_makeR : Fn := ⟨2, 4, (.cons (.asg (.tN 2) (.blt .abs false (.cons (.var 0) .nil))) (.cons (.asg (.tN 3) (.var 1)) (.cons (.whl (.cmp .ne (.var 3) (.kint 0)) (.cons (.par 2 3 (.var 3) (.bin .mod false (.var 2) (.var 3))) .nil)) (.cons (.ret (.tup (.cons (.bin .fdiv false (.var 0) (.var 2)) (.cons (.bin .fdiv false (.var 1) (.var 2)) .nil)))) .nil))))⟩
/-- _law_plus: 0 a, 1 b -/
abbrev T_law_plus (i__law_make : Nat) : Fn := ⟨2, 2, (.cons (.ret (.call i__law_make (.cons (.bin .add false (.bin .mul false (.idx (.var 0) (.kint 0)) (.idx (.var 1) (.kint 1))) (.bin .mul false (.idx (.var 1) (.kint 0)) (.idx (.var 0) (.kint 1)))) (.cons (.bin .mul false (.idx (.var 0) (.kint 1)) (.idx (.var 1) (.kint 1))) .nil)))) .nil)⟩
/-- _law_times: 0 a, 1 b -/
abbrev T_law_times (i__law_make : Nat) : Fn := ⟨2, 2, (.cons (.ret (.call i__law_make (.cons (.bin .mul false (.idx (.var 0) (.kint 0)) (.idx (.var 1) (.kint 0))) (.cons (.bin .mul false (.idx (.var 0) (.kint 1)) (.idx (.var 1) (.kint 1))) .nil)))) .nil)⟩
/-- _law_fraction: 0 reel, 1 great, 2 way, 3 number -/
abbrev T_law_fractionR (i__law_take i__law_make : Nat) : Fn := ⟨2, 4, (.cons (.asg (.tN 2) (.call i__law_take (.cons (.var 0) (.cons (.kint 8) .nil)))) (.cons (.ifs (.cmp .lt (.var 2) (.kint 4)) (.cons (.ret (.tup (.cons (.bin .sub false (.call i__law_take (.cons (.var 0) (.cons (.kint 7) .nil))) (.kint 3)) (.cons (.kint 1) .nil)))) .nil) .nil) (.cons (.ifs (.cmp .eq (.var 2) (.kint 4)) (.cons (.ret (.tup (.cons (.kint 0) (.cons (.kint 1) .nil)))) .nil) .nil) (.cons (.ifs (.and (.cmp .eq (.var 2) (.kint 7)) (.one (.ex (.var 1)))) (.cons (.asg (.tN 3) (.bin .mul false (.call i__law_take (.cons (.var 0) (.cons (.bin .pow false (.kint 10) (.kint 30)) .nil))) (.idx (.dsp false (.cons (.kint 1) (.cons (.un .neg (.kint 1)) .nil))) (.call i__law_take (.cons (.var 0) (.cons (.kint 2) .nil)))))) (.cons (.ret (.call i__law_make (.cons (.var 3) (.cons (.bin .add false (.kint 1) (.call i__law_take (.cons (.var 0) (.cons (.bin .pow false (.kint 10) (.kint 29)) .nil)))) .nil)))) .nil)) .nil) (.cons (.ret (.call i__law_make (.cons (.bin .sub false (.call i__law_take (.cons (.var 0) (.cons (.kint 41) .nil))) (.kint 20)) (.cons (.bin .add false (.kint 1) (.call i__law_take (.cons (.var 0) (.cons (.kint 12) .nil)))) .nil)))) .nil)))))⟩
/-- _law_line: 0 reel, 1 many, 2 great, 3 kind, 4 parts, 5 k -/
abbrev T_law_line (i__law_take i__law_fraction : Nat) : Fn := ⟨3, 6, (.cons (.asg (.tN 3) (.idx (.dsp false (.cons (.kstr "<=") (.cons (.kstr "<") (.cons (.kstr "<=") (.cons (.kstr "=") (.cons (.kstr "<") .nil)))))) (.call i__law_take (.cons (.var 0) (.cons (.kint 5) .nil))))) (.cons (.asg (.tN 4) (.blt .tuple false (.cons (.lcp false [5] (.tN 5) (.iR1 (.var 1)) .nil (.call i__law_fraction (.cons (.var 0) (.cons (.var 2) .nil)))) .nil))) (.cons (.ret (.tup (.cons (.var 3) (.cons (.var 4) (.cons (.call i__law_fraction (.cons (.var 0) (.cons (.var 2) .nil))) .nil))))) .nil)))⟩
section
variable {gs : List D} {cs : Nat → List D → Sto → Option (D × Sto)} {σ : En} {st st1 : Sto} {n j : Nat} {k : Int} {y d : D} {zs xs : List D}
theorem k_set (h : st[n]? = some ⟨.mut, zs⟩) (hy : y.pure = true) (hj : ixN zs.length k = some j) : gSet (.ref n) (.int k) y st = some (st.set n ⟨.mut, zs.set j y⟩) := by
  simp only [gSet, h, hy, if_true, hj, Option.map_some]
theorem k_set0 {x0 x1 : D} (h : st[n]? = some ⟨.mut, [x0, x1]⟩) (hy : y.pure = true) : gSet (.ref n) (.int 0) y st = some (st.set n ⟨.mut, [y, x1]⟩) := k_set (j := 0) h hy rfl
theorem k_set1 {x0 x1 : D} (h : st[n]? = some ⟨.mut, [x0, x1]⟩) (hy : y.pure = true) : gSet (.ref n) (.int 1) y st = some (st.set n ⟨.mut, [x0, y]⟩) := k_set (j := 1) h hy rfl
theorem set_self {c : Cell} (h : st[n]? = some c) (c' : Cell) : (st.set n c')[n]? = some c' := List.getElem?_set_self (by
  rw [List.getElem?_eq_some_iff] at h
  exact h.1)
theorem lcS_inv {xs : List D} {tg : D → En → Sto → Option (En × Sto)} {t : En → Sto → Option (Bool × Sto)} {e : En → Sto → Option (D × Sto)} {σ : En} (P : Nat → List D → Sto → Prop) (step : ∀ i x ys st, xs[i]? = some x → P i ys st → ∃ σ1 st1 y st2, tg x σ st = some (σ1, st1) ∧ t σ1 st1 = some (true, st1) ∧ e σ1 st1 = some (y, st2) ∧ P (i + 1) (ys ++ [y]) st2) :
    ∀ (n i : Nat) (ys0 : List D) (st : Sto), i + n = xs.length → P i ys0 st → ∃ ys st', lcS (.its xs) tg t e σ n i st = some (ys, st') ∧ P xs.length (ys0 ++ ys) st'
  | 0, i, ys0, st, hn, h => by
    have hi : xs[i]? = none := List.getElem?_eq_none (by omega)
    refine ⟨[], st, ?_, by rw [List.append_nil, show xs.length = i by omega]; exact h⟩
    rw [lcS.eq_def]
    simp only
    rw [srcAt_its, hi]
    try rfl
  | n + 1, i, ys0, st, hn, h => by
    have hi : xs[i]? = some xs[i] := List.getElem?_eq_getElem (by omega)
    obtain ⟨σ1, st1, y, st2, e1, e2, e3, p⟩ := step i _ ys0 st hi h
    obtain ⟨ys, st', e4, q⟩ := lcS_inv P step n (i + 1) (ys0 ++ [y]) st2 (by omega) p
    refine ⟨y :: ys, st', ?_, by rw [List.append_assoc] at q; exact q⟩
    rw [lcS.eq_def]
    simp only
    rw [srcAt_its, hi]
    simp only
    rw [e1]
    simp only
    rw [e2]
    simp only
    rw [e3]
    simp only
    rw [e4]
theorem lcS_its' {xs : List D} {tg : D → En → Sto → Option (En × Sto)} {t : En → Sto → Option (Bool × Sto)} {e : En → Sto → Option (D × Sto)} {σ : En} {st : Sto} (P : Nat → List D → Sto → Prop) (h0 : P 0 [] st) (step : ∀ i x ys st, xs[i]? = some x → P i ys st → ∃ σ1 st1 y st2, tg x σ st = some (σ1, st1) ∧ t σ1 st1 = some (true, st1) ∧ e σ1 st1 = some (y, st2) ∧ P (i + 1) (ys ++ [y]) st2) :
    ∃ ys st', lcS (.its xs) tg t e σ (srcLen (.its xs) st) 0 st = some (ys, st') ∧ P xs.length ys st' := lcS_inv P step _ 0 [] st (by simp [srcLen]) h0
theorem t_nil : evT gs cs .nil σ st = some (true, st) := rfl
end
section
variable {gs : List D} {fs : List Fn} {k f : Nat} {ds : List D} {st st' : Sto} {d : D}
theorem run_rtS (g : Fn) (hg : fs[f]? = some g) (hn : ds.length = g.np) (h : exS gs (run gs fs k) g.body (ds.map some ++ List.replicate (g.nn - ds.length) none) st = some (.rt d, st')) (hl : st'.length = st.length) : run gs fs (k + 1) f ds st = some (d, st') := by
  rw [run_eq g hg hn, h]
  simp only [endF]
  rw [← hl, List.take_length]
  split <;> rfl
/-- .. from its wish -/
theorem run_wpL (g : Fn) (hg : fs[f]? = some g) (hn : ds.length = g.np) (P : D → Sto → Prop) (h : Wp (fun fl st' => match fl with
    | .rt d => st'.length = st.length ∧ P d st'
    | .nx _ => st'.length = st.length ∧ P .non st'
    | _ => False) (exS gs (run gs fs k) g.body (ds.map some ++ List.replicate (g.nn - ds.length) none) st)) : ∃ d st', run gs fs (k + 1) f ds st = some (d, st') ∧ P d st' := by
  obtain ⟨fl, st', e, q⟩ := h
  rw [run_eq g hg hn, e]
  cases fl with
  | rt d =>
    refine ⟨d, st', ?_, q.2⟩
    simp only [endF]
    rw [← q.1, List.take_length]
    split <;> rfl
  | nx σ =>
    refine ⟨.non, st', ?_, q.2⟩
    simp only [endF]
    rw [← q.1, List.take_length]
  | bk _ => exact q.elim
  | ct _ => exact q.elim
end
/-- a reel of two numbers stands at n -/
def Reel (st : Sto) (n : Nat) : Prop := ∃ a b : Int, st[n]? = some ⟨.mut, [.int a, .int b]⟩ ∧ 0 ≤ a ∧ Sz 1048577 a ∧ 0 ≤ b ∧ b < 2147483647
structure Rst (n : Nat) (st st' : Sto) : Prop where
  len : st'.length = st.length
  reel : Reel st' n
  oth : ∀ j, j ≠ n → st'[j]? = st[j]?
theorem Rst.trans {n : Nat} {a b c : Sto} (h : Rst n a b) (h' : Rst n b c) : Rst n a c := ⟨h'.len.trans h.len, h'.reel, fun j hj => (h'.oth j hj).trans (h.oth j hj)⟩
theorem Rst.refl {n : Nat} {a : Sto} (h : Reel a n) : Rst n a a := ⟨rfl, h, fun _ _ => rfl⟩
section
variable {gs : List D} {fs : List Fn} {i v u t n : Nat} {st : Sto}
theorem sp_reel (k : Nat) (hi : fs[i]? = some T_law_reel) (c : Int) (hc : Sz 1048577 c) : ∃ st', run gs fs (k + 1) i [.int c] st = some (.ref st.length, st') ∧ Reel st' st.length ∧ st'.length = st.length + 1 ∧ ∀ j, j < st.length → st'[j]? = st[j]? := by
  have h0 := Int.fmod_nonneg_of_pos c (show (0 : Int) < 2147483647 by decide)
  have h1 := Int.fmod_lt_of_pos c (show (0 : Int) < 2147483647 by decide)
  have s1 : Sz 40 (c.fmod 2147483647 + 1) := by unfold Sz; omega
  have m1 := mulOk_sz s1 (Sz.lit (i := 742938285) (by decide)) (by decide)
  refine ⟨st ++ [⟨.mut, [.int (if c < 0 then -c else c), .int (((c.fmod 2147483647 + 1) * 742938285).fmod 2147483647)]⟩], ?_, ?_, by simp, fun j hj => List.getElem?_append_left hj⟩
  · rw [run_eq T_law_reel hi rfl]
    have e : exS gs (run gs fs k) T_law_reel.body [some (.int c)] st = some (.rt (.ref st.length), st ++ [⟨.mut, [.int (if c < 0 then -c else c), .int (((c.fmod 2147483647 + 1) * 742938285).fmod 2147483647)]⟩]) := by
      refine s_ret (e_dspM ?_ rfl rfl)
      (repeat' (first | with_reducible exact l_abs | with_reducible exact l_int | with_reducible exact l_intB | with_reducible exact l_lenT | with_reducible exact l_lenL | with_reducible exact l_lenS | with_reducible exact l_tupL | with_reducible exact l_tupT | with_reducible exact l_max | with_reducible exact l_min | with_reducible exact l_listT | with_reducible exact l_listL | with_reducible exact v_slcT | with_reducible exact l_isTT | with_reducible exact l_isII | with_reducible exact l_isBI | with_reducible exact l_isBB | with_reducible exact l_isSS | with_reducible exact l_isLL | with_reducible exact z_bl | with_reducible exact z_int | with_reducible exact v_slcL | with_reducible exact v_slcS | with_reducible exact e_int | with_reducible exact e_bl | with_reducible exact e_str | with_reducible exact e_non | with_reducible exact a_nil | with_reducible exact o_nil | with_reducible exact g_name | with_reducible exact gs_nil | with_reducible exact b_add | with_reducible exact b_sub | with_reducible exact u_neg | with_reducible exact c_lt | with_reducible exact c_le | with_reducible exact c_gt | with_reducible exact c_ge | with_reducible exact c_eqI | with_reducible exact c_neI | with_reducible exact c_eqS | with_reducible exact c_neS | ((with_reducible apply e_var); exact rfl) | ((with_reducible apply e_glb); exact rfl) | ((with_reducible apply x_tup); exact rfl) | ((with_reducible apply x_lst); exact rfl) | with_reducible apply a_cons | with_reducible apply e_bin | with_reducible apply e_un | with_reducible apply e_idx | with_reducible apply e_call | with_reducible apply e_blt | with_reducible apply e_cmp | with_reducible apply e_slc | with_reducible apply e_frz | with_reducible apply e_one | with_reducible apply e_not | with_reducible apply t_cmp | with_reducible apply t_not | with_reducible apply t_one | with_reducible apply t_ex | with_reducible apply o_cons | with_reducible apply g_tup | with_reducible apply gs_cons | with_reducible apply g_sub | with_reducible apply e_tupS | with_reducible apply e_dspS | ((with_reducible apply LS_mk); exact rfl) | with_reducible refine' t_and ?_ (fun _ => ?_) | with_reducible refine' t_or ?_ (fun _ => ?_) | with_reducible refine' e_and ?_ (fun _ => ?_) | with_reducible refine' e_or ?_ (fun _ => ?_) | ((with_reducible apply b_powL); decide) | ((with_reducible apply b_pow); decide) | ((with_reducible apply b_fdiv); decide) | ((with_reducible apply b_mod); decide) | ((with_reducible apply b_mul); decide) | ((with_reducible apply b_mul); with_reducible assumption) | ((with_reducible apply b_fdiv); with_reducible assumption) | with_reducible apply b_mul | with_reducible apply b_fdiv | with_reducible apply b_mod | with_reducible apply b_shr | with_reducible apply b_cat | with_reducible apply l_str))
    show endF st.length (exS gs (run gs fs k) T_law_reel.body [some (.int c)] st) = _
    rw [e]
    simp [endF, D.refLt]
  · refine ⟨(if c < 0 then -c else c), ((c.fmod 2147483647 + 1) * 742938285).fmod 2147483647, by simp, ?_, ?_, Int.fmod_nonneg_of_pos _ (by decide), Int.fmod_lt_of_pos _ (by decide)⟩
    · split <;> omega
    · refine hc.of_le ?_
      split <;> omega
theorem sp_take (k : Nat) (hi : fs[i]? = some T_law_take) (h : Reel st n) (m : Int) (hm : 0 < m) (hs : Sz 200 m) : ∃ v st', run gs fs (k + 1) i [.ref n, .int m] st = some (.int v, st') ∧ Rst n st st' ∧ 0 ≤ v ∧ v < m := by
  obtain ⟨a, b, hst, a0, sa, b0, b1⟩ := h
  have hd : divOk m = true := divOk_sz hs (by omega) (by decide)
  have m0 : m ≠ 0 := by omega
  have sb : Sz 40 b := by unfold Sz; omega
  have w : ∃ d st', run gs fs (k + 1) i [.ref n, .int m] st = some (d, st') ∧ ∃ v, d = .int v ∧ Rst n st st' ∧ 0 ≤ v ∧ v < m := by
    refine run_wpL T_law_take hi rfl _ ?_
    have key : ∀ a' b' : Int, 0 ≤ a' → Sz 1048577 a' → 0 ≤ b' → b' < 2147483647 → Rst n st (st.set n ⟨.mut, [.int a', .int b']⟩) := fun a' b' h1 h2 h3 h4 => ⟨by simp, ⟨a', b', set_self hst _, h1, h2, h3, h4⟩, fun j hj => List.getElem?_set_ne (by omega)⟩
    refine' w_if (by (repeat' (first | ((with_reducible apply x_ref); exact hst; exact rfl) | with_reducible exact l_abs | with_reducible exact l_int | with_reducible exact l_intB | with_reducible exact l_lenT | with_reducible exact l_lenL | with_reducible exact l_lenS | with_reducible exact l_tupL | with_reducible exact l_tupT | with_reducible exact l_max | with_reducible exact l_min | with_reducible exact l_listT | with_reducible exact l_listL | with_reducible exact v_slcT | with_reducible exact l_isTT | with_reducible exact l_isII | with_reducible exact l_isBI | with_reducible exact l_isBB | with_reducible exact l_isSS | with_reducible exact l_isLL | with_reducible exact z_bl | with_reducible exact z_int | with_reducible exact v_slcL | with_reducible exact v_slcS | with_reducible exact e_int | with_reducible exact e_bl | with_reducible exact e_str | with_reducible exact e_non | with_reducible exact a_nil | with_reducible exact o_nil | with_reducible exact g_name | with_reducible exact gs_nil | with_reducible exact b_add | with_reducible exact b_sub | with_reducible exact u_neg | with_reducible exact c_lt | with_reducible exact c_le | with_reducible exact c_gt | with_reducible exact c_ge | with_reducible exact c_eqI | with_reducible exact c_neI | with_reducible exact c_eqS | with_reducible exact c_neS | ((with_reducible apply e_var); exact rfl) | ((with_reducible apply e_glb); exact rfl) | ((with_reducible apply x_tup); exact rfl) | ((with_reducible apply x_lst); exact rfl) | with_reducible apply a_cons | with_reducible apply e_bin | with_reducible apply e_un | with_reducible apply e_idx | with_reducible apply e_call | with_reducible apply e_blt | with_reducible apply e_cmp | with_reducible apply e_slc | with_reducible apply e_frz | with_reducible apply e_one | with_reducible apply e_not | with_reducible apply t_cmp | with_reducible apply t_not | with_reducible apply t_one | with_reducible apply t_ex | with_reducible apply o_cons | with_reducible apply g_tup | with_reducible apply gs_cons | with_reducible apply g_sub | with_reducible apply e_tupS | with_reducible apply e_dspS | ((with_reducible apply LS_mk); exact rfl) | with_reducible refine' t_and ?_ (fun _ => ?_) | with_reducible refine' t_or ?_ (fun _ => ?_) | with_reducible refine' e_and ?_ (fun _ => ?_) | with_reducible refine' e_or ?_ (fun _ => ?_) | ((with_reducible apply b_powL); decide) | ((with_reducible apply b_pow); decide) | ((with_reducible apply b_fdiv); decide) | ((with_reducible apply b_mod); decide) | ((with_reducible apply b_mul); decide) | ((with_reducible apply b_mul); with_reducible assumption) | ((with_reducible apply b_fdiv); with_reducible assumption) | with_reducible apply b_mul | with_reducible apply b_fdiv | with_reducible apply b_mod | with_reducible apply b_shr | with_reducible apply b_cat | with_reducible apply l_str))) rfl rfl (fun _ => ?_) (fun _ => ?_)
    · refine' w_asg (by ((repeat' (first | ((with_reducible apply x_ref); exact hst; exact rfl) | with_reducible exact l_abs | with_reducible exact l_int | with_reducible exact l_intB | with_reducible exact l_lenT | with_reducible exact l_lenL | with_reducible exact l_lenS | with_reducible exact l_tupL | with_reducible exact l_tupT | with_reducible exact l_max | with_reducible exact l_min | with_reducible exact l_listT | with_reducible exact l_listL | with_reducible exact v_slcT | with_reducible exact l_isTT | with_reducible exact l_isII | with_reducible exact l_isBI | with_reducible exact l_isBB | with_reducible exact l_isSS | with_reducible exact l_isLL | with_reducible exact z_bl | with_reducible exact z_int | with_reducible exact v_slcL | with_reducible exact v_slcS | with_reducible exact e_int | with_reducible exact e_bl | with_reducible exact e_str | with_reducible exact e_non | with_reducible exact a_nil | with_reducible exact o_nil | with_reducible exact g_name | with_reducible exact gs_nil | with_reducible exact b_add | with_reducible exact b_sub | with_reducible exact u_neg | with_reducible exact c_lt | with_reducible exact c_le | with_reducible exact c_gt | with_reducible exact c_ge | with_reducible exact c_eqI | with_reducible exact c_neI | with_reducible exact c_eqS | with_reducible exact c_neS | ((with_reducible apply e_var); exact rfl) | ((with_reducible apply e_glb); exact rfl) | ((with_reducible apply x_tup); exact rfl) | ((with_reducible apply x_lst); exact rfl) | with_reducible apply a_cons | with_reducible apply e_bin | with_reducible apply e_un | with_reducible apply e_idx | with_reducible apply e_call | with_reducible apply e_blt | with_reducible apply e_cmp | with_reducible apply e_slc | with_reducible apply e_frz | with_reducible apply e_one | with_reducible apply e_not | with_reducible apply t_cmp | with_reducible apply t_not | with_reducible apply t_one | with_reducible apply t_ex | with_reducible apply o_cons | with_reducible apply g_tup | with_reducible apply gs_cons | with_reducible apply g_sub | with_reducible apply e_tupS | with_reducible apply e_dspS | ((with_reducible apply LS_mk); exact rfl) | with_reducible refine' t_and ?_ (fun _ => ?_) | with_reducible refine' t_or ?_ (fun _ => ?_) | with_reducible refine' e_and ?_ (fun _ => ?_) | with_reducible refine' e_or ?_ (fun _ => ?_) | ((with_reducible apply b_powL); decide) | ((with_reducible apply b_pow); decide) | ((with_reducible apply b_fdiv); decide) | ((with_reducible apply b_mod); decide) | ((with_reducible apply b_mul); decide) | ((with_reducible apply b_mul); with_reducible assumption) | ((with_reducible apply b_fdiv); with_reducible assumption) | with_reducible apply b_mul | with_reducible apply b_fdiv | with_reducible apply b_mod | with_reducible apply b_shr | with_reducible apply b_cat | with_reducible apply l_str))); exact m0) ?_
      refine' w_asgG (by ((repeat' (first | ((with_reducible apply x_ref); exact hst; exact rfl) | with_reducible exact l_abs | with_reducible exact l_int | with_reducible exact l_intB | with_reducible exact l_lenT | with_reducible exact l_lenL | with_reducible exact l_lenS | with_reducible exact l_tupL | with_reducible exact l_tupT | with_reducible exact l_max | with_reducible exact l_min | with_reducible exact l_listT | with_reducible exact l_listL | with_reducible exact v_slcT | with_reducible exact l_isTT | with_reducible exact l_isII | with_reducible exact l_isBI | with_reducible exact l_isBB | with_reducible exact l_isSS | with_reducible exact l_isLL | with_reducible exact z_bl | with_reducible exact z_int | with_reducible exact v_slcL | with_reducible exact v_slcS | with_reducible exact e_int | with_reducible exact e_bl | with_reducible exact e_str | with_reducible exact e_non | with_reducible exact a_nil | with_reducible exact o_nil | with_reducible exact g_name | with_reducible exact gs_nil | with_reducible exact b_add | with_reducible exact b_sub | with_reducible exact u_neg | with_reducible exact c_lt | with_reducible exact c_le | with_reducible exact c_gt | with_reducible exact c_ge | with_reducible exact c_eqI | with_reducible exact c_neI | with_reducible exact c_eqS | with_reducible exact c_neS | ((with_reducible apply e_var); exact rfl) | ((with_reducible apply e_glb); exact rfl) | ((with_reducible apply x_tup); exact rfl) | ((with_reducible apply x_lst); exact rfl) | with_reducible apply a_cons | with_reducible apply e_bin | with_reducible apply e_un | with_reducible apply e_idx | with_reducible apply e_call | with_reducible apply e_blt | with_reducible apply e_cmp | with_reducible apply e_slc | with_reducible apply e_frz | with_reducible apply e_one | with_reducible apply e_not | with_reducible apply t_cmp | with_reducible apply t_not | with_reducible apply t_one | with_reducible apply t_ex | with_reducible apply o_cons | with_reducible apply g_tup | with_reducible apply gs_cons | with_reducible apply g_sub | with_reducible apply e_tupS | with_reducible apply e_dspS | ((with_reducible apply LS_mk); exact rfl) | with_reducible refine' t_and ?_ (fun _ => ?_) | with_reducible refine' t_or ?_ (fun _ => ?_) | with_reducible refine' e_and ?_ (fun _ => ?_) | with_reducible refine' e_or ?_ (fun _ => ?_) | ((with_reducible apply b_powL); decide) | ((with_reducible apply b_pow); decide) | ((with_reducible apply b_fdiv); decide) | ((with_reducible apply b_mod); decide) | ((with_reducible apply b_mul); decide) | ((with_reducible apply b_mul); with_reducible assumption) | ((with_reducible apply b_fdiv); with_reducible assumption) | with_reducible apply b_mul | with_reducible apply b_fdiv | with_reducible apply b_mod | with_reducible apply b_shr | with_reducible apply b_cat | with_reducible apply l_str)))) (by (repeat' (first | ((with_reducible apply k_set0); exact hst; exact rfl) | with_reducible exact l_abs | with_reducible exact l_int | with_reducible exact l_intB | with_reducible exact l_lenT | with_reducible exact l_lenL | with_reducible exact l_lenS | with_reducible exact l_tupL | with_reducible exact l_tupT | with_reducible exact l_max | with_reducible exact l_min | with_reducible exact l_listT | with_reducible exact l_listL | with_reducible exact v_slcT | with_reducible exact l_isTT | with_reducible exact l_isII | with_reducible exact l_isBI | with_reducible exact l_isBB | with_reducible exact l_isSS | with_reducible exact l_isLL | with_reducible exact z_bl | with_reducible exact z_int | with_reducible exact v_slcL | with_reducible exact v_slcS | with_reducible exact e_int | with_reducible exact e_bl | with_reducible exact e_str | with_reducible exact e_non | with_reducible exact a_nil | with_reducible exact o_nil | with_reducible exact g_name | with_reducible exact gs_nil | with_reducible exact b_add | with_reducible exact b_sub | with_reducible exact u_neg | with_reducible exact c_lt | with_reducible exact c_le | with_reducible exact c_gt | with_reducible exact c_ge | with_reducible exact c_eqI | with_reducible exact c_neI | with_reducible exact c_eqS | with_reducible exact c_neS | ((with_reducible apply e_var); exact rfl) | ((with_reducible apply e_glb); exact rfl) | ((with_reducible apply x_tup); exact rfl) | ((with_reducible apply x_lst); exact rfl) | with_reducible apply a_cons | with_reducible apply e_bin | with_reducible apply e_un | with_reducible apply e_idx | with_reducible apply e_call | with_reducible apply e_blt | with_reducible apply e_cmp | with_reducible apply e_slc | with_reducible apply e_frz | with_reducible apply e_one | with_reducible apply e_not | with_reducible apply t_cmp | with_reducible apply t_not | with_reducible apply t_one | with_reducible apply t_ex | with_reducible apply o_cons | with_reducible apply g_tup | with_reducible apply gs_cons | with_reducible apply g_sub | with_reducible apply e_tupS | with_reducible apply e_dspS | ((with_reducible apply LS_mk); exact rfl) | with_reducible refine' t_and ?_ (fun _ => ?_) | with_reducible refine' t_or ?_ (fun _ => ?_) | with_reducible refine' e_and ?_ (fun _ => ?_) | with_reducible refine' e_or ?_ (fun _ => ?_) | ((with_reducible apply b_powL); decide) | ((with_reducible apply b_pow); decide) | ((with_reducible apply b_fdiv); decide) | ((with_reducible apply b_mod); decide) | ((with_reducible apply b_mul); decide) | ((with_reducible apply b_mul); with_reducible assumption) | ((with_reducible apply b_fdiv); with_reducible assumption) | with_reducible apply b_mul | with_reducible apply b_fdiv | with_reducible apply b_mod | with_reducible apply b_shr | with_reducible apply b_cat | with_reducible apply l_str))) ?_
      have q := key (a.fdiv m) b (by rw [Int.fdiv_eq_ediv_of_nonneg _ (by omega)]; exact Int.ediv_nonneg a0 (by omega)) (sa.fdiv hm) b0 b1
      refine' w_ret (by (repeat' (first | with_reducible exact l_abs | with_reducible exact l_int | with_reducible exact l_intB | with_reducible exact l_lenT | with_reducible exact l_lenL | with_reducible exact l_lenS | with_reducible exact l_tupL | with_reducible exact l_tupT | with_reducible exact l_max | with_reducible exact l_min | with_reducible exact l_listT | with_reducible exact l_listL | with_reducible exact v_slcT | with_reducible exact l_isTT | with_reducible exact l_isII | with_reducible exact l_isBI | with_reducible exact l_isBB | with_reducible exact l_isSS | with_reducible exact l_isLL | with_reducible exact z_bl | with_reducible exact z_int | with_reducible exact v_slcL | with_reducible exact v_slcS | with_reducible exact e_int | with_reducible exact e_bl | with_reducible exact e_str | with_reducible exact e_non | with_reducible exact a_nil | with_reducible exact o_nil | with_reducible exact g_name | with_reducible exact gs_nil | with_reducible exact b_add | with_reducible exact b_sub | with_reducible exact u_neg | with_reducible exact c_lt | with_reducible exact c_le | with_reducible exact c_gt | with_reducible exact c_ge | with_reducible exact c_eqI | with_reducible exact c_neI | with_reducible exact c_eqS | with_reducible exact c_neS | ((with_reducible apply e_var); exact rfl) | ((with_reducible apply e_glb); exact rfl) | ((with_reducible apply x_tup); exact rfl) | ((with_reducible apply x_lst); exact rfl) | with_reducible apply a_cons | with_reducible apply e_bin | with_reducible apply e_un | with_reducible apply e_idx | with_reducible apply e_call | with_reducible apply e_blt | with_reducible apply e_cmp | with_reducible apply e_slc | with_reducible apply e_frz | with_reducible apply e_one | with_reducible apply e_not | with_reducible apply t_cmp | with_reducible apply t_not | with_reducible apply t_one | with_reducible apply t_ex | with_reducible apply o_cons | with_reducible apply g_tup | with_reducible apply gs_cons | with_reducible apply g_sub | with_reducible apply e_tupS | with_reducible apply e_dspS | ((with_reducible apply LS_mk); exact rfl) | with_reducible refine' t_and ?_ (fun _ => ?_) | with_reducible refine' t_or ?_ (fun _ => ?_) | with_reducible refine' e_and ?_ (fun _ => ?_) | with_reducible refine' e_or ?_ (fun _ => ?_) | ((with_reducible apply b_powL); decide) | ((with_reducible apply b_pow); decide) | ((with_reducible apply b_fdiv); decide) | ((with_reducible apply b_mod); decide) | ((with_reducible apply b_mul); decide) | ((with_reducible apply b_mul); with_reducible assumption) | ((with_reducible apply b_fdiv); with_reducible assumption) | with_reducible apply b_mul | with_reducible apply b_fdiv | with_reducible apply b_mod | with_reducible apply b_shr | with_reducible apply b_cat | with_reducible apply l_str))) ?_
      exact ⟨by simp, _, rfl, q, Int.fmod_nonneg_of_pos a hm, Int.fmod_lt_of_pos a hm⟩
    · have m1 := mulOk_sz sb (Sz.lit (i := 48271) (by decide)) (by decide)
      refine' w_asgG (by ((repeat' (first | ((with_reducible apply x_ref); exact hst; exact rfl) | with_reducible exact l_abs | with_reducible exact l_int | with_reducible exact l_intB | with_reducible exact l_lenT | with_reducible exact l_lenL | with_reducible exact l_lenS | with_reducible exact l_tupL | with_reducible exact l_tupT | with_reducible exact l_max | with_reducible exact l_min | with_reducible exact l_listT | with_reducible exact l_listL | with_reducible exact v_slcT | with_reducible exact l_isTT | with_reducible exact l_isII | with_reducible exact l_isBI | with_reducible exact l_isBB | with_reducible exact l_isSS | with_reducible exact l_isLL | with_reducible exact z_bl | with_reducible exact z_int | with_reducible exact v_slcL | with_reducible exact v_slcS | with_reducible exact e_int | with_reducible exact e_bl | with_reducible exact e_str | with_reducible exact e_non | with_reducible exact a_nil | with_reducible exact o_nil | with_reducible exact g_name | with_reducible exact gs_nil | with_reducible exact b_add | with_reducible exact b_sub | with_reducible exact u_neg | with_reducible exact c_lt | with_reducible exact c_le | with_reducible exact c_gt | with_reducible exact c_ge | with_reducible exact c_eqI | with_reducible exact c_neI | with_reducible exact c_eqS | with_reducible exact c_neS | ((with_reducible apply e_var); exact rfl) | ((with_reducible apply e_glb); exact rfl) | ((with_reducible apply x_tup); exact rfl) | ((with_reducible apply x_lst); exact rfl) | with_reducible apply a_cons | with_reducible apply e_bin | with_reducible apply e_un | with_reducible apply e_idx | with_reducible apply e_call | with_reducible apply e_blt | with_reducible apply e_cmp | with_reducible apply e_slc | with_reducible apply e_frz | with_reducible apply e_one | with_reducible apply e_not | with_reducible apply t_cmp | with_reducible apply t_not | with_reducible apply t_one | with_reducible apply t_ex | with_reducible apply o_cons | with_reducible apply g_tup | with_reducible apply gs_cons | with_reducible apply g_sub | with_reducible apply e_tupS | with_reducible apply e_dspS | ((with_reducible apply LS_mk); exact rfl) | with_reducible refine' t_and ?_ (fun _ => ?_) | with_reducible refine' t_or ?_ (fun _ => ?_) | with_reducible refine' e_and ?_ (fun _ => ?_) | with_reducible refine' e_or ?_ (fun _ => ?_) | ((with_reducible apply b_powL); decide) | ((with_reducible apply b_pow); decide) | ((with_reducible apply b_fdiv); decide) | ((with_reducible apply b_mod); decide) | ((with_reducible apply b_mul); decide) | ((with_reducible apply b_mul); with_reducible assumption) | ((with_reducible apply b_fdiv); with_reducible assumption) | with_reducible apply b_mul | with_reducible apply b_fdiv | with_reducible apply b_mod | with_reducible apply b_shr | with_reducible apply b_cat | with_reducible apply l_str)))) (by (repeat' (first | ((with_reducible apply k_set1); exact hst; exact rfl) | with_reducible exact l_abs | with_reducible exact l_int | with_reducible exact l_intB | with_reducible exact l_lenT | with_reducible exact l_lenL | with_reducible exact l_lenS | with_reducible exact l_tupL | with_reducible exact l_tupT | with_reducible exact l_max | with_reducible exact l_min | with_reducible exact l_listT | with_reducible exact l_listL | with_reducible exact v_slcT | with_reducible exact l_isTT | with_reducible exact l_isII | with_reducible exact l_isBI | with_reducible exact l_isBB | with_reducible exact l_isSS | with_reducible exact l_isLL | with_reducible exact z_bl | with_reducible exact z_int | with_reducible exact v_slcL | with_reducible exact v_slcS | with_reducible exact e_int | with_reducible exact e_bl | with_reducible exact e_str | with_reducible exact e_non | with_reducible exact a_nil | with_reducible exact o_nil | with_reducible exact g_name | with_reducible exact gs_nil | with_reducible exact b_add | with_reducible exact b_sub | with_reducible exact u_neg | with_reducible exact c_lt | with_reducible exact c_le | with_reducible exact c_gt | with_reducible exact c_ge | with_reducible exact c_eqI | with_reducible exact c_neI | with_reducible exact c_eqS | with_reducible exact c_neS | ((with_reducible apply e_var); exact rfl) | ((with_reducible apply e_glb); exact rfl) | ((with_reducible apply x_tup); exact rfl) | ((with_reducible apply x_lst); exact rfl) | with_reducible apply a_cons | with_reducible apply e_bin | with_reducible apply e_un | with_reducible apply e_idx | with_reducible apply e_call | with_reducible apply e_blt | with_reducible apply e_cmp | with_reducible apply e_slc | with_reducible apply e_frz | with_reducible apply e_one | with_reducible apply e_not | with_reducible apply t_cmp | with_reducible apply t_not | with_reducible apply t_one | with_reducible apply t_ex | with_reducible apply o_cons | with_reducible apply g_tup | with_reducible apply gs_cons | with_reducible apply g_sub | with_reducible apply e_tupS | with_reducible apply e_dspS | ((with_reducible apply LS_mk); exact rfl) | with_reducible refine' t_and ?_ (fun _ => ?_) | with_reducible refine' t_or ?_ (fun _ => ?_) | with_reducible refine' e_and ?_ (fun _ => ?_) | with_reducible refine' e_or ?_ (fun _ => ?_) | ((with_reducible apply b_powL); decide) | ((with_reducible apply b_pow); decide) | ((with_reducible apply b_fdiv); decide) | ((with_reducible apply b_mod); decide) | ((with_reducible apply b_mul); decide) | ((with_reducible apply b_mul); with_reducible assumption) | ((with_reducible apply b_fdiv); with_reducible assumption) | with_reducible apply b_mul | with_reducible apply b_fdiv | with_reducible apply b_mod | with_reducible apply b_shr | with_reducible apply b_cat | with_reducible apply l_str))) ?_
      have hst2 := set_self hst ⟨.mut, [.int a, .int ((b * 48271 + 11).fmod 2147483647)]⟩
      have s2 : Sz 128 ((b * 48271 + 11).fmod 2147483647) := Sz.fmodL (by decide) (by decide)
      have m2 := mulOk_sz s2 s2 (by decide)
      refine' w_asg (by (repeat' (first | ((with_reducible apply x_ref); exact hst2; exact rfl) | with_reducible exact l_abs | with_reducible exact l_int | with_reducible exact l_intB | with_reducible exact l_lenT | with_reducible exact l_lenL | with_reducible exact l_lenS | with_reducible exact l_tupL | with_reducible exact l_tupT | with_reducible exact l_max | with_reducible exact l_min | with_reducible exact l_listT | with_reducible exact l_listL | with_reducible exact v_slcT | with_reducible exact l_isTT | with_reducible exact l_isII | with_reducible exact l_isBI | with_reducible exact l_isBB | with_reducible exact l_isSS | with_reducible exact l_isLL | with_reducible exact z_bl | with_reducible exact z_int | with_reducible exact v_slcL | with_reducible exact v_slcS | with_reducible exact e_int | with_reducible exact e_bl | with_reducible exact e_str | with_reducible exact e_non | with_reducible exact a_nil | with_reducible exact o_nil | with_reducible exact g_name | with_reducible exact gs_nil | with_reducible exact b_add | with_reducible exact b_sub | with_reducible exact u_neg | with_reducible exact c_lt | with_reducible exact c_le | with_reducible exact c_gt | with_reducible exact c_ge | with_reducible exact c_eqI | with_reducible exact c_neI | with_reducible exact c_eqS | with_reducible exact c_neS | ((with_reducible apply e_var); exact rfl) | ((with_reducible apply e_glb); exact rfl) | ((with_reducible apply x_tup); exact rfl) | ((with_reducible apply x_lst); exact rfl) | with_reducible apply a_cons | with_reducible apply e_bin | with_reducible apply e_un | with_reducible apply e_idx | with_reducible apply e_call | with_reducible apply e_blt | with_reducible apply e_cmp | with_reducible apply e_slc | with_reducible apply e_frz | with_reducible apply e_one | with_reducible apply e_not | with_reducible apply t_cmp | with_reducible apply t_not | with_reducible apply t_one | with_reducible apply t_ex | with_reducible apply o_cons | with_reducible apply g_tup | with_reducible apply gs_cons | with_reducible apply g_sub | with_reducible apply e_tupS | with_reducible apply e_dspS | ((with_reducible apply LS_mk); exact rfl) | with_reducible refine' t_and ?_ (fun _ => ?_) | with_reducible refine' t_or ?_ (fun _ => ?_) | with_reducible refine' e_and ?_ (fun _ => ?_) | with_reducible refine' e_or ?_ (fun _ => ?_) | ((with_reducible apply b_powL); decide) | ((with_reducible apply b_pow); decide) | ((with_reducible apply b_fdiv); decide) | ((with_reducible apply b_mod); decide) | ((with_reducible apply b_mul); decide) | ((with_reducible apply b_mul); with_reducible assumption) | ((with_reducible apply b_fdiv); with_reducible assumption) | with_reducible apply b_mul | with_reducible apply b_fdiv | with_reducible apply b_mod | with_reducible apply b_shr | with_reducible apply b_cat | with_reducible apply l_str))) ?_
      have s3 : Sz 128 (((b * 48271 + 11).fmod 2147483647 * (b * 48271 + 11).fmod 2147483647).fmod 2147483629) := Sz.fmodL (by decide) (by decide)
      have m3 := mulOk_sz s3 (Sz.lit (i := 69621) (by decide)) (by decide)
      refine' w_ret (by ((repeat' (first | with_reducible exact l_abs | with_reducible exact l_int | with_reducible exact l_intB | with_reducible exact l_lenT | with_reducible exact l_lenL | with_reducible exact l_lenS | with_reducible exact l_tupL | with_reducible exact l_tupT | with_reducible exact l_max | with_reducible exact l_min | with_reducible exact l_listT | with_reducible exact l_listL | with_reducible exact v_slcT | with_reducible exact l_isTT | with_reducible exact l_isII | with_reducible exact l_isBI | with_reducible exact l_isBB | with_reducible exact l_isSS | with_reducible exact l_isLL | with_reducible exact z_bl | with_reducible exact z_int | with_reducible exact v_slcL | with_reducible exact v_slcS | with_reducible exact e_int | with_reducible exact e_bl | with_reducible exact e_str | with_reducible exact e_non | with_reducible exact a_nil | with_reducible exact o_nil | with_reducible exact g_name | with_reducible exact gs_nil | with_reducible exact b_add | with_reducible exact b_sub | with_reducible exact u_neg | with_reducible exact c_lt | with_reducible exact c_le | with_reducible exact c_gt | with_reducible exact c_ge | with_reducible exact c_eqI | with_reducible exact c_neI | with_reducible exact c_eqS | with_reducible exact c_neS | ((with_reducible apply e_var); exact rfl) | ((with_reducible apply e_glb); exact rfl) | ((with_reducible apply x_tup); exact rfl) | ((with_reducible apply x_lst); exact rfl) | with_reducible apply a_cons | with_reducible apply e_bin | with_reducible apply e_un | with_reducible apply e_idx | with_reducible apply e_call | with_reducible apply e_blt | with_reducible apply e_cmp | with_reducible apply e_slc | with_reducible apply e_frz | with_reducible apply e_one | with_reducible apply e_not | with_reducible apply t_cmp | with_reducible apply t_not | with_reducible apply t_one | with_reducible apply t_ex | with_reducible apply o_cons | with_reducible apply g_tup | with_reducible apply gs_cons | with_reducible apply g_sub | with_reducible apply e_tupS | with_reducible apply e_dspS | ((with_reducible apply LS_mk); exact rfl) | with_reducible refine' t_and ?_ (fun _ => ?_) | with_reducible refine' t_or ?_ (fun _ => ?_) | with_reducible refine' e_and ?_ (fun _ => ?_) | with_reducible refine' e_or ?_ (fun _ => ?_) | ((with_reducible apply b_powL); decide) | ((with_reducible apply b_pow); decide) | ((with_reducible apply b_fdiv); decide) | ((with_reducible apply b_mod); decide) | ((with_reducible apply b_mul); decide) | ((with_reducible apply b_mul); with_reducible assumption) | ((with_reducible apply b_fdiv); with_reducible assumption) | with_reducible apply b_mul | with_reducible apply b_fdiv | with_reducible apply b_mod | with_reducible apply b_shr | with_reducible apply b_cat | with_reducible apply l_str))); exact m0) ?_
      exact ⟨by simp, _, rfl, key _ _ a0 sa (Int.fmod_nonneg_of_pos _ (by decide)) (Int.fmod_lt_of_pos _ (by decide)), Int.fmod_nonneg_of_pos _ hm, Int.fmod_lt_of_pos _ hm⟩
  obtain ⟨d, st', e, v, rfl, q⟩ := w
  exact ⟨v, st', e, q⟩
theorem sp_makeR (k : Nat) (hi : fs[i]? = some T_law_makeR) (a d : Int) (h0 : 0 < d) (hd : Sz 8000 d) : run gs fs (k + 1) i [.int a, .int d] st = some (encF (mkF a d), st) := by
  have d0 : d ≠ 0 := by omega
  have hb : divOk (byOf a d) = true := divOk_sz (byOf_sz d0 hd) (byOf_ne d0) (by decide)
  refine run_rt T_law_makeR hi rfl ?_
  refine' s_asg (by (repeat' (first | with_reducible exact l_abs | with_reducible exact l_int | with_reducible exact l_intB | with_reducible exact l_lenT | with_reducible exact l_lenL | with_reducible exact l_lenS | with_reducible exact l_tupL | with_reducible exact l_tupT | with_reducible exact l_max | with_reducible exact l_min | with_reducible exact l_listT | with_reducible exact l_listL | with_reducible exact v_slcT | with_reducible exact l_isTT | with_reducible exact l_isII | with_reducible exact l_isBI | with_reducible exact l_isBB | with_reducible exact l_isSS | with_reducible exact l_isLL | with_reducible exact z_bl | with_reducible exact z_int | with_reducible exact v_slcL | with_reducible exact v_slcS | with_reducible exact e_int | with_reducible exact e_bl | with_reducible exact e_str | with_reducible exact e_non | with_reducible exact a_nil | with_reducible exact o_nil | with_reducible exact g_name | with_reducible exact gs_nil | with_reducible exact b_add | with_reducible exact b_sub | with_reducible exact u_neg | with_reducible exact c_lt | with_reducible exact c_le | with_reducible exact c_gt | with_reducible exact c_ge | with_reducible exact c_eqI | with_reducible exact c_neI | with_reducible exact c_eqS | with_reducible exact c_neS | ((with_reducible apply e_var); exact rfl) | ((with_reducible apply e_glb); exact rfl) | ((with_reducible apply x_tup); exact rfl) | ((with_reducible apply x_lst); exact rfl) | with_reducible apply a_cons | with_reducible apply e_bin | with_reducible apply e_un | with_reducible apply e_idx | with_reducible apply e_call | with_reducible apply e_blt | with_reducible apply e_cmp | with_reducible apply e_slc | with_reducible apply e_frz | with_reducible apply e_one | with_reducible apply e_not | with_reducible apply t_cmp | with_reducible apply t_not | with_reducible apply t_one | with_reducible apply t_ex | with_reducible apply o_cons | with_reducible apply g_tup | with_reducible apply gs_cons | with_reducible apply g_sub | with_reducible apply e_tupS | with_reducible apply e_dspS | ((with_reducible apply LS_mk); exact rfl) | with_reducible refine' t_and ?_ (fun _ => ?_) | with_reducible refine' t_or ?_ (fun _ => ?_) | with_reducible refine' e_and ?_ (fun _ => ?_) | with_reducible refine' e_or ?_ (fun _ => ?_) | ((with_reducible apply b_powL); decide) | ((with_reducible apply b_pow); decide) | ((with_reducible apply b_fdiv); decide) | ((with_reducible apply b_mod); decide) | ((with_reducible apply b_mul); decide) | ((with_reducible apply b_mul); with_reducible assumption) | ((with_reducible apply b_fdiv); with_reducible assumption) | with_reducible apply b_mul | with_reducible apply b_fdiv | with_reducible apply b_mod | with_reducible apply b_shr | with_reducible apply b_cat | with_reducible apply l_str))) ?_
  refine' s_asg (by (repeat' (first | with_reducible exact l_abs | with_reducible exact l_int | with_reducible exact l_intB | with_reducible exact l_lenT | with_reducible exact l_lenL | with_reducible exact l_lenS | with_reducible exact l_tupL | with_reducible exact l_tupT | with_reducible exact l_max | with_reducible exact l_min | with_reducible exact l_listT | with_reducible exact l_listL | with_reducible exact v_slcT | with_reducible exact l_isTT | with_reducible exact l_isII | with_reducible exact l_isBI | with_reducible exact l_isBB | with_reducible exact l_isSS | with_reducible exact l_isLL | with_reducible exact z_bl | with_reducible exact z_int | with_reducible exact v_slcL | with_reducible exact v_slcS | with_reducible exact e_int | with_reducible exact e_bl | with_reducible exact e_str | with_reducible exact e_non | with_reducible exact a_nil | with_reducible exact o_nil | with_reducible exact g_name | with_reducible exact gs_nil | with_reducible exact b_add | with_reducible exact b_sub | with_reducible exact u_neg | with_reducible exact c_lt | with_reducible exact c_le | with_reducible exact c_gt | with_reducible exact c_ge | with_reducible exact c_eqI | with_reducible exact c_neI | with_reducible exact c_eqS | with_reducible exact c_neS | ((with_reducible apply e_var); exact rfl) | ((with_reducible apply e_glb); exact rfl) | ((with_reducible apply x_tup); exact rfl) | ((with_reducible apply x_lst); exact rfl) | with_reducible apply a_cons | with_reducible apply e_bin | with_reducible apply e_un | with_reducible apply e_idx | with_reducible apply e_call | with_reducible apply e_blt | with_reducible apply e_cmp | with_reducible apply e_slc | with_reducible apply e_frz | with_reducible apply e_one | with_reducible apply e_not | with_reducible apply t_cmp | with_reducible apply t_not | with_reducible apply t_one | with_reducible apply t_ex | with_reducible apply o_cons | with_reducible apply g_tup | with_reducible apply gs_cons | with_reducible apply g_sub | with_reducible apply e_tupS | with_reducible apply e_dspS | ((with_reducible apply LS_mk); exact rfl) | with_reducible refine' t_and ?_ (fun _ => ?_) | with_reducible refine' t_or ?_ (fun _ => ?_) | with_reducible refine' e_and ?_ (fun _ => ?_) | with_reducible refine' e_or ?_ (fun _ => ?_) | ((with_reducible apply b_powL); decide) | ((with_reducible apply b_pow); decide) | ((with_reducible apply b_fdiv); decide) | ((with_reducible apply b_mod); decide) | ((with_reducible apply b_mul); decide) | ((with_reducible apply b_mul); with_reducible assumption) | ((with_reducible apply b_fdiv); with_reducible assumption) | with_reducible apply b_mul | with_reducible apply b_fdiv | with_reducible apply b_mod | with_reducible apply b_shr | with_reducible apply b_cat | with_reducible apply l_str))) ?_
  obtain ⟨g, ⟨h1, hp⟩, h2⟩ := gcd_loop (gs := gs) (cs := run gs fs k) (i := 2) (j := 3) (by decide) st d.natAbs [some (.int a), some (.int d), some (.int (if a < 0 then -a else a)), some (.int d)] (if a < 0 then -a else a) d (Nat.le_refl _) (by show 2 < 4; decide) (by show 3 < 4; decide) rfl rfl
  refine s_step h2 ?_
  have eg : Int.gcd (if a < 0 then -a else a) d = Int.gcd a d := by
    split
    · exact Int.neg_gcd
    · rfl
  have e : byOf a d = g := by
    have := hp (by split <;> omega) (by omega)
    unfold byOf
    rw [if_neg (by omega), ← eg, ← h1]
    omega
  unfold encF mkF
  rw [e] at hb ⊢
  refine s_ret ?_
  (repeat' (first | with_reducible exact l_abs | with_reducible exact l_int | with_reducible exact l_intB | with_reducible exact l_lenT | with_reducible exact l_lenL | with_reducible exact l_lenS | with_reducible exact l_tupL | with_reducible exact l_tupT | with_reducible exact l_max | with_reducible exact l_min | with_reducible exact l_listT | with_reducible exact l_listL | with_reducible exact v_slcT | with_reducible exact l_isTT | with_reducible exact l_isII | with_reducible exact l_isBI | with_reducible exact l_isBB | with_reducible exact l_isSS | with_reducible exact l_isLL | with_reducible exact z_bl | with_reducible exact z_int | with_reducible exact v_slcL | with_reducible exact v_slcS | with_reducible exact e_int | with_reducible exact e_bl | with_reducible exact e_str | with_reducible exact e_non | with_reducible exact a_nil | with_reducible exact o_nil | with_reducible exact g_name | with_reducible exact gs_nil | with_reducible exact b_add | with_reducible exact b_sub | with_reducible exact u_neg | with_reducible exact c_lt | with_reducible exact c_le | with_reducible exact c_gt | with_reducible exact c_ge | with_reducible exact c_eqI | with_reducible exact c_neI | with_reducible exact c_eqS | with_reducible exact c_neS | ((with_reducible apply e_var); exact rfl) | ((with_reducible apply e_glb); exact rfl) | ((with_reducible apply x_tup); exact rfl) | ((with_reducible apply x_lst); exact rfl) | with_reducible apply a_cons | with_reducible apply e_bin | with_reducible apply e_un | with_reducible apply e_idx | with_reducible apply e_call | with_reducible apply e_blt | with_reducible apply e_cmp | with_reducible apply e_slc | with_reducible apply e_frz | with_reducible apply e_one | with_reducible apply e_not | with_reducible apply t_cmp | with_reducible apply t_not | with_reducible apply t_one | with_reducible apply t_ex | with_reducible apply o_cons | with_reducible apply g_tup | with_reducible apply gs_cons | with_reducible apply g_sub | with_reducible apply e_tupS | with_reducible apply e_dspS | ((with_reducible apply LS_mk); exact rfl) | with_reducible refine' t_and ?_ (fun _ => ?_) | with_reducible refine' t_or ?_ (fun _ => ?_) | with_reducible refine' e_and ?_ (fun _ => ?_) | with_reducible refine' e_or ?_ (fun _ => ?_) | ((with_reducible apply b_powL); decide) | ((with_reducible apply b_pow); decide) | ((with_reducible apply b_fdiv); decide) | ((with_reducible apply b_mod); decide) | ((with_reducible apply b_mul); decide) | ((with_reducible apply b_mul); with_reducible assumption) | ((with_reducible apply b_fdiv); with_reducible assumption) | with_reducible apply b_mul | with_reducible apply b_fdiv | with_reducible apply b_mod | with_reducible apply b_shr | with_reducible apply b_cat | with_reducible apply l_str))
theorem sp_plusR (k : Nat) (hi : fs[i]? = some (T_law_plus u)) (hu : fs[u]? = some T_law_makeR) (a b c d : Int) (h : 0 < b) (h' : 0 < d) {m : Nat} (hm : m ≤ 3000) (sa : Sz m a) (sb : Sz m b) (sc : Sz m c) (sd : Sz m d) :
    run gs fs (k + 2) i [.tup [.int a, .int b], .tup [.int c, .int d]] st = some (encF (mkF (a * d + c * b) (b * d)), st) := by
  have c1 := sp_makeR (gs := gs) (st := st) k hu (a * d + c * b) (b * d) (Int.mul_pos h h') ((sb.mul sd).mono (by omega))
  refine run_rt (T_law_plus u) hi rfl ?_
  refine s_ret ?_
  (repeat' (first | with_reducible apply c1 | with_reducible exact l_abs | with_reducible exact l_int | with_reducible exact l_intB | with_reducible exact l_lenT | with_reducible exact l_lenL | with_reducible exact l_lenS | with_reducible exact l_tupL | with_reducible exact l_tupT | with_reducible exact l_max | with_reducible exact l_min | with_reducible exact l_listT | with_reducible exact l_listL | with_reducible exact v_slcT | with_reducible exact l_isTT | with_reducible exact l_isII | with_reducible exact l_isBI | with_reducible exact l_isBB | with_reducible exact l_isSS | with_reducible exact l_isLL | with_reducible exact z_bl | with_reducible exact z_int | with_reducible exact v_slcL | with_reducible exact v_slcS | with_reducible exact e_int | with_reducible exact e_bl | with_reducible exact e_str | with_reducible exact e_non | with_reducible exact a_nil | with_reducible exact o_nil | with_reducible exact g_name | with_reducible exact gs_nil | with_reducible exact b_add | with_reducible exact b_sub | with_reducible exact u_neg | with_reducible exact c_lt | with_reducible exact c_le | with_reducible exact c_gt | with_reducible exact c_ge | with_reducible exact c_eqI | with_reducible exact c_neI | with_reducible exact c_eqS | with_reducible exact c_neS | ((with_reducible apply e_var); exact rfl) | ((with_reducible apply e_glb); exact rfl) | ((with_reducible apply x_tup); exact rfl) | ((with_reducible apply x_lst); exact rfl) | with_reducible apply a_cons | with_reducible apply e_bin | with_reducible apply e_un | with_reducible apply e_idx | with_reducible apply e_call | with_reducible apply e_blt | with_reducible apply e_cmp | with_reducible apply e_slc | with_reducible apply e_frz | with_reducible apply e_one | with_reducible apply e_not | with_reducible apply t_cmp | with_reducible apply t_not | with_reducible apply t_one | with_reducible apply t_ex | with_reducible apply o_cons | with_reducible apply g_tup | with_reducible apply gs_cons | with_reducible apply g_sub | with_reducible apply e_tupS | with_reducible apply e_dspS | ((with_reducible apply LS_mk); exact rfl) | with_reducible refine' t_and ?_ (fun _ => ?_) | with_reducible refine' t_or ?_ (fun _ => ?_) | with_reducible refine' e_and ?_ (fun _ => ?_) | with_reducible refine' e_or ?_ (fun _ => ?_) | ((with_reducible apply b_powL); decide) | ((with_reducible apply b_pow); decide) | ((with_reducible apply b_fdiv); decide) | ((with_reducible apply b_mod); decide) | ((with_reducible apply b_mul); decide) | ((with_reducible apply b_mul); with_reducible assumption) | ((with_reducible apply b_fdiv); with_reducible assumption) | with_reducible apply b_mul | with_reducible apply b_fdiv | with_reducible apply b_mod | with_reducible apply b_shr | with_reducible apply b_cat | with_reducible apply l_str))
  all_goals first | exact mulOk_sz sa sd (by omega) | exact mulOk_sz sc sb (by omega) | exact mulOk_sz sb sd (by omega)
theorem sp_timesR (k : Nat) (hi : fs[i]? = some (T_law_times u)) (hu : fs[u]? = some T_law_makeR) (a b c d : Int) (h : 0 < b) (h' : 0 < d) {m : Nat} (hm : m ≤ 3000) (sa : Sz m a) (sb : Sz m b) (sc : Sz m c) (sd : Sz m d) :
    run gs fs (k + 2) i [.tup [.int a, .int b], .tup [.int c, .int d]] st = some (encF (mkF (a * c) (b * d)), st) := by
  have c1 := sp_makeR (gs := gs) (st := st) k hu (a * c) (b * d) (Int.mul_pos h h') ((sb.mul sd).mono (by omega))
  refine run_rt (T_law_times u) hi rfl ?_
  refine s_ret ?_
  (repeat' (first | with_reducible apply c1 | with_reducible exact l_abs | with_reducible exact l_int | with_reducible exact l_intB | with_reducible exact l_lenT | with_reducible exact l_lenL | with_reducible exact l_lenS | with_reducible exact l_tupL | with_reducible exact l_tupT | with_reducible exact l_max | with_reducible exact l_min | with_reducible exact l_listT | with_reducible exact l_listL | with_reducible exact v_slcT | with_reducible exact l_isTT | with_reducible exact l_isII | with_reducible exact l_isBI | with_reducible exact l_isBB | with_reducible exact l_isSS | with_reducible exact l_isLL | with_reducible exact z_bl | with_reducible exact z_int | with_reducible exact v_slcL | with_reducible exact v_slcS | with_reducible exact e_int | with_reducible exact e_bl | with_reducible exact e_str | with_reducible exact e_non | with_reducible exact a_nil | with_reducible exact o_nil | with_reducible exact g_name | with_reducible exact gs_nil | with_reducible exact b_add | with_reducible exact b_sub | with_reducible exact u_neg | with_reducible exact c_lt | with_reducible exact c_le | with_reducible exact c_gt | with_reducible exact c_ge | with_reducible exact c_eqI | with_reducible exact c_neI | with_reducible exact c_eqS | with_reducible exact c_neS | ((with_reducible apply e_var); exact rfl) | ((with_reducible apply e_glb); exact rfl) | ((with_reducible apply x_tup); exact rfl) | ((with_reducible apply x_lst); exact rfl) | with_reducible apply a_cons | with_reducible apply e_bin | with_reducible apply e_un | with_reducible apply e_idx | with_reducible apply e_call | with_reducible apply e_blt | with_reducible apply e_cmp | with_reducible apply e_slc | with_reducible apply e_frz | with_reducible apply e_one | with_reducible apply e_not | with_reducible apply t_cmp | with_reducible apply t_not | with_reducible apply t_one | with_reducible apply t_ex | with_reducible apply o_cons | with_reducible apply g_tup | with_reducible apply gs_cons | with_reducible apply g_sub | with_reducible apply e_tupS | with_reducible apply e_dspS | ((with_reducible apply LS_mk); exact rfl) | with_reducible refine' t_and ?_ (fun _ => ?_) | with_reducible refine' t_or ?_ (fun _ => ?_) | with_reducible refine' e_and ?_ (fun _ => ?_) | with_reducible refine' e_or ?_ (fun _ => ?_) | ((with_reducible apply b_powL); decide) | ((with_reducible apply b_pow); decide) | ((with_reducible apply b_fdiv); decide) | ((with_reducible apply b_mod); decide) | ((with_reducible apply b_mul); decide) | ((with_reducible apply b_mul); with_reducible assumption) | ((with_reducible apply b_fdiv); with_reducible assumption) | with_reducible apply b_mul | with_reducible apply b_fdiv | with_reducible apply b_mod | with_reducible apply b_shr | with_reducible apply b_cat | with_reducible apply l_str))
  all_goals first | exact mulOk_sz sa sc (by omega) | exact mulOk_sz sb sd (by omega)
def frN : Bool → Nat
  | true => 200
  | false => 8
theorem frN_le (g : Bool) : 8 ≤ frN g := by cases g <;> decide
theorem red_whole (p : Int) : Red (p, 1) := ⟨Int.one_pos, by simp⟩
theorem sp_fractionR (k : Nat) (hi : fs[i]? = some (T_law_fractionR u v)) (hu : fs[u]? = some T_law_take) (hv : fs[v]? = some T_law_makeR) (h : Reel st n) (gr : Bool) : ∃ d st', run gs fs (k + 2) i [.ref n, .bl gr] st = some (d, st') ∧ Rst n st st' ∧ isFr (frN gr) d := by
  have fl := frN_le gr
  obtain ⟨way, s1, e1, r1, w0, w8⟩ := sp_take (gs := gs) k hu h 8 (by decide) ((Sz.lit (by decide)).mono (by decide))
  refine run_wpL (T_law_fractionR u v) hi rfl _ ?_
  refine' w_asg (by (repeat' (first | with_reducible apply e1 | with_reducible exact l_abs | with_reducible exact l_int | with_reducible exact l_intB | with_reducible exact l_lenT | with_reducible exact l_lenL | with_reducible exact l_lenS | with_reducible exact l_tupL | with_reducible exact l_tupT | with_reducible exact l_max | with_reducible exact l_min | with_reducible exact l_listT | with_reducible exact l_listL | with_reducible exact v_slcT | with_reducible exact l_isTT | with_reducible exact l_isII | with_reducible exact l_isBI | with_reducible exact l_isBB | with_reducible exact l_isSS | with_reducible exact l_isLL | with_reducible exact z_bl | with_reducible exact z_int | with_reducible exact v_slcL | with_reducible exact v_slcS | with_reducible exact e_int | with_reducible exact e_bl | with_reducible exact e_str | with_reducible exact e_non | with_reducible exact a_nil | with_reducible exact o_nil | with_reducible exact g_name | with_reducible exact gs_nil | with_reducible exact b_add | with_reducible exact b_sub | with_reducible exact u_neg | with_reducible exact c_lt | with_reducible exact c_le | with_reducible exact c_gt | with_reducible exact c_ge | with_reducible exact c_eqI | with_reducible exact c_neI | with_reducible exact c_eqS | with_reducible exact c_neS | ((with_reducible apply e_var); exact rfl) | ((with_reducible apply e_glb); exact rfl) | ((with_reducible apply x_tup); exact rfl) | ((with_reducible apply x_lst); exact rfl) | with_reducible apply a_cons | with_reducible apply e_bin | with_reducible apply e_un | with_reducible apply e_idx | with_reducible apply e_call | with_reducible apply e_blt | with_reducible apply e_cmp | with_reducible apply e_slc | with_reducible apply e_frz | with_reducible apply e_one | with_reducible apply e_not | with_reducible apply t_cmp | with_reducible apply t_not | with_reducible apply t_one | with_reducible apply t_ex | with_reducible apply o_cons | with_reducible apply g_tup | with_reducible apply gs_cons | with_reducible apply g_sub | with_reducible apply e_tupS | with_reducible apply e_dspS | ((with_reducible apply LS_mk); exact rfl) | with_reducible refine' t_and ?_ (fun _ => ?_) | with_reducible refine' t_or ?_ (fun _ => ?_) | with_reducible refine' e_and ?_ (fun _ => ?_) | with_reducible refine' e_or ?_ (fun _ => ?_) | ((with_reducible apply b_powL); decide) | ((with_reducible apply b_pow); decide) | ((with_reducible apply b_fdiv); decide) | ((with_reducible apply b_mod); decide) | ((with_reducible apply b_mul); decide) | ((with_reducible apply b_mul); with_reducible assumption) | ((with_reducible apply b_fdiv); with_reducible assumption) | with_reducible apply b_mul | with_reducible apply b_fdiv | with_reducible apply b_mod | with_reducible apply b_shr | with_reducible apply b_cat | with_reducible apply l_str))) ?_
  refine' w_if (by (repeat' (first | with_reducible exact l_abs | with_reducible exact l_int | with_reducible exact l_intB | with_reducible exact l_lenT | with_reducible exact l_lenL | with_reducible exact l_lenS | with_reducible exact l_tupL | with_reducible exact l_tupT | with_reducible exact l_max | with_reducible exact l_min | with_reducible exact l_listT | with_reducible exact l_listL | with_reducible exact v_slcT | with_reducible exact l_isTT | with_reducible exact l_isII | with_reducible exact l_isBI | with_reducible exact l_isBB | with_reducible exact l_isSS | with_reducible exact l_isLL | with_reducible exact z_bl | with_reducible exact z_int | with_reducible exact v_slcL | with_reducible exact v_slcS | with_reducible exact e_int | with_reducible exact e_bl | with_reducible exact e_str | with_reducible exact e_non | with_reducible exact a_nil | with_reducible exact o_nil | with_reducible exact g_name | with_reducible exact gs_nil | with_reducible exact b_add | with_reducible exact b_sub | with_reducible exact u_neg | with_reducible exact c_lt | with_reducible exact c_le | with_reducible exact c_gt | with_reducible exact c_ge | with_reducible exact c_eqI | with_reducible exact c_neI | with_reducible exact c_eqS | with_reducible exact c_neS | ((with_reducible apply e_var); exact rfl) | ((with_reducible apply e_glb); exact rfl) | ((with_reducible apply x_tup); exact rfl) | ((with_reducible apply x_lst); exact rfl) | with_reducible apply a_cons | with_reducible apply e_bin | with_reducible apply e_un | with_reducible apply e_idx | with_reducible apply e_call | with_reducible apply e_blt | with_reducible apply e_cmp | with_reducible apply e_slc | with_reducible apply e_frz | with_reducible apply e_one | with_reducible apply e_not | with_reducible apply t_cmp | with_reducible apply t_not | with_reducible apply t_one | with_reducible apply t_ex | with_reducible apply o_cons | with_reducible apply g_tup | with_reducible apply gs_cons | with_reducible apply g_sub | with_reducible apply e_tupS | with_reducible apply e_dspS | ((with_reducible apply LS_mk); exact rfl) | with_reducible refine' t_and ?_ (fun _ => ?_) | with_reducible refine' t_or ?_ (fun _ => ?_) | with_reducible refine' e_and ?_ (fun _ => ?_) | with_reducible refine' e_or ?_ (fun _ => ?_) | ((with_reducible apply b_powL); decide) | ((with_reducible apply b_pow); decide) | ((with_reducible apply b_fdiv); decide) | ((with_reducible apply b_mod); decide) | ((with_reducible apply b_mul); decide) | ((with_reducible apply b_mul); with_reducible assumption) | ((with_reducible apply b_fdiv); with_reducible assumption) | with_reducible apply b_mul | with_reducible apply b_fdiv | with_reducible apply b_mod | with_reducible apply b_shr | with_reducible apply b_cat | with_reducible apply l_str))) rfl rfl (fun _ => ?_) (fun _ => ?_)
  · obtain ⟨x, s2, e2, r2, x0, x7⟩ := sp_take (gs := gs) k hu r1.reel 7 (by decide) ((Sz.lit (by decide)).mono (by decide))
    have r := r1.trans r2
    refine' w_ret (by (repeat' (first | with_reducible apply e2 | with_reducible exact l_abs | with_reducible exact l_int | with_reducible exact l_intB | with_reducible exact l_lenT | with_reducible exact l_lenL | with_reducible exact l_lenS | with_reducible exact l_tupL | with_reducible exact l_tupT | with_reducible exact l_max | with_reducible exact l_min | with_reducible exact l_listT | with_reducible exact l_listL | with_reducible exact v_slcT | with_reducible exact l_isTT | with_reducible exact l_isII | with_reducible exact l_isBI | with_reducible exact l_isBB | with_reducible exact l_isSS | with_reducible exact l_isLL | with_reducible exact z_bl | with_reducible exact z_int | with_reducible exact v_slcL | with_reducible exact v_slcS | with_reducible exact e_int | with_reducible exact e_bl | with_reducible exact e_str | with_reducible exact e_non | with_reducible exact a_nil | with_reducible exact o_nil | with_reducible exact g_name | with_reducible exact gs_nil | with_reducible exact b_add | with_reducible exact b_sub | with_reducible exact u_neg | with_reducible exact c_lt | with_reducible exact c_le | with_reducible exact c_gt | with_reducible exact c_ge | with_reducible exact c_eqI | with_reducible exact c_neI | with_reducible exact c_eqS | with_reducible exact c_neS | ((with_reducible apply e_var); exact rfl) | ((with_reducible apply e_glb); exact rfl) | ((with_reducible apply x_tup); exact rfl) | ((with_reducible apply x_lst); exact rfl) | with_reducible apply a_cons | with_reducible apply e_bin | with_reducible apply e_un | with_reducible apply e_idx | with_reducible apply e_call | with_reducible apply e_blt | with_reducible apply e_cmp | with_reducible apply e_slc | with_reducible apply e_frz | with_reducible apply e_one | with_reducible apply e_not | with_reducible apply t_cmp | with_reducible apply t_not | with_reducible apply t_one | with_reducible apply t_ex | with_reducible apply o_cons | with_reducible apply g_tup | with_reducible apply gs_cons | with_reducible apply g_sub | with_reducible apply e_tupS | with_reducible apply e_dspS | ((with_reducible apply LS_mk); exact rfl) | with_reducible refine' t_and ?_ (fun _ => ?_) | with_reducible refine' t_or ?_ (fun _ => ?_) | with_reducible refine' e_and ?_ (fun _ => ?_) | with_reducible refine' e_or ?_ (fun _ => ?_) | ((with_reducible apply b_powL); decide) | ((with_reducible apply b_pow); decide) | ((with_reducible apply b_fdiv); decide) | ((with_reducible apply b_mod); decide) | ((with_reducible apply b_mul); decide) | ((with_reducible apply b_mul); with_reducible assumption) | ((with_reducible apply b_fdiv); with_reducible assumption) | with_reducible apply b_mul | with_reducible apply b_fdiv | with_reducible apply b_mod | with_reducible apply b_shr | with_reducible apply b_cat | with_reducible apply l_str))) ?_
    exact ⟨r.len, r, x - 3, 1, rfl, red_whole _, Sz.mono (n := 8) (by unfold Sz; omega) fl, Sz.mono (n := 8) (by unfold Sz; decide) fl⟩
  refine' w_if (by (repeat' (first | with_reducible exact l_abs | with_reducible exact l_int | with_reducible exact l_intB | with_reducible exact l_lenT | with_reducible exact l_lenL | with_reducible exact l_lenS | with_reducible exact l_tupL | with_reducible exact l_tupT | with_reducible exact l_max | with_reducible exact l_min | with_reducible exact l_listT | with_reducible exact l_listL | with_reducible exact v_slcT | with_reducible exact l_isTT | with_reducible exact l_isII | with_reducible exact l_isBI | with_reducible exact l_isBB | with_reducible exact l_isSS | with_reducible exact l_isLL | with_reducible exact z_bl | with_reducible exact z_int | with_reducible exact v_slcL | with_reducible exact v_slcS | with_reducible exact e_int | with_reducible exact e_bl | with_reducible exact e_str | with_reducible exact e_non | with_reducible exact a_nil | with_reducible exact o_nil | with_reducible exact g_name | with_reducible exact gs_nil | with_reducible exact b_add | with_reducible exact b_sub | with_reducible exact u_neg | with_reducible exact c_lt | with_reducible exact c_le | with_reducible exact c_gt | with_reducible exact c_ge | with_reducible exact c_eqI | with_reducible exact c_neI | with_reducible exact c_eqS | with_reducible exact c_neS | ((with_reducible apply e_var); exact rfl) | ((with_reducible apply e_glb); exact rfl) | ((with_reducible apply x_tup); exact rfl) | ((with_reducible apply x_lst); exact rfl) | with_reducible apply a_cons | with_reducible apply e_bin | with_reducible apply e_un | with_reducible apply e_idx | with_reducible apply e_call | with_reducible apply e_blt | with_reducible apply e_cmp | with_reducible apply e_slc | with_reducible apply e_frz | with_reducible apply e_one | with_reducible apply e_not | with_reducible apply t_cmp | with_reducible apply t_not | with_reducible apply t_one | with_reducible apply t_ex | with_reducible apply o_cons | with_reducible apply g_tup | with_reducible apply gs_cons | with_reducible apply g_sub | with_reducible apply e_tupS | with_reducible apply e_dspS | ((with_reducible apply LS_mk); exact rfl) | with_reducible refine' t_and ?_ (fun _ => ?_) | with_reducible refine' t_or ?_ (fun _ => ?_) | with_reducible refine' e_and ?_ (fun _ => ?_) | with_reducible refine' e_or ?_ (fun _ => ?_) | ((with_reducible apply b_powL); decide) | ((with_reducible apply b_pow); decide) | ((with_reducible apply b_fdiv); decide) | ((with_reducible apply b_mod); decide) | ((with_reducible apply b_mul); decide) | ((with_reducible apply b_mul); with_reducible assumption) | ((with_reducible apply b_fdiv); with_reducible assumption) | with_reducible apply b_mul | with_reducible apply b_fdiv | with_reducible apply b_mod | with_reducible apply b_shr | with_reducible apply b_cat | with_reducible apply l_str))) rfl rfl (fun _ => ?_) (fun _ => ?_)
  · refine' w_ret (by (repeat' (first | with_reducible exact l_abs | with_reducible exact l_int | with_reducible exact l_intB | with_reducible exact l_lenT | with_reducible exact l_lenL | with_reducible exact l_lenS | with_reducible exact l_tupL | with_reducible exact l_tupT | with_reducible exact l_max | with_reducible exact l_min | with_reducible exact l_listT | with_reducible exact l_listL | with_reducible exact v_slcT | with_reducible exact l_isTT | with_reducible exact l_isII | with_reducible exact l_isBI | with_reducible exact l_isBB | with_reducible exact l_isSS | with_reducible exact l_isLL | with_reducible exact z_bl | with_reducible exact z_int | with_reducible exact v_slcL | with_reducible exact v_slcS | with_reducible exact e_int | with_reducible exact e_bl | with_reducible exact e_str | with_reducible exact e_non | with_reducible exact a_nil | with_reducible exact o_nil | with_reducible exact g_name | with_reducible exact gs_nil | with_reducible exact b_add | with_reducible exact b_sub | with_reducible exact u_neg | with_reducible exact c_lt | with_reducible exact c_le | with_reducible exact c_gt | with_reducible exact c_ge | with_reducible exact c_eqI | with_reducible exact c_neI | with_reducible exact c_eqS | with_reducible exact c_neS | ((with_reducible apply e_var); exact rfl) | ((with_reducible apply e_glb); exact rfl) | ((with_reducible apply x_tup); exact rfl) | ((with_reducible apply x_lst); exact rfl) | with_reducible apply a_cons | with_reducible apply e_bin | with_reducible apply e_un | with_reducible apply e_idx | with_reducible apply e_call | with_reducible apply e_blt | with_reducible apply e_cmp | with_reducible apply e_slc | with_reducible apply e_frz | with_reducible apply e_one | with_reducible apply e_not | with_reducible apply t_cmp | with_reducible apply t_not | with_reducible apply t_one | with_reducible apply t_ex | with_reducible apply o_cons | with_reducible apply g_tup | with_reducible apply gs_cons | with_reducible apply g_sub | with_reducible apply e_tupS | with_reducible apply e_dspS | ((with_reducible apply LS_mk); exact rfl) | with_reducible refine' t_and ?_ (fun _ => ?_) | with_reducible refine' t_or ?_ (fun _ => ?_) | with_reducible refine' e_and ?_ (fun _ => ?_) | with_reducible refine' e_or ?_ (fun _ => ?_) | ((with_reducible apply b_powL); decide) | ((with_reducible apply b_pow); decide) | ((with_reducible apply b_fdiv); decide) | ((with_reducible apply b_mod); decide) | ((with_reducible apply b_mul); decide) | ((with_reducible apply b_mul); with_reducible assumption) | ((with_reducible apply b_fdiv); with_reducible assumption) | with_reducible apply b_mul | with_reducible apply b_fdiv | with_reducible apply b_mod | with_reducible apply b_shr | with_reducible apply b_cat | with_reducible apply l_str))) ?_
    exact ⟨r1.len, r1, 0, 1, rfl, red_whole _, Sz.mono (n := 8) (by unfold Sz; decide) fl, Sz.mono (n := 8) (by unfold Sz; decide) fl⟩
  refine' w_if (by (repeat' (first | with_reducible exact l_abs | with_reducible exact l_int | with_reducible exact l_intB | with_reducible exact l_lenT | with_reducible exact l_lenL | with_reducible exact l_lenS | with_reducible exact l_tupL | with_reducible exact l_tupT | with_reducible exact l_max | with_reducible exact l_min | with_reducible exact l_listT | with_reducible exact l_listL | with_reducible exact v_slcT | with_reducible exact l_isTT | with_reducible exact l_isII | with_reducible exact l_isBI | with_reducible exact l_isBB | with_reducible exact l_isSS | with_reducible exact l_isLL | with_reducible exact z_bl | with_reducible exact z_int | with_reducible exact v_slcL | with_reducible exact v_slcS | with_reducible exact e_int | with_reducible exact e_bl | with_reducible exact e_str | with_reducible exact e_non | with_reducible exact a_nil | with_reducible exact o_nil | with_reducible exact g_name | with_reducible exact gs_nil | with_reducible exact b_add | with_reducible exact b_sub | with_reducible exact u_neg | with_reducible exact c_lt | with_reducible exact c_le | with_reducible exact c_gt | with_reducible exact c_ge | with_reducible exact c_eqI | with_reducible exact c_neI | with_reducible exact c_eqS | with_reducible exact c_neS | ((with_reducible apply e_var); exact rfl) | ((with_reducible apply e_glb); exact rfl) | ((with_reducible apply x_tup); exact rfl) | ((with_reducible apply x_lst); exact rfl) | with_reducible apply a_cons | with_reducible apply e_bin | with_reducible apply e_un | with_reducible apply e_idx | with_reducible apply e_call | with_reducible apply e_blt | with_reducible apply e_cmp | with_reducible apply e_slc | with_reducible apply e_frz | with_reducible apply e_one | with_reducible apply e_not | with_reducible apply t_cmp | with_reducible apply t_not | with_reducible apply t_one | with_reducible apply t_ex | with_reducible apply o_cons | with_reducible apply g_tup | with_reducible apply gs_cons | with_reducible apply g_sub | with_reducible apply e_tupS | with_reducible apply e_dspS | ((with_reducible apply LS_mk); exact rfl) | with_reducible refine' t_and ?_ (fun _ => ?_) | with_reducible refine' t_or ?_ (fun _ => ?_) | with_reducible refine' e_and ?_ (fun _ => ?_) | with_reducible refine' e_or ?_ (fun _ => ?_) | ((with_reducible apply b_powL); decide) | ((with_reducible apply b_pow); decide) | ((with_reducible apply b_fdiv); decide) | ((with_reducible apply b_mod); decide) | ((with_reducible apply b_mul); decide) | ((with_reducible apply b_mul); with_reducible assumption) | ((with_reducible apply b_fdiv); with_reducible assumption) | with_reducible apply b_mul | with_reducible apply b_fdiv | with_reducible apply b_mod | with_reducible apply b_shr | with_reducible apply b_cat | with_reducible apply l_str))) rfl rfl (fun hgr => ?_) (fun _ => ?_)
  · obtain rfl : gr = true := by
      simp only [Bool.and_eq_true] at hgr
      exact hgr.2
    obtain ⟨x, s2, e2, r2, x0, x7⟩ := sp_take (gs := gs) k hu r1.reel (10 ^ 30) (by decide) ((Sz.lit (by decide)).mono (by decide))
    obtain ⟨y, s3, e3, r3, y0, y2⟩ := sp_take (gs := gs) k hu r2.reel 2 (by decide) ((Sz.lit (by decide)).mono (by decide))
    obtain ⟨z, s4, e4, r4, z0, z2⟩ := sp_take (gs := gs) k hu r3.reel (10 ^ 29) (by decide) ((Sz.lit (by decide)).mono (by decide))
    have sx : Sz 110 x := by unfold Sz; omega
    have hy : ∃ w : Int, atI [D.int 1, D.int (-1)] y = some (D.int w) ∧ Sz 2 w := by
      obtain ⟨d, q1, q2⟩ := atI_mem (xs := [D.int 1, D.int (-1)]) y0 (by simpa using y2)
      simp only [List.mem_cons, List.not_mem_nil, or_false] at q2
      rcases q2 with rfl | rfl
      · exact ⟨_, q1, by unfold Sz; decide⟩
      · exact ⟨_, q1, by unfold Sz; decide⟩
    obtain ⟨w, hw, sw⟩ := hy
    have mw := mulOk_sz sx sw (by decide)
    refine' w_asg (by (repeat' (first | with_reducible apply e2 | with_reducible apply e3 | ((with_reducible apply x_lst); with_reducible exact hw) | with_reducible exact l_abs | with_reducible exact l_int | with_reducible exact l_intB | with_reducible exact l_lenT | with_reducible exact l_lenL | with_reducible exact l_lenS | with_reducible exact l_tupL | with_reducible exact l_tupT | with_reducible exact l_max | with_reducible exact l_min | with_reducible exact l_listT | with_reducible exact l_listL | with_reducible exact v_slcT | with_reducible exact l_isTT | with_reducible exact l_isII | with_reducible exact l_isBI | with_reducible exact l_isBB | with_reducible exact l_isSS | with_reducible exact l_isLL | with_reducible exact z_bl | with_reducible exact z_int | with_reducible exact v_slcL | with_reducible exact v_slcS | with_reducible exact e_int | with_reducible exact e_bl | with_reducible exact e_str | with_reducible exact e_non | with_reducible exact a_nil | with_reducible exact o_nil | with_reducible exact g_name | with_reducible exact gs_nil | with_reducible exact b_add | with_reducible exact b_sub | with_reducible exact u_neg | with_reducible exact c_lt | with_reducible exact c_le | with_reducible exact c_gt | with_reducible exact c_ge | with_reducible exact c_eqI | with_reducible exact c_neI | with_reducible exact c_eqS | with_reducible exact c_neS | ((with_reducible apply e_var); exact rfl) | ((with_reducible apply e_glb); exact rfl) | ((with_reducible apply x_tup); exact rfl) | ((with_reducible apply x_lst); exact rfl) | with_reducible apply a_cons | with_reducible apply e_bin | with_reducible apply e_un | with_reducible apply e_idx | with_reducible apply e_call | with_reducible apply e_blt | with_reducible apply e_cmp | with_reducible apply e_slc | with_reducible apply e_frz | with_reducible apply e_one | with_reducible apply e_not | with_reducible apply t_cmp | with_reducible apply t_not | with_reducible apply t_one | with_reducible apply t_ex | with_reducible apply o_cons | with_reducible apply g_tup | with_reducible apply gs_cons | with_reducible apply g_sub | with_reducible apply e_tupS | with_reducible apply e_dspS | ((with_reducible apply LS_mk); exact rfl) | with_reducible refine' t_and ?_ (fun _ => ?_) | with_reducible refine' t_or ?_ (fun _ => ?_) | with_reducible refine' e_and ?_ (fun _ => ?_) | with_reducible refine' e_or ?_ (fun _ => ?_) | ((with_reducible apply b_powL); decide) | ((with_reducible apply b_pow); decide) | ((with_reducible apply b_fdiv); decide) | ((with_reducible apply b_mod); decide) | ((with_reducible apply b_mul); decide) | ((with_reducible apply b_mul); with_reducible assumption) | ((with_reducible apply b_fdiv); with_reducible assumption) | with_reducible apply b_mul | with_reducible apply b_fdiv | with_reducible apply b_mod | with_reducible apply b_shr | with_reducible apply b_cat | with_reducible apply l_str))) ?_
    have zp : 0 < 1 + z := by omega
    have sz : Sz 110 (1 + z) := by unfold Sz; omega
    have c1 := sp_makeR (gs := gs) (st := s4) k hv (x * w) (1 + z) zp (sz.mono (by decide))
    have r := ((r1.trans r2).trans r3).trans r4
    refine' w_ret (by (repeat' (first | with_reducible apply e4 | with_reducible apply c1 | with_reducible exact l_abs | with_reducible exact l_int | with_reducible exact l_intB | with_reducible exact l_lenT | with_reducible exact l_lenL | with_reducible exact l_lenS | with_reducible exact l_tupL | with_reducible exact l_tupT | with_reducible exact l_max | with_reducible exact l_min | with_reducible exact l_listT | with_reducible exact l_listL | with_reducible exact v_slcT | with_reducible exact l_isTT | with_reducible exact l_isII | with_reducible exact l_isBI | with_reducible exact l_isBB | with_reducible exact l_isSS | with_reducible exact l_isLL | with_reducible exact z_bl | with_reducible exact z_int | with_reducible exact v_slcL | with_reducible exact v_slcS | with_reducible exact e_int | with_reducible exact e_bl | with_reducible exact e_str | with_reducible exact e_non | with_reducible exact a_nil | with_reducible exact o_nil | with_reducible exact g_name | with_reducible exact gs_nil | with_reducible exact b_add | with_reducible exact b_sub | with_reducible exact u_neg | with_reducible exact c_lt | with_reducible exact c_le | with_reducible exact c_gt | with_reducible exact c_ge | with_reducible exact c_eqI | with_reducible exact c_neI | with_reducible exact c_eqS | with_reducible exact c_neS | ((with_reducible apply e_var); exact rfl) | ((with_reducible apply e_glb); exact rfl) | ((with_reducible apply x_tup); exact rfl) | ((with_reducible apply x_lst); exact rfl) | with_reducible apply a_cons | with_reducible apply e_bin | with_reducible apply e_un | with_reducible apply e_idx | with_reducible apply e_call | with_reducible apply e_blt | with_reducible apply e_cmp | with_reducible apply e_slc | with_reducible apply e_frz | with_reducible apply e_one | with_reducible apply e_not | with_reducible apply t_cmp | with_reducible apply t_not | with_reducible apply t_one | with_reducible apply t_ex | with_reducible apply o_cons | with_reducible apply g_tup | with_reducible apply gs_cons | with_reducible apply g_sub | with_reducible apply e_tupS | with_reducible apply e_dspS | ((with_reducible apply LS_mk); exact rfl) | with_reducible refine' t_and ?_ (fun _ => ?_) | with_reducible refine' t_or ?_ (fun _ => ?_) | with_reducible refine' e_and ?_ (fun _ => ?_) | with_reducible refine' e_or ?_ (fun _ => ?_) | ((with_reducible apply b_powL); decide) | ((with_reducible apply b_pow); decide) | ((with_reducible apply b_fdiv); decide) | ((with_reducible apply b_mod); decide) | ((with_reducible apply b_mul); decide) | ((with_reducible apply b_mul); with_reducible assumption) | ((with_reducible apply b_fdiv); with_reducible assumption) | with_reducible apply b_mul | with_reducible apply b_fdiv | with_reducible apply b_mod | with_reducible apply b_shr | with_reducible apply b_cat | with_reducible apply l_str))) ?_
    have s := mkF_sz (show 1 + z ≠ 0 by omega) ((sx.mul sw).mono (show 110 + 2 ≤ 200 by decide)) (sz.mono (show 110 ≤ 200 by decide))
    exact ⟨r.len, r, _, _, rfl, mkF_red (by omega), s⟩
  · obtain ⟨x, s2, e2, r2, x0, x7⟩ := sp_take (gs := gs) k hu r1.reel 41 (by decide) ((Sz.lit (by decide)).mono (by decide))
    obtain ⟨z, s3, e3, r3, z0, z2⟩ := sp_take (gs := gs) k hu r2.reel 12 (by decide) ((Sz.lit (by decide)).mono (by decide))
    have zp : 0 < 1 + z := by omega
    have sz : Sz 8 (1 + z) := by unfold Sz; omega
    have sx : Sz 8 (x - 20) := by unfold Sz; omega
    have c1 := sp_makeR (gs := gs) (st := s3) k hv (x - 20) (1 + z) zp (sz.mono (by decide))
    have r := (r1.trans r2).trans r3
    refine' w_ret (by (repeat' (first | with_reducible apply e2 | with_reducible apply e3 | with_reducible apply c1 | with_reducible exact l_abs | with_reducible exact l_int | with_reducible exact l_intB | with_reducible exact l_lenT | with_reducible exact l_lenL | with_reducible exact l_lenS | with_reducible exact l_tupL | with_reducible exact l_tupT | with_reducible exact l_max | with_reducible exact l_min | with_reducible exact l_listT | with_reducible exact l_listL | with_reducible exact v_slcT | with_reducible exact l_isTT | with_reducible exact l_isII | with_reducible exact l_isBI | with_reducible exact l_isBB | with_reducible exact l_isSS | with_reducible exact l_isLL | with_reducible exact z_bl | with_reducible exact z_int | with_reducible exact v_slcL | with_reducible exact v_slcS | with_reducible exact e_int | with_reducible exact e_bl | with_reducible exact e_str | with_reducible exact e_non | with_reducible exact a_nil | with_reducible exact o_nil | with_reducible exact g_name | with_reducible exact gs_nil | with_reducible exact b_add | with_reducible exact b_sub | with_reducible exact u_neg | with_reducible exact c_lt | with_reducible exact c_le | with_reducible exact c_gt | with_reducible exact c_ge | with_reducible exact c_eqI | with_reducible exact c_neI | with_reducible exact c_eqS | with_reducible exact c_neS | ((with_reducible apply e_var); exact rfl) | ((with_reducible apply e_glb); exact rfl) | ((with_reducible apply x_tup); exact rfl) | ((with_reducible apply x_lst); exact rfl) | with_reducible apply a_cons | with_reducible apply e_bin | with_reducible apply e_un | with_reducible apply e_idx | with_reducible apply e_call | with_reducible apply e_blt | with_reducible apply e_cmp | with_reducible apply e_slc | with_reducible apply e_frz | with_reducible apply e_one | with_reducible apply e_not | with_reducible apply t_cmp | with_reducible apply t_not | with_reducible apply t_one | with_reducible apply t_ex | with_reducible apply o_cons | with_reducible apply g_tup | with_reducible apply gs_cons | with_reducible apply g_sub | with_reducible apply e_tupS | with_reducible apply e_dspS | ((with_reducible apply LS_mk); exact rfl) | with_reducible refine' t_and ?_ (fun _ => ?_) | with_reducible refine' t_or ?_ (fun _ => ?_) | with_reducible refine' e_and ?_ (fun _ => ?_) | with_reducible refine' e_or ?_ (fun _ => ?_) | ((with_reducible apply b_powL); decide) | ((with_reducible apply b_pow); decide) | ((with_reducible apply b_fdiv); decide) | ((with_reducible apply b_mod); decide) | ((with_reducible apply b_mul); decide) | ((with_reducible apply b_mul); with_reducible assumption) | ((with_reducible apply b_fdiv); with_reducible assumption) | with_reducible apply b_mul | with_reducible apply b_fdiv | with_reducible apply b_mod | with_reducible apply b_shr | with_reducible apply b_cat | with_reducible apply l_str))) ?_
    have s := mkF_sz (show 1 + z ≠ 0 by omega) (sx.mono fl) (sz.mono fl)
    exact ⟨r.len, r, _, _, rfl, mkF_red (by omega), s⟩
/-- a list of fractions, drawn one by one -/
theorem draw_all {k : Nat} {σ : En} {el : C} {xs : List D} {sl : Nat} {g : Bool} (h : Reel st n) (hx : ∀ (x : D) (st' : Sto), Reel st' n → ∃ d st'', evE gs (run gs fs k) el (σ.set sl (some x)) st' = some (d, st'') ∧ Rst n st' st'' ∧ isFr (frN g) d) :
    ∃ ys st', lcS (.its xs) (evG gs (run gs fs k) (.tN sl)) (evT gs (run gs fs k) .nil) (evE gs (run gs fs k) el) σ (srcLen (.its xs) st) 0 st = some (ys, st') ∧ Rst n st st' ∧ ys.length = xs.length ∧ ∀ y ∈ ys, isFr (frN g) y := by
  obtain ⟨ys, st', e, q⟩ := lcS_its' (xs := xs) (tg := evG gs (run gs fs k) (.tN sl)) (t := evT gs (run gs fs k) .nil) (e := evE gs (run gs fs k) el) (σ := σ) (st := st) (fun i ys st' => Rst n st st' ∧ ys.length = i ∧ ∀ y ∈ ys, isFr (frN g) y) ⟨Rst.refl h, rfl, by simp⟩ (fun i x ys st1 hx1 ⟨q1, q2, q3⟩ => by
    obtain ⟨d, st2, e2, r2, f2⟩ := hx x st1 q1.reel
    refine ⟨_, _, d, st2, g_name, t_nil, e2, q1.trans r2, by simp [q2], fun y hy => ?_⟩
    rcases List.mem_append.mp hy with hy | hy
    · exact q3 y hy
    · rw [List.mem_singleton.mp hy]; exact f2)
  exact ⟨ys, st', e, q⟩
theorem sp_lineR (k : Nat) (hi : fs[i]? = some (T_law_line u t)) (hu : fs[u]? = some T_law_take) (ht : fs[t]? = some (T_law_fractionR u v)) (hv : fs[v]? = some T_law_makeR) (h : Reel st n) (m : Int) (m0 : 0 ≤ m) (m1 : m < 1000) (gr : Bool) :
    ∃ kd ps bd st', run gs fs (k + 3) i [.ref n, .int m, .bl gr] st = some (.tup [.str kd, .tup ps, bd], st') ∧ Rst n st st' ∧ (kd = "=" ∨ kd = "<" ∨ kd = "<=") ∧ ps.length = m.toNat ∧ (∀ y ∈ ps, isFr (frN gr) y) ∧ isFr (frN gr) bd := by
  obtain ⟨x, s1, e1, r1, x0, x5⟩ := sp_take (gs := gs) (k + 1) hu h 5 (by decide) ((Sz.lit (by decide)).mono (by decide))
  have w : ∃ d st', run gs fs (k + 3) i [.ref n, .int m, .bl gr] st = some (d, st') ∧ ∃ kd ps bd, d = .tup [.str kd, .tup ps, bd] ∧ Rst n st st' ∧ (kd = "=" ∨ kd = "<" ∨ kd = "<=") ∧ ps.length = m.toNat ∧ (∀ y ∈ ps, isFr (frN gr) y) ∧ isFr (frN gr) bd := by
    refine run_wpL (T_law_line u t) hi rfl _ ?_
    have hk : ∃ kd : Str, atI [D.str "<=", D.str "<", D.str "<=", D.str "=", D.str "<"] x = some (D.str kd) ∧ (kd = "=" ∨ kd = "<" ∨ kd = "<=") := by
      obtain ⟨d, q1, q2⟩ := atI_mem (xs := [.str "<=", .str "<", .str "<=", .str "=", .str "<"]) x0 (by simpa using x5)
      simp only [List.mem_cons, List.not_mem_nil, or_false] at q2
      rcases q2 with rfl | rfl | rfl | rfl | rfl <;> exact ⟨_, q1, by simp⟩
    obtain ⟨kd, hk1, hk2⟩ := hk
    refine' w_asg (by (repeat' (first | with_reducible apply e1 | ((with_reducible apply x_lst); with_reducible exact hk1) | with_reducible exact l_abs | with_reducible exact l_int | with_reducible exact l_intB | with_reducible exact l_lenT | with_reducible exact l_lenL | with_reducible exact l_lenS | with_reducible exact l_tupL | with_reducible exact l_tupT | with_reducible exact l_max | with_reducible exact l_min | with_reducible exact l_listT | with_reducible exact l_listL | with_reducible exact v_slcT | with_reducible exact l_isTT | with_reducible exact l_isII | with_reducible exact l_isBI | with_reducible exact l_isBB | with_reducible exact l_isSS | with_reducible exact l_isLL | with_reducible exact z_bl | with_reducible exact z_int | with_reducible exact v_slcL | with_reducible exact v_slcS | with_reducible exact e_int | with_reducible exact e_bl | with_reducible exact e_str | with_reducible exact e_non | with_reducible exact a_nil | with_reducible exact o_nil | with_reducible exact g_name | with_reducible exact gs_nil | with_reducible exact b_add | with_reducible exact b_sub | with_reducible exact u_neg | with_reducible exact c_lt | with_reducible exact c_le | with_reducible exact c_gt | with_reducible exact c_ge | with_reducible exact c_eqI | with_reducible exact c_neI | with_reducible exact c_eqS | with_reducible exact c_neS | ((with_reducible apply e_var); exact rfl) | ((with_reducible apply e_glb); exact rfl) | ((with_reducible apply x_tup); exact rfl) | ((with_reducible apply x_lst); exact rfl) | with_reducible apply a_cons | with_reducible apply e_bin | with_reducible apply e_un | with_reducible apply e_idx | with_reducible apply e_call | with_reducible apply e_blt | with_reducible apply e_cmp | with_reducible apply e_slc | with_reducible apply e_frz | with_reducible apply e_one | with_reducible apply e_not | with_reducible apply t_cmp | with_reducible apply t_not | with_reducible apply t_one | with_reducible apply t_ex | with_reducible apply o_cons | with_reducible apply g_tup | with_reducible apply gs_cons | with_reducible apply g_sub | with_reducible apply e_tupS | with_reducible apply e_dspS | ((with_reducible apply LS_mk); exact rfl) | with_reducible refine' t_and ?_ (fun _ => ?_) | with_reducible refine' t_or ?_ (fun _ => ?_) | with_reducible refine' e_and ?_ (fun _ => ?_) | with_reducible refine' e_or ?_ (fun _ => ?_) | ((with_reducible apply b_powL); decide) | ((with_reducible apply b_pow); decide) | ((with_reducible apply b_fdiv); decide) | ((with_reducible apply b_mod); decide) | ((with_reducible apply b_mul); decide) | ((with_reducible apply b_mul); with_reducible assumption) | ((with_reducible apply b_fdiv); with_reducible assumption) | with_reducible apply b_mul | with_reducible apply b_fdiv | with_reducible apply b_mod | with_reducible apply b_shr | with_reducible apply b_cat | with_reducible apply l_str))) ?_
    obtain ⟨ys, s2, e2, r2, l2, f2⟩ := draw_all (gs := gs) (fs := fs) (k := k + 2) (σ := wipeD [some (.ref n), some (.int m), some (.bl gr), some (.str kd), none, none] [5]) (el := .call t (.cons (.var 0) (.cons (.var 2) .nil))) (xs := rngD 0 m.toNat) (sl := 5) (g := gr) r1.reel (fun y st' hr => by
      obtain ⟨d, st'', e, q⟩ := sp_fractionR (gs := gs) k ht hu hv hr gr
      refine ⟨d, st'', ?_, q⟩
      (repeat' (first | with_reducible apply e | with_reducible exact l_abs | with_reducible exact l_int | with_reducible exact l_intB | with_reducible exact l_lenT | with_reducible exact l_lenL | with_reducible exact l_lenS | with_reducible exact l_tupL | with_reducible exact l_tupT | with_reducible exact l_max | with_reducible exact l_min | with_reducible exact l_listT | with_reducible exact l_listL | with_reducible exact v_slcT | with_reducible exact l_isTT | with_reducible exact l_isII | with_reducible exact l_isBI | with_reducible exact l_isBB | with_reducible exact l_isSS | with_reducible exact l_isLL | with_reducible exact z_bl | with_reducible exact z_int | with_reducible exact v_slcL | with_reducible exact v_slcS | with_reducible exact e_int | with_reducible exact e_bl | with_reducible exact e_str | with_reducible exact e_non | with_reducible exact a_nil | with_reducible exact o_nil | with_reducible exact g_name | with_reducible exact gs_nil | with_reducible exact b_add | with_reducible exact b_sub | with_reducible exact u_neg | with_reducible exact c_lt | with_reducible exact c_le | with_reducible exact c_gt | with_reducible exact c_ge | with_reducible exact c_eqI | with_reducible exact c_neI | with_reducible exact c_eqS | with_reducible exact c_neS | ((with_reducible apply e_var); exact rfl) | ((with_reducible apply e_glb); exact rfl) | ((with_reducible apply x_tup); exact rfl) | ((with_reducible apply x_lst); exact rfl) | with_reducible apply a_cons | with_reducible apply e_bin | with_reducible apply e_un | with_reducible apply e_idx | with_reducible apply e_call | with_reducible apply e_blt | with_reducible apply e_cmp | with_reducible apply e_slc | with_reducible apply e_frz | with_reducible apply e_one | with_reducible apply e_not | with_reducible apply t_cmp | with_reducible apply t_not | with_reducible apply t_one | with_reducible apply t_ex | with_reducible apply o_cons | with_reducible apply g_tup | with_reducible apply gs_cons | with_reducible apply g_sub | with_reducible apply e_tupS | with_reducible apply e_dspS | ((with_reducible apply LS_mk); exact rfl) | with_reducible refine' t_and ?_ (fun _ => ?_) | with_reducible refine' t_or ?_ (fun _ => ?_) | with_reducible refine' e_and ?_ (fun _ => ?_) | with_reducible refine' e_or ?_ (fun _ => ?_) | ((with_reducible apply b_powL); decide) | ((with_reducible apply b_pow); decide) | ((with_reducible apply b_fdiv); decide) | ((with_reducible apply b_mod); decide) | ((with_reducible apply b_mul); decide) | ((with_reducible apply b_mul); with_reducible assumption) | ((with_reducible apply b_fdiv); with_reducible assumption) | with_reducible apply b_mul | with_reducible apply b_fdiv | with_reducible apply b_mod | with_reducible apply b_shr | with_reducible apply b_cat | with_reducible apply l_str)))
    have ll : (rngD 0 m.toNat).length = m.toNat := by simp [rngD]
    obtain ⟨bd, s3, e3, r3, f3⟩ := sp_fractionR (gs := gs) k ht hu hv r2.reel gr
    refine' w_asg (by ((repeat' (first | ((with_reducible refine' e_lcp (xs := ys) (i_r1 ?_ ?_) e2 ?_)) | with_reducible exact l_abs | with_reducible exact l_int | with_reducible exact l_intB | with_reducible exact l_lenT | with_reducible exact l_lenL | with_reducible exact l_lenS | with_reducible exact l_tupL | with_reducible exact l_tupT | with_reducible exact l_max | with_reducible exact l_min | with_reducible exact l_listT | with_reducible exact l_listL | with_reducible exact v_slcT | with_reducible exact l_isTT | with_reducible exact l_isII | with_reducible exact l_isBI | with_reducible exact l_isBB | with_reducible exact l_isSS | with_reducible exact l_isLL | with_reducible exact z_bl | with_reducible exact z_int | with_reducible exact v_slcL | with_reducible exact v_slcS | with_reducible exact e_int | with_reducible exact e_bl | with_reducible exact e_str | with_reducible exact e_non | with_reducible exact a_nil | with_reducible exact o_nil | with_reducible exact g_name | with_reducible exact gs_nil | with_reducible exact b_add | with_reducible exact b_sub | with_reducible exact u_neg | with_reducible exact c_lt | with_reducible exact c_le | with_reducible exact c_gt | with_reducible exact c_ge | with_reducible exact c_eqI | with_reducible exact c_neI | with_reducible exact c_eqS | with_reducible exact c_neS | ((with_reducible apply e_var); exact rfl) | ((with_reducible apply e_glb); exact rfl) | ((with_reducible apply x_tup); exact rfl) | ((with_reducible apply x_lst); exact rfl) | with_reducible apply a_cons | with_reducible apply e_bin | with_reducible apply e_un | with_reducible apply e_idx | with_reducible apply e_call | with_reducible apply e_blt | with_reducible apply e_cmp | with_reducible apply e_slc | with_reducible apply e_frz | with_reducible apply e_one | with_reducible apply e_not | with_reducible apply t_cmp | with_reducible apply t_not | with_reducible apply t_one | with_reducible apply t_ex | with_reducible apply o_cons | with_reducible apply g_tup | with_reducible apply gs_cons | with_reducible apply g_sub | with_reducible apply e_tupS | with_reducible apply e_dspS | ((with_reducible apply LS_mk); exact rfl) | with_reducible refine' t_and ?_ (fun _ => ?_) | with_reducible refine' t_or ?_ (fun _ => ?_) | with_reducible refine' e_and ?_ (fun _ => ?_) | with_reducible refine' e_or ?_ (fun _ => ?_) | ((with_reducible apply b_powL); decide) | ((with_reducible apply b_pow); decide) | ((with_reducible apply b_fdiv); decide) | ((with_reducible apply b_mod); decide) | ((with_reducible apply b_mul); decide) | ((with_reducible apply b_mul); with_reducible assumption) | ((with_reducible apply b_fdiv); with_reducible assumption) | with_reducible apply b_mul | with_reducible apply b_fdiv | with_reducible apply b_mod | with_reducible apply b_shr | with_reducible apply b_cat | with_reducible apply l_str))); all_goals first | omega | exact lenQ (decide_eq_true (by omega))) ?_
    have r := (r1.trans r2).trans r3
    refine' w_ret (by (repeat' (first | with_reducible apply e3 | with_reducible exact l_abs | with_reducible exact l_int | with_reducible exact l_intB | with_reducible exact l_lenT | with_reducible exact l_lenL | with_reducible exact l_lenS | with_reducible exact l_tupL | with_reducible exact l_tupT | with_reducible exact l_max | with_reducible exact l_min | with_reducible exact l_listT | with_reducible exact l_listL | with_reducible exact v_slcT | with_reducible exact l_isTT | with_reducible exact l_isII | with_reducible exact l_isBI | with_reducible exact l_isBB | with_reducible exact l_isSS | with_reducible exact l_isLL | with_reducible exact z_bl | with_reducible exact z_int | with_reducible exact v_slcL | with_reducible exact v_slcS | with_reducible exact e_int | with_reducible exact e_bl | with_reducible exact e_str | with_reducible exact e_non | with_reducible exact a_nil | with_reducible exact o_nil | with_reducible exact g_name | with_reducible exact gs_nil | with_reducible exact b_add | with_reducible exact b_sub | with_reducible exact u_neg | with_reducible exact c_lt | with_reducible exact c_le | with_reducible exact c_gt | with_reducible exact c_ge | with_reducible exact c_eqI | with_reducible exact c_neI | with_reducible exact c_eqS | with_reducible exact c_neS | ((with_reducible apply e_var); exact rfl) | ((with_reducible apply e_glb); exact rfl) | ((with_reducible apply x_tup); exact rfl) | ((with_reducible apply x_lst); exact rfl) | with_reducible apply a_cons | with_reducible apply e_bin | with_reducible apply e_un | with_reducible apply e_idx | with_reducible apply e_call | with_reducible apply e_blt | with_reducible apply e_cmp | with_reducible apply e_slc | with_reducible apply e_frz | with_reducible apply e_one | with_reducible apply e_not | with_reducible apply t_cmp | with_reducible apply t_not | with_reducible apply t_one | with_reducible apply t_ex | with_reducible apply o_cons | with_reducible apply g_tup | with_reducible apply gs_cons | with_reducible apply g_sub | with_reducible apply e_tupS | with_reducible apply e_dspS | ((with_reducible apply LS_mk); exact rfl) | with_reducible refine' t_and ?_ (fun _ => ?_) | with_reducible refine' t_or ?_ (fun _ => ?_) | with_reducible refine' e_and ?_ (fun _ => ?_) | with_reducible refine' e_or ?_ (fun _ => ?_) | ((with_reducible apply b_powL); decide) | ((with_reducible apply b_pow); decide) | ((with_reducible apply b_fdiv); decide) | ((with_reducible apply b_mod); decide) | ((with_reducible apply b_mul); decide) | ((with_reducible apply b_mul); with_reducible assumption) | ((with_reducible apply b_fdiv); with_reducible assumption) | with_reducible apply b_mul | with_reducible apply b_fdiv | with_reducible apply b_mod | with_reducible apply b_shr | with_reducible apply b_cat | with_reducible apply l_str))) ?_
    exact ⟨r.len, kd, ys, bd, rfl, r, hk2, by rw [l2, ll], f2, f3⟩
  obtain ⟨d, st', e, kd, ps, bd, rfl, q⟩ := w
  exact ⟨kd, ps, bd, st', e, q⟩
end
end Jd


namespace Jd
open PySem PySem.Spec PyProof.Rows L2
/-! ### sums over parts and points -/
/-- product_sum: 0 parts, 1 point, 2 found, 3 part, 4 number -/
abbrev T_product_sum (i_NOUGHT i_plus i_times : Nat) : Fn := ⟨2, 5, (.cons (.asg (.tN 2) (.glb i_NOUGHT)) (.cons (.for_ (.tT (.cons (.tN 3) (.cons (.tN 4) .nil))) (.iZip (.var 0) (.var 1)) (.cons (.asg (.tN 2) (.call i_plus (.cons (.var 2) (.cons (.call i_times (.cons (.var 3) (.cons (.var 4) .nil))) .nil)))) .nil)) (.cons (.ret (.var 2)) .nil)))⟩
/-- holds: 0 line, 1 point, 2 found, 3 kind, 4 parts, 5 bound -/
abbrev T_holds (i_product_sum i_below : Nat) : Fn := ⟨2, 6, (.cons (.asg (.tT (.cons (.tN 3) (.cons (.tN 4) (.cons (.tN 5) .nil)))) (.var 0)) (.cons (.asg (.tN 2) (.call i_product_sum (.cons (.var 4) (.cons (.var 1) .nil)))) (.cons (.ifs (.cmp .eq (.var 3) (.kstr "=")) (.cons (.ret (.cmp .eq (.var 2) (.var 5))) .nil) .nil) (.cons (.ifs (.cmp .eq (.var 3) (.kstr "<")) (.cons (.ret (.call i_below (.cons (.var 2) (.cons (.var 5) .nil)))) .nil) .nil) (.cons (.ret (.not (.call i_below (.cons (.var 5) (.cons (.var 2) .nil))))) .nil)))))⟩
/-- _law_sides: 0 parts, 1 point, 2 bound, 3 bottom, 4 total, 5 part, 6 number -/
abbrev T_law_sides : Fn := ⟨3, 7, (.cons (.asg (.tN 3) (.idx (.var 2) (.kint 1))) (.cons (.for_ (.tT (.cons (.tN 5) (.cons (.tN 6) .nil))) (.iZip (.var 0) (.var 1)) (.cons (.asg (.tN 3) (.bin .mul false (.bin .mul false (.var 3) (.idx (.var 5) (.kint 1))) (.idx (.var 6) (.kint 1)))) .nil)) (.cons (.asg (.tN 4) (.kint 0)) (.cons (.for_ (.tT (.cons (.tN 5) (.cons (.tN 6) .nil))) (.iZip (.var 0) (.var 1)) (.cons (.asg (.tN 4) (.bin .add false (.var 4) (.bin .mul false (.bin .mul false (.idx (.var 5) (.kint 0)) (.idx (.var 6) (.kint 0))) (.bin .fdiv false (.var 3) (.bin .mul false (.idx (.var 5) (.kint 1)) (.idx (.var 6) (.kint 1))))))) .nil)) (.cons (.ret (.tup (.cons (.var 4) (.cons (.bin .mul false (.idx (.var 2) (.kint 0)) (.bin .fdiv false (.var 3) (.idx (.var 2) (.kint 1)))) (.cons (.var 3) .nil))))) .nil)))))⟩
/-- _law_right: 0 line, 1 point, 2 due, 3 found, 4 total, 5 bound, 6 bottom -/
abbrev T_law_right (i__law_sides i_holds : Nat) : Fn := ⟨2, 7, (.cons (.asg (.tT (.cons (.tN 4) (.cons (.tN 5) (.cons (.tN 6) .nil)))) (.call i__law_sides (.cons (.idx (.var 0) (.kint 1)) (.cons (.var 1) (.cons (.idx (.var 0) (.kint 2)) .nil))))) (.cons (.asg (.tN 2) (.dsel ["=", "<", "<="] (.cons (.cmp .eq (.var 4) (.var 5)) (.cons (.cmp .lt (.var 4) (.var 5)) (.cons (.cmp .le (.var 4) (.var 5)) .nil))) (.idx (.var 0) (.kint 0)))) (.cons (.asg (.tN 3) (.call i_holds (.cons (.var 0) (.cons (.var 1) .nil)))) (.cons (.ret (.and (.blt (.isI .bool) false (.cons (.var 3) .nil)) (.one (.cmp .eq (.var 3) (.var 2))))) .nil))))⟩
def dq : D → Int × Int
  | .tup [.int p, .int q] => (p, q)
  | _ => (0, 1)
def dotQ : List D → List D → Rat
  | p :: ps, n :: ns => qv (dq p) * qv (dq n) + dotQ ps ns
  | _, _ => 0
def prodL : List D → List D → Int
  | p :: ps, n :: ns => (dq p).2 * (dq n).2 * prodL ps ns
  | _, _ => 1
theorem isFr.get {N : Nat} {d : D} (h : isFr N d) : d = .tup [.int (dq d).1, .int (dq d).2] ∧ Red (dq d) ∧ Sz N (dq d).1 ∧ Sz N (dq d).2 := by
  obtain ⟨p, q, rfl, h⟩ := h
  exact ⟨rfl, h⟩
theorem dotQ_nil (l : List D) : dotQ [] l = 0 := by cases l <;> rfl
theorem rat_cancel {x y B : Rat} (h : 0 < B) (e : x * B = y * B) : x = y := by
  have h0 : B ≠ 0 := by grind
  grind
theorem dot_at {ps ns : List D} {i : Nat} {p n : D} (hp : ps[i]? = some p) (hn : ns[i]? = some n) : dotQ (ps.drop i) (ns.drop i) = qv (dq p) * qv (dq n) + dotQ (ps.drop (i + 1)) (ns.drop (i + 1)) := by
  rw [List.getElem?_eq_some_iff] at hp hn
  obtain ⟨a, rfl⟩ := hp
  obtain ⟨b, rfl⟩ := hn
  rw [List.drop_eq_getElem_cons a, List.drop_eq_getElem_cons b]
  rfl
theorem prod_at {ps ns : List D} {i : Nat} {p n : D} (hp : ps[i]? = some p) (hn : ns[i]? = some n) : prodL (ps.drop i) (ns.drop i) = (dq p).2 * (dq n).2 * prodL (ps.drop (i + 1)) (ns.drop (i + 1)) := by
  rw [List.getElem?_eq_some_iff] at hp hn
  obtain ⟨a, rfl⟩ := hp
  obtain ⟨b, rfl⟩ := hn
  rw [List.drop_eq_getElem_cons a, List.drop_eq_getElem_cons b]
  rfl
theorem prod_dvd : ∀ {ps ns : List D} {i : Nat} {p n : D}, ps[i]? = some p → ns[i]? = some n → (dq p).2 * (dq n).2 ∣ prodL ps ns
  | [], _, _, _, _, h, _ => by simp at h
  | _ :: _, [], _, _, _, _, h => by simp at h
  | a :: ps, b :: ns, 0, p, n, h, h' => by
    simp only [List.getElem?_cons_zero, Option.some.injEq] at h h'
    subst h
    subst h'
    exact Int.dvd_mul_right _ _
  | a :: ps, b :: ns, i + 1, p, n, h, h' => by
    simp only [List.getElem?_cons_succ] at h h'
    exact Int.dvd_trans (prod_dvd h h') (Int.dvd_mul_left _ _)
theorem zip_len {ps ns : List D} (h : ns.length = ps.length) : (zipD ps ns).length = ps.length := by
  unfold zipD
  rw [List.length_zipWith]
  omega
theorem zip_item {ps ns : List D} {i : Nat} {x : D} (h : (zipD ps ns)[i]? = some x) : ∃ p n, ps[i]? = some p ∧ ns[i]? = some n ∧ x = .tup [p, n] := by
  rw [zip_get] at h
  split at h
  · rename_i p n hp hn
    cases h
    exact ⟨p, n, hp, hn, rfl⟩
  · cases h
theorem drop_len {α : Type} {l m : List α} (h : l.length = m.length) : l.drop m.length = [] := List.drop_eq_nil_of_le (by omega)
theorem e_dselR {gs : List D} {cs : Nat → List D → Sto → Option (D × Sto)} {σ : En} {st st1 st2 st3 : Sto} {a b : C} {ks : List Str} {xs : List D} {y z : D} (h : evA gs cs a σ st = some (xs, st1)) (h' : evE gs cs b σ st1 = some (y, st2)) (g : gSel ks xs y st2 = some (z, st3)) : evE gs cs (.dsel ks a b) σ st = some (z, st3) := by simp only [evE, h, h', Option.bind_some, g]
section
variable {gs : List D} {fs : List Fn} {i g u v w t e : Nat} (st : Sto)
theorem sp_psum (k : Nat) (hi : fs[i]? = some (T_product_sum g u v)) (hg : gs[g]? = some (.tup [.int 0, .int 1])) (hu : fs[u]? = some (T_plus w)) (hv : fs[v]? = some (T_times w)) (hw : fs[w]? = some (T_make t)) (ht : fs[t]? = some T_divisor)
    {ps ns : List D} (hp : ∀ p ∈ ps, isFr 200 p) (hn : ∀ n ∈ ns, isFr 200 n) (hl : ns.length = ps.length) (h3 : ps.length ≤ 3) :
    ∃ f : Int × Int, run gs fs (k + 4) i [.tup ps, .tup ns] st = some (encF f, st) ∧ Red f ∧ Sz 1500 f.1 ∧ Sz 1500 f.2 ∧ qv f = dotQ ps ns := by
  have q : ∃ d, run gs fs (k + 4) i [.tup ps, .tup ns] st = some (d, st) ∧ ∃ f : Int × Int, d = encF f ∧ Red f ∧ Sz 1500 f.1 ∧ Sz 1500 f.2 ∧ qv f = dotQ ps ns := by
    refine run_wp (T_product_sum g u v) hi rfl _ ?_
    refine' w_asg (by (repeat' (first | ((with_reducible apply e_glb); with_reducible exact hg) | with_reducible exact l_abs | with_reducible exact l_int | with_reducible exact l_intB | with_reducible exact l_lenT | with_reducible exact l_lenL | with_reducible exact l_lenS | with_reducible exact l_tupL | with_reducible exact l_tupT | with_reducible exact l_max | with_reducible exact l_min | with_reducible exact l_listT | with_reducible exact l_listL | with_reducible exact v_slcT | with_reducible exact l_isTT | with_reducible exact l_isII | with_reducible exact l_isBI | with_reducible exact l_isBB | with_reducible exact l_isSS | with_reducible exact l_isLL | with_reducible exact z_bl | with_reducible exact z_int | with_reducible exact v_slcL | with_reducible exact v_slcS | with_reducible exact e_int | with_reducible exact e_bl | with_reducible exact e_str | with_reducible exact e_non | with_reducible exact a_nil | with_reducible exact o_nil | with_reducible exact g_name | with_reducible exact gs_nil | with_reducible exact b_add | with_reducible exact b_sub | with_reducible exact u_neg | with_reducible exact c_lt | with_reducible exact c_le | with_reducible exact c_gt | with_reducible exact c_ge | with_reducible exact c_eqI | with_reducible exact c_neI | with_reducible exact c_eqS | with_reducible exact c_neS | ((with_reducible apply e_var); exact rfl) | ((with_reducible apply e_glb); exact rfl) | ((with_reducible apply x_tup); exact rfl) | ((with_reducible apply x_lst); exact rfl) | with_reducible apply a_cons | with_reducible apply e_bin | with_reducible apply e_un | with_reducible apply e_idx | with_reducible apply e_call | with_reducible apply e_blt | with_reducible apply e_cmp | with_reducible apply e_slc | with_reducible apply e_frz | with_reducible apply e_one | with_reducible apply e_not | with_reducible apply t_cmp | with_reducible apply t_not | with_reducible apply t_one | with_reducible apply t_ex | with_reducible apply o_cons | with_reducible apply g_tup | with_reducible apply gs_cons | with_reducible apply g_sub | with_reducible apply e_tupS | with_reducible apply e_dspS | ((with_reducible apply LS_mk); exact rfl) | with_reducible refine' t_and ?_ (fun _ => ?_) | with_reducible refine' t_or ?_ (fun _ => ?_) | with_reducible refine' e_and ?_ (fun _ => ?_) | with_reducible refine' e_or ?_ (fun _ => ?_) | ((with_reducible apply b_powL); decide) | ((with_reducible apply b_pow); decide) | ((with_reducible apply b_fdiv); decide) | ((with_reducible apply b_mod); decide) | ((with_reducible apply b_mul); decide) | ((with_reducible apply b_mul); with_reducible assumption) | ((with_reducible apply b_fdiv); with_reducible assumption) | with_reducible apply b_mul | with_reducible apply b_fdiv | with_reducible apply b_mod | with_reducible apply b_shr | with_reducible apply b_cat | with_reducible apply l_str))) ?_
    refine w_for (fun j σ st' => st' = st ∧ ∃ (f : Int × Int) (a b : Option D), σ = [some (.tup ps), some (.tup ns), some (encF f), a, b] ∧ Red f ∧ Sz (128 + 401 * j) f.1 ∧ Sz (128 + 401 * j) f.2 ∧ qv f + dotQ (ps.drop j) (ns.drop j) = dotQ ps ns)
      (i_zipT (by (repeat' (first | with_reducible exact l_abs | with_reducible exact l_int | with_reducible exact l_intB | with_reducible exact l_lenT | with_reducible exact l_lenL | with_reducible exact l_lenS | with_reducible exact l_tupL | with_reducible exact l_tupT | with_reducible exact l_max | with_reducible exact l_min | with_reducible exact l_listT | with_reducible exact l_listL | with_reducible exact v_slcT | with_reducible exact l_isTT | with_reducible exact l_isII | with_reducible exact l_isBI | with_reducible exact l_isBB | with_reducible exact l_isSS | with_reducible exact l_isLL | with_reducible exact z_bl | with_reducible exact z_int | with_reducible exact v_slcL | with_reducible exact v_slcS | with_reducible exact e_int | with_reducible exact e_bl | with_reducible exact e_str | with_reducible exact e_non | with_reducible exact a_nil | with_reducible exact o_nil | with_reducible exact g_name | with_reducible exact gs_nil | with_reducible exact b_add | with_reducible exact b_sub | with_reducible exact u_neg | with_reducible exact c_lt | with_reducible exact c_le | with_reducible exact c_gt | with_reducible exact c_ge | with_reducible exact c_eqI | with_reducible exact c_neI | with_reducible exact c_eqS | with_reducible exact c_neS | ((with_reducible apply e_var); exact rfl) | ((with_reducible apply e_glb); exact rfl) | ((with_reducible apply x_tup); exact rfl) | ((with_reducible apply x_lst); exact rfl) | with_reducible apply a_cons | with_reducible apply e_bin | with_reducible apply e_un | with_reducible apply e_idx | with_reducible apply e_call | with_reducible apply e_blt | with_reducible apply e_cmp | with_reducible apply e_slc | with_reducible apply e_frz | with_reducible apply e_one | with_reducible apply e_not | with_reducible apply t_cmp | with_reducible apply t_not | with_reducible apply t_one | with_reducible apply t_ex | with_reducible apply o_cons | with_reducible apply g_tup | with_reducible apply gs_cons | with_reducible apply g_sub | with_reducible apply e_tupS | with_reducible apply e_dspS | ((with_reducible apply LS_mk); exact rfl) | with_reducible refine' t_and ?_ (fun _ => ?_) | with_reducible refine' t_or ?_ (fun _ => ?_) | with_reducible refine' e_and ?_ (fun _ => ?_) | with_reducible refine' e_or ?_ (fun _ => ?_) | ((with_reducible apply b_powL); decide) | ((with_reducible apply b_pow); decide) | ((with_reducible apply b_fdiv); decide) | ((with_reducible apply b_mod); decide) | ((with_reducible apply b_mul); decide) | ((with_reducible apply b_mul); with_reducible assumption) | ((with_reducible apply b_fdiv); with_reducible assumption) | with_reducible apply b_mul | with_reducible apply b_fdiv | with_reducible apply b_mod | with_reducible apply b_shr | with_reducible apply b_cat | with_reducible apply l_str))) (by (repeat' (first | with_reducible exact l_abs | with_reducible exact l_int | with_reducible exact l_intB | with_reducible exact l_lenT | with_reducible exact l_lenL | with_reducible exact l_lenS | with_reducible exact l_tupL | with_reducible exact l_tupT | with_reducible exact l_max | with_reducible exact l_min | with_reducible exact l_listT | with_reducible exact l_listL | with_reducible exact v_slcT | with_reducible exact l_isTT | with_reducible exact l_isII | with_reducible exact l_isBI | with_reducible exact l_isBB | with_reducible exact l_isSS | with_reducible exact l_isLL | with_reducible exact z_bl | with_reducible exact z_int | with_reducible exact v_slcL | with_reducible exact v_slcS | with_reducible exact e_int | with_reducible exact e_bl | with_reducible exact e_str | with_reducible exact e_non | with_reducible exact a_nil | with_reducible exact o_nil | with_reducible exact g_name | with_reducible exact gs_nil | with_reducible exact b_add | with_reducible exact b_sub | with_reducible exact u_neg | with_reducible exact c_lt | with_reducible exact c_le | with_reducible exact c_gt | with_reducible exact c_ge | with_reducible exact c_eqI | with_reducible exact c_neI | with_reducible exact c_eqS | with_reducible exact c_neS | ((with_reducible apply e_var); exact rfl) | ((with_reducible apply e_glb); exact rfl) | ((with_reducible apply x_tup); exact rfl) | ((with_reducible apply x_lst); exact rfl) | with_reducible apply a_cons | with_reducible apply e_bin | with_reducible apply e_un | with_reducible apply e_idx | with_reducible apply e_call | with_reducible apply e_blt | with_reducible apply e_cmp | with_reducible apply e_slc | with_reducible apply e_frz | with_reducible apply e_one | with_reducible apply e_not | with_reducible apply t_cmp | with_reducible apply t_not | with_reducible apply t_one | with_reducible apply t_ex | with_reducible apply o_cons | with_reducible apply g_tup | with_reducible apply gs_cons | with_reducible apply g_sub | with_reducible apply e_tupS | with_reducible apply e_dspS | ((with_reducible apply LS_mk); exact rfl) | with_reducible refine' t_and ?_ (fun _ => ?_) | with_reducible refine' t_or ?_ (fun _ => ?_) | with_reducible refine' e_and ?_ (fun _ => ?_) | with_reducible refine' e_or ?_ (fun _ => ?_) | ((with_reducible apply b_powL); decide) | ((with_reducible apply b_pow); decide) | ((with_reducible apply b_fdiv); decide) | ((with_reducible apply b_mod); decide) | ((with_reducible apply b_mul); decide) | ((with_reducible apply b_mul); with_reducible assumption) | ((with_reducible apply b_fdiv); with_reducible assumption) | with_reducible apply b_mul | with_reducible apply b_fdiv | with_reducible apply b_mod | with_reducible apply b_shr | with_reducible apply b_cat | with_reducible apply l_str)))) ⟨rfl, (0, 1), none, none, rfl, red_whole 0, Sz.lit (by decide), Sz.lit (by decide), by simp only [qv, List.drop_zero]; grind⟩ ?_ ?_
    · rintro j x σ st' hx ⟨rfl, f, a, b, rfl, rf, s1, s2, hq⟩
      obtain ⟨p, n, e1, e2, rfl⟩ := zip_item hx
      have hj : j < ps.length := by rw [List.getElem?_eq_some_iff] at e1; exact e1.1
      obtain ⟨ep, rp, sp1, sp2⟩ := (hp p (List.mem_of_getElem? e1)).get
      obtain ⟨en, rn, sn1, sn2⟩ := (hn n (List.mem_of_getElem? e2)).get
      rw [dot_at e1 e2] at hq
      generalize dq p = pp at *
      generalize dq n = nn at *
      subst ep
      subst en
      have b1 : pp.2 ≠ 0 := by have := rp.pos; omega
      have b2 : nn.2 ≠ 0 := by have := rn.pos; omega
      have b3 := Int.mul_ne_zero b1 b2
      have b4 : f.2 ≠ 0 := by have := rf.pos; omega
      have c1 := sp_times (gs := gs) k st' hv hw ht pp.1 pp.2 nn.1 nn.2 b1 b2 (by decide) sp1 sp2 sn1 sn2
      have rt := mkF_red (n := pp.1 * nn.1) b3
      have b5 : (mkF (pp.1 * nn.1) (pp.2 * nn.2)).2 ≠ 0 := by have := rt.pos; omega
      have st1 := mkF_sz (n := pp.1 * nn.1) b3 (sp1.mul sn1) (sp2.mul sn2)
      have qt := qv_times (a := pp.1) (b := pp.2) (c := nn.1) (d := nn.2) b1 b2
      generalize mkF (pp.1 * nn.1) (pp.2 * nn.2) = tt at *
      have c2 := sp_plus (gs := gs) (m := 1800) k st' hu hw ht f.1 f.2 tt.1 tt.2 b4 b5 (by decide) (s1.mono (by omega)) (s2.mono (by omega)) (st1.1.mono (by omega)) (st1.2.mono (by omega))
      refine ⟨_, _, by (repeat' (first | with_reducible exact l_abs | with_reducible exact l_int | with_reducible exact l_intB | with_reducible exact l_lenT | with_reducible exact l_lenL | with_reducible exact l_lenS | with_reducible exact l_tupL | with_reducible exact l_tupT | with_reducible exact l_max | with_reducible exact l_min | with_reducible exact l_listT | with_reducible exact l_listL | with_reducible exact v_slcT | with_reducible exact l_isTT | with_reducible exact l_isII | with_reducible exact l_isBI | with_reducible exact l_isBB | with_reducible exact l_isSS | with_reducible exact l_isLL | with_reducible exact z_bl | with_reducible exact z_int | with_reducible exact v_slcL | with_reducible exact v_slcS | with_reducible exact e_int | with_reducible exact e_bl | with_reducible exact e_str | with_reducible exact e_non | with_reducible exact a_nil | with_reducible exact o_nil | with_reducible exact g_name | with_reducible exact gs_nil | with_reducible exact b_add | with_reducible exact b_sub | with_reducible exact u_neg | with_reducible exact c_lt | with_reducible exact c_le | with_reducible exact c_gt | with_reducible exact c_ge | with_reducible exact c_eqI | with_reducible exact c_neI | with_reducible exact c_eqS | with_reducible exact c_neS | ((with_reducible apply e_var); exact rfl) | ((with_reducible apply e_glb); exact rfl) | ((with_reducible apply x_tup); exact rfl) | ((with_reducible apply x_lst); exact rfl) | with_reducible apply a_cons | with_reducible apply e_bin | with_reducible apply e_un | with_reducible apply e_idx | with_reducible apply e_call | with_reducible apply e_blt | with_reducible apply e_cmp | with_reducible apply e_slc | with_reducible apply e_frz | with_reducible apply e_one | with_reducible apply e_not | with_reducible apply t_cmp | with_reducible apply t_not | with_reducible apply t_one | with_reducible apply t_ex | with_reducible apply o_cons | with_reducible apply g_tup | with_reducible apply gs_cons | with_reducible apply g_sub | with_reducible apply e_tupS | with_reducible apply e_dspS | ((with_reducible apply LS_mk); exact rfl) | with_reducible refine' t_and ?_ (fun _ => ?_) | with_reducible refine' t_or ?_ (fun _ => ?_) | with_reducible refine' e_and ?_ (fun _ => ?_) | with_reducible refine' e_or ?_ (fun _ => ?_) | ((with_reducible apply b_powL); decide) | ((with_reducible apply b_pow); decide) | ((with_reducible apply b_fdiv); decide) | ((with_reducible apply b_mod); decide) | ((with_reducible apply b_mul); decide) | ((with_reducible apply b_mul); with_reducible assumption) | ((with_reducible apply b_fdiv); with_reducible assumption) | with_reducible apply b_mul | with_reducible apply b_fdiv | with_reducible apply b_mod | with_reducible apply b_shr | with_reducible apply b_cat | with_reducible apply l_str)), ?_⟩
      refine' w_asg (by (repeat' (first | with_reducible apply c1 | with_reducible apply c2 | with_reducible exact l_abs | with_reducible exact l_int | with_reducible exact l_intB | with_reducible exact l_lenT | with_reducible exact l_lenL | with_reducible exact l_lenS | with_reducible exact l_tupL | with_reducible exact l_tupT | with_reducible exact l_max | with_reducible exact l_min | with_reducible exact l_listT | with_reducible exact l_listL | with_reducible exact v_slcT | with_reducible exact l_isTT | with_reducible exact l_isII | with_reducible exact l_isBI | with_reducible exact l_isBB | with_reducible exact l_isSS | with_reducible exact l_isLL | with_reducible exact z_bl | with_reducible exact z_int | with_reducible exact v_slcL | with_reducible exact v_slcS | with_reducible exact e_int | with_reducible exact e_bl | with_reducible exact e_str | with_reducible exact e_non | with_reducible exact a_nil | with_reducible exact o_nil | with_reducible exact g_name | with_reducible exact gs_nil | with_reducible exact b_add | with_reducible exact b_sub | with_reducible exact u_neg | with_reducible exact c_lt | with_reducible exact c_le | with_reducible exact c_gt | with_reducible exact c_ge | with_reducible exact c_eqI | with_reducible exact c_neI | with_reducible exact c_eqS | with_reducible exact c_neS | ((with_reducible apply e_var); exact rfl) | ((with_reducible apply e_glb); exact rfl) | ((with_reducible apply x_tup); exact rfl) | ((with_reducible apply x_lst); exact rfl) | with_reducible apply a_cons | with_reducible apply e_bin | with_reducible apply e_un | with_reducible apply e_idx | with_reducible apply e_call | with_reducible apply e_blt | with_reducible apply e_cmp | with_reducible apply e_slc | with_reducible apply e_frz | with_reducible apply e_one | with_reducible apply e_not | with_reducible apply t_cmp | with_reducible apply t_not | with_reducible apply t_one | with_reducible apply t_ex | with_reducible apply o_cons | with_reducible apply g_tup | with_reducible apply gs_cons | with_reducible apply g_sub | with_reducible apply e_tupS | with_reducible apply e_dspS | ((with_reducible apply LS_mk); exact rfl) | with_reducible refine' t_and ?_ (fun _ => ?_) | with_reducible refine' t_or ?_ (fun _ => ?_) | with_reducible refine' e_and ?_ (fun _ => ?_) | with_reducible refine' e_or ?_ (fun _ => ?_) | ((with_reducible apply b_powL); decide) | ((with_reducible apply b_pow); decide) | ((with_reducible apply b_fdiv); decide) | ((with_reducible apply b_mod); decide) | ((with_reducible apply b_mul); decide) | ((with_reducible apply b_mul); with_reducible assumption) | ((with_reducible apply b_fdiv); with_reducible assumption) | with_reducible apply b_mul | with_reducible apply b_fdiv | with_reducible apply b_mod | with_reducible apply b_shr | with_reducible apply b_cat | with_reducible apply l_str))) ?_
      have b6 := Int.mul_ne_zero b4 b5
      have sz := mkF_sz (n := f.1 * tt.2 + tt.1 * f.2) b6 ((s1.mul st1.2).add (st1.1.mul s2)) (s2.mul st1.2)
      refine w_nil ⟨rfl, mkF (f.1 * tt.2 + tt.1 * f.2) (f.2 * tt.2), _, _, rfl, mkF_red b6, sz.1.mono (by omega), sz.2.mono (by omega), ?_⟩
      rw [qv_plus b4 b5]
      have e1 : qv (f.1, f.2) = qv f := rfl
      have e2 : qv (tt.1, tt.2) = qv tt := rfl
      have e3 : qv (pp.1, pp.2) = qv pp := rfl
      have e4 : qv (nn.1, nn.2) = qv nn := rfl
      rw [e1, e2]
      rw [e3, e4] at qt
      rw [qt]
      grind
    · rintro σ st' ⟨rfl, f, a, b, rfl, rf, s1, s2, hq⟩
      rw [zip_len hl] at s1 s2 hq
      rw [List.drop_eq_nil_of_le (Nat.le_refl _)] at hq
      refine' w_ret (by (repeat' (first | with_reducible exact l_abs | with_reducible exact l_int | with_reducible exact l_intB | with_reducible exact l_lenT | with_reducible exact l_lenL | with_reducible exact l_lenS | with_reducible exact l_tupL | with_reducible exact l_tupT | with_reducible exact l_max | with_reducible exact l_min | with_reducible exact l_listT | with_reducible exact l_listL | with_reducible exact v_slcT | with_reducible exact l_isTT | with_reducible exact l_isII | with_reducible exact l_isBI | with_reducible exact l_isBB | with_reducible exact l_isSS | with_reducible exact l_isLL | with_reducible exact z_bl | with_reducible exact z_int | with_reducible exact v_slcL | with_reducible exact v_slcS | with_reducible exact e_int | with_reducible exact e_bl | with_reducible exact e_str | with_reducible exact e_non | with_reducible exact a_nil | with_reducible exact o_nil | with_reducible exact g_name | with_reducible exact gs_nil | with_reducible exact b_add | with_reducible exact b_sub | with_reducible exact u_neg | with_reducible exact c_lt | with_reducible exact c_le | with_reducible exact c_gt | with_reducible exact c_ge | with_reducible exact c_eqI | with_reducible exact c_neI | with_reducible exact c_eqS | with_reducible exact c_neS | ((with_reducible apply e_var); exact rfl) | ((with_reducible apply e_glb); exact rfl) | ((with_reducible apply x_tup); exact rfl) | ((with_reducible apply x_lst); exact rfl) | with_reducible apply a_cons | with_reducible apply e_bin | with_reducible apply e_un | with_reducible apply e_idx | with_reducible apply e_call | with_reducible apply e_blt | with_reducible apply e_cmp | with_reducible apply e_slc | with_reducible apply e_frz | with_reducible apply e_one | with_reducible apply e_not | with_reducible apply t_cmp | with_reducible apply t_not | with_reducible apply t_one | with_reducible apply t_ex | with_reducible apply o_cons | with_reducible apply g_tup | with_reducible apply gs_cons | with_reducible apply g_sub | with_reducible apply e_tupS | with_reducible apply e_dspS | ((with_reducible apply LS_mk); exact rfl) | with_reducible refine' t_and ?_ (fun _ => ?_) | with_reducible refine' t_or ?_ (fun _ => ?_) | with_reducible refine' e_and ?_ (fun _ => ?_) | with_reducible refine' e_or ?_ (fun _ => ?_) | ((with_reducible apply b_powL); decide) | ((with_reducible apply b_pow); decide) | ((with_reducible apply b_fdiv); decide) | ((with_reducible apply b_mod); decide) | ((with_reducible apply b_mul); decide) | ((with_reducible apply b_mul); with_reducible assumption) | ((with_reducible apply b_fdiv); with_reducible assumption) | with_reducible apply b_mul | with_reducible apply b_fdiv | with_reducible apply b_mod | with_reducible apply b_shr | with_reducible apply b_cat | with_reducible apply l_str))) ?_
      refine ⟨rfl, f, rfl, rf, s1.mono (by omega), s2.mono (by omega), ?_⟩
      rw [← hq]
      simp only [dotQ]
      grind
  obtain ⟨d, e, f, rfl, q⟩ := q
  exact ⟨f, e, q⟩
/-- whether a line holds -/
noncomputable def holdB (kd : Str) (x b : Rat) : Bool := if kd = "=" then decide (x = b) else if kd = "<" then decide (x < b) else decide (x ≤ b)
theorem sp_holds (k : Nat) (hi : fs[i]? = some (T_holds e u)) (he : fs[e]? = some (T_product_sum g v w)) (hg : gs[g]? = some (.tup [.int 0, .int 1])) {m t : Nat} (hv : fs[v]? = some (T_plus m)) (hw : fs[w]? = some (T_times m)) (hm : fs[m]? = some (T_make t)) (ht : fs[t]? = some T_divisor) (hu : fs[u]? = some T_below)
    {kd : Str} {ps ns : List D} {b : D} (hk : kd = "=" ∨ kd = "<" ∨ kd = "<=") (hp : ∀ p ∈ ps, isFr 200 p) (hn : ∀ n ∈ ns, isFr 200 n) (hl : ns.length = ps.length) (h3 : ps.length ≤ 3) (hb : isFr 1500 b) :
    run gs fs (k + 5) i [.tup [.str kd, .tup ps, b], .tup ns] st = some (.bl (holdB kd (dotQ ps ns) (qv (dq b))), st) := by
  obtain ⟨f, e1, rf, s1, s2, hq⟩ := sp_psum (gs := gs) st k he hg hv hw hm ht hp hn hl h3
  obtain ⟨eb, rb, sb1, sb2⟩ := hb.get
  generalize dq b = bb at *
  subst eb
  have c1 := sp_below (gs := gs) (m := 1500) (k + 3) st hu f.1 f.2 bb.1 bb.2 (by decide) s1 s2 sb1 sb2
  have c2 := sp_below (gs := gs) (m := 1500) (k + 3) st hu bb.1 bb.2 f.1 f.2 (by decide) sb1 sb2 s1 s2
  have l1 := qv_lt rf.pos rb.pos
  have l2 := qv_lt rb.pos rf.pos
  have l3 := qv_eq rf rb
  rw [hq] at l1 l2 l3
  refine run_rt (T_holds e u) hi rfl ?_
  refine' s_asgG (by (repeat' (first | with_reducible exact l_abs | with_reducible exact l_int | with_reducible exact l_intB | with_reducible exact l_lenT | with_reducible exact l_lenL | with_reducible exact l_lenS | with_reducible exact l_tupL | with_reducible exact l_tupT | with_reducible exact l_max | with_reducible exact l_min | with_reducible exact l_listT | with_reducible exact l_listL | with_reducible exact v_slcT | with_reducible exact l_isTT | with_reducible exact l_isII | with_reducible exact l_isBI | with_reducible exact l_isBB | with_reducible exact l_isSS | with_reducible exact l_isLL | with_reducible exact z_bl | with_reducible exact z_int | with_reducible exact v_slcL | with_reducible exact v_slcS | with_reducible exact e_int | with_reducible exact e_bl | with_reducible exact e_str | with_reducible exact e_non | with_reducible exact a_nil | with_reducible exact o_nil | with_reducible exact g_name | with_reducible exact gs_nil | with_reducible exact b_add | with_reducible exact b_sub | with_reducible exact u_neg | with_reducible exact c_lt | with_reducible exact c_le | with_reducible exact c_gt | with_reducible exact c_ge | with_reducible exact c_eqI | with_reducible exact c_neI | with_reducible exact c_eqS | with_reducible exact c_neS | ((with_reducible apply e_var); exact rfl) | ((with_reducible apply e_glb); exact rfl) | ((with_reducible apply x_tup); exact rfl) | ((with_reducible apply x_lst); exact rfl) | with_reducible apply a_cons | with_reducible apply e_bin | with_reducible apply e_un | with_reducible apply e_idx | with_reducible apply e_call | with_reducible apply e_blt | with_reducible apply e_cmp | with_reducible apply e_slc | with_reducible apply e_frz | with_reducible apply e_one | with_reducible apply e_not | with_reducible apply t_cmp | with_reducible apply t_not | with_reducible apply t_one | with_reducible apply t_ex | with_reducible apply o_cons | with_reducible apply g_tup | with_reducible apply gs_cons | with_reducible apply g_sub | with_reducible apply e_tupS | with_reducible apply e_dspS | ((with_reducible apply LS_mk); exact rfl) | with_reducible refine' t_and ?_ (fun _ => ?_) | with_reducible refine' t_or ?_ (fun _ => ?_) | with_reducible refine' e_and ?_ (fun _ => ?_) | with_reducible refine' e_or ?_ (fun _ => ?_) | ((with_reducible apply b_powL); decide) | ((with_reducible apply b_pow); decide) | ((with_reducible apply b_fdiv); decide) | ((with_reducible apply b_mod); decide) | ((with_reducible apply b_mul); decide) | ((with_reducible apply b_mul); with_reducible assumption) | ((with_reducible apply b_fdiv); with_reducible assumption) | with_reducible apply b_mul | with_reducible apply b_fdiv | with_reducible apply b_mod | with_reducible apply b_shr | with_reducible apply b_cat | with_reducible apply l_str))) (by (repeat' (first | with_reducible exact l_abs | with_reducible exact l_int | with_reducible exact l_intB | with_reducible exact l_lenT | with_reducible exact l_lenL | with_reducible exact l_lenS | with_reducible exact l_tupL | with_reducible exact l_tupT | with_reducible exact l_max | with_reducible exact l_min | with_reducible exact l_listT | with_reducible exact l_listL | with_reducible exact v_slcT | with_reducible exact l_isTT | with_reducible exact l_isII | with_reducible exact l_isBI | with_reducible exact l_isBB | with_reducible exact l_isSS | with_reducible exact l_isLL | with_reducible exact z_bl | with_reducible exact z_int | with_reducible exact v_slcL | with_reducible exact v_slcS | with_reducible exact e_int | with_reducible exact e_bl | with_reducible exact e_str | with_reducible exact e_non | with_reducible exact a_nil | with_reducible exact o_nil | with_reducible exact g_name | with_reducible exact gs_nil | with_reducible exact b_add | with_reducible exact b_sub | with_reducible exact u_neg | with_reducible exact c_lt | with_reducible exact c_le | with_reducible exact c_gt | with_reducible exact c_ge | with_reducible exact c_eqI | with_reducible exact c_neI | with_reducible exact c_eqS | with_reducible exact c_neS | ((with_reducible apply e_var); exact rfl) | ((with_reducible apply e_glb); exact rfl) | ((with_reducible apply x_tup); exact rfl) | ((with_reducible apply x_lst); exact rfl) | with_reducible apply a_cons | with_reducible apply e_bin | with_reducible apply e_un | with_reducible apply e_idx | with_reducible apply e_call | with_reducible apply e_blt | with_reducible apply e_cmp | with_reducible apply e_slc | with_reducible apply e_frz | with_reducible apply e_one | with_reducible apply e_not | with_reducible apply t_cmp | with_reducible apply t_not | with_reducible apply t_one | with_reducible apply t_ex | with_reducible apply o_cons | with_reducible apply g_tup | with_reducible apply gs_cons | with_reducible apply g_sub | with_reducible apply e_tupS | with_reducible apply e_dspS | ((with_reducible apply LS_mk); exact rfl) | with_reducible refine' t_and ?_ (fun _ => ?_) | with_reducible refine' t_or ?_ (fun _ => ?_) | with_reducible refine' e_and ?_ (fun _ => ?_) | with_reducible refine' e_or ?_ (fun _ => ?_) | ((with_reducible apply b_powL); decide) | ((with_reducible apply b_pow); decide) | ((with_reducible apply b_fdiv); decide) | ((with_reducible apply b_mod); decide) | ((with_reducible apply b_mul); decide) | ((with_reducible apply b_mul); with_reducible assumption) | ((with_reducible apply b_fdiv); with_reducible assumption) | with_reducible apply b_mul | with_reducible apply b_fdiv | with_reducible apply b_mod | with_reducible apply b_shr | with_reducible apply b_cat | with_reducible apply l_str))) ?_
  refine' s_asg (by (repeat' (first | with_reducible apply e1 | with_reducible exact l_abs | with_reducible exact l_int | with_reducible exact l_intB | with_reducible exact l_lenT | with_reducible exact l_lenL | with_reducible exact l_lenS | with_reducible exact l_tupL | with_reducible exact l_tupT | with_reducible exact l_max | with_reducible exact l_min | with_reducible exact l_listT | with_reducible exact l_listL | with_reducible exact v_slcT | with_reducible exact l_isTT | with_reducible exact l_isII | with_reducible exact l_isBI | with_reducible exact l_isBB | with_reducible exact l_isSS | with_reducible exact l_isLL | with_reducible exact z_bl | with_reducible exact z_int | with_reducible exact v_slcL | with_reducible exact v_slcS | with_reducible exact e_int | with_reducible exact e_bl | with_reducible exact e_str | with_reducible exact e_non | with_reducible exact a_nil | with_reducible exact o_nil | with_reducible exact g_name | with_reducible exact gs_nil | with_reducible exact b_add | with_reducible exact b_sub | with_reducible exact u_neg | with_reducible exact c_lt | with_reducible exact c_le | with_reducible exact c_gt | with_reducible exact c_ge | with_reducible exact c_eqI | with_reducible exact c_neI | with_reducible exact c_eqS | with_reducible exact c_neS | ((with_reducible apply e_var); exact rfl) | ((with_reducible apply e_glb); exact rfl) | ((with_reducible apply x_tup); exact rfl) | ((with_reducible apply x_lst); exact rfl) | with_reducible apply a_cons | with_reducible apply e_bin | with_reducible apply e_un | with_reducible apply e_idx | with_reducible apply e_call | with_reducible apply e_blt | with_reducible apply e_cmp | with_reducible apply e_slc | with_reducible apply e_frz | with_reducible apply e_one | with_reducible apply e_not | with_reducible apply t_cmp | with_reducible apply t_not | with_reducible apply t_one | with_reducible apply t_ex | with_reducible apply o_cons | with_reducible apply g_tup | with_reducible apply gs_cons | with_reducible apply g_sub | with_reducible apply e_tupS | with_reducible apply e_dspS | ((with_reducible apply LS_mk); exact rfl) | with_reducible refine' t_and ?_ (fun _ => ?_) | with_reducible refine' t_or ?_ (fun _ => ?_) | with_reducible refine' e_and ?_ (fun _ => ?_) | with_reducible refine' e_or ?_ (fun _ => ?_) | ((with_reducible apply b_powL); decide) | ((with_reducible apply b_pow); decide) | ((with_reducible apply b_fdiv); decide) | ((with_reducible apply b_mod); decide) | ((with_reducible apply b_mul); decide) | ((with_reducible apply b_mul); with_reducible assumption) | ((with_reducible apply b_fdiv); with_reducible assumption) | with_reducible apply b_mul | with_reducible apply b_fdiv | with_reducible apply b_mod | with_reducible apply b_shr | with_reducible apply b_cat | with_reducible apply l_str))) ?_
  have n1 : ("<" : Str) ≠ "=" := by decide +kernel
  have n2 : ("<=" : Str) ≠ "=" := by decide +kernel
  have n3 : ("<=" : Str) ≠ "<" := by decide +kernel
  refine' s_if (by (repeat' (first | with_reducible exact l_abs | with_reducible exact l_int | with_reducible exact l_intB | with_reducible exact l_lenT | with_reducible exact l_lenL | with_reducible exact l_lenS | with_reducible exact l_tupL | with_reducible exact l_tupT | with_reducible exact l_max | with_reducible exact l_min | with_reducible exact l_listT | with_reducible exact l_listL | with_reducible exact v_slcT | with_reducible exact l_isTT | with_reducible exact l_isII | with_reducible exact l_isBI | with_reducible exact l_isBB | with_reducible exact l_isSS | with_reducible exact l_isLL | with_reducible exact z_bl | with_reducible exact z_int | with_reducible exact v_slcL | with_reducible exact v_slcS | with_reducible exact e_int | with_reducible exact e_bl | with_reducible exact e_str | with_reducible exact e_non | with_reducible exact a_nil | with_reducible exact o_nil | with_reducible exact g_name | with_reducible exact gs_nil | with_reducible exact b_add | with_reducible exact b_sub | with_reducible exact u_neg | with_reducible exact c_lt | with_reducible exact c_le | with_reducible exact c_gt | with_reducible exact c_ge | with_reducible exact c_eqI | with_reducible exact c_neI | with_reducible exact c_eqS | with_reducible exact c_neS | ((with_reducible apply e_var); exact rfl) | ((with_reducible apply e_glb); exact rfl) | ((with_reducible apply x_tup); exact rfl) | ((with_reducible apply x_lst); exact rfl) | with_reducible apply a_cons | with_reducible apply e_bin | with_reducible apply e_un | with_reducible apply e_idx | with_reducible apply e_call | with_reducible apply e_blt | with_reducible apply e_cmp | with_reducible apply e_slc | with_reducible apply e_frz | with_reducible apply e_one | with_reducible apply e_not | with_reducible apply t_cmp | with_reducible apply t_not | with_reducible apply t_one | with_reducible apply t_ex | with_reducible apply o_cons | with_reducible apply g_tup | with_reducible apply gs_cons | with_reducible apply g_sub | with_reducible apply e_tupS | with_reducible apply e_dspS | ((with_reducible apply LS_mk); exact rfl) | with_reducible refine' t_and ?_ (fun _ => ?_) | with_reducible refine' t_or ?_ (fun _ => ?_) | with_reducible refine' e_and ?_ (fun _ => ?_) | with_reducible refine' e_or ?_ (fun _ => ?_) | ((with_reducible apply b_powL); decide) | ((with_reducible apply b_pow); decide) | ((with_reducible apply b_fdiv); decide) | ((with_reducible apply b_mod); decide) | ((with_reducible apply b_mul); decide) | ((with_reducible apply b_mul); with_reducible assumption) | ((with_reducible apply b_fdiv); with_reducible assumption) | with_reducible apply b_mul | with_reducible apply b_fdiv | with_reducible apply b_mod | with_reducible apply b_shr | with_reducible apply b_cat | with_reducible apply l_str))) rfl rfl (fun h => ?_) (fun h => ?_)
  · have h : kd = "=" := by simpa using h
    subst h
    have ev : holdB "=" (dotQ ps ns) (qv bb) = eqD (drf st (encF f)) (drf st (encF bb)) := by
      show _ = eqD (encF f) (encF bb)
      rw [encF_inj]
      unfold holdB
      rw [if_pos rfl]
      by_cases hz : f = bb
      · rw [decide_eq_true hz, decide_eq_true (l3.mp hz)]
      · rw [decide_eq_false hz, decide_eq_false (fun z => hz (l3.mpr z))]
    rw [ev]
    refine s_ret ?_
    (repeat' (first | ((with_reducible apply c_eq); exact encF_ok (a := f); exact encF_ok (a := bb)) | with_reducible exact l_abs | with_reducible exact l_int | with_reducible exact l_intB | with_reducible exact l_lenT | with_reducible exact l_lenL | with_reducible exact l_lenS | with_reducible exact l_tupL | with_reducible exact l_tupT | with_reducible exact l_max | with_reducible exact l_min | with_reducible exact l_listT | with_reducible exact l_listL | with_reducible exact v_slcT | with_reducible exact l_isTT | with_reducible exact l_isII | with_reducible exact l_isBI | with_reducible exact l_isBB | with_reducible exact l_isSS | with_reducible exact l_isLL | with_reducible exact z_bl | with_reducible exact z_int | with_reducible exact v_slcL | with_reducible exact v_slcS | with_reducible exact e_int | with_reducible exact e_bl | with_reducible exact e_str | with_reducible exact e_non | with_reducible exact a_nil | with_reducible exact o_nil | with_reducible exact g_name | with_reducible exact gs_nil | with_reducible exact b_add | with_reducible exact b_sub | with_reducible exact u_neg | with_reducible exact c_lt | with_reducible exact c_le | with_reducible exact c_gt | with_reducible exact c_ge | with_reducible exact c_eqI | with_reducible exact c_neI | with_reducible exact c_eqS | with_reducible exact c_neS | ((with_reducible apply e_var); exact rfl) | ((with_reducible apply e_glb); exact rfl) | ((with_reducible apply x_tup); exact rfl) | ((with_reducible apply x_lst); exact rfl) | with_reducible apply a_cons | with_reducible apply e_bin | with_reducible apply e_un | with_reducible apply e_idx | with_reducible apply e_call | with_reducible apply e_blt | with_reducible apply e_cmp | with_reducible apply e_slc | with_reducible apply e_frz | with_reducible apply e_one | with_reducible apply e_not | with_reducible apply t_cmp | with_reducible apply t_not | with_reducible apply t_one | with_reducible apply t_ex | with_reducible apply o_cons | with_reducible apply g_tup | with_reducible apply gs_cons | with_reducible apply g_sub | with_reducible apply e_tupS | with_reducible apply e_dspS | ((with_reducible apply LS_mk); exact rfl) | with_reducible refine' t_and ?_ (fun _ => ?_) | with_reducible refine' t_or ?_ (fun _ => ?_) | with_reducible refine' e_and ?_ (fun _ => ?_) | with_reducible refine' e_or ?_ (fun _ => ?_) | ((with_reducible apply b_powL); decide) | ((with_reducible apply b_pow); decide) | ((with_reducible apply b_fdiv); decide) | ((with_reducible apply b_mod); decide) | ((with_reducible apply b_mul); decide) | ((with_reducible apply b_mul); with_reducible assumption) | ((with_reducible apply b_fdiv); with_reducible assumption) | with_reducible apply b_mul | with_reducible apply b_fdiv | with_reducible apply b_mod | with_reducible apply b_shr | with_reducible apply b_cat | with_reducible apply l_str))
  have h0 : kd ≠ "=" := by simpa using h
  refine' s_if (by (repeat' (first | with_reducible exact l_abs | with_reducible exact l_int | with_reducible exact l_intB | with_reducible exact l_lenT | with_reducible exact l_lenL | with_reducible exact l_lenS | with_reducible exact l_tupL | with_reducible exact l_tupT | with_reducible exact l_max | with_reducible exact l_min | with_reducible exact l_listT | with_reducible exact l_listL | with_reducible exact v_slcT | with_reducible exact l_isTT | with_reducible exact l_isII | with_reducible exact l_isBI | with_reducible exact l_isBB | with_reducible exact l_isSS | with_reducible exact l_isLL | with_reducible exact z_bl | with_reducible exact z_int | with_reducible exact v_slcL | with_reducible exact v_slcS | with_reducible exact e_int | with_reducible exact e_bl | with_reducible exact e_str | with_reducible exact e_non | with_reducible exact a_nil | with_reducible exact o_nil | with_reducible exact g_name | with_reducible exact gs_nil | with_reducible exact b_add | with_reducible exact b_sub | with_reducible exact u_neg | with_reducible exact c_lt | with_reducible exact c_le | with_reducible exact c_gt | with_reducible exact c_ge | with_reducible exact c_eqI | with_reducible exact c_neI | with_reducible exact c_eqS | with_reducible exact c_neS | ((with_reducible apply e_var); exact rfl) | ((with_reducible apply e_glb); exact rfl) | ((with_reducible apply x_tup); exact rfl) | ((with_reducible apply x_lst); exact rfl) | with_reducible apply a_cons | with_reducible apply e_bin | with_reducible apply e_un | with_reducible apply e_idx | with_reducible apply e_call | with_reducible apply e_blt | with_reducible apply e_cmp | with_reducible apply e_slc | with_reducible apply e_frz | with_reducible apply e_one | with_reducible apply e_not | with_reducible apply t_cmp | with_reducible apply t_not | with_reducible apply t_one | with_reducible apply t_ex | with_reducible apply o_cons | with_reducible apply g_tup | with_reducible apply gs_cons | with_reducible apply g_sub | with_reducible apply e_tupS | with_reducible apply e_dspS | ((with_reducible apply LS_mk); exact rfl) | with_reducible refine' t_and ?_ (fun _ => ?_) | with_reducible refine' t_or ?_ (fun _ => ?_) | with_reducible refine' e_and ?_ (fun _ => ?_) | with_reducible refine' e_or ?_ (fun _ => ?_) | ((with_reducible apply b_powL); decide) | ((with_reducible apply b_pow); decide) | ((with_reducible apply b_fdiv); decide) | ((with_reducible apply b_mod); decide) | ((with_reducible apply b_mul); decide) | ((with_reducible apply b_mul); with_reducible assumption) | ((with_reducible apply b_fdiv); with_reducible assumption) | with_reducible apply b_mul | with_reducible apply b_fdiv | with_reducible apply b_mod | with_reducible apply b_shr | with_reducible apply b_cat | with_reducible apply l_str))) rfl rfl (fun h => ?_) (fun h => ?_)
  · have h : kd = "<" := by simpa using h
    subst h
    have ev : holdB "<" (dotQ ps ns) (qv bb) = decide (f.1 * bb.2 < bb.1 * f.2) := by
      unfold holdB
      rw [if_neg n1, if_pos rfl]
      by_cases hz : f.1 * bb.2 < bb.1 * f.2
      · rw [decide_eq_true hz, decide_eq_true (l1.mp hz)]
      · rw [decide_eq_false hz, decide_eq_false (fun z => hz (l1.mpr z))]
    rw [ev]
    refine s_ret ?_
    (repeat' (first | with_reducible apply c1 | with_reducible exact l_abs | with_reducible exact l_int | with_reducible exact l_intB | with_reducible exact l_lenT | with_reducible exact l_lenL | with_reducible exact l_lenS | with_reducible exact l_tupL | with_reducible exact l_tupT | with_reducible exact l_max | with_reducible exact l_min | with_reducible exact l_listT | with_reducible exact l_listL | with_reducible exact v_slcT | with_reducible exact l_isTT | with_reducible exact l_isII | with_reducible exact l_isBI | with_reducible exact l_isBB | with_reducible exact l_isSS | with_reducible exact l_isLL | with_reducible exact z_bl | with_reducible exact z_int | with_reducible exact v_slcL | with_reducible exact v_slcS | with_reducible exact e_int | with_reducible exact e_bl | with_reducible exact e_str | with_reducible exact e_non | with_reducible exact a_nil | with_reducible exact o_nil | with_reducible exact g_name | with_reducible exact gs_nil | with_reducible exact b_add | with_reducible exact b_sub | with_reducible exact u_neg | with_reducible exact c_lt | with_reducible exact c_le | with_reducible exact c_gt | with_reducible exact c_ge | with_reducible exact c_eqI | with_reducible exact c_neI | with_reducible exact c_eqS | with_reducible exact c_neS | ((with_reducible apply e_var); exact rfl) | ((with_reducible apply e_glb); exact rfl) | ((with_reducible apply x_tup); exact rfl) | ((with_reducible apply x_lst); exact rfl) | with_reducible apply a_cons | with_reducible apply e_bin | with_reducible apply e_un | with_reducible apply e_idx | with_reducible apply e_call | with_reducible apply e_blt | with_reducible apply e_cmp | with_reducible apply e_slc | with_reducible apply e_frz | with_reducible apply e_one | with_reducible apply e_not | with_reducible apply t_cmp | with_reducible apply t_not | with_reducible apply t_one | with_reducible apply t_ex | with_reducible apply o_cons | with_reducible apply g_tup | with_reducible apply gs_cons | with_reducible apply g_sub | with_reducible apply e_tupS | with_reducible apply e_dspS | ((with_reducible apply LS_mk); exact rfl) | with_reducible refine' t_and ?_ (fun _ => ?_) | with_reducible refine' t_or ?_ (fun _ => ?_) | with_reducible refine' e_and ?_ (fun _ => ?_) | with_reducible refine' e_or ?_ (fun _ => ?_) | ((with_reducible apply b_powL); decide) | ((with_reducible apply b_pow); decide) | ((with_reducible apply b_fdiv); decide) | ((with_reducible apply b_mod); decide) | ((with_reducible apply b_mul); decide) | ((with_reducible apply b_mul); with_reducible assumption) | ((with_reducible apply b_fdiv); with_reducible assumption) | with_reducible apply b_mul | with_reducible apply b_fdiv | with_reducible apply b_mod | with_reducible apply b_shr | with_reducible apply b_cat | with_reducible apply l_str))
  · have h1 : kd ≠ "<" := by simpa using h
    have h : kd = "<=" := by rcases hk with h | h | h <;> first | exact absurd h h0 | exact absurd h h1 | exact h
    subst h
    have ev : holdB "<=" (dotQ ps ns) (qv bb) = !decide (bb.1 * f.2 < f.1 * bb.2) := by
      unfold holdB
      rw [if_neg n2, if_neg n3]
      by_cases hz : bb.1 * f.2 < f.1 * bb.2
      · rw [decide_eq_true hz, decide_eq_false (Rat.not_le.mpr (l2.mp hz))]; rfl
      · rw [decide_eq_false hz, decide_eq_true (Rat.not_lt.mp (fun z => hz (l2.mpr z)))]; rfl
    rw [ev]
    refine s_ret ?_
    (repeat' (first | with_reducible apply c2 | with_reducible exact l_abs | with_reducible exact l_int | with_reducible exact l_intB | with_reducible exact l_lenT | with_reducible exact l_lenL | with_reducible exact l_lenS | with_reducible exact l_tupL | with_reducible exact l_tupT | with_reducible exact l_max | with_reducible exact l_min | with_reducible exact l_listT | with_reducible exact l_listL | with_reducible exact v_slcT | with_reducible exact l_isTT | with_reducible exact l_isII | with_reducible exact l_isBI | with_reducible exact l_isBB | with_reducible exact l_isSS | with_reducible exact l_isLL | with_reducible exact z_bl | with_reducible exact z_int | with_reducible exact v_slcL | with_reducible exact v_slcS | with_reducible exact e_int | with_reducible exact e_bl | with_reducible exact e_str | with_reducible exact e_non | with_reducible exact a_nil | with_reducible exact o_nil | with_reducible exact g_name | with_reducible exact gs_nil | with_reducible exact b_add | with_reducible exact b_sub | with_reducible exact u_neg | with_reducible exact c_lt | with_reducible exact c_le | with_reducible exact c_gt | with_reducible exact c_ge | with_reducible exact c_eqI | with_reducible exact c_neI | with_reducible exact c_eqS | with_reducible exact c_neS | ((with_reducible apply e_var); exact rfl) | ((with_reducible apply e_glb); exact rfl) | ((with_reducible apply x_tup); exact rfl) | ((with_reducible apply x_lst); exact rfl) | with_reducible apply a_cons | with_reducible apply e_bin | with_reducible apply e_un | with_reducible apply e_idx | with_reducible apply e_call | with_reducible apply e_blt | with_reducible apply e_cmp | with_reducible apply e_slc | with_reducible apply e_frz | with_reducible apply e_one | with_reducible apply e_not | with_reducible apply t_cmp | with_reducible apply t_not | with_reducible apply t_one | with_reducible apply t_ex | with_reducible apply o_cons | with_reducible apply g_tup | with_reducible apply gs_cons | with_reducible apply g_sub | with_reducible apply e_tupS | with_reducible apply e_dspS | ((with_reducible apply LS_mk); exact rfl) | with_reducible refine' t_and ?_ (fun _ => ?_) | with_reducible refine' t_or ?_ (fun _ => ?_) | with_reducible refine' e_and ?_ (fun _ => ?_) | with_reducible refine' e_or ?_ (fun _ => ?_) | ((with_reducible apply b_powL); decide) | ((with_reducible apply b_pow); decide) | ((with_reducible apply b_fdiv); decide) | ((with_reducible apply b_mod); decide) | ((with_reducible apply b_mul); decide) | ((with_reducible apply b_mul); with_reducible assumption) | ((with_reducible apply b_fdiv); with_reducible assumption) | with_reducible apply b_mul | with_reducible apply b_fdiv | with_reducible apply b_mod | with_reducible apply b_shr | with_reducible apply b_cat | with_reducible apply l_str))
theorem cast_fdiv {B d : Int} (h0 : d ≠ 0) (h : d ∣ B) : ((B.fdiv d : Int) : Rat) = (B : Rat) / (d : Rat) := by
  obtain ⟨c, rfl⟩ := h
  rw [Int.mul_fdiv_cancel_left _ h0]
  have := cast_ne h0
  simp only [Rat.intCast_mul]
  grind
theorem fdiv_sz {n : Nat} {B d : Int} (s : Sz n B) (h0 : 0 < d) : Sz n (B.fdiv d) := s.fdiv h0
/-- sums over one bottom -/
theorem sp_sides (k : Nat) (hi : fs[i]? = some T_law_sides) {ps ns : List D} {b : D} (hp : ∀ p ∈ ps, isFr 200 p) (hn : ∀ n ∈ ns, isFr 200 n) (hl : ns.length = ps.length) (h3 : ps.length ≤ 3) (hb : isFr 400 b) :
    ∃ T X B : Int, run gs fs (k + 1) i [.tup ps, .tup ns, b] st = some (.tup [.int T, .int X, .int B], st) ∧ 0 < B ∧ (T : Rat) = dotQ ps ns * (B : Rat) ∧ (X : Rat) = qv (dq b) * (B : Rat) ∧ Sz 1800 B ∧ Sz 3000 T := by
  obtain ⟨eb, rb, sb1, sb2⟩ := hb.get
  generalize dq b = bb at *
  subst eb
  have bp := rb.pos
  have w : ∃ d, run gs fs (k + 1) i [.tup ps, .tup ns, .tup [.int bb.1, .int bb.2]] st = some (d, st) ∧ ∃ T X B : Int, d = .tup [.int T, .int X, .int B] ∧ 0 < B ∧ (T : Rat) = dotQ ps ns * (B : Rat) ∧ (X : Rat) = qv bb * (B : Rat) ∧ Sz 1800 B ∧ Sz 3000 T := by
    refine run_wp T_law_sides hi rfl _ ?_
    refine' w_asg (by (repeat' (first | with_reducible exact l_abs | with_reducible exact l_int | with_reducible exact l_intB | with_reducible exact l_lenT | with_reducible exact l_lenL | with_reducible exact l_lenS | with_reducible exact l_tupL | with_reducible exact l_tupT | with_reducible exact l_max | with_reducible exact l_min | with_reducible exact l_listT | with_reducible exact l_listL | with_reducible exact v_slcT | with_reducible exact l_isTT | with_reducible exact l_isII | with_reducible exact l_isBI | with_reducible exact l_isBB | with_reducible exact l_isSS | with_reducible exact l_isLL | with_reducible exact z_bl | with_reducible exact z_int | with_reducible exact v_slcL | with_reducible exact v_slcS | with_reducible exact e_int | with_reducible exact e_bl | with_reducible exact e_str | with_reducible exact e_non | with_reducible exact a_nil | with_reducible exact o_nil | with_reducible exact g_name | with_reducible exact gs_nil | with_reducible exact b_add | with_reducible exact b_sub | with_reducible exact u_neg | with_reducible exact c_lt | with_reducible exact c_le | with_reducible exact c_gt | with_reducible exact c_ge | with_reducible exact c_eqI | with_reducible exact c_neI | with_reducible exact c_eqS | with_reducible exact c_neS | ((with_reducible apply e_var); exact rfl) | ((with_reducible apply e_glb); exact rfl) | ((with_reducible apply x_tup); exact rfl) | ((with_reducible apply x_lst); exact rfl) | with_reducible apply a_cons | with_reducible apply e_bin | with_reducible apply e_un | with_reducible apply e_idx | with_reducible apply e_call | with_reducible apply e_blt | with_reducible apply e_cmp | with_reducible apply e_slc | with_reducible apply e_frz | with_reducible apply e_one | with_reducible apply e_not | with_reducible apply t_cmp | with_reducible apply t_not | with_reducible apply t_one | with_reducible apply t_ex | with_reducible apply o_cons | with_reducible apply g_tup | with_reducible apply gs_cons | with_reducible apply g_sub | with_reducible apply e_tupS | with_reducible apply e_dspS | ((with_reducible apply LS_mk); exact rfl) | with_reducible refine' t_and ?_ (fun _ => ?_) | with_reducible refine' t_or ?_ (fun _ => ?_) | with_reducible refine' e_and ?_ (fun _ => ?_) | with_reducible refine' e_or ?_ (fun _ => ?_) | ((with_reducible apply b_powL); decide) | ((with_reducible apply b_pow); decide) | ((with_reducible apply b_fdiv); decide) | ((with_reducible apply b_mod); decide) | ((with_reducible apply b_mul); decide) | ((with_reducible apply b_mul); with_reducible assumption) | ((with_reducible apply b_fdiv); with_reducible assumption) | with_reducible apply b_mul | with_reducible apply b_fdiv | with_reducible apply b_mod | with_reducible apply b_shr | with_reducible apply b_cat | with_reducible apply l_str))) ?_
    refine w_for (fun j σ st' => st' = st ∧ ∃ (B : Int) (a b c : Option D), σ = [some (.tup ps), some (.tup ns), some (.tup [.int bb.1, .int bb.2]), some (.int B), a, b, c] ∧ 0 < B ∧ Sz (400 + 400 * j) B ∧ B * prodL (ps.drop j) (ns.drop j) = bb.2 * prodL ps ns)
      (i_zipT (by (repeat' (first | with_reducible exact l_abs | with_reducible exact l_int | with_reducible exact l_intB | with_reducible exact l_lenT | with_reducible exact l_lenL | with_reducible exact l_lenS | with_reducible exact l_tupL | with_reducible exact l_tupT | with_reducible exact l_max | with_reducible exact l_min | with_reducible exact l_listT | with_reducible exact l_listL | with_reducible exact v_slcT | with_reducible exact l_isTT | with_reducible exact l_isII | with_reducible exact l_isBI | with_reducible exact l_isBB | with_reducible exact l_isSS | with_reducible exact l_isLL | with_reducible exact z_bl | with_reducible exact z_int | with_reducible exact v_slcL | with_reducible exact v_slcS | with_reducible exact e_int | with_reducible exact e_bl | with_reducible exact e_str | with_reducible exact e_non | with_reducible exact a_nil | with_reducible exact o_nil | with_reducible exact g_name | with_reducible exact gs_nil | with_reducible exact b_add | with_reducible exact b_sub | with_reducible exact u_neg | with_reducible exact c_lt | with_reducible exact c_le | with_reducible exact c_gt | with_reducible exact c_ge | with_reducible exact c_eqI | with_reducible exact c_neI | with_reducible exact c_eqS | with_reducible exact c_neS | ((with_reducible apply e_var); exact rfl) | ((with_reducible apply e_glb); exact rfl) | ((with_reducible apply x_tup); exact rfl) | ((with_reducible apply x_lst); exact rfl) | with_reducible apply a_cons | with_reducible apply e_bin | with_reducible apply e_un | with_reducible apply e_idx | with_reducible apply e_call | with_reducible apply e_blt | with_reducible apply e_cmp | with_reducible apply e_slc | with_reducible apply e_frz | with_reducible apply e_one | with_reducible apply e_not | with_reducible apply t_cmp | with_reducible apply t_not | with_reducible apply t_one | with_reducible apply t_ex | with_reducible apply o_cons | with_reducible apply g_tup | with_reducible apply gs_cons | with_reducible apply g_sub | with_reducible apply e_tupS | with_reducible apply e_dspS | ((with_reducible apply LS_mk); exact rfl) | with_reducible refine' t_and ?_ (fun _ => ?_) | with_reducible refine' t_or ?_ (fun _ => ?_) | with_reducible refine' e_and ?_ (fun _ => ?_) | with_reducible refine' e_or ?_ (fun _ => ?_) | ((with_reducible apply b_powL); decide) | ((with_reducible apply b_pow); decide) | ((with_reducible apply b_fdiv); decide) | ((with_reducible apply b_mod); decide) | ((with_reducible apply b_mul); decide) | ((with_reducible apply b_mul); with_reducible assumption) | ((with_reducible apply b_fdiv); with_reducible assumption) | with_reducible apply b_mul | with_reducible apply b_fdiv | with_reducible apply b_mod | with_reducible apply b_shr | with_reducible apply b_cat | with_reducible apply l_str))) (by (repeat' (first | with_reducible exact l_abs | with_reducible exact l_int | with_reducible exact l_intB | with_reducible exact l_lenT | with_reducible exact l_lenL | with_reducible exact l_lenS | with_reducible exact l_tupL | with_reducible exact l_tupT | with_reducible exact l_max | with_reducible exact l_min | with_reducible exact l_listT | with_reducible exact l_listL | with_reducible exact v_slcT | with_reducible exact l_isTT | with_reducible exact l_isII | with_reducible exact l_isBI | with_reducible exact l_isBB | with_reducible exact l_isSS | with_reducible exact l_isLL | with_reducible exact z_bl | with_reducible exact z_int | with_reducible exact v_slcL | with_reducible exact v_slcS | with_reducible exact e_int | with_reducible exact e_bl | with_reducible exact e_str | with_reducible exact e_non | with_reducible exact a_nil | with_reducible exact o_nil | with_reducible exact g_name | with_reducible exact gs_nil | with_reducible exact b_add | with_reducible exact b_sub | with_reducible exact u_neg | with_reducible exact c_lt | with_reducible exact c_le | with_reducible exact c_gt | with_reducible exact c_ge | with_reducible exact c_eqI | with_reducible exact c_neI | with_reducible exact c_eqS | with_reducible exact c_neS | ((with_reducible apply e_var); exact rfl) | ((with_reducible apply e_glb); exact rfl) | ((with_reducible apply x_tup); exact rfl) | ((with_reducible apply x_lst); exact rfl) | with_reducible apply a_cons | with_reducible apply e_bin | with_reducible apply e_un | with_reducible apply e_idx | with_reducible apply e_call | with_reducible apply e_blt | with_reducible apply e_cmp | with_reducible apply e_slc | with_reducible apply e_frz | with_reducible apply e_one | with_reducible apply e_not | with_reducible apply t_cmp | with_reducible apply t_not | with_reducible apply t_one | with_reducible apply t_ex | with_reducible apply o_cons | with_reducible apply g_tup | with_reducible apply gs_cons | with_reducible apply g_sub | with_reducible apply e_tupS | with_reducible apply e_dspS | ((with_reducible apply LS_mk); exact rfl) | with_reducible refine' t_and ?_ (fun _ => ?_) | with_reducible refine' t_or ?_ (fun _ => ?_) | with_reducible refine' e_and ?_ (fun _ => ?_) | with_reducible refine' e_or ?_ (fun _ => ?_) | ((with_reducible apply b_powL); decide) | ((with_reducible apply b_pow); decide) | ((with_reducible apply b_fdiv); decide) | ((with_reducible apply b_mod); decide) | ((with_reducible apply b_mul); decide) | ((with_reducible apply b_mul); with_reducible assumption) | ((with_reducible apply b_fdiv); with_reducible assumption) | with_reducible apply b_mul | with_reducible apply b_fdiv | with_reducible apply b_mod | with_reducible apply b_shr | with_reducible apply b_cat | with_reducible apply l_str)))) ⟨rfl, bb.2, none, none, none, rfl, bp, sb2, rfl⟩ ?_ ?_
    · rintro j x σ st' hx ⟨rfl, B, a, b, c, rfl, B0, sB, hB⟩
      obtain ⟨p, n, e1, e2, rfl⟩ := zip_item hx
      have hj : j < ps.length := by rw [List.getElem?_eq_some_iff] at e1; exact e1.1
      obtain ⟨ep, rp, sp1, sp2⟩ := (hp p (List.mem_of_getElem? e1)).get
      obtain ⟨en, rn, sn1, sn2⟩ := (hn n (List.mem_of_getElem? e2)).get
      rw [prod_at e1 e2] at hB
      generalize dq p = pp at *
      generalize dq n = nn at *
      subst ep
      subst en
      have m1 := mulOk_sz sB sp2 (by omega)
      have m2 := mulOk_sz (sB.mul sp2) sn2 (by omega)
      refine ⟨_, _, by (repeat' (first | with_reducible exact l_abs | with_reducible exact l_int | with_reducible exact l_intB | with_reducible exact l_lenT | with_reducible exact l_lenL | with_reducible exact l_lenS | with_reducible exact l_tupL | with_reducible exact l_tupT | with_reducible exact l_max | with_reducible exact l_min | with_reducible exact l_listT | with_reducible exact l_listL | with_reducible exact v_slcT | with_reducible exact l_isTT | with_reducible exact l_isII | with_reducible exact l_isBI | with_reducible exact l_isBB | with_reducible exact l_isSS | with_reducible exact l_isLL | with_reducible exact z_bl | with_reducible exact z_int | with_reducible exact v_slcL | with_reducible exact v_slcS | with_reducible exact e_int | with_reducible exact e_bl | with_reducible exact e_str | with_reducible exact e_non | with_reducible exact a_nil | with_reducible exact o_nil | with_reducible exact g_name | with_reducible exact gs_nil | with_reducible exact b_add | with_reducible exact b_sub | with_reducible exact u_neg | with_reducible exact c_lt | with_reducible exact c_le | with_reducible exact c_gt | with_reducible exact c_ge | with_reducible exact c_eqI | with_reducible exact c_neI | with_reducible exact c_eqS | with_reducible exact c_neS | ((with_reducible apply e_var); exact rfl) | ((with_reducible apply e_glb); exact rfl) | ((with_reducible apply x_tup); exact rfl) | ((with_reducible apply x_lst); exact rfl) | with_reducible apply a_cons | with_reducible apply e_bin | with_reducible apply e_un | with_reducible apply e_idx | with_reducible apply e_call | with_reducible apply e_blt | with_reducible apply e_cmp | with_reducible apply e_slc | with_reducible apply e_frz | with_reducible apply e_one | with_reducible apply e_not | with_reducible apply t_cmp | with_reducible apply t_not | with_reducible apply t_one | with_reducible apply t_ex | with_reducible apply o_cons | with_reducible apply g_tup | with_reducible apply gs_cons | with_reducible apply g_sub | with_reducible apply e_tupS | with_reducible apply e_dspS | ((with_reducible apply LS_mk); exact rfl) | with_reducible refine' t_and ?_ (fun _ => ?_) | with_reducible refine' t_or ?_ (fun _ => ?_) | with_reducible refine' e_and ?_ (fun _ => ?_) | with_reducible refine' e_or ?_ (fun _ => ?_) | ((with_reducible apply b_powL); decide) | ((with_reducible apply b_pow); decide) | ((with_reducible apply b_fdiv); decide) | ((with_reducible apply b_mod); decide) | ((with_reducible apply b_mul); decide) | ((with_reducible apply b_mul); with_reducible assumption) | ((with_reducible apply b_fdiv); with_reducible assumption) | with_reducible apply b_mul | with_reducible apply b_fdiv | with_reducible apply b_mod | with_reducible apply b_shr | with_reducible apply b_cat | with_reducible apply l_str)), ?_⟩
      refine' w_asg (by (repeat' (first | with_reducible exact l_abs | with_reducible exact l_int | with_reducible exact l_intB | with_reducible exact l_lenT | with_reducible exact l_lenL | with_reducible exact l_lenS | with_reducible exact l_tupL | with_reducible exact l_tupT | with_reducible exact l_max | with_reducible exact l_min | with_reducible exact l_listT | with_reducible exact l_listL | with_reducible exact v_slcT | with_reducible exact l_isTT | with_reducible exact l_isII | with_reducible exact l_isBI | with_reducible exact l_isBB | with_reducible exact l_isSS | with_reducible exact l_isLL | with_reducible exact z_bl | with_reducible exact z_int | with_reducible exact v_slcL | with_reducible exact v_slcS | with_reducible exact e_int | with_reducible exact e_bl | with_reducible exact e_str | with_reducible exact e_non | with_reducible exact a_nil | with_reducible exact o_nil | with_reducible exact g_name | with_reducible exact gs_nil | with_reducible exact b_add | with_reducible exact b_sub | with_reducible exact u_neg | with_reducible exact c_lt | with_reducible exact c_le | with_reducible exact c_gt | with_reducible exact c_ge | with_reducible exact c_eqI | with_reducible exact c_neI | with_reducible exact c_eqS | with_reducible exact c_neS | ((with_reducible apply e_var); exact rfl) | ((with_reducible apply e_glb); exact rfl) | ((with_reducible apply x_tup); exact rfl) | ((with_reducible apply x_lst); exact rfl) | with_reducible apply a_cons | with_reducible apply e_bin | with_reducible apply e_un | with_reducible apply e_idx | with_reducible apply e_call | with_reducible apply e_blt | with_reducible apply e_cmp | with_reducible apply e_slc | with_reducible apply e_frz | with_reducible apply e_one | with_reducible apply e_not | with_reducible apply t_cmp | with_reducible apply t_not | with_reducible apply t_one | with_reducible apply t_ex | with_reducible apply o_cons | with_reducible apply g_tup | with_reducible apply gs_cons | with_reducible apply g_sub | with_reducible apply e_tupS | with_reducible apply e_dspS | ((with_reducible apply LS_mk); exact rfl) | with_reducible refine' t_and ?_ (fun _ => ?_) | with_reducible refine' t_or ?_ (fun _ => ?_) | with_reducible refine' e_and ?_ (fun _ => ?_) | with_reducible refine' e_or ?_ (fun _ => ?_) | ((with_reducible apply b_powL); decide) | ((with_reducible apply b_pow); decide) | ((with_reducible apply b_fdiv); decide) | ((with_reducible apply b_mod); decide) | ((with_reducible apply b_mul); decide) | ((with_reducible apply b_mul); with_reducible assumption) | ((with_reducible apply b_fdiv); with_reducible assumption) | with_reducible apply b_mul | with_reducible apply b_fdiv | with_reducible apply b_mod | with_reducible apply b_shr | with_reducible apply b_cat | with_reducible apply l_str))) ?_
      refine w_nil ⟨rfl, B * pp.2 * nn.2, _, _, _, rfl, Int.mul_pos (Int.mul_pos B0 rp.pos) rn.pos, ((sB.mul sp2).mul sn2).mono (by omega), ?_⟩
      rw [← hB]
      simp only [Int.mul_assoc]
    rintro σ st' ⟨rfl, B, a, b, c, rfl, B0, sB, hB⟩
    rw [zip_len hl] at sB hB
    rw [List.drop_eq_nil_of_le (Nat.le_refl _)] at hB
    have hB : B = bb.2 * prodL ps ns := by rw [← hB]; simp [prodL]
    have sB : Sz 1800 B := sB.mono (by omega)
    refine' w_asg (by (repeat' (first | with_reducible exact l_abs | with_reducible exact l_int | with_reducible exact l_intB | with_reducible exact l_lenT | with_reducible exact l_lenL | with_reducible exact l_lenS | with_reducible exact l_tupL | with_reducible exact l_tupT | with_reducible exact l_max | with_reducible exact l_min | with_reducible exact l_listT | with_reducible exact l_listL | with_reducible exact v_slcT | with_reducible exact l_isTT | with_reducible exact l_isII | with_reducible exact l_isBI | with_reducible exact l_isBB | with_reducible exact l_isSS | with_reducible exact l_isLL | with_reducible exact z_bl | with_reducible exact z_int | with_reducible exact v_slcL | with_reducible exact v_slcS | with_reducible exact e_int | with_reducible exact e_bl | with_reducible exact e_str | with_reducible exact e_non | with_reducible exact a_nil | with_reducible exact o_nil | with_reducible exact g_name | with_reducible exact gs_nil | with_reducible exact b_add | with_reducible exact b_sub | with_reducible exact u_neg | with_reducible exact c_lt | with_reducible exact c_le | with_reducible exact c_gt | with_reducible exact c_ge | with_reducible exact c_eqI | with_reducible exact c_neI | with_reducible exact c_eqS | with_reducible exact c_neS | ((with_reducible apply e_var); exact rfl) | ((with_reducible apply e_glb); exact rfl) | ((with_reducible apply x_tup); exact rfl) | ((with_reducible apply x_lst); exact rfl) | with_reducible apply a_cons | with_reducible apply e_bin | with_reducible apply e_un | with_reducible apply e_idx | with_reducible apply e_call | with_reducible apply e_blt | with_reducible apply e_cmp | with_reducible apply e_slc | with_reducible apply e_frz | with_reducible apply e_one | with_reducible apply e_not | with_reducible apply t_cmp | with_reducible apply t_not | with_reducible apply t_one | with_reducible apply t_ex | with_reducible apply o_cons | with_reducible apply g_tup | with_reducible apply gs_cons | with_reducible apply g_sub | with_reducible apply e_tupS | with_reducible apply e_dspS | ((with_reducible apply LS_mk); exact rfl) | with_reducible refine' t_and ?_ (fun _ => ?_) | with_reducible refine' t_or ?_ (fun _ => ?_) | with_reducible refine' e_and ?_ (fun _ => ?_) | with_reducible refine' e_or ?_ (fun _ => ?_) | ((with_reducible apply b_powL); decide) | ((with_reducible apply b_pow); decide) | ((with_reducible apply b_fdiv); decide) | ((with_reducible apply b_mod); decide) | ((with_reducible apply b_mul); decide) | ((with_reducible apply b_mul); with_reducible assumption) | ((with_reducible apply b_fdiv); with_reducible assumption) | with_reducible apply b_mul | with_reducible apply b_fdiv | with_reducible apply b_mod | with_reducible apply b_shr | with_reducible apply b_cat | with_reducible apply l_str))) ?_
    refine w_for (fun j σ st'' => st'' = st' ∧ ∃ (T : Int) (b c : Option D), σ = [some (.tup ps), some (.tup ns), some (.tup [.int bb.1, .int bb.2]), some (.int B), some (.int T), b, c] ∧ Sz (2400 + j) T ∧ (T : Rat) + dotQ (ps.drop j) (ns.drop j) * (B : Rat) = dotQ ps ns * (B : Rat))
      (i_zipT (by (repeat' (first | with_reducible exact l_abs | with_reducible exact l_int | with_reducible exact l_intB | with_reducible exact l_lenT | with_reducible exact l_lenL | with_reducible exact l_lenS | with_reducible exact l_tupL | with_reducible exact l_tupT | with_reducible exact l_max | with_reducible exact l_min | with_reducible exact l_listT | with_reducible exact l_listL | with_reducible exact v_slcT | with_reducible exact l_isTT | with_reducible exact l_isII | with_reducible exact l_isBI | with_reducible exact l_isBB | with_reducible exact l_isSS | with_reducible exact l_isLL | with_reducible exact z_bl | with_reducible exact z_int | with_reducible exact v_slcL | with_reducible exact v_slcS | with_reducible exact e_int | with_reducible exact e_bl | with_reducible exact e_str | with_reducible exact e_non | with_reducible exact a_nil | with_reducible exact o_nil | with_reducible exact g_name | with_reducible exact gs_nil | with_reducible exact b_add | with_reducible exact b_sub | with_reducible exact u_neg | with_reducible exact c_lt | with_reducible exact c_le | with_reducible exact c_gt | with_reducible exact c_ge | with_reducible exact c_eqI | with_reducible exact c_neI | with_reducible exact c_eqS | with_reducible exact c_neS | ((with_reducible apply e_var); exact rfl) | ((with_reducible apply e_glb); exact rfl) | ((with_reducible apply x_tup); exact rfl) | ((with_reducible apply x_lst); exact rfl) | with_reducible apply a_cons | with_reducible apply e_bin | with_reducible apply e_un | with_reducible apply e_idx | with_reducible apply e_call | with_reducible apply e_blt | with_reducible apply e_cmp | with_reducible apply e_slc | with_reducible apply e_frz | with_reducible apply e_one | with_reducible apply e_not | with_reducible apply t_cmp | with_reducible apply t_not | with_reducible apply t_one | with_reducible apply t_ex | with_reducible apply o_cons | with_reducible apply g_tup | with_reducible apply gs_cons | with_reducible apply g_sub | with_reducible apply e_tupS | with_reducible apply e_dspS | ((with_reducible apply LS_mk); exact rfl) | with_reducible refine' t_and ?_ (fun _ => ?_) | with_reducible refine' t_or ?_ (fun _ => ?_) | with_reducible refine' e_and ?_ (fun _ => ?_) | with_reducible refine' e_or ?_ (fun _ => ?_) | ((with_reducible apply b_powL); decide) | ((with_reducible apply b_pow); decide) | ((with_reducible apply b_fdiv); decide) | ((with_reducible apply b_mod); decide) | ((with_reducible apply b_mul); decide) | ((with_reducible apply b_mul); with_reducible assumption) | ((with_reducible apply b_fdiv); with_reducible assumption) | with_reducible apply b_mul | with_reducible apply b_fdiv | with_reducible apply b_mod | with_reducible apply b_shr | with_reducible apply b_cat | with_reducible apply l_str))) (by (repeat' (first | with_reducible exact l_abs | with_reducible exact l_int | with_reducible exact l_intB | with_reducible exact l_lenT | with_reducible exact l_lenL | with_reducible exact l_lenS | with_reducible exact l_tupL | with_reducible exact l_tupT | with_reducible exact l_max | with_reducible exact l_min | with_reducible exact l_listT | with_reducible exact l_listL | with_reducible exact v_slcT | with_reducible exact l_isTT | with_reducible exact l_isII | with_reducible exact l_isBI | with_reducible exact l_isBB | with_reducible exact l_isSS | with_reducible exact l_isLL | with_reducible exact z_bl | with_reducible exact z_int | with_reducible exact v_slcL | with_reducible exact v_slcS | with_reducible exact e_int | with_reducible exact e_bl | with_reducible exact e_str | with_reducible exact e_non | with_reducible exact a_nil | with_reducible exact o_nil | with_reducible exact g_name | with_reducible exact gs_nil | with_reducible exact b_add | with_reducible exact b_sub | with_reducible exact u_neg | with_reducible exact c_lt | with_reducible exact c_le | with_reducible exact c_gt | with_reducible exact c_ge | with_reducible exact c_eqI | with_reducible exact c_neI | with_reducible exact c_eqS | with_reducible exact c_neS | ((with_reducible apply e_var); exact rfl) | ((with_reducible apply e_glb); exact rfl) | ((with_reducible apply x_tup); exact rfl) | ((with_reducible apply x_lst); exact rfl) | with_reducible apply a_cons | with_reducible apply e_bin | with_reducible apply e_un | with_reducible apply e_idx | with_reducible apply e_call | with_reducible apply e_blt | with_reducible apply e_cmp | with_reducible apply e_slc | with_reducible apply e_frz | with_reducible apply e_one | with_reducible apply e_not | with_reducible apply t_cmp | with_reducible apply t_not | with_reducible apply t_one | with_reducible apply t_ex | with_reducible apply o_cons | with_reducible apply g_tup | with_reducible apply gs_cons | with_reducible apply g_sub | with_reducible apply e_tupS | with_reducible apply e_dspS | ((with_reducible apply LS_mk); exact rfl) | with_reducible refine' t_and ?_ (fun _ => ?_) | with_reducible refine' t_or ?_ (fun _ => ?_) | with_reducible refine' e_and ?_ (fun _ => ?_) | with_reducible refine' e_or ?_ (fun _ => ?_) | ((with_reducible apply b_powL); decide) | ((with_reducible apply b_pow); decide) | ((with_reducible apply b_fdiv); decide) | ((with_reducible apply b_mod); decide) | ((with_reducible apply b_mul); decide) | ((with_reducible apply b_mul); with_reducible assumption) | ((with_reducible apply b_fdiv); with_reducible assumption) | with_reducible apply b_mul | with_reducible apply b_fdiv | with_reducible apply b_mod | with_reducible apply b_shr | with_reducible apply b_cat | with_reducible apply l_str)))) ⟨rfl, 0, b, c, rfl, (Sz.lit (by decide)).mono (by omega), by simp only [List.drop_zero]; grind⟩ ?_ ?_
    · rintro j x σ st'' hx ⟨rfl, T, b, c, rfl, sT, hT⟩
      obtain ⟨p, n, e1, e2, rfl⟩ := zip_item hx
      have hd : (dq p).2 * (dq n).2 ∣ B := by rw [hB]; exact Int.dvd_trans (prod_dvd e1 e2) (Int.dvd_mul_left _ _)
      obtain ⟨ep, rp, sp1, sp2⟩ := (hp p (List.mem_of_getElem? e1)).get
      obtain ⟨en, rn, sn1, sn2⟩ := (hn n (List.mem_of_getElem? e2)).get
      rw [dot_at e1 e2] at hT
      generalize dq p = pp at *
      generalize dq n = nn at *
      subst ep
      subst en
      have d0 := Int.mul_pos rp.pos rn.pos
      have dv := divOk_sz (sp2.mul sn2) (by omega : pp.2 * nn.2 ≠ 0) (by decide)
      have m1 := mulOk_sz sp1 sn1 (by decide)
      have m2 := mulOk_sz sp2 sn2 (by decide)
      have sf := fdiv_sz sB d0
      have m3 := mulOk_sz (sp1.mul sn1) sf (by decide)
      have cf := cast_fdiv (by omega : pp.2 * nn.2 ≠ 0) hd
      refine ⟨_, _, by (repeat' (first | with_reducible exact l_abs | with_reducible exact l_int | with_reducible exact l_intB | with_reducible exact l_lenT | with_reducible exact l_lenL | with_reducible exact l_lenS | with_reducible exact l_tupL | with_reducible exact l_tupT | with_reducible exact l_max | with_reducible exact l_min | with_reducible exact l_listT | with_reducible exact l_listL | with_reducible exact v_slcT | with_reducible exact l_isTT | with_reducible exact l_isII | with_reducible exact l_isBI | with_reducible exact l_isBB | with_reducible exact l_isSS | with_reducible exact l_isLL | with_reducible exact z_bl | with_reducible exact z_int | with_reducible exact v_slcL | with_reducible exact v_slcS | with_reducible exact e_int | with_reducible exact e_bl | with_reducible exact e_str | with_reducible exact e_non | with_reducible exact a_nil | with_reducible exact o_nil | with_reducible exact g_name | with_reducible exact gs_nil | with_reducible exact b_add | with_reducible exact b_sub | with_reducible exact u_neg | with_reducible exact c_lt | with_reducible exact c_le | with_reducible exact c_gt | with_reducible exact c_ge | with_reducible exact c_eqI | with_reducible exact c_neI | with_reducible exact c_eqS | with_reducible exact c_neS | ((with_reducible apply e_var); exact rfl) | ((with_reducible apply e_glb); exact rfl) | ((with_reducible apply x_tup); exact rfl) | ((with_reducible apply x_lst); exact rfl) | with_reducible apply a_cons | with_reducible apply e_bin | with_reducible apply e_un | with_reducible apply e_idx | with_reducible apply e_call | with_reducible apply e_blt | with_reducible apply e_cmp | with_reducible apply e_slc | with_reducible apply e_frz | with_reducible apply e_one | with_reducible apply e_not | with_reducible apply t_cmp | with_reducible apply t_not | with_reducible apply t_one | with_reducible apply t_ex | with_reducible apply o_cons | with_reducible apply g_tup | with_reducible apply gs_cons | with_reducible apply g_sub | with_reducible apply e_tupS | with_reducible apply e_dspS | ((with_reducible apply LS_mk); exact rfl) | with_reducible refine' t_and ?_ (fun _ => ?_) | with_reducible refine' t_or ?_ (fun _ => ?_) | with_reducible refine' e_and ?_ (fun _ => ?_) | with_reducible refine' e_or ?_ (fun _ => ?_) | ((with_reducible apply b_powL); decide) | ((with_reducible apply b_pow); decide) | ((with_reducible apply b_fdiv); decide) | ((with_reducible apply b_mod); decide) | ((with_reducible apply b_mul); decide) | ((with_reducible apply b_mul); with_reducible assumption) | ((with_reducible apply b_fdiv); with_reducible assumption) | with_reducible apply b_mul | with_reducible apply b_fdiv | with_reducible apply b_mod | with_reducible apply b_shr | with_reducible apply b_cat | with_reducible apply l_str)), ?_⟩
      refine' w_asg (by (repeat' (first | with_reducible exact l_abs | with_reducible exact l_int | with_reducible exact l_intB | with_reducible exact l_lenT | with_reducible exact l_lenL | with_reducible exact l_lenS | with_reducible exact l_tupL | with_reducible exact l_tupT | with_reducible exact l_max | with_reducible exact l_min | with_reducible exact l_listT | with_reducible exact l_listL | with_reducible exact v_slcT | with_reducible exact l_isTT | with_reducible exact l_isII | with_reducible exact l_isBI | with_reducible exact l_isBB | with_reducible exact l_isSS | with_reducible exact l_isLL | with_reducible exact z_bl | with_reducible exact z_int | with_reducible exact v_slcL | with_reducible exact v_slcS | with_reducible exact e_int | with_reducible exact e_bl | with_reducible exact e_str | with_reducible exact e_non | with_reducible exact a_nil | with_reducible exact o_nil | with_reducible exact g_name | with_reducible exact gs_nil | with_reducible exact b_add | with_reducible exact b_sub | with_reducible exact u_neg | with_reducible exact c_lt | with_reducible exact c_le | with_reducible exact c_gt | with_reducible exact c_ge | with_reducible exact c_eqI | with_reducible exact c_neI | with_reducible exact c_eqS | with_reducible exact c_neS | ((with_reducible apply e_var); exact rfl) | ((with_reducible apply e_glb); exact rfl) | ((with_reducible apply x_tup); exact rfl) | ((with_reducible apply x_lst); exact rfl) | with_reducible apply a_cons | with_reducible apply e_bin | with_reducible apply e_un | with_reducible apply e_idx | with_reducible apply e_call | with_reducible apply e_blt | with_reducible apply e_cmp | with_reducible apply e_slc | with_reducible apply e_frz | with_reducible apply e_one | with_reducible apply e_not | with_reducible apply t_cmp | with_reducible apply t_not | with_reducible apply t_one | with_reducible apply t_ex | with_reducible apply o_cons | with_reducible apply g_tup | with_reducible apply gs_cons | with_reducible apply g_sub | with_reducible apply e_tupS | with_reducible apply e_dspS | ((with_reducible apply LS_mk); exact rfl) | with_reducible refine' t_and ?_ (fun _ => ?_) | with_reducible refine' t_or ?_ (fun _ => ?_) | with_reducible refine' e_and ?_ (fun _ => ?_) | with_reducible refine' e_or ?_ (fun _ => ?_) | ((with_reducible apply b_powL); decide) | ((with_reducible apply b_pow); decide) | ((with_reducible apply b_fdiv); decide) | ((with_reducible apply b_mod); decide) | ((with_reducible apply b_mul); decide) | ((with_reducible apply b_mul); with_reducible assumption) | ((with_reducible apply b_fdiv); with_reducible assumption) | with_reducible apply b_mul | with_reducible apply b_fdiv | with_reducible apply b_mod | with_reducible apply b_shr | with_reducible apply b_cat | with_reducible apply l_str))) ?_
      refine w_nil ⟨rfl, T + pp.1 * nn.1 * B.fdiv (pp.2 * nn.2), _, _, rfl, (sT.add ((sp1.mul sn1).mul sf)).mono (by omega), ?_⟩
      have h1 := cast_ne (show pp.2 ≠ 0 by have := rp.pos; omega)
      have h2 := cast_ne (show nn.2 ≠ 0 by have := rn.pos; omega)
      simp only [Rat.intCast_add, Rat.intCast_mul, cf]
      rw [← hT]
      unfold qv
      grind
    rintro σ st'' ⟨rfl, T, b, c, rfl, sT, hT⟩
    rw [zip_len hl] at sT hT
    rw [List.drop_eq_nil_of_le (Nat.le_refl _)] at hT
    have hd : bb.2 ∣ B := by rw [hB]; exact Int.dvd_mul_right _ _
    have dv := divOk_sz sb2 (by omega : bb.2 ≠ 0) (by decide)
    have sf := fdiv_sz sB bp
    have m1 := mulOk_sz sb1 sf (by decide)
    have cf := cast_fdiv (by omega : bb.2 ≠ 0) hd
    refine' w_ret (by (repeat' (first | with_reducible exact l_abs | with_reducible exact l_int | with_reducible exact l_intB | with_reducible exact l_lenT | with_reducible exact l_lenL | with_reducible exact l_lenS | with_reducible exact l_tupL | with_reducible exact l_tupT | with_reducible exact l_max | with_reducible exact l_min | with_reducible exact l_listT | with_reducible exact l_listL | with_reducible exact v_slcT | with_reducible exact l_isTT | with_reducible exact l_isII | with_reducible exact l_isBI | with_reducible exact l_isBB | with_reducible exact l_isSS | with_reducible exact l_isLL | with_reducible exact z_bl | with_reducible exact z_int | with_reducible exact v_slcL | with_reducible exact v_slcS | with_reducible exact e_int | with_reducible exact e_bl | with_reducible exact e_str | with_reducible exact e_non | with_reducible exact a_nil | with_reducible exact o_nil | with_reducible exact g_name | with_reducible exact gs_nil | with_reducible exact b_add | with_reducible exact b_sub | with_reducible exact u_neg | with_reducible exact c_lt | with_reducible exact c_le | with_reducible exact c_gt | with_reducible exact c_ge | with_reducible exact c_eqI | with_reducible exact c_neI | with_reducible exact c_eqS | with_reducible exact c_neS | ((with_reducible apply e_var); exact rfl) | ((with_reducible apply e_glb); exact rfl) | ((with_reducible apply x_tup); exact rfl) | ((with_reducible apply x_lst); exact rfl) | with_reducible apply a_cons | with_reducible apply e_bin | with_reducible apply e_un | with_reducible apply e_idx | with_reducible apply e_call | with_reducible apply e_blt | with_reducible apply e_cmp | with_reducible apply e_slc | with_reducible apply e_frz | with_reducible apply e_one | with_reducible apply e_not | with_reducible apply t_cmp | with_reducible apply t_not | with_reducible apply t_one | with_reducible apply t_ex | with_reducible apply o_cons | with_reducible apply g_tup | with_reducible apply gs_cons | with_reducible apply g_sub | with_reducible apply e_tupS | with_reducible apply e_dspS | ((with_reducible apply LS_mk); exact rfl) | with_reducible refine' t_and ?_ (fun _ => ?_) | with_reducible refine' t_or ?_ (fun _ => ?_) | with_reducible refine' e_and ?_ (fun _ => ?_) | with_reducible refine' e_or ?_ (fun _ => ?_) | ((with_reducible apply b_powL); decide) | ((with_reducible apply b_pow); decide) | ((with_reducible apply b_fdiv); decide) | ((with_reducible apply b_mod); decide) | ((with_reducible apply b_mul); decide) | ((with_reducible apply b_mul); with_reducible assumption) | ((with_reducible apply b_fdiv); with_reducible assumption) | with_reducible apply b_mul | with_reducible apply b_fdiv | with_reducible apply b_mod | with_reducible apply b_shr | with_reducible apply b_cat | with_reducible apply l_str))) ?_
    refine ⟨rfl, T, bb.1 * B.fdiv bb.2, B, rfl, B0, ?_, ?_, sB, sT.mono (by omega)⟩
    · rw [← hT, dotQ_nil]
      grind
    · have h1 := cast_ne (show bb.2 ≠ 0 by omega)
      simp only [Rat.intCast_mul, cf]
      unfold qv
      grind
  obtain ⟨d, e, T, X, B, rfl, q⟩ := w
  exact ⟨T, X, B, e, q⟩
theorem sp_right12 (k : Nat) {i h : Nat} (hi : fs[i]? = some (T_law_right v h)) (hv : fs[v]? = some T_law_sides) {e u p w m t : Nat} (hh : fs[h]? = some (T_holds e u)) (he : fs[e]? = some (T_product_sum g p w)) (hg : gs[g]? = some (.tup [.int 0, .int 1])) (hp' : fs[p]? = some (T_plus m)) (hw : fs[w]? = some (T_times m)) (hm : fs[m]? = some (T_make t)) (ht : fs[t]? = some T_divisor) (hu : fs[u]? = some T_below)
    {kd : Str} {ps ns : List D} {b : D} (hk : kd = "=" ∨ kd = "<" ∨ kd = "<=") (hp : ∀ p ∈ ps, isFr 200 p) (hn : ∀ n ∈ ns, isFr 200 n) (hl : ns.length = ps.length) (h3 : ps.length ≤ 3) (hb : isFr 400 b) :
    run gs fs (k + 6) i [.tup [.str kd, .tup ps, b], .tup ns] st = some (.bl true, st) := by
  obtain ⟨T, X, B, e1, B0, hT, hX, _, _⟩ := sp_sides (gs := gs) st (k + 4) hv hp hn hl h3 hb
  have hb' : isFr 1500 b := by
    obtain ⟨p, q, rfl, r, s1, s2⟩ := hb
    exact ⟨p, q, rfl, r, s1.mono (by decide), s2.mono (by decide)⟩
  have e2 := sp_holds (gs := gs) st k hh he hg hp' hw hm ht hu hk hp hn hl h3 hb'
  generalize dotQ ps ns = x at *
  generalize qv (dq b) = y at *
  have Bp := cast_pos B0
  have q1 : (T == X) = decide (x = y) := by
    rw [Bool.eq_iff_iff, beq_iff_eq, decide_eq_true_iff]
    constructor
    · intro z
      have z' : (T : Rat) = (X : Rat) := by rw [z]
      rw [hT, hX] at z'
      exact rat_cancel Bp z'
    · intro z
      have z' : (T : Rat) = (X : Rat) := by rw [hT, hX, z]
      exact_mod_cast z'
  have q2 : decide (T < X) = decide (x < y) := by
    rw [decide_eq_decide]
    rw [← Rat.intCast_lt_intCast, hT, hX]
    exact Rat.mul_lt_mul_right Bp
  have q3 : decide (T ≤ X) = decide (x ≤ y) := by
    rw [decide_eq_decide]
    rw [← Int.not_lt, ← Rat.not_lt, ← Rat.intCast_lt_intCast, hT, hX]
    exact not_congr (Rat.mul_lt_mul_right Bp)
  have n1 : ("<" : Str) ≠ "=" := by decide +kernel
  have n2 : ("<=" : Str) ≠ "=" := by decide +kernel
  have n3 : ("<=" : Str) ≠ "<" := by decide +kernel
  have hs : gSel ["=", "<", "<="] [.bl (T == X), .bl (decide (T < X)), .bl (decide (T ≤ X))] (.str kd) st = some (.bl (holdB kd x y), st) := by
    unfold holdB gSel
    rw [q1, q2, q3]
    rcases hk with rfl | rfl | rfl
    · simp [selD, n1.symm, n2.symm]
    · simp [selD, n1, n3.symm]
    · simp [selD, n2, n3]
  refine run_rt (T_law_right v h) hi rfl ?_
  refine' s_asgG (by (repeat' (first | with_reducible apply e1 | with_reducible exact l_abs | with_reducible exact l_int | with_reducible exact l_intB | with_reducible exact l_lenT | with_reducible exact l_lenL | with_reducible exact l_lenS | with_reducible exact l_tupL | with_reducible exact l_tupT | with_reducible exact l_max | with_reducible exact l_min | with_reducible exact l_listT | with_reducible exact l_listL | with_reducible exact v_slcT | with_reducible exact l_isTT | with_reducible exact l_isII | with_reducible exact l_isBI | with_reducible exact l_isBB | with_reducible exact l_isSS | with_reducible exact l_isLL | with_reducible exact z_bl | with_reducible exact z_int | with_reducible exact v_slcL | with_reducible exact v_slcS | with_reducible exact e_int | with_reducible exact e_bl | with_reducible exact e_str | with_reducible exact e_non | with_reducible exact a_nil | with_reducible exact o_nil | with_reducible exact g_name | with_reducible exact gs_nil | with_reducible exact b_add | with_reducible exact b_sub | with_reducible exact u_neg | with_reducible exact c_lt | with_reducible exact c_le | with_reducible exact c_gt | with_reducible exact c_ge | with_reducible exact c_eqI | with_reducible exact c_neI | with_reducible exact c_eqS | with_reducible exact c_neS | ((with_reducible apply e_var); exact rfl) | ((with_reducible apply e_glb); exact rfl) | ((with_reducible apply x_tup); exact rfl) | ((with_reducible apply x_lst); exact rfl) | with_reducible apply a_cons | with_reducible apply e_bin | with_reducible apply e_un | with_reducible apply e_idx | with_reducible apply e_call | with_reducible apply e_blt | with_reducible apply e_cmp | with_reducible apply e_slc | with_reducible apply e_frz | with_reducible apply e_one | with_reducible apply e_not | with_reducible apply t_cmp | with_reducible apply t_not | with_reducible apply t_one | with_reducible apply t_ex | with_reducible apply o_cons | with_reducible apply g_tup | with_reducible apply gs_cons | with_reducible apply g_sub | with_reducible apply e_tupS | with_reducible apply e_dspS | ((with_reducible apply LS_mk); exact rfl) | with_reducible refine' t_and ?_ (fun _ => ?_) | with_reducible refine' t_or ?_ (fun _ => ?_) | with_reducible refine' e_and ?_ (fun _ => ?_) | with_reducible refine' e_or ?_ (fun _ => ?_) | ((with_reducible apply b_powL); decide) | ((with_reducible apply b_pow); decide) | ((with_reducible apply b_fdiv); decide) | ((with_reducible apply b_mod); decide) | ((with_reducible apply b_mul); decide) | ((with_reducible apply b_mul); with_reducible assumption) | ((with_reducible apply b_fdiv); with_reducible assumption) | with_reducible apply b_mul | with_reducible apply b_fdiv | with_reducible apply b_mod | with_reducible apply b_shr | with_reducible apply b_cat | with_reducible apply l_str))) (by (repeat' (first | with_reducible exact l_abs | with_reducible exact l_int | with_reducible exact l_intB | with_reducible exact l_lenT | with_reducible exact l_lenL | with_reducible exact l_lenS | with_reducible exact l_tupL | with_reducible exact l_tupT | with_reducible exact l_max | with_reducible exact l_min | with_reducible exact l_listT | with_reducible exact l_listL | with_reducible exact v_slcT | with_reducible exact l_isTT | with_reducible exact l_isII | with_reducible exact l_isBI | with_reducible exact l_isBB | with_reducible exact l_isSS | with_reducible exact l_isLL | with_reducible exact z_bl | with_reducible exact z_int | with_reducible exact v_slcL | with_reducible exact v_slcS | with_reducible exact e_int | with_reducible exact e_bl | with_reducible exact e_str | with_reducible exact e_non | with_reducible exact a_nil | with_reducible exact o_nil | with_reducible exact g_name | with_reducible exact gs_nil | with_reducible exact b_add | with_reducible exact b_sub | with_reducible exact u_neg | with_reducible exact c_lt | with_reducible exact c_le | with_reducible exact c_gt | with_reducible exact c_ge | with_reducible exact c_eqI | with_reducible exact c_neI | with_reducible exact c_eqS | with_reducible exact c_neS | ((with_reducible apply e_var); exact rfl) | ((with_reducible apply e_glb); exact rfl) | ((with_reducible apply x_tup); exact rfl) | ((with_reducible apply x_lst); exact rfl) | with_reducible apply a_cons | with_reducible apply e_bin | with_reducible apply e_un | with_reducible apply e_idx | with_reducible apply e_call | with_reducible apply e_blt | with_reducible apply e_cmp | with_reducible apply e_slc | with_reducible apply e_frz | with_reducible apply e_one | with_reducible apply e_not | with_reducible apply t_cmp | with_reducible apply t_not | with_reducible apply t_one | with_reducible apply t_ex | with_reducible apply o_cons | with_reducible apply g_tup | with_reducible apply gs_cons | with_reducible apply g_sub | with_reducible apply e_tupS | with_reducible apply e_dspS | ((with_reducible apply LS_mk); exact rfl) | with_reducible refine' t_and ?_ (fun _ => ?_) | with_reducible refine' t_or ?_ (fun _ => ?_) | with_reducible refine' e_and ?_ (fun _ => ?_) | with_reducible refine' e_or ?_ (fun _ => ?_) | ((with_reducible apply b_powL); decide) | ((with_reducible apply b_pow); decide) | ((with_reducible apply b_fdiv); decide) | ((with_reducible apply b_mod); decide) | ((with_reducible apply b_mul); decide) | ((with_reducible apply b_mul); with_reducible assumption) | ((with_reducible apply b_fdiv); with_reducible assumption) | with_reducible apply b_mul | with_reducible apply b_fdiv | with_reducible apply b_mod | with_reducible apply b_shr | with_reducible apply b_cat | with_reducible apply l_str))) ?_
  refine' s_asg (e_dselR (by (repeat' (first | with_reducible exact l_abs | with_reducible exact l_int | with_reducible exact l_intB | with_reducible exact l_lenT | with_reducible exact l_lenL | with_reducible exact l_lenS | with_reducible exact l_tupL | with_reducible exact l_tupT | with_reducible exact l_max | with_reducible exact l_min | with_reducible exact l_listT | with_reducible exact l_listL | with_reducible exact v_slcT | with_reducible exact l_isTT | with_reducible exact l_isII | with_reducible exact l_isBI | with_reducible exact l_isBB | with_reducible exact l_isSS | with_reducible exact l_isLL | with_reducible exact z_bl | with_reducible exact z_int | with_reducible exact v_slcL | with_reducible exact v_slcS | with_reducible exact e_int | with_reducible exact e_bl | with_reducible exact e_str | with_reducible exact e_non | with_reducible exact a_nil | with_reducible exact o_nil | with_reducible exact g_name | with_reducible exact gs_nil | with_reducible exact b_add | with_reducible exact b_sub | with_reducible exact u_neg | with_reducible exact c_lt | with_reducible exact c_le | with_reducible exact c_gt | with_reducible exact c_ge | with_reducible exact c_eqI | with_reducible exact c_neI | with_reducible exact c_eqS | with_reducible exact c_neS | ((with_reducible apply e_var); exact rfl) | ((with_reducible apply e_glb); exact rfl) | ((with_reducible apply x_tup); exact rfl) | ((with_reducible apply x_lst); exact rfl) | with_reducible apply a_cons | with_reducible apply e_bin | with_reducible apply e_un | with_reducible apply e_idx | with_reducible apply e_call | with_reducible apply e_blt | with_reducible apply e_cmp | with_reducible apply e_slc | with_reducible apply e_frz | with_reducible apply e_one | with_reducible apply e_not | with_reducible apply t_cmp | with_reducible apply t_not | with_reducible apply t_one | with_reducible apply t_ex | with_reducible apply o_cons | with_reducible apply g_tup | with_reducible apply gs_cons | with_reducible apply g_sub | with_reducible apply e_tupS | with_reducible apply e_dspS | ((with_reducible apply LS_mk); exact rfl) | with_reducible refine' t_and ?_ (fun _ => ?_) | with_reducible refine' t_or ?_ (fun _ => ?_) | with_reducible refine' e_and ?_ (fun _ => ?_) | with_reducible refine' e_or ?_ (fun _ => ?_) | ((with_reducible apply b_powL); decide) | ((with_reducible apply b_pow); decide) | ((with_reducible apply b_fdiv); decide) | ((with_reducible apply b_mod); decide) | ((with_reducible apply b_mul); decide) | ((with_reducible apply b_mul); with_reducible assumption) | ((with_reducible apply b_fdiv); with_reducible assumption) | with_reducible apply b_mul | with_reducible apply b_fdiv | with_reducible apply b_mod | with_reducible apply b_shr | with_reducible apply b_cat | with_reducible apply l_str))) (by (repeat' (first | with_reducible exact l_abs | with_reducible exact l_int | with_reducible exact l_intB | with_reducible exact l_lenT | with_reducible exact l_lenL | with_reducible exact l_lenS | with_reducible exact l_tupL | with_reducible exact l_tupT | with_reducible exact l_max | with_reducible exact l_min | with_reducible exact l_listT | with_reducible exact l_listL | with_reducible exact v_slcT | with_reducible exact l_isTT | with_reducible exact l_isII | with_reducible exact l_isBI | with_reducible exact l_isBB | with_reducible exact l_isSS | with_reducible exact l_isLL | with_reducible exact z_bl | with_reducible exact z_int | with_reducible exact v_slcL | with_reducible exact v_slcS | with_reducible exact e_int | with_reducible exact e_bl | with_reducible exact e_str | with_reducible exact e_non | with_reducible exact a_nil | with_reducible exact o_nil | with_reducible exact g_name | with_reducible exact gs_nil | with_reducible exact b_add | with_reducible exact b_sub | with_reducible exact u_neg | with_reducible exact c_lt | with_reducible exact c_le | with_reducible exact c_gt | with_reducible exact c_ge | with_reducible exact c_eqI | with_reducible exact c_neI | with_reducible exact c_eqS | with_reducible exact c_neS | ((with_reducible apply e_var); exact rfl) | ((with_reducible apply e_glb); exact rfl) | ((with_reducible apply x_tup); exact rfl) | ((with_reducible apply x_lst); exact rfl) | with_reducible apply a_cons | with_reducible apply e_bin | with_reducible apply e_un | with_reducible apply e_idx | with_reducible apply e_call | with_reducible apply e_blt | with_reducible apply e_cmp | with_reducible apply e_slc | with_reducible apply e_frz | with_reducible apply e_one | with_reducible apply e_not | with_reducible apply t_cmp | with_reducible apply t_not | with_reducible apply t_one | with_reducible apply t_ex | with_reducible apply o_cons | with_reducible apply g_tup | with_reducible apply gs_cons | with_reducible apply g_sub | with_reducible apply e_tupS | with_reducible apply e_dspS | ((with_reducible apply LS_mk); exact rfl) | with_reducible refine' t_and ?_ (fun _ => ?_) | with_reducible refine' t_or ?_ (fun _ => ?_) | with_reducible refine' e_and ?_ (fun _ => ?_) | with_reducible refine' e_or ?_ (fun _ => ?_) | ((with_reducible apply b_powL); decide) | ((with_reducible apply b_pow); decide) | ((with_reducible apply b_fdiv); decide) | ((with_reducible apply b_mod); decide) | ((with_reducible apply b_mul); decide) | ((with_reducible apply b_mul); with_reducible assumption) | ((with_reducible apply b_fdiv); with_reducible assumption) | with_reducible apply b_mul | with_reducible apply b_fdiv | with_reducible apply b_mod | with_reducible apply b_shr | with_reducible apply b_cat | with_reducible apply l_str))) hs) ?_
  refine' s_asg (by (repeat' (first | with_reducible apply e2 | with_reducible exact l_abs | with_reducible exact l_int | with_reducible exact l_intB | with_reducible exact l_lenT | with_reducible exact l_lenL | with_reducible exact l_lenS | with_reducible exact l_tupL | with_reducible exact l_tupT | with_reducible exact l_max | with_reducible exact l_min | with_reducible exact l_listT | with_reducible exact l_listL | with_reducible exact v_slcT | with_reducible exact l_isTT | with_reducible exact l_isII | with_reducible exact l_isBI | with_reducible exact l_isBB | with_reducible exact l_isSS | with_reducible exact l_isLL | with_reducible exact z_bl | with_reducible exact z_int | with_reducible exact v_slcL | with_reducible exact v_slcS | with_reducible exact e_int | with_reducible exact e_bl | with_reducible exact e_str | with_reducible exact e_non | with_reducible exact a_nil | with_reducible exact o_nil | with_reducible exact g_name | with_reducible exact gs_nil | with_reducible exact b_add | with_reducible exact b_sub | with_reducible exact u_neg | with_reducible exact c_lt | with_reducible exact c_le | with_reducible exact c_gt | with_reducible exact c_ge | with_reducible exact c_eqI | with_reducible exact c_neI | with_reducible exact c_eqS | with_reducible exact c_neS | ((with_reducible apply e_var); exact rfl) | ((with_reducible apply e_glb); exact rfl) | ((with_reducible apply x_tup); exact rfl) | ((with_reducible apply x_lst); exact rfl) | with_reducible apply a_cons | with_reducible apply e_bin | with_reducible apply e_un | with_reducible apply e_idx | with_reducible apply e_call | with_reducible apply e_blt | with_reducible apply e_cmp | with_reducible apply e_slc | with_reducible apply e_frz | with_reducible apply e_one | with_reducible apply e_not | with_reducible apply t_cmp | with_reducible apply t_not | with_reducible apply t_one | with_reducible apply t_ex | with_reducible apply o_cons | with_reducible apply g_tup | with_reducible apply gs_cons | with_reducible apply g_sub | with_reducible apply e_tupS | with_reducible apply e_dspS | ((with_reducible apply LS_mk); exact rfl) | with_reducible refine' t_and ?_ (fun _ => ?_) | with_reducible refine' t_or ?_ (fun _ => ?_) | with_reducible refine' e_and ?_ (fun _ => ?_) | with_reducible refine' e_or ?_ (fun _ => ?_) | ((with_reducible apply b_powL); decide) | ((with_reducible apply b_pow); decide) | ((with_reducible apply b_fdiv); decide) | ((with_reducible apply b_mod); decide) | ((with_reducible apply b_mul); decide) | ((with_reducible apply b_mul); with_reducible assumption) | ((with_reducible apply b_fdiv); with_reducible assumption) | with_reducible apply b_mul | with_reducible apply b_fdiv | with_reducible apply b_mod | with_reducible apply b_shr | with_reducible apply b_cat | with_reducible apply l_str))) ?_
  have er : (.bl true : D) = .bl (true && eqD (drf st (.bl (holdB kd x y))) (drf st (.bl (holdB kd x y)))) := by simp [drf, eqD]
  rw [er]
  refine s_ret ?_
  (repeat' (first | ((with_reducible apply c_eq); exact rfl; exact rfl) | with_reducible exact l_abs | with_reducible exact l_int | with_reducible exact l_intB | with_reducible exact l_lenT | with_reducible exact l_lenL | with_reducible exact l_lenS | with_reducible exact l_tupL | with_reducible exact l_tupT | with_reducible exact l_max | with_reducible exact l_min | with_reducible exact l_listT | with_reducible exact l_listL | with_reducible exact v_slcT | with_reducible exact l_isTT | with_reducible exact l_isII | with_reducible exact l_isBI | with_reducible exact l_isBB | with_reducible exact l_isSS | with_reducible exact l_isLL | with_reducible exact z_bl | with_reducible exact z_int | with_reducible exact v_slcL | with_reducible exact v_slcS | with_reducible exact e_int | with_reducible exact e_bl | with_reducible exact e_str | with_reducible exact e_non | with_reducible exact a_nil | with_reducible exact o_nil | with_reducible exact g_name | with_reducible exact gs_nil | with_reducible exact b_add | with_reducible exact b_sub | with_reducible exact u_neg | with_reducible exact c_lt | with_reducible exact c_le | with_reducible exact c_gt | with_reducible exact c_ge | with_reducible exact c_eqI | with_reducible exact c_neI | with_reducible exact c_eqS | with_reducible exact c_neS | ((with_reducible apply e_var); exact rfl) | ((with_reducible apply e_glb); exact rfl) | ((with_reducible apply x_tup); exact rfl) | ((with_reducible apply x_lst); exact rfl) | with_reducible apply a_cons | with_reducible apply e_bin | with_reducible apply e_un | with_reducible apply e_idx | with_reducible apply e_call | with_reducible apply e_blt | with_reducible apply e_cmp | with_reducible apply e_slc | with_reducible apply e_frz | with_reducible apply e_one | with_reducible apply e_not | with_reducible apply t_cmp | with_reducible apply t_not | with_reducible apply t_one | with_reducible apply t_ex | with_reducible apply o_cons | with_reducible apply g_tup | with_reducible apply gs_cons | with_reducible apply g_sub | with_reducible apply e_tupS | with_reducible apply e_dspS | ((with_reducible apply LS_mk); exact rfl) | with_reducible refine' t_and ?_ (fun _ => ?_) | with_reducible refine' t_or ?_ (fun _ => ?_) | with_reducible refine' e_and ?_ (fun _ => ?_) | with_reducible refine' e_or ?_ (fun _ => ?_) | ((with_reducible apply b_powL); decide) | ((with_reducible apply b_pow); decide) | ((with_reducible apply b_fdiv); decide) | ((with_reducible apply b_mod); decide) | ((with_reducible apply b_mul); decide) | ((with_reducible apply b_mul); with_reducible assumption) | ((with_reducible apply b_fdiv); with_reducible assumption) | with_reducible apply b_mul | with_reducible apply b_fdiv | with_reducible apply b_mod | with_reducible apply b_shr | with_reducible apply b_cat | with_reducible apply l_str))
end
theorem isFr.mono {n m : Nat} {d : D} (h : isFr n d) (hm : n ≤ m) : isFr m d := by
  obtain ⟨p, q, rfl, r, s1, s2⟩ := h
  exact ⟨p, q, rfl, r, s1.mono hm, s2.mono hm⟩
def cellOk (x : D) : Prop := ∃ z, x = .int z ∧ Sz 1048577 z
theorem cells_ok {xs : List D} (h : ∀ x ∈ xs, cellOk x) : dOk 60 (.lst xs) = true := by
  simp only [dOk, List.all_eq_true]
  intro x hx
  obtain ⟨z, rfl, _⟩ := h x hx
  rfl
end Jd


namespace Jd
open PySem PySem.Spec PyProof.Rows L2

/-! ### a fraction is a rational number -/
abbrev encQ (r : Rat) : D := .tup [.int r.num, .int (r.den : Int)]
def Szq (n : Nat) (r : Rat) : Prop := Sz n r.num ∧ Sz n (r.den : Int)
theorem Szq.mono {n m : Nat} {r : Rat} (h : Szq n r) (hm : n ≤ m) : Szq m r := ⟨h.1.mono hm, h.2.mono hm⟩
theorem red_q (r : Rat) : Red (r.num, (r.den : Int)) := ⟨by have := r.den_pos; show (0 : Int) < r.den; omega, by
  have := r.reduced
  show Int.gcd r.num (r.den : Int) = 1
  rw [Int.gcd, Int.natAbs_natCast]
  exact this⟩
theorem qv_q (r : Rat) : qv (r.num, (r.den : Int)) = r := by
  unfold qv
  rw [← Rat.divInt_eq_div, Rat.num_divInt_den]
theorem den_ne (r : Rat) : (r.den : Int) ≠ 0 := by have := r.den_pos; omega
theorem den_pos' (r : Rat) : (0 : Int) < (r.den : Int) := by have := r.den_pos; omega
/-- a pair in least terms is its number's -/
theorem red_is {p : Int × Int} (h : Red p) : p = ((qv p).num, ((qv p).den : Int)) := (qv_eq h (red_q _)).mpr (qv_q _).symm
theorem mk_is {n d : Int} (h : d ≠ 0) : mkF n d = (((n : Rat) / (d : Rat)).num, (((n : Rat) / (d : Rat)).den : Int)) := by
  have := red_is (mkF_red (n := n) h)
  rw [qv_mk h] at this
  exact this
theorem enc_mk {n d : Int} (h : d ≠ 0) : encF (mkF n d) = encQ ((n : Rat) / (d : Rat)) := by rw [mk_is h]
theorem isFr_q {N : Nat} {d : D} (h : isFr N d) : ∃ r, d = encQ r ∧ Szq N r := by
  obtain ⟨p, q, rfl, r, s1, s2⟩ := h
  have e := red_is r
  refine ⟨qv (p, q), ?_, ?_⟩
  · show D.tup [.int p, .int q] = _
    have e1 : p = (qv (p, q)).num := congrArg Prod.fst e
    have e2 : q = ((qv (p, q)).den : Int) := congrArg Prod.snd e
    rw [encQ, ← e1, ← e2]
  · have e1 : p = (qv (p, q)).num := congrArg Prod.fst e
    have e2 : q = ((qv (p, q)).den : Int) := congrArg Prod.snd e
    unfold Szq
    rw [← e1, ← e2]
    exact ⟨s1, s2⟩
theorem q_isFr {N : Nat} {r : Rat} (h : Szq N r) : isFr N (encQ r) := ⟨_, _, rfl, red_q r, h.1, h.2⟩
theorem eq_q {x y : Rat} : eqD (encQ x) (encQ y) = decide (x = y) := by
  have := encF_inj (a := (x.num, (x.den : Int))) (b := (y.num, (y.den : Int)))
  rw [show encQ x = encF (x.num, (x.den : Int)) from rfl, show encQ y = encF (y.num, (y.den : Int)) from rfl, this, decide_eq_decide, qv_eq (red_q x) (red_q y), qv_q, qv_q]
theorem szq_lit {r : Rat} (h : decide (r.num.natAbs < 2 ^ 128) = true) (h' : decide ((r.den : Int).natAbs < 2 ^ 128) = true) : Szq 128 r := ⟨Sz.lit h, Sz.lit h'⟩
section
variable {x y : Rat} {m n : Nat}
theorem q_div {a b : Int} (h : b ≠ 0) (sa : Sz m a) (sb : Sz m b) : Szq m ((a : Rat) / (b : Rat)) := by
  have s := mkF_sz h sa sb
  have e := mk_is (n := a) h
  unfold Szq
  rw [e] at s
  exact s
theorem add_eq : ((x.num * y.den + y.num * x.den : Int) : Rat) / ((x.den * y.den : Int) : Rat) = x + y := by
  have := qv_plus (a := x.num) (c := y.num) (den_ne x) (den_ne y)
  rw [qv_mk (Int.mul_ne_zero (den_ne x) (den_ne y)), qv_q, qv_q] at this
  exact this
theorem sub_eq : ((x.num * y.den - y.num * x.den : Int) : Rat) / ((x.den * y.den : Int) : Rat) = x - y := by
  have := qv_minus (a := x.num) (c := y.num) (den_ne x) (den_ne y)
  rw [qv_mk (Int.mul_ne_zero (den_ne x) (den_ne y)), qv_q, qv_q] at this
  exact this
theorem mul_eq : ((x.num * y.num : Int) : Rat) / ((x.den * y.den : Int) : Rat) = x * y := by
  have := qv_times (a := x.num) (c := y.num) (den_ne x) (den_ne y)
  rw [qv_mk (Int.mul_ne_zero (den_ne x) (den_ne y)), qv_q, qv_q] at this
  exact this
theorem Szq.add (h : Szq m x) (h' : Szq n y) : Szq (m + n + 1) (x + y) := by
  rw [← add_eq]
  exact q_div (Int.mul_ne_zero (den_ne x) (den_ne y)) (((h.1.mul h'.2).add (h'.1.mul h.2)).mono (by omega)) ((h.2.mul h'.2).mono (by omega))
theorem Szq.sub (h : Szq m x) (h' : Szq n y) : Szq (m + n + 1) (x - y) := by
  rw [← sub_eq]
  exact q_div (Int.mul_ne_zero (den_ne x) (den_ne y)) (((h.1.mul h'.2).sub (h'.1.mul h.2)).mono (by omega)) ((h.2.mul h'.2).mono (by omega))
theorem Szq.mul (h : Szq m x) (h' : Szq n y) : Szq (m + n) (x * y) := by
  rw [← mul_eq]
  exact q_div (Int.mul_ne_zero (den_ne x) (den_ne y)) (h.1.mul h'.1) (h.2.mul h'.2)
theorem Szq.neg (h : Szq m x) : Szq m (-x) := by
  refine ⟨?_, ?_⟩
  · rw [Rat.neg_num]; exact h.1.neg
  · rw [Rat.neg_den]; exact h.2
theorem lt_q : (x.num * y.den < y.num * x.den) ↔ x < y := by
  have := qv_lt (a := (x.num, (x.den : Int))) (b := (y.num, (y.den : Int))) (den_pos' x) (den_pos' y)
  rw [qv_q, qv_q] at this
  exact this
end
section
variable {gs : List D} {fs : List Fn} {i v u t : Nat} (k : Nat) (st : Sto) {x y : Rat} {m n : Nat}
theorem sq_make (hi : fs[i]? = some (T_make v)) (hv : fs[v]? = some T_divisor) (a d : Int) (h0 : d ≠ 0) (hd : Sz 8000 d) : run gs fs (k + 2) i [.int a, .int d] st = some (encQ ((a : Rat) / (d : Rat)), st) := by
  rw [← enc_mk h0]
  exact sp_make k st hi hv a d h0 hd
theorem sq_makeR (hi : fs[i]? = some T_law_makeR) (a d : Int) (h0 : 0 < d) (hd : Sz 8000 d) : run gs fs (k + 1) i [.int a, .int d] st = some (encQ ((a : Rat) / (d : Rat)), st) := by
  rw [← enc_mk (by omega)]
  exact sp_makeR k hi a d h0 hd
theorem sq_plus (hi : fs[i]? = some (T_plus u)) (hu : fs[u]? = some (T_make v)) (hv : fs[v]? = some T_divisor) (h : Szq m x) (h' : Szq n y) (hm : m + n ≤ 8000) : run gs fs (k + 3) i [encQ x, encQ y] st = some (encQ (x + y), st) := by
  have b := Int.mul_ne_zero (den_ne x) (den_ne y)
  have c1 := sq_make (gs := gs) k st hu hv (x.num * y.den + y.num * x.den) (x.den * y.den) b ((h.2.mul h'.2).mono hm)
  rw [add_eq] at c1
  refine run_rt (T_plus u) hi rfl ?_
  refine s_ret ?_
  (repeat' (first | with_reducible apply c1 | with_reducible exact l_abs | with_reducible exact l_int | with_reducible exact l_intB | with_reducible exact l_lenT | with_reducible exact l_lenL | with_reducible exact l_lenS | with_reducible exact l_tupL | with_reducible exact l_tupT | with_reducible exact l_max | with_reducible exact l_min | with_reducible exact l_listT | with_reducible exact l_listL | with_reducible exact v_slcT | with_reducible exact l_isTT | with_reducible exact l_isII | with_reducible exact l_isBI | with_reducible exact l_isBB | with_reducible exact l_isSS | with_reducible exact l_isLL | with_reducible exact z_bl | with_reducible exact z_int | with_reducible exact v_slcL | with_reducible exact v_slcS | with_reducible exact e_int | with_reducible exact e_bl | with_reducible exact e_str | with_reducible exact e_non | with_reducible exact a_nil | with_reducible exact o_nil | with_reducible exact g_name | with_reducible exact gs_nil | with_reducible exact b_add | with_reducible exact b_sub | with_reducible exact u_neg | with_reducible exact c_lt | with_reducible exact c_le | with_reducible exact c_gt | with_reducible exact c_ge | with_reducible exact c_eqI | with_reducible exact c_neI | with_reducible exact c_eqS | with_reducible exact c_neS | ((with_reducible apply e_var); exact rfl) | ((with_reducible apply e_glb); exact rfl) | ((with_reducible apply x_tup); exact rfl) | ((with_reducible apply x_lst); exact rfl) | with_reducible apply a_cons | with_reducible apply e_bin | with_reducible apply e_un | with_reducible apply e_idx | with_reducible apply e_call | with_reducible apply e_blt | with_reducible apply e_cmp | with_reducible apply e_slc | with_reducible apply e_frz | with_reducible apply e_one | with_reducible apply e_not | with_reducible apply t_cmp | with_reducible apply t_not | with_reducible apply t_one | with_reducible apply t_ex | with_reducible apply o_cons | with_reducible apply g_tup | with_reducible apply gs_cons | with_reducible apply g_sub | with_reducible apply e_tupS | with_reducible apply e_dspS | ((with_reducible apply LS_mk); exact rfl) | with_reducible refine' t_and ?_ (fun _ => ?_) | with_reducible refine' t_or ?_ (fun _ => ?_) | with_reducible refine' e_and ?_ (fun _ => ?_) | with_reducible refine' e_or ?_ (fun _ => ?_) | ((with_reducible apply b_powL); decide) | ((with_reducible apply b_pow); decide) | ((with_reducible apply b_fdiv); decide) | ((with_reducible apply b_mod); decide) | ((with_reducible apply b_mul); decide) | ((with_reducible apply b_mul); with_reducible assumption) | ((with_reducible apply b_fdiv); with_reducible assumption) | with_reducible apply b_mul | with_reducible apply b_fdiv | with_reducible apply b_mod | with_reducible apply b_shr | with_reducible apply b_cat | with_reducible apply l_str))
  all_goals first | exact mulOk_sz h.1 h'.2 (by omega) | exact mulOk_sz h'.1 h.2 (by omega) | exact mulOk_sz h.2 h'.2 (by omega)
theorem sq_minus (hi : fs[i]? = some (T_minus u)) (hu : fs[u]? = some (T_make v)) (hv : fs[v]? = some T_divisor) (h : Szq m x) (h' : Szq n y) (hm : m + n ≤ 8000) : run gs fs (k + 3) i [encQ x, encQ y] st = some (encQ (x - y), st) := by
  have b := Int.mul_ne_zero (den_ne x) (den_ne y)
  have c1 := sq_make (gs := gs) k st hu hv (x.num * y.den - y.num * x.den) (x.den * y.den) b ((h.2.mul h'.2).mono hm)
  rw [sub_eq] at c1
  refine run_rt (T_minus u) hi rfl ?_
  refine s_ret ?_
  (repeat' (first | with_reducible apply c1 | with_reducible exact l_abs | with_reducible exact l_int | with_reducible exact l_intB | with_reducible exact l_lenT | with_reducible exact l_lenL | with_reducible exact l_lenS | with_reducible exact l_tupL | with_reducible exact l_tupT | with_reducible exact l_max | with_reducible exact l_min | with_reducible exact l_listT | with_reducible exact l_listL | with_reducible exact v_slcT | with_reducible exact l_isTT | with_reducible exact l_isII | with_reducible exact l_isBI | with_reducible exact l_isBB | with_reducible exact l_isSS | with_reducible exact l_isLL | with_reducible exact z_bl | with_reducible exact z_int | with_reducible exact v_slcL | with_reducible exact v_slcS | with_reducible exact e_int | with_reducible exact e_bl | with_reducible exact e_str | with_reducible exact e_non | with_reducible exact a_nil | with_reducible exact o_nil | with_reducible exact g_name | with_reducible exact gs_nil | with_reducible exact b_add | with_reducible exact b_sub | with_reducible exact u_neg | with_reducible exact c_lt | with_reducible exact c_le | with_reducible exact c_gt | with_reducible exact c_ge | with_reducible exact c_eqI | with_reducible exact c_neI | with_reducible exact c_eqS | with_reducible exact c_neS | ((with_reducible apply e_var); exact rfl) | ((with_reducible apply e_glb); exact rfl) | ((with_reducible apply x_tup); exact rfl) | ((with_reducible apply x_lst); exact rfl) | with_reducible apply a_cons | with_reducible apply e_bin | with_reducible apply e_un | with_reducible apply e_idx | with_reducible apply e_call | with_reducible apply e_blt | with_reducible apply e_cmp | with_reducible apply e_slc | with_reducible apply e_frz | with_reducible apply e_one | with_reducible apply e_not | with_reducible apply t_cmp | with_reducible apply t_not | with_reducible apply t_one | with_reducible apply t_ex | with_reducible apply o_cons | with_reducible apply g_tup | with_reducible apply gs_cons | with_reducible apply g_sub | with_reducible apply e_tupS | with_reducible apply e_dspS | ((with_reducible apply LS_mk); exact rfl) | with_reducible refine' t_and ?_ (fun _ => ?_) | with_reducible refine' t_or ?_ (fun _ => ?_) | with_reducible refine' e_and ?_ (fun _ => ?_) | with_reducible refine' e_or ?_ (fun _ => ?_) | ((with_reducible apply b_powL); decide) | ((with_reducible apply b_pow); decide) | ((with_reducible apply b_fdiv); decide) | ((with_reducible apply b_mod); decide) | ((with_reducible apply b_mul); decide) | ((with_reducible apply b_mul); with_reducible assumption) | ((with_reducible apply b_fdiv); with_reducible assumption) | with_reducible apply b_mul | with_reducible apply b_fdiv | with_reducible apply b_mod | with_reducible apply b_shr | with_reducible apply b_cat | with_reducible apply l_str))
  all_goals first | exact mulOk_sz h.1 h'.2 (by omega) | exact mulOk_sz h'.1 h.2 (by omega) | exact mulOk_sz h.2 h'.2 (by omega)
theorem sq_times (hi : fs[i]? = some (T_times u)) (hu : fs[u]? = some (T_make v)) (hv : fs[v]? = some T_divisor) (h : Szq m x) (h' : Szq n y) (hm : m + n ≤ 8000) : run gs fs (k + 3) i [encQ x, encQ y] st = some (encQ (x * y), st) := by
  have b := Int.mul_ne_zero (den_ne x) (den_ne y)
  have c1 := sq_make (gs := gs) k st hu hv (x.num * y.num) (x.den * y.den) b ((h.2.mul h'.2).mono hm)
  rw [mul_eq] at c1
  refine run_rt (T_times u) hi rfl ?_
  refine s_ret ?_
  (repeat' (first | with_reducible apply c1 | with_reducible exact l_abs | with_reducible exact l_int | with_reducible exact l_intB | with_reducible exact l_lenT | with_reducible exact l_lenL | with_reducible exact l_lenS | with_reducible exact l_tupL | with_reducible exact l_tupT | with_reducible exact l_max | with_reducible exact l_min | with_reducible exact l_listT | with_reducible exact l_listL | with_reducible exact v_slcT | with_reducible exact l_isTT | with_reducible exact l_isII | with_reducible exact l_isBI | with_reducible exact l_isBB | with_reducible exact l_isSS | with_reducible exact l_isLL | with_reducible exact z_bl | with_reducible exact z_int | with_reducible exact v_slcL | with_reducible exact v_slcS | with_reducible exact e_int | with_reducible exact e_bl | with_reducible exact e_str | with_reducible exact e_non | with_reducible exact a_nil | with_reducible exact o_nil | with_reducible exact g_name | with_reducible exact gs_nil | with_reducible exact b_add | with_reducible exact b_sub | with_reducible exact u_neg | with_reducible exact c_lt | with_reducible exact c_le | with_reducible exact c_gt | with_reducible exact c_ge | with_reducible exact c_eqI | with_reducible exact c_neI | with_reducible exact c_eqS | with_reducible exact c_neS | ((with_reducible apply e_var); exact rfl) | ((with_reducible apply e_glb); exact rfl) | ((with_reducible apply x_tup); exact rfl) | ((with_reducible apply x_lst); exact rfl) | with_reducible apply a_cons | with_reducible apply e_bin | with_reducible apply e_un | with_reducible apply e_idx | with_reducible apply e_call | with_reducible apply e_blt | with_reducible apply e_cmp | with_reducible apply e_slc | with_reducible apply e_frz | with_reducible apply e_one | with_reducible apply e_not | with_reducible apply t_cmp | with_reducible apply t_not | with_reducible apply t_one | with_reducible apply t_ex | with_reducible apply o_cons | with_reducible apply g_tup | with_reducible apply gs_cons | with_reducible apply g_sub | with_reducible apply e_tupS | with_reducible apply e_dspS | ((with_reducible apply LS_mk); exact rfl) | with_reducible refine' t_and ?_ (fun _ => ?_) | with_reducible refine' t_or ?_ (fun _ => ?_) | with_reducible refine' e_and ?_ (fun _ => ?_) | with_reducible refine' e_or ?_ (fun _ => ?_) | ((with_reducible apply b_powL); decide) | ((with_reducible apply b_pow); decide) | ((with_reducible apply b_fdiv); decide) | ((with_reducible apply b_mod); decide) | ((with_reducible apply b_mul); decide) | ((with_reducible apply b_mul); with_reducible assumption) | ((with_reducible apply b_fdiv); with_reducible assumption) | with_reducible apply b_mul | with_reducible apply b_fdiv | with_reducible apply b_mod | with_reducible apply b_shr | with_reducible apply b_cat | with_reducible apply l_str))
  all_goals first | exact mulOk_sz h.1 h'.1 (by omega) | exact mulOk_sz h.2 h'.2 (by omega)
theorem sq_below (hi : fs[i]? = some T_below) (h : Szq m x) (h' : Szq n y) (hm : m + n ≤ 100000) : run gs fs (k + 1) i [encQ x, encQ y] st = some (.bl (decide (x < y)), st) := by
  have e : (.bl (decide (x < y)) : D) = .bl (decide (x.num * y.den < y.num * x.den)) := congrArg D.bl (decide_eq_decide.mpr lt_q.symm)
  rw [e]
  refine run_rt T_below hi rfl ?_
  refine s_ret ?_
  (repeat' (first | with_reducible exact l_abs | with_reducible exact l_int | with_reducible exact l_intB | with_reducible exact l_lenT | with_reducible exact l_lenL | with_reducible exact l_lenS | with_reducible exact l_tupL | with_reducible exact l_tupT | with_reducible exact l_max | with_reducible exact l_min | with_reducible exact l_listT | with_reducible exact l_listL | with_reducible exact v_slcT | with_reducible exact l_isTT | with_reducible exact l_isII | with_reducible exact l_isBI | with_reducible exact l_isBB | with_reducible exact l_isSS | with_reducible exact l_isLL | with_reducible exact z_bl | with_reducible exact z_int | with_reducible exact v_slcL | with_reducible exact v_slcS | with_reducible exact e_int | with_reducible exact e_bl | with_reducible exact e_str | with_reducible exact e_non | with_reducible exact a_nil | with_reducible exact o_nil | with_reducible exact g_name | with_reducible exact gs_nil | with_reducible exact b_add | with_reducible exact b_sub | with_reducible exact u_neg | with_reducible exact c_lt | with_reducible exact c_le | with_reducible exact c_gt | with_reducible exact c_ge | with_reducible exact c_eqI | with_reducible exact c_neI | with_reducible exact c_eqS | with_reducible exact c_neS | ((with_reducible apply e_var); exact rfl) | ((with_reducible apply e_glb); exact rfl) | ((with_reducible apply x_tup); exact rfl) | ((with_reducible apply x_lst); exact rfl) | with_reducible apply a_cons | with_reducible apply e_bin | with_reducible apply e_un | with_reducible apply e_idx | with_reducible apply e_call | with_reducible apply e_blt | with_reducible apply e_cmp | with_reducible apply e_slc | with_reducible apply e_frz | with_reducible apply e_one | with_reducible apply e_not | with_reducible apply t_cmp | with_reducible apply t_not | with_reducible apply t_one | with_reducible apply t_ex | with_reducible apply o_cons | with_reducible apply g_tup | with_reducible apply gs_cons | with_reducible apply g_sub | with_reducible apply e_tupS | with_reducible apply e_dspS | ((with_reducible apply LS_mk); exact rfl) | with_reducible refine' t_and ?_ (fun _ => ?_) | with_reducible refine' t_or ?_ (fun _ => ?_) | with_reducible refine' e_and ?_ (fun _ => ?_) | with_reducible refine' e_or ?_ (fun _ => ?_) | ((with_reducible apply b_powL); decide) | ((with_reducible apply b_pow); decide) | ((with_reducible apply b_fdiv); decide) | ((with_reducible apply b_mod); decide) | ((with_reducible apply b_mul); decide) | ((with_reducible apply b_mul); with_reducible assumption) | ((with_reducible apply b_fdiv); with_reducible assumption) | with_reducible apply b_mul | with_reducible apply b_fdiv | with_reducible apply b_mod | with_reducible apply b_shr | with_reducible apply b_cat | with_reducible apply l_str))
  all_goals first | exact mulOk_sz h.1 h'.2 (by omega) | exact mulOk_sz h'.1 h.2 (by omega)
theorem sq_plusR (hi : fs[i]? = some (T_law_plus u)) (hu : fs[u]? = some T_law_makeR) (h : Szq m x) (h' : Szq n y) (hm : m + n ≤ 8000) : run gs fs (k + 2) i [encQ x, encQ y] st = some (encQ (x + y), st) := by
  have c1 := sq_makeR (gs := gs) k st hu (x.num * y.den + y.num * x.den) (x.den * y.den) (Int.mul_pos (den_pos' x) (den_pos' y)) ((h.2.mul h'.2).mono hm)
  rw [add_eq] at c1
  refine run_rt (T_law_plus u) hi rfl ?_
  refine s_ret ?_
  (repeat' (first | with_reducible apply c1 | with_reducible exact l_abs | with_reducible exact l_int | with_reducible exact l_intB | with_reducible exact l_lenT | with_reducible exact l_lenL | with_reducible exact l_lenS | with_reducible exact l_tupL | with_reducible exact l_tupT | with_reducible exact l_max | with_reducible exact l_min | with_reducible exact l_listT | with_reducible exact l_listL | with_reducible exact v_slcT | with_reducible exact l_isTT | with_reducible exact l_isII | with_reducible exact l_isBI | with_reducible exact l_isBB | with_reducible exact l_isSS | with_reducible exact l_isLL | with_reducible exact z_bl | with_reducible exact z_int | with_reducible exact v_slcL | with_reducible exact v_slcS | with_reducible exact e_int | with_reducible exact e_bl | with_reducible exact e_str | with_reducible exact e_non | with_reducible exact a_nil | with_reducible exact o_nil | with_reducible exact g_name | with_reducible exact gs_nil | with_reducible exact b_add | with_reducible exact b_sub | with_reducible exact u_neg | with_reducible exact c_lt | with_reducible exact c_le | with_reducible exact c_gt | with_reducible exact c_ge | with_reducible exact c_eqI | with_reducible exact c_neI | with_reducible exact c_eqS | with_reducible exact c_neS | ((with_reducible apply e_var); exact rfl) | ((with_reducible apply e_glb); exact rfl) | ((with_reducible apply x_tup); exact rfl) | ((with_reducible apply x_lst); exact rfl) | with_reducible apply a_cons | with_reducible apply e_bin | with_reducible apply e_un | with_reducible apply e_idx | with_reducible apply e_call | with_reducible apply e_blt | with_reducible apply e_cmp | with_reducible apply e_slc | with_reducible apply e_frz | with_reducible apply e_one | with_reducible apply e_not | with_reducible apply t_cmp | with_reducible apply t_not | with_reducible apply t_one | with_reducible apply t_ex | with_reducible apply o_cons | with_reducible apply g_tup | with_reducible apply gs_cons | with_reducible apply g_sub | with_reducible apply e_tupS | with_reducible apply e_dspS | ((with_reducible apply LS_mk); exact rfl) | with_reducible refine' t_and ?_ (fun _ => ?_) | with_reducible refine' t_or ?_ (fun _ => ?_) | with_reducible refine' e_and ?_ (fun _ => ?_) | with_reducible refine' e_or ?_ (fun _ => ?_) | ((with_reducible apply b_powL); decide) | ((with_reducible apply b_pow); decide) | ((with_reducible apply b_fdiv); decide) | ((with_reducible apply b_mod); decide) | ((with_reducible apply b_mul); decide) | ((with_reducible apply b_mul); with_reducible assumption) | ((with_reducible apply b_fdiv); with_reducible assumption) | with_reducible apply b_mul | with_reducible apply b_fdiv | with_reducible apply b_mod | with_reducible apply b_shr | with_reducible apply b_cat | with_reducible apply l_str))
  all_goals first | exact mulOk_sz h.1 h'.2 (by omega) | exact mulOk_sz h'.1 h.2 (by omega) | exact mulOk_sz h.2 h'.2 (by omega)
theorem sq_timesR (hi : fs[i]? = some (T_law_times u)) (hu : fs[u]? = some T_law_makeR) (h : Szq m x) (h' : Szq n y) (hm : m + n ≤ 8000) : run gs fs (k + 2) i [encQ x, encQ y] st = some (encQ (x * y), st) := by
  have c1 := sq_makeR (gs := gs) k st hu (x.num * y.num) (x.den * y.den) (Int.mul_pos (den_pos' x) (den_pos' y)) ((h.2.mul h'.2).mono hm)
  rw [mul_eq] at c1
  refine run_rt (T_law_times u) hi rfl ?_
  refine s_ret ?_
  (repeat' (first | with_reducible apply c1 | with_reducible exact l_abs | with_reducible exact l_int | with_reducible exact l_intB | with_reducible exact l_lenT | with_reducible exact l_lenL | with_reducible exact l_lenS | with_reducible exact l_tupL | with_reducible exact l_tupT | with_reducible exact l_max | with_reducible exact l_min | with_reducible exact l_listT | with_reducible exact l_listL | with_reducible exact v_slcT | with_reducible exact l_isTT | with_reducible exact l_isII | with_reducible exact l_isBI | with_reducible exact l_isBB | with_reducible exact l_isSS | with_reducible exact l_isLL | with_reducible exact z_bl | with_reducible exact z_int | with_reducible exact v_slcL | with_reducible exact v_slcS | with_reducible exact e_int | with_reducible exact e_bl | with_reducible exact e_str | with_reducible exact e_non | with_reducible exact a_nil | with_reducible exact o_nil | with_reducible exact g_name | with_reducible exact gs_nil | with_reducible exact b_add | with_reducible exact b_sub | with_reducible exact u_neg | with_reducible exact c_lt | with_reducible exact c_le | with_reducible exact c_gt | with_reducible exact c_ge | with_reducible exact c_eqI | with_reducible exact c_neI | with_reducible exact c_eqS | with_reducible exact c_neS | ((with_reducible apply e_var); exact rfl) | ((with_reducible apply e_glb); exact rfl) | ((with_reducible apply x_tup); exact rfl) | ((with_reducible apply x_lst); exact rfl) | with_reducible apply a_cons | with_reducible apply e_bin | with_reducible apply e_un | with_reducible apply e_idx | with_reducible apply e_call | with_reducible apply e_blt | with_reducible apply e_cmp | with_reducible apply e_slc | with_reducible apply e_frz | with_reducible apply e_one | with_reducible apply e_not | with_reducible apply t_cmp | with_reducible apply t_not | with_reducible apply t_one | with_reducible apply t_ex | with_reducible apply o_cons | with_reducible apply g_tup | with_reducible apply gs_cons | with_reducible apply g_sub | with_reducible apply e_tupS | with_reducible apply e_dspS | ((with_reducible apply LS_mk); exact rfl) | with_reducible refine' t_and ?_ (fun _ => ?_) | with_reducible refine' t_or ?_ (fun _ => ?_) | with_reducible refine' e_and ?_ (fun _ => ?_) | with_reducible refine' e_or ?_ (fun _ => ?_) | ((with_reducible apply b_powL); decide) | ((with_reducible apply b_pow); decide) | ((with_reducible apply b_fdiv); decide) | ((with_reducible apply b_mod); decide) | ((with_reducible apply b_mul); decide) | ((with_reducible apply b_mul); with_reducible assumption) | ((with_reducible apply b_fdiv); with_reducible assumption) | with_reducible apply b_mul | with_reducible apply b_fdiv | with_reducible apply b_mod | with_reducible apply b_shr | with_reducible apply b_cat | with_reducible apply l_str))
  all_goals first | exact mulOk_sz h.1 h'.1 (by omega) | exact mulOk_sz h.2 h'.2 (by omega)
end
end Jd


namespace Jd
open PySem PySem.Spec PyProof.Rows L2
/-! ### lines and papers -/
/-- turned: 0 line, 1 part -/
abbrev T_turned (i_minus i_NOUGHT : Nat) : Fn := ⟨1, 2, (.cons (.ret (.tup (.cons (.kstr "<=") (.cons (.blt .tuple false (.cons (.lcp false [1] (.tN 1) (.iV (.idx (.var 0) (.kint 1))) .nil (.call i_minus (.cons (.glb i_NOUGHT) (.cons (.var 1) .nil)))) .nil)) (.cons (.call i_minus (.cons (.glb i_NOUGHT) (.cons (.idx (.var 0) (.kint 2)) .nil))) .nil))))) .nil)⟩
/-- weights_may_be: 0 others, 1 paper, 2 other, 3 weight -/
abbrev T_weights_may_be : Fn := ⟨2, 4, (.cons (.ifs (.cmp .ne (.blt .len false (.cons (.var 1) .nil)) (.blt .len false (.cons (.var 0) .nil))) (.cons (.ret (.kbl false)) .nil) .nil) (.cons (.for_ (.tT (.cons (.tN 2) (.cons (.tN 3) .nil))) (.iZip (.var 0) (.var 1)) (.cons (.ifs (.and (.cmp .ne (.idx (.var 2) (.kint 0)) (.kstr "=")) (.one (.cmp .lt (.idx (.var 3) (.kint 0)) (.kint 0)))) (.cons (.ret (.kbl false)) .nil) .nil) .nil)) (.cons (.ret (.kbl true)) .nil)))⟩
/-- shows_bound: 0 line, 1 others, 2 paper, 3 sums, 4 strict, 5 found, 6 kind, 7 parts, 8 bound, 9 other, 10 weight, 11 part, 12 one, 13 number -/
abbrev T_shows_bound1 (i_weights_may_be i_NOUGHT i_plus i_times i_below : Nat) : Fn := ⟨3, 14, (.cons (.ifs (.not (.ex (.call i_weights_may_be (.cons (.var 1) (.cons (.var 2) .nil))))) (.cons (.ret (.kbl false)) .nil) .nil) (.cons (.asg (.tT (.cons (.tN 6) (.cons (.tN 7) (.cons (.tN 8) .nil)))) (.var 0)) (.cons (.asg (.tN 3) (.bin .mul false (.dsp false (.cons (.glb i_NOUGHT) .nil)) (.bin .add false (.blt .len false (.cons (.var 7) .nil)) (.kint 1)))) (.cons (.asg (.tN 4) (.kbl false)) (.cons (.for_ (.tT (.cons (.tN 9) (.cons (.tN 10) .nil))) (.iZip (.var 1) (.var 2)) (.cons (.asg (.tN 3) (.lcp false [12, 13] (.tT (.cons (.tN 12) (.cons (.tN 13) .nil))) (.iZip (.var 3) (.bin .add false (.idx (.var 9) (.kint 1)) (.tup (.cons (.idx (.var 9) (.kint 2)) .nil)))) .nil (.call i_plus (.cons (.var 12) (.cons (.call i_times (.cons (.var 10) (.cons (.var 13) .nil))) .nil))))) (.cons (.asg (.tN 4) (.or (.var 4) (.one (.and (.cmp .eq (.idx (.var 9) (.kint 0)) (.kstr "<")) (.one (.cmp .gt (.idx (.var 10) (.kint 0)) (.kint 0))))))) .nil))) (.cons (.asg (.tN 5) (.blt .tuple false (.cons (.slc false (.var 3) .nil (.cons (.un .neg (.kint 1)) .nil)) .nil))) (.cons (.ifs (.and (.cmp .eq (.var 5) (.var 7)) (.one (.or (.ex (.call i_below (.cons (.idx (.var 3) (.un .neg (.kint 1))) (.cons (.var 8) .nil)))) (.one (.and (.cmp .eq (.idx (.var 3) (.un .neg (.kint 1))) (.var 8)) (.one (.or (.cmp .eq (.var 6) (.kstr "<=")) (.one (.ex (.var 4)))))))))) (.cons (.ret (.kbl true)) .nil) .nil) (.cons (.ifs (.cmp .ne (.lcp false [11] (.tN 11) (.iV (.var 5)) (.cmp .ne (.var 11) (.glb i_NOUGHT)) (.var 11)) (.dsp false .nil)) (.cons (.ret (.kbl false)) .nil) .nil) (.cons (.ret (.or (.cmp .lt (.idx (.idx (.var 3) (.un .neg (.kint 1))) (.kint 0)) (.kint 0)) (.one (.and (.cmp .eq (.idx (.var 3) (.un .neg (.kint 1))) (.glb i_NOUGHT)) (.one (.var 4)))))) .nil)))))))))⟩
/-- is_right: 0 line, 1 others, 2 paper, 3 first -/
abbrev T_is_right (i_shows_bound i_turned : Nat) : Fn := ⟨3, 4, (.cons (.ifs (.cmp .ne (.idx (.var 0) (.kint 0)) (.kstr "=")) (.cons (.ret (.call i_shows_bound (.cons (.var 0) (.cons (.var 1) (.cons (.var 2) .nil))))) .nil) .nil) (.cons (.asg (.tN 3) (.call i_shows_bound (.cons (.tup (.cons (.kstr "<=") (.cons (.idx (.var 0) (.kint 1)) (.cons (.idx (.var 0) (.kint 2)) .nil)))) (.cons (.var 1) (.cons (.idx (.var 2) (.kint 0)) .nil))))) (.cons (.ret (.and (.var 3) (.one (.call i_shows_bound (.cons (.call i_turned (.cons (.var 0) .nil)) (.cons (.var 1) (.cons (.idx (.var 2) (.kint 1)) .nil))))))) .nil)))⟩
/-- _law_together: 0 others, 1 weights, 2 many, 3 sums, 4 other, 5 weight, 6 numbers, 7 k -/
abbrev T_law_together (i__law_plus i__law_times : Nat) : Fn := ⟨3, 8, (.cons (.asg (.tN 3) (.lcp false [7] (.tN 7) (.iR1 (.bin .add false (.var 2) (.kint 1))) .nil (.tup (.cons (.kint 0) (.cons (.kint 1) .nil))))) (.cons (.for_ (.tT (.cons (.tN 4) (.cons (.tN 5) .nil))) (.iZip (.var 0) (.var 1)) (.cons (.asg (.tN 6) (.bin .add false (.blt .list false (.cons (.idx (.var 4) (.kint 1)) .nil)) (.dsp false (.cons (.idx (.var 4) (.kint 2)) .nil)))) (.cons (.asg (.tN 3) (.lcp false [7] (.tN 7) (.iR1 (.bin .add false (.var 2) (.kint 1))) .nil (.call i__law_plus (.cons (.idx (.var 3) (.var 7)) (.cons (.call i__law_times (.cons (.var 5) (.cons (.idx (.var 6) (.var 7)) .nil))) .nil))))) .nil))) (.cons (.ret (.tup (.cons (.blt .tuple false (.cons (.slc false (.var 3) .nil (.cons (.var 2) .nil)) .nil)) (.cons (.idx (.var 3) (.var 2)) .nil)))) .nil)))⟩
/-- _law_right: 0 kind, 1 parts, 2 bound, 3 others, 4 weights, 5 strict, 6 less, 7 nought, 8 other, 9 weight, 10 found, 11 sum_of, 12 part -/
abbrev T_law_rightP (i__law_together i__law_below : Nat) : Fn := ⟨5, 13, (.cons (.asg (.tN 5) (.kbl false)) (.cons (.for_ (.tT (.cons (.tN 8) (.cons (.tN 9) .nil))) (.iZip (.var 3) (.var 4)) (.cons (.ifs (.and (.cmp .ne (.idx (.var 8) (.kint 0)) (.kstr "=")) (.one (.cmp .lt (.idx (.var 9) (.kint 0)) (.kint 0)))) (.cons (.ret (.kbl false)) .nil) .nil) (.cons (.asg (.tN 5) (.or (.var 5) (.one (.and (.cmp .eq (.idx (.var 8) (.kint 0)) (.kstr "<")) (.one (.cmp .gt (.idx (.var 9) (.kint 0)) (.kint 0))))))) .nil))) (.cons (.asg (.tT (.cons (.tN 10) (.cons (.tN 11) .nil))) (.call i__law_together (.cons (.var 3) (.cons (.var 4) (.cons (.blt .len false (.cons (.var 1) .nil)) .nil))))) (.cons (.asg (.tN 6) (.call i__law_below (.cons (.var 11) (.cons (.var 2) .nil)))) (.cons (.ifs (.and (.cmp .eq (.var 10) (.var 1)) (.one (.or (.ex (.var 6)) (.one (.and (.cmp .eq (.var 11) (.var 2)) (.one (.or (.cmp .eq (.var 0) (.kstr "<=")) (.one (.ex (.var 5)))))))))) (.cons (.ret (.kbl true)) .nil) .nil) (.cons (.asg (.tN 7) (.blt .tuple false (.cons (.lcp false [12] (.tN 12) (.iV (.var 1)) .nil (.tup (.cons (.kint 0) (.cons (.kint 1) .nil)))) .nil))) (.cons (.ret (.and (.cmp .eq (.var 10) (.var 7)) (.one (.or (.cmp .lt (.idx (.var 11) (.kint 0)) (.kint 0)) (.one (.and (.cmp .eq (.idx (.var 11) (.kint 0)) (.kint 0)) (.one (.var 5)))))))) .nil)))))))⟩
/-- _law_turned: 0 parts, 1 bound, 2 part -/
abbrev T_law_turnedP : Fn := ⟨2, 3, (.cons (.ret (.tup (.cons (.blt .tuple false (.cons (.lcp false [2] (.tN 2) (.iV (.var 0)) .nil (.tup (.cons (.un .neg (.idx (.var 2) (.kint 0))) (.cons (.idx (.var 2) (.kint 1)) .nil)))) .nil)) (.cons (.tup (.cons (.un .neg (.idx (.var 1) (.kint 0))) (.cons (.idx (.var 1) (.kint 1)) .nil))) .nil)))) .nil)⟩
/-- _law_alike: 0 found, 1 due, 2 k -/
abbrev T_law_alike (i__law_alike : Nat) : Fn := ⟨2, 3, (.cons (.ifs (.cmp .isN (.var 1) .knon) (.cons (.ret (.cmp .isN (.var 0) .knon)) .nil) .nil) (.cons (.ifs (.ex (.blt (.isI .bool) false (.cons (.var 1) .nil))) (.cons (.ret (.and (.blt (.isI .bool) false (.cons (.var 0) .nil)) (.one (.cmp .eq (.var 0) (.var 1))))) .nil) .nil) (.cons (.ifs (.ex (.blt (.isI .int) false (.cons (.var 1) .nil))) (.cons (.ret (.and (.blt (.isI .int) false (.cons (.var 0) .nil)) (.and (.not (.blt (.isI .bool) false (.cons (.var 0) .nil))) (.one (.cmp .eq (.var 0) (.var 1)))))) .nil) .nil) (.cons (.ifs (.ex (.blt (.isI .str) false (.cons (.var 1) .nil))) (.cons (.ret (.and (.blt (.isI .str) false (.cons (.var 0) .nil)) (.one (.cmp .eq (.var 0) (.var 1))))) .nil) .nil) (.cons (.ifs (.ex (.blt (.isI .tuple) false (.cons (.var 1) .nil))) (.cons (.ifs (.not (.ex (.blt (.isI .tuple) false (.cons (.var 0) .nil)))) (.cons (.ret (.kbl false)) .nil) .nil) .nil) (.cons (.ifs (.not (.ex (.blt (.isI .list) false (.cons (.var 0) .nil)))) (.cons (.ret (.kbl false)) .nil) .nil) .nil)) (.cons (.ifs (.cmp .ne (.blt .len false (.cons (.var 0) .nil)) (.blt .len false (.cons (.var 1) .nil))) (.cons (.ret (.kbl false)) .nil) .nil) (.cons (.for_ (.tN 2) (.iR1 (.blt .len false (.cons (.var 1) .nil))) (.cons (.ifs (.not (.ex (.call i__law_alike (.cons (.idx (.var 0) (.var 2)) (.cons (.idx (.var 1) (.var 2)) .nil))))) (.cons (.ret (.kbl false)) .nil) .nil) .nil)) (.cons (.ret (.kbl true)) .nil))))))))⟩
/-- _law_weight: 0 reel, 1 kind, 2 found -/
abbrev T_law_weight (i__law_make i__law_take : Nat) : Fn := ⟨2, 3, (.cons (.asg (.tN 2) (.call i__law_make (.cons (.call i__law_take (.cons (.var 0) (.cons (.idx (.dsp false (.cons (.kint 6) (.cons (.bin .pow false (.kint 10) (.kint 6)) .nil))) (.blt .int false (.cons (.cmp .eq (.call i__law_take (.cons (.var 0) (.cons (.kint 5) .nil))) (.kint 0)) .nil))) .nil))) (.cons (.bin .add false (.kint 1) (.call i__law_take (.cons (.var 0) (.cons (.kint 3) .nil)))) .nil)))) (.cons (.ifs (.and (.cmp .eq (.var 1) (.kstr "=")) (.one (.cmp .eq (.call i__law_take (.cons (.var 0) (.cons (.kint 2) .nil))) (.kint 0)))) (.cons (.ret (.tup (.cons (.un .neg (.idx (.var 2) (.kint 0))) (.cons (.idx (.var 2) (.kint 1)) .nil)))) .nil) .nil) (.cons (.ret (.var 2)) .nil)))⟩
/-- _law_built: 0 reel, 1 many, 2 size, 3 others, 4 weights, 5 by, 6 kind, 7 last, 8 parts, 9 bound, 10 less, 11 more, 12 k, 13 other -/
abbrev T_law_built (i__law_take i__law_line i__law_weight i__law_together i__law_plus i__law_turned : Nat) : Fn := ⟨2, 14, (.cons (.asg (.tN 2) (.idx (.dsp false (.cons (.call i__law_take (.cons (.var 0) (.cons (.kint 7) .nil))) (.cons (.call i__law_take (.cons (.var 0) (.cons (.kint 12) .nil))) .nil))) (.call i__law_take (.cons (.var 0) (.cons (.kint 2) .nil))))) (.cons (.asg (.tN 3) (.lcp false [12] (.tN 12) (.iR1 (.var 2)) .nil (.call i__law_line (.cons (.var 0) (.cons (.var 1) (.cons (.kbl false) .nil)))))) (.cons (.asg (.tN 4) (.lcp false [13] (.tN 13) (.iV (.var 3)) .nil (.call i__law_weight (.cons (.var 0) (.cons (.idx (.var 13) (.kint 0)) .nil))))) (.cons (.asg (.tT (.cons (.tN 8) (.cons (.tN 9) .nil))) (.call i__law_together (.cons (.var 3) (.cons (.var 4) (.cons (.var 1) .nil))))) (.cons (.asg (.tN 5) (.idx (.dsp false (.cons (.tup (.cons (.kint 0) (.cons (.kint 1) .nil))) (.cons (.tup (.cons (.kint 1) (.cons (.kint 7) .nil))) (.cons (.tup (.cons (.bin .pow false (.kint 10) (.kint 6)) (.cons (.kint 1) .nil))) (.cons (.tup (.cons (.un .neg (.kint 1)) (.cons (.kint 7) .nil))) .nil))))) (.call i__law_take (.cons (.var 0) (.cons (.kint 4) .nil))))) (.cons (.asg (.tN 6) (.idx (.dsp false (.cons (.kstr "<=") (.cons (.kstr "<") .nil))) (.call i__law_take (.cons (.var 0) (.cons (.kint 2) .nil))))) (.cons (.ifs (.cmp .gt (.call i__law_take (.cons (.var 0) (.cons (.kint 3) .nil))) (.kint 0)) (.cons (.ret (.tup (.cons (.tup (.cons (.var 6) (.cons (.var 8) (.cons (.call i__law_plus (.cons (.var 9) (.cons (.var 5) .nil))) .nil)))) (.cons (.var 3) (.cons (.var 4) .nil))))) .nil) .nil) (.cons (.asg (.tT (.cons (.tN 10) (.cons (.tN 11) .nil))) (.call i__law_turned (.cons (.var 8) (.cons (.var 9) .nil)))) (.cons (.asg (.tN 7) (.tup (.cons (.idx (.dsp false (.cons (.kstr "<=") (.cons (.kstr "<") (.cons (.kstr "=") .nil)))) (.call i__law_take (.cons (.var 0) (.cons (.kint 3) .nil)))) (.cons (.var 10) (.cons (.call i__law_plus (.cons (.var 11) (.cons (.var 5) .nil))) .nil))))) (.cons (.ret (.tup (.cons (.call i__law_line (.cons (.var 0) (.cons (.var 1) (.cons (.kbl false) .nil)))) (.cons (.bin .add false (.var 3) (.dsp false (.cons (.var 7) .nil))) (.cons (.bin .add false (.var 4) (.dsp false (.cons (.tup (.cons (.kint 1) (.cons (.kint 1) .nil))) .nil))) .nil))))) .nil))))))))))⟩
structure Ln where
  kd : Str
  ps : List Rat
  b : Rat
abbrev encL (l : Ln) : D := .tup [.str l.kd, .tup (l.ps.map encQ), encQ l.b]
def row (l : Ln) : List Rat := l.ps ++ [l.b]
structure LnOk (N m : Nat) (l : Ln) : Prop where
  kd : l.kd = "=" ∨ l.kd = "<" ∨ l.kd = "<="
  len : l.ps.length = m
  ps : ∀ q ∈ l.ps, Szq N q
  b : Szq N l.b
def stepT (s : List Rat) (l : Ln) (w : Rat) : List Rat := List.zipWith (fun a b => a + w * b) s (row l)
def tog : List Ln → List Rat → List Rat → List Rat
  | l :: ls, w :: ws, s => tog ls ws (stepT s l w)
  | _, _, s => s
def strictB : List Ln → List Rat → Bool
  | l :: ls, w :: ws => (l.kd == "<" && decide (0 < w)) || strictB ls ws
  | _, _ => false
def wOk : List Ln → List Rat → Bool
  | l :: ls, w :: ws => !(!(l.kd == "=") && decide (w < 0)) && wOk ls ws
  | _, _ => true
theorem num_neg_iff {r : Rat} : r.num < 0 ↔ r < 0 := by
  have := Rat.num_nonneg (q := r)
  rw [← Int.not_le, ← Rat.not_le]
  exact not_congr this
theorem num_zero_iff {r : Rat} : r.num = 0 ↔ r = 0 := Rat.num_eq_zero
theorem num_pos_iff {r : Rat} : 0 < r.num ↔ 0 < r := by
  have h1 := num_neg_iff (r := r)
  have h2 := num_zero_iff (r := r)
  constructor
  · intro h
    by_cases z : 0 < r
    · exact z
    · exfalso
      by_cases e : r = 0
      · have := h2.mpr e; omega
      · have : r < 0 := by grind
        have := h1.mpr this; omega
  · intro h
    have a : ¬ r.num < 0 := fun z => by have := h1.mp z; grind
    have b : r.num ≠ 0 := fun z => by have := h2.mp z; grind
    omega
section
variable {ls : List Ln} {ws : List Rat} {i : Nat} {l : Ln} {w : Rat}
theorem drop_at {α : Type} {xs : List α} {i : Nat} {x : α} (h : xs[i]? = some x) : xs.drop i = x :: xs.drop (i + 1) := by
  rw [List.getElem?_eq_some_iff] at h
  obtain ⟨a, rfl⟩ := h
  exact List.drop_eq_getElem_cons a
theorem zip_pair {α β : Type} {f : α → D} {g : β → D} {xs : List α} {ys : List β} {i : Nat} {x : D} (h : (zipD (xs.map f) (ys.map g))[i]? = some x) : ∃ l w, xs[i]? = some l ∧ ys[i]? = some w ∧ x = .tup [f l, g w] := by
  obtain ⟨p, n, h1, h2, rfl⟩ := zip_item h
  rw [List.getElem?_map, Option.map_eq_some_iff] at h1 h2
  obtain ⟨l, h1, rfl⟩ := h1
  obtain ⟨w, h2, rfl⟩ := h2
  exact ⟨l, w, h1, h2, rfl⟩
theorem zip_len' {α β : Type} {f : α → D} {g : β → D} {xs : List α} {ys : List β} (h : ys.length = xs.length) : (zipD (xs.map f) (ys.map g)).length = xs.length := by
  rw [zip_len (by rw [List.length_map, List.length_map, h]), List.length_map]
theorem encQs_ok : ∀ (n : Nat) (l : List Rat), (l.map encQ).all (dOk (n + 1)) = true
  | _, [] => rfl
  | n, a :: l => by
    rw [List.map_cons, List.all_cons, encQs_ok n l]
    cases n <;> rfl
theorem eq_qs : ∀ {x y : List Rat}, eqL (x.map encQ) (y.map encQ) = decide (x = y)
  | [], [] => rfl
  | [], _ :: _ => rfl
  | _ :: _, [] => rfl
  | a :: x, b :: y => by
    rw [List.map_cons, List.map_cons, eqL, eq_q, eq_qs, Bool.eq_iff_iff]
    simp
theorem tup_ok {st : Sto} {l : List Rat} : dOk 60 (drf st (.tup (l.map encQ))) = true := encQs_ok 58 l
theorem enc_ok {st : Sto} {r : Rat} : dOk 60 (drf st (encQ r)) = true := rfl
theorem len_step {s : List Rat} {m : Nat} (hs : s.length = m + 1) (hl : l.ps.length = m) : (stepT s l w).length = m + 1 := by
  simp [stepT, row, hs, hl]
theorem sz_step {s : List Rat} {N W k : Nat} (hs : ∀ q ∈ s, Szq k q) (hl : ∀ q ∈ row l, Szq N q) (hw : Szq W w) : ∀ q ∈ stepT s l w, Szq (k + (W + N) + 1) q := by
  intro q hq
  unfold stepT at hq
  rw [List.mem_iff_getElem?] at hq
  obtain ⟨j, hj⟩ := hq
  rw [List.getElem?_zipWith] at hj
  split at hj
  · rename_i a b ha hb
    cases hj
    exact (hs a (List.mem_of_getElem? ha)).add (hw.mul (hl b (List.mem_of_getElem? hb)))
  · cases hj
theorem row_sz {N m : Nat} (h : LnOk N m l) : ∀ q ∈ row l, Szq N q := by
  intro q hq
  rcases List.mem_append.mp hq with h' | h'
  · exact h.ps q h'
  · rw [List.mem_singleton.mp h']; exact h.b
end
section
variable {gs : List D} {fs : List Fn} {i v u t w g e : Nat} (st : Sto)
theorem sp_wmb (k : Nat) (hi : fs[i]? = some T_weights_may_be) {ls : List Ln} {ws : List Rat} (hl : ws.length = ls.length) : run gs fs (k + 1) i [.lst (ls.map encL), .lst (ws.map encQ)] st = some (.bl (wOk ls ws), st) := by
  have w : ∃ d, run gs fs (k + 1) i [.lst (ls.map encL), .lst (ws.map encQ)] st = some (d, st) ∧ d = .bl (wOk ls ws) := by
    refine run_wp T_weights_may_be hi rfl _ ?_
    refine' w_if (by (repeat' (first | with_reducible exact l_abs | with_reducible exact l_int | with_reducible exact l_intB | with_reducible exact l_lenT | with_reducible exact l_lenL | with_reducible exact l_lenS | with_reducible exact l_tupL | with_reducible exact l_tupT | with_reducible exact l_max | with_reducible exact l_min | with_reducible exact l_listT | with_reducible exact l_listL | with_reducible exact v_slcT | with_reducible exact l_isTT | with_reducible exact l_isII | with_reducible exact l_isBI | with_reducible exact l_isBB | with_reducible exact l_isSS | with_reducible exact l_isLL | with_reducible exact z_bl | with_reducible exact z_int | with_reducible exact v_slcL | with_reducible exact v_slcS | with_reducible exact e_int | with_reducible exact e_bl | with_reducible exact e_str | with_reducible exact e_non | with_reducible exact a_nil | with_reducible exact o_nil | with_reducible exact g_name | with_reducible exact gs_nil | with_reducible exact b_add | with_reducible exact b_sub | with_reducible exact u_neg | with_reducible exact c_lt | with_reducible exact c_le | with_reducible exact c_gt | with_reducible exact c_ge | with_reducible exact c_eqI | with_reducible exact c_neI | with_reducible exact c_eqS | with_reducible exact c_neS | ((with_reducible apply e_var); exact rfl) | ((with_reducible apply e_glb); exact rfl) | ((with_reducible apply x_tup); exact rfl) | ((with_reducible apply x_lst); exact rfl) | with_reducible apply a_cons | with_reducible apply e_bin | with_reducible apply e_un | with_reducible apply e_idx | with_reducible apply e_call | with_reducible apply e_blt | with_reducible apply e_cmp | with_reducible apply e_slc | with_reducible apply e_frz | with_reducible apply e_one | with_reducible apply e_not | with_reducible apply t_cmp | with_reducible apply t_not | with_reducible apply t_one | with_reducible apply t_ex | with_reducible apply o_cons | with_reducible apply g_tup | with_reducible apply gs_cons | with_reducible apply g_sub | with_reducible apply e_tupS | with_reducible apply e_dspS | ((with_reducible apply LS_mk); exact rfl) | with_reducible refine' t_and ?_ (fun _ => ?_) | with_reducible refine' t_or ?_ (fun _ => ?_) | with_reducible refine' e_and ?_ (fun _ => ?_) | with_reducible refine' e_or ?_ (fun _ => ?_) | ((with_reducible apply b_powL); decide) | ((with_reducible apply b_pow); decide) | ((with_reducible apply b_fdiv); decide) | ((with_reducible apply b_mod); decide) | ((with_reducible apply b_mul); decide) | ((with_reducible apply b_mul); with_reducible assumption) | ((with_reducible apply b_fdiv); with_reducible assumption) | with_reducible apply b_mul | with_reducible apply b_fdiv | with_reducible apply b_mod | with_reducible apply b_shr | with_reducible apply b_cat | with_reducible apply l_str))) rfl rfl (fun h => ?_) (fun _ => ?_)
    · simp [hl] at h
    refine w_for (fun j σ st' => st' = st ∧ ∃ a b, σ = [some (.lst (ls.map encL)), some (.lst (ws.map encQ)), a, b] ∧ wOk (ls.drop j) (ws.drop j) = wOk ls ws) (i_zipL (by (repeat' (first | with_reducible exact l_abs | with_reducible exact l_int | with_reducible exact l_intB | with_reducible exact l_lenT | with_reducible exact l_lenL | with_reducible exact l_lenS | with_reducible exact l_tupL | with_reducible exact l_tupT | with_reducible exact l_max | with_reducible exact l_min | with_reducible exact l_listT | with_reducible exact l_listL | with_reducible exact v_slcT | with_reducible exact l_isTT | with_reducible exact l_isII | with_reducible exact l_isBI | with_reducible exact l_isBB | with_reducible exact l_isSS | with_reducible exact l_isLL | with_reducible exact z_bl | with_reducible exact z_int | with_reducible exact v_slcL | with_reducible exact v_slcS | with_reducible exact e_int | with_reducible exact e_bl | with_reducible exact e_str | with_reducible exact e_non | with_reducible exact a_nil | with_reducible exact o_nil | with_reducible exact g_name | with_reducible exact gs_nil | with_reducible exact b_add | with_reducible exact b_sub | with_reducible exact u_neg | with_reducible exact c_lt | with_reducible exact c_le | with_reducible exact c_gt | with_reducible exact c_ge | with_reducible exact c_eqI | with_reducible exact c_neI | with_reducible exact c_eqS | with_reducible exact c_neS | ((with_reducible apply e_var); exact rfl) | ((with_reducible apply e_glb); exact rfl) | ((with_reducible apply x_tup); exact rfl) | ((with_reducible apply x_lst); exact rfl) | with_reducible apply a_cons | with_reducible apply e_bin | with_reducible apply e_un | with_reducible apply e_idx | with_reducible apply e_call | with_reducible apply e_blt | with_reducible apply e_cmp | with_reducible apply e_slc | with_reducible apply e_frz | with_reducible apply e_one | with_reducible apply e_not | with_reducible apply t_cmp | with_reducible apply t_not | with_reducible apply t_one | with_reducible apply t_ex | with_reducible apply o_cons | with_reducible apply g_tup | with_reducible apply gs_cons | with_reducible apply g_sub | with_reducible apply e_tupS | with_reducible apply e_dspS | ((with_reducible apply LS_mk); exact rfl) | with_reducible refine' t_and ?_ (fun _ => ?_) | with_reducible refine' t_or ?_ (fun _ => ?_) | with_reducible refine' e_and ?_ (fun _ => ?_) | with_reducible refine' e_or ?_ (fun _ => ?_) | ((with_reducible apply b_powL); decide) | ((with_reducible apply b_pow); decide) | ((with_reducible apply b_fdiv); decide) | ((with_reducible apply b_mod); decide) | ((with_reducible apply b_mul); decide) | ((with_reducible apply b_mul); with_reducible assumption) | ((with_reducible apply b_fdiv); with_reducible assumption) | with_reducible apply b_mul | with_reducible apply b_fdiv | with_reducible apply b_mod | with_reducible apply b_shr | with_reducible apply b_cat | with_reducible apply l_str))) (by (repeat' (first | with_reducible exact l_abs | with_reducible exact l_int | with_reducible exact l_intB | with_reducible exact l_lenT | with_reducible exact l_lenL | with_reducible exact l_lenS | with_reducible exact l_tupL | with_reducible exact l_tupT | with_reducible exact l_max | with_reducible exact l_min | with_reducible exact l_listT | with_reducible exact l_listL | with_reducible exact v_slcT | with_reducible exact l_isTT | with_reducible exact l_isII | with_reducible exact l_isBI | with_reducible exact l_isBB | with_reducible exact l_isSS | with_reducible exact l_isLL | with_reducible exact z_bl | with_reducible exact z_int | with_reducible exact v_slcL | with_reducible exact v_slcS | with_reducible exact e_int | with_reducible exact e_bl | with_reducible exact e_str | with_reducible exact e_non | with_reducible exact a_nil | with_reducible exact o_nil | with_reducible exact g_name | with_reducible exact gs_nil | with_reducible exact b_add | with_reducible exact b_sub | with_reducible exact u_neg | with_reducible exact c_lt | with_reducible exact c_le | with_reducible exact c_gt | with_reducible exact c_ge | with_reducible exact c_eqI | with_reducible exact c_neI | with_reducible exact c_eqS | with_reducible exact c_neS | ((with_reducible apply e_var); exact rfl) | ((with_reducible apply e_glb); exact rfl) | ((with_reducible apply x_tup); exact rfl) | ((with_reducible apply x_lst); exact rfl) | with_reducible apply a_cons | with_reducible apply e_bin | with_reducible apply e_un | with_reducible apply e_idx | with_reducible apply e_call | with_reducible apply e_blt | with_reducible apply e_cmp | with_reducible apply e_slc | with_reducible apply e_frz | with_reducible apply e_one | with_reducible apply e_not | with_reducible apply t_cmp | with_reducible apply t_not | with_reducible apply t_one | with_reducible apply t_ex | with_reducible apply o_cons | with_reducible apply g_tup | with_reducible apply gs_cons | with_reducible apply g_sub | with_reducible apply e_tupS | with_reducible apply e_dspS | ((with_reducible apply LS_mk); exact rfl) | with_reducible refine' t_and ?_ (fun _ => ?_) | with_reducible refine' t_or ?_ (fun _ => ?_) | with_reducible refine' e_and ?_ (fun _ => ?_) | with_reducible refine' e_or ?_ (fun _ => ?_) | ((with_reducible apply b_powL); decide) | ((with_reducible apply b_pow); decide) | ((with_reducible apply b_fdiv); decide) | ((with_reducible apply b_mod); decide) | ((with_reducible apply b_mul); decide) | ((with_reducible apply b_mul); with_reducible assumption) | ((with_reducible apply b_fdiv); with_reducible assumption) | with_reducible apply b_mul | with_reducible apply b_fdiv | with_reducible apply b_mod | with_reducible apply b_shr | with_reducible apply b_cat | with_reducible apply l_str)))) ⟨rfl, _, _, rfl, rfl⟩ ?_ ?_
    · rintro j x σ st' hx ⟨rfl, a, b, rfl, hw⟩
      obtain ⟨l, w, h1, h2, rfl⟩ := zip_pair hx
      rw [drop_at h1, drop_at h2, wOk] at hw
      refine ⟨_, _, by (repeat' (first | with_reducible exact l_abs | with_reducible exact l_int | with_reducible exact l_intB | with_reducible exact l_lenT | with_reducible exact l_lenL | with_reducible exact l_lenS | with_reducible exact l_tupL | with_reducible exact l_tupT | with_reducible exact l_max | with_reducible exact l_min | with_reducible exact l_listT | with_reducible exact l_listL | with_reducible exact v_slcT | with_reducible exact l_isTT | with_reducible exact l_isII | with_reducible exact l_isBI | with_reducible exact l_isBB | with_reducible exact l_isSS | with_reducible exact l_isLL | with_reducible exact z_bl | with_reducible exact z_int | with_reducible exact v_slcL | with_reducible exact v_slcS | with_reducible exact e_int | with_reducible exact e_bl | with_reducible exact e_str | with_reducible exact e_non | with_reducible exact a_nil | with_reducible exact o_nil | with_reducible exact g_name | with_reducible exact gs_nil | with_reducible exact b_add | with_reducible exact b_sub | with_reducible exact u_neg | with_reducible exact c_lt | with_reducible exact c_le | with_reducible exact c_gt | with_reducible exact c_ge | with_reducible exact c_eqI | with_reducible exact c_neI | with_reducible exact c_eqS | with_reducible exact c_neS | ((with_reducible apply e_var); exact rfl) | ((with_reducible apply e_glb); exact rfl) | ((with_reducible apply x_tup); exact rfl) | ((with_reducible apply x_lst); exact rfl) | with_reducible apply a_cons | with_reducible apply e_bin | with_reducible apply e_un | with_reducible apply e_idx | with_reducible apply e_call | with_reducible apply e_blt | with_reducible apply e_cmp | with_reducible apply e_slc | with_reducible apply e_frz | with_reducible apply e_one | with_reducible apply e_not | with_reducible apply t_cmp | with_reducible apply t_not | with_reducible apply t_one | with_reducible apply t_ex | with_reducible apply o_cons | with_reducible apply g_tup | with_reducible apply gs_cons | with_reducible apply g_sub | with_reducible apply e_tupS | with_reducible apply e_dspS | ((with_reducible apply LS_mk); exact rfl) | with_reducible refine' t_and ?_ (fun _ => ?_) | with_reducible refine' t_or ?_ (fun _ => ?_) | with_reducible refine' e_and ?_ (fun _ => ?_) | with_reducible refine' e_or ?_ (fun _ => ?_) | ((with_reducible apply b_powL); decide) | ((with_reducible apply b_pow); decide) | ((with_reducible apply b_fdiv); decide) | ((with_reducible apply b_mod); decide) | ((with_reducible apply b_mul); decide) | ((with_reducible apply b_mul); with_reducible assumption) | ((with_reducible apply b_fdiv); with_reducible assumption) | with_reducible apply b_mul | with_reducible apply b_fdiv | with_reducible apply b_mod | with_reducible apply b_shr | with_reducible apply b_cat | with_reducible apply l_str)), ?_⟩
      refine' w_if (by (repeat' (first | with_reducible exact l_abs | with_reducible exact l_int | with_reducible exact l_intB | with_reducible exact l_lenT | with_reducible exact l_lenL | with_reducible exact l_lenS | with_reducible exact l_tupL | with_reducible exact l_tupT | with_reducible exact l_max | with_reducible exact l_min | with_reducible exact l_listT | with_reducible exact l_listL | with_reducible exact v_slcT | with_reducible exact l_isTT | with_reducible exact l_isII | with_reducible exact l_isBI | with_reducible exact l_isBB | with_reducible exact l_isSS | with_reducible exact l_isLL | with_reducible exact z_bl | with_reducible exact z_int | with_reducible exact v_slcL | with_reducible exact v_slcS | with_reducible exact e_int | with_reducible exact e_bl | with_reducible exact e_str | with_reducible exact e_non | with_reducible exact a_nil | with_reducible exact o_nil | with_reducible exact g_name | with_reducible exact gs_nil | with_reducible exact b_add | with_reducible exact b_sub | with_reducible exact u_neg | with_reducible exact c_lt | with_reducible exact c_le | with_reducible exact c_gt | with_reducible exact c_ge | with_reducible exact c_eqI | with_reducible exact c_neI | with_reducible exact c_eqS | with_reducible exact c_neS | ((with_reducible apply e_var); exact rfl) | ((with_reducible apply e_glb); exact rfl) | ((with_reducible apply x_tup); exact rfl) | ((with_reducible apply x_lst); exact rfl) | with_reducible apply a_cons | with_reducible apply e_bin | with_reducible apply e_un | with_reducible apply e_idx | with_reducible apply e_call | with_reducible apply e_blt | with_reducible apply e_cmp | with_reducible apply e_slc | with_reducible apply e_frz | with_reducible apply e_one | with_reducible apply e_not | with_reducible apply t_cmp | with_reducible apply t_not | with_reducible apply t_one | with_reducible apply t_ex | with_reducible apply o_cons | with_reducible apply g_tup | with_reducible apply gs_cons | with_reducible apply g_sub | with_reducible apply e_tupS | with_reducible apply e_dspS | ((with_reducible apply LS_mk); exact rfl) | with_reducible refine' t_and ?_ (fun _ => ?_) | with_reducible refine' t_or ?_ (fun _ => ?_) | with_reducible refine' e_and ?_ (fun _ => ?_) | with_reducible refine' e_or ?_ (fun _ => ?_) | ((with_reducible apply b_powL); decide) | ((with_reducible apply b_pow); decide) | ((with_reducible apply b_fdiv); decide) | ((with_reducible apply b_mod); decide) | ((with_reducible apply b_mul); decide) | ((with_reducible apply b_mul); with_reducible assumption) | ((with_reducible apply b_fdiv); with_reducible assumption) | with_reducible apply b_mul | with_reducible apply b_fdiv | with_reducible apply b_mod | with_reducible apply b_shr | with_reducible apply b_cat | with_reducible apply l_str))) rfl rfl (fun h => ?_) (fun h => ?_)
      · refine' w_ret (by (repeat' (first | with_reducible exact l_abs | with_reducible exact l_int | with_reducible exact l_intB | with_reducible exact l_lenT | with_reducible exact l_lenL | with_reducible exact l_lenS | with_reducible exact l_tupL | with_reducible exact l_tupT | with_reducible exact l_max | with_reducible exact l_min | with_reducible exact l_listT | with_reducible exact l_listL | with_reducible exact v_slcT | with_reducible exact l_isTT | with_reducible exact l_isII | with_reducible exact l_isBI | with_reducible exact l_isBB | with_reducible exact l_isSS | with_reducible exact l_isLL | with_reducible exact z_bl | with_reducible exact z_int | with_reducible exact v_slcL | with_reducible exact v_slcS | with_reducible exact e_int | with_reducible exact e_bl | with_reducible exact e_str | with_reducible exact e_non | with_reducible exact a_nil | with_reducible exact o_nil | with_reducible exact g_name | with_reducible exact gs_nil | with_reducible exact b_add | with_reducible exact b_sub | with_reducible exact u_neg | with_reducible exact c_lt | with_reducible exact c_le | with_reducible exact c_gt | with_reducible exact c_ge | with_reducible exact c_eqI | with_reducible exact c_neI | with_reducible exact c_eqS | with_reducible exact c_neS | ((with_reducible apply e_var); exact rfl) | ((with_reducible apply e_glb); exact rfl) | ((with_reducible apply x_tup); exact rfl) | ((with_reducible apply x_lst); exact rfl) | with_reducible apply a_cons | with_reducible apply e_bin | with_reducible apply e_un | with_reducible apply e_idx | with_reducible apply e_call | with_reducible apply e_blt | with_reducible apply e_cmp | with_reducible apply e_slc | with_reducible apply e_frz | with_reducible apply e_one | with_reducible apply e_not | with_reducible apply t_cmp | with_reducible apply t_not | with_reducible apply t_one | with_reducible apply t_ex | with_reducible apply o_cons | with_reducible apply g_tup | with_reducible apply gs_cons | with_reducible apply g_sub | with_reducible apply e_tupS | with_reducible apply e_dspS | ((with_reducible apply LS_mk); exact rfl) | with_reducible refine' t_and ?_ (fun _ => ?_) | with_reducible refine' t_or ?_ (fun _ => ?_) | with_reducible refine' e_and ?_ (fun _ => ?_) | with_reducible refine' e_or ?_ (fun _ => ?_) | ((with_reducible apply b_powL); decide) | ((with_reducible apply b_pow); decide) | ((with_reducible apply b_fdiv); decide) | ((with_reducible apply b_mod); decide) | ((with_reducible apply b_mul); decide) | ((with_reducible apply b_mul); with_reducible assumption) | ((with_reducible apply b_fdiv); with_reducible assumption) | with_reducible apply b_mul | with_reducible apply b_fdiv | with_reducible apply b_mod | with_reducible apply b_shr | with_reducible apply b_cat | with_reducible apply l_str))) ?_
        refine ⟨rfl, ?_⟩
        rw [← hw]
        simp only [Bool.and_eq_true, Bool.not_eq_true', decide_eq_true_eq] at h
        rw [h.1, decide_eq_true (num_neg_iff.mp h.2)]
        rfl
      · refine w_nil ⟨rfl, _, _, rfl, ?_⟩
        rw [← hw]
        have e : (!(l.kd == "=") && decide (w < 0)) = false := by
          rw [← h]
          congr 1
          exact decide_eq_decide.mpr num_neg_iff.symm
        rw [e]
        rfl
    · rintro σ st' ⟨rfl, a, b, rfl, hw⟩
      rw [zip_len' hl, List.drop_eq_nil_of_le (Nat.le_refl _)] at hw
      refine' w_ret (by (repeat' (first | with_reducible exact l_abs | with_reducible exact l_int | with_reducible exact l_intB | with_reducible exact l_lenT | with_reducible exact l_lenL | with_reducible exact l_lenS | with_reducible exact l_tupL | with_reducible exact l_tupT | with_reducible exact l_max | with_reducible exact l_min | with_reducible exact l_listT | with_reducible exact l_listL | with_reducible exact v_slcT | with_reducible exact l_isTT | with_reducible exact l_isII | with_reducible exact l_isBI | with_reducible exact l_isBB | with_reducible exact l_isSS | with_reducible exact l_isLL | with_reducible exact z_bl | with_reducible exact z_int | with_reducible exact v_slcL | with_reducible exact v_slcS | with_reducible exact e_int | with_reducible exact e_bl | with_reducible exact e_str | with_reducible exact e_non | with_reducible exact a_nil | with_reducible exact o_nil | with_reducible exact g_name | with_reducible exact gs_nil | with_reducible exact b_add | with_reducible exact b_sub | with_reducible exact u_neg | with_reducible exact c_lt | with_reducible exact c_le | with_reducible exact c_gt | with_reducible exact c_ge | with_reducible exact c_eqI | with_reducible exact c_neI | with_reducible exact c_eqS | with_reducible exact c_neS | ((with_reducible apply e_var); exact rfl) | ((with_reducible apply e_glb); exact rfl) | ((with_reducible apply x_tup); exact rfl) | ((with_reducible apply x_lst); exact rfl) | with_reducible apply a_cons | with_reducible apply e_bin | with_reducible apply e_un | with_reducible apply e_idx | with_reducible apply e_call | with_reducible apply e_blt | with_reducible apply e_cmp | with_reducible apply e_slc | with_reducible apply e_frz | with_reducible apply e_one | with_reducible apply e_not | with_reducible apply t_cmp | with_reducible apply t_not | with_reducible apply t_one | with_reducible apply t_ex | with_reducible apply o_cons | with_reducible apply g_tup | with_reducible apply gs_cons | with_reducible apply g_sub | with_reducible apply e_tupS | with_reducible apply e_dspS | ((with_reducible apply LS_mk); exact rfl) | with_reducible refine' t_and ?_ (fun _ => ?_) | with_reducible refine' t_or ?_ (fun _ => ?_) | with_reducible refine' e_and ?_ (fun _ => ?_) | with_reducible refine' e_or ?_ (fun _ => ?_) | ((with_reducible apply b_powL); decide) | ((with_reducible apply b_pow); decide) | ((with_reducible apply b_fdiv); decide) | ((with_reducible apply b_mod); decide) | ((with_reducible apply b_mul); decide) | ((with_reducible apply b_mul); with_reducible assumption) | ((with_reducible apply b_fdiv); with_reducible assumption) | with_reducible apply b_mul | with_reducible apply b_fdiv | with_reducible apply b_mod | with_reducible apply b_shr | with_reducible apply b_cat | with_reducible apply l_str))) ?_
      refine ⟨rfl, ?_⟩
      rw [← hw]
      rfl
  obtain ⟨d, e, rfl⟩ := w
  exact e
def dR : D → Rat
  | .tup [.int p, .int q] => (p : Rat) / (q : Rat)
  | _ => 0
theorem dR_q (r : Rat) : dR (encQ r) = r := by
  have := qv_q r
  exact this
theorem zip_map_f (f : Rat → Rat → Rat) : ∀ (s r : List Rat), ((zipD (s.map encQ) (r.map encQ)).map fun d => match d with
    | .tup [x, y] => encQ (f (dR x) (dR y))
    | _ => .non) = (List.zipWith f s r).map encQ
  | [], _ => rfl
  | _ :: _, [] => rfl
  | a :: s, b :: r => by
    have ih := zip_map_f f s r
    unfold zipD at ih ⊢
    rw [List.map_cons, List.map_cons, List.zipWith_cons_cons, List.map_cons, ih, List.zipWith_cons_cons, List.map_cons]
    simp only [dR_q]
theorem lc_zip {cs : Nat → List D → Sto → Option (D × Sto)} {σ : En} {a b : Nat} {el : C} {s r : List Rat} (f : Rat → Rat → Rat) (h : ∀ x ∈ s, ∀ y ∈ r, evE gs cs el ((σ.set a (some (encQ x))).set b (some (encQ y))) st = some (encQ (f x y), st)) :
    lcS (.its (zipD (s.map encQ) (r.map encQ))) (evG gs cs (.tT (.cons (.tN a) (.cons (.tN b) .nil)))) (evT gs cs .nil) (evE gs cs el) σ (srcLen (.its (zipD (s.map encQ) (r.map encQ))) st) 0 st = some ((List.zipWith f s r).map encQ, st) := by
  have := lcS_its (xs := zipD (s.map encQ) (r.map encQ)) (tg := evG gs cs (.tT (.cons (.tN a) (.cons (.tN b) .nil)))) (t := evT gs cs .nil) (e := evE gs cs el) (σ := σ) (st := st) (fun _ => true) (fun d => match d with
    | .tup [x, y] => encQ (f (dR x) (dR y))
    | _ => .non) (fun x hx => by
      rw [List.mem_iff_getElem?] at hx
      obtain ⟨j, hj⟩ := hx
      obtain ⟨p, q, h1, h2, rfl⟩ := zip_pair hj
      refine ⟨_, g_tup (gs_cons g_name (gs_cons g_name gs_nil)), t_nil, fun _ => ?_⟩
      simp only [dR_q]
      exact h p (List.mem_of_getElem? h1) q (List.mem_of_getElem? h2))
  rw [this, List.filter_eq_self.mpr (fun _ _ => rfl), zip_map_f]
/-- what the rule says of a paper -/
def showB (kd : Str) (ps : List Rat) (b : Rat) (ls : List Ln) (ws : List Rat) : Bool :=
  let s := tog ls ws (List.replicate (ps.length + 1) 0)
  let top := s.getLast?.getD 0
  wOk ls ws && ((decide (s.dropLast = ps) && (decide (top < b) || (decide (top = b) && (kd == "<=" || strictB ls ws)))) || (decide (s.dropLast.filter (fun x => !decide (x = 0)) = []) && (decide (top < 0) || (decide (top = 0) && strictB ls ws))))
theorem nonempty_last {s : List Rat} {m : Nat} (h : s.length = m + 1) : s = s.dropLast ++ [s.getLast?.getD 0] := by
  rcases List.eq_nil_or_concat s with rfl | ⟨l, a, rfl⟩
  · cases h
  · simp
theorem cut_last {s : List Rat} {m : Nat} (h : s.length = m + 1) : cutD (s.map encQ) none (some (-1)) = s.dropLast.map encQ := by
  have e : HT.sIx (m + 1) (m + 1) (some (-1)) = m := by
    show (if (-1 : Int) < 0 then ((-1 : Int) + ((m + 1 : Nat) : Int)).toNat else min (-1 : Int).toNat (m + 1)) = m
    rw [if_pos (by decide)]
    omega
  unfold cutD
  rw [List.length_map, h, HT.sIx_none, e, List.drop_zero, Nat.sub_zero, List.dropLast_eq_take, h, List.map_take]
  rfl
theorem b_rep0 {st : Sto} {n : Nat} (hn : n ≤ 1000) : gBin .mul false (.lst [.tup [.int 0, .int 1]]) (.int ((n : Int) + 1)) st = some (.lst ((List.replicate (n + 1) (0 : Rat)).map encQ), st) := by
  have hr : repOk [D.tup [.int 0, .int 1]].length ((n : Int) + 1) = true := by
    have h1 : (1 : Nat) * ((n : Int) + 1).toNat ≤ sizeLine := by
      have h2 : sizeLine = 16777216 := rfl
      rw [h2]
      omega
    exact decide_eq_true ⟨by omega, by omega, h1⟩
  have e : (List.replicate ((n : Int) + 1).toNat [D.tup [.int 0, .int 1]]).flatten = (List.replicate (n + 1) (0 : Rat)).map encQ := by
    rw [show ((n : Int) + 1).toNat = n + 1 by omega, List.map_replicate]
    generalize n + 1 = n
    induction n with
    | zero => rfl
    | succ n ih => rw [List.replicate_succ, List.flatten_cons, ih, List.replicate_succ]; rfl
  show (if repOk [D.tup [.int 0, .int 1]].length ((n : Int) + 1) then mkL false (List.replicate ((n : Int) + 1).toNat [D.tup [.int 0, .int 1]]).flatten st else none) = _
  rw [if_pos hr, e]
  rfl
theorem at_last {s : List Rat} {m : Nat} (h : s.length = m + 1) : atI (s.map encQ) (-1) = some (encQ (s.getLast?.getD 0)) := by
  have e := nonempty_last h
  have : s.map encQ = s.dropLast.map encQ ++ [encQ (s.getLast?.getD 0)] := by
    conv => lhs; rw [e]
    rw [List.map_append]
    rfl
  rw [this]
  exact atI_last _ _
theorem filt_q (l : List Rat) : (((l.map encQ).filter fun d => !eqD d (encQ 0)).map id) = (l.filter (fun x => !decide (x = 0))).map encQ := by
  rw [List.map_id, List.filter_map]
  congr 1
  apply List.filter_congr
  intro x _
  show (!eqD (encQ x) (encQ 0)) = _
  rw [eq_q]
theorem eq_nil {l : List Rat} : eqD (.lst (l.map encQ)) (.lst []) = decide (l = []) := by
  cases l <;> rfl
theorem enc0 : (.tup [.int 0, .int 1] : D) = encQ 0 := rfl
theorem lst_ok {st : Sto} {l : List Rat} : dOk 60 (drf st (.lst (l.map encQ))) = true := encQs_ok 58 l
theorem lc_filt {cs : Nat → List D → Sto → Option (D × Sto)} {σ : En} {a g : Nat} {l : List Rat} (hg : gs[g]? = some (.tup [.int 0, .int 1])) (ha : a < σ.length) : lcS (.its (l.map encQ)) (evG gs cs (.tN a)) (evT gs cs (.cmp .ne (.var a) (.glb g))) (evE gs cs (.var a)) σ (srcLen (.its (l.map encQ)) st) 0 st = some ((l.filter (fun x => !decide (x = 0))).map encQ, st) := by
  have := lcS_its (xs := l.map encQ) (tg := evG gs cs (.tN a)) (t := evT gs cs (.cmp .ne (.var a) (.glb g))) (e := evE gs cs (.var a)) (σ := σ) (st := st) (fun d => !eqD d (encQ 0)) id (fun x hx => by
    obtain ⟨q, _, rfl⟩ := List.mem_map.mp hx
    have hv : (σ.set a (some (encQ q)))[a]? = some (some (encQ q)) := List.getElem?_set_self ha
    exact ⟨_, g_name, t_cmp (e_var hv) (e_glb hg) (c_ne enc_ok (enc_ok (r := 0))), fun _ => e_var hv⟩)
  rw [this, filt_q]
theorem sp_shows (k : Nat) (hi : fs[i]? = some (T_shows_bound1 e g u v t)) {m d : Nat} (he : fs[e]? = some T_weights_may_be) (hg : gs[g]? = some (.tup [.int 0, .int 1])) (hu : fs[u]? = some (T_plus m)) (hv : fs[v]? = some (T_times m)) (hm : fs[m]? = some (T_make d)) (hd : fs[d]? = some T_divisor) (ht : fs[t]? = some T_below)
    {kd : Str} {ps : List Rat} {b : Rat} {ls : List Ln} {ws : List Rat} {N W : Nat} (hN : 128 + (N + W + 1) * (ls.length + 1) ≤ 8000) (hps : ps.length ≤ 1000) (hb : Szq 8000 b) (hl : ws.length = ls.length) (hls : ∀ l ∈ ls, LnOk N ps.length l) (hws : ∀ w ∈ ws, Szq W w) :
    run gs fs (k + 5) i [.tup [.str kd, .tup (ps.map encQ), encQ b], .lst (ls.map encL), .lst (ws.map encQ)] st = some (.bl (showB kd ps b ls ws), st) := by
  have w : ∃ x, run gs fs (k + 5) i [.tup [.str kd, .tup (ps.map encQ), encQ b], .lst (ls.map encL), .lst (ws.map encQ)] st = some (x, st) ∧ x = .bl (showB kd ps b ls ws) := by
    have c1 := sp_wmb (gs := gs) st (k + 3) he hl
    refine run_wp (T_shows_bound1 e g u v t) hi rfl _ ?_
    refine' w_if (by (repeat' (first | with_reducible apply c1 | with_reducible exact l_abs | with_reducible exact l_int | with_reducible exact l_intB | with_reducible exact l_lenT | with_reducible exact l_lenL | with_reducible exact l_lenS | with_reducible exact l_tupL | with_reducible exact l_tupT | with_reducible exact l_max | with_reducible exact l_min | with_reducible exact l_listT | with_reducible exact l_listL | with_reducible exact v_slcT | with_reducible exact l_isTT | with_reducible exact l_isII | with_reducible exact l_isBI | with_reducible exact l_isBB | with_reducible exact l_isSS | with_reducible exact l_isLL | with_reducible exact z_bl | with_reducible exact z_int | with_reducible exact v_slcL | with_reducible exact v_slcS | with_reducible exact e_int | with_reducible exact e_bl | with_reducible exact e_str | with_reducible exact e_non | with_reducible exact a_nil | with_reducible exact o_nil | with_reducible exact g_name | with_reducible exact gs_nil | with_reducible exact b_add | with_reducible exact b_sub | with_reducible exact u_neg | with_reducible exact c_lt | with_reducible exact c_le | with_reducible exact c_gt | with_reducible exact c_ge | with_reducible exact c_eqI | with_reducible exact c_neI | with_reducible exact c_eqS | with_reducible exact c_neS | ((with_reducible apply e_var); exact rfl) | ((with_reducible apply e_glb); exact rfl) | ((with_reducible apply x_tup); exact rfl) | ((with_reducible apply x_lst); exact rfl) | with_reducible apply a_cons | with_reducible apply e_bin | with_reducible apply e_un | with_reducible apply e_idx | with_reducible apply e_call | with_reducible apply e_blt | with_reducible apply e_cmp | with_reducible apply e_slc | with_reducible apply e_frz | with_reducible apply e_one | with_reducible apply e_not | with_reducible apply t_cmp | with_reducible apply t_not | with_reducible apply t_one | with_reducible apply t_ex | with_reducible apply o_cons | with_reducible apply g_tup | with_reducible apply gs_cons | with_reducible apply g_sub | with_reducible apply e_tupS | with_reducible apply e_dspS | ((with_reducible apply LS_mk); exact rfl) | with_reducible refine' t_and ?_ (fun _ => ?_) | with_reducible refine' t_or ?_ (fun _ => ?_) | with_reducible refine' e_and ?_ (fun _ => ?_) | with_reducible refine' e_or ?_ (fun _ => ?_) | ((with_reducible apply b_powL); decide) | ((with_reducible apply b_pow); decide) | ((with_reducible apply b_fdiv); decide) | ((with_reducible apply b_mod); decide) | ((with_reducible apply b_mul); decide) | ((with_reducible apply b_mul); with_reducible assumption) | ((with_reducible apply b_fdiv); with_reducible assumption) | with_reducible apply b_mul | with_reducible apply b_fdiv | with_reducible apply b_mod | with_reducible apply b_shr | with_reducible apply b_cat | with_reducible apply l_str))) rfl rfl (fun h => ?_) (fun h => ?_)
    · refine' w_ret (by (repeat' (first | with_reducible exact l_abs | with_reducible exact l_int | with_reducible exact l_intB | with_reducible exact l_lenT | with_reducible exact l_lenL | with_reducible exact l_lenS | with_reducible exact l_tupL | with_reducible exact l_tupT | with_reducible exact l_max | with_reducible exact l_min | with_reducible exact l_listT | with_reducible exact l_listL | with_reducible exact v_slcT | with_reducible exact l_isTT | with_reducible exact l_isII | with_reducible exact l_isBI | with_reducible exact l_isBB | with_reducible exact l_isSS | with_reducible exact l_isLL | with_reducible exact z_bl | with_reducible exact z_int | with_reducible exact v_slcL | with_reducible exact v_slcS | with_reducible exact e_int | with_reducible exact e_bl | with_reducible exact e_str | with_reducible exact e_non | with_reducible exact a_nil | with_reducible exact o_nil | with_reducible exact g_name | with_reducible exact gs_nil | with_reducible exact b_add | with_reducible exact b_sub | with_reducible exact u_neg | with_reducible exact c_lt | with_reducible exact c_le | with_reducible exact c_gt | with_reducible exact c_ge | with_reducible exact c_eqI | with_reducible exact c_neI | with_reducible exact c_eqS | with_reducible exact c_neS | ((with_reducible apply e_var); exact rfl) | ((with_reducible apply e_glb); exact rfl) | ((with_reducible apply x_tup); exact rfl) | ((with_reducible apply x_lst); exact rfl) | with_reducible apply a_cons | with_reducible apply e_bin | with_reducible apply e_un | with_reducible apply e_idx | with_reducible apply e_call | with_reducible apply e_blt | with_reducible apply e_cmp | with_reducible apply e_slc | with_reducible apply e_frz | with_reducible apply e_one | with_reducible apply e_not | with_reducible apply t_cmp | with_reducible apply t_not | with_reducible apply t_one | with_reducible apply t_ex | with_reducible apply o_cons | with_reducible apply g_tup | with_reducible apply gs_cons | with_reducible apply g_sub | with_reducible apply e_tupS | with_reducible apply e_dspS | ((with_reducible apply LS_mk); exact rfl) | with_reducible refine' t_and ?_ (fun _ => ?_) | with_reducible refine' t_or ?_ (fun _ => ?_) | with_reducible refine' e_and ?_ (fun _ => ?_) | with_reducible refine' e_or ?_ (fun _ => ?_) | ((with_reducible apply b_powL); decide) | ((with_reducible apply b_pow); decide) | ((with_reducible apply b_fdiv); decide) | ((with_reducible apply b_mod); decide) | ((with_reducible apply b_mul); decide) | ((with_reducible apply b_mul); with_reducible assumption) | ((with_reducible apply b_fdiv); with_reducible assumption) | with_reducible apply b_mul | with_reducible apply b_fdiv | with_reducible apply b_mod | with_reducible apply b_shr | with_reducible apply b_cat | with_reducible apply l_str))) ?_
      refine ⟨rfl, ?_⟩
      simp only [Bool.not_eq_true'] at h
      simp only [showB, h, Bool.false_and]
    have hok : wOk ls ws = true := by simpa using h
    refine' w_asgG (by (repeat' (first | with_reducible exact l_abs | with_reducible exact l_int | with_reducible exact l_intB | with_reducible exact l_lenT | with_reducible exact l_lenL | with_reducible exact l_lenS | with_reducible exact l_tupL | with_reducible exact l_tupT | with_reducible exact l_max | with_reducible exact l_min | with_reducible exact l_listT | with_reducible exact l_listL | with_reducible exact v_slcT | with_reducible exact l_isTT | with_reducible exact l_isII | with_reducible exact l_isBI | with_reducible exact l_isBB | with_reducible exact l_isSS | with_reducible exact l_isLL | with_reducible exact z_bl | with_reducible exact z_int | with_reducible exact v_slcL | with_reducible exact v_slcS | with_reducible exact e_int | with_reducible exact e_bl | with_reducible exact e_str | with_reducible exact e_non | with_reducible exact a_nil | with_reducible exact o_nil | with_reducible exact g_name | with_reducible exact gs_nil | with_reducible exact b_add | with_reducible exact b_sub | with_reducible exact u_neg | with_reducible exact c_lt | with_reducible exact c_le | with_reducible exact c_gt | with_reducible exact c_ge | with_reducible exact c_eqI | with_reducible exact c_neI | with_reducible exact c_eqS | with_reducible exact c_neS | ((with_reducible apply e_var); exact rfl) | ((with_reducible apply e_glb); exact rfl) | ((with_reducible apply x_tup); exact rfl) | ((with_reducible apply x_lst); exact rfl) | with_reducible apply a_cons | with_reducible apply e_bin | with_reducible apply e_un | with_reducible apply e_idx | with_reducible apply e_call | with_reducible apply e_blt | with_reducible apply e_cmp | with_reducible apply e_slc | with_reducible apply e_frz | with_reducible apply e_one | with_reducible apply e_not | with_reducible apply t_cmp | with_reducible apply t_not | with_reducible apply t_one | with_reducible apply t_ex | with_reducible apply o_cons | with_reducible apply g_tup | with_reducible apply gs_cons | with_reducible apply g_sub | with_reducible apply e_tupS | with_reducible apply e_dspS | ((with_reducible apply LS_mk); exact rfl) | with_reducible refine' t_and ?_ (fun _ => ?_) | with_reducible refine' t_or ?_ (fun _ => ?_) | with_reducible refine' e_and ?_ (fun _ => ?_) | with_reducible refine' e_or ?_ (fun _ => ?_) | ((with_reducible apply b_powL); decide) | ((with_reducible apply b_pow); decide) | ((with_reducible apply b_fdiv); decide) | ((with_reducible apply b_mod); decide) | ((with_reducible apply b_mul); decide) | ((with_reducible apply b_mul); with_reducible assumption) | ((with_reducible apply b_fdiv); with_reducible assumption) | with_reducible apply b_mul | with_reducible apply b_fdiv | with_reducible apply b_mod | with_reducible apply b_shr | with_reducible apply b_cat | with_reducible apply l_str))) (by (repeat' (first | with_reducible exact l_abs | with_reducible exact l_int | with_reducible exact l_intB | with_reducible exact l_lenT | with_reducible exact l_lenL | with_reducible exact l_lenS | with_reducible exact l_tupL | with_reducible exact l_tupT | with_reducible exact l_max | with_reducible exact l_min | with_reducible exact l_listT | with_reducible exact l_listL | with_reducible exact v_slcT | with_reducible exact l_isTT | with_reducible exact l_isII | with_reducible exact l_isBI | with_reducible exact l_isBB | with_reducible exact l_isSS | with_reducible exact l_isLL | with_reducible exact z_bl | with_reducible exact z_int | with_reducible exact v_slcL | with_reducible exact v_slcS | with_reducible exact e_int | with_reducible exact e_bl | with_reducible exact e_str | with_reducible exact e_non | with_reducible exact a_nil | with_reducible exact o_nil | with_reducible exact g_name | with_reducible exact gs_nil | with_reducible exact b_add | with_reducible exact b_sub | with_reducible exact u_neg | with_reducible exact c_lt | with_reducible exact c_le | with_reducible exact c_gt | with_reducible exact c_ge | with_reducible exact c_eqI | with_reducible exact c_neI | with_reducible exact c_eqS | with_reducible exact c_neS | ((with_reducible apply e_var); exact rfl) | ((with_reducible apply e_glb); exact rfl) | ((with_reducible apply x_tup); exact rfl) | ((with_reducible apply x_lst); exact rfl) | with_reducible apply a_cons | with_reducible apply e_bin | with_reducible apply e_un | with_reducible apply e_idx | with_reducible apply e_call | with_reducible apply e_blt | with_reducible apply e_cmp | with_reducible apply e_slc | with_reducible apply e_frz | with_reducible apply e_one | with_reducible apply e_not | with_reducible apply t_cmp | with_reducible apply t_not | with_reducible apply t_one | with_reducible apply t_ex | with_reducible apply o_cons | with_reducible apply g_tup | with_reducible apply gs_cons | with_reducible apply g_sub | with_reducible apply e_tupS | with_reducible apply e_dspS | ((with_reducible apply LS_mk); exact rfl) | with_reducible refine' t_and ?_ (fun _ => ?_) | with_reducible refine' t_or ?_ (fun _ => ?_) | with_reducible refine' e_and ?_ (fun _ => ?_) | with_reducible refine' e_or ?_ (fun _ => ?_) | ((with_reducible apply b_powL); decide) | ((with_reducible apply b_pow); decide) | ((with_reducible apply b_fdiv); decide) | ((with_reducible apply b_mod); decide) | ((with_reducible apply b_mul); decide) | ((with_reducible apply b_mul); with_reducible assumption) | ((with_reducible apply b_fdiv); with_reducible assumption) | with_reducible apply b_mul | with_reducible apply b_fdiv | with_reducible apply b_mod | with_reducible apply b_shr | with_reducible apply b_cat | with_reducible apply l_str))) ?_
    refine' w_asg (by ((repeat' (first | ((with_reducible apply e_glb); with_reducible exact hg) | with_reducible apply b_rep0 | with_reducible exact l_abs | with_reducible exact l_int | with_reducible exact l_intB | with_reducible exact l_lenT | with_reducible exact l_lenL | with_reducible exact l_lenS | with_reducible exact l_tupL | with_reducible exact l_tupT | with_reducible exact l_max | with_reducible exact l_min | with_reducible exact l_listT | with_reducible exact l_listL | with_reducible exact v_slcT | with_reducible exact l_isTT | with_reducible exact l_isII | with_reducible exact l_isBI | with_reducible exact l_isBB | with_reducible exact l_isSS | with_reducible exact l_isLL | with_reducible exact z_bl | with_reducible exact z_int | with_reducible exact v_slcL | with_reducible exact v_slcS | with_reducible exact e_int | with_reducible exact e_bl | with_reducible exact e_str | with_reducible exact e_non | with_reducible exact a_nil | with_reducible exact o_nil | with_reducible exact g_name | with_reducible exact gs_nil | with_reducible exact b_add | with_reducible exact b_sub | with_reducible exact u_neg | with_reducible exact c_lt | with_reducible exact c_le | with_reducible exact c_gt | with_reducible exact c_ge | with_reducible exact c_eqI | with_reducible exact c_neI | with_reducible exact c_eqS | with_reducible exact c_neS | ((with_reducible apply e_var); exact rfl) | ((with_reducible apply e_glb); exact rfl) | ((with_reducible apply x_tup); exact rfl) | ((with_reducible apply x_lst); exact rfl) | with_reducible apply a_cons | with_reducible apply e_bin | with_reducible apply e_un | with_reducible apply e_idx | with_reducible apply e_call | with_reducible apply e_blt | with_reducible apply e_cmp | with_reducible apply e_slc | with_reducible apply e_frz | with_reducible apply e_one | with_reducible apply e_not | with_reducible apply t_cmp | with_reducible apply t_not | with_reducible apply t_one | with_reducible apply t_ex | with_reducible apply o_cons | with_reducible apply g_tup | with_reducible apply gs_cons | with_reducible apply g_sub | with_reducible apply e_tupS | with_reducible apply e_dspS | ((with_reducible apply LS_mk); exact rfl) | with_reducible refine' t_and ?_ (fun _ => ?_) | with_reducible refine' t_or ?_ (fun _ => ?_) | with_reducible refine' e_and ?_ (fun _ => ?_) | with_reducible refine' e_or ?_ (fun _ => ?_) | ((with_reducible apply b_powL); decide) | ((with_reducible apply b_pow); decide) | ((with_reducible apply b_fdiv); decide) | ((with_reducible apply b_mod); decide) | ((with_reducible apply b_mul); decide) | ((with_reducible apply b_mul); with_reducible assumption) | ((with_reducible apply b_fdiv); with_reducible assumption) | with_reducible apply b_mul | with_reducible apply b_fdiv | with_reducible apply b_mod | with_reducible apply b_shr | with_reducible apply b_cat | with_reducible apply l_str))); rw [List.length_map]; exact hps) ?_
    rw [List.length_map]
    refine' w_asg (by (repeat' (first | with_reducible exact l_abs | with_reducible exact l_int | with_reducible exact l_intB | with_reducible exact l_lenT | with_reducible exact l_lenL | with_reducible exact l_lenS | with_reducible exact l_tupL | with_reducible exact l_tupT | with_reducible exact l_max | with_reducible exact l_min | with_reducible exact l_listT | with_reducible exact l_listL | with_reducible exact v_slcT | with_reducible exact l_isTT | with_reducible exact l_isII | with_reducible exact l_isBI | with_reducible exact l_isBB | with_reducible exact l_isSS | with_reducible exact l_isLL | with_reducible exact z_bl | with_reducible exact z_int | with_reducible exact v_slcL | with_reducible exact v_slcS | with_reducible exact e_int | with_reducible exact e_bl | with_reducible exact e_str | with_reducible exact e_non | with_reducible exact a_nil | with_reducible exact o_nil | with_reducible exact g_name | with_reducible exact gs_nil | with_reducible exact b_add | with_reducible exact b_sub | with_reducible exact u_neg | with_reducible exact c_lt | with_reducible exact c_le | with_reducible exact c_gt | with_reducible exact c_ge | with_reducible exact c_eqI | with_reducible exact c_neI | with_reducible exact c_eqS | with_reducible exact c_neS | ((with_reducible apply e_var); exact rfl) | ((with_reducible apply e_glb); exact rfl) | ((with_reducible apply x_tup); exact rfl) | ((with_reducible apply x_lst); exact rfl) | with_reducible apply a_cons | with_reducible apply e_bin | with_reducible apply e_un | with_reducible apply e_idx | with_reducible apply e_call | with_reducible apply e_blt | with_reducible apply e_cmp | with_reducible apply e_slc | with_reducible apply e_frz | with_reducible apply e_one | with_reducible apply e_not | with_reducible apply t_cmp | with_reducible apply t_not | with_reducible apply t_one | with_reducible apply t_ex | with_reducible apply o_cons | with_reducible apply g_tup | with_reducible apply gs_cons | with_reducible apply g_sub | with_reducible apply e_tupS | with_reducible apply e_dspS | ((with_reducible apply LS_mk); exact rfl) | with_reducible refine' t_and ?_ (fun _ => ?_) | with_reducible refine' t_or ?_ (fun _ => ?_) | with_reducible refine' e_and ?_ (fun _ => ?_) | with_reducible refine' e_or ?_ (fun _ => ?_) | ((with_reducible apply b_powL); decide) | ((with_reducible apply b_pow); decide) | ((with_reducible apply b_fdiv); decide) | ((with_reducible apply b_mod); decide) | ((with_reducible apply b_mul); decide) | ((with_reducible apply b_mul); with_reducible assumption) | ((with_reducible apply b_fdiv); with_reducible assumption) | with_reducible apply b_mul | with_reducible apply b_fdiv | with_reducible apply b_mod | with_reducible apply b_shr | with_reducible apply b_cat | with_reducible apply l_str))) ?_
    refine w_for (fun j σ st' => st' = st ∧ ∃ (s : List Rat) (sb : Bool) (a c d f g : Option D), σ = [some (.tup [.str kd, .tup (ps.map encQ), encQ b]), some (.lst (ls.map encL)), some (.lst (ws.map encQ)), some (.lst (s.map encQ)), some (.bl sb), a, some (.str kd), some (.tup (ps.map encQ)), some (encQ b), c, d, none, f, g] ∧
        s.length = ps.length + 1 ∧ (∀ q ∈ s, Szq (128 + (N + W + 1) * j) q) ∧ tog (ls.drop j) (ws.drop j) s = tog ls ws (List.replicate (ps.length + 1) 0) ∧ (sb || strictB (ls.drop j) (ws.drop j)) = strictB ls ws) (i_zipL (by (repeat' (first | with_reducible exact l_abs | with_reducible exact l_int | with_reducible exact l_intB | with_reducible exact l_lenT | with_reducible exact l_lenL | with_reducible exact l_lenS | with_reducible exact l_tupL | with_reducible exact l_tupT | with_reducible exact l_max | with_reducible exact l_min | with_reducible exact l_listT | with_reducible exact l_listL | with_reducible exact v_slcT | with_reducible exact l_isTT | with_reducible exact l_isII | with_reducible exact l_isBI | with_reducible exact l_isBB | with_reducible exact l_isSS | with_reducible exact l_isLL | with_reducible exact z_bl | with_reducible exact z_int | with_reducible exact v_slcL | with_reducible exact v_slcS | with_reducible exact e_int | with_reducible exact e_bl | with_reducible exact e_str | with_reducible exact e_non | with_reducible exact a_nil | with_reducible exact o_nil | with_reducible exact g_name | with_reducible exact gs_nil | with_reducible exact b_add | with_reducible exact b_sub | with_reducible exact u_neg | with_reducible exact c_lt | with_reducible exact c_le | with_reducible exact c_gt | with_reducible exact c_ge | with_reducible exact c_eqI | with_reducible exact c_neI | with_reducible exact c_eqS | with_reducible exact c_neS | ((with_reducible apply e_var); exact rfl) | ((with_reducible apply e_glb); exact rfl) | ((with_reducible apply x_tup); exact rfl) | ((with_reducible apply x_lst); exact rfl) | with_reducible apply a_cons | with_reducible apply e_bin | with_reducible apply e_un | with_reducible apply e_idx | with_reducible apply e_call | with_reducible apply e_blt | with_reducible apply e_cmp | with_reducible apply e_slc | with_reducible apply e_frz | with_reducible apply e_one | with_reducible apply e_not | with_reducible apply t_cmp | with_reducible apply t_not | with_reducible apply t_one | with_reducible apply t_ex | with_reducible apply o_cons | with_reducible apply g_tup | with_reducible apply gs_cons | with_reducible apply g_sub | with_reducible apply e_tupS | with_reducible apply e_dspS | ((with_reducible apply LS_mk); exact rfl) | with_reducible refine' t_and ?_ (fun _ => ?_) | with_reducible refine' t_or ?_ (fun _ => ?_) | with_reducible refine' e_and ?_ (fun _ => ?_) | with_reducible refine' e_or ?_ (fun _ => ?_) | ((with_reducible apply b_powL); decide) | ((with_reducible apply b_pow); decide) | ((with_reducible apply b_fdiv); decide) | ((with_reducible apply b_mod); decide) | ((with_reducible apply b_mul); decide) | ((with_reducible apply b_mul); with_reducible assumption) | ((with_reducible apply b_fdiv); with_reducible assumption) | with_reducible apply b_mul | with_reducible apply b_fdiv | with_reducible apply b_mod | with_reducible apply b_shr | with_reducible apply b_cat | with_reducible apply l_str))) (by (repeat' (first | with_reducible exact l_abs | with_reducible exact l_int | with_reducible exact l_intB | with_reducible exact l_lenT | with_reducible exact l_lenL | with_reducible exact l_lenS | with_reducible exact l_tupL | with_reducible exact l_tupT | with_reducible exact l_max | with_reducible exact l_min | with_reducible exact l_listT | with_reducible exact l_listL | with_reducible exact v_slcT | with_reducible exact l_isTT | with_reducible exact l_isII | with_reducible exact l_isBI | with_reducible exact l_isBB | with_reducible exact l_isSS | with_reducible exact l_isLL | with_reducible exact z_bl | with_reducible exact z_int | with_reducible exact v_slcL | with_reducible exact v_slcS | with_reducible exact e_int | with_reducible exact e_bl | with_reducible exact e_str | with_reducible exact e_non | with_reducible exact a_nil | with_reducible exact o_nil | with_reducible exact g_name | with_reducible exact gs_nil | with_reducible exact b_add | with_reducible exact b_sub | with_reducible exact u_neg | with_reducible exact c_lt | with_reducible exact c_le | with_reducible exact c_gt | with_reducible exact c_ge | with_reducible exact c_eqI | with_reducible exact c_neI | with_reducible exact c_eqS | with_reducible exact c_neS | ((with_reducible apply e_var); exact rfl) | ((with_reducible apply e_glb); exact rfl) | ((with_reducible apply x_tup); exact rfl) | ((with_reducible apply x_lst); exact rfl) | with_reducible apply a_cons | with_reducible apply e_bin | with_reducible apply e_un | with_reducible apply e_idx | with_reducible apply e_call | with_reducible apply e_blt | with_reducible apply e_cmp | with_reducible apply e_slc | with_reducible apply e_frz | with_reducible apply e_one | with_reducible apply e_not | with_reducible apply t_cmp | with_reducible apply t_not | with_reducible apply t_one | with_reducible apply t_ex | with_reducible apply o_cons | with_reducible apply g_tup | with_reducible apply gs_cons | with_reducible apply g_sub | with_reducible apply e_tupS | with_reducible apply e_dspS | ((with_reducible apply LS_mk); exact rfl) | with_reducible refine' t_and ?_ (fun _ => ?_) | with_reducible refine' t_or ?_ (fun _ => ?_) | with_reducible refine' e_and ?_ (fun _ => ?_) | with_reducible refine' e_or ?_ (fun _ => ?_) | ((with_reducible apply b_powL); decide) | ((with_reducible apply b_pow); decide) | ((with_reducible apply b_fdiv); decide) | ((with_reducible apply b_mod); decide) | ((with_reducible apply b_mul); decide) | ((with_reducible apply b_mul); with_reducible assumption) | ((with_reducible apply b_fdiv); with_reducible assumption) | with_reducible apply b_mul | with_reducible apply b_fdiv | with_reducible apply b_mod | with_reducible apply b_shr | with_reducible apply b_cat | with_reducible apply l_str))))
      ⟨rfl, _, _, _, _, _, _, _, rfl, by simp, fun q hq => ?_, rfl, rfl⟩ ?_ ?_
    · rw [List.eq_of_mem_replicate hq]
      exact (szq_lit (by decide) (by decide)).mono (by omega)
    · rintro j x σ st' hx ⟨rfl, s, sb, a, c, d', f, g', rfl, hs, sz, ht', hst⟩
      obtain ⟨l, w, h1, h2, rfl⟩ := zip_pair hx
      have hj : j < ls.length := by rw [List.getElem?_eq_some_iff] at h1; exact h1.1
      have hM1 : (N + W + 1) * (j + 1) = (N + W + 1) * j + (N + W + 1) := Nat.mul_succ _ _
      have hM2 : (N + W + 1) * (j + 1) ≤ (N + W + 1) * (ls.length + 1) := Nat.mul_le_mul_left _ (by omega)
      have ol := hls l (List.mem_of_getElem? h1)
      have ow := hws w (List.mem_of_getElem? h2)
      rw [drop_at h1, drop_at h2, tog] at ht'
      rw [drop_at h1, drop_at h2, strictB] at hst
      refine ⟨_, _, by (repeat' (first | with_reducible exact l_abs | with_reducible exact l_int | with_reducible exact l_intB | with_reducible exact l_lenT | with_reducible exact l_lenL | with_reducible exact l_lenS | with_reducible exact l_tupL | with_reducible exact l_tupT | with_reducible exact l_max | with_reducible exact l_min | with_reducible exact l_listT | with_reducible exact l_listL | with_reducible exact v_slcT | with_reducible exact l_isTT | with_reducible exact l_isII | with_reducible exact l_isBI | with_reducible exact l_isBB | with_reducible exact l_isSS | with_reducible exact l_isLL | with_reducible exact z_bl | with_reducible exact z_int | with_reducible exact v_slcL | with_reducible exact v_slcS | with_reducible exact e_int | with_reducible exact e_bl | with_reducible exact e_str | with_reducible exact e_non | with_reducible exact a_nil | with_reducible exact o_nil | with_reducible exact g_name | with_reducible exact gs_nil | with_reducible exact b_add | with_reducible exact b_sub | with_reducible exact u_neg | with_reducible exact c_lt | with_reducible exact c_le | with_reducible exact c_gt | with_reducible exact c_ge | with_reducible exact c_eqI | with_reducible exact c_neI | with_reducible exact c_eqS | with_reducible exact c_neS | ((with_reducible apply e_var); exact rfl) | ((with_reducible apply e_glb); exact rfl) | ((with_reducible apply x_tup); exact rfl) | ((with_reducible apply x_lst); exact rfl) | with_reducible apply a_cons | with_reducible apply e_bin | with_reducible apply e_un | with_reducible apply e_idx | with_reducible apply e_call | with_reducible apply e_blt | with_reducible apply e_cmp | with_reducible apply e_slc | with_reducible apply e_frz | with_reducible apply e_one | with_reducible apply e_not | with_reducible apply t_cmp | with_reducible apply t_not | with_reducible apply t_one | with_reducible apply t_ex | with_reducible apply o_cons | with_reducible apply g_tup | with_reducible apply gs_cons | with_reducible apply g_sub | with_reducible apply e_tupS | with_reducible apply e_dspS | ((with_reducible apply LS_mk); exact rfl) | with_reducible refine' t_and ?_ (fun _ => ?_) | with_reducible refine' t_or ?_ (fun _ => ?_) | with_reducible refine' e_and ?_ (fun _ => ?_) | with_reducible refine' e_or ?_ (fun _ => ?_) | ((with_reducible apply b_powL); decide) | ((with_reducible apply b_pow); decide) | ((with_reducible apply b_fdiv); decide) | ((with_reducible apply b_mod); decide) | ((with_reducible apply b_mul); decide) | ((with_reducible apply b_mul); with_reducible assumption) | ((with_reducible apply b_fdiv); with_reducible assumption) | with_reducible apply b_mul | with_reducible apply b_fdiv | with_reducible apply b_mod | with_reducible apply b_shr | with_reducible apply b_cat | with_reducible apply l_str)), ?_⟩
      have er : (l.ps.map encQ) ++ [encQ l.b] = (row l).map encQ := by unfold row; rw [List.map_append]; rfl
      have lz := lc_zip (gs := gs) (cs := run gs fs (k + 4)) (a := 12) (b := 13) (s := s) (r := row l) (el := .call u (.cons (.var 12) (.cons (.call v (.cons (.var 10) (.cons (.var 13) .nil))) .nil))) st'
        (σ := wipeD [some (.tup [.str kd, .tup (ps.map encQ), encQ b]), some (.lst (ls.map encL)), some (.lst (ws.map encQ)), some (.lst (s.map encQ)), some (.bl sb), a, some (.str kd), some (.tup (ps.map encQ)), some (encQ b), some (encL l), some (encQ w), none, f, g'] [12, 13]) (fun a b => a + w * b) (fun x hx y hy => by
        have q1 := sq_times (gs := gs) (k + 1) st' hv hm hd ow (row_sz ol y hy) (by omega)
        have q2 := sq_plus (gs := gs) (k + 1) st' hu hm hd (sz x hx) (ow.mul (row_sz ol y hy)) (by omega)
        (repeat' (first | with_reducible apply q1 | with_reducible apply q2 | with_reducible exact l_abs | with_reducible exact l_int | with_reducible exact l_intB | with_reducible exact l_lenT | with_reducible exact l_lenL | with_reducible exact l_lenS | with_reducible exact l_tupL | with_reducible exact l_tupT | with_reducible exact l_max | with_reducible exact l_min | with_reducible exact l_listT | with_reducible exact l_listL | with_reducible exact v_slcT | with_reducible exact l_isTT | with_reducible exact l_isII | with_reducible exact l_isBI | with_reducible exact l_isBB | with_reducible exact l_isSS | with_reducible exact l_isLL | with_reducible exact z_bl | with_reducible exact z_int | with_reducible exact v_slcL | with_reducible exact v_slcS | with_reducible exact e_int | with_reducible exact e_bl | with_reducible exact e_str | with_reducible exact e_non | with_reducible exact a_nil | with_reducible exact o_nil | with_reducible exact g_name | with_reducible exact gs_nil | with_reducible exact b_add | with_reducible exact b_sub | with_reducible exact u_neg | with_reducible exact c_lt | with_reducible exact c_le | with_reducible exact c_gt | with_reducible exact c_ge | with_reducible exact c_eqI | with_reducible exact c_neI | with_reducible exact c_eqS | with_reducible exact c_neS | ((with_reducible apply e_var); exact rfl) | ((with_reducible apply e_glb); exact rfl) | ((with_reducible apply x_tup); exact rfl) | ((with_reducible apply x_lst); exact rfl) | with_reducible apply a_cons | with_reducible apply e_bin | with_reducible apply e_un | with_reducible apply e_idx | with_reducible apply e_call | with_reducible apply e_blt | with_reducible apply e_cmp | with_reducible apply e_slc | with_reducible apply e_frz | with_reducible apply e_one | with_reducible apply e_not | with_reducible apply t_cmp | with_reducible apply t_not | with_reducible apply t_one | with_reducible apply t_ex | with_reducible apply o_cons | with_reducible apply g_tup | with_reducible apply gs_cons | with_reducible apply g_sub | with_reducible apply e_tupS | with_reducible apply e_dspS | ((with_reducible apply LS_mk); exact rfl) | with_reducible refine' t_and ?_ (fun _ => ?_) | with_reducible refine' t_or ?_ (fun _ => ?_) | with_reducible refine' e_and ?_ (fun _ => ?_) | with_reducible refine' e_or ?_ (fun _ => ?_) | ((with_reducible apply b_powL); decide) | ((with_reducible apply b_pow); decide) | ((with_reducible apply b_fdiv); decide) | ((with_reducible apply b_mod); decide) | ((with_reducible apply b_mul); decide) | ((with_reducible apply b_mul); with_reducible assumption) | ((with_reducible apply b_fdiv); with_reducible assumption) | with_reducible apply b_mul | with_reducible apply b_fdiv | with_reducible apply b_mod | with_reducible apply b_shr | with_reducible apply b_cat | with_reducible apply l_str)))
      refine' w_asg (d := .lst ((stepT s l w).map encQ)) (e_lcp (i_zipM (by (repeat' (first | with_reducible exact l_abs | with_reducible exact l_int | with_reducible exact l_intB | with_reducible exact l_lenT | with_reducible exact l_lenL | with_reducible exact l_lenS | with_reducible exact l_tupL | with_reducible exact l_tupT | with_reducible exact l_max | with_reducible exact l_min | with_reducible exact l_listT | with_reducible exact l_listL | with_reducible exact v_slcT | with_reducible exact l_isTT | with_reducible exact l_isII | with_reducible exact l_isBI | with_reducible exact l_isBB | with_reducible exact l_isSS | with_reducible exact l_isLL | with_reducible exact z_bl | with_reducible exact z_int | with_reducible exact v_slcL | with_reducible exact v_slcS | with_reducible exact e_int | with_reducible exact e_bl | with_reducible exact e_str | with_reducible exact e_non | with_reducible exact a_nil | with_reducible exact o_nil | with_reducible exact g_name | with_reducible exact gs_nil | with_reducible exact b_add | with_reducible exact b_sub | with_reducible exact u_neg | with_reducible exact c_lt | with_reducible exact c_le | with_reducible exact c_gt | with_reducible exact c_ge | with_reducible exact c_eqI | with_reducible exact c_neI | with_reducible exact c_eqS | with_reducible exact c_neS | ((with_reducible apply e_var); exact rfl) | ((with_reducible apply e_glb); exact rfl) | ((with_reducible apply x_tup); exact rfl) | ((with_reducible apply x_lst); exact rfl) | with_reducible apply a_cons | with_reducible apply e_bin | with_reducible apply e_un | with_reducible apply e_idx | with_reducible apply e_call | with_reducible apply e_blt | with_reducible apply e_cmp | with_reducible apply e_slc | with_reducible apply e_frz | with_reducible apply e_one | with_reducible apply e_not | with_reducible apply t_cmp | with_reducible apply t_not | with_reducible apply t_one | with_reducible apply t_ex | with_reducible apply o_cons | with_reducible apply g_tup | with_reducible apply gs_cons | with_reducible apply g_sub | with_reducible apply e_tupS | with_reducible apply e_dspS | ((with_reducible apply LS_mk); exact rfl) | with_reducible refine' t_and ?_ (fun _ => ?_) | with_reducible refine' t_or ?_ (fun _ => ?_) | with_reducible refine' e_and ?_ (fun _ => ?_) | with_reducible refine' e_or ?_ (fun _ => ?_) | ((with_reducible apply b_powL); decide) | ((with_reducible apply b_pow); decide) | ((with_reducible apply b_fdiv); decide) | ((with_reducible apply b_mod); decide) | ((with_reducible apply b_mul); decide) | ((with_reducible apply b_mul); with_reducible assumption) | ((with_reducible apply b_fdiv); with_reducible assumption) | with_reducible apply b_mul | with_reducible apply b_fdiv | with_reducible apply b_mod | with_reducible apply b_shr | with_reducible apply b_cat | with_reducible apply l_str))) (by ((repeat' (first | (with_reducible apply b_catT) | with_reducible exact l_abs | with_reducible exact l_int | with_reducible exact l_intB | with_reducible exact l_lenT | with_reducible exact l_lenL | with_reducible exact l_lenS | with_reducible exact l_tupL | with_reducible exact l_tupT | with_reducible exact l_max | with_reducible exact l_min | with_reducible exact l_listT | with_reducible exact l_listL | with_reducible exact v_slcT | with_reducible exact l_isTT | with_reducible exact l_isII | with_reducible exact l_isBI | with_reducible exact l_isBB | with_reducible exact l_isSS | with_reducible exact l_isLL | with_reducible exact z_bl | with_reducible exact z_int | with_reducible exact v_slcL | with_reducible exact v_slcS | with_reducible exact e_int | with_reducible exact e_bl | with_reducible exact e_str | with_reducible exact e_non | with_reducible exact a_nil | with_reducible exact o_nil | with_reducible exact g_name | with_reducible exact gs_nil | with_reducible exact b_add | with_reducible exact b_sub | with_reducible exact u_neg | with_reducible exact c_lt | with_reducible exact c_le | with_reducible exact c_gt | with_reducible exact c_ge | with_reducible exact c_eqI | with_reducible exact c_neI | with_reducible exact c_eqS | with_reducible exact c_neS | ((with_reducible apply e_var); exact rfl) | ((with_reducible apply e_glb); exact rfl) | ((with_reducible apply x_tup); exact rfl) | ((with_reducible apply x_lst); exact rfl) | with_reducible apply a_cons | with_reducible apply e_bin | with_reducible apply e_un | with_reducible apply e_idx | with_reducible apply e_call | with_reducible apply e_blt | with_reducible apply e_cmp | with_reducible apply e_slc | with_reducible apply e_frz | with_reducible apply e_one | with_reducible apply e_not | with_reducible apply t_cmp | with_reducible apply t_not | with_reducible apply t_one | with_reducible apply t_ex | with_reducible apply o_cons | with_reducible apply g_tup | with_reducible apply gs_cons | with_reducible apply g_sub | with_reducible apply e_tupS | with_reducible apply e_dspS | ((with_reducible apply LS_mk); exact rfl) | with_reducible refine' t_and ?_ (fun _ => ?_) | with_reducible refine' t_or ?_ (fun _ => ?_) | with_reducible refine' e_and ?_ (fun _ => ?_) | with_reducible refine' e_or ?_ (fun _ => ?_) | ((with_reducible apply b_powL); decide) | ((with_reducible apply b_pow); decide) | ((with_reducible apply b_fdiv); decide) | ((with_reducible apply b_mod); decide) | ((with_reducible apply b_mul); decide) | ((with_reducible apply b_mul); with_reducible assumption) | ((with_reducible apply b_fdiv); with_reducible assumption) | with_reducible apply b_mul | with_reducible apply b_fdiv | with_reducible apply b_mod | with_reducible apply b_shr | with_reducible apply b_cat | with_reducible apply l_str))); exact lenQ (decide_eq_true (by rw [List.length_map, ol.len]; simp; omega)))) (by rw [er]; exact lz) ?_) ?_
      · exact lenQ (decide_eq_true (by rw [List.length_map, len_step hs ol.len]; omega))
      refine' w_asg (by (repeat' (first | with_reducible exact l_abs | with_reducible exact l_int | with_reducible exact l_intB | with_reducible exact l_lenT | with_reducible exact l_lenL | with_reducible exact l_lenS | with_reducible exact l_tupL | with_reducible exact l_tupT | with_reducible exact l_max | with_reducible exact l_min | with_reducible exact l_listT | with_reducible exact l_listL | with_reducible exact v_slcT | with_reducible exact l_isTT | with_reducible exact l_isII | with_reducible exact l_isBI | with_reducible exact l_isBB | with_reducible exact l_isSS | with_reducible exact l_isLL | with_reducible exact z_bl | with_reducible exact z_int | with_reducible exact v_slcL | with_reducible exact v_slcS | with_reducible exact e_int | with_reducible exact e_bl | with_reducible exact e_str | with_reducible exact e_non | with_reducible exact a_nil | with_reducible exact o_nil | with_reducible exact g_name | with_reducible exact gs_nil | with_reducible exact b_add | with_reducible exact b_sub | with_reducible exact u_neg | with_reducible exact c_lt | with_reducible exact c_le | with_reducible exact c_gt | with_reducible exact c_ge | with_reducible exact c_eqI | with_reducible exact c_neI | with_reducible exact c_eqS | with_reducible exact c_neS | ((with_reducible apply e_var); exact rfl) | ((with_reducible apply e_glb); exact rfl) | ((with_reducible apply x_tup); exact rfl) | ((with_reducible apply x_lst); exact rfl) | with_reducible apply a_cons | with_reducible apply e_bin | with_reducible apply e_un | with_reducible apply e_idx | with_reducible apply e_call | with_reducible apply e_blt | with_reducible apply e_cmp | with_reducible apply e_slc | with_reducible apply e_frz | with_reducible apply e_one | with_reducible apply e_not | with_reducible apply t_cmp | with_reducible apply t_not | with_reducible apply t_one | with_reducible apply t_ex | with_reducible apply o_cons | with_reducible apply g_tup | with_reducible apply gs_cons | with_reducible apply g_sub | with_reducible apply e_tupS | with_reducible apply e_dspS | ((with_reducible apply LS_mk); exact rfl) | with_reducible refine' t_and ?_ (fun _ => ?_) | with_reducible refine' t_or ?_ (fun _ => ?_) | with_reducible refine' e_and ?_ (fun _ => ?_) | with_reducible refine' e_or ?_ (fun _ => ?_) | ((with_reducible apply b_powL); decide) | ((with_reducible apply b_pow); decide) | ((with_reducible apply b_fdiv); decide) | ((with_reducible apply b_mod); decide) | ((with_reducible apply b_mul); decide) | ((with_reducible apply b_mul); with_reducible assumption) | ((with_reducible apply b_fdiv); with_reducible assumption) | with_reducible apply b_mul | with_reducible apply b_fdiv | with_reducible apply b_mod | with_reducible apply b_shr | with_reducible apply b_cat | with_reducible apply l_str))) ?_
      refine w_nil ⟨rfl, stepT s l w, sb || (l.kd == "<" && decide (0 < w.num)), _, _, _, _, _, rfl, len_step hs ol.len, fun q hq => (sz_step sz (row_sz ol) ow q hq).mono (by omega), ht', ?_⟩
      rw [← hst, Bool.or_assoc]
      congr 2
      congr 1
      exact decide_eq_decide.mpr num_pos_iff
    · rintro σ st' ⟨rfl, s, sb, a, c, d', f, g', rfl, hs, sz, ht', hst⟩
      rw [zip_len' hl] at sz ht' hst
      have nil1 : tog (ls.drop ls.length) (ws.drop ls.length) s = s := by rw [List.drop_eq_nil_of_le (Nat.le_refl _)]; rfl
      have nil2 : strictB (ls.drop ls.length) (ws.drop ls.length) = false := by rw [List.drop_eq_nil_of_le (Nat.le_refl _)]; rfl
      rw [nil1] at ht'
      rw [nil2, Bool.or_false] at hst
      have hM2 : (N + W + 1) * ls.length ≤ (N + W + 1) * (ls.length + 1) := Nat.mul_le_mul_left _ (by omega)
      have sz8 : ∀ q ∈ s, Szq 8000 q := fun q hq => (sz q hq).mono (by omega)
      have hlast : Szq 8000 (s.getLast?.getD 0) := sz8 _ (by
        have := nonempty_last hs
        rw [this]
        simp)
      have c2 := sq_below (gs := gs) (k + 3) st' ht hlast hb (by decide)
      have al := at_last hs
      refine' w_asg (d := .tup (s.dropLast.map encQ)) (by ((repeat' (first | with_reducible exact l_abs | with_reducible exact l_int | with_reducible exact l_intB | with_reducible exact l_lenT | with_reducible exact l_lenL | with_reducible exact l_lenS | with_reducible exact l_tupL | with_reducible exact l_tupT | with_reducible exact l_max | with_reducible exact l_min | with_reducible exact l_listT | with_reducible exact l_listL | with_reducible exact v_slcT | with_reducible exact l_isTT | with_reducible exact l_isII | with_reducible exact l_isBI | with_reducible exact l_isBB | with_reducible exact l_isSS | with_reducible exact l_isLL | with_reducible exact z_bl | with_reducible exact z_int | with_reducible exact v_slcL | with_reducible exact v_slcS | with_reducible exact e_int | with_reducible exact e_bl | with_reducible exact e_str | with_reducible exact e_non | with_reducible exact a_nil | with_reducible exact o_nil | with_reducible exact g_name | with_reducible exact gs_nil | with_reducible exact b_add | with_reducible exact b_sub | with_reducible exact u_neg | with_reducible exact c_lt | with_reducible exact c_le | with_reducible exact c_gt | with_reducible exact c_ge | with_reducible exact c_eqI | with_reducible exact c_neI | with_reducible exact c_eqS | with_reducible exact c_neS | ((with_reducible apply e_var); exact rfl) | ((with_reducible apply e_glb); exact rfl) | ((with_reducible apply x_tup); exact rfl) | ((with_reducible apply x_lst); exact rfl) | with_reducible apply a_cons | with_reducible apply e_bin | with_reducible apply e_un | with_reducible apply e_idx | with_reducible apply e_call | with_reducible apply e_blt | with_reducible apply e_cmp | with_reducible apply e_slc | with_reducible apply e_frz | with_reducible apply e_one | with_reducible apply e_not | with_reducible apply t_cmp | with_reducible apply t_not | with_reducible apply t_one | with_reducible apply t_ex | with_reducible apply o_cons | with_reducible apply g_tup | with_reducible apply gs_cons | with_reducible apply g_sub | with_reducible apply e_tupS | with_reducible apply e_dspS | ((with_reducible apply LS_mk); exact rfl) | with_reducible refine' t_and ?_ (fun _ => ?_) | with_reducible refine' t_or ?_ (fun _ => ?_) | with_reducible refine' e_and ?_ (fun _ => ?_) | with_reducible refine' e_or ?_ (fun _ => ?_) | ((with_reducible apply b_powL); decide) | ((with_reducible apply b_pow); decide) | ((with_reducible apply b_fdiv); decide) | ((with_reducible apply b_mod); decide) | ((with_reducible apply b_mul); decide) | ((with_reducible apply b_mul); with_reducible assumption) | ((with_reducible apply b_fdiv); with_reducible assumption) | with_reducible apply b_mul | with_reducible apply b_fdiv | with_reducible apply b_mod | with_reducible apply b_shr | with_reducible apply b_cat | with_reducible apply l_str))); rw [cut_last hs]; exact l_tupL) ?_
      have sh : showB kd ps b ls ws = ((decide (s.dropLast = ps) && (decide (s.getLast?.getD 0 < b) || (decide (s.getLast?.getD 0 = b) && (kd == "<=" || sb)))) || (decide (s.dropLast.filter (fun x => !decide (x = 0)) = []) && (decide (s.getLast?.getD 0 < 0) || (decide (s.getLast?.getD 0 = 0) && sb)))) := by
        simp only [showB, hok, ← ht', hst, Bool.true_and]
      generalize s.getLast?.getD 0 = top at *
      refine' w_if (by (repeat' (first | with_reducible apply c2 | ((with_reducible apply x_lst); with_reducible exact al) | ((with_reducible apply c_eq); exact tup_ok; exact tup_ok) | ((with_reducible apply c_eq); exact enc_ok; exact enc_ok) | with_reducible exact l_abs | with_reducible exact l_int | with_reducible exact l_intB | with_reducible exact l_lenT | with_reducible exact l_lenL | with_reducible exact l_lenS | with_reducible exact l_tupL | with_reducible exact l_tupT | with_reducible exact l_max | with_reducible exact l_min | with_reducible exact l_listT | with_reducible exact l_listL | with_reducible exact v_slcT | with_reducible exact l_isTT | with_reducible exact l_isII | with_reducible exact l_isBI | with_reducible exact l_isBB | with_reducible exact l_isSS | with_reducible exact l_isLL | with_reducible exact z_bl | with_reducible exact z_int | with_reducible exact v_slcL | with_reducible exact v_slcS | with_reducible exact e_int | with_reducible exact e_bl | with_reducible exact e_str | with_reducible exact e_non | with_reducible exact a_nil | with_reducible exact o_nil | with_reducible exact g_name | with_reducible exact gs_nil | with_reducible exact b_add | with_reducible exact b_sub | with_reducible exact u_neg | with_reducible exact c_lt | with_reducible exact c_le | with_reducible exact c_gt | with_reducible exact c_ge | with_reducible exact c_eqI | with_reducible exact c_neI | with_reducible exact c_eqS | with_reducible exact c_neS | ((with_reducible apply e_var); exact rfl) | ((with_reducible apply e_glb); exact rfl) | ((with_reducible apply x_tup); exact rfl) | ((with_reducible apply x_lst); exact rfl) | with_reducible apply a_cons | with_reducible apply e_bin | with_reducible apply e_un | with_reducible apply e_idx | with_reducible apply e_call | with_reducible apply e_blt | with_reducible apply e_cmp | with_reducible apply e_slc | with_reducible apply e_frz | with_reducible apply e_one | with_reducible apply e_not | with_reducible apply t_cmp | with_reducible apply t_not | with_reducible apply t_one | with_reducible apply t_ex | with_reducible apply o_cons | with_reducible apply g_tup | with_reducible apply gs_cons | with_reducible apply g_sub | with_reducible apply e_tupS | with_reducible apply e_dspS | ((with_reducible apply LS_mk); exact rfl) | with_reducible refine' t_and ?_ (fun _ => ?_) | with_reducible refine' t_or ?_ (fun _ => ?_) | with_reducible refine' e_and ?_ (fun _ => ?_) | with_reducible refine' e_or ?_ (fun _ => ?_) | ((with_reducible apply b_powL); decide) | ((with_reducible apply b_pow); decide) | ((with_reducible apply b_fdiv); decide) | ((with_reducible apply b_mod); decide) | ((with_reducible apply b_mul); decide) | ((with_reducible apply b_mul); with_reducible assumption) | ((with_reducible apply b_fdiv); with_reducible assumption) | with_reducible apply b_mul | with_reducible apply b_fdiv | with_reducible apply b_mod | with_reducible apply b_shr | with_reducible apply b_cat | with_reducible apply l_str))) rfl rfl (fun h => ?_) (fun h => ?_)
      · refine' w_ret (by (repeat' (first | with_reducible exact l_abs | with_reducible exact l_int | with_reducible exact l_intB | with_reducible exact l_lenT | with_reducible exact l_lenL | with_reducible exact l_lenS | with_reducible exact l_tupL | with_reducible exact l_tupT | with_reducible exact l_max | with_reducible exact l_min | with_reducible exact l_listT | with_reducible exact l_listL | with_reducible exact v_slcT | with_reducible exact l_isTT | with_reducible exact l_isII | with_reducible exact l_isBI | with_reducible exact l_isBB | with_reducible exact l_isSS | with_reducible exact l_isLL | with_reducible exact z_bl | with_reducible exact z_int | with_reducible exact v_slcL | with_reducible exact v_slcS | with_reducible exact e_int | with_reducible exact e_bl | with_reducible exact e_str | with_reducible exact e_non | with_reducible exact a_nil | with_reducible exact o_nil | with_reducible exact g_name | with_reducible exact gs_nil | with_reducible exact b_add | with_reducible exact b_sub | with_reducible exact u_neg | with_reducible exact c_lt | with_reducible exact c_le | with_reducible exact c_gt | with_reducible exact c_ge | with_reducible exact c_eqI | with_reducible exact c_neI | with_reducible exact c_eqS | with_reducible exact c_neS | ((with_reducible apply e_var); exact rfl) | ((with_reducible apply e_glb); exact rfl) | ((with_reducible apply x_tup); exact rfl) | ((with_reducible apply x_lst); exact rfl) | with_reducible apply a_cons | with_reducible apply e_bin | with_reducible apply e_un | with_reducible apply e_idx | with_reducible apply e_call | with_reducible apply e_blt | with_reducible apply e_cmp | with_reducible apply e_slc | with_reducible apply e_frz | with_reducible apply e_one | with_reducible apply e_not | with_reducible apply t_cmp | with_reducible apply t_not | with_reducible apply t_one | with_reducible apply t_ex | with_reducible apply o_cons | with_reducible apply g_tup | with_reducible apply gs_cons | with_reducible apply g_sub | with_reducible apply e_tupS | with_reducible apply e_dspS | ((with_reducible apply LS_mk); exact rfl) | with_reducible refine' t_and ?_ (fun _ => ?_) | with_reducible refine' t_or ?_ (fun _ => ?_) | with_reducible refine' e_and ?_ (fun _ => ?_) | with_reducible refine' e_or ?_ (fun _ => ?_) | ((with_reducible apply b_powL); decide) | ((with_reducible apply b_pow); decide) | ((with_reducible apply b_fdiv); decide) | ((with_reducible apply b_mod); decide) | ((with_reducible apply b_mul); decide) | ((with_reducible apply b_mul); with_reducible assumption) | ((with_reducible apply b_fdiv); with_reducible assumption) | with_reducible apply b_mul | with_reducible apply b_fdiv | with_reducible apply b_mod | with_reducible apply b_shr | with_reducible apply b_cat | with_reducible apply l_str))) ?_
        refine ⟨rfl, ?_⟩
        have h : (eqL (s.dropLast.map encQ) (ps.map encQ) && (decide (top < b) || eqD (encQ top) (encQ b) && (kd == "<=" || sb))) = true := h
        rw [eq_qs, eq_q] at h
        rw [sh, h, Bool.true_or]
      have h : (eqL (s.dropLast.map encQ) (ps.map encQ) && (decide (top < b) || eqD (encQ top) (encQ b) && (kd == "<=" || sb))) = false := h
      rw [eq_qs, eq_q] at h
      rw [h, Bool.false_or] at sh
      have lf := lc_filt (gs := gs) (cs := run gs fs (k + 4)) st' (a := 11) (g := g) (l := s.dropLast) (σ := wipeD [some (.tup [.str kd, .tup (ps.map encQ), encQ b]), some (.lst (ls.map encL)), some (.lst (ws.map encQ)), some (.lst (s.map encQ)), some (.bl sb), some (.tup (s.dropLast.map encQ)), some (.str kd), some (.tup (ps.map encQ)), some (encQ b), c, d', none, f, g'] [11]) hg (by show 11 < 14; decide)
      have ll : lenOk ((s.dropLast.filter (fun x => !decide (x = 0))).map encQ).length = true := lenQ (decide_eq_true (by
        rw [List.length_map]
        have := List.length_filter_le (fun x : Rat => !decide (x = 0)) s.dropLast
        rw [List.length_dropLast] at this
        omega))
      have hcp : evE gs (run gs fs (k + 4)) (.lcp false [11] (.tN 11) (.iV (.var 5)) (.cmp .ne (.var 11) (.glb g)) (.var 11)) (List.set [some (.tup [.str kd, .tup (ps.map encQ), encQ b]), some (.lst (ls.map encL)), some (.lst (ws.map encQ)), some (.lst (s.map encQ)), some (.bl sb), a, some (.str kd), some (.tup (ps.map encQ)), some (encQ b), c, d', none, f, g'] 5 (some (.tup (s.dropLast.map encQ)))) st' = some (.lst ((s.dropLast.filter (fun x => !decide (x = 0))).map encQ), st') := e_lcp (i_tup (e_var rfl)) lf ll
      refine' w_if (by (repeat' (first | with_reducible apply hcp | ((with_reducible apply c_ne); exact lst_ok; exact rfl) | with_reducible exact l_abs | with_reducible exact l_int | with_reducible exact l_intB | with_reducible exact l_lenT | with_reducible exact l_lenL | with_reducible exact l_lenS | with_reducible exact l_tupL | with_reducible exact l_tupT | with_reducible exact l_max | with_reducible exact l_min | with_reducible exact l_listT | with_reducible exact l_listL | with_reducible exact v_slcT | with_reducible exact l_isTT | with_reducible exact l_isII | with_reducible exact l_isBI | with_reducible exact l_isBB | with_reducible exact l_isSS | with_reducible exact l_isLL | with_reducible exact z_bl | with_reducible exact z_int | with_reducible exact v_slcL | with_reducible exact v_slcS | with_reducible exact e_int | with_reducible exact e_bl | with_reducible exact e_str | with_reducible exact e_non | with_reducible exact a_nil | with_reducible exact o_nil | with_reducible exact g_name | with_reducible exact gs_nil | with_reducible exact b_add | with_reducible exact b_sub | with_reducible exact u_neg | with_reducible exact c_lt | with_reducible exact c_le | with_reducible exact c_gt | with_reducible exact c_ge | with_reducible exact c_eqI | with_reducible exact c_neI | with_reducible exact c_eqS | with_reducible exact c_neS | ((with_reducible apply e_var); exact rfl) | ((with_reducible apply e_glb); exact rfl) | ((with_reducible apply x_tup); exact rfl) | ((with_reducible apply x_lst); exact rfl) | with_reducible apply a_cons | with_reducible apply e_bin | with_reducible apply e_un | with_reducible apply e_idx | with_reducible apply e_call | with_reducible apply e_blt | with_reducible apply e_cmp | with_reducible apply e_slc | with_reducible apply e_frz | with_reducible apply e_one | with_reducible apply e_not | with_reducible apply t_cmp | with_reducible apply t_not | with_reducible apply t_one | with_reducible apply t_ex | with_reducible apply o_cons | with_reducible apply g_tup | with_reducible apply gs_cons | with_reducible apply g_sub | with_reducible apply e_tupS | with_reducible apply e_dspS | ((with_reducible apply LS_mk); exact rfl) | with_reducible refine' t_and ?_ (fun _ => ?_) | with_reducible refine' t_or ?_ (fun _ => ?_) | with_reducible refine' e_and ?_ (fun _ => ?_) | with_reducible refine' e_or ?_ (fun _ => ?_) | ((with_reducible apply b_powL); decide) | ((with_reducible apply b_pow); decide) | ((with_reducible apply b_fdiv); decide) | ((with_reducible apply b_mod); decide) | ((with_reducible apply b_mul); decide) | ((with_reducible apply b_mul); with_reducible assumption) | ((with_reducible apply b_fdiv); with_reducible assumption) | with_reducible apply b_mul | with_reducible apply b_fdiv | with_reducible apply b_mod | with_reducible apply b_shr | with_reducible apply b_cat | with_reducible apply l_str))) rfl rfl (fun h => ?_) (fun h => ?_)
      · refine' w_ret (by (repeat' (first | with_reducible exact l_abs | with_reducible exact l_int | with_reducible exact l_intB | with_reducible exact l_lenT | with_reducible exact l_lenL | with_reducible exact l_lenS | with_reducible exact l_tupL | with_reducible exact l_tupT | with_reducible exact l_max | with_reducible exact l_min | with_reducible exact l_listT | with_reducible exact l_listL | with_reducible exact v_slcT | with_reducible exact l_isTT | with_reducible exact l_isII | with_reducible exact l_isBI | with_reducible exact l_isBB | with_reducible exact l_isSS | with_reducible exact l_isLL | with_reducible exact z_bl | with_reducible exact z_int | with_reducible exact v_slcL | with_reducible exact v_slcS | with_reducible exact e_int | with_reducible exact e_bl | with_reducible exact e_str | with_reducible exact e_non | with_reducible exact a_nil | with_reducible exact o_nil | with_reducible exact g_name | with_reducible exact gs_nil | with_reducible exact b_add | with_reducible exact b_sub | with_reducible exact u_neg | with_reducible exact c_lt | with_reducible exact c_le | with_reducible exact c_gt | with_reducible exact c_ge | with_reducible exact c_eqI | with_reducible exact c_neI | with_reducible exact c_eqS | with_reducible exact c_neS | ((with_reducible apply e_var); exact rfl) | ((with_reducible apply e_glb); exact rfl) | ((with_reducible apply x_tup); exact rfl) | ((with_reducible apply x_lst); exact rfl) | with_reducible apply a_cons | with_reducible apply e_bin | with_reducible apply e_un | with_reducible apply e_idx | with_reducible apply e_call | with_reducible apply e_blt | with_reducible apply e_cmp | with_reducible apply e_slc | with_reducible apply e_frz | with_reducible apply e_one | with_reducible apply e_not | with_reducible apply t_cmp | with_reducible apply t_not | with_reducible apply t_one | with_reducible apply t_ex | with_reducible apply o_cons | with_reducible apply g_tup | with_reducible apply gs_cons | with_reducible apply g_sub | with_reducible apply e_tupS | with_reducible apply e_dspS | ((with_reducible apply LS_mk); exact rfl) | with_reducible refine' t_and ?_ (fun _ => ?_) | with_reducible refine' t_or ?_ (fun _ => ?_) | with_reducible refine' e_and ?_ (fun _ => ?_) | with_reducible refine' e_or ?_ (fun _ => ?_) | ((with_reducible apply b_powL); decide) | ((with_reducible apply b_pow); decide) | ((with_reducible apply b_fdiv); decide) | ((with_reducible apply b_mod); decide) | ((with_reducible apply b_mul); decide) | ((with_reducible apply b_mul); with_reducible assumption) | ((with_reducible apply b_fdiv); with_reducible assumption) | with_reducible apply b_mul | with_reducible apply b_fdiv | with_reducible apply b_mod | with_reducible apply b_shr | with_reducible apply b_cat | with_reducible apply l_str))) ?_
        refine ⟨rfl, ?_⟩
        have h : (!eqD (.lst ((s.dropLast.filter (fun x => !decide (x = 0))).map encQ)) (.lst [])) = true := h
        rw [eq_nil] at h
        rw [sh]
        simp only [Bool.not_eq_true'] at h
        rw [h, Bool.false_and]
      · have h : (!eqD (.lst ((s.dropLast.filter (fun x => !decide (x = 0))).map encQ)) (.lst [])) = false := h
        rw [eq_nil] at h
        simp only [Bool.not_eq_false'] at h
        rw [h, Bool.true_and] at sh
        refine' w_ret (by (repeat' (first | ((with_reducible apply x_lst); with_reducible exact al) | ((with_reducible apply e_glb); with_reducible exact hg) | ((with_reducible apply c_eq); exact enc_ok; exact enc_ok (r := 0)) | with_reducible exact l_abs | with_reducible exact l_int | with_reducible exact l_intB | with_reducible exact l_lenT | with_reducible exact l_lenL | with_reducible exact l_lenS | with_reducible exact l_tupL | with_reducible exact l_tupT | with_reducible exact l_max | with_reducible exact l_min | with_reducible exact l_listT | with_reducible exact l_listL | with_reducible exact v_slcT | with_reducible exact l_isTT | with_reducible exact l_isII | with_reducible exact l_isBI | with_reducible exact l_isBB | with_reducible exact l_isSS | with_reducible exact l_isLL | with_reducible exact z_bl | with_reducible exact z_int | with_reducible exact v_slcL | with_reducible exact v_slcS | with_reducible exact e_int | with_reducible exact e_bl | with_reducible exact e_str | with_reducible exact e_non | with_reducible exact a_nil | with_reducible exact o_nil | with_reducible exact g_name | with_reducible exact gs_nil | with_reducible exact b_add | with_reducible exact b_sub | with_reducible exact u_neg | with_reducible exact c_lt | with_reducible exact c_le | with_reducible exact c_gt | with_reducible exact c_ge | with_reducible exact c_eqI | with_reducible exact c_neI | with_reducible exact c_eqS | with_reducible exact c_neS | ((with_reducible apply e_var); exact rfl) | ((with_reducible apply e_glb); exact rfl) | ((with_reducible apply x_tup); exact rfl) | ((with_reducible apply x_lst); exact rfl) | with_reducible apply a_cons | with_reducible apply e_bin | with_reducible apply e_un | with_reducible apply e_idx | with_reducible apply e_call | with_reducible apply e_blt | with_reducible apply e_cmp | with_reducible apply e_slc | with_reducible apply e_frz | with_reducible apply e_one | with_reducible apply e_not | with_reducible apply t_cmp | with_reducible apply t_not | with_reducible apply t_one | with_reducible apply t_ex | with_reducible apply o_cons | with_reducible apply g_tup | with_reducible apply gs_cons | with_reducible apply g_sub | with_reducible apply e_tupS | with_reducible apply e_dspS | ((with_reducible apply LS_mk); exact rfl) | with_reducible refine' t_and ?_ (fun _ => ?_) | with_reducible refine' t_or ?_ (fun _ => ?_) | with_reducible refine' e_and ?_ (fun _ => ?_) | with_reducible refine' e_or ?_ (fun _ => ?_) | ((with_reducible apply b_powL); decide) | ((with_reducible apply b_pow); decide) | ((with_reducible apply b_fdiv); decide) | ((with_reducible apply b_mod); decide) | ((with_reducible apply b_mul); decide) | ((with_reducible apply b_mul); with_reducible assumption) | ((with_reducible apply b_fdiv); with_reducible assumption) | with_reducible apply b_mul | with_reducible apply b_fdiv | with_reducible apply b_mod | with_reducible apply b_shr | with_reducible apply b_cat | with_reducible apply l_str))) ?_
        refine ⟨rfl, ?_⟩
        rw [sh]
        refine congrArg D.bl ?_
        have e0 : eqD (encQ top) (.tup [.int 0, .int 1]) = decide (top = 0) := eq_q (y := 0)
        show (decide (top.num < 0) || (eqD (encQ top) (.tup [.int 0, .int 1]) && sb)) = _
        rw [e0]
        congr 1
        exact decide_eq_decide.mpr num_neg_iff
  obtain ⟨x, e, rfl⟩ := w
  exact e
end
end Jd


namespace Jd
open PySem PySem.Spec PyProof.Rows L2
section
variable {gs : List D} {fs : List Fn} {i v u t w g e : Nat} (st : Sto)
theorem range_mem {n : Nat} {x : D} (h : x ∈ rngD 0 n) : ∃ j : Nat, x = .int (j : Int) ∧ j < n := by
  unfold rngD at h
  obtain ⟨j, hj, rfl⟩ := List.mem_map.mp h
  exact ⟨j, by simp, List.mem_range.mp hj⟩
theorem at_nat {l : List Rat} {j : Nat} (h : j < l.length) : atI (l.map encQ) (j : Int) = some (encQ (l.getD j 0)) := by
  refine atI_nat ?_
  rw [List.getElem?_map, List.getElem?_eq_getElem h, List.getD_eq_getElem?_getD, List.getElem?_eq_getElem h]
  rfl
theorem rng_map (w : Rat) {s r : List Rat} {n : Nat} (hs : s.length = n) (hr : r.length = n) : ((rngD 0 n).map fun d => match d with
    | .int k => encQ (s.getD k.toNat 0 + w * r.getD k.toNat 0)
    | _ => .non) = (List.zipWith (fun a b => a + w * b) s r).map encQ := by
  apply List.ext_getElem?
  intro j
  unfold rngD
  rw [List.map_map, List.getElem?_map, List.getElem?_map, List.getElem?_zipWith]
  by_cases hj : j < n
  · rw [List.getElem?_range hj, List.getElem?_eq_getElem (by omega : j < s.length), List.getElem?_eq_getElem (by omega : j < r.length)]
    simp only [Option.map_some, Function.comp_apply]
    have e1 : s.getD ((0 : Int) + (j : Int)).toNat 0 = s[j]'(by omega) := by
      rw [show ((0 : Int) + (j : Int)).toNat = j by omega, List.getD_eq_getElem?_getD, List.getElem?_eq_getElem (by omega : j < s.length)]
      rfl
    have e2 : r.getD ((0 : Int) + (j : Int)).toNat 0 = r[j]'(by omega) := by
      rw [show ((0 : Int) + (j : Int)).toNat = j by omega, List.getD_eq_getElem?_getD, List.getElem?_eq_getElem (by omega : j < r.length)]
      rfl
    rw [e1, e2]
  · rw [List.getElem?_eq_none (by rw [List.length_range]; omega), List.getElem?_eq_none (by omega : s.length ≤ j)]
    rfl
theorem lc_idx {cs : Nat → List D → Sto → Option (D × Sto)} {σ : En} {a : Nat} {el : C} {s r : List Rat} {n : Nat} (w : Rat) (hs : s.length = n) (hr : r.length = n) (h : ∀ j : Nat, j < n → evE gs cs el (σ.set a (some (.int (j : Int)))) st = some (encQ (s.getD j 0 + w * r.getD j 0), st)) :
    lcS (.its (rngD 0 n)) (evG gs cs (.tN a)) (evT gs cs .nil) (evE gs cs el) σ (srcLen (.its (rngD 0 n)) st) 0 st = some ((List.zipWith (fun a b => a + w * b) s r).map encQ, st) := by
  have := lcS_its (xs := rngD 0 n) (tg := evG gs cs (.tN a)) (t := evT gs cs .nil) (e := evE gs cs el) (σ := σ) (st := st) (fun _ => true) (fun d => match d with
    | .int k => encQ (s.getD k.toNat 0 + w * r.getD k.toNat 0)
    | _ => .non) (fun x hx => by
      obtain ⟨j, rfl, hj⟩ := range_mem hx
      refine ⟨_, g_name, t_nil, fun _ => ?_⟩
      simp only [Int.toNat_natCast]
      exact h j hj)
  rw [this, List.filter_eq_self.mpr (fun _ _ => rfl), rng_map w hs hr]
theorem lc_zero {cs : Nat → List D → Sto → Option (D × Sto)} {σ : En} {a : Nat} {xs : List D} : lcS (.its xs) (evG gs cs (.tN a)) (evT gs cs .nil) (evE gs cs (.tup (.cons (.kint 0) (.cons (.kint 1) .nil)))) σ (srcLen (.its xs) st) 0 st = some ((List.replicate xs.length (0 : Rat)).map encQ, st) := by
  have := lcS_its (xs := xs) (tg := evG gs cs (.tN a)) (t := evT gs cs .nil) (e := evE gs cs (.tup (.cons (.kint 0) (.cons (.kint 1) .nil)))) (σ := σ) (st := st) (fun _ => true) (fun _ => encQ 0) (fun x hx => ⟨_, g_name, t_nil, fun _ => e_tup (a_cons e_int (a_cons e_int a_nil)) rfl⟩)
  rw [this, List.filter_eq_self.mpr (fun _ _ => rfl), List.map_replicate, List.map_const']
theorem rng_len {n : Nat} : (rngD 0 n).length = n := by simp [rngD]
def togZ (ls : List Ln) (ws : List Rat) (m : Nat) : List Rat := tog ls ws (List.replicate (m + 1) 0)
theorem sp_together (k : Nat) (hi : fs[i]? = some (T_law_together u v)) {m : Nat} (hu : fs[u]? = some (T_law_plus m)) (hv : fs[v]? = some (T_law_times m)) (hm : fs[m]? = some T_law_makeR)
    {n : Nat} {ls : List Ln} {ws : List Rat} {N W : Nat} (hN : 128 + (N + W + 1) * (ls.length + 1) ≤ 8000) (hn : n ≤ 1000) (hl : ws.length = ls.length) (hls : ∀ l ∈ ls, LnOk N n l) (hws : ∀ w ∈ ws, Szq W w) :
    run gs fs (k + 4) i [.lst (ls.map encL), .lst (ws.map encQ), .int (n : Int)] st = some (.tup [.tup ((togZ ls ws n).dropLast.map encQ), encQ ((togZ ls ws n).getLast?.getD 0)], st) ∧ (togZ ls ws n).length = n + 1 ∧ ∀ q ∈ togZ ls ws n, Szq (128 + (N + W + 1) * ls.length) q := by
  have w : ∃ x, run gs fs (k + 4) i [.lst (ls.map encL), .lst (ws.map encQ), .int (n : Int)] st = some (x, st) ∧ (x = .tup [.tup ((togZ ls ws n).dropLast.map encQ), encQ ((togZ ls ws n).getLast?.getD 0)] ∧ (togZ ls ws n).length = n + 1 ∧ ∀ q ∈ togZ ls ws n, Szq (128 + (N + W + 1) * ls.length) q) := by
    refine run_wp (T_law_together u v) hi rfl _ ?_
    have lz := lc_zero (gs := gs) st (cs := run gs fs (k + 3)) (a := 7) (xs := rngD 0 (n + 1)) (σ := wipeD [some (.lst (ls.map encL)), some (.lst (ws.map encQ)), some (.int (n : Int)), none, none, none, none, none] [7])
    rw [rng_len] at lz
    refine' w_asg (d := .lst ((List.replicate (n + 1) (0 : Rat)).map encQ)) (e_lcp (i_r1 (k := ((n : Int) + 1)) (by (repeat' (first | with_reducible exact l_abs | with_reducible exact l_int | with_reducible exact l_intB | with_reducible exact l_lenT | with_reducible exact l_lenL | with_reducible exact l_lenS | with_reducible exact l_tupL | with_reducible exact l_tupT | with_reducible exact l_max | with_reducible exact l_min | with_reducible exact l_listT | with_reducible exact l_listL | with_reducible exact v_slcT | with_reducible exact l_isTT | with_reducible exact l_isII | with_reducible exact l_isBI | with_reducible exact l_isBB | with_reducible exact l_isSS | with_reducible exact l_isLL | with_reducible exact z_bl | with_reducible exact z_int | with_reducible exact v_slcL | with_reducible exact v_slcS | with_reducible exact e_int | with_reducible exact e_bl | with_reducible exact e_str | with_reducible exact e_non | with_reducible exact a_nil | with_reducible exact o_nil | with_reducible exact g_name | with_reducible exact gs_nil | with_reducible exact b_add | with_reducible exact b_sub | with_reducible exact u_neg | with_reducible exact c_lt | with_reducible exact c_le | with_reducible exact c_gt | with_reducible exact c_ge | with_reducible exact c_eqI | with_reducible exact c_neI | with_reducible exact c_eqS | with_reducible exact c_neS | ((with_reducible apply e_var); exact rfl) | ((with_reducible apply e_glb); exact rfl) | ((with_reducible apply x_tup); exact rfl) | ((with_reducible apply x_lst); exact rfl) | with_reducible apply a_cons | with_reducible apply e_bin | with_reducible apply e_un | with_reducible apply e_idx | with_reducible apply e_call | with_reducible apply e_blt | with_reducible apply e_cmp | with_reducible apply e_slc | with_reducible apply e_frz | with_reducible apply e_one | with_reducible apply e_not | with_reducible apply t_cmp | with_reducible apply t_not | with_reducible apply t_one | with_reducible apply t_ex | with_reducible apply o_cons | with_reducible apply g_tup | with_reducible apply gs_cons | with_reducible apply g_sub | with_reducible apply e_tupS | with_reducible apply e_dspS | ((with_reducible apply LS_mk); exact rfl) | with_reducible refine' t_and ?_ (fun _ => ?_) | with_reducible refine' t_or ?_ (fun _ => ?_) | with_reducible refine' e_and ?_ (fun _ => ?_) | with_reducible refine' e_or ?_ (fun _ => ?_) | ((with_reducible apply b_powL); decide) | ((with_reducible apply b_pow); decide) | ((with_reducible apply b_fdiv); decide) | ((with_reducible apply b_mod); decide) | ((with_reducible apply b_mul); decide) | ((with_reducible apply b_mul); with_reducible assumption) | ((with_reducible apply b_fdiv); with_reducible assumption) | with_reducible apply b_mul | with_reducible apply b_fdiv | with_reducible apply b_mod | with_reducible apply b_shr | with_reducible apply b_cat | with_reducible apply l_str))) ⟨by omega, by omega⟩) (by rw [show ((n : Int) + 1).toNat = n + 1 by omega]; exact lz) (lenQ (decide_eq_true (by simp; omega)))) ?_
    refine w_for (fun j σ st' => st' = st ∧ ∃ (s : List Rat) (a b c d : Option D), σ = [some (.lst (ls.map encL)), some (.lst (ws.map encQ)), some (.int (n : Int)), some (.lst (s.map encQ)), a, b, c, d] ∧ s.length = n + 1 ∧ (∀ q ∈ s, Szq (128 + (N + W + 1) * j) q) ∧ tog (ls.drop j) (ws.drop j) s = togZ ls ws n) (i_zipL (by (repeat' (first | with_reducible exact l_abs | with_reducible exact l_int | with_reducible exact l_intB | with_reducible exact l_lenT | with_reducible exact l_lenL | with_reducible exact l_lenS | with_reducible exact l_tupL | with_reducible exact l_tupT | with_reducible exact l_max | with_reducible exact l_min | with_reducible exact l_listT | with_reducible exact l_listL | with_reducible exact v_slcT | with_reducible exact l_isTT | with_reducible exact l_isII | with_reducible exact l_isBI | with_reducible exact l_isBB | with_reducible exact l_isSS | with_reducible exact l_isLL | with_reducible exact z_bl | with_reducible exact z_int | with_reducible exact v_slcL | with_reducible exact v_slcS | with_reducible exact e_int | with_reducible exact e_bl | with_reducible exact e_str | with_reducible exact e_non | with_reducible exact a_nil | with_reducible exact o_nil | with_reducible exact g_name | with_reducible exact gs_nil | with_reducible exact b_add | with_reducible exact b_sub | with_reducible exact u_neg | with_reducible exact c_lt | with_reducible exact c_le | with_reducible exact c_gt | with_reducible exact c_ge | with_reducible exact c_eqI | with_reducible exact c_neI | with_reducible exact c_eqS | with_reducible exact c_neS | ((with_reducible apply e_var); exact rfl) | ((with_reducible apply e_glb); exact rfl) | ((with_reducible apply x_tup); exact rfl) | ((with_reducible apply x_lst); exact rfl) | with_reducible apply a_cons | with_reducible apply e_bin | with_reducible apply e_un | with_reducible apply e_idx | with_reducible apply e_call | with_reducible apply e_blt | with_reducible apply e_cmp | with_reducible apply e_slc | with_reducible apply e_frz | with_reducible apply e_one | with_reducible apply e_not | with_reducible apply t_cmp | with_reducible apply t_not | with_reducible apply t_one | with_reducible apply t_ex | with_reducible apply o_cons | with_reducible apply g_tup | with_reducible apply gs_cons | with_reducible apply g_sub | with_reducible apply e_tupS | with_reducible apply e_dspS | ((with_reducible apply LS_mk); exact rfl) | with_reducible refine' t_and ?_ (fun _ => ?_) | with_reducible refine' t_or ?_ (fun _ => ?_) | with_reducible refine' e_and ?_ (fun _ => ?_) | with_reducible refine' e_or ?_ (fun _ => ?_) | ((with_reducible apply b_powL); decide) | ((with_reducible apply b_pow); decide) | ((with_reducible apply b_fdiv); decide) | ((with_reducible apply b_mod); decide) | ((with_reducible apply b_mul); decide) | ((with_reducible apply b_mul); with_reducible assumption) | ((with_reducible apply b_fdiv); with_reducible assumption) | with_reducible apply b_mul | with_reducible apply b_fdiv | with_reducible apply b_mod | with_reducible apply b_shr | with_reducible apply b_cat | with_reducible apply l_str))) (by (repeat' (first | with_reducible exact l_abs | with_reducible exact l_int | with_reducible exact l_intB | with_reducible exact l_lenT | with_reducible exact l_lenL | with_reducible exact l_lenS | with_reducible exact l_tupL | with_reducible exact l_tupT | with_reducible exact l_max | with_reducible exact l_min | with_reducible exact l_listT | with_reducible exact l_listL | with_reducible exact v_slcT | with_reducible exact l_isTT | with_reducible exact l_isII | with_reducible exact l_isBI | with_reducible exact l_isBB | with_reducible exact l_isSS | with_reducible exact l_isLL | with_reducible exact z_bl | with_reducible exact z_int | with_reducible exact v_slcL | with_reducible exact v_slcS | with_reducible exact e_int | with_reducible exact e_bl | with_reducible exact e_str | with_reducible exact e_non | with_reducible exact a_nil | with_reducible exact o_nil | with_reducible exact g_name | with_reducible exact gs_nil | with_reducible exact b_add | with_reducible exact b_sub | with_reducible exact u_neg | with_reducible exact c_lt | with_reducible exact c_le | with_reducible exact c_gt | with_reducible exact c_ge | with_reducible exact c_eqI | with_reducible exact c_neI | with_reducible exact c_eqS | with_reducible exact c_neS | ((with_reducible apply e_var); exact rfl) | ((with_reducible apply e_glb); exact rfl) | ((with_reducible apply x_tup); exact rfl) | ((with_reducible apply x_lst); exact rfl) | with_reducible apply a_cons | with_reducible apply e_bin | with_reducible apply e_un | with_reducible apply e_idx | with_reducible apply e_call | with_reducible apply e_blt | with_reducible apply e_cmp | with_reducible apply e_slc | with_reducible apply e_frz | with_reducible apply e_one | with_reducible apply e_not | with_reducible apply t_cmp | with_reducible apply t_not | with_reducible apply t_one | with_reducible apply t_ex | with_reducible apply o_cons | with_reducible apply g_tup | with_reducible apply gs_cons | with_reducible apply g_sub | with_reducible apply e_tupS | with_reducible apply e_dspS | ((with_reducible apply LS_mk); exact rfl) | with_reducible refine' t_and ?_ (fun _ => ?_) | with_reducible refine' t_or ?_ (fun _ => ?_) | with_reducible refine' e_and ?_ (fun _ => ?_) | with_reducible refine' e_or ?_ (fun _ => ?_) | ((with_reducible apply b_powL); decide) | ((with_reducible apply b_pow); decide) | ((with_reducible apply b_fdiv); decide) | ((with_reducible apply b_mod); decide) | ((with_reducible apply b_mul); decide) | ((with_reducible apply b_mul); with_reducible assumption) | ((with_reducible apply b_fdiv); with_reducible assumption) | with_reducible apply b_mul | with_reducible apply b_fdiv | with_reducible apply b_mod | with_reducible apply b_shr | with_reducible apply b_cat | with_reducible apply l_str))))
      ⟨rfl, _, _, _, _, _, rfl, by simp, fun q hq => ?_, rfl⟩ ?_ ?_
    · rw [List.eq_of_mem_replicate hq]
      exact (szq_lit (by decide) (by decide)).mono (by omega)
    · rintro j x σ st' hx ⟨rfl, s, a, b, c, d, rfl, hs, sz, ht'⟩
      obtain ⟨l, w, h1, h2, rfl⟩ := zip_pair hx
      have hj : j < ls.length := by rw [List.getElem?_eq_some_iff] at h1; exact h1.1
      have hM1 : (N + W + 1) * (j + 1) = (N + W + 1) * j + (N + W + 1) := Nat.mul_succ _ _
      have hM2 : (N + W + 1) * (j + 1) ≤ (N + W + 1) * (ls.length + 1) := Nat.mul_le_mul_left _ (by omega)
      have ol := hls l (List.mem_of_getElem? h1)
      have ow := hws w (List.mem_of_getElem? h2)
      rw [drop_at h1, drop_at h2, tog] at ht'
      refine ⟨_, _, by (repeat' (first | with_reducible exact l_abs | with_reducible exact l_int | with_reducible exact l_intB | with_reducible exact l_lenT | with_reducible exact l_lenL | with_reducible exact l_lenS | with_reducible exact l_tupL | with_reducible exact l_tupT | with_reducible exact l_max | with_reducible exact l_min | with_reducible exact l_listT | with_reducible exact l_listL | with_reducible exact v_slcT | with_reducible exact l_isTT | with_reducible exact l_isII | with_reducible exact l_isBI | with_reducible exact l_isBB | with_reducible exact l_isSS | with_reducible exact l_isLL | with_reducible exact z_bl | with_reducible exact z_int | with_reducible exact v_slcL | with_reducible exact v_slcS | with_reducible exact e_int | with_reducible exact e_bl | with_reducible exact e_str | with_reducible exact e_non | with_reducible exact a_nil | with_reducible exact o_nil | with_reducible exact g_name | with_reducible exact gs_nil | with_reducible exact b_add | with_reducible exact b_sub | with_reducible exact u_neg | with_reducible exact c_lt | with_reducible exact c_le | with_reducible exact c_gt | with_reducible exact c_ge | with_reducible exact c_eqI | with_reducible exact c_neI | with_reducible exact c_eqS | with_reducible exact c_neS | ((with_reducible apply e_var); exact rfl) | ((with_reducible apply e_glb); exact rfl) | ((with_reducible apply x_tup); exact rfl) | ((with_reducible apply x_lst); exact rfl) | with_reducible apply a_cons | with_reducible apply e_bin | with_reducible apply e_un | with_reducible apply e_idx | with_reducible apply e_call | with_reducible apply e_blt | with_reducible apply e_cmp | with_reducible apply e_slc | with_reducible apply e_frz | with_reducible apply e_one | with_reducible apply e_not | with_reducible apply t_cmp | with_reducible apply t_not | with_reducible apply t_one | with_reducible apply t_ex | with_reducible apply o_cons | with_reducible apply g_tup | with_reducible apply gs_cons | with_reducible apply g_sub | with_reducible apply e_tupS | with_reducible apply e_dspS | ((with_reducible apply LS_mk); exact rfl) | with_reducible refine' t_and ?_ (fun _ => ?_) | with_reducible refine' t_or ?_ (fun _ => ?_) | with_reducible refine' e_and ?_ (fun _ => ?_) | with_reducible refine' e_or ?_ (fun _ => ?_) | ((with_reducible apply b_powL); decide) | ((with_reducible apply b_pow); decide) | ((with_reducible apply b_fdiv); decide) | ((with_reducible apply b_mod); decide) | ((with_reducible apply b_mul); decide) | ((with_reducible apply b_mul); with_reducible assumption) | ((with_reducible apply b_fdiv); with_reducible assumption) | with_reducible apply b_mul | with_reducible apply b_fdiv | with_reducible apply b_mod | with_reducible apply b_shr | with_reducible apply b_cat | with_reducible apply l_str)), ?_⟩
      have hr : (row l).length = n + 1 := by simp [row, ol.len]
      have er : (l.ps.map encQ) ++ [encQ l.b] = (row l).map encQ := by unfold row; rw [List.map_append]; rfl
      refine' w_asg (d := .lst ((row l).map encQ)) (by ((repeat' (first | ((with_reducible apply b_catL); exact lenQ (decide_eq_true (by rw [List.length_map, ol.len]; simp; omega))) | with_reducible exact l_abs | with_reducible exact l_int | with_reducible exact l_intB | with_reducible exact l_lenT | with_reducible exact l_lenL | with_reducible exact l_lenS | with_reducible exact l_tupL | with_reducible exact l_tupT | with_reducible exact l_max | with_reducible exact l_min | with_reducible exact l_listT | with_reducible exact l_listL | with_reducible exact v_slcT | with_reducible exact l_isTT | with_reducible exact l_isII | with_reducible exact l_isBI | with_reducible exact l_isBB | with_reducible exact l_isSS | with_reducible exact l_isLL | with_reducible exact z_bl | with_reducible exact z_int | with_reducible exact v_slcL | with_reducible exact v_slcS | with_reducible exact e_int | with_reducible exact e_bl | with_reducible exact e_str | with_reducible exact e_non | with_reducible exact a_nil | with_reducible exact o_nil | with_reducible exact g_name | with_reducible exact gs_nil | with_reducible exact b_add | with_reducible exact b_sub | with_reducible exact u_neg | with_reducible exact c_lt | with_reducible exact c_le | with_reducible exact c_gt | with_reducible exact c_ge | with_reducible exact c_eqI | with_reducible exact c_neI | with_reducible exact c_eqS | with_reducible exact c_neS | ((with_reducible apply e_var); exact rfl) | ((with_reducible apply e_glb); exact rfl) | ((with_reducible apply x_tup); exact rfl) | ((with_reducible apply x_lst); exact rfl) | with_reducible apply a_cons | with_reducible apply e_bin | with_reducible apply e_un | with_reducible apply e_idx | with_reducible apply e_call | with_reducible apply e_blt | with_reducible apply e_cmp | with_reducible apply e_slc | with_reducible apply e_frz | with_reducible apply e_one | with_reducible apply e_not | with_reducible apply t_cmp | with_reducible apply t_not | with_reducible apply t_one | with_reducible apply t_ex | with_reducible apply o_cons | with_reducible apply g_tup | with_reducible apply gs_cons | with_reducible apply g_sub | with_reducible apply e_tupS | with_reducible apply e_dspS | ((with_reducible apply LS_mk); exact rfl) | with_reducible refine' t_and ?_ (fun _ => ?_) | with_reducible refine' t_or ?_ (fun _ => ?_) | with_reducible refine' e_and ?_ (fun _ => ?_) | with_reducible refine' e_or ?_ (fun _ => ?_) | ((with_reducible apply b_powL); decide) | ((with_reducible apply b_pow); decide) | ((with_reducible apply b_fdiv); decide) | ((with_reducible apply b_mod); decide) | ((with_reducible apply b_mul); decide) | ((with_reducible apply b_mul); with_reducible assumption) | ((with_reducible apply b_fdiv); with_reducible assumption) | with_reducible apply b_mul | with_reducible apply b_fdiv | with_reducible apply b_mod | with_reducible apply b_shr | with_reducible apply b_cat | with_reducible apply l_str))); rw [← er]; exact b_catL (lenQ (decide_eq_true (by rw [List.length_map, ol.len]; simp; omega)))) ?_
      have li := lc_idx (gs := gs) st' (cs := run gs fs (k + 3)) (a := 7) (s := s) (r := row l) (n := n + 1) (el := .call u (.cons (.idx (.var 3) (.var 7)) (.cons (.call v (.cons (.var 5) (.cons (.idx (.var 6) (.var 7)) .nil))) .nil)))
        (σ := wipeD [some (.lst (ls.map encL)), some (.lst (ws.map encQ)), some (.int (n : Int)), some (.lst (s.map encQ)), some (encL l), some (encQ w), some (.lst ((row l).map encQ)), d] [7]) w hs hr (fun j hj => by
        have a1 := at_nat (l := s) (j := j) (by omega)
        have a2 := at_nat (l := row l) (j := j) (by omega)
        have m1 : s.getD j 0 ∈ s := by rw [List.getD_eq_getElem?_getD, List.getElem?_eq_getElem (by omega : j < s.length)]; exact List.getElem_mem _
        have m2 : (row l).getD j 0 ∈ row l := by rw [List.getD_eq_getElem?_getD, List.getElem?_eq_getElem (by omega : j < (row l).length)]; exact List.getElem_mem _
        have q1 := sq_timesR (gs := gs) (k + 1) st' hv hm ow (row_sz ol _ m2) (by omega)
        have q2 := sq_plusR (gs := gs) (k + 1) st' hu hm (sz _ m1) (ow.mul (row_sz ol _ m2)) (by omega)
        (repeat' (first | with_reducible apply q1 | with_reducible apply q2 | ((with_reducible apply x_lst); with_reducible exact a1) | ((with_reducible apply x_lst); with_reducible exact a2) | with_reducible exact l_abs | with_reducible exact l_int | with_reducible exact l_intB | with_reducible exact l_lenT | with_reducible exact l_lenL | with_reducible exact l_lenS | with_reducible exact l_tupL | with_reducible exact l_tupT | with_reducible exact l_max | with_reducible exact l_min | with_reducible exact l_listT | with_reducible exact l_listL | with_reducible exact v_slcT | with_reducible exact l_isTT | with_reducible exact l_isII | with_reducible exact l_isBI | with_reducible exact l_isBB | with_reducible exact l_isSS | with_reducible exact l_isLL | with_reducible exact z_bl | with_reducible exact z_int | with_reducible exact v_slcL | with_reducible exact v_slcS | with_reducible exact e_int | with_reducible exact e_bl | with_reducible exact e_str | with_reducible exact e_non | with_reducible exact a_nil | with_reducible exact o_nil | with_reducible exact g_name | with_reducible exact gs_nil | with_reducible exact b_add | with_reducible exact b_sub | with_reducible exact u_neg | with_reducible exact c_lt | with_reducible exact c_le | with_reducible exact c_gt | with_reducible exact c_ge | with_reducible exact c_eqI | with_reducible exact c_neI | with_reducible exact c_eqS | with_reducible exact c_neS | ((with_reducible apply e_var); exact rfl) | ((with_reducible apply e_glb); exact rfl) | ((with_reducible apply x_tup); exact rfl) | ((with_reducible apply x_lst); exact rfl) | with_reducible apply a_cons | with_reducible apply e_bin | with_reducible apply e_un | with_reducible apply e_idx | with_reducible apply e_call | with_reducible apply e_blt | with_reducible apply e_cmp | with_reducible apply e_slc | with_reducible apply e_frz | with_reducible apply e_one | with_reducible apply e_not | with_reducible apply t_cmp | with_reducible apply t_not | with_reducible apply t_one | with_reducible apply t_ex | with_reducible apply o_cons | with_reducible apply g_tup | with_reducible apply gs_cons | with_reducible apply g_sub | with_reducible apply e_tupS | with_reducible apply e_dspS | ((with_reducible apply LS_mk); exact rfl) | with_reducible refine' t_and ?_ (fun _ => ?_) | with_reducible refine' t_or ?_ (fun _ => ?_) | with_reducible refine' e_and ?_ (fun _ => ?_) | with_reducible refine' e_or ?_ (fun _ => ?_) | ((with_reducible apply b_powL); decide) | ((with_reducible apply b_pow); decide) | ((with_reducible apply b_fdiv); decide) | ((with_reducible apply b_mod); decide) | ((with_reducible apply b_mul); decide) | ((with_reducible apply b_mul); with_reducible assumption) | ((with_reducible apply b_fdiv); with_reducible assumption) | with_reducible apply b_mul | with_reducible apply b_fdiv | with_reducible apply b_mod | with_reducible apply b_shr | with_reducible apply b_cat | with_reducible apply l_str)))
      refine' w_asg (d := .lst ((stepT s l w).map encQ)) (e_lcp (i_r1 (k := ((n : Int) + 1)) (by (repeat' (first | with_reducible exact l_abs | with_reducible exact l_int | with_reducible exact l_intB | with_reducible exact l_lenT | with_reducible exact l_lenL | with_reducible exact l_lenS | with_reducible exact l_tupL | with_reducible exact l_tupT | with_reducible exact l_max | with_reducible exact l_min | with_reducible exact l_listT | with_reducible exact l_listL | with_reducible exact v_slcT | with_reducible exact l_isTT | with_reducible exact l_isII | with_reducible exact l_isBI | with_reducible exact l_isBB | with_reducible exact l_isSS | with_reducible exact l_isLL | with_reducible exact z_bl | with_reducible exact z_int | with_reducible exact v_slcL | with_reducible exact v_slcS | with_reducible exact e_int | with_reducible exact e_bl | with_reducible exact e_str | with_reducible exact e_non | with_reducible exact a_nil | with_reducible exact o_nil | with_reducible exact g_name | with_reducible exact gs_nil | with_reducible exact b_add | with_reducible exact b_sub | with_reducible exact u_neg | with_reducible exact c_lt | with_reducible exact c_le | with_reducible exact c_gt | with_reducible exact c_ge | with_reducible exact c_eqI | with_reducible exact c_neI | with_reducible exact c_eqS | with_reducible exact c_neS | ((with_reducible apply e_var); exact rfl) | ((with_reducible apply e_glb); exact rfl) | ((with_reducible apply x_tup); exact rfl) | ((with_reducible apply x_lst); exact rfl) | with_reducible apply a_cons | with_reducible apply e_bin | with_reducible apply e_un | with_reducible apply e_idx | with_reducible apply e_call | with_reducible apply e_blt | with_reducible apply e_cmp | with_reducible apply e_slc | with_reducible apply e_frz | with_reducible apply e_one | with_reducible apply e_not | with_reducible apply t_cmp | with_reducible apply t_not | with_reducible apply t_one | with_reducible apply t_ex | with_reducible apply o_cons | with_reducible apply g_tup | with_reducible apply gs_cons | with_reducible apply g_sub | with_reducible apply e_tupS | with_reducible apply e_dspS | ((with_reducible apply LS_mk); exact rfl) | with_reducible refine' t_and ?_ (fun _ => ?_) | with_reducible refine' t_or ?_ (fun _ => ?_) | with_reducible refine' e_and ?_ (fun _ => ?_) | with_reducible refine' e_or ?_ (fun _ => ?_) | ((with_reducible apply b_powL); decide) | ((with_reducible apply b_pow); decide) | ((with_reducible apply b_fdiv); decide) | ((with_reducible apply b_mod); decide) | ((with_reducible apply b_mul); decide) | ((with_reducible apply b_mul); with_reducible assumption) | ((with_reducible apply b_fdiv); with_reducible assumption) | with_reducible apply b_mul | with_reducible apply b_fdiv | with_reducible apply b_mod | with_reducible apply b_shr | with_reducible apply b_cat | with_reducible apply l_str))) ⟨by omega, by omega⟩) (by rw [show ((n : Int) + 1).toNat = n + 1 by omega]; exact li) (lenQ (decide_eq_true (by rw [List.length_map, len_step hs ol.len]; omega)))) ?_
      exact w_nil ⟨rfl, stepT s l w, _, _, _, _, rfl, len_step hs ol.len, fun q hq => (sz_step sz (row_sz ol) ow q hq).mono (by omega), ht'⟩
    · rintro σ st' ⟨rfl, s, a, b, c, d, rfl, hs, sz, ht'⟩
      rw [zip_len' hl] at sz ht'
      have nil1 : tog (ls.drop ls.length) (ws.drop ls.length) s = s := by rw [List.drop_eq_nil_of_le (Nat.le_refl _)]; rfl
      rw [nil1] at ht'
      have c1 : cutD (s.map encQ) none (some (n : Int)) = s.dropLast.map encQ := by
        unfold cutD
        rw [List.length_map, hs, HT.sIx_none, HT.sIx_nat, List.drop_zero, Nat.sub_zero, List.dropLast_eq_take, hs, List.map_take]
        congr 1
        omega
      have a1 : atI (s.map encQ) (n : Int) = some (encQ (s.getLast?.getD 0)) := by
        rw [at_nat (by omega)]
        have e := nonempty_last hs
        have hd : s.dropLast.length = n := by rw [List.length_dropLast, hs]; rfl
        have : s.getD n 0 = s.getLast?.getD 0 := by
          conv => lhs; rw [e]
          rw [List.getD_eq_getElem?_getD, List.getElem?_append_right (by omega), hd]
          simp
        rw [this]
      rw [← ht']
      have ht : gBlt .tuple false [.lst (cutD (s.map encQ) none (some (n : Int)))] st' = some (.tup (s.dropLast.map encQ), st') := by rw [c1]; exact l_tupL
      refine' w_ret (by (repeat' (first | with_reducible apply ht | ((with_reducible apply x_lst); with_reducible exact a1) | with_reducible exact l_abs | with_reducible exact l_int | with_reducible exact l_intB | with_reducible exact l_lenT | with_reducible exact l_lenL | with_reducible exact l_lenS | with_reducible exact l_tupL | with_reducible exact l_tupT | with_reducible exact l_max | with_reducible exact l_min | with_reducible exact l_listT | with_reducible exact l_listL | with_reducible exact v_slcT | with_reducible exact l_isTT | with_reducible exact l_isII | with_reducible exact l_isBI | with_reducible exact l_isBB | with_reducible exact l_isSS | with_reducible exact l_isLL | with_reducible exact z_bl | with_reducible exact z_int | with_reducible exact v_slcL | with_reducible exact v_slcS | with_reducible exact e_int | with_reducible exact e_bl | with_reducible exact e_str | with_reducible exact e_non | with_reducible exact a_nil | with_reducible exact o_nil | with_reducible exact g_name | with_reducible exact gs_nil | with_reducible exact b_add | with_reducible exact b_sub | with_reducible exact u_neg | with_reducible exact c_lt | with_reducible exact c_le | with_reducible exact c_gt | with_reducible exact c_ge | with_reducible exact c_eqI | with_reducible exact c_neI | with_reducible exact c_eqS | with_reducible exact c_neS | ((with_reducible apply e_var); exact rfl) | ((with_reducible apply e_glb); exact rfl) | ((with_reducible apply x_tup); exact rfl) | ((with_reducible apply x_lst); exact rfl) | with_reducible apply a_cons | with_reducible apply e_bin | with_reducible apply e_un | with_reducible apply e_idx | with_reducible apply e_call | with_reducible apply e_blt | with_reducible apply e_cmp | with_reducible apply e_slc | with_reducible apply e_frz | with_reducible apply e_one | with_reducible apply e_not | with_reducible apply t_cmp | with_reducible apply t_not | with_reducible apply t_one | with_reducible apply t_ex | with_reducible apply o_cons | with_reducible apply g_tup | with_reducible apply gs_cons | with_reducible apply g_sub | with_reducible apply e_tupS | with_reducible apply e_dspS | ((with_reducible apply LS_mk); exact rfl) | with_reducible refine' t_and ?_ (fun _ => ?_) | with_reducible refine' t_or ?_ (fun _ => ?_) | with_reducible refine' e_and ?_ (fun _ => ?_) | with_reducible refine' e_or ?_ (fun _ => ?_) | ((with_reducible apply b_powL); decide) | ((with_reducible apply b_pow); decide) | ((with_reducible apply b_fdiv); decide) | ((with_reducible apply b_mod); decide) | ((with_reducible apply b_mul); decide) | ((with_reducible apply b_mul); with_reducible assumption) | ((with_reducible apply b_fdiv); with_reducible assumption) | with_reducible apply b_mul | with_reducible apply b_fdiv | with_reducible apply b_mod | with_reducible apply b_shr | with_reducible apply b_cat | with_reducible apply l_str))) ?_
      exact ⟨rfl, rfl, hs, sz⟩
  obtain ⟨x, e, rfl, q⟩ := w
  exact ⟨e, q⟩
theorem nought_iff {l : List Rat} {n : Nat} (h : l.length = n) : decide (l = List.replicate n 0) = decide (l.filter (fun x => !decide (x = 0)) = []) := by
  subst h
  rw [decide_eq_decide, List.filter_eq_nil_iff]
  constructor
  · intro e x hx
    rw [e] at hx
    rw [List.eq_of_mem_replicate hx]
    simp
  · intro e
    rw [List.eq_replicate_iff]
    refine ⟨rfl, fun b hb => ?_⟩
    have := e b hb
    simpa using this
theorem sp_rightP (k : Nat) (hi : fs[i]? = some (T_law_rightP u t)) {m v w : Nat} (hu : fs[u]? = some (T_law_together v w)) (hv : fs[v]? = some (T_law_plus m)) (hw : fs[w]? = some (T_law_times m)) (hm : fs[m]? = some T_law_makeR) (ht : fs[t]? = some T_below)
    {kd : Str} {ps : List Rat} {b : Rat} {ls : List Ln} {ws : List Rat} {N W : Nat} (hN : 128 + (N + W + 1) * (ls.length + 1) ≤ 8000) (hps : ps.length ≤ 1000) (hb : Szq 8000 b) (hl : ws.length = ls.length) (hls : ∀ l ∈ ls, LnOk N ps.length l) (hws : ∀ w ∈ ws, Szq W w) :
    run gs fs (k + 5) i [.str kd, .tup (ps.map encQ), encQ b, .lst (ls.map encL), .lst (ws.map encQ)] st = some (.bl (showB kd ps b ls ws), st) := by
  have q : ∃ x, run gs fs (k + 5) i [.str kd, .tup (ps.map encQ), encQ b, .lst (ls.map encL), .lst (ws.map encQ)] st = some (x, st) ∧ x = .bl (showB kd ps b ls ws) := by
    refine run_wp (T_law_rightP u t) hi rfl _ ?_
    refine' w_asg (by (repeat' (first | with_reducible exact l_abs | with_reducible exact l_int | with_reducible exact l_intB | with_reducible exact l_lenT | with_reducible exact l_lenL | with_reducible exact l_lenS | with_reducible exact l_tupL | with_reducible exact l_tupT | with_reducible exact l_max | with_reducible exact l_min | with_reducible exact l_listT | with_reducible exact l_listL | with_reducible exact v_slcT | with_reducible exact l_isTT | with_reducible exact l_isII | with_reducible exact l_isBI | with_reducible exact l_isBB | with_reducible exact l_isSS | with_reducible exact l_isLL | with_reducible exact z_bl | with_reducible exact z_int | with_reducible exact v_slcL | with_reducible exact v_slcS | with_reducible exact e_int | with_reducible exact e_bl | with_reducible exact e_str | with_reducible exact e_non | with_reducible exact a_nil | with_reducible exact o_nil | with_reducible exact g_name | with_reducible exact gs_nil | with_reducible exact b_add | with_reducible exact b_sub | with_reducible exact u_neg | with_reducible exact c_lt | with_reducible exact c_le | with_reducible exact c_gt | with_reducible exact c_ge | with_reducible exact c_eqI | with_reducible exact c_neI | with_reducible exact c_eqS | with_reducible exact c_neS | ((with_reducible apply e_var); exact rfl) | ((with_reducible apply e_glb); exact rfl) | ((with_reducible apply x_tup); exact rfl) | ((with_reducible apply x_lst); exact rfl) | with_reducible apply a_cons | with_reducible apply e_bin | with_reducible apply e_un | with_reducible apply e_idx | with_reducible apply e_call | with_reducible apply e_blt | with_reducible apply e_cmp | with_reducible apply e_slc | with_reducible apply e_frz | with_reducible apply e_one | with_reducible apply e_not | with_reducible apply t_cmp | with_reducible apply t_not | with_reducible apply t_one | with_reducible apply t_ex | with_reducible apply o_cons | with_reducible apply g_tup | with_reducible apply gs_cons | with_reducible apply g_sub | with_reducible apply e_tupS | with_reducible apply e_dspS | ((with_reducible apply LS_mk); exact rfl) | with_reducible refine' t_and ?_ (fun _ => ?_) | with_reducible refine' t_or ?_ (fun _ => ?_) | with_reducible refine' e_and ?_ (fun _ => ?_) | with_reducible refine' e_or ?_ (fun _ => ?_) | ((with_reducible apply b_powL); decide) | ((with_reducible apply b_pow); decide) | ((with_reducible apply b_fdiv); decide) | ((with_reducible apply b_mod); decide) | ((with_reducible apply b_mul); decide) | ((with_reducible apply b_mul); with_reducible assumption) | ((with_reducible apply b_fdiv); with_reducible assumption) | with_reducible apply b_mul | with_reducible apply b_fdiv | with_reducible apply b_mod | with_reducible apply b_shr | with_reducible apply b_cat | with_reducible apply l_str))) ?_
    refine w_for (fun j σ st' => st' = st ∧ ∃ (sb : Bool) (c d : Option D), σ = [some (.str kd), some (.tup (ps.map encQ)), some (encQ b), some (.lst (ls.map encL)), some (.lst (ws.map encQ)), some (.bl sb), none, none, c, d, none, none, none] ∧ wOk (ls.drop j) (ws.drop j) = wOk ls ws ∧ (sb || strictB (ls.drop j) (ws.drop j)) = strictB ls ws) (i_zipL (by (repeat' (first | with_reducible exact l_abs | with_reducible exact l_int | with_reducible exact l_intB | with_reducible exact l_lenT | with_reducible exact l_lenL | with_reducible exact l_lenS | with_reducible exact l_tupL | with_reducible exact l_tupT | with_reducible exact l_max | with_reducible exact l_min | with_reducible exact l_listT | with_reducible exact l_listL | with_reducible exact v_slcT | with_reducible exact l_isTT | with_reducible exact l_isII | with_reducible exact l_isBI | with_reducible exact l_isBB | with_reducible exact l_isSS | with_reducible exact l_isLL | with_reducible exact z_bl | with_reducible exact z_int | with_reducible exact v_slcL | with_reducible exact v_slcS | with_reducible exact e_int | with_reducible exact e_bl | with_reducible exact e_str | with_reducible exact e_non | with_reducible exact a_nil | with_reducible exact o_nil | with_reducible exact g_name | with_reducible exact gs_nil | with_reducible exact b_add | with_reducible exact b_sub | with_reducible exact u_neg | with_reducible exact c_lt | with_reducible exact c_le | with_reducible exact c_gt | with_reducible exact c_ge | with_reducible exact c_eqI | with_reducible exact c_neI | with_reducible exact c_eqS | with_reducible exact c_neS | ((with_reducible apply e_var); exact rfl) | ((with_reducible apply e_glb); exact rfl) | ((with_reducible apply x_tup); exact rfl) | ((with_reducible apply x_lst); exact rfl) | with_reducible apply a_cons | with_reducible apply e_bin | with_reducible apply e_un | with_reducible apply e_idx | with_reducible apply e_call | with_reducible apply e_blt | with_reducible apply e_cmp | with_reducible apply e_slc | with_reducible apply e_frz | with_reducible apply e_one | with_reducible apply e_not | with_reducible apply t_cmp | with_reducible apply t_not | with_reducible apply t_one | with_reducible apply t_ex | with_reducible apply o_cons | with_reducible apply g_tup | with_reducible apply gs_cons | with_reducible apply g_sub | with_reducible apply e_tupS | with_reducible apply e_dspS | ((with_reducible apply LS_mk); exact rfl) | with_reducible refine' t_and ?_ (fun _ => ?_) | with_reducible refine' t_or ?_ (fun _ => ?_) | with_reducible refine' e_and ?_ (fun _ => ?_) | with_reducible refine' e_or ?_ (fun _ => ?_) | ((with_reducible apply b_powL); decide) | ((with_reducible apply b_pow); decide) | ((with_reducible apply b_fdiv); decide) | ((with_reducible apply b_mod); decide) | ((with_reducible apply b_mul); decide) | ((with_reducible apply b_mul); with_reducible assumption) | ((with_reducible apply b_fdiv); with_reducible assumption) | with_reducible apply b_mul | with_reducible apply b_fdiv | with_reducible apply b_mod | with_reducible apply b_shr | with_reducible apply b_cat | with_reducible apply l_str))) (by (repeat' (first | with_reducible exact l_abs | with_reducible exact l_int | with_reducible exact l_intB | with_reducible exact l_lenT | with_reducible exact l_lenL | with_reducible exact l_lenS | with_reducible exact l_tupL | with_reducible exact l_tupT | with_reducible exact l_max | with_reducible exact l_min | with_reducible exact l_listT | with_reducible exact l_listL | with_reducible exact v_slcT | with_reducible exact l_isTT | with_reducible exact l_isII | with_reducible exact l_isBI | with_reducible exact l_isBB | with_reducible exact l_isSS | with_reducible exact l_isLL | with_reducible exact z_bl | with_reducible exact z_int | with_reducible exact v_slcL | with_reducible exact v_slcS | with_reducible exact e_int | with_reducible exact e_bl | with_reducible exact e_str | with_reducible exact e_non | with_reducible exact a_nil | with_reducible exact o_nil | with_reducible exact g_name | with_reducible exact gs_nil | with_reducible exact b_add | with_reducible exact b_sub | with_reducible exact u_neg | with_reducible exact c_lt | with_reducible exact c_le | with_reducible exact c_gt | with_reducible exact c_ge | with_reducible exact c_eqI | with_reducible exact c_neI | with_reducible exact c_eqS | with_reducible exact c_neS | ((with_reducible apply e_var); exact rfl) | ((with_reducible apply e_glb); exact rfl) | ((with_reducible apply x_tup); exact rfl) | ((with_reducible apply x_lst); exact rfl) | with_reducible apply a_cons | with_reducible apply e_bin | with_reducible apply e_un | with_reducible apply e_idx | with_reducible apply e_call | with_reducible apply e_blt | with_reducible apply e_cmp | with_reducible apply e_slc | with_reducible apply e_frz | with_reducible apply e_one | with_reducible apply e_not | with_reducible apply t_cmp | with_reducible apply t_not | with_reducible apply t_one | with_reducible apply t_ex | with_reducible apply o_cons | with_reducible apply g_tup | with_reducible apply gs_cons | with_reducible apply g_sub | with_reducible apply e_tupS | with_reducible apply e_dspS | ((with_reducible apply LS_mk); exact rfl) | with_reducible refine' t_and ?_ (fun _ => ?_) | with_reducible refine' t_or ?_ (fun _ => ?_) | with_reducible refine' e_and ?_ (fun _ => ?_) | with_reducible refine' e_or ?_ (fun _ => ?_) | ((with_reducible apply b_powL); decide) | ((with_reducible apply b_pow); decide) | ((with_reducible apply b_fdiv); decide) | ((with_reducible apply b_mod); decide) | ((with_reducible apply b_mul); decide) | ((with_reducible apply b_mul); with_reducible assumption) | ((with_reducible apply b_fdiv); with_reducible assumption) | with_reducible apply b_mul | with_reducible apply b_fdiv | with_reducible apply b_mod | with_reducible apply b_shr | with_reducible apply b_cat | with_reducible apply l_str))))
      ⟨rfl, _, _, _, rfl, rfl, rfl⟩ ?_ ?_
    · rintro j x σ st' hx ⟨rfl, sb, c, d, rfl, hok, hst⟩
      obtain ⟨l, w, h1, h2, rfl⟩ := zip_pair hx
      rw [drop_at h1, drop_at h2, wOk] at hok
      rw [drop_at h1, drop_at h2, strictB] at hst
      refine ⟨_, _, by (repeat' (first | with_reducible exact l_abs | with_reducible exact l_int | with_reducible exact l_intB | with_reducible exact l_lenT | with_reducible exact l_lenL | with_reducible exact l_lenS | with_reducible exact l_tupL | with_reducible exact l_tupT | with_reducible exact l_max | with_reducible exact l_min | with_reducible exact l_listT | with_reducible exact l_listL | with_reducible exact v_slcT | with_reducible exact l_isTT | with_reducible exact l_isII | with_reducible exact l_isBI | with_reducible exact l_isBB | with_reducible exact l_isSS | with_reducible exact l_isLL | with_reducible exact z_bl | with_reducible exact z_int | with_reducible exact v_slcL | with_reducible exact v_slcS | with_reducible exact e_int | with_reducible exact e_bl | with_reducible exact e_str | with_reducible exact e_non | with_reducible exact a_nil | with_reducible exact o_nil | with_reducible exact g_name | with_reducible exact gs_nil | with_reducible exact b_add | with_reducible exact b_sub | with_reducible exact u_neg | with_reducible exact c_lt | with_reducible exact c_le | with_reducible exact c_gt | with_reducible exact c_ge | with_reducible exact c_eqI | with_reducible exact c_neI | with_reducible exact c_eqS | with_reducible exact c_neS | ((with_reducible apply e_var); exact rfl) | ((with_reducible apply e_glb); exact rfl) | ((with_reducible apply x_tup); exact rfl) | ((with_reducible apply x_lst); exact rfl) | with_reducible apply a_cons | with_reducible apply e_bin | with_reducible apply e_un | with_reducible apply e_idx | with_reducible apply e_call | with_reducible apply e_blt | with_reducible apply e_cmp | with_reducible apply e_slc | with_reducible apply e_frz | with_reducible apply e_one | with_reducible apply e_not | with_reducible apply t_cmp | with_reducible apply t_not | with_reducible apply t_one | with_reducible apply t_ex | with_reducible apply o_cons | with_reducible apply g_tup | with_reducible apply gs_cons | with_reducible apply g_sub | with_reducible apply e_tupS | with_reducible apply e_dspS | ((with_reducible apply LS_mk); exact rfl) | with_reducible refine' t_and ?_ (fun _ => ?_) | with_reducible refine' t_or ?_ (fun _ => ?_) | with_reducible refine' e_and ?_ (fun _ => ?_) | with_reducible refine' e_or ?_ (fun _ => ?_) | ((with_reducible apply b_powL); decide) | ((with_reducible apply b_pow); decide) | ((with_reducible apply b_fdiv); decide) | ((with_reducible apply b_mod); decide) | ((with_reducible apply b_mul); decide) | ((with_reducible apply b_mul); with_reducible assumption) | ((with_reducible apply b_fdiv); with_reducible assumption) | with_reducible apply b_mul | with_reducible apply b_fdiv | with_reducible apply b_mod | with_reducible apply b_shr | with_reducible apply b_cat | with_reducible apply l_str)), ?_⟩
      refine' w_if (by (repeat' (first | with_reducible exact l_abs | with_reducible exact l_int | with_reducible exact l_intB | with_reducible exact l_lenT | with_reducible exact l_lenL | with_reducible exact l_lenS | with_reducible exact l_tupL | with_reducible exact l_tupT | with_reducible exact l_max | with_reducible exact l_min | with_reducible exact l_listT | with_reducible exact l_listL | with_reducible exact v_slcT | with_reducible exact l_isTT | with_reducible exact l_isII | with_reducible exact l_isBI | with_reducible exact l_isBB | with_reducible exact l_isSS | with_reducible exact l_isLL | with_reducible exact z_bl | with_reducible exact z_int | with_reducible exact v_slcL | with_reducible exact v_slcS | with_reducible exact e_int | with_reducible exact e_bl | with_reducible exact e_str | with_reducible exact e_non | with_reducible exact a_nil | with_reducible exact o_nil | with_reducible exact g_name | with_reducible exact gs_nil | with_reducible exact b_add | with_reducible exact b_sub | with_reducible exact u_neg | with_reducible exact c_lt | with_reducible exact c_le | with_reducible exact c_gt | with_reducible exact c_ge | with_reducible exact c_eqI | with_reducible exact c_neI | with_reducible exact c_eqS | with_reducible exact c_neS | ((with_reducible apply e_var); exact rfl) | ((with_reducible apply e_glb); exact rfl) | ((with_reducible apply x_tup); exact rfl) | ((with_reducible apply x_lst); exact rfl) | with_reducible apply a_cons | with_reducible apply e_bin | with_reducible apply e_un | with_reducible apply e_idx | with_reducible apply e_call | with_reducible apply e_blt | with_reducible apply e_cmp | with_reducible apply e_slc | with_reducible apply e_frz | with_reducible apply e_one | with_reducible apply e_not | with_reducible apply t_cmp | with_reducible apply t_not | with_reducible apply t_one | with_reducible apply t_ex | with_reducible apply o_cons | with_reducible apply g_tup | with_reducible apply gs_cons | with_reducible apply g_sub | with_reducible apply e_tupS | with_reducible apply e_dspS | ((with_reducible apply LS_mk); exact rfl) | with_reducible refine' t_and ?_ (fun _ => ?_) | with_reducible refine' t_or ?_ (fun _ => ?_) | with_reducible refine' e_and ?_ (fun _ => ?_) | with_reducible refine' e_or ?_ (fun _ => ?_) | ((with_reducible apply b_powL); decide) | ((with_reducible apply b_pow); decide) | ((with_reducible apply b_fdiv); decide) | ((with_reducible apply b_mod); decide) | ((with_reducible apply b_mul); decide) | ((with_reducible apply b_mul); with_reducible assumption) | ((with_reducible apply b_fdiv); with_reducible assumption) | with_reducible apply b_mul | with_reducible apply b_fdiv | with_reducible apply b_mod | with_reducible apply b_shr | with_reducible apply b_cat | with_reducible apply l_str))) rfl rfl (fun h => ?_) (fun h => ?_)
      · refine' w_ret (by (repeat' (first | with_reducible exact l_abs | with_reducible exact l_int | with_reducible exact l_intB | with_reducible exact l_lenT | with_reducible exact l_lenL | with_reducible exact l_lenS | with_reducible exact l_tupL | with_reducible exact l_tupT | with_reducible exact l_max | with_reducible exact l_min | with_reducible exact l_listT | with_reducible exact l_listL | with_reducible exact v_slcT | with_reducible exact l_isTT | with_reducible exact l_isII | with_reducible exact l_isBI | with_reducible exact l_isBB | with_reducible exact l_isSS | with_reducible exact l_isLL | with_reducible exact z_bl | with_reducible exact z_int | with_reducible exact v_slcL | with_reducible exact v_slcS | with_reducible exact e_int | with_reducible exact e_bl | with_reducible exact e_str | with_reducible exact e_non | with_reducible exact a_nil | with_reducible exact o_nil | with_reducible exact g_name | with_reducible exact gs_nil | with_reducible exact b_add | with_reducible exact b_sub | with_reducible exact u_neg | with_reducible exact c_lt | with_reducible exact c_le | with_reducible exact c_gt | with_reducible exact c_ge | with_reducible exact c_eqI | with_reducible exact c_neI | with_reducible exact c_eqS | with_reducible exact c_neS | ((with_reducible apply e_var); exact rfl) | ((with_reducible apply e_glb); exact rfl) | ((with_reducible apply x_tup); exact rfl) | ((with_reducible apply x_lst); exact rfl) | with_reducible apply a_cons | with_reducible apply e_bin | with_reducible apply e_un | with_reducible apply e_idx | with_reducible apply e_call | with_reducible apply e_blt | with_reducible apply e_cmp | with_reducible apply e_slc | with_reducible apply e_frz | with_reducible apply e_one | with_reducible apply e_not | with_reducible apply t_cmp | with_reducible apply t_not | with_reducible apply t_one | with_reducible apply t_ex | with_reducible apply o_cons | with_reducible apply g_tup | with_reducible apply gs_cons | with_reducible apply g_sub | with_reducible apply e_tupS | with_reducible apply e_dspS | ((with_reducible apply LS_mk); exact rfl) | with_reducible refine' t_and ?_ (fun _ => ?_) | with_reducible refine' t_or ?_ (fun _ => ?_) | with_reducible refine' e_and ?_ (fun _ => ?_) | with_reducible refine' e_or ?_ (fun _ => ?_) | ((with_reducible apply b_powL); decide) | ((with_reducible apply b_pow); decide) | ((with_reducible apply b_fdiv); decide) | ((with_reducible apply b_mod); decide) | ((with_reducible apply b_mul); decide) | ((with_reducible apply b_mul); with_reducible assumption) | ((with_reducible apply b_fdiv); with_reducible assumption) | with_reducible apply b_mul | with_reducible apply b_fdiv | with_reducible apply b_mod | with_reducible apply b_shr | with_reducible apply b_cat | with_reducible apply l_str))) ?_
        refine ⟨rfl, ?_⟩
        simp only [Bool.and_eq_true, Bool.not_eq_true', decide_eq_true_eq] at h
        have e : wOk ls ws = false := by
          rw [← hok, h.1, decide_eq_true (num_neg_iff.mp h.2)]
          rfl
        simp only [showB, e, Bool.false_and]
      · refine' w_asg (by (repeat' (first | with_reducible exact l_abs | with_reducible exact l_int | with_reducible exact l_intB | with_reducible exact l_lenT | with_reducible exact l_lenL | with_reducible exact l_lenS | with_reducible exact l_tupL | with_reducible exact l_tupT | with_reducible exact l_max | with_reducible exact l_min | with_reducible exact l_listT | with_reducible exact l_listL | with_reducible exact v_slcT | with_reducible exact l_isTT | with_reducible exact l_isII | with_reducible exact l_isBI | with_reducible exact l_isBB | with_reducible exact l_isSS | with_reducible exact l_isLL | with_reducible exact z_bl | with_reducible exact z_int | with_reducible exact v_slcL | with_reducible exact v_slcS | with_reducible exact e_int | with_reducible exact e_bl | with_reducible exact e_str | with_reducible exact e_non | with_reducible exact a_nil | with_reducible exact o_nil | with_reducible exact g_name | with_reducible exact gs_nil | with_reducible exact b_add | with_reducible exact b_sub | with_reducible exact u_neg | with_reducible exact c_lt | with_reducible exact c_le | with_reducible exact c_gt | with_reducible exact c_ge | with_reducible exact c_eqI | with_reducible exact c_neI | with_reducible exact c_eqS | with_reducible exact c_neS | ((with_reducible apply e_var); exact rfl) | ((with_reducible apply e_glb); exact rfl) | ((with_reducible apply x_tup); exact rfl) | ((with_reducible apply x_lst); exact rfl) | with_reducible apply a_cons | with_reducible apply e_bin | with_reducible apply e_un | with_reducible apply e_idx | with_reducible apply e_call | with_reducible apply e_blt | with_reducible apply e_cmp | with_reducible apply e_slc | with_reducible apply e_frz | with_reducible apply e_one | with_reducible apply e_not | with_reducible apply t_cmp | with_reducible apply t_not | with_reducible apply t_one | with_reducible apply t_ex | with_reducible apply o_cons | with_reducible apply g_tup | with_reducible apply gs_cons | with_reducible apply g_sub | with_reducible apply e_tupS | with_reducible apply e_dspS | ((with_reducible apply LS_mk); exact rfl) | with_reducible refine' t_and ?_ (fun _ => ?_) | with_reducible refine' t_or ?_ (fun _ => ?_) | with_reducible refine' e_and ?_ (fun _ => ?_) | with_reducible refine' e_or ?_ (fun _ => ?_) | ((with_reducible apply b_powL); decide) | ((with_reducible apply b_pow); decide) | ((with_reducible apply b_fdiv); decide) | ((with_reducible apply b_mod); decide) | ((with_reducible apply b_mul); decide) | ((with_reducible apply b_mul); with_reducible assumption) | ((with_reducible apply b_fdiv); with_reducible assumption) | with_reducible apply b_mul | with_reducible apply b_fdiv | with_reducible apply b_mod | with_reducible apply b_shr | with_reducible apply b_cat | with_reducible apply l_str))) ?_
        refine w_nil ⟨rfl, sb || (l.kd == "<" && decide (0 < w.num)), _, _, rfl, ?_, ?_⟩
        · rw [← hok]
          have e : (!(l.kd == "=") && decide (w < 0)) = false := by
            rw [← h]
            congr 1
            exact decide_eq_decide.mpr num_neg_iff.symm
          rw [e]
          rfl
        · rw [← hst, Bool.or_assoc]
          congr 2
          congr 1
          exact decide_eq_decide.mpr num_pos_iff
    · rintro σ st' ⟨rfl, sb, c, d, rfl, hok, hst⟩
      rw [zip_len' hl] at hok hst
      have nil0 : wOk (ls.drop ls.length) (ws.drop ls.length) = true := by rw [List.drop_eq_nil_of_le (Nat.le_refl _)]; rfl
      have nil2 : strictB (ls.drop ls.length) (ws.drop ls.length) = false := by rw [List.drop_eq_nil_of_le (Nat.le_refl _)]; rfl
      rw [nil0] at hok
      rw [nil2, Bool.or_false] at hst
      obtain ⟨c1, hs, sz⟩ := sp_together (gs := gs) st' k hu hv hw hm hN hps hl hls hws
      have c1' : run gs fs (k + 4) u [.lst (ls.map encL), .lst (ws.map encQ), .int ((ps.map encQ).length : Int)] st' = some (.tup [.tup ((togZ ls ws ps.length).dropLast.map encQ), encQ ((togZ ls ws ps.length).getLast?.getD 0)], st') := by
        rw [List.length_map]; exact c1
      refine' w_asgG (by (repeat' (first | with_reducible apply c1' | with_reducible exact l_abs | with_reducible exact l_int | with_reducible exact l_intB | with_reducible exact l_lenT | with_reducible exact l_lenL | with_reducible exact l_lenS | with_reducible exact l_tupL | with_reducible exact l_tupT | with_reducible exact l_max | with_reducible exact l_min | with_reducible exact l_listT | with_reducible exact l_listL | with_reducible exact v_slcT | with_reducible exact l_isTT | with_reducible exact l_isII | with_reducible exact l_isBI | with_reducible exact l_isBB | with_reducible exact l_isSS | with_reducible exact l_isLL | with_reducible exact z_bl | with_reducible exact z_int | with_reducible exact v_slcL | with_reducible exact v_slcS | with_reducible exact e_int | with_reducible exact e_bl | with_reducible exact e_str | with_reducible exact e_non | with_reducible exact a_nil | with_reducible exact o_nil | with_reducible exact g_name | with_reducible exact gs_nil | with_reducible exact b_add | with_reducible exact b_sub | with_reducible exact u_neg | with_reducible exact c_lt | with_reducible exact c_le | with_reducible exact c_gt | with_reducible exact c_ge | with_reducible exact c_eqI | with_reducible exact c_neI | with_reducible exact c_eqS | with_reducible exact c_neS | ((with_reducible apply e_var); exact rfl) | ((with_reducible apply e_glb); exact rfl) | ((with_reducible apply x_tup); exact rfl) | ((with_reducible apply x_lst); exact rfl) | with_reducible apply a_cons | with_reducible apply e_bin | with_reducible apply e_un | with_reducible apply e_idx | with_reducible apply e_call | with_reducible apply e_blt | with_reducible apply e_cmp | with_reducible apply e_slc | with_reducible apply e_frz | with_reducible apply e_one | with_reducible apply e_not | with_reducible apply t_cmp | with_reducible apply t_not | with_reducible apply t_one | with_reducible apply t_ex | with_reducible apply o_cons | with_reducible apply g_tup | with_reducible apply gs_cons | with_reducible apply g_sub | with_reducible apply e_tupS | with_reducible apply e_dspS | ((with_reducible apply LS_mk); exact rfl) | with_reducible refine' t_and ?_ (fun _ => ?_) | with_reducible refine' t_or ?_ (fun _ => ?_) | with_reducible refine' e_and ?_ (fun _ => ?_) | with_reducible refine' e_or ?_ (fun _ => ?_) | ((with_reducible apply b_powL); decide) | ((with_reducible apply b_pow); decide) | ((with_reducible apply b_fdiv); decide) | ((with_reducible apply b_mod); decide) | ((with_reducible apply b_mul); decide) | ((with_reducible apply b_mul); with_reducible assumption) | ((with_reducible apply b_fdiv); with_reducible assumption) | with_reducible apply b_mul | with_reducible apply b_fdiv | with_reducible apply b_mod | with_reducible apply b_shr | with_reducible apply b_cat | with_reducible apply l_str))) (by (repeat' (first | with_reducible exact l_abs | with_reducible exact l_int | with_reducible exact l_intB | with_reducible exact l_lenT | with_reducible exact l_lenL | with_reducible exact l_lenS | with_reducible exact l_tupL | with_reducible exact l_tupT | with_reducible exact l_max | with_reducible exact l_min | with_reducible exact l_listT | with_reducible exact l_listL | with_reducible exact v_slcT | with_reducible exact l_isTT | with_reducible exact l_isII | with_reducible exact l_isBI | with_reducible exact l_isBB | with_reducible exact l_isSS | with_reducible exact l_isLL | with_reducible exact z_bl | with_reducible exact z_int | with_reducible exact v_slcL | with_reducible exact v_slcS | with_reducible exact e_int | with_reducible exact e_bl | with_reducible exact e_str | with_reducible exact e_non | with_reducible exact a_nil | with_reducible exact o_nil | with_reducible exact g_name | with_reducible exact gs_nil | with_reducible exact b_add | with_reducible exact b_sub | with_reducible exact u_neg | with_reducible exact c_lt | with_reducible exact c_le | with_reducible exact c_gt | with_reducible exact c_ge | with_reducible exact c_eqI | with_reducible exact c_neI | with_reducible exact c_eqS | with_reducible exact c_neS | ((with_reducible apply e_var); exact rfl) | ((with_reducible apply e_glb); exact rfl) | ((with_reducible apply x_tup); exact rfl) | ((with_reducible apply x_lst); exact rfl) | with_reducible apply a_cons | with_reducible apply e_bin | with_reducible apply e_un | with_reducible apply e_idx | with_reducible apply e_call | with_reducible apply e_blt | with_reducible apply e_cmp | with_reducible apply e_slc | with_reducible apply e_frz | with_reducible apply e_one | with_reducible apply e_not | with_reducible apply t_cmp | with_reducible apply t_not | with_reducible apply t_one | with_reducible apply t_ex | with_reducible apply o_cons | with_reducible apply g_tup | with_reducible apply gs_cons | with_reducible apply g_sub | with_reducible apply e_tupS | with_reducible apply e_dspS | ((with_reducible apply LS_mk); exact rfl) | with_reducible refine' t_and ?_ (fun _ => ?_) | with_reducible refine' t_or ?_ (fun _ => ?_) | with_reducible refine' e_and ?_ (fun _ => ?_) | with_reducible refine' e_or ?_ (fun _ => ?_) | ((with_reducible apply b_powL); decide) | ((with_reducible apply b_pow); decide) | ((with_reducible apply b_fdiv); decide) | ((with_reducible apply b_mod); decide) | ((with_reducible apply b_mul); decide) | ((with_reducible apply b_mul); with_reducible assumption) | ((with_reducible apply b_fdiv); with_reducible assumption) | with_reducible apply b_mul | with_reducible apply b_fdiv | with_reducible apply b_mod | with_reducible apply b_shr | with_reducible apply b_cat | with_reducible apply l_str))) ?_
      have sh : showB kd ps b ls ws = ((decide ((togZ ls ws ps.length).dropLast = ps) && (decide ((togZ ls ws ps.length).getLast?.getD 0 < b) || (decide ((togZ ls ws ps.length).getLast?.getD 0 = b) && (kd == "<=" || sb)))) || (decide ((togZ ls ws ps.length).dropLast.filter (fun x => !decide (x = 0)) = []) && (decide ((togZ ls ws ps.length).getLast?.getD 0 < 0) || (decide ((togZ ls ws ps.length).getLast?.getD 0 = 0) && sb)))) := by
        unfold showB togZ
        simp only []
        rw [← hok, ← hst, Bool.true_and]
      have hM2 : (N + W + 1) * ls.length ≤ (N + W + 1) * (ls.length + 1) := Nat.mul_le_mul_left _ (by omega)
      have hlast : Szq 8000 ((togZ ls ws ps.length).getLast?.getD 0) := (sz _ (by
        have := nonempty_last hs
        rw [this]
        simp)).mono (by omega)
      have hdl : (togZ ls ws ps.length).dropLast.length = ps.length := by rw [List.length_dropLast, hs]; rfl
      have nq := nought_iff hdl
      generalize (togZ ls ws ps.length).getLast?.getD 0 = top at *
      generalize (togZ ls ws ps.length).dropLast = fnd at *
      have c2 := sq_below (gs := gs) (k + 3) st' ht hlast hb (by decide)
      refine' w_asg (by (repeat' (first | with_reducible apply c2 | with_reducible exact l_abs | with_reducible exact l_int | with_reducible exact l_intB | with_reducible exact l_lenT | with_reducible exact l_lenL | with_reducible exact l_lenS | with_reducible exact l_tupL | with_reducible exact l_tupT | with_reducible exact l_max | with_reducible exact l_min | with_reducible exact l_listT | with_reducible exact l_listL | with_reducible exact v_slcT | with_reducible exact l_isTT | with_reducible exact l_isII | with_reducible exact l_isBI | with_reducible exact l_isBB | with_reducible exact l_isSS | with_reducible exact l_isLL | with_reducible exact z_bl | with_reducible exact z_int | with_reducible exact v_slcL | with_reducible exact v_slcS | with_reducible exact e_int | with_reducible exact e_bl | with_reducible exact e_str | with_reducible exact e_non | with_reducible exact a_nil | with_reducible exact o_nil | with_reducible exact g_name | with_reducible exact gs_nil | with_reducible exact b_add | with_reducible exact b_sub | with_reducible exact u_neg | with_reducible exact c_lt | with_reducible exact c_le | with_reducible exact c_gt | with_reducible exact c_ge | with_reducible exact c_eqI | with_reducible exact c_neI | with_reducible exact c_eqS | with_reducible exact c_neS | ((with_reducible apply e_var); exact rfl) | ((with_reducible apply e_glb); exact rfl) | ((with_reducible apply x_tup); exact rfl) | ((with_reducible apply x_lst); exact rfl) | with_reducible apply a_cons | with_reducible apply e_bin | with_reducible apply e_un | with_reducible apply e_idx | with_reducible apply e_call | with_reducible apply e_blt | with_reducible apply e_cmp | with_reducible apply e_slc | with_reducible apply e_frz | with_reducible apply e_one | with_reducible apply e_not | with_reducible apply t_cmp | with_reducible apply t_not | with_reducible apply t_one | with_reducible apply t_ex | with_reducible apply o_cons | with_reducible apply g_tup | with_reducible apply gs_cons | with_reducible apply g_sub | with_reducible apply e_tupS | with_reducible apply e_dspS | ((with_reducible apply LS_mk); exact rfl) | with_reducible refine' t_and ?_ (fun _ => ?_) | with_reducible refine' t_or ?_ (fun _ => ?_) | with_reducible refine' e_and ?_ (fun _ => ?_) | with_reducible refine' e_or ?_ (fun _ => ?_) | ((with_reducible apply b_powL); decide) | ((with_reducible apply b_pow); decide) | ((with_reducible apply b_fdiv); decide) | ((with_reducible apply b_mod); decide) | ((with_reducible apply b_mul); decide) | ((with_reducible apply b_mul); with_reducible assumption) | ((with_reducible apply b_fdiv); with_reducible assumption) | with_reducible apply b_mul | with_reducible apply b_fdiv | with_reducible apply b_mod | with_reducible apply b_shr | with_reducible apply b_cat | with_reducible apply l_str))) ?_
      refine' w_if (by (repeat' (first | ((with_reducible apply c_eq); exact tup_ok; exact tup_ok) | ((with_reducible apply c_eq); exact enc_ok; exact enc_ok) | with_reducible exact l_abs | with_reducible exact l_int | with_reducible exact l_intB | with_reducible exact l_lenT | with_reducible exact l_lenL | with_reducible exact l_lenS | with_reducible exact l_tupL | with_reducible exact l_tupT | with_reducible exact l_max | with_reducible exact l_min | with_reducible exact l_listT | with_reducible exact l_listL | with_reducible exact v_slcT | with_reducible exact l_isTT | with_reducible exact l_isII | with_reducible exact l_isBI | with_reducible exact l_isBB | with_reducible exact l_isSS | with_reducible exact l_isLL | with_reducible exact z_bl | with_reducible exact z_int | with_reducible exact v_slcL | with_reducible exact v_slcS | with_reducible exact e_int | with_reducible exact e_bl | with_reducible exact e_str | with_reducible exact e_non | with_reducible exact a_nil | with_reducible exact o_nil | with_reducible exact g_name | with_reducible exact gs_nil | with_reducible exact b_add | with_reducible exact b_sub | with_reducible exact u_neg | with_reducible exact c_lt | with_reducible exact c_le | with_reducible exact c_gt | with_reducible exact c_ge | with_reducible exact c_eqI | with_reducible exact c_neI | with_reducible exact c_eqS | with_reducible exact c_neS | ((with_reducible apply e_var); exact rfl) | ((with_reducible apply e_glb); exact rfl) | ((with_reducible apply x_tup); exact rfl) | ((with_reducible apply x_lst); exact rfl) | with_reducible apply a_cons | with_reducible apply e_bin | with_reducible apply e_un | with_reducible apply e_idx | with_reducible apply e_call | with_reducible apply e_blt | with_reducible apply e_cmp | with_reducible apply e_slc | with_reducible apply e_frz | with_reducible apply e_one | with_reducible apply e_not | with_reducible apply t_cmp | with_reducible apply t_not | with_reducible apply t_one | with_reducible apply t_ex | with_reducible apply o_cons | with_reducible apply g_tup | with_reducible apply gs_cons | with_reducible apply g_sub | with_reducible apply e_tupS | with_reducible apply e_dspS | ((with_reducible apply LS_mk); exact rfl) | with_reducible refine' t_and ?_ (fun _ => ?_) | with_reducible refine' t_or ?_ (fun _ => ?_) | with_reducible refine' e_and ?_ (fun _ => ?_) | with_reducible refine' e_or ?_ (fun _ => ?_) | ((with_reducible apply b_powL); decide) | ((with_reducible apply b_pow); decide) | ((with_reducible apply b_fdiv); decide) | ((with_reducible apply b_mod); decide) | ((with_reducible apply b_mul); decide) | ((with_reducible apply b_mul); with_reducible assumption) | ((with_reducible apply b_fdiv); with_reducible assumption) | with_reducible apply b_mul | with_reducible apply b_fdiv | with_reducible apply b_mod | with_reducible apply b_shr | with_reducible apply b_cat | with_reducible apply l_str))) rfl rfl (fun h => ?_) (fun h => ?_)
      · refine' w_ret (by (repeat' (first | with_reducible exact l_abs | with_reducible exact l_int | with_reducible exact l_intB | with_reducible exact l_lenT | with_reducible exact l_lenL | with_reducible exact l_lenS | with_reducible exact l_tupL | with_reducible exact l_tupT | with_reducible exact l_max | with_reducible exact l_min | with_reducible exact l_listT | with_reducible exact l_listL | with_reducible exact v_slcT | with_reducible exact l_isTT | with_reducible exact l_isII | with_reducible exact l_isBI | with_reducible exact l_isBB | with_reducible exact l_isSS | with_reducible exact l_isLL | with_reducible exact z_bl | with_reducible exact z_int | with_reducible exact v_slcL | with_reducible exact v_slcS | with_reducible exact e_int | with_reducible exact e_bl | with_reducible exact e_str | with_reducible exact e_non | with_reducible exact a_nil | with_reducible exact o_nil | with_reducible exact g_name | with_reducible exact gs_nil | with_reducible exact b_add | with_reducible exact b_sub | with_reducible exact u_neg | with_reducible exact c_lt | with_reducible exact c_le | with_reducible exact c_gt | with_reducible exact c_ge | with_reducible exact c_eqI | with_reducible exact c_neI | with_reducible exact c_eqS | with_reducible exact c_neS | ((with_reducible apply e_var); exact rfl) | ((with_reducible apply e_glb); exact rfl) | ((with_reducible apply x_tup); exact rfl) | ((with_reducible apply x_lst); exact rfl) | with_reducible apply a_cons | with_reducible apply e_bin | with_reducible apply e_un | with_reducible apply e_idx | with_reducible apply e_call | with_reducible apply e_blt | with_reducible apply e_cmp | with_reducible apply e_slc | with_reducible apply e_frz | with_reducible apply e_one | with_reducible apply e_not | with_reducible apply t_cmp | with_reducible apply t_not | with_reducible apply t_one | with_reducible apply t_ex | with_reducible apply o_cons | with_reducible apply g_tup | with_reducible apply gs_cons | with_reducible apply g_sub | with_reducible apply e_tupS | with_reducible apply e_dspS | ((with_reducible apply LS_mk); exact rfl) | with_reducible refine' t_and ?_ (fun _ => ?_) | with_reducible refine' t_or ?_ (fun _ => ?_) | with_reducible refine' e_and ?_ (fun _ => ?_) | with_reducible refine' e_or ?_ (fun _ => ?_) | ((with_reducible apply b_powL); decide) | ((with_reducible apply b_pow); decide) | ((with_reducible apply b_fdiv); decide) | ((with_reducible apply b_mod); decide) | ((with_reducible apply b_mul); decide) | ((with_reducible apply b_mul); with_reducible assumption) | ((with_reducible apply b_fdiv); with_reducible assumption) | with_reducible apply b_mul | with_reducible apply b_fdiv | with_reducible apply b_mod | with_reducible apply b_shr | with_reducible apply b_cat | with_reducible apply l_str))) ?_
        refine ⟨rfl, ?_⟩
        have h : (eqL (fnd.map encQ) (ps.map encQ) && (decide (top < b) || eqD (encQ top) (encQ b) && (kd == "<=" || sb))) = true := h
        rw [eq_qs, eq_q] at h
        rw [sh, h, Bool.true_or]
      have h : (eqL (fnd.map encQ) (ps.map encQ) && (decide (top < b) || eqD (encQ top) (encQ b) && (kd == "<=" || sb))) = false := h
      rw [eq_qs, eq_q] at h
      rw [h, Bool.false_or] at sh
      have lz := lc_zero (gs := gs) st' (cs := run gs fs (k + 4)) (a := 12) (xs := ps.map encQ) (σ := wipeD [some (.str kd), some (.tup (ps.map encQ)), some (encQ b), some (.lst (ls.map encL)), some (.lst (ws.map encQ)), some (.bl sb), some (.bl (decide (top < b))), none, c, d, some (.tup (fnd.map encQ)), some (encQ top), none] [12])
      rw [List.length_map] at lz
      refine' w_asg (d := .tup ((List.replicate ps.length (0 : Rat)).map encQ)) (e_blt (a_cons (e_lcp (i_tup (by (repeat' (first | with_reducible exact l_abs | with_reducible exact l_int | with_reducible exact l_intB | with_reducible exact l_lenT | with_reducible exact l_lenL | with_reducible exact l_lenS | with_reducible exact l_tupL | with_reducible exact l_tupT | with_reducible exact l_max | with_reducible exact l_min | with_reducible exact l_listT | with_reducible exact l_listL | with_reducible exact v_slcT | with_reducible exact l_isTT | with_reducible exact l_isII | with_reducible exact l_isBI | with_reducible exact l_isBB | with_reducible exact l_isSS | with_reducible exact l_isLL | with_reducible exact z_bl | with_reducible exact z_int | with_reducible exact v_slcL | with_reducible exact v_slcS | with_reducible exact e_int | with_reducible exact e_bl | with_reducible exact e_str | with_reducible exact e_non | with_reducible exact a_nil | with_reducible exact o_nil | with_reducible exact g_name | with_reducible exact gs_nil | with_reducible exact b_add | with_reducible exact b_sub | with_reducible exact u_neg | with_reducible exact c_lt | with_reducible exact c_le | with_reducible exact c_gt | with_reducible exact c_ge | with_reducible exact c_eqI | with_reducible exact c_neI | with_reducible exact c_eqS | with_reducible exact c_neS | ((with_reducible apply e_var); exact rfl) | ((with_reducible apply e_glb); exact rfl) | ((with_reducible apply x_tup); exact rfl) | ((with_reducible apply x_lst); exact rfl) | with_reducible apply a_cons | with_reducible apply e_bin | with_reducible apply e_un | with_reducible apply e_idx | with_reducible apply e_call | with_reducible apply e_blt | with_reducible apply e_cmp | with_reducible apply e_slc | with_reducible apply e_frz | with_reducible apply e_one | with_reducible apply e_not | with_reducible apply t_cmp | with_reducible apply t_not | with_reducible apply t_one | with_reducible apply t_ex | with_reducible apply o_cons | with_reducible apply g_tup | with_reducible apply gs_cons | with_reducible apply g_sub | with_reducible apply e_tupS | with_reducible apply e_dspS | ((with_reducible apply LS_mk); exact rfl) | with_reducible refine' t_and ?_ (fun _ => ?_) | with_reducible refine' t_or ?_ (fun _ => ?_) | with_reducible refine' e_and ?_ (fun _ => ?_) | with_reducible refine' e_or ?_ (fun _ => ?_) | ((with_reducible apply b_powL); decide) | ((with_reducible apply b_pow); decide) | ((with_reducible apply b_fdiv); decide) | ((with_reducible apply b_mod); decide) | ((with_reducible apply b_mul); decide) | ((with_reducible apply b_mul); with_reducible assumption) | ((with_reducible apply b_fdiv); with_reducible assumption) | with_reducible apply b_mul | with_reducible apply b_fdiv | with_reducible apply b_mod | with_reducible apply b_shr | with_reducible apply b_cat | with_reducible apply l_str)))) lz (lenQ (decide_eq_true (by simp; omega)))) a_nil) l_tupL) ?_
      refine' w_ret (by (repeat' (first | ((with_reducible apply c_eq); exact tup_ok; exact tup_ok) | with_reducible exact l_abs | with_reducible exact l_int | with_reducible exact l_intB | with_reducible exact l_lenT | with_reducible exact l_lenL | with_reducible exact l_lenS | with_reducible exact l_tupL | with_reducible exact l_tupT | with_reducible exact l_max | with_reducible exact l_min | with_reducible exact l_listT | with_reducible exact l_listL | with_reducible exact v_slcT | with_reducible exact l_isTT | with_reducible exact l_isII | with_reducible exact l_isBI | with_reducible exact l_isBB | with_reducible exact l_isSS | with_reducible exact l_isLL | with_reducible exact z_bl | with_reducible exact z_int | with_reducible exact v_slcL | with_reducible exact v_slcS | with_reducible exact e_int | with_reducible exact e_bl | with_reducible exact e_str | with_reducible exact e_non | with_reducible exact a_nil | with_reducible exact o_nil | with_reducible exact g_name | with_reducible exact gs_nil | with_reducible exact b_add | with_reducible exact b_sub | with_reducible exact u_neg | with_reducible exact c_lt | with_reducible exact c_le | with_reducible exact c_gt | with_reducible exact c_ge | with_reducible exact c_eqI | with_reducible exact c_neI | with_reducible exact c_eqS | with_reducible exact c_neS | ((with_reducible apply e_var); exact rfl) | ((with_reducible apply e_glb); exact rfl) | ((with_reducible apply x_tup); exact rfl) | ((with_reducible apply x_lst); exact rfl) | with_reducible apply a_cons | with_reducible apply e_bin | with_reducible apply e_un | with_reducible apply e_idx | with_reducible apply e_call | with_reducible apply e_blt | with_reducible apply e_cmp | with_reducible apply e_slc | with_reducible apply e_frz | with_reducible apply e_one | with_reducible apply e_not | with_reducible apply t_cmp | with_reducible apply t_not | with_reducible apply t_one | with_reducible apply t_ex | with_reducible apply o_cons | with_reducible apply g_tup | with_reducible apply gs_cons | with_reducible apply g_sub | with_reducible apply e_tupS | with_reducible apply e_dspS | ((with_reducible apply LS_mk); exact rfl) | with_reducible refine' t_and ?_ (fun _ => ?_) | with_reducible refine' t_or ?_ (fun _ => ?_) | with_reducible refine' e_and ?_ (fun _ => ?_) | with_reducible refine' e_or ?_ (fun _ => ?_) | ((with_reducible apply b_powL); decide) | ((with_reducible apply b_pow); decide) | ((with_reducible apply b_fdiv); decide) | ((with_reducible apply b_mod); decide) | ((with_reducible apply b_mul); decide) | ((with_reducible apply b_mul); with_reducible assumption) | ((with_reducible apply b_fdiv); with_reducible assumption) | with_reducible apply b_mul | with_reducible apply b_fdiv | with_reducible apply b_mod | with_reducible apply b_shr | with_reducible apply b_cat | with_reducible apply l_str))) ?_
      refine ⟨rfl, ?_⟩
      rw [sh, ← nq]
      refine congrArg D.bl ?_
      show (eqL (fnd.map encQ) ((List.replicate ps.length (0 : Rat)).map encQ) && (decide (top.num < 0) || (top.num == 0) && sb)) = _
      rw [eq_qs]
      congr 2
      · exact decide_eq_decide.mpr num_neg_iff
      · congr 1
        rw [Bool.eq_iff_iff, beq_iff_eq, decide_eq_true_iff]
        exact num_zero_iff
  obtain ⟨x, e, rfl⟩ := q
  exact e
end
end Jd


namespace Jd
open PySem PySem.Spec PyProof.Rows L2
def nl (p : Int) : List Nat := (toString p).toList.map Char.toNat
theorem nl_is (p : Int) : (Str.ofString (toString p)).cps.toList = nl p := by rw [Str.ofString_eq_toList]; rfl
theorem char_inj {a b : Char} (h : a.toNat = b.toNat) : a = b := Char.toNat_inj.mp h
theorem map_toNat_inj : ∀ {a b : List Char}, a.map Char.toNat = b.map Char.toNat → a = b
  | [], [], _ => rfl
  | [], _ :: _, h => by cases h
  | _ :: _, [], h => by cases h
  | x :: a, y :: b, h => by
    rw [List.map_cons, List.map_cons, List.cons.injEq] at h
    rw [char_inj h.1, map_toNat_inj h.2]
theorem nl_inj {p q : Int} (h : nl p = nl q) : p = q := by
  have e := String.toList_inj.mp (map_toNat_inj h)
  rw [Int.toString_eq_repr, Int.toString_eq_repr] at e
  exact Int.repr_inj.mp e
theorem nl_free (p : Int) : 47 ∉ nl p := by
  intro h
  obtain ⟨c, hc, e⟩ := List.mem_map.mp h
  rcases int_sign p c hc with h | h
  · unfold Char.isDigit at h
    simp only [Bool.and_eq_true, decide_eq_true_eq] at h
    have h3 : 48 ≤ c.toNat := by
      show 48 ≤ c.val.toNat
      exact UInt32.le_iff_toNat_le.mp h.1
    omega
  · rw [h] at e
    exact absurd e (by decide)
theorem split_at {a b x y : List Nat} (ha : 47 ∉ a) (hb : 47 ∉ b) (h : a ++ 47 :: x = b ++ 47 :: y) : a = b ∧ x = y := by
  induction a generalizing b with
  | nil =>
    cases b with
    | nil => simpa using h
    | cons c b =>
      rw [List.nil_append, List.cons_append, List.cons.injEq] at h
      exact absurd (h.1 ▸ List.mem_cons_self ..) hb
  | cons c a ih =>
    cases b with
    | nil =>
      rw [List.nil_append, List.cons_append, List.cons.injEq] at h
      exact absurd (h.1 ▸ List.mem_cons_self ..) ha
    | cons d b =>
      rw [List.cons_append, List.cons_append, List.cons.injEq] at h
      obtain ⟨e1, e2⟩ := ih (fun z => ha (List.mem_cons_of_mem _ z)) (fun z => hb (List.mem_cons_of_mem _ z)) h.2
      exact ⟨by rw [h.1, e1], e2⟩
def txt (p q : Int) : Str := if q = 1 then Str.ofString (toString p) else Str.ofString (toString p) ++ "/" ++ Str.ofString (toString q)
theorem txt_codes (p q : Int) : (txt p q).cps.toList = if q = 1 then nl p else nl p ++ 47 :: nl q := by
  unfold txt
  split
  · exact nl_is p
  · have e : ("/" : Str).cps.toList = [47] := by decide +kernel
    rw [Str.cps_append, Str.cps_append, Array.toList_append, Array.toList_append, nl_is, nl_is, e]
    simp
theorem txt_inj {p q p' q' : Int} (h : txt p q = txt p' q') : p = p' ∧ q = q' := by
  have h2 := congrArg (fun x : Str => x.cps.toList) h
  simp only [txt_codes] at h2
  by_cases a : q = 1 <;> by_cases b : q' = 1
  · rw [if_pos a, if_pos b] at h2
    exact ⟨nl_inj h2, by rw [a, b]⟩
  · rw [if_pos a, if_neg b] at h2
    have := nl_free p
    rw [h2] at this
    exact absurd (by simp) this
  · rw [if_neg a, if_pos b] at h2
    have := nl_free p'
    rw [← h2] at this
    exact absurd (by simp) this
  · rw [if_neg a, if_neg b] at h2
    obtain ⟨e1, e2⟩ := split_at (nl_free p) (nl_free p') h2
    exact ⟨nl_inj e1, nl_inj e2⟩
end Jd

namespace Jd
open PySem PySem.Spec PyProof.Rows L2
/-- _law_made: 0 cell, 1 d -/
abbrev T_law_made (i__law_number i_make : Nat) : Fn := ⟨1, 2, (.cons (.asg (.tN 1) (.call i__law_number (.cons (.var 0) (.cons (.kint 11) .nil)))) (.cons (.ifs (.cmp .eq (.var 1) (.kint 0)) (.cons (.asg (.tN 1) (.kint 1)) .nil) .nil) (.cons (.ret (.call i_make (.cons (.call i__law_number (.cons (.var 0) (.cons (.kint 1) .nil))) (.cons (.var 1) .nil)))) .nil)))⟩
/-- _law_sum: 0 some, 1 found, 2 one -/
abbrev T_law_sum (i_make i_plus : Nat) : Fn := ⟨1, 3, (.cons (.asg (.tN 1) (.call i_make (.cons (.kint 0) (.cons (.kint 1) .nil)))) (.cons (.for_ (.tN 2) (.iV (.var 0)) (.cons (.asg (.tN 1) (.call i_plus (.cons (.var 1) (.cons (.var 2) .nil)))) .nil)) (.cons (.ret (.var 1)) .nil)))⟩
/-- _law_pair_right: 0 a, 1 b, 2 c -/
abbrev T_law_pair_right (i_plus i_minus i_times i_over i_below i_shown : Nat) : Fn := ⟨3, 3, (.cons (.ifs (.or (.cmp .ne (.call i_minus (.cons (.call i_plus (.cons (.var 0) (.cons (.var 1) .nil))) (.cons (.var 1) .nil))) (.var 0)) (.one (.cmp .ne (.call i_plus (.cons (.call i_minus (.cons (.var 0) (.cons (.var 1) .nil))) (.cons (.var 1) .nil))) (.var 0)))) (.cons (.ret (.kbl false)) .nil) .nil) (.cons (.ifs (.or (.cmp .ne (.call i_plus (.cons (.var 0) (.cons (.var 1) .nil))) (.call i_plus (.cons (.var 1) (.cons (.var 0) .nil)))) (.one (.cmp .ne (.call i_times (.cons (.var 0) (.cons (.var 1) .nil))) (.call i_times (.cons (.var 1) (.cons (.var 0) .nil)))))) (.cons (.ret (.kbl false)) .nil) .nil) (.cons (.ifs (.and (.cmp .ne (.idx (.var 1) (.kint 0)) (.kint 0)) (.one (.or (.cmp .ne (.call i_over (.cons (.call i_times (.cons (.var 0) (.cons (.var 1) .nil))) (.cons (.var 1) .nil))) (.var 0)) (.one (.cmp .ne (.call i_times (.cons (.call i_over (.cons (.var 0) (.cons (.var 1) .nil))) (.cons (.var 1) .nil))) (.var 0)))))) (.cons (.ret (.kbl false)) .nil) .nil) (.cons (.ifs (.or (.cmp .ne (.call i_below (.cons (.var 0) (.cons (.var 1) .nil))) (.call i_below (.cons (.call i_minus (.cons (.var 0) (.cons (.var 2) .nil))) (.cons (.call i_minus (.cons (.var 1) (.cons (.var 2) .nil))) .nil)))) (.one (.and (.ex (.call i_below (.cons (.var 0) (.cons (.var 1) .nil)))) (.one (.or (.ex (.call i_below (.cons (.var 1) (.cons (.var 0) .nil)))) (.one (.cmp .eq (.var 0) (.var 1)))))))) (.cons (.ret (.kbl false)) .nil) .nil) (.cons (.ifs (.and (.cmp .lt (.idx (.var 2) (.kint 0)) (.kint 0)) (.one (.cmp .ne (.call i_below (.cons (.var 0) (.cons (.var 1) .nil))) (.call i_below (.cons (.call i_times (.cons (.var 1) (.cons (.var 2) .nil))) (.cons (.call i_times (.cons (.var 0) (.cons (.var 2) .nil))) .nil)))))) (.cons (.ret (.kbl false)) .nil) .nil) (.cons (.ret (.and (.cmp .eq (.cmp .eq (.var 0) (.var 1)) (.cmp .eq (.call i_shown (.cons (.var 0) .nil)) (.call i_shown (.cons (.var 1) .nil)))) (.one (.cmp .eq (.cmp .eq (.var 0) (.var 1)) (.and (.not (.call i_below (.cons (.var 0) (.cons (.var 1) .nil)))) (.one (.not (.call i_below (.cons (.var 1) (.cons (.var 0) .nil)))))))))) .nil))))))⟩
def sumQ : List Rat → Rat
  | [] => 0
  | x :: xs => x + sumQ xs
theorem sumQ_append : ∀ (a b : List Rat), sumQ (a ++ b) = sumQ a + sumQ b
  | [], b => by simp only [List.nil_append, sumQ]; grind
  | x :: a, b => by simp only [List.cons_append, sumQ, sumQ_append a b]; grind
theorem sumQ_reverse : ∀ a : List Rat, sumQ a.reverse = sumQ a
  | [] => rfl
  | x :: a => by
    rw [List.reverse_cons, sumQ_append, sumQ_reverse a]
    simp only [sumQ]
    grind
theorem sumQ_mul (c : Rat) : ∀ a : List Rat, sumQ (a.map fun x => x * c) = sumQ a * c
  | [] => by simp only [List.map_nil, sumQ]; grind
  | x :: a => by
    simp only [List.map_cons, sumQ, sumQ_mul c a]
    grind
theorem cat_ok {p q : Int} (sp : Sz 1500 p) (sq : Sz 1500 q) : lenOk ((Str.ofString (toString p)).length + ("/" : Str).length) = true ∧ lenOk ((Str.ofString (toString p) ++ ("/" : Str)).length + (Str.ofString (toString q)).length) = true := by
  have h1 := num_len sp (by decide)
  have h2 := num_len sq (by decide)
  have h3 : ("/" : Str).length = 1 := by decide +kernel
  have h4 : (Str.ofString (toString p) ++ ("/" : Str)).length = (Str.ofString (toString p)).length + ("/" : Str).length := Str.length_append _ _
  refine ⟨lenQ (decide_eq_true (by omega)), lenQ (decide_eq_true (by omega))⟩
section
variable {gs : List D} {fs : List Fn} {i v u t w g e : Nat} (k : Nat) (st : Sto)
theorem sp_shown (hi : fs[i]? = some T_shown) (p q : Int) (sp : Sz 1500 p) (sq : Sz 1500 q) : run gs fs (k + 1) i [.tup [.int p, .int q]] st = some (.str (txt p q), st) := by
  have lp := strOk_sz sp (by decide)
  have lq := strOk_sz sq (by decide)
  have lc := cat_ok sp sq
  refine run_rt T_shown hi rfl ?_
  unfold txt
  refine' s_if (by (repeat' (first | with_reducible exact l_abs | with_reducible exact l_int | with_reducible exact l_intB | with_reducible exact l_lenT | with_reducible exact l_lenL | with_reducible exact l_lenS | with_reducible exact l_tupL | with_reducible exact l_tupT | with_reducible exact l_max | with_reducible exact l_min | with_reducible exact l_listT | with_reducible exact l_listL | with_reducible exact v_slcT | with_reducible exact l_isTT | with_reducible exact l_isII | with_reducible exact l_isBI | with_reducible exact l_isBB | with_reducible exact l_isSS | with_reducible exact l_isLL | with_reducible exact z_bl | with_reducible exact z_int | with_reducible exact v_slcL | with_reducible exact v_slcS | with_reducible exact e_int | with_reducible exact e_bl | with_reducible exact e_str | with_reducible exact e_non | with_reducible exact a_nil | with_reducible exact o_nil | with_reducible exact g_name | with_reducible exact gs_nil | with_reducible exact b_add | with_reducible exact b_sub | with_reducible exact u_neg | with_reducible exact c_lt | with_reducible exact c_le | with_reducible exact c_gt | with_reducible exact c_ge | with_reducible exact c_eqI | with_reducible exact c_neI | with_reducible exact c_eqS | with_reducible exact c_neS | ((with_reducible apply e_var); exact rfl) | ((with_reducible apply e_glb); exact rfl) | ((with_reducible apply x_tup); exact rfl) | ((with_reducible apply x_lst); exact rfl) | with_reducible apply a_cons | with_reducible apply e_bin | with_reducible apply e_un | with_reducible apply e_idx | with_reducible apply e_call | with_reducible apply e_blt | with_reducible apply e_cmp | with_reducible apply e_slc | with_reducible apply e_frz | with_reducible apply e_one | with_reducible apply e_not | with_reducible apply t_cmp | with_reducible apply t_not | with_reducible apply t_one | with_reducible apply t_ex | with_reducible apply o_cons | with_reducible apply g_tup | with_reducible apply gs_cons | with_reducible apply g_sub | with_reducible apply e_tupS | with_reducible apply e_dspS | ((with_reducible apply LS_mk); exact rfl) | with_reducible refine' t_and ?_ (fun _ => ?_) | with_reducible refine' t_or ?_ (fun _ => ?_) | with_reducible refine' e_and ?_ (fun _ => ?_) | with_reducible refine' e_or ?_ (fun _ => ?_) | ((with_reducible apply b_powL); decide) | ((with_reducible apply b_pow); decide) | ((with_reducible apply b_fdiv); decide) | ((with_reducible apply b_mod); decide) | ((with_reducible apply b_mul); decide) | ((with_reducible apply b_mul); with_reducible assumption) | ((with_reducible apply b_fdiv); with_reducible assumption) | with_reducible apply b_mul | with_reducible apply b_fdiv | with_reducible apply b_mod | with_reducible apply b_shr | with_reducible apply b_cat | with_reducible apply l_str))) rfl rfl (fun h => ?_) (fun h => ?_)
  · rw [if_pos (by simpa using h)]
    refine s_ret ?_
    (repeat' (first | with_reducible exact l_abs | with_reducible exact l_int | with_reducible exact l_intB | with_reducible exact l_lenT | with_reducible exact l_lenL | with_reducible exact l_lenS | with_reducible exact l_tupL | with_reducible exact l_tupT | with_reducible exact l_max | with_reducible exact l_min | with_reducible exact l_listT | with_reducible exact l_listL | with_reducible exact v_slcT | with_reducible exact l_isTT | with_reducible exact l_isII | with_reducible exact l_isBI | with_reducible exact l_isBB | with_reducible exact l_isSS | with_reducible exact l_isLL | with_reducible exact z_bl | with_reducible exact z_int | with_reducible exact v_slcL | with_reducible exact v_slcS | with_reducible exact e_int | with_reducible exact e_bl | with_reducible exact e_str | with_reducible exact e_non | with_reducible exact a_nil | with_reducible exact o_nil | with_reducible exact g_name | with_reducible exact gs_nil | with_reducible exact b_add | with_reducible exact b_sub | with_reducible exact u_neg | with_reducible exact c_lt | with_reducible exact c_le | with_reducible exact c_gt | with_reducible exact c_ge | with_reducible exact c_eqI | with_reducible exact c_neI | with_reducible exact c_eqS | with_reducible exact c_neS | ((with_reducible apply e_var); exact rfl) | ((with_reducible apply e_glb); exact rfl) | ((with_reducible apply x_tup); exact rfl) | ((with_reducible apply x_lst); exact rfl) | with_reducible apply a_cons | with_reducible apply e_bin | with_reducible apply e_un | with_reducible apply e_idx | with_reducible apply e_call | with_reducible apply e_blt | with_reducible apply e_cmp | with_reducible apply e_slc | with_reducible apply e_frz | with_reducible apply e_one | with_reducible apply e_not | with_reducible apply t_cmp | with_reducible apply t_not | with_reducible apply t_one | with_reducible apply t_ex | with_reducible apply o_cons | with_reducible apply g_tup | with_reducible apply gs_cons | with_reducible apply g_sub | with_reducible apply e_tupS | with_reducible apply e_dspS | ((with_reducible apply LS_mk); exact rfl) | with_reducible refine' t_and ?_ (fun _ => ?_) | with_reducible refine' t_or ?_ (fun _ => ?_) | with_reducible refine' e_and ?_ (fun _ => ?_) | with_reducible refine' e_or ?_ (fun _ => ?_) | ((with_reducible apply b_powL); decide) | ((with_reducible apply b_pow); decide) | ((with_reducible apply b_fdiv); decide) | ((with_reducible apply b_mod); decide) | ((with_reducible apply b_mul); decide) | ((with_reducible apply b_mul); with_reducible assumption) | ((with_reducible apply b_fdiv); with_reducible assumption) | with_reducible apply b_mul | with_reducible apply b_fdiv | with_reducible apply b_mod | with_reducible apply b_shr | with_reducible apply b_cat | with_reducible apply l_str))
    exact lp
  · rw [if_neg (by simpa using h)]
    refine s_ret ?_
    ((repeat' (first | with_reducible exact l_abs | with_reducible exact l_int | with_reducible exact l_intB | with_reducible exact l_lenT | with_reducible exact l_lenL | with_reducible exact l_lenS | with_reducible exact l_tupL | with_reducible exact l_tupT | with_reducible exact l_max | with_reducible exact l_min | with_reducible exact l_listT | with_reducible exact l_listL | with_reducible exact v_slcT | with_reducible exact l_isTT | with_reducible exact l_isII | with_reducible exact l_isBI | with_reducible exact l_isBB | with_reducible exact l_isSS | with_reducible exact l_isLL | with_reducible exact z_bl | with_reducible exact z_int | with_reducible exact v_slcL | with_reducible exact v_slcS | with_reducible exact e_int | with_reducible exact e_bl | with_reducible exact e_str | with_reducible exact e_non | with_reducible exact a_nil | with_reducible exact o_nil | with_reducible exact g_name | with_reducible exact gs_nil | with_reducible exact b_add | with_reducible exact b_sub | with_reducible exact u_neg | with_reducible exact c_lt | with_reducible exact c_le | with_reducible exact c_gt | with_reducible exact c_ge | with_reducible exact c_eqI | with_reducible exact c_neI | with_reducible exact c_eqS | with_reducible exact c_neS | ((with_reducible apply e_var); exact rfl) | ((with_reducible apply e_glb); exact rfl) | ((with_reducible apply x_tup); exact rfl) | ((with_reducible apply x_lst); exact rfl) | with_reducible apply a_cons | with_reducible apply e_bin | with_reducible apply e_un | with_reducible apply e_idx | with_reducible apply e_call | with_reducible apply e_blt | with_reducible apply e_cmp | with_reducible apply e_slc | with_reducible apply e_frz | with_reducible apply e_one | with_reducible apply e_not | with_reducible apply t_cmp | with_reducible apply t_not | with_reducible apply t_one | with_reducible apply t_ex | with_reducible apply o_cons | with_reducible apply g_tup | with_reducible apply gs_cons | with_reducible apply g_sub | with_reducible apply e_tupS | with_reducible apply e_dspS | ((with_reducible apply LS_mk); exact rfl) | with_reducible refine' t_and ?_ (fun _ => ?_) | with_reducible refine' t_or ?_ (fun _ => ?_) | with_reducible refine' e_and ?_ (fun _ => ?_) | with_reducible refine' e_or ?_ (fun _ => ?_) | ((with_reducible apply b_powL); decide) | ((with_reducible apply b_pow); decide) | ((with_reducible apply b_fdiv); decide) | ((with_reducible apply b_mod); decide) | ((with_reducible apply b_mul); decide) | ((with_reducible apply b_mul); with_reducible assumption) | ((with_reducible apply b_fdiv); with_reducible assumption) | with_reducible apply b_mul | with_reducible apply b_fdiv | with_reducible apply b_mod | with_reducible apply b_shr | with_reducible apply b_cat | with_reducible apply l_str)))
    all_goals first | with_reducible exact lp | with_reducible exact lq | with_reducible exact lc.1 | with_reducible exact lc.2
theorem sq_over {x y : Rat} {m n : Nat} (hi : fs[i]? = some (T_over u)) (hu : fs[u]? = some (T_make v)) (hv : fs[v]? = some T_divisor) (h : Szq m x) (h' : Szq n y) (hy : y ≠ 0) (hm : m + n ≤ 8000) : run gs fs (k + 3) i [encQ x, encQ y] st = some (encQ (x / y), st) ∧ Szq (m + n) (x / y) := by
  have y0 : y.num ≠ 0 := fun z => hy (Rat.num_eq_zero.mp z)
  have b := Int.mul_ne_zero (den_ne x) y0
  have c1 := sq_make (gs := gs) k st hu hv (x.num * y.den) (x.den * y.num) b ((h.2.mul h'.1).mono hm)
  have e : ((x.num * y.den : Int) : Rat) / ((x.den * y.num : Int) : Rat) = x / y := by
    have := qv_over (a := x.num) (b := x.den) (c := y.num) (d := y.den) (den_ne x) y0 (den_ne y)
    rw [qv_mk b, qv_q, qv_q] at this
    exact this
  have s := q_div b (h.1.mul h'.2) (h.2.mul h'.1)
  rw [e] at c1 s
  refine ⟨?_, s⟩
  refine run_rt (T_over u) hi rfl ?_
  refine s_ret ?_
  (repeat' (first | with_reducible apply c1 | with_reducible exact l_abs | with_reducible exact l_int | with_reducible exact l_intB | with_reducible exact l_lenT | with_reducible exact l_lenL | with_reducible exact l_lenS | with_reducible exact l_tupL | with_reducible exact l_tupT | with_reducible exact l_max | with_reducible exact l_min | with_reducible exact l_listT | with_reducible exact l_listL | with_reducible exact v_slcT | with_reducible exact l_isTT | with_reducible exact l_isII | with_reducible exact l_isBI | with_reducible exact l_isBB | with_reducible exact l_isSS | with_reducible exact l_isLL | with_reducible exact z_bl | with_reducible exact z_int | with_reducible exact v_slcL | with_reducible exact v_slcS | with_reducible exact e_int | with_reducible exact e_bl | with_reducible exact e_str | with_reducible exact e_non | with_reducible exact a_nil | with_reducible exact o_nil | with_reducible exact g_name | with_reducible exact gs_nil | with_reducible exact b_add | with_reducible exact b_sub | with_reducible exact u_neg | with_reducible exact c_lt | with_reducible exact c_le | with_reducible exact c_gt | with_reducible exact c_ge | with_reducible exact c_eqI | with_reducible exact c_neI | with_reducible exact c_eqS | with_reducible exact c_neS | ((with_reducible apply e_var); exact rfl) | ((with_reducible apply e_glb); exact rfl) | ((with_reducible apply x_tup); exact rfl) | ((with_reducible apply x_lst); exact rfl) | with_reducible apply a_cons | with_reducible apply e_bin | with_reducible apply e_un | with_reducible apply e_idx | with_reducible apply e_call | with_reducible apply e_blt | with_reducible apply e_cmp | with_reducible apply e_slc | with_reducible apply e_frz | with_reducible apply e_one | with_reducible apply e_not | with_reducible apply t_cmp | with_reducible apply t_not | with_reducible apply t_one | with_reducible apply t_ex | with_reducible apply o_cons | with_reducible apply g_tup | with_reducible apply gs_cons | with_reducible apply g_sub | with_reducible apply e_tupS | with_reducible apply e_dspS | ((with_reducible apply LS_mk); exact rfl) | with_reducible refine' t_and ?_ (fun _ => ?_) | with_reducible refine' t_or ?_ (fun _ => ?_) | with_reducible refine' e_and ?_ (fun _ => ?_) | with_reducible refine' e_or ?_ (fun _ => ?_) | ((with_reducible apply b_powL); decide) | ((with_reducible apply b_pow); decide) | ((with_reducible apply b_fdiv); decide) | ((with_reducible apply b_mod); decide) | ((with_reducible apply b_mul); decide) | ((with_reducible apply b_mul); with_reducible assumption) | ((with_reducible apply b_fdiv); with_reducible assumption) | with_reducible apply b_mul | with_reducible apply b_fdiv | with_reducible apply b_mod | with_reducible apply b_shr | with_reducible apply b_cat | with_reducible apply l_str))
  all_goals first | exact mulOk_sz h.1 h'.2 (by omega) | exact mulOk_sz h.2 h'.1 (by omega)
theorem sp_number101 (hi : fs[i]? = some (T_law_number v)) (hv : fs[v]? = some T_law_stir) (c j : Int) (hc : Sz 1048577 c) (hj : 0 ≤ j) (hj2 : j < 900) : ∃ v, run gs fs (k + 2) i [.int c, .int j] st = some (.int v, st) ∧ Sz 101 v := by
  have w : ∃ d, run gs fs (k + 2) i [.int c, .int j] st = some (d, st) ∧ ∃ v, d = .int v ∧ Sz 101 v := by
    have c0 := fun (j : Int) (h : 0 ≤ j) (h' : j < 1000) => sp_stir (gs := gs) k st hv c j hc h h'
    have c1 := c0 j hj (by omega)
    have c2 := c0 (j + 1) (by omega) (by omega)
    have c3 := c0 (j + 2) (by omega) (by omega)
    have c4 := c0 (j + 3) (by omega) (by omega)
    have b0 := stir_bd c j
    have b1 := stir_bd c (j + 1)
    have b2 := stir_bd c (j + 2)
    have b3 := stir_bd c (j + 3)
    refine run_wp (T_law_number v) hi rfl _ ?_
    refine' w_asg (by (repeat' (first | with_reducible apply c1 | with_reducible exact l_abs | with_reducible exact l_int | with_reducible exact l_intB | with_reducible exact l_lenT | with_reducible exact l_lenL | with_reducible exact l_lenS | with_reducible exact l_tupL | with_reducible exact l_tupT | with_reducible exact l_max | with_reducible exact l_min | with_reducible exact l_listT | with_reducible exact l_listL | with_reducible exact v_slcT | with_reducible exact l_isTT | with_reducible exact l_isII | with_reducible exact l_isBI | with_reducible exact l_isBB | with_reducible exact l_isSS | with_reducible exact l_isLL | with_reducible exact z_bl | with_reducible exact z_int | with_reducible exact v_slcL | with_reducible exact v_slcS | with_reducible exact e_int | with_reducible exact e_bl | with_reducible exact e_str | with_reducible exact e_non | with_reducible exact a_nil | with_reducible exact o_nil | with_reducible exact g_name | with_reducible exact gs_nil | with_reducible exact b_add | with_reducible exact b_sub | with_reducible exact u_neg | with_reducible exact c_lt | with_reducible exact c_le | with_reducible exact c_gt | with_reducible exact c_ge | with_reducible exact c_eqI | with_reducible exact c_neI | with_reducible exact c_eqS | with_reducible exact c_neS | ((with_reducible apply e_var); exact rfl) | ((with_reducible apply e_glb); exact rfl) | ((with_reducible apply x_tup); exact rfl) | ((with_reducible apply x_lst); exact rfl) | with_reducible apply a_cons | with_reducible apply e_bin | with_reducible apply e_un | with_reducible apply e_idx | with_reducible apply e_call | with_reducible apply e_blt | with_reducible apply e_cmp | with_reducible apply e_slc | with_reducible apply e_frz | with_reducible apply e_one | with_reducible apply e_not | with_reducible apply t_cmp | with_reducible apply t_not | with_reducible apply t_one | with_reducible apply t_ex | with_reducible apply o_cons | with_reducible apply g_tup | with_reducible apply gs_cons | with_reducible apply g_sub | with_reducible apply e_tupS | with_reducible apply e_dspS | ((with_reducible apply LS_mk); exact rfl) | with_reducible refine' t_and ?_ (fun _ => ?_) | with_reducible refine' t_or ?_ (fun _ => ?_) | with_reducible refine' e_and ?_ (fun _ => ?_) | with_reducible refine' e_or ?_ (fun _ => ?_) | ((with_reducible apply b_powL); decide) | ((with_reducible apply b_pow); decide) | ((with_reducible apply b_fdiv); decide) | ((with_reducible apply b_mod); decide) | ((with_reducible apply b_mul); decide) | ((with_reducible apply b_mul); with_reducible assumption) | ((with_reducible apply b_fdiv); with_reducible assumption) | with_reducible apply b_mul | with_reducible apply b_fdiv | with_reducible apply b_mod | with_reducible apply b_shr | with_reducible apply b_cat | with_reducible apply l_str))) ?_
    refine' w_asg (by ((repeat' (first | with_reducible apply c2 | with_reducible apply c3 | with_reducible apply c4 | with_reducible exact l_abs | with_reducible exact l_int | with_reducible exact l_intB | with_reducible exact l_lenT | with_reducible exact l_lenL | with_reducible exact l_lenS | with_reducible exact l_tupL | with_reducible exact l_tupT | with_reducible exact l_max | with_reducible exact l_min | with_reducible exact l_listT | with_reducible exact l_listL | with_reducible exact v_slcT | with_reducible exact l_isTT | with_reducible exact l_isII | with_reducible exact l_isBI | with_reducible exact l_isBB | with_reducible exact l_isSS | with_reducible exact l_isLL | with_reducible exact z_bl | with_reducible exact z_int | with_reducible exact v_slcL | with_reducible exact v_slcS | with_reducible exact e_int | with_reducible exact e_bl | with_reducible exact e_str | with_reducible exact e_non | with_reducible exact a_nil | with_reducible exact o_nil | with_reducible exact g_name | with_reducible exact gs_nil | with_reducible exact b_add | with_reducible exact b_sub | with_reducible exact u_neg | with_reducible exact c_lt | with_reducible exact c_le | with_reducible exact c_gt | with_reducible exact c_ge | with_reducible exact c_eqI | with_reducible exact c_neI | with_reducible exact c_eqS | with_reducible exact c_neS | ((with_reducible apply e_var); exact rfl) | ((with_reducible apply e_glb); exact rfl) | ((with_reducible apply x_tup); exact rfl) | ((with_reducible apply x_lst); exact rfl) | with_reducible apply a_cons | with_reducible apply e_bin | with_reducible apply e_un | with_reducible apply e_idx | with_reducible apply e_call | with_reducible apply e_blt | with_reducible apply e_cmp | with_reducible apply e_slc | with_reducible apply e_frz | with_reducible apply e_one | with_reducible apply e_not | with_reducible apply t_cmp | with_reducible apply t_not | with_reducible apply t_one | with_reducible apply t_ex | with_reducible apply o_cons | with_reducible apply g_tup | with_reducible apply gs_cons | with_reducible apply g_sub | with_reducible apply e_tupS | with_reducible apply e_dspS | ((with_reducible apply LS_mk); exact rfl) | with_reducible refine' t_and ?_ (fun _ => ?_) | with_reducible refine' t_or ?_ (fun _ => ?_) | with_reducible refine' e_and ?_ (fun _ => ?_) | with_reducible refine' e_or ?_ (fun _ => ?_) | ((with_reducible apply b_powL); decide) | ((with_reducible apply b_pow); decide) | ((with_reducible apply b_fdiv); decide) | ((with_reducible apply b_mod); decide) | ((with_reducible apply b_mul); decide) | ((with_reducible apply b_mul); with_reducible assumption) | ((with_reducible apply b_fdiv); with_reducible assumption) | with_reducible apply b_mul | with_reducible apply b_fdiv | with_reducible apply b_mod | with_reducible apply b_shr | with_reducible apply b_cat | with_reducible apply l_str))); all_goals exact mulOk_sz (stir_sz _ _) (Sz.lit (by decide)) (by decide)) ?_
    have e100 : (2 : Nat) ^ 101 = 2535301200456458802993406410752 := by decide
    have sf : Sz 101 (stir c (j + 1) + stir c (j + 2) * 10 ^ 8 + stir c (j + 3) * 10 ^ 16) := by
      unfold Sz
      rw [e100]
      omega
    refine w_asgX (fun d => ∃ v, d = .int v ∧ Sz 101 v) ?_ ?_
    · refine' e_idxMod (m := 6) (by ((repeat' (first | with_reducible exact l_abs | with_reducible exact l_int | with_reducible exact l_intB | with_reducible exact l_lenT | with_reducible exact l_lenL | with_reducible exact l_lenS | with_reducible exact l_tupL | with_reducible exact l_tupT | with_reducible exact l_max | with_reducible exact l_min | with_reducible exact l_listT | with_reducible exact l_listL | with_reducible exact v_slcT | with_reducible exact l_isTT | with_reducible exact l_isII | with_reducible exact l_isBI | with_reducible exact l_isBB | with_reducible exact l_isSS | with_reducible exact l_isLL | with_reducible exact z_bl | with_reducible exact z_int | with_reducible exact v_slcL | with_reducible exact v_slcS | with_reducible exact e_int | with_reducible exact e_bl | with_reducible exact e_str | with_reducible exact e_non | with_reducible exact a_nil | with_reducible exact o_nil | with_reducible exact g_name | with_reducible exact gs_nil | with_reducible exact b_add | with_reducible exact b_sub | with_reducible exact u_neg | with_reducible exact c_lt | with_reducible exact c_le | with_reducible exact c_gt | with_reducible exact c_ge | with_reducible exact c_eqI | with_reducible exact c_neI | with_reducible exact c_eqS | with_reducible exact c_neS | ((with_reducible apply e_var); exact rfl) | ((with_reducible apply e_glb); exact rfl) | ((with_reducible apply x_tup); exact rfl) | ((with_reducible apply x_lst); exact rfl) | with_reducible apply a_cons | with_reducible apply e_bin | with_reducible apply e_un | with_reducible apply e_idx | with_reducible apply e_call | with_reducible apply e_blt | with_reducible apply e_cmp | with_reducible apply e_slc | with_reducible apply e_frz | with_reducible apply e_one | with_reducible apply e_not | with_reducible apply t_cmp | with_reducible apply t_not | with_reducible apply t_one | with_reducible apply t_ex | with_reducible apply o_cons | with_reducible apply g_tup | with_reducible apply gs_cons | with_reducible apply g_sub | with_reducible apply e_tupS | with_reducible apply e_dspS | ((with_reducible apply LS_mk); exact rfl) | with_reducible refine' t_and ?_ (fun _ => ?_) | with_reducible refine' t_or ?_ (fun _ => ?_) | with_reducible refine' e_and ?_ (fun _ => ?_) | with_reducible refine' e_or ?_ (fun _ => ?_) | ((with_reducible apply b_powL); decide) | ((with_reducible apply b_pow); decide) | ((with_reducible apply b_fdiv); decide) | ((with_reducible apply b_mod); decide) | ((with_reducible apply b_mul); decide) | ((with_reducible apply b_mul); with_reducible assumption) | ((with_reducible apply b_fdiv); with_reducible assumption) | with_reducible apply b_mul | with_reducible apply b_fdiv | with_reducible apply b_mod | with_reducible apply b_shr | with_reducible apply b_cat | with_reducible apply l_str))); exact mulOk_sz sf (Sz.lit (by decide)) (by decide)) (by (repeat' (first | with_reducible exact l_abs | with_reducible exact l_int | with_reducible exact l_intB | with_reducible exact l_lenT | with_reducible exact l_lenL | with_reducible exact l_lenS | with_reducible exact l_tupL | with_reducible exact l_tupT | with_reducible exact l_max | with_reducible exact l_min | with_reducible exact l_listT | with_reducible exact l_listL | with_reducible exact v_slcT | with_reducible exact l_isTT | with_reducible exact l_isII | with_reducible exact l_isBI | with_reducible exact l_isBB | with_reducible exact l_isSS | with_reducible exact l_isLL | with_reducible exact z_bl | with_reducible exact z_int | with_reducible exact v_slcL | with_reducible exact v_slcS | with_reducible exact e_int | with_reducible exact e_bl | with_reducible exact e_str | with_reducible exact e_non | with_reducible exact a_nil | with_reducible exact o_nil | with_reducible exact g_name | with_reducible exact gs_nil | with_reducible exact b_add | with_reducible exact b_sub | with_reducible exact u_neg | with_reducible exact c_lt | with_reducible exact c_le | with_reducible exact c_gt | with_reducible exact c_ge | with_reducible exact c_eqI | with_reducible exact c_neI | with_reducible exact c_eqS | with_reducible exact c_neS | ((with_reducible apply e_var); exact rfl) | ((with_reducible apply e_glb); exact rfl) | ((with_reducible apply x_tup); exact rfl) | ((with_reducible apply x_lst); exact rfl) | with_reducible apply a_cons | with_reducible apply e_bin | with_reducible apply e_un | with_reducible apply e_idx | with_reducible apply e_call | with_reducible apply e_blt | with_reducible apply e_cmp | with_reducible apply e_slc | with_reducible apply e_frz | with_reducible apply e_one | with_reducible apply e_not | with_reducible apply t_cmp | with_reducible apply t_not | with_reducible apply t_one | with_reducible apply t_ex | with_reducible apply o_cons | with_reducible apply g_tup | with_reducible apply gs_cons | with_reducible apply g_sub | with_reducible apply e_tupS | with_reducible apply e_dspS | ((with_reducible apply LS_mk); exact rfl) | with_reducible refine' t_and ?_ (fun _ => ?_) | with_reducible refine' t_or ?_ (fun _ => ?_) | with_reducible refine' e_and ?_ (fun _ => ?_) | with_reducible refine' e_or ?_ (fun _ => ?_) | ((with_reducible apply b_powL); decide) | ((with_reducible apply b_pow); decide) | ((with_reducible apply b_fdiv); decide) | ((with_reducible apply b_mod); decide) | ((with_reducible apply b_mul); decide) | ((with_reducible apply b_mul); with_reducible assumption) | ((with_reducible apply b_fdiv); with_reducible assumption) | with_reducible apply b_mul | with_reducible apply b_fdiv | with_reducible apply b_mod | with_reducible apply b_shr | with_reducible apply b_cat | with_reducible apply l_str))) (by decide) rfl (fun d h2 => ?_)
      simp only [List.mem_cons, List.not_mem_nil, or_false] at h2
      rcases h2 with rfl | rfl | rfl | rfl | rfl | rfl <;> refine ⟨_, rfl, ?_⟩
      · exact Sz.fmod (by decide) (by decide)
      · exact Sz.fmod (by decide) (by decide)
      · exact (Sz.fdiv (stir_sz _ _) (by decide)).mono (by decide)
      · exact sf
      · exact Sz.fmod (by decide) (by decide)
      · unfold Sz; decide
    · rintro d ⟨v, rfl, hv⟩
      have b2 := fmod2_bd ((stir c j).fdiv 6)
      have s2 : Sz 2 (1 - ((stir c j).fdiv 6).fmod 2 * 2) := by unfold Sz; omega
      have hone : (1 - ((stir c j).fdiv 6).fmod 2 * 2).natAbs = 1 := by omega
      refine' w_ret (by ((repeat' (first | with_reducible exact l_abs | with_reducible exact l_int | with_reducible exact l_intB | with_reducible exact l_lenT | with_reducible exact l_lenL | with_reducible exact l_lenS | with_reducible exact l_tupL | with_reducible exact l_tupT | with_reducible exact l_max | with_reducible exact l_min | with_reducible exact l_listT | with_reducible exact l_listL | with_reducible exact v_slcT | with_reducible exact l_isTT | with_reducible exact l_isII | with_reducible exact l_isBI | with_reducible exact l_isBB | with_reducible exact l_isSS | with_reducible exact l_isLL | with_reducible exact z_bl | with_reducible exact z_int | with_reducible exact v_slcL | with_reducible exact v_slcS | with_reducible exact e_int | with_reducible exact e_bl | with_reducible exact e_str | with_reducible exact e_non | with_reducible exact a_nil | with_reducible exact o_nil | with_reducible exact g_name | with_reducible exact gs_nil | with_reducible exact b_add | with_reducible exact b_sub | with_reducible exact u_neg | with_reducible exact c_lt | with_reducible exact c_le | with_reducible exact c_gt | with_reducible exact c_ge | with_reducible exact c_eqI | with_reducible exact c_neI | with_reducible exact c_eqS | with_reducible exact c_neS | ((with_reducible apply e_var); exact rfl) | ((with_reducible apply e_glb); exact rfl) | ((with_reducible apply x_tup); exact rfl) | ((with_reducible apply x_lst); exact rfl) | with_reducible apply a_cons | with_reducible apply e_bin | with_reducible apply e_un | with_reducible apply e_idx | with_reducible apply e_call | with_reducible apply e_blt | with_reducible apply e_cmp | with_reducible apply e_slc | with_reducible apply e_frz | with_reducible apply e_one | with_reducible apply e_not | with_reducible apply t_cmp | with_reducible apply t_not | with_reducible apply t_one | with_reducible apply t_ex | with_reducible apply o_cons | with_reducible apply g_tup | with_reducible apply gs_cons | with_reducible apply g_sub | with_reducible apply e_tupS | with_reducible apply e_dspS | ((with_reducible apply LS_mk); exact rfl) | with_reducible refine' t_and ?_ (fun _ => ?_) | with_reducible refine' t_or ?_ (fun _ => ?_) | with_reducible refine' e_and ?_ (fun _ => ?_) | with_reducible refine' e_or ?_ (fun _ => ?_) | ((with_reducible apply b_powL); decide) | ((with_reducible apply b_pow); decide) | ((with_reducible apply b_fdiv); decide) | ((with_reducible apply b_mod); decide) | ((with_reducible apply b_mul); decide) | ((with_reducible apply b_mul); with_reducible assumption) | ((with_reducible apply b_fdiv); with_reducible assumption) | with_reducible apply b_mul | with_reducible apply b_fdiv | with_reducible apply b_mod | with_reducible apply b_shr | with_reducible apply b_cat | with_reducible apply l_str))); all_goals first | exact mulOk_sz (Sz.fmodL (by decide) (by decide)) (Sz.lit (by decide)) (by decide) | exact mulOk_sz hv s2 (by decide)) ⟨rfl, _, rfl, ?_⟩
      unfold Sz at *
      rw [Int.natAbs_mul, hone, Nat.mul_one]
      exact hv
  obtain ⟨d, h1, v, rfl, h2⟩ := w
  exact ⟨v, h1, h2⟩
theorem sp_made3 (hi : fs[i]? = some (T_law_made u v)) {a b : Nat} (hu : fs[u]? = some (T_law_number a)) (ha : fs[a]? = some T_law_stir) (hv : fs[v]? = some (T_make b)) (hb : fs[b]? = some T_divisor) (c : Int) (hc : Sz 1048577 c) : ∃ r, run gs fs (k + 3) i [.int c] st = some (encQ r, st) ∧ Szq 101 r := by
  obtain ⟨d, e1, s1⟩ := sp_number101 (gs := gs) k st hu ha c 11 hc (by decide) (by decide)
  obtain ⟨n, e2, s2⟩ := sp_number101 (gs := gs) k st hu ha c 1 hc (by decide) (by decide)
  have w : ∃ d, run gs fs (k + 3) i [.int c] st = some (d, st) ∧ ∃ r, d = encQ r ∧ Szq 101 r := by
    refine run_wp (T_law_made u v) hi rfl _ ?_
    refine' w_asg (by (repeat' (first | with_reducible apply e1 | with_reducible exact l_abs | with_reducible exact l_int | with_reducible exact l_intB | with_reducible exact l_lenT | with_reducible exact l_lenL | with_reducible exact l_lenS | with_reducible exact l_tupL | with_reducible exact l_tupT | with_reducible exact l_max | with_reducible exact l_min | with_reducible exact l_listT | with_reducible exact l_listL | with_reducible exact v_slcT | with_reducible exact l_isTT | with_reducible exact l_isII | with_reducible exact l_isBI | with_reducible exact l_isBB | with_reducible exact l_isSS | with_reducible exact l_isLL | with_reducible exact z_bl | with_reducible exact z_int | with_reducible exact v_slcL | with_reducible exact v_slcS | with_reducible exact e_int | with_reducible exact e_bl | with_reducible exact e_str | with_reducible exact e_non | with_reducible exact a_nil | with_reducible exact o_nil | with_reducible exact g_name | with_reducible exact gs_nil | with_reducible exact b_add | with_reducible exact b_sub | with_reducible exact u_neg | with_reducible exact c_lt | with_reducible exact c_le | with_reducible exact c_gt | with_reducible exact c_ge | with_reducible exact c_eqI | with_reducible exact c_neI | with_reducible exact c_eqS | with_reducible exact c_neS | ((with_reducible apply e_var); exact rfl) | ((with_reducible apply e_glb); exact rfl) | ((with_reducible apply x_tup); exact rfl) | ((with_reducible apply x_lst); exact rfl) | with_reducible apply a_cons | with_reducible apply e_bin | with_reducible apply e_un | with_reducible apply e_idx | with_reducible apply e_call | with_reducible apply e_blt | with_reducible apply e_cmp | with_reducible apply e_slc | with_reducible apply e_frz | with_reducible apply e_one | with_reducible apply e_not | with_reducible apply t_cmp | with_reducible apply t_not | with_reducible apply t_one | with_reducible apply t_ex | with_reducible apply o_cons | with_reducible apply g_tup | with_reducible apply gs_cons | with_reducible apply g_sub | with_reducible apply e_tupS | with_reducible apply e_dspS | ((with_reducible apply LS_mk); exact rfl) | with_reducible refine' t_and ?_ (fun _ => ?_) | with_reducible refine' t_or ?_ (fun _ => ?_) | with_reducible refine' e_and ?_ (fun _ => ?_) | with_reducible refine' e_or ?_ (fun _ => ?_) | ((with_reducible apply b_powL); decide) | ((with_reducible apply b_pow); decide) | ((with_reducible apply b_fdiv); decide) | ((with_reducible apply b_mod); decide) | ((with_reducible apply b_mul); decide) | ((with_reducible apply b_mul); with_reducible assumption) | ((with_reducible apply b_fdiv); with_reducible assumption) | with_reducible apply b_mul | with_reducible apply b_fdiv | with_reducible apply b_mod | with_reducible apply b_shr | with_reducible apply b_cat | with_reducible apply l_str))) ?_
    refine' w_ifR (fun σ st' => st' = st ∧ ∃ d, σ = [some (.int c), some (.int d)] ∧ d ≠ 0 ∧ Sz 101 d) (by (repeat' (first | with_reducible exact l_abs | with_reducible exact l_int | with_reducible exact l_intB | with_reducible exact l_lenT | with_reducible exact l_lenL | with_reducible exact l_lenS | with_reducible exact l_tupL | with_reducible exact l_tupT | with_reducible exact l_max | with_reducible exact l_min | with_reducible exact l_listT | with_reducible exact l_listL | with_reducible exact v_slcT | with_reducible exact l_isTT | with_reducible exact l_isII | with_reducible exact l_isBI | with_reducible exact l_isBB | with_reducible exact l_isSS | with_reducible exact l_isLL | with_reducible exact z_bl | with_reducible exact z_int | with_reducible exact v_slcL | with_reducible exact v_slcS | with_reducible exact e_int | with_reducible exact e_bl | with_reducible exact e_str | with_reducible exact e_non | with_reducible exact a_nil | with_reducible exact o_nil | with_reducible exact g_name | with_reducible exact gs_nil | with_reducible exact b_add | with_reducible exact b_sub | with_reducible exact u_neg | with_reducible exact c_lt | with_reducible exact c_le | with_reducible exact c_gt | with_reducible exact c_ge | with_reducible exact c_eqI | with_reducible exact c_neI | with_reducible exact c_eqS | with_reducible exact c_neS | ((with_reducible apply e_var); exact rfl) | ((with_reducible apply e_glb); exact rfl) | ((with_reducible apply x_tup); exact rfl) | ((with_reducible apply x_lst); exact rfl) | with_reducible apply a_cons | with_reducible apply e_bin | with_reducible apply e_un | with_reducible apply e_idx | with_reducible apply e_call | with_reducible apply e_blt | with_reducible apply e_cmp | with_reducible apply e_slc | with_reducible apply e_frz | with_reducible apply e_one | with_reducible apply e_not | with_reducible apply t_cmp | with_reducible apply t_not | with_reducible apply t_one | with_reducible apply t_ex | with_reducible apply o_cons | with_reducible apply g_tup | with_reducible apply gs_cons | with_reducible apply g_sub | with_reducible apply e_tupS | with_reducible apply e_dspS | ((with_reducible apply LS_mk); exact rfl) | with_reducible refine' t_and ?_ (fun _ => ?_) | with_reducible refine' t_or ?_ (fun _ => ?_) | with_reducible refine' e_and ?_ (fun _ => ?_) | with_reducible refine' e_or ?_ (fun _ => ?_) | ((with_reducible apply b_powL); decide) | ((with_reducible apply b_pow); decide) | ((with_reducible apply b_fdiv); decide) | ((with_reducible apply b_mod); decide) | ((with_reducible apply b_mul); decide) | ((with_reducible apply b_mul); with_reducible assumption) | ((with_reducible apply b_fdiv); with_reducible assumption) | with_reducible apply b_mul | with_reducible apply b_fdiv | with_reducible apply b_mod | with_reducible apply b_shr | with_reducible apply b_cat | with_reducible apply l_str))) rfl rfl (fun _ => ?_) (fun h => ?_) ?_
    · refine' w_asg (by (repeat' (first | with_reducible exact l_abs | with_reducible exact l_int | with_reducible exact l_intB | with_reducible exact l_lenT | with_reducible exact l_lenL | with_reducible exact l_lenS | with_reducible exact l_tupL | with_reducible exact l_tupT | with_reducible exact l_max | with_reducible exact l_min | with_reducible exact l_listT | with_reducible exact l_listL | with_reducible exact v_slcT | with_reducible exact l_isTT | with_reducible exact l_isII | with_reducible exact l_isBI | with_reducible exact l_isBB | with_reducible exact l_isSS | with_reducible exact l_isLL | with_reducible exact z_bl | with_reducible exact z_int | with_reducible exact v_slcL | with_reducible exact v_slcS | with_reducible exact e_int | with_reducible exact e_bl | with_reducible exact e_str | with_reducible exact e_non | with_reducible exact a_nil | with_reducible exact o_nil | with_reducible exact g_name | with_reducible exact gs_nil | with_reducible exact b_add | with_reducible exact b_sub | with_reducible exact u_neg | with_reducible exact c_lt | with_reducible exact c_le | with_reducible exact c_gt | with_reducible exact c_ge | with_reducible exact c_eqI | with_reducible exact c_neI | with_reducible exact c_eqS | with_reducible exact c_neS | ((with_reducible apply e_var); exact rfl) | ((with_reducible apply e_glb); exact rfl) | ((with_reducible apply x_tup); exact rfl) | ((with_reducible apply x_lst); exact rfl) | with_reducible apply a_cons | with_reducible apply e_bin | with_reducible apply e_un | with_reducible apply e_idx | with_reducible apply e_call | with_reducible apply e_blt | with_reducible apply e_cmp | with_reducible apply e_slc | with_reducible apply e_frz | with_reducible apply e_one | with_reducible apply e_not | with_reducible apply t_cmp | with_reducible apply t_not | with_reducible apply t_one | with_reducible apply t_ex | with_reducible apply o_cons | with_reducible apply g_tup | with_reducible apply gs_cons | with_reducible apply g_sub | with_reducible apply e_tupS | with_reducible apply e_dspS | ((with_reducible apply LS_mk); exact rfl) | with_reducible refine' t_and ?_ (fun _ => ?_) | with_reducible refine' t_or ?_ (fun _ => ?_) | with_reducible refine' e_and ?_ (fun _ => ?_) | with_reducible refine' e_or ?_ (fun _ => ?_) | ((with_reducible apply b_powL); decide) | ((with_reducible apply b_pow); decide) | ((with_reducible apply b_fdiv); decide) | ((with_reducible apply b_mod); decide) | ((with_reducible apply b_mul); decide) | ((with_reducible apply b_mul); with_reducible assumption) | ((with_reducible apply b_fdiv); with_reducible assumption) | with_reducible apply b_mul | with_reducible apply b_fdiv | with_reducible apply b_mod | with_reducible apply b_shr | with_reducible apply b_cat | with_reducible apply l_str))) (w_nil ⟨rfl, _, rfl, by decide, by unfold Sz; decide⟩)
    · exact w_nil ⟨rfl, d, rfl, by simpa using h, s1⟩
    · rintro σ st' ⟨rfl, d, rfl, d0, sd⟩
      have c1 := sq_make (gs := gs) k st' hv hb n d d0 (sd.mono (by decide))
      refine' w_ret (by (repeat' (first | with_reducible apply e2 | with_reducible apply c1 | with_reducible exact l_abs | with_reducible exact l_int | with_reducible exact l_intB | with_reducible exact l_lenT | with_reducible exact l_lenL | with_reducible exact l_lenS | with_reducible exact l_tupL | with_reducible exact l_tupT | with_reducible exact l_max | with_reducible exact l_min | with_reducible exact l_listT | with_reducible exact l_listL | with_reducible exact v_slcT | with_reducible exact l_isTT | with_reducible exact l_isII | with_reducible exact l_isBI | with_reducible exact l_isBB | with_reducible exact l_isSS | with_reducible exact l_isLL | with_reducible exact z_bl | with_reducible exact z_int | with_reducible exact v_slcL | with_reducible exact v_slcS | with_reducible exact e_int | with_reducible exact e_bl | with_reducible exact e_str | with_reducible exact e_non | with_reducible exact a_nil | with_reducible exact o_nil | with_reducible exact g_name | with_reducible exact gs_nil | with_reducible exact b_add | with_reducible exact b_sub | with_reducible exact u_neg | with_reducible exact c_lt | with_reducible exact c_le | with_reducible exact c_gt | with_reducible exact c_ge | with_reducible exact c_eqI | with_reducible exact c_neI | with_reducible exact c_eqS | with_reducible exact c_neS | ((with_reducible apply e_var); exact rfl) | ((with_reducible apply e_glb); exact rfl) | ((with_reducible apply x_tup); exact rfl) | ((with_reducible apply x_lst); exact rfl) | with_reducible apply a_cons | with_reducible apply e_bin | with_reducible apply e_un | with_reducible apply e_idx | with_reducible apply e_call | with_reducible apply e_blt | with_reducible apply e_cmp | with_reducible apply e_slc | with_reducible apply e_frz | with_reducible apply e_one | with_reducible apply e_not | with_reducible apply t_cmp | with_reducible apply t_not | with_reducible apply t_one | with_reducible apply t_ex | with_reducible apply o_cons | with_reducible apply g_tup | with_reducible apply gs_cons | with_reducible apply g_sub | with_reducible apply e_tupS | with_reducible apply e_dspS | ((with_reducible apply LS_mk); exact rfl) | with_reducible refine' t_and ?_ (fun _ => ?_) | with_reducible refine' t_or ?_ (fun _ => ?_) | with_reducible refine' e_and ?_ (fun _ => ?_) | with_reducible refine' e_or ?_ (fun _ => ?_) | ((with_reducible apply b_powL); decide) | ((with_reducible apply b_pow); decide) | ((with_reducible apply b_fdiv); decide) | ((with_reducible apply b_mod); decide) | ((with_reducible apply b_mul); decide) | ((with_reducible apply b_mul); with_reducible assumption) | ((with_reducible apply b_fdiv); with_reducible assumption) | with_reducible apply b_mul | with_reducible apply b_fdiv | with_reducible apply b_mod | with_reducible apply b_shr | with_reducible apply b_cat | with_reducible apply l_str))) ?_
      exact ⟨rfl, _, rfl, q_div d0 s2 sd⟩
  obtain ⟨d, h1, r, rfl, h2⟩ := w
  exact ⟨r, h1, h2⟩
theorem drop_at' {α : Type} {xs : List α} {i : Nat} {x : α} (h : xs[i]? = some x) : xs.drop i = x :: xs.drop (i + 1) := drop_at h
theorem sp_sum (hi : fs[i]? = some (T_law_sum v u)) {b : Nat} (hu : fs[u]? = some (T_plus v)) (hv : fs[v]? = some (T_make b)) (hb : fs[b]? = some T_divisor) {qs : List Rat} {M : Nat} (hq : ∀ q ∈ qs, Szq M q) (hM : 128 + (M + 1) * (qs.length + 1) ≤ 8000) :
    run gs fs (k + 4) i [.lst (qs.map encQ)] st = some (encQ (sumQ qs), st) ∧ Szq (128 + (M + 1) * qs.length) (sumQ qs) := by
  have w : ∃ d, run gs fs (k + 4) i [.lst (qs.map encQ)] st = some (d, st) ∧ (d = encQ (sumQ qs) ∧ Szq (128 + (M + 1) * qs.length) (sumQ qs)) := by
    have c1 := sq_make (gs := gs) (k + 1) st hv hb 0 1 (by decide) ((Sz.lit (by decide)).mono (by decide))
    have e0 : ((0 : Int) : Rat) / ((1 : Int) : Rat) = 0 := by grind
    rw [e0] at c1
    refine run_wp (T_law_sum v u) hi rfl _ ?_
    refine' w_asg (by (repeat' (first | with_reducible apply c1 | with_reducible exact l_abs | with_reducible exact l_int | with_reducible exact l_intB | with_reducible exact l_lenT | with_reducible exact l_lenL | with_reducible exact l_lenS | with_reducible exact l_tupL | with_reducible exact l_tupT | with_reducible exact l_max | with_reducible exact l_min | with_reducible exact l_listT | with_reducible exact l_listL | with_reducible exact v_slcT | with_reducible exact l_isTT | with_reducible exact l_isII | with_reducible exact l_isBI | with_reducible exact l_isBB | with_reducible exact l_isSS | with_reducible exact l_isLL | with_reducible exact z_bl | with_reducible exact z_int | with_reducible exact v_slcL | with_reducible exact v_slcS | with_reducible exact e_int | with_reducible exact e_bl | with_reducible exact e_str | with_reducible exact e_non | with_reducible exact a_nil | with_reducible exact o_nil | with_reducible exact g_name | with_reducible exact gs_nil | with_reducible exact b_add | with_reducible exact b_sub | with_reducible exact u_neg | with_reducible exact c_lt | with_reducible exact c_le | with_reducible exact c_gt | with_reducible exact c_ge | with_reducible exact c_eqI | with_reducible exact c_neI | with_reducible exact c_eqS | with_reducible exact c_neS | ((with_reducible apply e_var); exact rfl) | ((with_reducible apply e_glb); exact rfl) | ((with_reducible apply x_tup); exact rfl) | ((with_reducible apply x_lst); exact rfl) | with_reducible apply a_cons | with_reducible apply e_bin | with_reducible apply e_un | with_reducible apply e_idx | with_reducible apply e_call | with_reducible apply e_blt | with_reducible apply e_cmp | with_reducible apply e_slc | with_reducible apply e_frz | with_reducible apply e_one | with_reducible apply e_not | with_reducible apply t_cmp | with_reducible apply t_not | with_reducible apply t_one | with_reducible apply t_ex | with_reducible apply o_cons | with_reducible apply g_tup | with_reducible apply gs_cons | with_reducible apply g_sub | with_reducible apply e_tupS | with_reducible apply e_dspS | ((with_reducible apply LS_mk); exact rfl) | with_reducible refine' t_and ?_ (fun _ => ?_) | with_reducible refine' t_or ?_ (fun _ => ?_) | with_reducible refine' e_and ?_ (fun _ => ?_) | with_reducible refine' e_or ?_ (fun _ => ?_) | ((with_reducible apply b_powL); decide) | ((with_reducible apply b_pow); decide) | ((with_reducible apply b_fdiv); decide) | ((with_reducible apply b_mod); decide) | ((with_reducible apply b_mul); decide) | ((with_reducible apply b_mul); with_reducible assumption) | ((with_reducible apply b_fdiv); with_reducible assumption) | with_reducible apply b_mul | with_reducible apply b_fdiv | with_reducible apply b_mod | with_reducible apply b_shr | with_reducible apply b_cat | with_reducible apply l_str))) ?_
    refine w_for (fun j σ st' => st' = st ∧ ∃ (f : Rat) (a : Option D), σ = [some (.lst (qs.map encQ)), some (encQ f), a] ∧ Szq (128 + (M + 1) * j) f ∧ f + sumQ (qs.drop j) = sumQ qs) (i_lst (by (repeat' (first | with_reducible exact l_abs | with_reducible exact l_int | with_reducible exact l_intB | with_reducible exact l_lenT | with_reducible exact l_lenL | with_reducible exact l_lenS | with_reducible exact l_tupL | with_reducible exact l_tupT | with_reducible exact l_max | with_reducible exact l_min | with_reducible exact l_listT | with_reducible exact l_listL | with_reducible exact v_slcT | with_reducible exact l_isTT | with_reducible exact l_isII | with_reducible exact l_isBI | with_reducible exact l_isBB | with_reducible exact l_isSS | with_reducible exact l_isLL | with_reducible exact z_bl | with_reducible exact z_int | with_reducible exact v_slcL | with_reducible exact v_slcS | with_reducible exact e_int | with_reducible exact e_bl | with_reducible exact e_str | with_reducible exact e_non | with_reducible exact a_nil | with_reducible exact o_nil | with_reducible exact g_name | with_reducible exact gs_nil | with_reducible exact b_add | with_reducible exact b_sub | with_reducible exact u_neg | with_reducible exact c_lt | with_reducible exact c_le | with_reducible exact c_gt | with_reducible exact c_ge | with_reducible exact c_eqI | with_reducible exact c_neI | with_reducible exact c_eqS | with_reducible exact c_neS | ((with_reducible apply e_var); exact rfl) | ((with_reducible apply e_glb); exact rfl) | ((with_reducible apply x_tup); exact rfl) | ((with_reducible apply x_lst); exact rfl) | with_reducible apply a_cons | with_reducible apply e_bin | with_reducible apply e_un | with_reducible apply e_idx | with_reducible apply e_call | with_reducible apply e_blt | with_reducible apply e_cmp | with_reducible apply e_slc | with_reducible apply e_frz | with_reducible apply e_one | with_reducible apply e_not | with_reducible apply t_cmp | with_reducible apply t_not | with_reducible apply t_one | with_reducible apply t_ex | with_reducible apply o_cons | with_reducible apply g_tup | with_reducible apply gs_cons | with_reducible apply g_sub | with_reducible apply e_tupS | with_reducible apply e_dspS | ((with_reducible apply LS_mk); exact rfl) | with_reducible refine' t_and ?_ (fun _ => ?_) | with_reducible refine' t_or ?_ (fun _ => ?_) | with_reducible refine' e_and ?_ (fun _ => ?_) | with_reducible refine' e_or ?_ (fun _ => ?_) | ((with_reducible apply b_powL); decide) | ((with_reducible apply b_pow); decide) | ((with_reducible apply b_fdiv); decide) | ((with_reducible apply b_mod); decide) | ((with_reducible apply b_mul); decide) | ((with_reducible apply b_mul); with_reducible assumption) | ((with_reducible apply b_fdiv); with_reducible assumption) | with_reducible apply b_mul | with_reducible apply b_fdiv | with_reducible apply b_mod | with_reducible apply b_shr | with_reducible apply b_cat | with_reducible apply l_str)))) ⟨rfl, 0, _, rfl, (szq_lit (by decide) (by decide)).mono (by omega), by simp only [List.drop_zero]; grind⟩ ?_ ?_
    · rintro j x σ st' hx ⟨rfl, f, a, rfl, sf, hf⟩
      rw [List.getElem?_map, Option.map_eq_some_iff] at hx
      obtain ⟨q, hx, rfl⟩ := hx
      have hj : j < qs.length := (List.getElem?_eq_some_iff.mp hx).1
      have sq := hq q (List.mem_of_getElem? hx)
      rw [drop_at hx, sumQ] at hf
      have hM1 : (M + 1) * (j + 1) = (M + 1) * j + (M + 1) := Nat.mul_succ _ _
      have hM2 : (M + 1) * (j + 1) ≤ (M + 1) * (qs.length + 1) := Nat.mul_le_mul_left _ (by omega)
      have c2 := sq_plus (gs := gs) k st' hu hv hb sf sq (by omega)
      refine ⟨_, _, g_name, ?_⟩
      refine' w_asg (by (repeat' (first | with_reducible apply c2 | with_reducible exact l_abs | with_reducible exact l_int | with_reducible exact l_intB | with_reducible exact l_lenT | with_reducible exact l_lenL | with_reducible exact l_lenS | with_reducible exact l_tupL | with_reducible exact l_tupT | with_reducible exact l_max | with_reducible exact l_min | with_reducible exact l_listT | with_reducible exact l_listL | with_reducible exact v_slcT | with_reducible exact l_isTT | with_reducible exact l_isII | with_reducible exact l_isBI | with_reducible exact l_isBB | with_reducible exact l_isSS | with_reducible exact l_isLL | with_reducible exact z_bl | with_reducible exact z_int | with_reducible exact v_slcL | with_reducible exact v_slcS | with_reducible exact e_int | with_reducible exact e_bl | with_reducible exact e_str | with_reducible exact e_non | with_reducible exact a_nil | with_reducible exact o_nil | with_reducible exact g_name | with_reducible exact gs_nil | with_reducible exact b_add | with_reducible exact b_sub | with_reducible exact u_neg | with_reducible exact c_lt | with_reducible exact c_le | with_reducible exact c_gt | with_reducible exact c_ge | with_reducible exact c_eqI | with_reducible exact c_neI | with_reducible exact c_eqS | with_reducible exact c_neS | ((with_reducible apply e_var); exact rfl) | ((with_reducible apply e_glb); exact rfl) | ((with_reducible apply x_tup); exact rfl) | ((with_reducible apply x_lst); exact rfl) | with_reducible apply a_cons | with_reducible apply e_bin | with_reducible apply e_un | with_reducible apply e_idx | with_reducible apply e_call | with_reducible apply e_blt | with_reducible apply e_cmp | with_reducible apply e_slc | with_reducible apply e_frz | with_reducible apply e_one | with_reducible apply e_not | with_reducible apply t_cmp | with_reducible apply t_not | with_reducible apply t_one | with_reducible apply t_ex | with_reducible apply o_cons | with_reducible apply g_tup | with_reducible apply gs_cons | with_reducible apply g_sub | with_reducible apply e_tupS | with_reducible apply e_dspS | ((with_reducible apply LS_mk); exact rfl) | with_reducible refine' t_and ?_ (fun _ => ?_) | with_reducible refine' t_or ?_ (fun _ => ?_) | with_reducible refine' e_and ?_ (fun _ => ?_) | with_reducible refine' e_or ?_ (fun _ => ?_) | ((with_reducible apply b_powL); decide) | ((with_reducible apply b_pow); decide) | ((with_reducible apply b_fdiv); decide) | ((with_reducible apply b_mod); decide) | ((with_reducible apply b_mul); decide) | ((with_reducible apply b_mul); with_reducible assumption) | ((with_reducible apply b_fdiv); with_reducible assumption) | with_reducible apply b_mul | with_reducible apply b_fdiv | with_reducible apply b_mod | with_reducible apply b_shr | with_reducible apply b_cat | with_reducible apply l_str))) ?_
      exact w_nil ⟨rfl, f + q, _, rfl, (sf.add sq).mono (by omega), by rw [← hf]; grind⟩
    · rintro σ st' ⟨rfl, f, a, rfl, sf, hf⟩
      rw [List.length_map] at sf hf
      rw [List.drop_eq_nil_of_le (Nat.le_refl _), sumQ] at hf
      have e : f = sumQ qs := by rw [← hf]; grind
      refine' w_ret (by (repeat' (first | with_reducible exact l_abs | with_reducible exact l_int | with_reducible exact l_intB | with_reducible exact l_lenT | with_reducible exact l_lenL | with_reducible exact l_lenS | with_reducible exact l_tupL | with_reducible exact l_tupT | with_reducible exact l_max | with_reducible exact l_min | with_reducible exact l_listT | with_reducible exact l_listL | with_reducible exact v_slcT | with_reducible exact l_isTT | with_reducible exact l_isII | with_reducible exact l_isBI | with_reducible exact l_isBB | with_reducible exact l_isSS | with_reducible exact l_isLL | with_reducible exact z_bl | with_reducible exact z_int | with_reducible exact v_slcL | with_reducible exact v_slcS | with_reducible exact e_int | with_reducible exact e_bl | with_reducible exact e_str | with_reducible exact e_non | with_reducible exact a_nil | with_reducible exact o_nil | with_reducible exact g_name | with_reducible exact gs_nil | with_reducible exact b_add | with_reducible exact b_sub | with_reducible exact u_neg | with_reducible exact c_lt | with_reducible exact c_le | with_reducible exact c_gt | with_reducible exact c_ge | with_reducible exact c_eqI | with_reducible exact c_neI | with_reducible exact c_eqS | with_reducible exact c_neS | ((with_reducible apply e_var); exact rfl) | ((with_reducible apply e_glb); exact rfl) | ((with_reducible apply x_tup); exact rfl) | ((with_reducible apply x_lst); exact rfl) | with_reducible apply a_cons | with_reducible apply e_bin | with_reducible apply e_un | with_reducible apply e_idx | with_reducible apply e_call | with_reducible apply e_blt | with_reducible apply e_cmp | with_reducible apply e_slc | with_reducible apply e_frz | with_reducible apply e_one | with_reducible apply e_not | with_reducible apply t_cmp | with_reducible apply t_not | with_reducible apply t_one | with_reducible apply t_ex | with_reducible apply o_cons | with_reducible apply g_tup | with_reducible apply gs_cons | with_reducible apply g_sub | with_reducible apply e_tupS | with_reducible apply e_dspS | ((with_reducible apply LS_mk); exact rfl) | with_reducible refine' t_and ?_ (fun _ => ?_) | with_reducible refine' t_or ?_ (fun _ => ?_) | with_reducible refine' e_and ?_ (fun _ => ?_) | with_reducible refine' e_or ?_ (fun _ => ?_) | ((with_reducible apply b_powL); decide) | ((with_reducible apply b_pow); decide) | ((with_reducible apply b_fdiv); decide) | ((with_reducible apply b_mod); decide) | ((with_reducible apply b_mul); decide) | ((with_reducible apply b_mul); with_reducible assumption) | ((with_reducible apply b_fdiv); with_reducible assumption) | with_reducible apply b_mul | with_reducible apply b_fdiv | with_reducible apply b_mod | with_reducible apply b_shr | with_reducible apply b_cat | with_reducible apply l_str))) ?_
      exact ⟨rfl, by rw [e], by rw [← e]; exact sf⟩
  obtain ⟨d, e, rfl, q⟩ := w
  exact ⟨e, q⟩
theorem shown_q {x y : Rat} : (txt x.num x.den == txt y.num y.den) = decide (x = y) := by
  rw [Bool.eq_iff_iff, beq_iff_eq, decide_eq_true_iff]
  constructor
  · intro h
    obtain ⟨e1, e2⟩ := txt_inj h
    exact Rat.ext e1 (by omega)
  · intro h; rw [h]
theorem sp_pairright (hi : fs[i]? = some (T_law_pair_right u v w t e g)) {m b : Nat} (hu : fs[u]? = some (T_plus m)) (hv : fs[v]? = some (T_minus m)) (hw : fs[w]? = some (T_times m)) (ht : fs[t]? = some (T_over m)) (he : fs[e]? = some T_below) (hg : fs[g]? = some T_shown) (hm : fs[m]? = some (T_make b)) (hb : fs[b]? = some T_divisor)
    {x y z : Rat} (sx : Szq 101 x) (sy : Szq 101 y) (sz : Szq 101 z) : run gs fs (k + 4) i [encQ x, encQ y, encQ z] st = some (.bl true, st) := by
  have q : ∃ d, run gs fs (k + 4) i [encQ x, encQ y, encQ z] st = some (d, st) ∧ d = .bl true := by
    have p1 := sq_plus (gs := gs) k st hu hm hb sx sy (by decide)
    have p2 := sq_plus (gs := gs) k st hu hm hb sy sx (by decide)
    have m1 := sq_minus (gs := gs) k st hv hm hb sx sy (by decide)
    have mp := sq_minus (gs := gs) k st hv hm hb (sx.add sy) sy (by decide)
    have pm := sq_plus (gs := gs) k st hu hm hb (sx.sub sy) sy (by decide)
    have t1 := sq_times (gs := gs) k st hw hm hb sx sy (by decide)
    have t2 := sq_times (gs := gs) k st hw hm hb sy sx (by decide)
    have a1 : x + y - y = x := by grind
    have a2 : x - y + y = x := by grind
    have a3 : y + x = x + y := by grind
    have a4 : y * x = x * y := by grind
    rw [a1] at mp
    rw [a2] at pm
    rw [a3] at p2
    rw [a4] at t2
    have ceq : ∀ r s : Rat, gCmp .ne (encQ r) (encQ s) st = some (!decide (r = s), st) := fun r s => by
      rw [c_ne enc_ok enc_ok]
      show some (!eqD (encQ r) (encQ s), st) = _
      rw [eq_q]
    refine run_wp (T_law_pair_right u v w t e g) hi rfl _ ?_
    refine' w_if (by (repeat' (first | with_reducible apply p1 | with_reducible apply mp | with_reducible apply m1 | with_reducible apply pm | with_reducible apply ceq | with_reducible exact l_abs | with_reducible exact l_int | with_reducible exact l_intB | with_reducible exact l_lenT | with_reducible exact l_lenL | with_reducible exact l_lenS | with_reducible exact l_tupL | with_reducible exact l_tupT | with_reducible exact l_max | with_reducible exact l_min | with_reducible exact l_listT | with_reducible exact l_listL | with_reducible exact v_slcT | with_reducible exact l_isTT | with_reducible exact l_isII | with_reducible exact l_isBI | with_reducible exact l_isBB | with_reducible exact l_isSS | with_reducible exact l_isLL | with_reducible exact z_bl | with_reducible exact z_int | with_reducible exact v_slcL | with_reducible exact v_slcS | with_reducible exact e_int | with_reducible exact e_bl | with_reducible exact e_str | with_reducible exact e_non | with_reducible exact a_nil | with_reducible exact o_nil | with_reducible exact g_name | with_reducible exact gs_nil | with_reducible exact b_add | with_reducible exact b_sub | with_reducible exact u_neg | with_reducible exact c_lt | with_reducible exact c_le | with_reducible exact c_gt | with_reducible exact c_ge | with_reducible exact c_eqI | with_reducible exact c_neI | with_reducible exact c_eqS | with_reducible exact c_neS | ((with_reducible apply e_var); exact rfl) | ((with_reducible apply e_glb); exact rfl) | ((with_reducible apply x_tup); exact rfl) | ((with_reducible apply x_lst); exact rfl) | with_reducible apply a_cons | with_reducible apply e_bin | with_reducible apply e_un | with_reducible apply e_idx | with_reducible apply e_call | with_reducible apply e_blt | with_reducible apply e_cmp | with_reducible apply e_slc | with_reducible apply e_frz | with_reducible apply e_one | with_reducible apply e_not | with_reducible apply t_cmp | with_reducible apply t_not | with_reducible apply t_one | with_reducible apply t_ex | with_reducible apply o_cons | with_reducible apply g_tup | with_reducible apply gs_cons | with_reducible apply g_sub | with_reducible apply e_tupS | with_reducible apply e_dspS | ((with_reducible apply LS_mk); exact rfl) | with_reducible refine' t_and ?_ (fun _ => ?_) | with_reducible refine' t_or ?_ (fun _ => ?_) | with_reducible refine' e_and ?_ (fun _ => ?_) | with_reducible refine' e_or ?_ (fun _ => ?_) | ((with_reducible apply b_powL); decide) | ((with_reducible apply b_pow); decide) | ((with_reducible apply b_fdiv); decide) | ((with_reducible apply b_mod); decide) | ((with_reducible apply b_mul); decide) | ((with_reducible apply b_mul); with_reducible assumption) | ((with_reducible apply b_fdiv); with_reducible assumption) | with_reducible apply b_mul | with_reducible apply b_fdiv | with_reducible apply b_mod | with_reducible apply b_shr | with_reducible apply b_cat | with_reducible apply l_str))) rfl rfl (fun h => by simp at h) (fun _ => ?_)
    refine' w_if (by (repeat' (first | with_reducible apply p1 | with_reducible apply p2 | with_reducible apply t1 | with_reducible apply t2 | with_reducible apply ceq | with_reducible exact l_abs | with_reducible exact l_int | with_reducible exact l_intB | with_reducible exact l_lenT | with_reducible exact l_lenL | with_reducible exact l_lenS | with_reducible exact l_tupL | with_reducible exact l_tupT | with_reducible exact l_max | with_reducible exact l_min | with_reducible exact l_listT | with_reducible exact l_listL | with_reducible exact v_slcT | with_reducible exact l_isTT | with_reducible exact l_isII | with_reducible exact l_isBI | with_reducible exact l_isBB | with_reducible exact l_isSS | with_reducible exact l_isLL | with_reducible exact z_bl | with_reducible exact z_int | with_reducible exact v_slcL | with_reducible exact v_slcS | with_reducible exact e_int | with_reducible exact e_bl | with_reducible exact e_str | with_reducible exact e_non | with_reducible exact a_nil | with_reducible exact o_nil | with_reducible exact g_name | with_reducible exact gs_nil | with_reducible exact b_add | with_reducible exact b_sub | with_reducible exact u_neg | with_reducible exact c_lt | with_reducible exact c_le | with_reducible exact c_gt | with_reducible exact c_ge | with_reducible exact c_eqI | with_reducible exact c_neI | with_reducible exact c_eqS | with_reducible exact c_neS | ((with_reducible apply e_var); exact rfl) | ((with_reducible apply e_glb); exact rfl) | ((with_reducible apply x_tup); exact rfl) | ((with_reducible apply x_lst); exact rfl) | with_reducible apply a_cons | with_reducible apply e_bin | with_reducible apply e_un | with_reducible apply e_idx | with_reducible apply e_call | with_reducible apply e_blt | with_reducible apply e_cmp | with_reducible apply e_slc | with_reducible apply e_frz | with_reducible apply e_one | with_reducible apply e_not | with_reducible apply t_cmp | with_reducible apply t_not | with_reducible apply t_one | with_reducible apply t_ex | with_reducible apply o_cons | with_reducible apply g_tup | with_reducible apply gs_cons | with_reducible apply g_sub | with_reducible apply e_tupS | with_reducible apply e_dspS | ((with_reducible apply LS_mk); exact rfl) | with_reducible refine' t_and ?_ (fun _ => ?_) | with_reducible refine' t_or ?_ (fun _ => ?_) | with_reducible refine' e_and ?_ (fun _ => ?_) | with_reducible refine' e_or ?_ (fun _ => ?_) | ((with_reducible apply b_powL); decide) | ((with_reducible apply b_pow); decide) | ((with_reducible apply b_fdiv); decide) | ((with_reducible apply b_mod); decide) | ((with_reducible apply b_mul); decide) | ((with_reducible apply b_mul); with_reducible assumption) | ((with_reducible apply b_fdiv); with_reducible assumption) | with_reducible apply b_mul | with_reducible apply b_fdiv | with_reducible apply b_mod | with_reducible apply b_shr | with_reducible apply b_cat | with_reducible apply l_str))) rfl rfl (fun h => by simp at h) (fun _ => ?_)
    refine' w_if (by
      refine t_and (l := false || false) (by (repeat' (first | with_reducible exact l_abs | with_reducible exact l_int | with_reducible exact l_intB | with_reducible exact l_lenT | with_reducible exact l_lenL | with_reducible exact l_lenS | with_reducible exact l_tupL | with_reducible exact l_tupT | with_reducible exact l_max | with_reducible exact l_min | with_reducible exact l_listT | with_reducible exact l_listL | with_reducible exact v_slcT | with_reducible exact l_isTT | with_reducible exact l_isII | with_reducible exact l_isBI | with_reducible exact l_isBB | with_reducible exact l_isSS | with_reducible exact l_isLL | with_reducible exact z_bl | with_reducible exact z_int | with_reducible exact v_slcL | with_reducible exact v_slcS | with_reducible exact e_int | with_reducible exact e_bl | with_reducible exact e_str | with_reducible exact e_non | with_reducible exact a_nil | with_reducible exact o_nil | with_reducible exact g_name | with_reducible exact gs_nil | with_reducible exact b_add | with_reducible exact b_sub | with_reducible exact u_neg | with_reducible exact c_lt | with_reducible exact c_le | with_reducible exact c_gt | with_reducible exact c_ge | with_reducible exact c_eqI | with_reducible exact c_neI | with_reducible exact c_eqS | with_reducible exact c_neS | ((with_reducible apply e_var); exact rfl) | ((with_reducible apply e_glb); exact rfl) | ((with_reducible apply x_tup); exact rfl) | ((with_reducible apply x_lst); exact rfl) | with_reducible apply a_cons | with_reducible apply e_bin | with_reducible apply e_un | with_reducible apply e_idx | with_reducible apply e_call | with_reducible apply e_blt | with_reducible apply e_cmp | with_reducible apply e_slc | with_reducible apply e_frz | with_reducible apply e_one | with_reducible apply e_not | with_reducible apply t_cmp | with_reducible apply t_not | with_reducible apply t_one | with_reducible apply t_ex | with_reducible apply o_cons | with_reducible apply g_tup | with_reducible apply gs_cons | with_reducible apply g_sub | with_reducible apply e_tupS | with_reducible apply e_dspS | ((with_reducible apply LS_mk); exact rfl) | with_reducible refine' t_and ?_ (fun _ => ?_) | with_reducible refine' t_or ?_ (fun _ => ?_) | with_reducible refine' e_and ?_ (fun _ => ?_) | with_reducible refine' e_or ?_ (fun _ => ?_) | ((with_reducible apply b_powL); decide) | ((with_reducible apply b_pow); decide) | ((with_reducible apply b_fdiv); decide) | ((with_reducible apply b_mod); decide) | ((with_reducible apply b_mul); decide) | ((with_reducible apply b_mul); with_reducible assumption) | ((with_reducible apply b_fdiv); with_reducible assumption) | with_reducible apply b_mul | with_reducible apply b_fdiv | with_reducible apply b_mod | with_reducible apply b_shr | with_reducible apply b_cat | with_reducible apply l_str))) (fun hz => ?_)
      have y0 : y ≠ 0 := fun z => by rw [z] at hz; cases hz
      obtain ⟨o1, so1⟩ := sq_over (gs := gs) k st ht hm hb sx sy y0 (by decide)
      obtain ⟨o2, _⟩ := sq_over (gs := gs) k st ht hm hb (sx.mul sy) sy y0 (by decide)
      have o3 := sq_times (gs := gs) k st hw hm hb so1 sy (by decide)
      have a5 : x * y / y = x := by grind
      have a6 : x / y * y = x := by grind
      rw [a5] at o2
      rw [a6] at o3
      have ce : gCmp .ne (encQ x) (encQ x) st = some (false, st) := by rw [ceq, decide_eq_true rfl]; rfl
      (repeat' (first | with_reducible apply t1 | with_reducible apply o1 | with_reducible apply o2 | with_reducible apply o3 | with_reducible apply ce | with_reducible exact l_abs | with_reducible exact l_int | with_reducible exact l_intB | with_reducible exact l_lenT | with_reducible exact l_lenL | with_reducible exact l_lenS | with_reducible exact l_tupL | with_reducible exact l_tupT | with_reducible exact l_max | with_reducible exact l_min | with_reducible exact l_listT | with_reducible exact l_listL | with_reducible exact v_slcT | with_reducible exact l_isTT | with_reducible exact l_isII | with_reducible exact l_isBI | with_reducible exact l_isBB | with_reducible exact l_isSS | with_reducible exact l_isLL | with_reducible exact z_bl | with_reducible exact z_int | with_reducible exact v_slcL | with_reducible exact v_slcS | with_reducible exact e_int | with_reducible exact e_bl | with_reducible exact e_str | with_reducible exact e_non | with_reducible exact a_nil | with_reducible exact o_nil | with_reducible exact g_name | with_reducible exact gs_nil | with_reducible exact b_add | with_reducible exact b_sub | with_reducible exact u_neg | with_reducible exact c_lt | with_reducible exact c_le | with_reducible exact c_gt | with_reducible exact c_ge | with_reducible exact c_eqI | with_reducible exact c_neI | with_reducible exact c_eqS | with_reducible exact c_neS | ((with_reducible apply e_var); exact rfl) | ((with_reducible apply e_glb); exact rfl) | ((with_reducible apply x_tup); exact rfl) | ((with_reducible apply x_lst); exact rfl) | with_reducible apply a_cons | with_reducible apply e_bin | with_reducible apply e_un | with_reducible apply e_idx | with_reducible apply e_call | with_reducible apply e_blt | with_reducible apply e_cmp | with_reducible apply e_slc | with_reducible apply e_frz | with_reducible apply e_one | with_reducible apply e_not | with_reducible apply t_cmp | with_reducible apply t_not | with_reducible apply t_one | with_reducible apply t_ex | with_reducible apply o_cons | with_reducible apply g_tup | with_reducible apply gs_cons | with_reducible apply g_sub | with_reducible apply e_tupS | with_reducible apply e_dspS | ((with_reducible apply LS_mk); exact rfl) | with_reducible refine' t_and ?_ (fun _ => ?_) | with_reducible refine' t_or ?_ (fun _ => ?_) | with_reducible refine' e_and ?_ (fun _ => ?_) | with_reducible refine' e_or ?_ (fun _ => ?_) | ((with_reducible apply b_powL); decide) | ((with_reducible apply b_pow); decide) | ((with_reducible apply b_fdiv); decide) | ((with_reducible apply b_mod); decide) | ((with_reducible apply b_mul); decide) | ((with_reducible apply b_mul); with_reducible assumption) | ((with_reducible apply b_fdiv); with_reducible assumption) | with_reducible apply b_mul | with_reducible apply b_fdiv | with_reducible apply b_mod | with_reducible apply b_shr | with_reducible apply b_cat | with_reducible apply l_str))) rfl rfl (fun h => by simp at h) (fun _ => ?_)
    have b1 := sq_below (gs := gs) (k + 2) st he sx sy (by decide)
    have b2 := sq_below (gs := gs) (k + 2) st he sy sx (by decide)
    have m2 := sq_minus (gs := gs) k st hv hm hb sx sz (by decide)
    have m3 := sq_minus (gs := gs) k st hv hm hb sy sz (by decide)
    have b3 := sq_below (gs := gs) (k + 2) st he (sx.sub sz) (sy.sub sz) (by decide)
    have a7 : decide (x - z < y - z) = decide (x < y) := by rw [decide_eq_decide]; constructor <;> intro h <;> grind
    rw [a7] at b3
    have ceq2 : gCmp .eq (encQ x) (encQ y) st = some (decide (x = y), st) := by
      rw [c_eq enc_ok enc_ok]
      show some (eqD (encQ x) (encQ y), st) = _
      rw [eq_q]
    refine' w_if (by (repeat' (first | with_reducible apply b1 | with_reducible apply b2 | with_reducible apply m2 | with_reducible apply m3 | with_reducible apply b3 | with_reducible apply ceq2 | ((with_reducible apply c_ne); exact rfl; exact rfl) | with_reducible exact l_abs | with_reducible exact l_int | with_reducible exact l_intB | with_reducible exact l_lenT | with_reducible exact l_lenL | with_reducible exact l_lenS | with_reducible exact l_tupL | with_reducible exact l_tupT | with_reducible exact l_max | with_reducible exact l_min | with_reducible exact l_listT | with_reducible exact l_listL | with_reducible exact v_slcT | with_reducible exact l_isTT | with_reducible exact l_isII | with_reducible exact l_isBI | with_reducible exact l_isBB | with_reducible exact l_isSS | with_reducible exact l_isLL | with_reducible exact z_bl | with_reducible exact z_int | with_reducible exact v_slcL | with_reducible exact v_slcS | with_reducible exact e_int | with_reducible exact e_bl | with_reducible exact e_str | with_reducible exact e_non | with_reducible exact a_nil | with_reducible exact o_nil | with_reducible exact g_name | with_reducible exact gs_nil | with_reducible exact b_add | with_reducible exact b_sub | with_reducible exact u_neg | with_reducible exact c_lt | with_reducible exact c_le | with_reducible exact c_gt | with_reducible exact c_ge | with_reducible exact c_eqI | with_reducible exact c_neI | with_reducible exact c_eqS | with_reducible exact c_neS | ((with_reducible apply e_var); exact rfl) | ((with_reducible apply e_glb); exact rfl) | ((with_reducible apply x_tup); exact rfl) | ((with_reducible apply x_lst); exact rfl) | with_reducible apply a_cons | with_reducible apply e_bin | with_reducible apply e_un | with_reducible apply e_idx | with_reducible apply e_call | with_reducible apply e_blt | with_reducible apply e_cmp | with_reducible apply e_slc | with_reducible apply e_frz | with_reducible apply e_one | with_reducible apply e_not | with_reducible apply t_cmp | with_reducible apply t_not | with_reducible apply t_one | with_reducible apply t_ex | with_reducible apply o_cons | with_reducible apply g_tup | with_reducible apply gs_cons | with_reducible apply g_sub | with_reducible apply e_tupS | with_reducible apply e_dspS | ((with_reducible apply LS_mk); exact rfl) | with_reducible refine' t_and ?_ (fun _ => ?_) | with_reducible refine' t_or ?_ (fun _ => ?_) | with_reducible refine' e_and ?_ (fun _ => ?_) | with_reducible refine' e_or ?_ (fun _ => ?_) | ((with_reducible apply b_powL); decide) | ((with_reducible apply b_pow); decide) | ((with_reducible apply b_fdiv); decide) | ((with_reducible apply b_mod); decide) | ((with_reducible apply b_mul); decide) | ((with_reducible apply b_mul); with_reducible assumption) | ((with_reducible apply b_fdiv); with_reducible assumption) | with_reducible apply b_mul | with_reducible apply b_fdiv | with_reducible apply b_mod | with_reducible apply b_shr | with_reducible apply b_cat | with_reducible apply l_str))) rfl rfl (fun h => ?_) (fun _ => ?_)
    · simp only [drf, eqD, Bool.or_eq_true, Bool.and_eq_true, Bool.not_eq_true', beq_eq_false_iff_ne, decide_eq_true_eq] at h
      rcases h with h | ⟨h1, h2 | h2⟩
      · exact absurd rfl h
      · exfalso; grind
      · exfalso; grind
    refine' w_if (by
      refine t_and (l := false) (by (repeat' (first | with_reducible exact l_abs | with_reducible exact l_int | with_reducible exact l_intB | with_reducible exact l_lenT | with_reducible exact l_lenL | with_reducible exact l_lenS | with_reducible exact l_tupL | with_reducible exact l_tupT | with_reducible exact l_max | with_reducible exact l_min | with_reducible exact l_listT | with_reducible exact l_listL | with_reducible exact v_slcT | with_reducible exact l_isTT | with_reducible exact l_isII | with_reducible exact l_isBI | with_reducible exact l_isBB | with_reducible exact l_isSS | with_reducible exact l_isLL | with_reducible exact z_bl | with_reducible exact z_int | with_reducible exact v_slcL | with_reducible exact v_slcS | with_reducible exact e_int | with_reducible exact e_bl | with_reducible exact e_str | with_reducible exact e_non | with_reducible exact a_nil | with_reducible exact o_nil | with_reducible exact g_name | with_reducible exact gs_nil | with_reducible exact b_add | with_reducible exact b_sub | with_reducible exact u_neg | with_reducible exact c_lt | with_reducible exact c_le | with_reducible exact c_gt | with_reducible exact c_ge | with_reducible exact c_eqI | with_reducible exact c_neI | with_reducible exact c_eqS | with_reducible exact c_neS | ((with_reducible apply e_var); exact rfl) | ((with_reducible apply e_glb); exact rfl) | ((with_reducible apply x_tup); exact rfl) | ((with_reducible apply x_lst); exact rfl) | with_reducible apply a_cons | with_reducible apply e_bin | with_reducible apply e_un | with_reducible apply e_idx | with_reducible apply e_call | with_reducible apply e_blt | with_reducible apply e_cmp | with_reducible apply e_slc | with_reducible apply e_frz | with_reducible apply e_one | with_reducible apply e_not | with_reducible apply t_cmp | with_reducible apply t_not | with_reducible apply t_one | with_reducible apply t_ex | with_reducible apply o_cons | with_reducible apply g_tup | with_reducible apply gs_cons | with_reducible apply g_sub | with_reducible apply e_tupS | with_reducible apply e_dspS | ((with_reducible apply LS_mk); exact rfl) | with_reducible refine' t_and ?_ (fun _ => ?_) | with_reducible refine' t_or ?_ (fun _ => ?_) | with_reducible refine' e_and ?_ (fun _ => ?_) | with_reducible refine' e_or ?_ (fun _ => ?_) | ((with_reducible apply b_powL); decide) | ((with_reducible apply b_pow); decide) | ((with_reducible apply b_fdiv); decide) | ((with_reducible apply b_mod); decide) | ((with_reducible apply b_mul); decide) | ((with_reducible apply b_mul); with_reducible assumption) | ((with_reducible apply b_fdiv); with_reducible assumption) | with_reducible apply b_mul | with_reducible apply b_fdiv | with_reducible apply b_mod | with_reducible apply b_shr | with_reducible apply b_cat | with_reducible apply l_str))) (fun hz => ?_)
      have z0 : z < 0 := num_neg_iff.mp (of_decide_eq_true hz)
      have t3 := sq_times (gs := gs) k st hw hm hb sy sz (by decide)
      have t4 := sq_times (gs := gs) k st hw hm hb sx sz (by decide)
      have b4 := sq_below (gs := gs) (k + 2) st he (sy.mul sz) (sx.mul sz) (by decide)
      have a8 : decide (y * z < x * z) = decide (x < y) := by
        rw [decide_eq_decide]
        have hz' : 0 < -z := by grind
        have e1 := Rat.mul_lt_mul_right (a := x) (b := y) hz'
        constructor
        · intro h
          apply e1.mp
          grind
        · intro h
          have := e1.mpr h
          grind
      rw [a8] at b4
      have ce : gCmp .ne (.bl (decide (x < y))) (.bl (decide (x < y))) st = some (false, st) := by
        rw [c_ne rfl rfl]
        simp [drf, eqD]
      (repeat' (first | with_reducible apply b1 | with_reducible apply t3 | with_reducible apply t4 | with_reducible apply b4 | with_reducible apply ce | with_reducible exact l_abs | with_reducible exact l_int | with_reducible exact l_intB | with_reducible exact l_lenT | with_reducible exact l_lenL | with_reducible exact l_lenS | with_reducible exact l_tupL | with_reducible exact l_tupT | with_reducible exact l_max | with_reducible exact l_min | with_reducible exact l_listT | with_reducible exact l_listL | with_reducible exact v_slcT | with_reducible exact l_isTT | with_reducible exact l_isII | with_reducible exact l_isBI | with_reducible exact l_isBB | with_reducible exact l_isSS | with_reducible exact l_isLL | with_reducible exact z_bl | with_reducible exact z_int | with_reducible exact v_slcL | with_reducible exact v_slcS | with_reducible exact e_int | with_reducible exact e_bl | with_reducible exact e_str | with_reducible exact e_non | with_reducible exact a_nil | with_reducible exact o_nil | with_reducible exact g_name | with_reducible exact gs_nil | with_reducible exact b_add | with_reducible exact b_sub | with_reducible exact u_neg | with_reducible exact c_lt | with_reducible exact c_le | with_reducible exact c_gt | with_reducible exact c_ge | with_reducible exact c_eqI | with_reducible exact c_neI | with_reducible exact c_eqS | with_reducible exact c_neS | ((with_reducible apply e_var); exact rfl) | ((with_reducible apply e_glb); exact rfl) | ((with_reducible apply x_tup); exact rfl) | ((with_reducible apply x_lst); exact rfl) | with_reducible apply a_cons | with_reducible apply e_bin | with_reducible apply e_un | with_reducible apply e_idx | with_reducible apply e_call | with_reducible apply e_blt | with_reducible apply e_cmp | with_reducible apply e_slc | with_reducible apply e_frz | with_reducible apply e_one | with_reducible apply e_not | with_reducible apply t_cmp | with_reducible apply t_not | with_reducible apply t_one | with_reducible apply t_ex | with_reducible apply o_cons | with_reducible apply g_tup | with_reducible apply gs_cons | with_reducible apply g_sub | with_reducible apply e_tupS | with_reducible apply e_dspS | ((with_reducible apply LS_mk); exact rfl) | with_reducible refine' t_and ?_ (fun _ => ?_) | with_reducible refine' t_or ?_ (fun _ => ?_) | with_reducible refine' e_and ?_ (fun _ => ?_) | with_reducible refine' e_or ?_ (fun _ => ?_) | ((with_reducible apply b_powL); decide) | ((with_reducible apply b_pow); decide) | ((with_reducible apply b_fdiv); decide) | ((with_reducible apply b_mod); decide) | ((with_reducible apply b_mul); decide) | ((with_reducible apply b_mul); with_reducible assumption) | ((with_reducible apply b_fdiv); with_reducible assumption) | with_reducible apply b_mul | with_reducible apply b_fdiv | with_reducible apply b_mod | with_reducible apply b_shr | with_reducible apply b_cat | with_reducible apply l_str))) rfl rfl (fun h => by simp at h) (fun _ => ?_)
    have h1 := sp_shown (gs := gs) (k + 2) st hg x.num x.den (sx.1.mono (by decide)) (sx.2.mono (by decide))
    have h2 := sp_shown (gs := gs) (k + 2) st hg y.num y.den (sy.1.mono (by decide)) (sy.2.mono (by decide))
    refine' w_ret (by (repeat' (first | with_reducible apply b1 | with_reducible apply b2 | with_reducible apply h1 | with_reducible apply h2 | with_reducible apply ceq2 | with_reducible apply z_bl | ((with_reducible apply c_eq); exact rfl; exact rfl) | with_reducible exact l_abs | with_reducible exact l_int | with_reducible exact l_intB | with_reducible exact l_lenT | with_reducible exact l_lenL | with_reducible exact l_lenS | with_reducible exact l_tupL | with_reducible exact l_tupT | with_reducible exact l_max | with_reducible exact l_min | with_reducible exact l_listT | with_reducible exact l_listL | with_reducible exact v_slcT | with_reducible exact l_isTT | with_reducible exact l_isII | with_reducible exact l_isBI | with_reducible exact l_isBB | with_reducible exact l_isSS | with_reducible exact l_isLL | with_reducible exact z_bl | with_reducible exact z_int | with_reducible exact v_slcL | with_reducible exact v_slcS | with_reducible exact e_int | with_reducible exact e_bl | with_reducible exact e_str | with_reducible exact e_non | with_reducible exact a_nil | with_reducible exact o_nil | with_reducible exact g_name | with_reducible exact gs_nil | with_reducible exact b_add | with_reducible exact b_sub | with_reducible exact u_neg | with_reducible exact c_lt | with_reducible exact c_le | with_reducible exact c_gt | with_reducible exact c_ge | with_reducible exact c_eqI | with_reducible exact c_neI | with_reducible exact c_eqS | with_reducible exact c_neS | ((with_reducible apply e_var); exact rfl) | ((with_reducible apply e_glb); exact rfl) | ((with_reducible apply x_tup); exact rfl) | ((with_reducible apply x_lst); exact rfl) | with_reducible apply a_cons | with_reducible apply e_bin | with_reducible apply e_un | with_reducible apply e_idx | with_reducible apply e_call | with_reducible apply e_blt | with_reducible apply e_cmp | with_reducible apply e_slc | with_reducible apply e_frz | with_reducible apply e_one | with_reducible apply e_not | with_reducible apply t_cmp | with_reducible apply t_not | with_reducible apply t_one | with_reducible apply t_ex | with_reducible apply o_cons | with_reducible apply g_tup | with_reducible apply gs_cons | with_reducible apply g_sub | with_reducible apply e_tupS | with_reducible apply e_dspS | ((with_reducible apply LS_mk); exact rfl) | with_reducible refine' t_and ?_ (fun _ => ?_) | with_reducible refine' t_or ?_ (fun _ => ?_) | with_reducible refine' e_and ?_ (fun _ => ?_) | with_reducible refine' e_or ?_ (fun _ => ?_) | ((with_reducible apply b_powL); decide) | ((with_reducible apply b_pow); decide) | ((with_reducible apply b_fdiv); decide) | ((with_reducible apply b_mod); decide) | ((with_reducible apply b_mul); decide) | ((with_reducible apply b_mul); with_reducible assumption) | ((with_reducible apply b_fdiv); with_reducible assumption) | with_reducible apply b_mul | with_reducible apply b_fdiv | with_reducible apply b_mod | with_reducible apply b_shr | with_reducible apply b_cat | with_reducible apply l_str))) ?_
    refine ⟨rfl, ?_⟩
    rw [shown_q]
    have e9 : (!decide (x < y) && !decide (y < x)) = decide (x = y) := by
      rw [Bool.eq_iff_iff]
      simp only [Bool.and_eq_true, Bool.not_eq_true', decide_eq_false_iff_not, decide_eq_true_eq]
      constructor
      · intro ⟨a, b⟩; grind
      · intro h; subst h; constructor <;> grind
    rw [e9]
    simp [drf, eqD]
  obtain ⟨d, e, rfl⟩ := q
  exact e
end
end Jd


namespace Law
open Jd PySem L2
def top (i : Nat) : Stmt := PySem.Challenge.pw_stepjudge_k03_whole_laws_of_fractions.main.body.getD i (.Pass ⟨0, 0, 0, 0⟩)
/-- divisor: 0 one, 1 other -/
abbrev cdivisor : C := (.cons (.whl (.cmp .ne (.var 1) (.kint 0)) (.cons (.par 0 1 (.var 1) (.bin .mod false (.var 0) (.var 1))) .nil)) (.cons (.ret (.blt .abs false (.cons (.var 0) .nil))) .nil))
abbrev fdivisor : Fn := ⟨2, 2, cdivisor⟩
/-- make: 0 n, 1 d, 2 by -/
abbrev cmake : C := (.cons (.asg (.tN 2) (.call 0 (.cons (.var 0) (.cons (.var 1) .nil)))) (.cons (.ifs (.cmp .lt (.var 1) (.kint 0)) (.cons (.asg (.tN 2) (.bin .sub false (.kint 0) (.var 2))) .nil) .nil) (.cons (.ret (.tup (.cons (.bin .fdiv false (.var 0) (.var 2)) (.cons (.bin .fdiv false (.var 1) (.var 2)) .nil)))) .nil)))
abbrev fmake : Fn := ⟨2, 3, cmake⟩
/-- plus: 0 a, 1 b -/
abbrev cplus : C := (.cons (.ret (.call 1 (.cons (.bin .add false (.bin .mul false (.idx (.var 0) (.kint 0)) (.idx (.var 1) (.kint 1))) (.bin .mul false (.idx (.var 1) (.kint 0)) (.idx (.var 0) (.kint 1)))) (.cons (.bin .mul false (.idx (.var 0) (.kint 1)) (.idx (.var 1) (.kint 1))) .nil)))) .nil)
abbrev fplus : Fn := ⟨2, 2, cplus⟩
/-- minus: 0 a, 1 b -/
abbrev cminus : C := (.cons (.ret (.call 1 (.cons (.bin .sub false (.bin .mul false (.idx (.var 0) (.kint 0)) (.idx (.var 1) (.kint 1))) (.bin .mul false (.idx (.var 1) (.kint 0)) (.idx (.var 0) (.kint 1)))) (.cons (.bin .mul false (.idx (.var 0) (.kint 1)) (.idx (.var 1) (.kint 1))) .nil)))) .nil)
abbrev fminus : Fn := ⟨2, 2, cminus⟩
/-- times: 0 a, 1 b -/
abbrev ctimes : C := (.cons (.ret (.call 1 (.cons (.bin .mul false (.idx (.var 0) (.kint 0)) (.idx (.var 1) (.kint 0))) (.cons (.bin .mul false (.idx (.var 0) (.kint 1)) (.idx (.var 1) (.kint 1))) .nil)))) .nil)
abbrev ftimes : Fn := ⟨2, 2, ctimes⟩
/-- over: 0 a, 1 b -/
abbrev cover : C := (.cons (.ret (.call 1 (.cons (.bin .mul false (.idx (.var 0) (.kint 0)) (.idx (.var 1) (.kint 1))) (.cons (.bin .mul false (.idx (.var 0) (.kint 1)) (.idx (.var 1) (.kint 0))) .nil)))) .nil)
abbrev fover : Fn := ⟨2, 2, cover⟩
/-- below: 0 a, 1 b -/
abbrev cbelow : C := (.cons (.ret (.cmp .lt (.bin .mul false (.idx (.var 0) (.kint 0)) (.idx (.var 1) (.kint 1))) (.bin .mul false (.idx (.var 1) (.kint 0)) (.idx (.var 0) (.kint 1))))) .nil)
abbrev fbelow : Fn := ⟨2, 2, cbelow⟩
/-- shown: 0 a -/
abbrev cshown : C := (.cons (.ifs (.cmp .eq (.idx (.var 0) (.kint 1)) (.kint 1)) (.cons (.ret (.blt .str false (.cons (.idx (.var 0) (.kint 0)) .nil))) .nil) .nil) (.cons (.ret (.bin .add false (.bin .add false (.blt .str false (.cons (.idx (.var 0) (.kint 0)) .nil)) (.kstr "/")) (.blt .str false (.cons (.idx (.var 0) (.kint 1)) .nil)))) .nil))
abbrev fshown : Fn := ⟨1, 1, cshown⟩
/-- _law_stir: 0 cell, 1 k, 2 number -/
abbrev c_law_stir : C := (.cons (.ifs (.cmp .ge (.var 0) (.bin .pow false (.kint 10) (.kint 18))) (.cons (.ret (.bin .mod false (.bin .shr false (.bin .sub false (.var 0) (.bin .pow false (.kint 10) (.kint 18))) (.bin .mul false (.kint 28) (.var 1))) (.bin .pow false (.kint 2) (.kint 28)))) .nil) .nil) (.cons (.asg (.tN 2) (.bin .mod false (.bin .mul false (.bin .add false (.bin .add false (.var 0) (.bin .mul false (.kint 1013) (.var 1))) (.kint 1)) (.kint 16807)) (.kint 2147483647))) (.cons (.asg (.tN 2) (.bin .mod false (.bin .mul false (.var 2) (.var 2)) (.kint 2147483629))) (.cons (.ret (.bin .fdiv false (.bin .mod false (.bin .mul false (.var 2) (.kint 39373)) (.kint 2147483587)) (.kint 8))) .nil))))
abbrev f_law_stir : Fn := ⟨2, 3, c_law_stir⟩
/-- _law_number: 0 cell, 1 k, 2 number, 3 far, 4 found -/
abbrev c_law_number : C := (.cons (.asg (.tN 2) (.call 8 (.cons (.var 0) (.cons (.var 1) .nil)))) (.cons (.asg (.tN 3) (.bin .add false (.bin .add false (.call 8 (.cons (.var 0) (.cons (.bin .add false (.var 1) (.kint 1)) .nil))) (.bin .mul false (.call 8 (.cons (.var 0) (.cons (.bin .add false (.var 1) (.kint 2)) .nil))) (.bin .pow false (.kint 10) (.kint 8)))) (.bin .mul false (.call 8 (.cons (.var 0) (.cons (.bin .add false (.var 1) (.kint 3)) .nil))) (.bin .pow false (.kint 10) (.kint 16))))) (.cons (.asg (.tN 4) (.idx (.dsp false (.cons (.bin .mod false (.bin .fdiv false (.var 2) (.kint 16)) (.kint 10)) (.cons (.bin .mod false (.bin .fdiv false (.var 2) (.kint 16)) (.kint 1000)) (.cons (.bin .fdiv false (.var 2) (.kint 16)) (.cons (.var 3) (.cons (.bin .mod false (.bin .mul false (.var 3) (.bin .pow false (.kint 10) (.kint 6))) (.bin .pow false (.kint 10) (.kint 30))) (.cons (.kint 0) .nil))))))) (.bin .mod false (.var 2) (.kint 6)))) (.cons (.ret (.bin .mul false (.var 4) (.bin .sub false (.kint 1) (.bin .mul false (.bin .mod false (.bin .fdiv false (.var 2) (.kint 6)) (.kint 2)) (.kint 2))))) .nil))))
abbrev f_law_number : Fn := ⟨2, 5, c_law_number⟩
/-- _law_made: 0 cell, 1 d -/
abbrev c_law_made : C := (.cons (.asg (.tN 1) (.call 9 (.cons (.var 0) (.cons (.kint 11) .nil)))) (.cons (.ifs (.cmp .eq (.var 1) (.kint 0)) (.cons (.asg (.tN 1) (.kint 1)) .nil) .nil) (.cons (.ret (.call 1 (.cons (.call 9 (.cons (.var 0) (.cons (.kint 1) .nil))) (.cons (.var 1) .nil)))) .nil)))
abbrev f_law_made : Fn := ⟨1, 2, c_law_made⟩
/-- _law_sum: 0 some, 1 found, 2 one -/
abbrev c_law_sum : C := (.cons (.asg (.tN 1) (.call 1 (.cons (.kint 0) (.cons (.kint 1) .nil)))) (.cons (.for_ (.tN 2) (.iV (.var 0)) (.cons (.asg (.tN 1) (.call 2 (.cons (.var 1) (.cons (.var 2) .nil)))) .nil)) (.cons (.ret (.var 1)) .nil)))
abbrev f_law_sum : Fn := ⟨1, 3, c_law_sum⟩
/-- _law_pair_right: 0 a, 1 b, 2 c -/
abbrev c_law_pair_right : C := (.cons (.ifs (.or (.cmp .ne (.call 3 (.cons (.call 2 (.cons (.var 0) (.cons (.var 1) .nil))) (.cons (.var 1) .nil))) (.var 0)) (.one (.cmp .ne (.call 2 (.cons (.call 3 (.cons (.var 0) (.cons (.var 1) .nil))) (.cons (.var 1) .nil))) (.var 0)))) (.cons (.ret (.kbl false)) .nil) .nil) (.cons (.ifs (.or (.cmp .ne (.call 2 (.cons (.var 0) (.cons (.var 1) .nil))) (.call 2 (.cons (.var 1) (.cons (.var 0) .nil)))) (.one (.cmp .ne (.call 4 (.cons (.var 0) (.cons (.var 1) .nil))) (.call 4 (.cons (.var 1) (.cons (.var 0) .nil)))))) (.cons (.ret (.kbl false)) .nil) .nil) (.cons (.ifs (.and (.cmp .ne (.idx (.var 1) (.kint 0)) (.kint 0)) (.one (.or (.cmp .ne (.call 5 (.cons (.call 4 (.cons (.var 0) (.cons (.var 1) .nil))) (.cons (.var 1) .nil))) (.var 0)) (.one (.cmp .ne (.call 4 (.cons (.call 5 (.cons (.var 0) (.cons (.var 1) .nil))) (.cons (.var 1) .nil))) (.var 0)))))) (.cons (.ret (.kbl false)) .nil) .nil) (.cons (.ifs (.or (.cmp .ne (.call 6 (.cons (.var 0) (.cons (.var 1) .nil))) (.call 6 (.cons (.call 3 (.cons (.var 0) (.cons (.var 2) .nil))) (.cons (.call 3 (.cons (.var 1) (.cons (.var 2) .nil))) .nil)))) (.one (.and (.ex (.call 6 (.cons (.var 0) (.cons (.var 1) .nil)))) (.one (.or (.ex (.call 6 (.cons (.var 1) (.cons (.var 0) .nil)))) (.one (.cmp .eq (.var 0) (.var 1)))))))) (.cons (.ret (.kbl false)) .nil) .nil) (.cons (.ifs (.and (.cmp .lt (.idx (.var 2) (.kint 0)) (.kint 0)) (.one (.cmp .ne (.call 6 (.cons (.var 0) (.cons (.var 1) .nil))) (.call 6 (.cons (.call 4 (.cons (.var 1) (.cons (.var 2) .nil))) (.cons (.call 4 (.cons (.var 0) (.cons (.var 2) .nil))) .nil)))))) (.cons (.ret (.kbl false)) .nil) .nil) (.cons (.ret (.and (.cmp .eq (.cmp .eq (.var 0) (.var 1)) (.cmp .eq (.call 7 (.cons (.var 0) .nil)) (.call 7 (.cons (.var 1) .nil)))) (.one (.cmp .eq (.cmp .eq (.var 0) (.var 1)) (.and (.not (.call 6 (.cons (.var 0) (.cons (.var 1) .nil)))) (.one (.not (.call 6 (.cons (.var 1) (.cons (.var 0) .nil)))))))))) .nil))))))
abbrev f_law_pair_right : Fn := ⟨3, 3, c_law_pair_right⟩
/-- law: 0 script, 1 some, 2 whole, 3 k, 4 a, 5 b, 6 c, 7 cell, 8 one -/
abbrev claw : C := (.cons (.asg (.tN 1) (.lcp false [7] (.tN 7) (.iV (.slc false (.var 0) .nil (.cons (.kint 20) .nil))) .nil (.call 10 (.cons (.var 7) .nil)))) (.cons (.asg (.tN 2) (.call 11 (.cons (.var 1) .nil))) (.cons (.ifs (.or (.cmp .ne (.call 11 (.cons (.rev false (.var 1)) .nil)) (.var 2)) (.one (.cmp .ne (.call 2 (.cons (.call 11 (.cons (.slc false (.var 1) .nil (.cons (.kint 7) .nil)) .nil)) (.cons (.call 11 (.cons (.slc false (.var 1) (.cons (.kint 7) .nil) .nil) .nil)) .nil))) (.var 2)))) (.cons (.ret (.kbl false)) .nil) .nil) (.cons (.for_ (.tN 3) (.iR1 (.blt .len false (.cons (.var 1) .nil))) (.cons (.asg (.tN 4) (.idx (.var 1) (.var 3))) (.cons (.asg (.tN 5) (.idx (.var 1) (.bin .mod false (.bin .add false (.bin .mul false (.var 3) (.kint 7)) (.kint 3)) (.blt .len false (.cons (.var 1) .nil))))) (.cons (.asg (.tN 6) (.idx (.var 1) (.bin .mod false (.bin .add false (.bin .mul false (.var 3) (.kint 5)) (.kint 1)) (.blt .len false (.cons (.var 1) .nil))))) (.cons (.ifs (.or (.cmp .ne (.call 4 (.cons (.var 2) (.cons (.var 4) .nil))) (.call 11 (.cons (.lcp false [8] (.tN 8) (.iV (.var 1)) .nil (.call 4 (.cons (.var 8) (.cons (.var 4) .nil)))) .nil))) (.one (.not (.ex (.call 12 (.cons (.var 4) (.cons (.var 5) (.cons (.var 6) .nil)))))))) (.cons (.ret (.kbl false)) .nil) .nil) (.cons (.ifs (.cmp .ne (.call 4 (.cons (.call 2 (.cons (.var 4) (.cons (.var 5) .nil))) (.cons (.var 6) .nil))) (.call 2 (.cons (.call 4 (.cons (.var 4) (.cons (.var 6) .nil))) (.cons (.call 4 (.cons (.var 5) (.cons (.var 6) .nil))) .nil)))) (.cons (.ret (.kbl false)) .nil) .nil) .nil)))))) (.cons (.ret (.kbl true)) .nil)))))
abbrev flaw : Fn := ⟨1, 9, claw⟩
def fnsL : List Fn := [fdivisor, fmake, fplus, fminus, ftimes, fover, fbelow, fshown, f_law_stir, f_law_number, f_law_made, f_law_sum, f_law_pair_right, flaw]
abbrev idivisor : Nat := 0
abbrev imake : Nat := 1
abbrev iplus : Nat := 2
abbrev iminus : Nat := 3
abbrev itimes : Nat := 4
abbrev iover : Nat := 5
abbrev ibelow : Nat := 6
abbrev ishown : Nat := 7
abbrev i_law_stir : Nat := 8
abbrev i_law_number : Nat := 9
abbrev i_law_made : Nat := 10
abbrev i_law_sum : Nat := 11
abbrev i_law_pair_right : Nat := 12
abbrev ilaw : Nat := 13
def gam : Gam := ⟨["divisor", "make", "plus", "minus", "times", "over", "below", "shown", "_law_stir", "_law_number", "_law_made", "_law_sum", "_law_pair_right", "law"], [], ["abs", "len", "range", "str"]⟩
theorem kdivisor : DefCk gam (top 1) fdivisor ["one", "other"] ["one", "other"] := ⟨⟨rfl, rfl, rfl, by decide +kernel, rfl, by decide +kernel, by decide +kernel⟩, rfl, rfl, by decide +kernel⟩
theorem kmake : DefCk gam (top 2) fmake ["n", "d", "by"] ["n", "d"] := ⟨⟨rfl, rfl, rfl, by decide +kernel, rfl, by decide +kernel, by decide +kernel⟩, rfl, rfl, by decide +kernel⟩
theorem kplus : DefCk gam (top 3) fplus ["a", "b"] ["a", "b"] := ⟨⟨rfl, rfl, rfl, by decide +kernel, rfl, by decide +kernel, by decide +kernel⟩, rfl, rfl, by decide +kernel⟩
theorem kminus : DefCk gam (top 4) fminus ["a", "b"] ["a", "b"] := ⟨⟨rfl, rfl, rfl, by decide +kernel, rfl, by decide +kernel, by decide +kernel⟩, rfl, rfl, by decide +kernel⟩
theorem ktimes : DefCk gam (top 5) ftimes ["a", "b"] ["a", "b"] := ⟨⟨rfl, rfl, rfl, by decide +kernel, rfl, by decide +kernel, by decide +kernel⟩, rfl, rfl, by decide +kernel⟩
theorem kover : DefCk gam (top 6) fover ["a", "b"] ["a", "b"] := ⟨⟨rfl, rfl, rfl, by decide +kernel, rfl, by decide +kernel, by decide +kernel⟩, rfl, rfl, by decide +kernel⟩
theorem kbelow : DefCk gam (top 7) fbelow ["a", "b"] ["a", "b"] := ⟨⟨rfl, rfl, rfl, by decide +kernel, rfl, by decide +kernel, by decide +kernel⟩, rfl, rfl, by decide +kernel⟩
theorem kshown : DefCk gam (top 8) fshown ["a"] ["a"] := ⟨⟨rfl, rfl, rfl, by decide +kernel, rfl, by decide +kernel, by decide +kernel⟩, rfl, rfl, by decide +kernel⟩
theorem k_law_stir : DefCk gam (top 10) f_law_stir ["cell", "k", "number"] ["cell", "k"] := ⟨⟨rfl, rfl, rfl, by decide +kernel, rfl, by decide +kernel, by decide +kernel⟩, rfl, rfl, by decide +kernel⟩
theorem k_law_number : DefCk gam (top 11) f_law_number ["cell", "k", "number", "far", "found"] ["cell", "k"] := ⟨⟨rfl, rfl, rfl, by decide +kernel, rfl, by decide +kernel, by decide +kernel⟩, rfl, rfl, by decide +kernel⟩
theorem k_law_made : DefCk gam (top 12) f_law_made ["cell", "d"] ["cell"] := ⟨⟨rfl, rfl, rfl, by decide +kernel, rfl, by decide +kernel, by decide +kernel⟩, rfl, rfl, by decide +kernel⟩
theorem k_law_sum : DefCk gam (top 13) f_law_sum ["some", "found", "one"] ["some"] := ⟨⟨rfl, rfl, rfl, by decide +kernel, rfl, by decide +kernel, by decide +kernel⟩, rfl, rfl, by decide +kernel⟩
theorem k_law_pair_right : DefCk gam (top 14) f_law_pair_right ["a", "b", "c"] ["a", "b", "c"] := ⟨⟨rfl, rfl, rfl, by decide +kernel, rfl, by decide +kernel, by decide +kernel⟩, rfl, rfl, by decide +kernel⟩
theorem klaw : DefCk gam (top 15) flaw ["script", "some", "whole", "k", "a", "b", "c", "cell", "one"] ["script"] := ⟨⟨rfl, rfl, rfl, by decide +kernel, rfl, by decide +kernel, by decide +kernel⟩, rfl, rfl, by decide +kernel⟩
def glsL : List D := []
end Law

namespace Law
open Jd PySem L2
def lev : Nat := 10
theorem e_revL {gs : List D} {cs : Nat → List D → Sto → Option (D × Sto)} {σ : En} {st st1 : Sto} {a : C} {l : List Rat} (h : evE gs cs a σ st = some (.lst (l.map encQ), st1)) : evE gs cs (.rev false a) σ st = some (.lst (l.reverse.map encQ), st1) := by
  show ((evE gs cs a σ st).bind fun p => gRev false p.1 p.2) = _
  rw [h, List.map_reverse]
  rfl
theorem cut_to (l : List Rat) (k : Nat) : cutD (l.map encQ) none (some (k : Int)) = (l.take k).map encQ := by
  unfold cutD
  rw [HT.sIx_none, HT.sIx_nat, List.drop_zero, Nat.sub_zero, List.length_map, List.map_take, Nat.min_def]
  split
  · rfl
  · rename_i h
    rw [List.take_of_length_le (by rw [List.length_map]; exact Nat.le_refl _), List.take_of_length_le (by rw [List.length_map]; omega)]
theorem cut_from (l : List Rat) (k : Nat) : cutD (l.map encQ) (some (k : Int)) none = (l.drop k).map encQ := by
  unfold cutD
  rw [HT.sIx_none, HT.sIx_nat, List.length_map, List.map_drop, Nat.min_def]
  split
  · exact List.take_of_length_le (by rw [List.length_drop, List.length_map]; exact Nat.le_refl _)
  · rename_i h
    rw [List.drop_eq_nil_of_le (by rw [List.length_map]; exact Nat.le_refl _), List.drop_eq_nil_of_le (by rw [List.length_map]; omega)]
    simp
theorem at_any {l : List Rat} {k : Int} (h0 : 0 ≤ k) (h : k < l.length) {N : Nat} (hl : ∀ q ∈ l, Szq N q) : ∃ q, atI (l.map encQ) k = some (encQ q) ∧ Szq N q := by
  obtain ⟨d, e, hd⟩ := atI_mem (xs := l.map encQ) h0 (by rw [List.length_map]; exact h)
  obtain ⟨q, hq, rfl⟩ := List.mem_map.mp hd
  exact ⟨q, e, hl q hq⟩
theorem holds : ∀ ns : List Int, ns.length ≤ 63 → (∀ z ∈ ns, Builtin.Int.intBits z ≤ 1048576) → ∃ st', run glsL fnsL lev ilaw [.scr (ns.map D.int)] [] = some (.bl true, st') := by
  intro ns hl hb
  have w : ∃ d, run glsL fnsL (9 + 1) ilaw [.scr (ns.map D.int)] [] = some (d, []) ∧ d = .bl true := by
    refine run_wp flaw rfl rfl _ ?_
    have hc : ∀ x ∈ cutD (ns.map D.int) none (some 20), cellOk x := fun x hx => by
      have h' := cut_mem hx
      simp only [List.mem_map] at h'
      obtain ⟨z, hz, rfl⟩ := h'
      exact ⟨z, rfl, (Sz.bits (hb z hz)).mono (by decide)⟩
    have hlen : (cutD (ns.map D.int) none (some 20)).length ≤ 20 := by
      have e20 : HT.sIx (ns.map D.int).length (ns.map D.int).length (some 20) ≤ 20 := by
        show (if (20 : Int) < 0 then ((20 : Int) + ((ns.map D.int).length : Int)).toNat else min (20 : Int).toNat (ns.map D.int).length) ≤ 20
        rw [if_neg (by decide)]
        exact Nat.min_le_left _ _
      unfold cutD
      rw [List.length_take]
      exact Nat.le_trans (Nat.min_le_left _ _) (Nat.le_trans (Nat.sub_le _ _) e20)
    have hsl : gSlc false (.scr (ns.map D.int)) none (some 20) [] = some (.lst (cutD (ns.map D.int) none (some 20)), []) := rfl
    generalize cutD (ns.map D.int) none (some 20) = cs at *
    obtain ⟨ys, s1, e1, qs, rfl, rfl, lq, hq⟩ := lcS_its' (xs := cs) (tg := evG glsL (run glsL fnsL 9) (.tN 7)) (t := evT glsL (run glsL fnsL 9) .nil) (e := evE glsL (run glsL fnsL 9) (.call i_law_made (.cons (.var 7) .nil))) (σ := wipeD [some (.scr (ns.map D.int)), none, none, none, none, none, none, none, none] [7]) (st := [])
      (fun i ys st' => ∃ qs : List Rat, ys = qs.map encQ ∧ st' = [] ∧ qs.length = i ∧ ∀ q ∈ qs, Szq 101 q) ⟨[], rfl, rfl, rfl, by simp⟩ (fun i x ys st1 hx ⟨qs, q0, q1, q2, q3⟩ => by
        subst q0
        subst q1
        obtain ⟨z, rfl, sz⟩ := hc x (List.mem_of_getElem? hx)
        obtain ⟨r, e, sr⟩ := sp_made3 (gs := glsL) (fs := fnsL) (i := i_law_made) (u := i_law_number) (v := imake) (a := i_law_stir) (b := idivisor) 6 [] rfl rfl rfl rfl rfl z sz
        refine ⟨_, _, encQ r, [], g_name, t_nil, by (repeat' (first | with_reducible apply e | with_reducible exact l_abs | with_reducible exact l_int | with_reducible exact l_intB | with_reducible exact l_lenT | with_reducible exact l_lenL | with_reducible exact l_lenS | with_reducible exact l_tupL | with_reducible exact l_tupT | with_reducible exact l_max | with_reducible exact l_min | with_reducible exact l_listT | with_reducible exact l_listL | with_reducible exact v_slcT | with_reducible exact l_isTT | with_reducible exact l_isII | with_reducible exact l_isBI | with_reducible exact l_isBB | with_reducible exact l_isSS | with_reducible exact l_isLL | with_reducible exact z_bl | with_reducible exact z_int | with_reducible exact v_slcL | with_reducible exact v_slcS | with_reducible exact e_int | with_reducible exact e_bl | with_reducible exact e_str | with_reducible exact e_non | with_reducible exact a_nil | with_reducible exact o_nil | with_reducible exact g_name | with_reducible exact gs_nil | with_reducible exact b_add | with_reducible exact b_sub | with_reducible exact u_neg | with_reducible exact c_lt | with_reducible exact c_le | with_reducible exact c_gt | with_reducible exact c_ge | with_reducible exact c_eqI | with_reducible exact c_neI | with_reducible exact c_eqS | with_reducible exact c_neS | ((with_reducible apply e_var); exact rfl) | ((with_reducible apply e_glb); exact rfl) | ((with_reducible apply x_tup); exact rfl) | ((with_reducible apply x_lst); exact rfl) | with_reducible apply a_cons | with_reducible apply e_bin | with_reducible apply e_un | with_reducible apply e_idx | with_reducible apply e_call | with_reducible apply e_blt | with_reducible apply e_cmp | with_reducible apply e_slc | with_reducible apply e_frz | with_reducible apply e_one | with_reducible apply e_not | with_reducible apply t_cmp | with_reducible apply t_not | with_reducible apply t_one | with_reducible apply t_ex | with_reducible apply o_cons | with_reducible apply g_tup | with_reducible apply gs_cons | with_reducible apply g_sub | with_reducible apply e_tupS | with_reducible apply e_dspS | ((with_reducible apply LS_mk); exact rfl) | with_reducible refine' t_and ?_ (fun _ => ?_) | with_reducible refine' t_or ?_ (fun _ => ?_) | with_reducible refine' e_and ?_ (fun _ => ?_) | with_reducible refine' e_or ?_ (fun _ => ?_) | ((with_reducible apply b_powL); decide) | ((with_reducible apply b_pow); decide) | ((with_reducible apply b_fdiv); decide) | ((with_reducible apply b_mod); decide) | ((with_reducible apply b_mul); decide) | ((with_reducible apply b_mul); with_reducible assumption) | ((with_reducible apply b_fdiv); with_reducible assumption) | with_reducible apply b_mul | with_reducible apply b_fdiv | with_reducible apply b_mod | with_reducible apply b_shr | with_reducible apply b_cat | with_reducible apply l_str)), qs ++ [r], by rw [List.map_append]; rfl, rfl, by simp [q2], fun y hy => ?_⟩
        rcases List.mem_append.mp hy with hy | hy
        · exact q3 y hy
        · rw [List.mem_singleton.mp hy]; exact sr)
    have ln20 : qs.length ≤ 20 := by omega
    refine' w_asg (d := .lst (qs.map encQ)) (e_lcp (i_lst (by (repeat' (first | with_reducible apply hsl | with_reducible exact l_abs | with_reducible exact l_int | with_reducible exact l_intB | with_reducible exact l_lenT | with_reducible exact l_lenL | with_reducible exact l_lenS | with_reducible exact l_tupL | with_reducible exact l_tupT | with_reducible exact l_max | with_reducible exact l_min | with_reducible exact l_listT | with_reducible exact l_listL | with_reducible exact v_slcT | with_reducible exact l_isTT | with_reducible exact l_isII | with_reducible exact l_isBI | with_reducible exact l_isBB | with_reducible exact l_isSS | with_reducible exact l_isLL | with_reducible exact z_bl | with_reducible exact z_int | with_reducible exact v_slcL | with_reducible exact v_slcS | with_reducible exact e_int | with_reducible exact e_bl | with_reducible exact e_str | with_reducible exact e_non | with_reducible exact a_nil | with_reducible exact o_nil | with_reducible exact g_name | with_reducible exact gs_nil | with_reducible exact b_add | with_reducible exact b_sub | with_reducible exact u_neg | with_reducible exact c_lt | with_reducible exact c_le | with_reducible exact c_gt | with_reducible exact c_ge | with_reducible exact c_eqI | with_reducible exact c_neI | with_reducible exact c_eqS | with_reducible exact c_neS | ((with_reducible apply e_var); exact rfl) | ((with_reducible apply e_glb); exact rfl) | ((with_reducible apply x_tup); exact rfl) | ((with_reducible apply x_lst); exact rfl) | with_reducible apply a_cons | with_reducible apply e_bin | with_reducible apply e_un | with_reducible apply e_idx | with_reducible apply e_call | with_reducible apply e_blt | with_reducible apply e_cmp | with_reducible apply e_slc | with_reducible apply e_frz | with_reducible apply e_one | with_reducible apply e_not | with_reducible apply t_cmp | with_reducible apply t_not | with_reducible apply t_one | with_reducible apply t_ex | with_reducible apply o_cons | with_reducible apply g_tup | with_reducible apply gs_cons | with_reducible apply g_sub | with_reducible apply e_tupS | with_reducible apply e_dspS | ((with_reducible apply LS_mk); exact rfl) | with_reducible refine' t_and ?_ (fun _ => ?_) | with_reducible refine' t_or ?_ (fun _ => ?_) | with_reducible refine' e_and ?_ (fun _ => ?_) | with_reducible refine' e_or ?_ (fun _ => ?_) | ((with_reducible apply b_powL); decide) | ((with_reducible apply b_pow); decide) | ((with_reducible apply b_fdiv); decide) | ((with_reducible apply b_mod); decide) | ((with_reducible apply b_mul); decide) | ((with_reducible apply b_mul); with_reducible assumption) | ((with_reducible apply b_fdiv); with_reducible assumption) | with_reducible apply b_mul | with_reducible apply b_fdiv | with_reducible apply b_mod | with_reducible apply b_shr | with_reducible apply b_cat | with_reducible apply l_str)))) e1 (lenQ (decide_eq_true (by rw [List.length_map]; omega)))) ?_
    have hsum := fun {l : List Rat} {M : Nat} (k : Nat) (h : ∀ q ∈ l, Szq M q) (hM : 128 + (M + 1) * (l.length + 1) ≤ 8000) => sp_sum (gs := glsL) (fs := fnsL) (i := i_law_sum) (v := imake) (u := iplus) (b := idivisor) k [] rfl rfl rfl rfl h hM
    obtain ⟨c1, z1⟩ := hsum 5 hq (by omega)
    obtain ⟨c2, _⟩ := hsum (l := qs.reverse) 5 (fun q h => hq q (List.mem_reverse.mp h)) (by rw [List.length_reverse]; omega)
    have l7 : (qs.take 7).length ≤ qs.length := by rw [List.length_take]; omega
    have l8 : (qs.drop 7).length ≤ qs.length := by rw [List.length_drop]; omega
    obtain ⟨c3, z3⟩ := hsum (l := qs.take 7) 5 (fun q h => hq q (List.mem_of_mem_take h)) (by omega)
    obtain ⟨c4, z4⟩ := hsum (l := qs.drop 7) 5 (fun q h => hq q (List.mem_of_mem_drop h)) (by omega)
    have z1 : Szq 2400 (sumQ qs) := z1.mono (by omega)
    have c5 := sq_plus (gs := glsL) (fs := fnsL) (i := iplus) (u := imake) (v := idivisor) 6 [] rfl rfl rfl z3 z4 (by omega)
    have a5 : sumQ (qs.take 7) + sumQ (qs.drop 7) = sumQ qs := by rw [← sumQ_append, List.take_append_drop]
    rw [a5] at c5
    rw [sumQ_reverse] at c2
    have ceq : ∀ (r : Rat) (st : Sto), gCmp .ne (encQ r) (encQ r) st = some (false, st) := fun r st => by
      rw [c_ne enc_ok enc_ok]
      show some (!eqD (encQ r) (encQ r), st) = _
      rw [eq_q, decide_eq_true rfl]
      rfl
    have s7 : gSlc false (.lst (qs.map encQ)) none (some 7) [] = some (.lst ((qs.take 7).map encQ), []) := by
      rw [v_slcL]
      exact congrArg (fun x => some (D.lst x, ([] : Sto))) (cut_to qs 7)
    have s8 : gSlc false (.lst (qs.map encQ)) (some 7) none [] = some (.lst ((qs.drop 7).map encQ), []) := by
      rw [v_slcL]
      exact congrArg (fun x => some (D.lst x, ([] : Sto))) (cut_from qs 7)
    refine' w_asg (by (repeat' (first | with_reducible apply c1 | with_reducible exact l_abs | with_reducible exact l_int | with_reducible exact l_intB | with_reducible exact l_lenT | with_reducible exact l_lenL | with_reducible exact l_lenS | with_reducible exact l_tupL | with_reducible exact l_tupT | with_reducible exact l_max | with_reducible exact l_min | with_reducible exact l_listT | with_reducible exact l_listL | with_reducible exact v_slcT | with_reducible exact l_isTT | with_reducible exact l_isII | with_reducible exact l_isBI | with_reducible exact l_isBB | with_reducible exact l_isSS | with_reducible exact l_isLL | with_reducible exact z_bl | with_reducible exact z_int | with_reducible exact v_slcL | with_reducible exact v_slcS | with_reducible exact e_int | with_reducible exact e_bl | with_reducible exact e_str | with_reducible exact e_non | with_reducible exact a_nil | with_reducible exact o_nil | with_reducible exact g_name | with_reducible exact gs_nil | with_reducible exact b_add | with_reducible exact b_sub | with_reducible exact u_neg | with_reducible exact c_lt | with_reducible exact c_le | with_reducible exact c_gt | with_reducible exact c_ge | with_reducible exact c_eqI | with_reducible exact c_neI | with_reducible exact c_eqS | with_reducible exact c_neS | ((with_reducible apply e_var); exact rfl) | ((with_reducible apply e_glb); exact rfl) | ((with_reducible apply x_tup); exact rfl) | ((with_reducible apply x_lst); exact rfl) | with_reducible apply a_cons | with_reducible apply e_bin | with_reducible apply e_un | with_reducible apply e_idx | with_reducible apply e_call | with_reducible apply e_blt | with_reducible apply e_cmp | with_reducible apply e_slc | with_reducible apply e_frz | with_reducible apply e_one | with_reducible apply e_not | with_reducible apply t_cmp | with_reducible apply t_not | with_reducible apply t_one | with_reducible apply t_ex | with_reducible apply o_cons | with_reducible apply g_tup | with_reducible apply gs_cons | with_reducible apply g_sub | with_reducible apply e_tupS | with_reducible apply e_dspS | ((with_reducible apply LS_mk); exact rfl) | with_reducible refine' t_and ?_ (fun _ => ?_) | with_reducible refine' t_or ?_ (fun _ => ?_) | with_reducible refine' e_and ?_ (fun _ => ?_) | with_reducible refine' e_or ?_ (fun _ => ?_) | ((with_reducible apply b_powL); decide) | ((with_reducible apply b_pow); decide) | ((with_reducible apply b_fdiv); decide) | ((with_reducible apply b_mod); decide) | ((with_reducible apply b_mul); decide) | ((with_reducible apply b_mul); with_reducible assumption) | ((with_reducible apply b_fdiv); with_reducible assumption) | with_reducible apply b_mul | with_reducible apply b_fdiv | with_reducible apply b_mod | with_reducible apply b_shr | with_reducible apply b_cat | with_reducible apply l_str))) ?_
    refine' w_if (by (repeat' (first | with_reducible apply c2 | with_reducible apply c3 | with_reducible apply c4 | with_reducible apply c5 | with_reducible apply ceq | with_reducible apply s7 | with_reducible apply s8 | with_reducible apply e_revL | with_reducible exact l_abs | with_reducible exact l_int | with_reducible exact l_intB | with_reducible exact l_lenT | with_reducible exact l_lenL | with_reducible exact l_lenS | with_reducible exact l_tupL | with_reducible exact l_tupT | with_reducible exact l_max | with_reducible exact l_min | with_reducible exact l_listT | with_reducible exact l_listL | with_reducible exact v_slcT | with_reducible exact l_isTT | with_reducible exact l_isII | with_reducible exact l_isBI | with_reducible exact l_isBB | with_reducible exact l_isSS | with_reducible exact l_isLL | with_reducible exact z_bl | with_reducible exact z_int | with_reducible exact v_slcL | with_reducible exact v_slcS | with_reducible exact e_int | with_reducible exact e_bl | with_reducible exact e_str | with_reducible exact e_non | with_reducible exact a_nil | with_reducible exact o_nil | with_reducible exact g_name | with_reducible exact gs_nil | with_reducible exact b_add | with_reducible exact b_sub | with_reducible exact u_neg | with_reducible exact c_lt | with_reducible exact c_le | with_reducible exact c_gt | with_reducible exact c_ge | with_reducible exact c_eqI | with_reducible exact c_neI | with_reducible exact c_eqS | with_reducible exact c_neS | ((with_reducible apply e_var); exact rfl) | ((with_reducible apply e_glb); exact rfl) | ((with_reducible apply x_tup); exact rfl) | ((with_reducible apply x_lst); exact rfl) | with_reducible apply a_cons | with_reducible apply e_bin | with_reducible apply e_un | with_reducible apply e_idx | with_reducible apply e_call | with_reducible apply e_blt | with_reducible apply e_cmp | with_reducible apply e_slc | with_reducible apply e_frz | with_reducible apply e_one | with_reducible apply e_not | with_reducible apply t_cmp | with_reducible apply t_not | with_reducible apply t_one | with_reducible apply t_ex | with_reducible apply o_cons | with_reducible apply g_tup | with_reducible apply gs_cons | with_reducible apply g_sub | with_reducible apply e_tupS | with_reducible apply e_dspS | ((with_reducible apply LS_mk); exact rfl) | with_reducible refine' t_and ?_ (fun _ => ?_) | with_reducible refine' t_or ?_ (fun _ => ?_) | with_reducible refine' e_and ?_ (fun _ => ?_) | with_reducible refine' e_or ?_ (fun _ => ?_) | ((with_reducible apply b_powL); decide) | ((with_reducible apply b_pow); decide) | ((with_reducible apply b_fdiv); decide) | ((with_reducible apply b_mod); decide) | ((with_reducible apply b_mul); decide) | ((with_reducible apply b_mul); with_reducible assumption) | ((with_reducible apply b_fdiv); with_reducible assumption) | with_reducible apply b_mul | with_reducible apply b_fdiv | with_reducible apply b_mod | with_reducible apply b_shr | with_reducible apply b_cat | with_reducible apply l_str))) rfl rfl (fun h => by cases h) (fun _ => ?_)
    refine w_for (fun i σ st => st = [] ∧ ∃ a b c d e f, σ = [some (.scr (ns.map D.int)), some (.lst (qs.map encQ)), some (encQ (sumQ qs)), a, b, c, d, e, f]) (i_r1 (k := ((qs.map encQ).length : Int)) (by (repeat' (first | with_reducible exact l_abs | with_reducible exact l_int | with_reducible exact l_intB | with_reducible exact l_lenT | with_reducible exact l_lenL | with_reducible exact l_lenS | with_reducible exact l_tupL | with_reducible exact l_tupT | with_reducible exact l_max | with_reducible exact l_min | with_reducible exact l_listT | with_reducible exact l_listL | with_reducible exact v_slcT | with_reducible exact l_isTT | with_reducible exact l_isII | with_reducible exact l_isBI | with_reducible exact l_isBB | with_reducible exact l_isSS | with_reducible exact l_isLL | with_reducible exact z_bl | with_reducible exact z_int | with_reducible exact v_slcL | with_reducible exact v_slcS | with_reducible exact e_int | with_reducible exact e_bl | with_reducible exact e_str | with_reducible exact e_non | with_reducible exact a_nil | with_reducible exact o_nil | with_reducible exact g_name | with_reducible exact gs_nil | with_reducible exact b_add | with_reducible exact b_sub | with_reducible exact u_neg | with_reducible exact c_lt | with_reducible exact c_le | with_reducible exact c_gt | with_reducible exact c_ge | with_reducible exact c_eqI | with_reducible exact c_neI | with_reducible exact c_eqS | with_reducible exact c_neS | ((with_reducible apply e_var); exact rfl) | ((with_reducible apply e_glb); exact rfl) | ((with_reducible apply x_tup); exact rfl) | ((with_reducible apply x_lst); exact rfl) | with_reducible apply a_cons | with_reducible apply e_bin | with_reducible apply e_un | with_reducible apply e_idx | with_reducible apply e_call | with_reducible apply e_blt | with_reducible apply e_cmp | with_reducible apply e_slc | with_reducible apply e_frz | with_reducible apply e_one | with_reducible apply e_not | with_reducible apply t_cmp | with_reducible apply t_not | with_reducible apply t_one | with_reducible apply t_ex | with_reducible apply o_cons | with_reducible apply g_tup | with_reducible apply gs_cons | with_reducible apply g_sub | with_reducible apply e_tupS | with_reducible apply e_dspS | ((with_reducible apply LS_mk); exact rfl) | with_reducible refine' t_and ?_ (fun _ => ?_) | with_reducible refine' t_or ?_ (fun _ => ?_) | with_reducible refine' e_and ?_ (fun _ => ?_) | with_reducible refine' e_or ?_ (fun _ => ?_) | ((with_reducible apply b_powL); decide) | ((with_reducible apply b_pow); decide) | ((with_reducible apply b_fdiv); decide) | ((with_reducible apply b_mod); decide) | ((with_reducible apply b_mul); decide) | ((with_reducible apply b_mul); with_reducible assumption) | ((with_reducible apply b_fdiv); with_reducible assumption) | with_reducible apply b_mul | with_reducible apply b_fdiv | with_reducible apply b_mod | with_reducible apply b_shr | with_reducible apply b_cat | with_reducible apply l_str))) ⟨by omega, by rw [List.length_map]; omega⟩) ⟨rfl, _, _, _, _, _, _, rfl⟩ ?_ ?_
    · rintro i x σ st hx ⟨rfl, a, b, c, d, e, f, rfl⟩
      obtain ⟨j, rfl, hj⟩ := range_mem (List.mem_of_getElem? hx)
      rw [List.length_map, Int.toNat_natCast] at hj
      have n0 : (0 : Int) < ((qs.map encQ).length : Int) := by rw [List.length_map]; omega
      have nn : ((qs.map encQ).length : Int) ≠ 0 := by omega
      have hm := fun (x : Int) => at_any (l := qs) (k := x.fmod ((qs.map encQ).length : Int)) (Int.fmod_nonneg_of_pos x n0) (by have := Int.fmod_lt_of_pos x n0; rw [List.length_map] at this ⊢; exact this) hq
      obtain ⟨x, hx1, sx⟩ := at_any (l := qs) (k := (j : Int)) (by omega) (by omega) hq
      obtain ⟨y, hy1, sy⟩ := hm ((j : Int) * 7 + 3)
      obtain ⟨z, hz1, sz⟩ := hm ((j : Int) * 5 + 1)
      have sj : Sz 20 (j : Int) := by unfold Sz; omega
      have m7 := mulOk_sz sj (Sz.lit (i := 7) (by decide)) (by decide)
      have m5 := mulOk_sz sj (Sz.lit (i := 5) (by decide)) (by decide)
      refine ⟨_, _, g_name, ?_⟩
      refine' w_asg (by (repeat' (first | ((with_reducible apply x_lst); with_reducible exact hx1) | with_reducible exact l_abs | with_reducible exact l_int | with_reducible exact l_intB | with_reducible exact l_lenT | with_reducible exact l_lenL | with_reducible exact l_lenS | with_reducible exact l_tupL | with_reducible exact l_tupT | with_reducible exact l_max | with_reducible exact l_min | with_reducible exact l_listT | with_reducible exact l_listL | with_reducible exact v_slcT | with_reducible exact l_isTT | with_reducible exact l_isII | with_reducible exact l_isBI | with_reducible exact l_isBB | with_reducible exact l_isSS | with_reducible exact l_isLL | with_reducible exact z_bl | with_reducible exact z_int | with_reducible exact v_slcL | with_reducible exact v_slcS | with_reducible exact e_int | with_reducible exact e_bl | with_reducible exact e_str | with_reducible exact e_non | with_reducible exact a_nil | with_reducible exact o_nil | with_reducible exact g_name | with_reducible exact gs_nil | with_reducible exact b_add | with_reducible exact b_sub | with_reducible exact u_neg | with_reducible exact c_lt | with_reducible exact c_le | with_reducible exact c_gt | with_reducible exact c_ge | with_reducible exact c_eqI | with_reducible exact c_neI | with_reducible exact c_eqS | with_reducible exact c_neS | ((with_reducible apply e_var); exact rfl) | ((with_reducible apply e_glb); exact rfl) | ((with_reducible apply x_tup); exact rfl) | ((with_reducible apply x_lst); exact rfl) | with_reducible apply a_cons | with_reducible apply e_bin | with_reducible apply e_un | with_reducible apply e_idx | with_reducible apply e_call | with_reducible apply e_blt | with_reducible apply e_cmp | with_reducible apply e_slc | with_reducible apply e_frz | with_reducible apply e_one | with_reducible apply e_not | with_reducible apply t_cmp | with_reducible apply t_not | with_reducible apply t_one | with_reducible apply t_ex | with_reducible apply o_cons | with_reducible apply g_tup | with_reducible apply gs_cons | with_reducible apply g_sub | with_reducible apply e_tupS | with_reducible apply e_dspS | ((with_reducible apply LS_mk); exact rfl) | with_reducible refine' t_and ?_ (fun _ => ?_) | with_reducible refine' t_or ?_ (fun _ => ?_) | with_reducible refine' e_and ?_ (fun _ => ?_) | with_reducible refine' e_or ?_ (fun _ => ?_) | ((with_reducible apply b_powL); decide) | ((with_reducible apply b_pow); decide) | ((with_reducible apply b_fdiv); decide) | ((with_reducible apply b_mod); decide) | ((with_reducible apply b_mul); decide) | ((with_reducible apply b_mul); with_reducible assumption) | ((with_reducible apply b_fdiv); with_reducible assumption) | with_reducible apply b_mul | with_reducible apply b_fdiv | with_reducible apply b_mod | with_reducible apply b_shr | with_reducible apply b_cat | with_reducible apply l_str))) ?_
      refine' w_asg (by ((repeat' (first | ((with_reducible apply x_lst); with_reducible exact hy1) | with_reducible exact l_abs | with_reducible exact l_int | with_reducible exact l_intB | with_reducible exact l_lenT | with_reducible exact l_lenL | with_reducible exact l_lenS | with_reducible exact l_tupL | with_reducible exact l_tupT | with_reducible exact l_max | with_reducible exact l_min | with_reducible exact l_listT | with_reducible exact l_listL | with_reducible exact v_slcT | with_reducible exact l_isTT | with_reducible exact l_isII | with_reducible exact l_isBI | with_reducible exact l_isBB | with_reducible exact l_isSS | with_reducible exact l_isLL | with_reducible exact z_bl | with_reducible exact z_int | with_reducible exact v_slcL | with_reducible exact v_slcS | with_reducible exact e_int | with_reducible exact e_bl | with_reducible exact e_str | with_reducible exact e_non | with_reducible exact a_nil | with_reducible exact o_nil | with_reducible exact g_name | with_reducible exact gs_nil | with_reducible exact b_add | with_reducible exact b_sub | with_reducible exact u_neg | with_reducible exact c_lt | with_reducible exact c_le | with_reducible exact c_gt | with_reducible exact c_ge | with_reducible exact c_eqI | with_reducible exact c_neI | with_reducible exact c_eqS | with_reducible exact c_neS | ((with_reducible apply e_var); exact rfl) | ((with_reducible apply e_glb); exact rfl) | ((with_reducible apply x_tup); exact rfl) | ((with_reducible apply x_lst); exact rfl) | with_reducible apply a_cons | with_reducible apply e_bin | with_reducible apply e_un | with_reducible apply e_idx | with_reducible apply e_call | with_reducible apply e_blt | with_reducible apply e_cmp | with_reducible apply e_slc | with_reducible apply e_frz | with_reducible apply e_one | with_reducible apply e_not | with_reducible apply t_cmp | with_reducible apply t_not | with_reducible apply t_one | with_reducible apply t_ex | with_reducible apply o_cons | with_reducible apply g_tup | with_reducible apply gs_cons | with_reducible apply g_sub | with_reducible apply e_tupS | with_reducible apply e_dspS | ((with_reducible apply LS_mk); exact rfl) | with_reducible refine' t_and ?_ (fun _ => ?_) | with_reducible refine' t_or ?_ (fun _ => ?_) | with_reducible refine' e_and ?_ (fun _ => ?_) | with_reducible refine' e_or ?_ (fun _ => ?_) | ((with_reducible apply b_powL); decide) | ((with_reducible apply b_pow); decide) | ((with_reducible apply b_fdiv); decide) | ((with_reducible apply b_mod); decide) | ((with_reducible apply b_mul); decide) | ((with_reducible apply b_mul); with_reducible assumption) | ((with_reducible apply b_fdiv); with_reducible assumption) | with_reducible apply b_mul | with_reducible apply b_fdiv | with_reducible apply b_mod | with_reducible apply b_shr | with_reducible apply b_cat | with_reducible apply l_str))); exact nn) ?_
      refine' w_asg (by ((repeat' (first | ((with_reducible apply x_lst); with_reducible exact hz1) | with_reducible exact l_abs | with_reducible exact l_int | with_reducible exact l_intB | with_reducible exact l_lenT | with_reducible exact l_lenL | with_reducible exact l_lenS | with_reducible exact l_tupL | with_reducible exact l_tupT | with_reducible exact l_max | with_reducible exact l_min | with_reducible exact l_listT | with_reducible exact l_listL | with_reducible exact v_slcT | with_reducible exact l_isTT | with_reducible exact l_isII | with_reducible exact l_isBI | with_reducible exact l_isBB | with_reducible exact l_isSS | with_reducible exact l_isLL | with_reducible exact z_bl | with_reducible exact z_int | with_reducible exact v_slcL | with_reducible exact v_slcS | with_reducible exact e_int | with_reducible exact e_bl | with_reducible exact e_str | with_reducible exact e_non | with_reducible exact a_nil | with_reducible exact o_nil | with_reducible exact g_name | with_reducible exact gs_nil | with_reducible exact b_add | with_reducible exact b_sub | with_reducible exact u_neg | with_reducible exact c_lt | with_reducible exact c_le | with_reducible exact c_gt | with_reducible exact c_ge | with_reducible exact c_eqI | with_reducible exact c_neI | with_reducible exact c_eqS | with_reducible exact c_neS | ((with_reducible apply e_var); exact rfl) | ((with_reducible apply e_glb); exact rfl) | ((with_reducible apply x_tup); exact rfl) | ((with_reducible apply x_lst); exact rfl) | with_reducible apply a_cons | with_reducible apply e_bin | with_reducible apply e_un | with_reducible apply e_idx | with_reducible apply e_call | with_reducible apply e_blt | with_reducible apply e_cmp | with_reducible apply e_slc | with_reducible apply e_frz | with_reducible apply e_one | with_reducible apply e_not | with_reducible apply t_cmp | with_reducible apply t_not | with_reducible apply t_one | with_reducible apply t_ex | with_reducible apply o_cons | with_reducible apply g_tup | with_reducible apply gs_cons | with_reducible apply g_sub | with_reducible apply e_tupS | with_reducible apply e_dspS | ((with_reducible apply LS_mk); exact rfl) | with_reducible refine' t_and ?_ (fun _ => ?_) | with_reducible refine' t_or ?_ (fun _ => ?_) | with_reducible refine' e_and ?_ (fun _ => ?_) | with_reducible refine' e_or ?_ (fun _ => ?_) | ((with_reducible apply b_powL); decide) | ((with_reducible apply b_pow); decide) | ((with_reducible apply b_fdiv); decide) | ((with_reducible apply b_mod); decide) | ((with_reducible apply b_mul); decide) | ((with_reducible apply b_mul); with_reducible assumption) | ((with_reducible apply b_fdiv); with_reducible assumption) | with_reducible apply b_mul | with_reducible apply b_fdiv | with_reducible apply b_mod | with_reducible apply b_shr | with_reducible apply b_cat | with_reducible apply l_str))); exact nn) ?_
      have t1 := sq_times (gs := glsL) (fs := fnsL) (i := itimes) (u := imake) (v := idivisor) 6 [] rfl rfl rfl z1 sx (by decide)
      have ll := lcS_its (xs := qs.map encQ) (tg := evG glsL (run glsL fnsL 9) (.tN 8)) (t := evT glsL (run glsL fnsL 9) .nil) (e := evE glsL (run glsL fnsL 9) (.call itimes (.cons (.var 8) (.cons (.var 4) .nil)))) (σ := wipeD [some (.scr (ns.map D.int)), some (.lst (qs.map encQ)), some (encQ (sumQ qs)), some (.int (j : Int)), some (encQ x), some (encQ y), some (encQ z), e, f] [8]) (st := []) (fun _ => true) (fun d => encQ (dR d * x)) (fun d hd => by
        obtain ⟨q, hq', rfl⟩ := List.mem_map.mp hd
        refine ⟨_, g_name, t_nil, fun _ => ?_⟩
        rw [dR_q]
        have t2 := sq_times (gs := glsL) (fs := fnsL) (i := itimes) (u := imake) (v := idivisor) 6 [] rfl rfl rfl (hq q hq') sx (by decide)
        (repeat' (first | with_reducible apply t2 | with_reducible exact l_abs | with_reducible exact l_int | with_reducible exact l_intB | with_reducible exact l_lenT | with_reducible exact l_lenL | with_reducible exact l_lenS | with_reducible exact l_tupL | with_reducible exact l_tupT | with_reducible exact l_max | with_reducible exact l_min | with_reducible exact l_listT | with_reducible exact l_listL | with_reducible exact v_slcT | with_reducible exact l_isTT | with_reducible exact l_isII | with_reducible exact l_isBI | with_reducible exact l_isBB | with_reducible exact l_isSS | with_reducible exact l_isLL | with_reducible exact z_bl | with_reducible exact z_int | with_reducible exact v_slcL | with_reducible exact v_slcS | with_reducible exact e_int | with_reducible exact e_bl | with_reducible exact e_str | with_reducible exact e_non | with_reducible exact a_nil | with_reducible exact o_nil | with_reducible exact g_name | with_reducible exact gs_nil | with_reducible exact b_add | with_reducible exact b_sub | with_reducible exact u_neg | with_reducible exact c_lt | with_reducible exact c_le | with_reducible exact c_gt | with_reducible exact c_ge | with_reducible exact c_eqI | with_reducible exact c_neI | with_reducible exact c_eqS | with_reducible exact c_neS | ((with_reducible apply e_var); exact rfl) | ((with_reducible apply e_glb); exact rfl) | ((with_reducible apply x_tup); exact rfl) | ((with_reducible apply x_lst); exact rfl) | with_reducible apply a_cons | with_reducible apply e_bin | with_reducible apply e_un | with_reducible apply e_idx | with_reducible apply e_call | with_reducible apply e_blt | with_reducible apply e_cmp | with_reducible apply e_slc | with_reducible apply e_frz | with_reducible apply e_one | with_reducible apply e_not | with_reducible apply t_cmp | with_reducible apply t_not | with_reducible apply t_one | with_reducible apply t_ex | with_reducible apply o_cons | with_reducible apply g_tup | with_reducible apply gs_cons | with_reducible apply g_sub | with_reducible apply e_tupS | with_reducible apply e_dspS | ((with_reducible apply LS_mk); exact rfl) | with_reducible refine' t_and ?_ (fun _ => ?_) | with_reducible refine' t_or ?_ (fun _ => ?_) | with_reducible refine' e_and ?_ (fun _ => ?_) | with_reducible refine' e_or ?_ (fun _ => ?_) | ((with_reducible apply b_powL); decide) | ((with_reducible apply b_pow); decide) | ((with_reducible apply b_fdiv); decide) | ((with_reducible apply b_mod); decide) | ((with_reducible apply b_mul); decide) | ((with_reducible apply b_mul); with_reducible assumption) | ((with_reducible apply b_fdiv); with_reducible assumption) | with_reducible apply b_mul | with_reducible apply b_fdiv | with_reducible apply b_mod | with_reducible apply b_shr | with_reducible apply b_cat | with_reducible apply l_str)))
      rw [List.filter_eq_self.mpr (fun _ _ => rfl), List.map_map] at ll
      have em : List.map ((fun d => encQ (dR d * x)) ∘ encQ) qs = (qs.map fun q => q * x).map encQ := by
        rw [List.map_map]
        apply List.map_congr_left
        intro q _
        simp only [Function.comp_apply, dR_q]
      rw [em] at ll
      obtain ⟨c6, _⟩ := hsum (l := qs.map fun q => q * x) (M := 202) 5 (fun q h => by
        obtain ⟨q, hq', rfl⟩ := List.mem_map.mp h
        exact (hq q hq').mul sx) (by rw [List.length_map]; omega)
      rw [sumQ_mul] at c6
      have hcp : evE glsL (run glsL fnsL 9) (.lcp false [8] (.tN 8) (.iV (.var 1)) .nil (.call itimes (.cons (.var 8) (.cons (.var 4) .nil)))) (List.set (List.set (List.set (List.set [some (.scr (ns.map D.int)), some (.lst (qs.map encQ)), some (encQ (sumQ qs)), a, b, c, d, e, f] 3 (some (.int (j : Int)))) 4 (some (encQ x))) 5 (some (encQ y))) 6 (some (encQ z))) [] = some (.lst ((qs.map fun q => q * x).map encQ), []) := e_lcp (i_lst (e_var rfl)) ll (lenQ (decide_eq_true (by rw [List.length_map, List.length_map]; omega)))
      have q7 := sp_pairright (gs := glsL) (fs := fnsL) (i := i_law_pair_right) (u := iplus) (v := iminus) (w := itimes) (t := iover) (e := ibelow) (g := ishown) (m := imake) (b := idivisor) 5 [] rfl rfl rfl rfl rfl rfl rfl rfl rfl sx sy sz
      refine' w_if (by (repeat' (first | with_reducible apply t1 | with_reducible apply hcp | with_reducible apply c6 | with_reducible apply ceq | with_reducible apply q7 | with_reducible exact l_abs | with_reducible exact l_int | with_reducible exact l_intB | with_reducible exact l_lenT | with_reducible exact l_lenL | with_reducible exact l_lenS | with_reducible exact l_tupL | with_reducible exact l_tupT | with_reducible exact l_max | with_reducible exact l_min | with_reducible exact l_listT | with_reducible exact l_listL | with_reducible exact v_slcT | with_reducible exact l_isTT | with_reducible exact l_isII | with_reducible exact l_isBI | with_reducible exact l_isBB | with_reducible exact l_isSS | with_reducible exact l_isLL | with_reducible exact z_bl | with_reducible exact z_int | with_reducible exact v_slcL | with_reducible exact v_slcS | with_reducible exact e_int | with_reducible exact e_bl | with_reducible exact e_str | with_reducible exact e_non | with_reducible exact a_nil | with_reducible exact o_nil | with_reducible exact g_name | with_reducible exact gs_nil | with_reducible exact b_add | with_reducible exact b_sub | with_reducible exact u_neg | with_reducible exact c_lt | with_reducible exact c_le | with_reducible exact c_gt | with_reducible exact c_ge | with_reducible exact c_eqI | with_reducible exact c_neI | with_reducible exact c_eqS | with_reducible exact c_neS | ((with_reducible apply e_var); exact rfl) | ((with_reducible apply e_glb); exact rfl) | ((with_reducible apply x_tup); exact rfl) | ((with_reducible apply x_lst); exact rfl) | with_reducible apply a_cons | with_reducible apply e_bin | with_reducible apply e_un | with_reducible apply e_idx | with_reducible apply e_call | with_reducible apply e_blt | with_reducible apply e_cmp | with_reducible apply e_slc | with_reducible apply e_frz | with_reducible apply e_one | with_reducible apply e_not | with_reducible apply t_cmp | with_reducible apply t_not | with_reducible apply t_one | with_reducible apply t_ex | with_reducible apply o_cons | with_reducible apply g_tup | with_reducible apply gs_cons | with_reducible apply g_sub | with_reducible apply e_tupS | with_reducible apply e_dspS | ((with_reducible apply LS_mk); exact rfl) | with_reducible refine' t_and ?_ (fun _ => ?_) | with_reducible refine' t_or ?_ (fun _ => ?_) | with_reducible refine' e_and ?_ (fun _ => ?_) | with_reducible refine' e_or ?_ (fun _ => ?_) | ((with_reducible apply b_powL); decide) | ((with_reducible apply b_pow); decide) | ((with_reducible apply b_fdiv); decide) | ((with_reducible apply b_mod); decide) | ((with_reducible apply b_mul); decide) | ((with_reducible apply b_mul); with_reducible assumption) | ((with_reducible apply b_fdiv); with_reducible assumption) | with_reducible apply b_mul | with_reducible apply b_fdiv | with_reducible apply b_mod | with_reducible apply b_shr | with_reducible apply b_cat | with_reducible apply l_str))) rfl rfl (fun h => by cases h) (fun _ => ?_)
      have p1 := sq_plus (gs := glsL) (fs := fnsL) (i := iplus) (u := imake) (v := idivisor) 6 [] rfl rfl rfl sx sy (by decide)
      have t3 := sq_times (gs := glsL) (fs := fnsL) (i := itimes) (u := imake) (v := idivisor) 6 [] rfl rfl rfl (sx.add sy) sz (by decide)
      have t4 := sq_times (gs := glsL) (fs := fnsL) (i := itimes) (u := imake) (v := idivisor) 6 [] rfl rfl rfl sx sz (by decide)
      have t5 := sq_times (gs := glsL) (fs := fnsL) (i := itimes) (u := imake) (v := idivisor) 6 [] rfl rfl rfl sy sz (by decide)
      have p2 := sq_plus (gs := glsL) (fs := fnsL) (i := iplus) (u := imake) (v := idivisor) 6 [] rfl rfl rfl (sx.mul sz) (sy.mul sz) (by decide)
      have a6 : x * z + y * z = (x + y) * z := by grind
      rw [a6] at p2
      refine' w_if (by (repeat' (first | with_reducible apply p1 | with_reducible apply t3 | with_reducible apply t4 | with_reducible apply t5 | with_reducible apply p2 | with_reducible apply ceq | with_reducible exact l_abs | with_reducible exact l_int | with_reducible exact l_intB | with_reducible exact l_lenT | with_reducible exact l_lenL | with_reducible exact l_lenS | with_reducible exact l_tupL | with_reducible exact l_tupT | with_reducible exact l_max | with_reducible exact l_min | with_reducible exact l_listT | with_reducible exact l_listL | with_reducible exact v_slcT | with_reducible exact l_isTT | with_reducible exact l_isII | with_reducible exact l_isBI | with_reducible exact l_isBB | with_reducible exact l_isSS | with_reducible exact l_isLL | with_reducible exact z_bl | with_reducible exact z_int | with_reducible exact v_slcL | with_reducible exact v_slcS | with_reducible exact e_int | with_reducible exact e_bl | with_reducible exact e_str | with_reducible exact e_non | with_reducible exact a_nil | with_reducible exact o_nil | with_reducible exact g_name | with_reducible exact gs_nil | with_reducible exact b_add | with_reducible exact b_sub | with_reducible exact u_neg | with_reducible exact c_lt | with_reducible exact c_le | with_reducible exact c_gt | with_reducible exact c_ge | with_reducible exact c_eqI | with_reducible exact c_neI | with_reducible exact c_eqS | with_reducible exact c_neS | ((with_reducible apply e_var); exact rfl) | ((with_reducible apply e_glb); exact rfl) | ((with_reducible apply x_tup); exact rfl) | ((with_reducible apply x_lst); exact rfl) | with_reducible apply a_cons | with_reducible apply e_bin | with_reducible apply e_un | with_reducible apply e_idx | with_reducible apply e_call | with_reducible apply e_blt | with_reducible apply e_cmp | with_reducible apply e_slc | with_reducible apply e_frz | with_reducible apply e_one | with_reducible apply e_not | with_reducible apply t_cmp | with_reducible apply t_not | with_reducible apply t_one | with_reducible apply t_ex | with_reducible apply o_cons | with_reducible apply g_tup | with_reducible apply gs_cons | with_reducible apply g_sub | with_reducible apply e_tupS | with_reducible apply e_dspS | ((with_reducible apply LS_mk); exact rfl) | with_reducible refine' t_and ?_ (fun _ => ?_) | with_reducible refine' t_or ?_ (fun _ => ?_) | with_reducible refine' e_and ?_ (fun _ => ?_) | with_reducible refine' e_or ?_ (fun _ => ?_) | ((with_reducible apply b_powL); decide) | ((with_reducible apply b_pow); decide) | ((with_reducible apply b_fdiv); decide) | ((with_reducible apply b_mod); decide) | ((with_reducible apply b_mul); decide) | ((with_reducible apply b_mul); with_reducible assumption) | ((with_reducible apply b_fdiv); with_reducible assumption) | with_reducible apply b_mul | with_reducible apply b_fdiv | with_reducible apply b_mod | with_reducible apply b_shr | with_reducible apply b_cat | with_reducible apply l_str))) rfl rfl (fun h => by cases h) (fun _ => ?_)
      exact w_nil ⟨rfl, _, _, _, _, _, _, rfl⟩
    · rintro σ st ⟨rfl, a, b, c, d, e, f, rfl⟩
      exact w_ret e_bl ⟨rfl, rfl⟩
  obtain ⟨d, h, rfl⟩ := w
  exact ⟨_, h⟩
end Law


namespace Law
open Jd PySem L2
theorem tops {K : PySem.W.Frag} {h : Heap} {mg : Str → Option Value} (KX : K.In h) (G : h.Ns mainGlobals mg)
    {fa0 : Addr} {od0 an0 : Option Addr} {sl0 : Array (Option Value)} {oc0 kV0 dc0 pm0 cd0 ct0 : Value} {fa1 : Addr} {od1 an1 : Option Addr} {sl1 : Array (Option Value)} {oc1 kV1 dc1 pm1 cd1 ct1 : Value} {fa2 : Addr} {od2 an2 : Option Addr} {sl2 : Array (Option Value)} {oc2 kV2 dc2 pm2 cd2 ct2 : Value} {fa3 : Addr} {od3 an3 : Option Addr} {sl3 : Array (Option Value)} {oc3 kV3 dc3 pm3 cd3 ct3 : Value} {fa4 : Addr} {od4 an4 : Option Addr} {sl4 : Array (Option Value)} {oc4 kV4 dc4 pm4 cd4 ct4 : Value} {fa5 : Addr} {od5 an5 : Option Addr} {sl5 : Array (Option Value)} {oc5 kV5 dc5 pm5 cd5 ct5 : Value} {fa6 : Addr} {od6 an6 : Option Addr} {sl6 : Array (Option Value)} {oc6 kV6 dc6 pm6 cd6 ct6 : Value} {fa7 : Addr} {od7 an7 : Option Addr} {sl7 : Array (Option Value)} {oc7 kV7 dc7 pm7 cd7 ct7 : Value} {fa8 : Addr} {od8 an8 : Option Addr} {sl8 : Array (Option Value)} {oc8 kV8 dc8 pm8 cd8 ct8 : Value} {fa9 : Addr} {od9 an9 : Option Addr} {sl9 : Array (Option Value)} {oc9 kV9 dc9 pm9 cd9 ct9 : Value} {fa10 : Addr} {od10 an10 : Option Addr} {sl10 : Array (Option Value)} {oc10 kV10 dc10 pm10 cd10 ct10 : Value} {fa11 : Addr} {od11 an11 : Option Addr} {sl11 : Array (Option Value)} {oc11 kV11 dc11 pm11 cd11 ct11 : Value} {fa12 : Addr} {od12 an12 : Option Addr} {sl12 : Array (Option Value)} {oc12 kV12 dc12 pm12 cd12 ct12 : Value} {fa13 : Addr} {od13 an13 : Option Addr} {sl13 : Array (Option Value)} {oc13 kV13 dc13 pm13 cd13 ct13 : Value}
    (a0 : PySem.W.nsIn K mainGlobals "divisor" = some (some (.ref fa0))) (l0 : K.lookup fa0 = some ⟨oc0, od0, .func (PySem.W.fnOf "divisor" "divisor" (defArgs (top 1)) (defBody (top 1)) (defScope (top 1)) .none kV0 dc0 pm0 an0 cd0 ct0), sl0⟩) (c0 : PySem.W.codeIn K cd0 "divisor" = true) (k0 : PySem.W.keepIn K (.ref fa0) = true)
    (a1 : PySem.W.nsIn K mainGlobals "make" = some (some (.ref fa1))) (l1 : K.lookup fa1 = some ⟨oc1, od1, .func (PySem.W.fnOf "make" "make" (defArgs (top 2)) (defBody (top 2)) (defScope (top 2)) .none kV1 dc1 pm1 an1 cd1 ct1), sl1⟩) (c1 : PySem.W.codeIn K cd1 "make" = true) (k1 : PySem.W.keepIn K (.ref fa1) = true)
    (a2 : PySem.W.nsIn K mainGlobals "plus" = some (some (.ref fa2))) (l2 : K.lookup fa2 = some ⟨oc2, od2, .func (PySem.W.fnOf "plus" "plus" (defArgs (top 3)) (defBody (top 3)) (defScope (top 3)) .none kV2 dc2 pm2 an2 cd2 ct2), sl2⟩) (c2 : PySem.W.codeIn K cd2 "plus" = true) (k2 : PySem.W.keepIn K (.ref fa2) = true)
    (a3 : PySem.W.nsIn K mainGlobals "minus" = some (some (.ref fa3))) (l3 : K.lookup fa3 = some ⟨oc3, od3, .func (PySem.W.fnOf "minus" "minus" (defArgs (top 4)) (defBody (top 4)) (defScope (top 4)) .none kV3 dc3 pm3 an3 cd3 ct3), sl3⟩) (c3 : PySem.W.codeIn K cd3 "minus" = true) (k3 : PySem.W.keepIn K (.ref fa3) = true)
    (a4 : PySem.W.nsIn K mainGlobals "times" = some (some (.ref fa4))) (l4 : K.lookup fa4 = some ⟨oc4, od4, .func (PySem.W.fnOf "times" "times" (defArgs (top 5)) (defBody (top 5)) (defScope (top 5)) .none kV4 dc4 pm4 an4 cd4 ct4), sl4⟩) (c4 : PySem.W.codeIn K cd4 "times" = true) (k4 : PySem.W.keepIn K (.ref fa4) = true)
    (a5 : PySem.W.nsIn K mainGlobals "over" = some (some (.ref fa5))) (l5 : K.lookup fa5 = some ⟨oc5, od5, .func (PySem.W.fnOf "over" "over" (defArgs (top 6)) (defBody (top 6)) (defScope (top 6)) .none kV5 dc5 pm5 an5 cd5 ct5), sl5⟩) (c5 : PySem.W.codeIn K cd5 "over" = true) (k5 : PySem.W.keepIn K (.ref fa5) = true)
    (a6 : PySem.W.nsIn K mainGlobals "below" = some (some (.ref fa6))) (l6 : K.lookup fa6 = some ⟨oc6, od6, .func (PySem.W.fnOf "below" "below" (defArgs (top 7)) (defBody (top 7)) (defScope (top 7)) .none kV6 dc6 pm6 an6 cd6 ct6), sl6⟩) (c6 : PySem.W.codeIn K cd6 "below" = true) (k6 : PySem.W.keepIn K (.ref fa6) = true)
    (a7 : PySem.W.nsIn K mainGlobals "shown" = some (some (.ref fa7))) (l7 : K.lookup fa7 = some ⟨oc7, od7, .func (PySem.W.fnOf "shown" "shown" (defArgs (top 8)) (defBody (top 8)) (defScope (top 8)) .none kV7 dc7 pm7 an7 cd7 ct7), sl7⟩) (c7 : PySem.W.codeIn K cd7 "shown" = true) (k7 : PySem.W.keepIn K (.ref fa7) = true)
    (a8 : PySem.W.nsIn K mainGlobals "_law_stir" = some (some (.ref fa8))) (l8 : K.lookup fa8 = some ⟨oc8, od8, .func (PySem.W.fnOf "_law_stir" "_law_stir" (defArgs (top 10)) (defBody (top 10)) (defScope (top 10)) .none kV8 dc8 pm8 an8 cd8 ct8), sl8⟩) (c8 : PySem.W.codeIn K cd8 "_law_stir" = true) (k8 : PySem.W.keepIn K (.ref fa8) = true)
    (a9 : PySem.W.nsIn K mainGlobals "_law_number" = some (some (.ref fa9))) (l9 : K.lookup fa9 = some ⟨oc9, od9, .func (PySem.W.fnOf "_law_number" "_law_number" (defArgs (top 11)) (defBody (top 11)) (defScope (top 11)) .none kV9 dc9 pm9 an9 cd9 ct9), sl9⟩) (c9 : PySem.W.codeIn K cd9 "_law_number" = true) (k9 : PySem.W.keepIn K (.ref fa9) = true)
    (a10 : PySem.W.nsIn K mainGlobals "_law_made" = some (some (.ref fa10))) (l10 : K.lookup fa10 = some ⟨oc10, od10, .func (PySem.W.fnOf "_law_made" "_law_made" (defArgs (top 12)) (defBody (top 12)) (defScope (top 12)) .none kV10 dc10 pm10 an10 cd10 ct10), sl10⟩) (c10 : PySem.W.codeIn K cd10 "_law_made" = true) (k10 : PySem.W.keepIn K (.ref fa10) = true)
    (a11 : PySem.W.nsIn K mainGlobals "_law_sum" = some (some (.ref fa11))) (l11 : K.lookup fa11 = some ⟨oc11, od11, .func (PySem.W.fnOf "_law_sum" "_law_sum" (defArgs (top 13)) (defBody (top 13)) (defScope (top 13)) .none kV11 dc11 pm11 an11 cd11 ct11), sl11⟩) (c11 : PySem.W.codeIn K cd11 "_law_sum" = true) (k11 : PySem.W.keepIn K (.ref fa11) = true)
    (a12 : PySem.W.nsIn K mainGlobals "_law_pair_right" = some (some (.ref fa12))) (l12 : K.lookup fa12 = some ⟨oc12, od12, .func (PySem.W.fnOf "_law_pair_right" "_law_pair_right" (defArgs (top 14)) (defBody (top 14)) (defScope (top 14)) .none kV12 dc12 pm12 an12 cd12 ct12), sl12⟩) (c12 : PySem.W.codeIn K cd12 "_law_pair_right" = true) (k12 : PySem.W.keepIn K (.ref fa12) = true)
    (a13 : PySem.W.nsIn K mainGlobals "law" = some (some (.ref fa13))) (l13 : K.lookup fa13 = some ⟨oc13, od13, .func (PySem.W.fnOf "law" "law" (defArgs (top 15)) (defBody (top 15)) (defScope (top 15)) .none kV13 dc13 pm13 an13 cd13 ct13), sl13⟩) (c13 : PySem.W.codeIn K cd13 "law" = true) (k13 : PySem.W.keepIn K (.ref fa13) = true)
    (zabs : PySem.W.nsIn K mainGlobals "abs" = some none)
    (zlen : PySem.W.nsIn K mainGlobals "len" = some none)
    (zrange : PySem.W.nsIn K mainGlobals "range" = some none)
    (zstr : PySem.W.nsIn K mainGlobals "str" = some none) :
    Jd.TopOk K mg gam glsL fnsL ∧ ∃ fa fd N st, Jd.DefAt K mg gam "law" flaw fa fd ["script"] N st := by
  have D0 := Jd.def_at (Γ := gam) KX G kdivisor (fun _ _ _ _ _ _ us hl => match us, hl with | [_, _], _ => rfl) a0 l0 c0 k0
  have D1 := Jd.def_at (Γ := gam) KX G kmake (fun _ _ _ _ _ _ us hl => match us, hl with | [_, _], _ => rfl) a1 l1 c1 k1
  have D2 := Jd.def_at (Γ := gam) KX G kplus (fun _ _ _ _ _ _ us hl => match us, hl with | [_, _], _ => rfl) a2 l2 c2 k2
  have D3 := Jd.def_at (Γ := gam) KX G kminus (fun _ _ _ _ _ _ us hl => match us, hl with | [_, _], _ => rfl) a3 l3 c3 k3
  have D4 := Jd.def_at (Γ := gam) KX G ktimes (fun _ _ _ _ _ _ us hl => match us, hl with | [_, _], _ => rfl) a4 l4 c4 k4
  have D5 := Jd.def_at (Γ := gam) KX G kover (fun _ _ _ _ _ _ us hl => match us, hl with | [_, _], _ => rfl) a5 l5 c5 k5
  have D6 := Jd.def_at (Γ := gam) KX G kbelow (fun _ _ _ _ _ _ us hl => match us, hl with | [_, _], _ => rfl) a6 l6 c6 k6
  have D7 := Jd.def_at (Γ := gam) KX G kshown (fun _ _ _ _ _ _ us hl => match us, hl with | [_], _ => rfl) a7 l7 c7 k7
  have D8 := Jd.def_at (Γ := gam) KX G k_law_stir (fun _ _ _ _ _ _ us hl => match us, hl with | [_, _], _ => rfl) a8 l8 c8 k8
  have D9 := Jd.def_at (Γ := gam) KX G k_law_number (fun _ _ _ _ _ _ us hl => match us, hl with | [_, _], _ => rfl) a9 l9 c9 k9
  have D10 := Jd.def_at (Γ := gam) KX G k_law_made (fun _ _ _ _ _ _ us hl => match us, hl with | [_], _ => rfl) a10 l10 c10 k10
  have D11 := Jd.def_at (Γ := gam) KX G k_law_sum (fun _ _ _ _ _ _ us hl => match us, hl with | [_], _ => rfl) a11 l11 c11 k11
  have D12 := Jd.def_at (Γ := gam) KX G k_law_pair_right (fun _ _ _ _ _ _ us hl => match us, hl with | [_, _, _], _ => rfl) a12 l12 c12 k12
  have D13 := Jd.def_at (Γ := gam) KX G klaw (fun _ _ _ _ _ _ us hl => match us, hl with | [_], _ => rfl) a13 l13 c13 k13
  exact ⟨⟨(Jd.blt_cons KX G zabs (Jd.blt_cons KX G zlen (Jd.blt_cons KX G zrange (Jd.blt_cons KX G zstr Jd.blt_nil)))), trivial, ⟨⟨_, _, _, _, _, D0⟩, ⟨⟨_, _, _, _, _, D1⟩, ⟨⟨_, _, _, _, _, D2⟩, ⟨⟨_, _, _, _, _, D3⟩, ⟨⟨_, _, _, _, _, D4⟩, ⟨⟨_, _, _, _, _, D5⟩, ⟨⟨_, _, _, _, _, D6⟩, ⟨⟨_, _, _, _, _, D7⟩, ⟨⟨_, _, _, _, _, D8⟩, ⟨⟨_, _, _, _, _, D9⟩, ⟨⟨_, _, _, _, _, D10⟩, ⟨⟨_, _, _, _, _, D11⟩, ⟨⟨_, _, _, _, _, D12⟩, ⟨⟨_, _, _, _, _, D13⟩, trivial⟩⟩⟩⟩⟩⟩⟩⟩⟩⟩⟩⟩⟩⟩⟩, _, _, _, _, D13⟩
end Law
open PySem PySem.W PyProof.Rows
set_option maxRecDepth 100000 in
set_option maxHeartbeats 0 in
theorem PySem.Challenge.cw_stepjudge_k03_whole_laws_of_fractions_holds : PySem.Challenge.rw_stepjudge_k03_whole_laws_of_fractions.Holds := by
  w_on; o_law; k_head; (case hw => w_witness2)
  k_fill
  refine Jd.law_walk (l := PySem.Challenge.rw_stepjudge_k03_whole_laws_of_fractions) (x := "script") (Γ := Law.gam) (gs := Law.glsL) (fs := Law.fnsL) (j := Law.ilaw) (g := Law.flaw) rfl rfl (by decide : Law.lev ≤ 60) (fun w h Y => PySem.W.kIn_of Y) rfl ?T Law.holds
  case T =>
    intro w mg h KX G
    refine' Law.tops KX G ?a0 ?l0 ?c0 ?k0 ?a1 ?l1 ?c1 ?k1 ?a2 ?l2 ?c2 ?k2 ?a3 ?l3 ?c3 ?k3 ?a4 ?l4 ?c4 ?k4 ?a5 ?l5 ?c5 ?k5 ?a6 ?l6 ?c6 ?k6 ?a7 ?l7 ?c7 ?k7 ?a8 ?l8 ?c8 ?k8 ?a9 ?l9 ?c9 ?k9 ?a10 ?l10 ?c10 ?k10 ?a11 ?l11 ?c11 ?k11 ?a12 ?l12 ?c12 ?k12 ?a13 ?l13 ?c13 ?k13 ?zabs ?zlen ?zrange ?zstr
    (case a0 => k_is)
    (case l0 => k_is)
    (case c0 => k_is)
    (case k0 => k_is)
    (case a1 => k_is)
    (case l1 => k_is)
    (case c1 => k_is)
    (case k1 => k_is)
    (case a2 => k_is)
    (case l2 => k_is)
    (case c2 => k_is)
    (case k2 => k_is)
    (case a3 => k_is)
    (case l3 => k_is)
    (case c3 => k_is)
    (case k3 => k_is)
    (case a4 => k_is)
    (case l4 => k_is)
    (case c4 => k_is)
    (case k4 => k_is)
    (case a5 => k_is)
    (case l5 => k_is)
    (case c5 => k_is)
    (case k5 => k_is)
    (case a6 => k_is)
    (case l6 => k_is)
    (case c6 => k_is)
    (case k6 => k_is)
    (case a7 => k_is)
    (case l7 => k_is)
    (case c7 => k_is)
    (case k7 => k_is)
    (case a8 => k_is)
    (case l8 => k_is)
    (case c8 => k_is)
    (case k8 => k_is)
    (case a9 => k_is)
    (case l9 => k_is)
    (case c9 => k_is)
    (case k9 => k_is)
    (case a10 => k_is)
    (case l10 => k_is)
    (case c10 => k_is)
    (case k10 => k_is)
    (case a11 => k_is)
    (case l11 => k_is)
    (case c11 => k_is)
    (case k11 => k_is)
    (case a12 => k_is)
    (case l12 => k_is)
    (case c12 => k_is)
    (case k12 => k_is)
    (case a13 => k_is)
    (case l13 => k_is)
    (case c13 => k_is)
    (case k13 => k_is)
    (case zabs => k_is)
    (case zlen => k_is)
    (case zrange => k_is)
    (case zstr => k_is)

