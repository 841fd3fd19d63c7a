import PyProof.Rows.All
import HandS.ForMost
import HandS.Exc
import HandS.ExcOwn
import HandS.Defaults
import HandS.Wide
import HandS.TupAny
import HandS.TupMul
import HandS.Style
import HandS.IsInst
import HandS.Text
import HandS.ExcField
import HandS.CallLocal
import HandS.Comp
import HandS.Iter
import HandS.Zip
import KE.GoesZip
import KE.GoesEnum
import HandS.More
import HandS.TryMany
import HandS.Deep
import HandS.Conv
import HandS.EndBits
import HandS.HeadHook1
import HandS.HeadHook2
import KE.KStateDown
import HandS.Head0
import HandS.Head1
import HandS.Head2
import HandS.HeadEnd
import PySem.Challenge.RW_splineroads_k00_whole_integers
set_option Elab.async false
set_option linter.all false
set_option maxRecDepth 100000
namespace PV
open PySem L2

/-! ## values, results -/
inductive D where
  | non | bl (b : Bool) | int (i : Int) | str (s : Str) | tup (ds : List D) | lst (ds : List D)
  | obj (c : Nat) (ds : List D) | fn (k : Nat) | dic | ro (ds : List D)

structure Exn where
  c : Nat
  arg : Option D

inductive R (α : Type) where
  | ok (a : α) | exc (x : Exn) | stuck

inductive Cell where
  | un | sh (d : D) | ow (ds : List D) | lk (ds : List D) | io (ds : List D) | bld (c : Nat) (ds : List D)
abbrev En := List Cell
/-- a list or an instance that was handed in -/
def Cell.tag : Cell → Option (Option Nat)
  | .io _ => some none
  | .bld c _ => some (some c)
  | _ => none
inductive Vl where
  | sh (d : D) | ow (ds : List D) | sl (i : Nat)
inductive Vr where
  | sh (d : D) | ow (ds : List D)
inductive FArg where
  | no | io (ds : List D) | bld (c : Nat)

def R.map {α β : Type} (f : α → β) : R α → R β
  | .ok a => .ok (f a)
  | .exc x => .exc x
  | .stuck => .stuck
def R.bind {α β : Type} (m : R α) (f : α → R β) : R β := match m with
  | .ok a => f a
  | .exc x => .exc x
  | .stuck => .stuck
@[simp] theorem R.bind_ok {α β : Type} (a : α) (f : α → R β) : (R.ok a).bind f = f a := rfl
@[simp] theorem R.bind_exc {α β : Type} (x : Exn) (f : α → R β) : (R.exc x).bind f = .exc x := rfl
@[simp] theorem R.bind_stuck {α β : Type} (f : α → R β) : (R.stuck).bind f = .stuck := rfl
def bnd {α β : Type} (m : R (α × En)) (f : α → En → R (β × En)) : R (β × En) := match m with
  | .ok (a, σ) => f a σ
  | .exc x => .exc x
  | .stuck => .stuck
@[simp] theorem bnd_ok {α β : Type} (a : α) (σ : En) (f : α → En → R (β × En)) : bnd (.ok (a, σ)) f = f a σ := rfl
@[simp] theorem bnd_exc {α β : Type} (x : Exn) (f : α → En → R (β × En)) : bnd (.exc x) f = .exc x := rfl
@[simp] theorem bnd_stuck {α β : Type} (f : α → En → R (β × En)) : bnd .stuck f = .stuck := rfl

/-! ## the text -/
inductive BOp where
  | add | sub | mul | fdiv | mod
  deriving DecidableEq
inductive COp where
  | lt | le | gt | ge | eq | ne | mem | nmem
  deriving DecidableEq
inductive TyK where
  | int | bool | str | tup | lst | own (c : Nat)
  deriving DecidableEq
inductive Bif where
  | len | abs | int | tup | lst | max2 | min2 | sum | all | any
  deriving DecidableEq
inductive Tgt where
  | v (i : Nat) | tp (is : List Nat)
def Tgt.slots : Tgt → List Nat
  | .v i => [i]
  | .tp is => is

mutual
inductive Ex where
  | var (i : Nat) | con (d : D) | gcon (x : Str) (i : Int) | gfn (k : Nat)
  | bin (o : BOp) (a b : Ex) | neg (a : Ex) | not (a : Ex)
  | cmp (o : COp) (a b : Ex) | isN (a : Ex) | notN (a : Ex) | chain (o p : COp) (a b c : Ex)
  | and (a b : Ex) | or (a b : Ex) | ite (c a b : Ex)
  | tup (es : Exs) | lst (es : Exs)
  | ix (a i : Ex) | slc (a : Ex) (lo hi : Exo) | rev (a : Ex)
  | fld (a : Ex) (f : Str)
  | call (k : Nat) (es : Exs) | callio (k i : Nat) (es : Exs) | callv (i : Nat) (es : Exs)
  | mk (c : Nat) (es : Exs) (dv : List D)
  | meth (c : Nat) (a : Ex) (m : Str) (es : Exs)
  | bif (b : Bif) (es : Exs) | trng1 (l : Bool) (a : Ex) | trng2 (l : Bool) (a b : Ex)
  | isi (a : Ex) (t : TyK) | isi2 (a : Ex) (t u : TyK)
  | lc (s : Src) (t : Tgt) (e : Ex) | lcf (s : Src) (t : Tgt) (c e : Ex)
  | lc2 (s : Src) (t : Nat) (s' : Src) (t' : Nat) (e : Ex)
inductive Exs where
  | nil | cons (e : Ex) (es : Exs)
inductive Exo where
  | none | some (e : Ex)
inductive Src where
  | seq (e : Ex) | rng (es : Exs) | zip (es : Exs) | enum (es : Exs)
end
mutual
inductive Sm where
  | asg (t : Tgt) (e : Ex) | par2 (i j : Nat) (a b : Ex) | par (is : List Nat) (es : Exs)
  | setix (i : Nat) (ix e : Ex) | setix2 (i : Nat) (ix : Ex) (j : Nat) (jx : Ex) (a b : Ex)
  | setfld (f : Str) (e : Ex)
  | app (i : Nat) (e : Ex) | ins (i : Nat) (k e : Ex) | ext (i : Nat) (e : Ex) | rem (i : Nat) (e : Ex)
  | ex (e : Ex) | ifs (c : Ex) (a b : Sms) | whl (c : Ex) (b : Sms) | for (t : Tgt) (s : Src) (b : Sms)
  | ret (e : Ex) | retN | raise (c : Nat) | raise1 (c : Nat) (e : Ex) | tryS (b : Sms) (hs : Hds) | pass
inductive Sms where
  | nil | cons (s : Sm) (r : Sms)
/-- except clauses: a suite that looks at no name; `as n: return s, n.f` -/
inductive Hds where
  | nil | con (c : Nat) (b : Sms) (r : Hds) | fld (c : Nat) (i : Nat) (s : Str) (r : Hds)
end

structure FnI where
  name : Str
  top : Bool
  N : List Str
  ps : List Str
  dv : List Int
  body : Sms
structure ClsI where
  name : Str
  flds : List Str
  init : Nat
  meths : List (Str × Nat)
structure ExcI where
  name : Str
  fld : Option Str
structure Prg where
  fns : List FnI
  cls : List ClsI
  exs : List ExcI

/-! ## cells -/
def esc (v : Vl) (σ : En) : R (D × En) := match v with
  | .sh d => .ok (d, σ)
  | .ow ds => .ok (.lst ds, σ)
  | .sl i => match σ[i]? with
    | some (.ow ds) => .ok (.lst ds, σ.set i (.sh (.lst ds)))
    | some (.lk ds) => .ok (.lst ds, σ.set i (.sh (.lst ds)))
    | some (.sh d) => .ok (d, σ)
    | _ => .stuck
def alias_ (v : Vl) (σ : En) : R (Vl × En) := match v with
  | .sl i => (esc (.sl i) σ).map fun p => (.sh p.1, p.2)
  | v => .ok (v, σ)
def hold (v : Vl) : Vl := match v with
  | .ow ds => .sh (.lst ds)
  | v => v
def peek (v : Vl) (σ : En) : R D := match v with
  | .sh d => .ok d
  | .ow ds => .ok (.lst ds)
  | .sl i => match σ[i]? with
    | some (.ow ds) => .ok (.lst ds)
    | some (.lk ds) => .ok (.lst ds)
    | some (.io ds) => .ok (.lst ds)
    | some (.sh d) => .ok d
    | _ => .stuck
def vr (v : Vr) : Vl := match v with
  | .sh d => .sh d
  | .ow ds => .ow ds
def vrD (v : Vr) : D := match v with
  | .sh d => d
  | .ow ds => .lst ds
def getv (i : Nat) (σ : En) : R Vl := match σ[i]? with
  | some (.sh d) => .ok (.sh d)
  | some (.ow _) => .ok (.sl i)
  | some (.lk _) => .ok (.sl i)
  | some (.io _) => .ok (.sl i)
  | _ => .stuck
def setc (i : Nat) (c : Cell) (σ : En) : R En := match σ[i]? with
  | some .un => .ok (σ.set i c)
  | some (.sh _) => .ok (σ.set i c)
  | some (.ow _) => .ok (σ.set i c)
  | _ => .stuck
def setv (i : Nat) (v : Vl) (σ : En) : R En := match v with
  | .sh d => setc i (.sh d) σ
  | .ow ds => setc i (.ow ds) σ
  | .sl _ => .stuck
def setAll : List Nat → List D → En → R En
  | [], [], σ => .ok σ
  | i :: is, d :: ds, σ => (setc i (.sh d) σ).bind (setAll is ds)
  | _, _, _ => .stuck
def setT (t : Tgt) (d : D) (σ : En) : R En := match t with
  | .v i => setc i (.sh d) σ
  | .tp is => match d with
    | .tup ds => setAll is ds σ
    | _ => .stuck
def lock (i : Nat) (σ : En) : En := match σ[i]? with
  | some (.ow ds) => σ.set i (.lk ds)
  | _ => σ
def unlock (i : Nat) (σ : En) : En := match σ[i]? with
  | some (.lk ds) => σ.set i (.ow ds)
  | _ => σ
def wipeE (σ : En) : List Nat → En
  | [] => σ
  | v :: vs => (wipeE σ vs).set v .un
def back (σ0 : En) : List Nat → En → En
  | [], σ => σ
  | v :: vs, σ => (back σ0 vs σ).set v (σ0[v]?.getD .un)
/-- the slots that a walked value locks -/
def lks (v : Vl) (σ : En) : List Nat := match v with
  | .sl i => match σ[i]? with
    | some (.ow _) => [i]
    | _ => []
  | _ => []
/-- nothing walks a list that was handed in to be changed -/
def wOk (v : Vl) (σ : En) : Bool := match v with
  | .sl i => match σ[i]? with
    | some (.io _) => false
    | _ => true
  | _ => true
def noLk (is : List Nat) (σ : En) : Bool := is.all fun i => match σ[i]? with
  | some (.lk _) => false
  | _ => true

/-! ## plain operations -/
def sizeOk (n : Nat) : Bool := decide (n ≤ 16000000)
def ixD (n : Nat) (i : Int) : Option Nat := ixN n i
abbrev CF := Nat → FArg → List D → R (Vr × List D)

/-! plain data -/
mutual
def toPD : D → Option PyData
  | .non => some .none
  | .bl b => some (.bool b)
  | .int i => some (.int i)
  | .str s => some (.str s)
  | .tup ds => (toPDs ds).map PyData.tuple
  | .lst ds => (toPDs ds).map PyData.list
  | .obj _ _ => none
  | .fn _ => none
  | .dic => none
  | .ro _ => none
def toPDs : List D → Option (List PyData)
  | [] => some []
  | d :: ds => match toPD d, toPDs ds with
    | some p, some ps => some (p :: ps)
    | _, _ => none
end
section
variable (P : Prg) (cf : CF)
def clsM (c : Nat) (m : Str) : Option Nat := match P.cls[c]? with
  | some C => C.meths.lookup m
  | none => none
def clsF (c : Nat) : List Str := match P.cls[c]? with
  | some C => C.flds
  | none => []
/-- an own method called by an operation: what it hands back is shared -/
def callM (c : Nat) (m : Str) (args : List D) : R D := match clsM P c m with
  | some k => (cf k .no args).bind fun p => .ok (vrD p.1)
  | none => .stuck
/-- == -/
def eqT (x y : D) : R Bool := match toPD x, toPD y with
  | some p, some q => if SeqAt.shaped p = true ∧ SeqAt.shaped q = true then .ok (PyData.eqv p q) else .stuck
  | _, _ => match x with
    | .obj c a => (callM P cf c "__eq__" [.obj c a, y]).bind fun d => match d with
      | .bl b => .ok b
      | _ => .stuck
    | _ => .stuck
def memT (x y : D) : R Bool := match toPD x, toPD y with
  | some p, some (.list ds) => if SeqAt.shaped p = true ∧ SeqAt.shaped (.list ds) = true then .ok (ds.any fun z => PyData.eqv z p) else .stuck
  | _, _ => .stuck
def intsD : List D → Option (List Int)
  | [] => some []
  | .int i :: r => (intsD r).map (i :: ·)
  | _ :: _ => none
def boolsD : List D → Option (List Bool)
  | [] => some []
  | .bl b :: r => (boolsD r).map (b :: ·)
  | _ :: _ => none
def own2 (c : Nat) (m : Str) (x y : D) : R Vr := (callM P cf c m [x, y]).bind fun d => .ok (.sh d)
def binD (o : BOp) (x y : D) : R Vr := match o with
  | .add => match x, y with
    | .int i, .int j => .ok (.sh (.int (i + j)))
    | .str i, .str j => if i.length + j.length ≤ 16000000 then .ok (.sh (.str (i ++ j))) else .stuck
    | .tup i, .tup j => if i.length + j.length ≤ 16000000 then .ok (.sh (.tup (i ++ j))) else .stuck
    | .lst i, .lst j => if i.length + j.length ≤ 16000000 then .ok (.ow (i ++ j)) else .stuck
    | .obj c i, y => own2 P cf c "__add__" (.obj c i) y
    | _, _ => .stuck
  | .sub => match x, y with
    | .int i, .int j => .ok (.sh (.int (i - j)))
    | .obj c i, y => own2 P cf c "__sub__" (.obj c i) y
    | _, _ => .stuck
  | .mul => match x, y with
    | .int i, .int j => if i.natAbs.log2 + j.natAbs.log2 < 100000000 then .ok (.sh (.int (i * j))) else .stuck
    | .tup i, .int j => if i.length ≤ 1000 ∧ 2 ≤ j ∧ j ≤ 1000 ∧ 0 < i.length then .ok (.sh (.tup (List.replicate j.toNat i).flatten)) else .stuck
    | .lst i, .int j => if i.length * j.toNat ≤ 16000000 ∧ j < 1000000 ∧ -1000000 < j then .ok (.ow (List.replicate j.toNat i).flatten) else .stuck
    | .obj c i, y => own2 P cf c "__mul__" (.obj c i) y
    | _, _ => .stuck
  | .fdiv => match x, y with
    | .int i, .int j => if 0 < j ∧ j.natAbs.log2 < 9000 then .ok (.sh (.int (i / j))) else .stuck
    | _, _ => .stuck
  | .mod => match x, y with
    | .int i, .int j => if 0 < j then .ok (.sh (.int (i % j))) else .stuck
    | _, _ => .stuck
def negD (x : D) : R D := match x with
  | .int i => .ok (.int (-i))
  | .obj c i => callM P cf c "__neg__" [.obj c i]
  | _ => .stuck
def ordD (m : Str) (f : Int → Int → Bool) (g : Str → Str → Bool) (x y : D) : R Bool := match x, y with
  | .int i, .int j => .ok (f i j)
  | .str i, .str j => .ok (g i j)
  | .obj c i, y => (callM P cf c m [.obj c i, y]).bind fun d => match d with
    | .bl b => .ok b
    | _ => .stuck
  | _, _ => .stuck
def cmpD (o : COp) (x y : D) : R Bool := match o with
  | .lt => match x, y with
    | .tup a, .tup b => match intsD a, intsD b with
      | some a, some b => .ok (HT.lexLt a b)
      | _, _ => .stuck
    | x, y => ordD P cf "__lt__" (fun i j => decide (i < j)) (fun i j => decide (i.cps.toList < j.cps.toList)) x y
  | .le => ordD P cf "__le__" (fun i j => decide (i ≤ j)) (fun i j => !decide (j.cps.toList < i.cps.toList)) x y
  | .gt => match x, y with
    | .int i, .int j => .ok (decide (j < i))
    | _, _ => .stuck
  | .ge => match x, y with
    | .int i, .int j => .ok (decide (j ≤ i))
    | _, _ => .stuck
  | .eq => eqT P cf x y
  | .ne => (eqT P cf x y).map (!·)
  | .mem => memT x y
  | .nmem => (memT x y).map (!·)
end
def items : D → Option (List D)
  | .lst ds => some ds
  | .tup ds => some ds
  | _ => none
def ixOf (x i : D) : R D := match items x, i with
  | some ds, .int i => match atI ds i with
    | some d => .ok d
    | none => .stuck
  | _, _ => .stuck
def cutD (xs : List D) (lo hi : Option Int) : List D := (xs.drop (HT.sIx xs.length 0 lo)).take (HT.sIx xs.length xs.length hi - HT.sIx xs.length 0 lo)
def slcD (x : D) (lo hi : Option Int) : R Vr := match x with
  | .ro ds => .ok (.ow (cutD ds lo hi))
  | .lst ds => .ok (.ow (cutD ds lo hi))
  | .tup ds => .ok (.sh (.tup (cutD ds lo hi)))
  | _ => .stuck
def revD (x : D) : R Vr := match x with
  | .lst ds => .ok (.ow ds.reverse)
  | _ => .stuck
def isNon : D → Bool
  | .non => true
  | _ => false
def isi1 (t : TyK) (d : D) : Bool := match t, d with
  | .int, .int _ => true
  | .int, .bl _ => true
  | .bool, .bl _ => true
  | .str, .str _ => true
  | .tup, .tup _ => true
  | .lst, .lst _ => true
  | .own c, .obj c' _ => c == c'
  | _, _ => false
def isiD (t : TyK) (d : D) : R Bool := match d with
  | .fn _ => .stuck
  | .ro _ => .stuck
  | d => .ok (isi1 t d)
def bifD (b : Bif) (ds : List D) : R Vr := match b with
  | .len => (match ds with
    | [.lst xs] => .ok (.sh (.int xs.length))
    | [.tup xs] => .ok (.sh (.int xs.length))
    | [.str s] => if s.length ≤ 16000000 then .ok (.sh (.int s.length)) else .stuck
    | _ => .stuck)
  | .abs => (match ds with
    | [.int i] => .ok (.sh (.int (if i < 0 then -i else i)))
    | _ => .stuck)
  | .int => (match ds with
    | [.int i] => .ok (.sh (.int i))
    | [.bl b] => .ok (.sh (.int (if b then 1 else 0)))
    | _ => .stuck)
  | .tup => (match ds with
    | [.lst xs] => .ok (.sh (.tup xs))
    | [.tup xs] => .ok (.sh (.tup xs))
    | _ => .stuck)
  | .lst => (match ds with
    | [.lst xs] => .ok (.ow xs)
    | [.tup xs] => .ok (.ow xs)
    | _ => .stuck)
  | .max2 => (match ds with
    | [.int i, .int j] => .ok (.sh (.int (if j > i then j else i)))
    | _ => .stuck)
  | .min2 => (match ds with
    | [.int i, .int j] => .ok (.sh (.int (if j < i then j else i)))
    | _ => .stuck)
  | .sum => (match ds with
    | [.lst xs] => (match intsD xs with
        | some ns => .ok (.sh (.int ns.sum))
        | none => .stuck)
    | [.tup xs] => (match intsD xs with
        | some ns => .ok (.sh (.int ns.sum))
        | none => .stuck)
    | _ => .stuck)
  | .all => (match ds with
    | [.lst xs] => (match boolsD xs with
        | some bs => .ok (.sh (.bl (bs.all id)))
        | none => .stuck)
    | _ => .stuck)
  | .any => (match ds with
    | [.lst xs] => (match boolsD xs with
        | some bs => .ok (.sh (.bl (bs.any id)))
        | none => .stuck)
    | _ => .stuck)
def rngD (lo hi c : Int) : Option (List D) :=
  if -1000000 < lo ∧ lo < 1000000000 ∧ -1000000 < hi ∧ hi < 1000000000 then
    if c = 1 then some ((List.range (hi - lo).toNat).map fun (i : Nat) => D.int (lo + i))
    else if c = -1 then some ((List.range (lo - hi).toNat).map fun (i : Nat) => D.int (lo + (i : Int) * (-1))) else none
  else none
/-- list(range(..)), tuple(range(..)) -/
def rgR (l : Bool) (lo hi : Int) : R Vr := if -1000000 < lo ∧ lo < 1000000000 ∧ -1000000 < hi ∧ hi < 1000000000 ∧ (hi - lo).toNat ≤ 1000000 then
  (match l with
  | true => .ok (.ow ((List.range (hi - lo).toNat).map fun (i : Nat) => D.int (lo + (i : Int))))
  | false => .ok (.sh (.tup ((List.range (hi - lo).toNat).map fun (i : Nat) => D.int (lo + (i : Int)))))) else .stuck
def rngA (ds : List D) : Option (List D) := match ds with
  | [.int n] => rngD 0 n 1
  | [.int n, .int m] => rngD n m 1
  | [.int n, .int m, .int k] => rngD n m k
  | _ => none
def enumD : Nat → List D → List D
  | _, [] => []
  | i, d :: ds => .tup [.int i, d] :: enumD (i + 1) ds
def zipD : List D → List D → List D
  | x :: xs, y :: ys => .tup [x, y] :: zipD xs ys
  | _, _ => []

/-! ## loops -/
def lcL (f : D → List D → En → R (List D × En)) : List D → List D → En → R (List D × En)
  | [], acc, σ => .ok (acc, σ)
  | d :: ds, acc, σ => bnd (f d acc σ) fun acc' σ' => lcL f ds acc' σ'
def addL (acc : List D) (p : R (D × En)) : R (List D × En) := bnd p fun y σ => if acc.length < 16000000 then .ok (acc ++ [y], σ) else .stuck
inductive Fl where
  | nx | rt (v : Vr)
def forL (f : D → En → R (Fl × En)) : List D → En → R (Fl × En)
  | [], σ => .ok (.nx, σ)
  | d :: ds, σ => bnd (f d σ) fun r σ' => match r with
    | .nx => forL f ds σ'
    | .rt v => .ok (.rt v, σ')
def whlL (c : En → R (Bool × En)) (f : En → R (Fl × En)) : Nat → En → R (Fl × En)
  | 0, _ => .stuck
  | n + 1, σ => bnd (c σ) fun b σ' => match b with
    | false => .ok (.nx, σ')
    | true => bnd (f σ') fun r σ'' => match r with
      | .nx => whlL c f n σ''
      | .rt v => .ok (.rt v, σ'')
def unexc {α : Type} : R α → R α
  | .exc _ => .stuck
  | m => m
def pk (v : Vl) (σ : En) : R (D × En) := (peek v σ).map fun d => (d, σ)
def mkD (c n : Nat) (p : Vr × List D) : R Vl := match p.1 with
  | .sh .non => if p.2.length = n then .ok (.sh (.obj c p.2)) else .stuck
  | _ => .stuck
def toB (v : Vl) (σ : En) : R (Bool × En) := match v with
  | .sh (.bl b) => .ok (b, σ)
  | _ => .stuck
def pks : List Vl → En → R (List D × En)
  | [], σ => .ok ([], σ)
  | v :: vs, σ => bnd (pk v σ) fun d σ => bnd (pks vs σ) fun ds σ => .ok (d :: ds, σ)
def toI (v : Vl) (σ : En) : R (Option Int × En) := match v with
  | .sh (.int i) => .ok (some i, σ)
  | _ => .stuck
def lift {α : Type} (m : R α) (σ : En) : R (α × En) := m.map fun a => (a, σ)

/-- one turn of a comprehension -/
def lcF (vs : List Nat) (t : Tgt) (mc : En → R (Bool × En)) (me : En → R (Vl × En)) : D → List D → En → R (List D × En) := fun d acc σ => bnd (lift (setT t d (wipeE σ vs)) σ) fun σ' _ => bnd (mc σ') fun b σ => match b with
  | true => addL acc (bnd (me σ) fun v σ => esc v σ)
  | false => .ok (acc, σ)
/-- one turn of the outer clause of two -/
def lc2F (vs : List Nat) (t t' : Nat) (ms : En → R ((List D × List Nat) × En)) (me : En → R (Vl × En)) : D → List D → En → R (List D × En) := fun d acc σ => bnd (lift (setT (.v t) d (wipeE σ vs)) σ) fun σ' _ => bnd (ms σ') fun q σ1 => if noLk [t'] (q.2.foldr lock σ1) = true then
  bnd (lcL (lcF [t'] (.v t') (fun σ => .ok (true, σ)) me) q.1 acc (q.2.foldr lock σ1)) fun ys σ2 => .ok (ys, q.2.foldr unlock σ2) else .stuck
def lcM (ms : En → R ((List D × List Nat) × En)) (vs : List Nat) (f : D → List D → En → R (List D × En)) : En → R (Vl × En) := fun σ => bnd (ms σ) fun p σ1 => if noLk vs (p.2.foldr lock σ1) = true then
  bnd (unexc (lcL f p.1 [] (p.2.foldr lock σ1))) fun acc σ2 => .ok (.ow acc, p.2.foldr unlock (back (p.2.foldr lock σ1) vs σ2)) else .stuck
section
variable (P : Prg) (cf : CF)
mutual
def ev : Ex → En → R (Vl × En)
  | .var i, σ => (getv i σ).map fun v => (v, σ)
  | .con d, σ => .ok (.sh d, σ)
  | .gcon _ i, σ => .ok (.sh (.int i), σ)
  | .gfn k, σ => .ok (.sh (.fn k), σ)
  | .bin o a b, σ => bnd (ev a σ) fun va σ => bnd (ev b σ) fun vb σ => bnd (pk (hold va) σ) fun x σ => bnd (pk (hold vb) σ) fun y σ => lift ((binD P cf o x y).map vr) σ
  | .neg a, σ => bnd (ev a σ) fun va σ => bnd (pk va σ) fun x σ => lift ((negD P cf x).map Vl.sh) σ
  | .not a, σ => bnd (ev a σ) fun va σ => bnd (toB va σ) fun b σ => .ok (.sh (.bl (!b)), σ)
  | .cmp o a b, σ => bnd (ev a σ) fun va σ => bnd (ev b σ) fun vb σ => bnd (pk (hold va) σ) fun x σ => bnd (pk (hold vb) σ) fun y σ => lift ((cmpD P cf o x y).map fun b => Vl.sh (.bl b)) σ
  | .isN a, σ => bnd (ev a σ) fun va σ => bnd (pk va σ) fun x σ => .ok (.sh (.bl (isNon x)), σ)
  | .notN a, σ => bnd (ev a σ) fun va σ => bnd (pk va σ) fun x σ => .ok (.sh (.bl (!isNon x)), σ)
  | .chain o p a b c, σ => bnd (ev a σ) fun va σ => bnd (ev b σ) fun vb σ => bnd (pk (hold va) σ) fun x σ => bnd (pk (hold vb) σ) fun y σ => bnd (lift (cmpD P cf o x y) σ) fun r σ => match r with
    | true => bnd (ev c σ) fun vc σ => bnd (pk (hold vb) σ) fun y σ => bnd (pk (hold vc) σ) fun z σ => lift ((cmpD P cf p y z).map fun b => Vl.sh (.bl b)) σ
    | false => .ok (.sh (.bl false), σ)
  | .and a b, σ => bnd (ev a σ) fun va σ => bnd (toB va σ) fun r σ => match r with
    | true => ev b σ
    | false => .ok (.sh (.bl false), σ)
  | .or a b, σ => bnd (ev a σ) fun va σ => bnd (toB va σ) fun r σ => match r with
    | true => .ok (.sh (.bl true), σ)
    | false => ev b σ
  | .ite c a b, σ => bnd (ev c σ) fun vc σ => bnd (toB vc σ) fun r σ => match r with
    | true => ev a σ
    | false => ev b σ
  | .tup es, σ => bnd (evs es σ) fun ds σ => .ok (.sh (.tup ds), σ)
  | .lst es, σ => bnd (evs es σ) fun ds σ => .ok (.ow ds, σ)
  | .ix a i, σ => bnd (ev a σ) fun va σ => bnd (ev i σ) fun vi σ => bnd (pk (hold va) σ) fun x σ => bnd (pk (hold vi) σ) fun y σ => lift ((ixOf x y).map Vl.sh) σ
  | .slc a lo hi, σ => bnd (ev a σ) fun va σ => bnd (evo lo σ) fun l σ => bnd (evo hi σ) fun h σ => bnd (pk (hold va) σ) fun x σ => lift ((slcD x l h).map vr) σ
  | .rev a, σ => bnd (ev a σ) fun va σ => bnd (pk (hold va) σ) fun x σ => lift ((revD x).map vr) σ
  | .fld a f, σ => bnd (ev a σ) fun va σ => bnd (pk (hold va) σ) fun x σ => match x with
    | .obj c ds => (match ((clsF P c).zip ds).lookup f with
      | some d => .ok (.sh d, σ)
      | none => .stuck)
    | _ => .stuck
  | .call k es, σ => bnd (evs es σ) fun ds σ => lift ((cf k .no ds).map fun p => vr p.1) σ
  | .callio k i es, σ => bnd ((getv i σ).map fun v => (v, σ)) fun _ σ => bnd (evs es σ) fun ds σ => match σ[i]? with
    | some (.ow xs) => (match cf k (.io xs) ds with
      | .ok (.sh d, xs') => .ok (.sh d, σ.set i (.ow xs'))
      | .ok (.ow ys, xs') => .ok (.ow ys, σ.set i (.ow xs'))
      | .exc _ => .stuck
      | .stuck => .stuck)
    | some (.io xs) => (match cf k (.io xs) ds with
      | .ok (.sh d, xs') => .ok (.sh d, σ.set i (.io xs'))
      | .ok (.ow ys, xs') => .ok (.ow ys, σ.set i (.io xs'))
      | .exc _ => .stuck
      | .stuck => .stuck)
    | _ => .stuck
  | .callv i es, σ => match σ[i]? with
    | some (.sh (.fn k)) => (match P.fns[k]? with
      | some f => bnd (evs es σ) fun ds σ => if ds.length = f.ps.length then lift ((cf k .no ds).map fun p => vr p.1) σ else .stuck
      | none => .stuck)
    | _ => .stuck
  | .mk c es dv, σ => bnd (evs es σ) fun ds σ => match P.cls[c]? with
    | some C => lift ((cf C.init (.bld c) (ds ++ dv)).bind fun p => mkD c C.flds.length p) σ
    | none => .stuck
  | .meth c a m es, σ => bnd (ev a σ) fun va σ => bnd (pk (hold va) σ) fun x σ => match x with
    | .obj c' xs => if c' = c then (match clsM P c m with
      | some k => bnd (evs es σ) fun ds σ => lift ((cf k .no (.obj c xs :: ds)).map fun p => vr p.1) σ
      | none => .stuck) else .stuck
    | _ => .stuck
  | .bif b es, σ => bnd (evp es σ) fun vs σ => bnd (pks vs σ) fun ds σ => lift ((bifD b ds).map vr) σ
  | .trng1 l a, σ => bnd (ev a σ) fun v σ => bnd (toI v σ) fun n σ => lift ((rgR l 0 (n.getD 0)).map vr) σ
  | .trng2 l a b, σ => bnd (ev a σ) fun v σ => bnd (toI v σ) fun n σ => bnd (ev b σ) fun v σ => bnd (toI v σ) fun m σ => lift ((rgR l (n.getD 0) (m.getD 0)).map vr) σ
  | .isi a t, σ => bnd (ev a σ) fun va σ => bnd (pk (hold va) σ) fun x σ => lift ((isiD t x).map fun b => Vl.sh (.bl b)) σ
  | .isi2 a t u, σ => bnd (ev a σ) fun va σ => bnd (pk (hold va) σ) fun x σ => lift ((isiD t x).bind fun a => (isiD u x).map fun b => Vl.sh (.bl (a || b))) σ
  | .lc s t e, σ => lcM (fun σ => src s σ) t.slots (lcF t.slots t (fun σ => .ok (true, σ)) fun σ => ev e σ) σ
  | .lcf s t c e, σ => lcM (fun σ => src s σ) t.slots (lcF t.slots t (fun σ => bnd (ev c σ) fun v σ => toB v σ) fun σ => ev e σ) σ
  | .lc2 s t s' t' e, σ => lcM (fun σ => src s σ) [t, t'] (lc2F [t, t'] t t' (fun σ => src s' σ) fun σ => ev e σ) σ
/-- arguments that go away -/
def evs : Exs → En → R (List D × En)
  | .nil, σ => .ok ([], σ)
  | .cons e es, σ => bnd (ev e σ) fun v σ => bnd (esc v σ) fun d σ => bnd (evs es σ) fun ds σ => .ok (d :: ds, σ)
/-- arguments that are looked at -/
def evp : Exs → En → R (List Vl × En)
  | .nil, σ => .ok ([], σ)
  | .cons e es, σ => bnd (ev e σ) fun v σ => bnd (evp es σ) fun vs σ => .ok (hold v :: vs, σ)
def evo : Exo → En → R (Option Int × En)
  | .none, σ => .ok (none, σ)
  | .some e, σ => bnd (ev e σ) fun v σ => toI v σ
def src : Src → En → R ((List D × List Nat) × En)
  | .seq e, σ => bnd (ev e σ) fun v σ => bnd (pk (hold v) σ) fun x σ => match items x with
    | some ds => if wOk v σ = true then .ok ((ds, lks v σ), σ) else .stuck
    | none => .stuck
  | .rng es, σ => bnd (evs es σ) fun ds σ => match rngA ds with
    | some xs => .ok ((xs, []), σ)
    | none => .stuck
  | .zip es, σ => bnd (evp es σ) fun vs σ => bnd (pks vs σ) fun ds σ => match vs, ds with
    | [va, vb], [x, y] => (match items x, items y with
      | some xs, some ys => if wOk va σ = true ∧ wOk vb σ = true then .ok ((zipD xs ys, lks va σ ++ lks vb σ), σ) else .stuck
      | _, _ => .stuck)
    | _, _ => .stuck
  | .enum es, σ => bnd (evp es σ) fun vs σ => bnd (pks vs σ) fun ds σ => match vs, ds with
    | [va], [x] => (match items x with
      | some xs => if wOk va σ = true then .ok ((enumD 0 xs, lks va σ), σ) else .stuck
      | _ => .stuck)
    | _, _ => .stuck
end
end

/-! ## statements -/
def isL (i : Nat) (σ : En) : Bool := match σ[i]? with
  | some (.ow _) => true
  | some (.io _) => true
  | _ => false
/-- the list of a slot is changed in place -/
def updL (i : Nat) (f : List D → Option (List D)) (σ : En) : R En := match σ[i]? with
  | some (.ow ds) => (match f ds with
    | some ds' => .ok (σ.set i (.ow ds'))
    | none => .stuck)
  | some (.io ds) => (match f ds with
    | some ds' => .ok (σ.set i (.io ds'))
    | none => .stuck)
  | _ => .stuck
def appF (y : D) (ds : List D) : Option (List D) := if ds.length < 16000000 then some (ds ++ [y]) else none
def insF (k : Int) (y : D) (ds : List D) : Option (List D) := if ds.length < 16000000 ∧ 0 ≤ k ∧ k ≤ ds.length then some (ds.take k.toNat ++ [y] ++ ds.drop k.toNat) else none
def extF (xs : List D) (ds : List D) : Option (List D) := if ds.length + xs.length ≤ 16000000 then some (ds ++ xs) else none
def setF (k : Int) (y : D) (ds : List D) : Option (List D) := (ixN ds.length k).map fun j => ds.set j y
def nxR (r : R En) : R (Fl × En) := r.map fun σ => (.nx, σ)
def hasB (f : Str) (fs : List Str) : Bool := fs.any fun g => decide (g = f)
section
variable (P : Prg) (cf : CF) (w : Nat)
mutual
def exS : Sm → En → R (Fl × En)
  | .asg t e, σ => bnd (ev P cf e σ) fun v σ => match t with
    | .v i => bnd (alias_ v σ) fun v σ => nxR (setv i v σ)
    | .tp is => bnd (pk (hold v) σ) fun d σ => nxR (setT (.tp is) d σ)
  | .par2 i j a b, σ => bnd (ev P cf a σ) fun va σ => bnd (alias_ va σ) fun va σ => bnd (ev P cf b σ) fun vb σ => bnd (alias_ vb σ) fun vb σ =>
      if i ≠ j then nxR ((setv i va σ).bind (setv j vb)) else .stuck
  | .par is es, σ => bnd (evs P cf es σ) fun ds σ => nxR (setAll is ds σ)
  | .setix i ix e, σ => bnd (bnd (ev P cf e σ) fun v σ => esc v σ) fun y σ => if isL i σ = true then bnd (bnd (ev P cf ix σ) fun v σ => toI v σ) fun k σ => nxR (updL i (setF (k.getD 0) y) σ) else .stuck
  | .setix2 i ix j jx a b, σ => .stuck
  | .setfld f e, σ => bnd (bnd (ev P cf e σ) fun v σ => esc v σ) fun y σ => match σ[(0 : Nat)]? with
    | some (.bld c fs) => if (clsF P c)[fs.length]? = some f ∧ hasB f ((clsF P c).take fs.length) = false ∧ fs.length < 1000 then .ok (.nx, σ.set 0 (.bld c (fs ++ [y]))) else .stuck
    | _ => .stuck
  | .app i e, σ => if isL i σ = true then bnd (bnd (ev P cf e σ) fun v σ => esc v σ) fun y σ => nxR (updL i (appF y) σ) else .stuck
  | .ins i k e, σ => if isL i σ = true then bnd (bnd (ev P cf k σ) fun v σ => toI v σ) fun n σ => bnd (bnd (ev P cf e σ) fun v σ => esc v σ) fun y σ => nxR (updL i (insF (n.getD 0) y) σ) else .stuck
  | .ext i e, σ => if isL i σ = true then bnd (ev P cf e σ) fun v σ => bnd (pk (hold v) σ) fun y σ => match y with
    | .lst xs => nxR (updL i (extF xs) σ)
    | _ => .stuck else .stuck
  | .rem .., _ => .stuck
  | .ex e, σ => bnd (ev P cf e σ) fun _ σ => .ok (.nx, σ)
  | .ifs c a b, σ => bnd (ev P cf c σ) fun v σ => bnd (toB v σ) fun r σ => match r with
    | true => exSs a σ
    | false => exSs b σ
  | .whl c b, σ => whlL (fun σ => bnd (ev P cf c σ) fun v σ => toB v σ) (fun σ => exSs b σ) w σ
  | .for t s b, σ => bnd (src P cf s σ) fun p σ1 =>
      bnd (forL (fun d σ => bnd (lift (setT t d σ) σ) fun σ' _ => exSs b σ') p.1 (p.2.foldr lock σ1)) fun r σ2 => .ok (r, p.2.foldr unlock σ2)
  | .ret e, σ => bnd (ev P cf e σ) fun v σ => match v with
    | .sh d => .ok (.rt (.sh d), σ)
    | .ow ds => .ok (.rt (.ow ds), σ)
    | .sl i => match σ[i]? with
      | some (.ow ds) => .ok (.rt (.ow ds), σ.set i .un)
      | some (.sh d) => .ok (.rt (.sh d), σ)
      | _ => .stuck
  | .retN, σ => .ok (.rt (.sh .non), σ)
  | .raise c, _ => .exc ⟨c, none⟩
  | .raise1 c e, σ => bnd (ev P cf e σ) fun v σ => bnd (esc v σ) fun y _ => .exc ⟨c, some y⟩
  | .tryS b hs, σ => match exSs b σ with
    | .ok r => .ok r
    | .exc x => exH hs x σ
    | .stuck => .stuck
  | .pass, σ => .ok (.nx, σ)
def exSs : Sms → En → R (Fl × En)
  | .nil, σ => .ok (.nx, σ)
  | .cons s r, σ => bnd (exS s σ) fun f σ => match f with
    | .nx => exSs r σ
    | .rt v => .ok (.rt v, σ)
def exH : Hds → Exn → En → R (Fl × En)
  | .nil, x, _ => .exc x
  | .con c b r, x, σ => if c = x.c then (match exSs b (σ.map fun _ => .un) with
    | .ok (.rt (.sh d), _) => .ok (.rt (.sh d), [])
    | _ => .stuck) else exH r x σ
  | .fld c _ s r, x, σ => if c = x.c then (match x.arg with
    | some a => .ok (.rt (.sh (.tup [.str s, a])), [])
    | none => .stuck) else exH r x σ
end
end

/-! ## functions -/
def st0 (fa : FArg) (N : Nat) (args : List D) : En := match fa with
  | .no => args.map .sh ++ List.replicate (N - args.length) .un
  | .io ds => .io ds :: args.map .sh ++ List.replicate (N - (args.length + 1)) .un
  | .bld c => .bld c [] :: args.map .sh ++ List.replicate (N - (args.length + 1)) .un
def nArgs (fa : FArg) (args : List D) : Nat := match fa with
  | .no => args.length
  | _ => args.length + 1
def fin (fa : FArg) (v : Vr) (σ : En) : R (Vr × List D) := match fa with
  | .no => .ok (v, [])
  | .io _ => match σ[(0 : Nat)]? with
    | some (.io ds) => .ok (v, ds)
    | _ => .stuck
  | .bld _ => match σ[(0 : Nat)]?, v with
    | some (.bld _ ds), .sh .non => .ok (.sh .non, ds)
    | _, _ => .stuck
def runF (P : Prg) (cf : CF) (w : Nat) (f : FnI) (fa : FArg) (args : List D) : R (Vr × List D) :=
  if nArgs fa args = f.ps.length then (match exSs P cf w f.body (st0 fa f.N.length args) with
    | .ok (.nx, σ) => fin fa (.sh .non) σ
    | .ok (.rt v, σ) => fin fa v σ
    | .exc x => .exc x
    | .stuck => .stuck) else .stuck
/-- what the k-th function does, n calls deep at most -/
def fnEv (P : Prg) (w : Nat) : Nat → CF
  | 0 => fun _ _ _ => .stuck
  | n + 1 => fun k fa args => match P.fns[k]? with
    | some f => runF P (fnEv P w n) w f fa args
    | none => .stuck
end PV
set_option Elab.async false
set_option linter.all false
set_option maxRecDepth 100000
namespace PV
open PySem PySem.Spec PyProof.Rows L2

abbrev Sg := List (Option V)
structure Gb where
  P : Prg
  K : PySem.W.Frag
  fn : Nat → Addr
  cls : Nat → Addr
  exc : Nat → Addr
  exf : Nat → Str

/-! ## data at addresses -/
mutual
def Rep (G : Gb) (F : Hp) : D → V → Prop
  | .non, v => v = .non
  | .bl b, v => v = .bl b
  | .int i, v => v = .int i
  | .str s, v => v = .str s
  | .tup ds, v => ∃ a vs, v = .ref a ∧ SqT G.K F a vs ∧ Reps G F ds vs
  | .lst ds, v => ∃ a vs, v = .ref a ∧ F a = some (.lst vs) ∧ Reps G F ds vs
  | .ro ds, v => ∃ a vs, v = .ref a ∧ SqL G.K F a vs ∧ Reps G F ds vs
  | .obj c ds, v => ∃ a dx vs, v = .ref a ∧ F a = some (.ins (G.cls c) dx ((clsF G.P c).zip vs)) ∧ (∃ C, G.P.cls[c]? = some C) ∧ vs.length = (clsF G.P c).length ∧ Reps G F ds vs
  | .fn k, v => v = .ref (G.fn k)
  | .dic, v => ∃ a kvs, v = .ref a ∧ F a = some (.dK kvs)
def Reps (G : Gb) (F : Hp) : List D → List V → Prop
  | [], vs => vs = []
  | d :: ds, vs => ∃ v r, vs = v :: r ∧ Rep G F d v ∧ Reps G F ds r
end
theorem sqT_same {K : PySem.W.Frag} {H H' : Hp} {a : Addr} {xs : List V} (e : Same H H') (h : SqT K H a xs) : SqT K H' a xs := by
  rcases h with (h | ⟨o, h⟩) | h
  · exact .inl (.inl (e _ _ h))
  · exact .inl (.inr ⟨o, e _ _ h⟩)
  · exact .inr h
section
variable {G : Gb} {F F' H H' : Hp}
mutual
theorem Rep.mono (e : Same F F') : ∀ {d : D} {v : V}, Rep G F d v → Rep G F' d v
  | .non, v, h => by simpa only [Rep] using h
  | .bl b, v, h => by simpa only [Rep] using h
  | .int i, v, h => by simpa only [Rep] using h
  | .str s, v, h => by simpa only [Rep] using h
  | .fn k, v, h => by simpa only [Rep] using h
  | .tup ds, v, h => by
    simp only [Rep] at h ⊢
    obtain ⟨a, vs, h1, h2, h3⟩ := h
    exact ⟨a, vs, h1, sqT_same e h2, Reps.mono e h3⟩
  | .lst ds, v, h => by
    simp only [Rep] at h ⊢
    obtain ⟨a, vs, h1, h2, h3⟩ := h
    exact ⟨a, vs, h1, e _ _ h2, Reps.mono e h3⟩
  | .ro ds, v, h => by
    simp only [Rep] at h ⊢
    obtain ⟨a, vs, h1, h2, h3⟩ := h
    exact ⟨a, vs, h1, e.seq h2, Reps.mono e h3⟩
  | .obj c ds, v, h => by
    simp only [Rep] at h ⊢
    obtain ⟨a, dx, vs, h1, h2, h0, h3, h4⟩ := h
    exact ⟨a, dx, vs, h1, e _ _ h2, h0, h3, Reps.mono e h4⟩
  | .dic, v, h => by
    simp only [Rep] at h ⊢
    obtain ⟨a, kvs, h1, h2⟩ := h
    exact ⟨a, kvs, h1, e _ _ h2⟩
theorem Reps.mono (e : Same F F') : ∀ {ds : List D} {vs : List V}, Reps G F ds vs → Reps G F' ds vs
  | [], vs, h => by simpa only [Reps] using h
  | d :: ds, vs, h => by
    simp only [Reps] at h ⊢
    obtain ⟨v, r, h1, h2, h3⟩ := h
    exact ⟨v, r, h1, Rep.mono e h2, Reps.mono e h3⟩
end
theorem Reps.nil : Reps G F [] [] := by simp only [Reps]
theorem Reps.cons {d : D} {ds : List D} {v : V} {vs : List V} (h : Rep G F d v) (r : Reps G F ds vs) : Reps G F (d :: ds) (v :: vs) := by
  simp only [Reps]
  exact ⟨v, vs, rfl, h, r⟩
theorem Reps.length : ∀ {ds : List D} {vs : List V}, Reps G F ds vs → vs.length = ds.length
  | [], vs, h => by simp only [Reps] at h; subst h; rfl
  | d :: ds, vs, h => by
    simp only [Reps] at h
    obtain ⟨v, r, rfl, _, h3⟩ := h
    simp [Reps.length h3]
theorem Reps.get : ∀ {ds : List D} {vs : List V} {i : Nat} {d : D}, Reps G F ds vs → ds[i]? = some d → ∃ v, vs[i]? = some v ∧ Rep G F d v
  | [], _, _, _, _, e => by simp at e
  | d :: ds, vs, 0, x, h, e => by
    simp only [Reps] at h
    obtain ⟨v, r, rfl, h2, h3⟩ := h
    simp at e
    subst e
    exact ⟨v, rfl, h2⟩
  | d :: ds, vs, i + 1, x, h, e => by
    simp only [Reps] at h
    obtain ⟨v, r, rfl, h2, h3⟩ := h
    simpa using Reps.get (i := i) h3 (by simpa using e)
theorem Reps.get' : ∀ {ds : List D} {vs : List V} {i : Nat} {v : V}, Reps G F ds vs → vs[i]? = some v → ∃ d, ds[i]? = some d ∧ Rep G F d v
  | [], vs, _, _, h, e => by simp only [Reps] at h; subst h; simp at e
  | d :: ds, vs, 0, x, h, e => by
    simp only [Reps] at h
    obtain ⟨v, r, rfl, h2, h3⟩ := h
    simp at e
    subst e
    exact ⟨d, rfl, h2⟩
  | d :: ds, vs, i + 1, x, h, e => by
    simp only [Reps] at h
    obtain ⟨v, r, rfl, h2, h3⟩ := h
    simpa using Reps.get' (i := i) h3 (by simpa using e)
theorem Reps.append : ∀ {ds es : List D} {vs ws : List V}, Reps G F ds vs → Reps G F es ws → Reps G F (ds ++ es) (vs ++ ws)
  | [], es, vs, ws, h, k => by simp only [Reps] at h; subst h; simpa using k
  | d :: ds, es, vs, ws, h, k => by
    simp only [Reps] at h
    obtain ⟨v, r, rfl, h2, h3⟩ := h
    exact .cons h2 (Reps.append h3 k)
theorem Reps.take : ∀ {ds : List D} {vs : List V} (n : Nat), Reps G F ds vs → Reps G F (ds.take n) (vs.take n)
  | ds, vs, 0, h => by simpa using Reps.nil
  | [], vs, n + 1, h => by simp only [Reps] at h; subst h; simpa using Reps.nil
  | d :: ds, vs, n + 1, h => by
    simp only [Reps] at h
    obtain ⟨v, r, rfl, h2, h3⟩ := h
    exact .cons h2 (Reps.take n h3)
theorem Reps.drop : ∀ {ds : List D} {vs : List V} (n : Nat), Reps G F ds vs → Reps G F (ds.drop n) (vs.drop n)
  | ds, vs, 0, h => by simpa using h
  | [], vs, n + 1, h => by simp only [Reps] at h; subst h; simpa using Reps.nil
  | d :: ds, vs, n + 1, h => by
    simp only [Reps] at h
    obtain ⟨v, r, rfl, h2, h3⟩ := h
    exact Reps.drop n h3
theorem Reps.set {d : D} {v : V} (r : Rep G F d v) : ∀ {ds : List D} {vs : List V} (n : Nat), Reps G F ds vs → Reps G F (ds.set n d) (vs.set n v)
  | [], vs, n, h => by simp only [Reps] at h; subst h; simpa using Reps.nil
  | e :: ds, vs, 0, h => by
    simp only [Reps] at h
    obtain ⟨w, q, rfl, h2, h3⟩ := h
    exact .cons r h3
  | e :: ds, vs, n + 1, h => by
    simp only [Reps] at h
    obtain ⟨w, q, rfl, h2, h3⟩ := h
    exact .cons h2 (Reps.set r n h3)
theorem Reps.reverse : ∀ {ds : List D} {vs : List V}, Reps G F ds vs → Reps G F ds.reverse vs.reverse
  | [], vs, h => by simp only [Reps] at h; subst h; simpa using Reps.nil
  | d :: ds, vs, h => by
    simp only [Reps] at h
    obtain ⟨v, r, rfl, h2, h3⟩ := h
    simp only [List.reverse_cons]
    exact (Reps.reverse h3).append (.cons h2 .nil)
theorem Reps.rep {ds : List D} {vs : List V} (h : Reps G F ds vs) : ∀ n : Nat, Reps G F (List.replicate n ds).flatten (List.replicate n vs).flatten
  | 0 => by simpa using Reps.nil
  | n + 1 => by
    simp only [List.replicate_succ, List.flatten_cons]
    exact h.append (Reps.rep h n)
theorem Reps.ints : ∀ {ds : List D} {vs : List V} {ns : List Int}, Reps G F ds vs → intsD ds = some ns → vs = ns.map V.int
  | [], vs, ns, h, e => by
    simp only [Reps] at h
    simp [intsD] at e
    subst h e
    rfl
  | .int i :: ds, vs, ns, h, e => by
    simp only [Reps, Rep] at h
    obtain ⟨v, r, rfl, rfl, h3⟩ := h
    simp only [intsD, Option.map_eq_some_iff] at e
    obtain ⟨ms, e1, rfl⟩ := e
    simp [Reps.ints h3 e1]
  | .non :: _, _, _, _, e | .bl _ :: _, _, _, _, e | .str _ :: _, _, _, _, e | .tup _ :: _, _, _, _, e | .lst _ :: _, _, _, _, e | .obj _ _ :: _, _, _, _, e | .fn _ :: _, _, _, _, e | .dic :: _, _, _, _, e | .ro _ :: _, _, _, _, e => by simp [intsD] at e
theorem Reps.bools : ∀ {ds : List D} {vs : List V} {ns : List Bool}, Reps G F ds vs → boolsD ds = some ns → vs = ns.map V.bl
  | [], vs, ns, h, e => by
    simp only [Reps] at h
    simp [boolsD] at e
    subst h e
    rfl
  | .bl i :: ds, vs, ns, h, e => by
    simp only [Reps, Rep] at h
    obtain ⟨v, r, rfl, rfl, h3⟩ := h
    simp only [boolsD, Option.map_eq_some_iff] at e
    obtain ⟨ms, e1, rfl⟩ := e
    simp [Reps.bools h3 e1]
  | .non :: _, _, _, _, e | .int _ :: _, _, _, _, e | .str _ :: _, _, _, _, e | .tup _ :: _, _, _, _, e | .lst _ :: _, _, _, _, e | .obj _ _ :: _, _, _, _, e | .fn _ :: _, _, _, _, e | .dic :: _, _, _, _, e | .ro _ :: _, _, _, _, e => by simp [boolsD] at e

/-! ## an owned list -/
def LstAt (G : Gb) (F H : Hp) (ds : List D) (a : Addr) : Prop := ∃ vs, H a = some (.lst vs) ∧ F a = none ∧ Reps G F ds vs
def BldAt (G : Gb) (F H : Hp) (c : Nat) (ds : List D) (a : Addr) : Prop :=
  ∃ dx vs, H a = some (.ins (G.cls c) dx ((clsF G.P c).zip vs)) ∧ vs.length ≤ (clsF G.P c).length ∧ F a = none ∧ Reps G F ds vs
def Cell.own : Cell → Bool
  | .un => false
  | .sh _ => false
  | _ => true
def CellOk (G : Gb) (F H : Hp) (s : Option (Option V)) : Cell → Prop
  | .un => True
  | .sh d => ∃ v, s = some (some v) ∧ Rep G F d v
  | .ow ds => ∃ a, s = some (some (.ref a)) ∧ LstAt G F H ds a
  | .lk ds => ∃ a, s = some (some (.ref a)) ∧ LstAt G F H ds a
  | .io ds => ∃ a, s = some (some (.ref a)) ∧ LstAt G F H ds a
  | .bld c ds => ∃ a, s = some (some (.ref a)) ∧ BldAt G F H c ds a
/-- a configuration: what is frozen, the slots, the heap, the cells -/
structure Cf where
  F : Hp
  σ : Sg
  H : Hp
  e : En
def Cf.W (c : Cf) (a : Addr) : Prop := ∃ (i : Nat) (x : Cell), c.e[i]? = some x ∧ x.own = true ∧ c.σ[i]? = some (some (.ref a))
structure Sim (G : Gb) (c : Cf) : Prop where
  len : c.e.length = c.σ.length
  sub : Same c.F c.H
  cell : ∀ (i : Nat) (x : Cell), c.e[i]? = some x → CellOk G c.F c.H c.σ[i]? x
  inj : ∀ (i j : Nat) (x y : Cell) (a : Addr), c.e[i]? = some x → c.e[j]? = some y → x.own = true → y.own = true → c.σ[i]? = some (some (.ref a)) → c.σ[j]? = some (some (.ref a)) → i = j
structure Step (G : Gb) (c d : Cf) : Prop where
  f : Same c.F d.F
  frame : ∀ b o, c.H b = some o → ¬ c.W b → d.H b = some o
  new : ∀ b, c.F b = none → d.F b ≠ none → c.H b = none ∨ c.W b
  dom : ∀ b, c.H b ≠ none → d.H b ≠ none
  w : ∀ b, d.W b → c.W b ∨ c.H b = none
  lk : ∀ (i : Nat) (ds : List D) (v : V), c.e[i]? = some (.lk ds) → c.σ[i]? = some (some v) → (d.e[i]? = some (.lk ds) ∧ d.σ[i]? = some (some v)) ∨ Rep G d.F (.lst ds) v
  io : ∀ (i : Nat) (x : Cell) (t : Option Nat), d.e[i]? = some x → x.tag = some t → ∃ y : Cell, c.e[i]? = some y ∧ y.tag = some t ∧ d.σ[i]? = c.σ[i]?
theorem Step.rfl' {c : Cf} : Step G c c := ⟨fun _ _ h => h, fun _ _ h _ => h, fun _ h h' => absurd h h', fun _ h => h, fun _ h => .inl h, fun _ _ _ h k => .inl ⟨h, k⟩, fun _ x _ h k => ⟨x, h, k, rfl⟩⟩
theorem Step.trans {a b c : Cf} (s : Step G a b) (t : Step G b c) : Step G a c where
  f := s.f.trans t.f
  frame := fun x o h n => t.frame x o (s.frame x o h n) fun w => (s.w x w).elim n fun z => by rw [h] at z; cases z
  new := fun x h h' => by
    by_cases q : b.F x = none
    · rcases t.new x q h' with z | z
      · left
        cases r : a.H x with
        | none => rfl
        | some o => exact absurd z (s.dom x (by rw [r]; simp))
      · rcases s.w x z with z | z
        · exact .inr z
        · exact .inl z
    · exact s.new x h q
  dom := fun x h => t.dom x (s.dom x h)
  w := fun x h => by
    rcases t.w x h with z | z
    · exact s.w x z
    · right
      cases r : a.H x with
      | none => rfl
      | some o => exact absurd z (s.dom x (by rw [r]; simp))
  lk := fun i ds v h k => by
    rcases s.lk i ds v h k with ⟨q1, q2⟩ | q
    · exact t.lk i ds v q1 q2
    · exact .inr (Rep.mono t.f q)
  io := fun i x tg h k => by
    obtain ⟨y, h1, h2, h3⟩ := t.io i x tg h k
    obtain ⟨z, k1, k2, k3⟩ := s.io i y tg h1 h2
    exact ⟨z, k1, k2, h3.trans k3⟩
/-- a value: shared data; a new list of nobody's; what the slot i holds -/
def VRel (G : Gb) (H0 : Hp) (c : Cf) (v : V) : Vl → Prop
  | .sh d => Rep G c.F d v
  | .ow ds => ∃ a, v = .ref a ∧ LstAt G c.F c.H ds a ∧ ¬ c.W a ∧ H0 a = none
  | .sl i => c.σ[i]? = some (some v)
theorem VRel.step {H0 : Hp} {c d : Cf} {v : V} {x : Vl} (s : Step G c d) (e : d.σ = c.σ) (h : VRel G H0 c v x) : VRel G H0 d v x := by
  cases x with
  | sh y => exact Rep.mono s.f h
  | ow ds =>
    obtain ⟨a, h1, ⟨vs, h2, h3, h4⟩, h5, h6⟩ := h
    have hn : c.H a ≠ none := by rw [h2]; simp
    refine ⟨a, h1, ⟨vs, s.frame _ _ h2 h5, ?_, h4.mono s.f⟩, fun w => (s.w a w).elim h5 hn, h6⟩
    cases q : d.F a with
    | none => rfl
    | some o => exact ((s.new a h3 (by rw [q]; simp)).elim hn h5).elim
  | sl i =>
    show d.σ[i]? = _
    rw [e]
    exact h
theorem VRel.imp {H0 H1 : Hp} {c : Cf} {v : V} {x : Vl} (k : ∀ a, H1 a = none → H0 a = none) (h : VRel G H1 c v x) : VRel G H0 c v x := by
  cases x with
  | ow ds =>
    obtain ⟨a, h1, h2, h5, h6⟩ := h
    exact ⟨a, h1, h2, h5, k a h6⟩
  | _ => exact h
theorem Step.back {c d : Cf} (s : Step G c d) : ∀ a, d.H a = none → c.H a = none := fun a h => by
  cases q : c.H a with
  | none => rfl
  | some o => exact absurd h (s.dom a (by rw [q]; simp))

/-! ## steps of the heap alone -/
structure StepV (F H F' H' : Hp) : Prop where
  f : Same F F'
  sub : Same F' H'
  h : Same H H'
  new : ∀ b, F b = none → F' b ≠ none → H b = none
theorem StepV.rfl' (h : Same F H) : StepV F H F H := ⟨fun _ _ h => h, h, fun _ _ h => h, fun _ h h' => absurd h h'⟩
theorem StepV.step {σ : Sg} {e : En} (s : StepV F H F' H') : Step G ⟨F, σ, H, e⟩ ⟨F', σ, H', e⟩ where
  f := s.f
  frame := fun b o h _ => s.h b o h
  new := fun b h h' => .inl (s.new b h h')
  dom := fun b h => by
    show H' b ≠ none
    have h : H b ≠ none := h
    cases q : H b with
    | none => exact absurd q h
    | some o => rw [s.h b o q]; simp
  w := fun b h => .inl h
  lk := fun _ _ _ h k => .inl ⟨h, k⟩
  io := fun _ x _ h k => ⟨x, h, k, rfl⟩
theorem StepV.sim {σ : Sg} {e : En} (s : StepV F H F' H') (S : Sim G ⟨F, σ, H, e⟩) : Sim G ⟨F', σ, H', e⟩ where
  len := S.len
  sub := s.sub
  cell := fun i x h => by
    have k := S.cell i x h
    have la : ∀ ds a, LstAt G F H ds a → LstAt G F' H' ds a := fun ds a ⟨vs, h1, h2, h3⟩ => by
      refine ⟨vs, s.h _ _ h1, ?_, h3.mono s.f⟩
      cases q : F' a with
      | none => rfl
      | some o =>
        have z := s.new a h2 (by rw [q]; simp)
        rw [h1] at z; cases z
    cases x with
    | un => trivial
    | sh d =>
      obtain ⟨v, h1, h2⟩ := k
      exact ⟨v, h1, Rep.mono s.f h2⟩
    | ow ds =>
      obtain ⟨a, h1, h2⟩ := k
      exact ⟨a, h1, la _ _ h2⟩
    | lk ds =>
      obtain ⟨a, h1, h2⟩ := k
      exact ⟨a, h1, la _ _ h2⟩
    | io ds =>
      obtain ⟨a, h1, h2⟩ := k
      exact ⟨a, h1, la _ _ h2⟩
    | bld c ds =>
      obtain ⟨a, h1, dx, vs, h2, h3, h4, h5⟩ := k
      refine ⟨a, h1, dx, vs, s.h _ _ h2, h3, ?_, h5.mono s.f⟩
      show F' a = none
      cases q : F' a with
      | none => rfl
      | some o =>
        have z := s.new a h4 (by rw [q]; simp)
        have h2 : H a = _ := h2
        rw [h2] at z; cases z
  inj := S.inj
theorem Sim.wh {c : Cf} (S : Sim G c) {a : Addr} (w : c.W a) : c.H a ≠ none ∧ c.F a = none := by
  obtain ⟨i, x, h1, h2, h3⟩ := w
  have k := S.cell i x h1
  cases x with
  | un => cases h2
  | sh d => cases h2
  | ow ds =>
    obtain ⟨b, e, vs, q1, q2, _⟩ := k
    rw [h3] at e; cases e
    exact ⟨by rw [q1]; simp, q2⟩
  | lk ds =>
    obtain ⟨b, e, vs, q1, q2, _⟩ := k
    rw [h3] at e; cases e
    exact ⟨by rw [q1]; simp, q2⟩
  | io ds =>
    obtain ⟨b, e, vs, q1, q2, _⟩ := k
    rw [h3] at e; cases e
    exact ⟨by rw [q1]; simp, q2⟩
  | bld c ds =>
    obtain ⟨b, e, dx, vs, q1, _, q2, _⟩ := k
    rw [h3] at e; cases e
    exact ⟨by rw [q1]; simp, q2⟩
/-- a new shared object -/
theorem StepV.new1 {p : Addr} {o : HO} (S : Same F H) (hp : H p = none) : StepV F H (upd F p o) (upd H p o) where
  f := fun b u h => by
    have : b ≠ p := fun z => by rw [z] at h; rw [S p u h] at hp; cases hp
    rw [upd_ne this]; exact h
  sub := fun b u h => by
    by_cases z : b = p
    · subst z; rw [upd_same] at h ⊢; exact h
    · rw [upd_ne z] at h ⊢; exact S b u h
  h := fun b u h => by
    have : b ≠ p := fun z => by rw [z, hp] at h; cases h
    rw [upd_ne this]; exact h
  new := fun b h h' => by
    by_cases z : b = p
    · rw [z]; exact hp
    · rw [upd_ne z] at h'; exact absurd h h'
/-- a new list of nobody's -/
theorem StepV.new0 {p : Addr} {o : HO} (S : Same F H) (hp : H p = none) : StepV F H F (upd H p o) where
  f := fun _ _ h => h
  sub := fun b u h => by
    have q := S b u h
    have : b ≠ p := fun z => by rw [z, hp] at q; cases q
    rw [upd_ne this]; exact q
  h := fun b u h => by
    have : b ≠ p := fun z => by rw [z, hp] at h; cases h
    rw [upd_ne this]; exact h
  new := fun b h h' => absurd h h'
theorem StepV.trans {F2 H2 : Hp} (s : StepV F H F' H') (t : StepV F' H' F2 H2) : StepV F H F2 H2 where
  f := s.f.trans t.f
  sub := t.sub
  h := s.h.trans t.h
  new := fun b h h' => by
    by_cases q : F' b = none
    · exact s.h.free (t.new b q h')
    · exact s.new b h q
/-- a list of nobody's is frozen -/
theorem StepV.freeze {p : Addr} {vs : List V} (S : Same F H) (hp : H p = some (.lst vs)) : Same (upd F p (.lst vs)) H := fun b u h => by
  by_cases z : b = p
  · subst z; rw [upd_same] at h; rw [← h]; exact hp
  · rw [upd_ne z] at h; exact S b u h
end
end PV
set_option Elab.async false
set_option linter.all false
set_option maxRecDepth 100000
namespace PV
open PySem PySem.Spec PyProof.Rows L2
/-! ## what is wanted -/
theorem upd_none {F : Hp} {a b : Addr} {o : HO} (h : b ≠ a) (q : F b = none) : upd F a o b = none := by rw [upd_ne h]; exact q
def flat : D → V → Prop
  | .int i, v => v = .int i
  | .str s, v => v = .str s
  | _, _ => False
structure XAt (G : Gb) (x : Exn) (cls : Value) (d : Option Addr) (H : Hp) : Prop where
  ex : ∃ E, G.P.exs[x.c]? = some E
  cls : cls = .ref (G.exc x.c)
  arg : ∀ a, x.arg = some a → ∃ dd v, d = some dd ∧ H dd = some (.xd [(G.exf x.c, v)]) ∧ flat a v
def VrRel (G : Gb) (H F' H' : Hp) (v : V) : Vr → Prop
  | .sh d => Rep G F' d v
  | .ow ds => ∃ a, v = .ref a ∧ LstAt G F' H' ds a ∧ H a = none
def PostE (G : Gb) (W : XK) (c : Cf) (Q : VK) : R (Vl × En) → Prop
  | .ok (vl, e') => ∀ v F' H', Step G c ⟨F', c.σ, H', e'⟩ → Sim G ⟨F', c.σ, H', e'⟩ → VRel G c.H ⟨F', c.σ, H', e'⟩ v vl → Q v H'
  | .exc x => ∀ cls d H', (∀ b o, c.H b = some o → ¬ c.W b → H' b = some o) → XAt G x cls d H' → W cls d H'
  | .stuck => False
def PostV (G : Gb) (W : XK) (F H : Hp) (Q : VK) : R Vr → Prop
  | .ok r => ∀ v F' H', StepV F H F' H' → VrRel G H F' H' v r → Q v H'
  | .exc x => ∀ cls d H', Same H H' → XAt G x cls d H' → W cls d H'
  | .stuck => False
def tE (G : Gb) (W : XK) (m : En → R (Vl × En)) : TE := fun σ H Q => ∃ F e, Sim G ⟨F, σ, H, e⟩ ∧ PostE G W ⟨F, σ, H, e⟩ Q (m e)
/-- a value that is looked at -/
def Rd2 (G : Gb) (F H : Hp) (d : D) (v : V) : Prop := Rep G F d v ∨ ∃ ds a, d = .lst ds ∧ v = .ref a ∧ LstAt G F H ds a

section
variable {G : Gb} {W : XK} {c c1 : Cf} {Q Q' : VK} {F F' H H' : Hp}
theorem PostE.next {r : R (Vl × En)} (h : PostE G W c Q r) (s : Step G c c1) (e : c1.σ = c.σ) : PostE G W c1 Q r := by
  cases r with
  | ok p =>
    obtain ⟨vl, e'⟩ := p
    intro v F' H' st S r
    rw [e] at st S r
    exact h v F' H' (s.trans st) S (r.imp s.back)
  | exc x =>
    intro cls d H' fr xa
    exact h cls d H' (fun b o hb hw => fr b o (s.frame b o hb hw) fun w => (s.w b w).elim hw fun z => by rw [hb] at z; cases z) xa
  | stuck => exact h
theorem PostE.bind {m : R (Vl × En)} {k : Vl → En → R (Vl × En)} (h : PostE G W c Q (bnd m k))
    (hk : ∀ vl e' v F' H', Step G c ⟨F', c.σ, H', e'⟩ → Sim G ⟨F', c.σ, H', e'⟩ → VRel G c.H ⟨F', c.σ, H', e'⟩ v vl → PostE G W c Q (k vl e') → Q' v H') : PostE G W c Q' m := by
  cases m with
  | ok p =>
    obtain ⟨vl, e'⟩ := p
    intro v F' H' st S r
    exact hk vl e' v F' H' st S r h
  | exc x => exact h
  | stuck => exact h
/-- what a value step gives -/
theorem PostE.lift {m : R Vr} (S : Sim G c) (h : PostE G W c Q (lift (m.map vr) c.e)) : PostV G W c.F c.H Q m := by
  cases m with
  | ok r =>
    intro v F' H' st hv
    refine h v F' H' st.step (st.sim S) ?_
    cases r with
    | sh d => exact hv
    | ow ds =>
      obtain ⟨a, h1, h2, h3⟩ := hv
      refine ⟨a, h1, h2, fun w => ?_, h3⟩
      have w : c.W a := w
      exact (S.wh w).1 h3
  | exc x => exact fun cls d H' s xa => h cls d H' (fun b o hb _ => s b o hb) xa
  | stuck => exact h
theorem PostV.sh {m : R D} (h : PostV G W F H Q (m.map Vr.sh)) : match m with
    | .ok d => ∀ v F' H', StepV F H F' H' → Rep G F' d v → Q v H'
    | .exc x => ∀ cls d H', Same H H' → XAt G x cls d H' → W cls d H'
    | .stuck => False := by
  cases m <;> exact h
theorem lift_sh {m : R D} {e : En} : lift (m.map Vl.sh) e = PV.lift ((m.map Vr.sh).map vr) e := by
  cases m <;> rfl
theorem lift_bl {m : R Bool} {e : En} : lift (m.map fun b => Vl.sh (.bl b)) e = PV.lift ((m.map fun b => Vr.sh (.bl b)).map vr) e := by
  cases m <;> rfl
theorem PostE.sh {d : D} {v : V} (S : Sim G c) (r : Rep G c.F d v) (h : PostE G W c Q (.ok (.sh d, c.e))) : Q v c.H := h v c.F c.H Step.rfl' S r
theorem Sim.freeze {e : En} {σ : Sg} {a : Addr} {vs : List V} (S : Sim G ⟨F, σ, H, e⟩) (h1 : H a = some (.lst vs)) (h2 : F a = none) (h3 : ¬ Cf.W ⟨F, σ, H, e⟩ a) : Sim G ⟨upd F a (.lst vs), σ, H, e⟩ where
  len := S.len
  sub := StepV.freeze S.sub h1
  cell := fun i x h => by
    have k := S.cell i x h
    have sm : Same F (upd F a (.lst vs)) := fun b u hb => by
      have : b ≠ a := fun z => by rw [z, h2] at hb; cases hb
      rw [upd_ne this]; exact hb
    have la : ∀ ds b, x.own = true → σ[i]? = some (some (.ref b)) → LstAt G F H ds b → LstAt G (upd F a (.lst vs)) H ds b := fun ds b ho hs ⟨ws, q1, q2, q3⟩ => by
      have : b ≠ a := fun z => h3 ⟨i, x, h, ho, by rw [← z]; exact hs⟩
      exact ⟨ws, q1, by rw [upd_ne this]; exact q2, q3.mono sm⟩
    cases x with
    | un => trivial
    | sh d =>
      obtain ⟨v, q1, q2⟩ := k
      exact ⟨v, q1, Rep.mono sm q2⟩
    | ow ds =>
      obtain ⟨b, q1, q2⟩ := k
      exact ⟨b, q1, la _ _ rfl q1 q2⟩
    | lk ds =>
      obtain ⟨b, q1, q2⟩ := k
      exact ⟨b, q1, la _ _ rfl q1 q2⟩
    | io ds =>
      obtain ⟨b, q1, q2⟩ := k
      exact ⟨b, q1, la _ _ rfl q1 q2⟩
    | bld c ds =>
      obtain ⟨b, q1, dx, ws, q2, q3, q4, q5⟩ := k
      have : b ≠ a := fun z => h3 ⟨i, _, h, rfl, by rw [← z]; exact q1⟩
      refine ⟨b, q1, dx, ws, q2, q3, ?_, q5.mono sm⟩
      show upd F a (.lst vs) b = none
      rw [upd_ne this]; exact q4
  inj := S.inj
theorem Step.freeze {e : En} {σ : Sg} {a : Addr} {vs : List V} {H0 : Hp} (h1 : H a = some (.lst vs)) (h2 : F a = none) (h0 : H0 a = none) {c0 : Cf} (s : Step G c0 ⟨F, σ, H, e⟩) (e0 : c0.H = H0) : Step G c0 ⟨upd F a (.lst vs), σ, H, e⟩ where
  f := fun b u hb => by
    have hb' : F b = some u := s.f b u hb
    have : b ≠ a := fun z => by rw [z, h2] at hb'; cases hb'
    show upd F a (.lst vs) b = some u
    rw [upd_ne this]; exact hb'
  frame := s.frame
  new := fun b h h' => by
    by_cases z : b = a
    · left; rw [e0, z]; exact h0
    · refine s.new b h ?_
      have h' : upd F a (.lst vs) b ≠ none := h'
      rw [upd_ne z] at h'; exact h'
  dom := s.dom
  w := s.w
  lk := fun i ds v h k => by
    rcases s.lk i ds v h k with q | q
    · exact .inl q
    · refine .inr (Rep.mono (fun b u hb => ?_) q)
      have hb : F b = some u := hb
      have : b ≠ a := fun z => by rw [z, h2] at hb; cases hb
      show upd F a (.lst vs) b = some u
      rw [upd_ne this]; exact hb
  io := s.io
/-- a temporary is kept while others are reckoned: it is frozen -/
theorem hold_ok {e : En} {σ : Sg} {v : V} {vl : Vl} {c0 : Cf} (st : Step G c0 ⟨F, σ, H, e⟩) (S : Sim G ⟨F, σ, H, e⟩) (r : VRel G c0.H ⟨F, σ, H, e⟩ v vl) :
    ∃ F', Step G c0 ⟨F', σ, H, e⟩ ∧ Sim G ⟨F', σ, H, e⟩ ∧ VRel G c0.H ⟨F', σ, H, e⟩ v (hold vl) := by
  cases vl with
  | sh d => exact ⟨F, st, S, r⟩
  | sl i => exact ⟨F, st, S, r⟩
  | ow ds =>
    obtain ⟨a, rfl, ⟨vs, q1, q2, q3⟩, q4, q5⟩ := r
    refine ⟨upd F a (.lst vs), Step.freeze q1 q2 q5 st rfl, S.freeze q1 q2 q4, ?_⟩
    have sm : Same F (upd F a (.lst vs)) := fun b u hb => by
      have : b ≠ a := fun z => by
        have q2 : F a = none := q2
        rw [z, q2] at hb; cases hb
      rw [upd_ne this]; exact hb
    show Rep G (upd F a (.lst vs)) (.lst ds) (.ref a)
    simp only [Rep]
    exact ⟨a, vs, rfl, upd_same, q3.mono sm⟩
/-- a held value is looked at -/
theorem pk_ok {e : En} {σ : Sg} {v : V} {vl : Vl} {H0 : Hp} {α : Type} {k : D → En → R (α × En)} {Post : R (α × En) → Prop} (hs : ¬ Post .stuck) (S : Sim G ⟨F, σ, H, e⟩) (r : VRel G H0 ⟨F, σ, H, e⟩ v vl) (h : Post (bnd (pk vl e) k)) :
    ∃ d, Rd2 G F H d v ∧ Post (k d e) := by
  cases vl with
  | sh d => exact ⟨d, .inl r, h⟩
  | ow ds =>
    obtain ⟨a, rfl, q, _⟩ := r
    exact ⟨.lst ds, .inr ⟨ds, a, rfl, rfl, q⟩, h⟩
  | sl i =>
    have r : σ[i]? = some (some v) := r
    unfold pk peek at h
    cases hx : e[i]? with
    | none => simp only [hx] at h; exact (hs h).elim
    | some x =>
      have k0 := S.cell i x hx
      cases x with
      | un => simp only [hx] at h; exact (hs h).elim
      | bld c ds => simp only [hx] at h; exact (hs h).elim
      | sh d =>
        simp only [hx] at h
        obtain ⟨v', q1, q2⟩ := k0
        have q1 : σ[i]? = some (some v') := q1
        rw [r] at q1; cases q1
        exact ⟨d, .inl q2, h⟩
      | ow ds =>
        simp only [hx] at h
        obtain ⟨a, q1, q2⟩ := k0
        have q1 : σ[i]? = some (some (.ref a)) := q1
        rw [r] at q1; cases q1
        exact ⟨.lst ds, .inr ⟨ds, a, rfl, rfl, q2⟩, h⟩
      | lk ds =>
        simp only [hx] at h
        obtain ⟨a, q1, q2⟩ := k0
        have q1 : σ[i]? = some (some (.ref a)) := q1
        rw [r] at q1; cases q1
        exact ⟨.lst ds, .inr ⟨ds, a, rfl, rfl, q2⟩, h⟩
      | io ds =>
        simp only [hx] at h
        obtain ⟨a, q1, q2⟩ := k0
        have q1 : σ[i]? = some (some (.ref a)) := q1
        rw [r] at q1; cases q1
        exact ⟨.lst ds, .inr ⟨ds, a, rfl, rfl, q2⟩, h⟩
theorem PostE.no (h : PostE G W c Q .stuck) : False := h
/-- a held value stays -/
theorem hold_mono {e e' : En} {σ : Sg} {v : V} {vl : Vl} {H0 H1 : Hp} (sm : Same F F') (h : VRel G H0 ⟨F, σ, H, e⟩ v (hold vl)) : VRel G H1 ⟨F', σ, H', e'⟩ v (hold vl) := by
  cases vl with
  | sh d => exact Rep.mono sm h
  | sl i => exact h
  | ow ds => exact Rep.mono sm h
/-- a value goes away: it is shared from here on -/
theorem esc_ok {e : En} {σ : Sg} {v : V} {vl : Vl} {c0 : Cf} {α : Type} {k : D → En → R (α × En)} {Post : R (α × En) → Prop} (hs : ¬ Post .stuck) (st : Step G c0 ⟨F, σ, H, e⟩) (S : Sim G ⟨F, σ, H, e⟩) (r : VRel G c0.H ⟨F, σ, H, e⟩ v vl) (h : Post (bnd (esc vl e) k)) :
    ∃ d F' e', Step G c0 ⟨F', σ, H, e'⟩ ∧ Same F F' ∧ Sim G ⟨F', σ, H, e'⟩ ∧ Rep G F' d v ∧ Post (k d e') := by
  have slot : ∀ i ds a, vl = .sl i → (e[i]? = some (.ow ds) ∨ e[i]? = some (.lk ds)) → σ[i]? = some (some (.ref a)) → LstAt G F H ds a → Post (k (.lst ds) (e.set i (.sh (.lst ds)))) →
      ∃ d F' e', Step G c0 ⟨F', σ, H, e'⟩ ∧ Same F F' ∧ Sim G ⟨F', σ, H, e'⟩ ∧ Rep G F' d v ∧ Post (k d e') := by
    intro i ds a ev hx hσ ⟨vs, q1, q2, q3⟩ hp
    subst ev
    have r : σ[i]? = some (some v) := r
    rw [hσ] at r; cases r
    have hx0 := hx
    obtain ⟨x, hx, ho⟩ : ∃ x : Cell, e[i]? = some x ∧ x.own = true := by
      rcases hx with z | z
      · exact ⟨_, z, rfl⟩
      · exact ⟨_, z, rfl⟩
    have sm : Same F (upd F a (.lst vs)) := fun b u hb => by
      have : b ≠ a := fun z => by rw [z, q2] at hb; cases hb
      rw [upd_ne this]; exact hb
    have rp : Rep G (upd F a (.lst vs)) (.lst ds) (.ref a) := by
      simp only [Rep]
      exact ⟨a, vs, rfl, upd_same, q3.mono sm⟩
    have hi : i < e.length := (List.getElem?_eq_some_iff.mp hx).1
    have get : ∀ j, j ≠ i → (e.set i (.sh (.lst ds)))[j]? = e[j]? := fun j hj => List.getElem?_set_ne (Ne.symm hj)
    have wa : Cf.W ⟨F, σ, H, e⟩ a := ⟨i, x, hx, ho, hσ⟩
    refine ⟨.lst ds, upd F a (.lst vs), e.set i (.sh (.lst ds)), ?_, sm, ?_, rp, hp⟩
    · refine st.trans ⟨sm, fun b o hb _ => hb, fun b hb hb' => ?_, fun b hb => hb, fun b hb => ?_, fun j es v hj hv => ?_, fun j y tg hy ht => ?_⟩
      · right
        by_cases z : b = a
        · rw [z]; exact wa
        · have hb' : upd F a (.lst vs) b ≠ none := hb'
          rw [upd_ne z] at hb'; exact absurd hb hb'
      · obtain ⟨j, y, h1, h2, h3⟩ := hb
        left
        by_cases z : j = i
        · subst z
          have h1 : (e.set j (.sh (.lst ds)))[j]? = some y := h1
          rw [List.getElem?_set_self hi] at h1
          cases h1; cases h2
        · exact ⟨j, y, by rw [← get j z]; exact h1, h2, h3⟩
      · by_cases z : j = i
        · right
          subst z
          have hj : e[j]? = some (.lk es) := hj
          have hv : σ[j]? = some (some v) := hv
          rw [hσ] at hv; cases hv
          rcases hx0 with q | q
          · rw [hj] at q; cases q
          · rw [hj] at q; cases q; exact rp
        · left
          exact ⟨by rw [show (Cf.mk (upd F a (.lst vs)) σ H (e.set i (.sh (.lst ds)))).e[j]? = (e.set i (.sh (.lst ds)))[j]? from rfl, get j z]; exact hj, hv⟩
      · have hy : (e.set i (.sh (.lst ds)))[j]? = some y := hy
        by_cases z : j = i
        · subst z
          rw [List.getElem?_set_self hi] at hy
          cases hy; cases ht
        · rw [get j z] at hy
          exact ⟨y, hy, ht, rfl⟩
    · refine ⟨by simpa using S.len, StepV.freeze S.sub q1, fun j y hy => ?_, fun j1 j2 y1 y2 b h1 h2 o1 o2 s1 s2 => ?_⟩
      · by_cases z : j = i
        · subst z
          have hy : (e.set j (.sh (.lst ds)))[j]? = some y := hy
          rw [List.getElem?_set_self hi] at hy
          cases hy
          exact ⟨_, hσ, rp⟩
        · have hy : (e.set i (.sh (.lst ds)))[j]? = some y := hy
          rw [get j z] at hy
          have k0 := S.cell j y hy
          have la : ∀ (b : Addr), y.own = true → σ[j]? = some (some (.ref b)) → b ≠ a := fun b hy' hb ee => z (S.inj j i y x a hy hx hy' ho (by rw [← ee]; exact hb) hσ)
          cases y with
          | un => trivial
          | sh d =>
            obtain ⟨u, z1, z2⟩ := k0
            exact ⟨u, z1, Rep.mono sm z2⟩
          | ow es =>
            obtain ⟨b, z1, ws, z2, z3, z4⟩ := k0
            exact ⟨b, z1, ws, z2, upd_none (la b rfl z1) z3, z4.mono sm⟩
          | lk es =>
            obtain ⟨b, z1, ws, z2, z3, z4⟩ := k0
            exact ⟨b, z1, ws, z2, upd_none (la b rfl z1) z3, z4.mono sm⟩
          | io es =>
            obtain ⟨b, z1, ws, z2, z3, z4⟩ := k0
            exact ⟨b, z1, ws, z2, upd_none (la b rfl z1) z3, z4.mono sm⟩
          | bld c es =>
            obtain ⟨b, z1, dx, ws, z2, z3, z4, z5⟩ := k0
            exact ⟨b, z1, dx, ws, z2, z3, by
              show upd F a (.lst vs) b = none
              rw [upd_ne (la b rfl z1)]; exact z4, z5.mono sm⟩
      · have n1 : j1 ≠ i := fun z => by
          subst z
          have h1 : (e.set j1 (.sh (.lst ds)))[j1]? = some y1 := h1
          rw [List.getElem?_set_self hi] at h1
          cases h1; cases o1
        have n2 : j2 ≠ i := fun z => by
          subst z
          have h2 : (e.set j2 (.sh (.lst ds)))[j2]? = some y2 := h2
          rw [List.getElem?_set_self hi] at h2
          cases h2; cases o2
        exact S.inj j1 j2 y1 y2 b (by rw [← get j1 n1]; exact h1) (by rw [← get j2 n2]; exact h2) o1 o2 s1 s2
  cases vl with
  | sh d => exact ⟨d, F, e, st, fun _ _ h => h, S, r, h⟩
  | ow ds =>
    obtain ⟨a, rfl, ⟨vs, q1, q2, q3⟩, q4, q5⟩ := r
    have sm : Same F (upd F a (.lst vs)) := fun b u hb => by
      have : b ≠ a := fun z => by
        have q2 : F a = none := q2
        rw [z, q2] at hb; cases hb
      rw [upd_ne this]; exact hb
    refine ⟨.lst ds, upd F a (.lst vs), e, Step.freeze q1 q2 q5 st rfl, sm, S.freeze q1 q2 q4, ?_, h⟩
    simp only [Rep]
    exact ⟨a, vs, rfl, upd_same, q3.mono sm⟩
  | sl i =>
    have r : σ[i]? = some (some v) := r
    unfold esc at h
    cases hx : e[i]? with
    | none => simp only [hx] at h; exact (hs h).elim
    | some x =>
      have k0 := S.cell i x hx
      cases x with
      | un => simp only [hx] at h; exact (hs h).elim
      | bld c ds => simp only [hx] at h; exact (hs h).elim
      | io ds => simp only [hx] at h; exact (hs h).elim
      | sh d =>
        simp only [hx] at h
        obtain ⟨v', q1, q2⟩ := k0
        have q1 : σ[i]? = some (some v') := q1
        rw [r] at q1; cases q1
        exact ⟨d, F, e, st, fun _ _ h => h, S, q2, h⟩
      | ow ds =>
        simp only [hx] at h
        obtain ⟨a, q1, q2⟩ := k0
        exact slot i ds a rfl (.inl hx) q1 q2 h
      | lk ds =>
        simp only [hx] at h
        obtain ⟨a, q1, q2⟩ := k0
        exact slot i ds a rfl (.inr hx) q1 q2 h
end
end PV
set_option Elab.async false
set_option linter.all false
set_option maxRecDepth 100000
namespace PV
open PySem PySem.Spec PyProof.Rows L2
theorem line16 {n : Nat} (h : n ≤ 16000000) : n ≤ sizeLine := Nat.le_trans h (by decide)
theorem line16' {n : Nat} (h : n < 16000000) : n < sizeLine := Nat.lt_of_lt_of_le h (by decide)
section
variable {G : Gb} {W : XK} {F H : Hp} {Q : VK}
def r2D (G : Gb) (W : XK) (m : D → D → R Vr) : R2 := fun x y H Q => ∃ F a b, Same F H ∧ Rd2 G F H a x ∧ Rd2 G F H b y ∧ PostV G W F H Q (m a b)
theorem PostV.now {d : D} {v : V} (S : Same F H) (h : PostV G W F H Q (.ok (.sh d))) (r : Rep G F d v) : Q v H := h v F H (StepV.rfl' S) r
theorem Rd2.int {i : Int} {v : V} (h : Rd2 G F H (.int i) v) : v = .int i := by
  rcases h with h | ⟨_, _, e, _⟩
  · simpa only [Rep] using h
  · cases e
theorem Rd2.str {i : Str} {v : V} (h : Rd2 G F H (.str i) v) : v = .str i := by
  rcases h with h | ⟨_, _, e, _⟩
  · simpa only [Rep] using h
  · cases e
theorem Rd2.bl {i : Bool} {v : V} (h : Rd2 G F H (.bl i) v) : v = .bl i := by
  rcases h with h | ⟨_, _, e, _⟩
  · simpa only [Rep] using h
  · cases e
theorem Rd2.non {v : V} (h : Rd2 G F H .non v) : v = .non := by
  rcases h with h | ⟨_, _, e, _⟩
  · simpa only [Rep] using h
  · cases e
theorem Rd2.tup {ds : List D} {v : V} (S : Same F H) (h : Rd2 G F H (.tup ds) v) : ∃ a vs, v = .ref a ∧ SqT G.K H a vs ∧ SqT G.K F a vs ∧ Reps G F ds vs := by
  rcases h with h | ⟨_, _, e, _⟩
  · simp only [Rep] at h
    obtain ⟨a, vs, h1, h2, h3⟩ := h
    exact ⟨a, vs, h1, sqT_same S h2, h2, h3⟩
  · cases e
theorem Rd2.ro {ds : List D} {v : V} (S : Same F H) (h : Rd2 G F H (.ro ds) v) : ∃ a vs, v = .ref a ∧ SqL G.K H a vs ∧ Reps G F ds vs := by
  rcases h with h | ⟨_, _, e, _⟩
  · simp only [Rep] at h
    obtain ⟨a, vs, h1, h2, h3⟩ := h
    exact ⟨a, vs, h1, S.seq h2, h3⟩
  · cases e
theorem Rd2.lst {ds : List D} {v : V} (S : Same F H) (h : Rd2 G F H (.lst ds) v) : ∃ a vs, v = .ref a ∧ H a = some (.lst vs) ∧ Reps G F ds vs := by
  rcases h with h | ⟨es, a, e, h1, vs, h2, _, h3⟩
  · simp only [Rep] at h
    obtain ⟨a, vs, h1, h2, h3⟩ := h
    exact ⟨a, vs, h1, S _ _ h2, h3⟩
  · cases e
    exact ⟨a, vs, h1, h2, h3⟩
theorem Rd2.obj {c : Nat} {ds : List D} {v : V} (h : Rd2 G F H (.obj c ds) v) : Rep G F (.obj c ds) v := by
  rcases h with h | ⟨_, _, e, _⟩
  · exact h
  · cases e
theorem Rep.rd {d : D} {v : V} (h : Rep G F d v) : Rd2 G F H d v := .inl h
/-- a new tuple -/
theorem PostV.tup {ds : List D} {vs : List V} {p : Addr} (S : Same F H) (hp : H p = none) (r : Reps G F ds vs) (h : PostV G W F H Q (.ok (.sh (.tup ds)))) : Q (.ref p) (upd H p (.tup vs)) := by
  have st : StepV F H (upd F p (.tup vs)) (upd H p (.tup vs)) := StepV.new1 S hp
  refine h (.ref p) _ _ st ?_
  show Rep G _ (.tup ds) (.ref p)
  simp only [Rep]
  exact ⟨p, vs, rfl, .inl (.inl upd_same), r.mono st.f⟩
/-- a new list of nobody's -/
theorem PostV.lst {ds : List D} {vs : List V} {p : Addr} (S : Same F H) (hp : H p = none) (r : Reps G F ds vs) (h : PostV G W F H Q (.ok (.ow ds))) : Q (.ref p) (upd H p (.lst vs)) := by
  have st : StepV F H F (upd H p (.lst vs)) := StepV.new0 S hp
  exact h (.ref p) _ _ st ⟨p, rfl, ⟨vs, upd_same, S.free hp, r⟩, hp⟩
theorem Rep.ofT {a : Addr} {ds : List D} {vs : List V} (h : SqT G.K F a vs) (r : Reps G F ds vs) : Rep G F (.tup ds) (.ref a) := by
  simp only [Rep]
  exact ⟨a, vs, rfl, h, r⟩
end
section
variable {G : Gb} {W : XK} {X : Cx} {cf : CF}
/-- what the own classes add to an operation -/
def OwnOp (G : Gb) (W : XK) (X : Cx) (f : Value → Value → Sem Value) (m : D → D → R Vr) : Prop :=
  OpR X f (fun x y H Q => ∃ F c i b, Same F H ∧ Rep G F (.obj c i) x ∧ Rd2 G F H b y ∧ PostV G W F H Q (m (.obj c i) b))
theorem opr_add (hK : X.K = G.K) (own : OwnOp G W X (binaryOp .Add) (binD G.P cf .add)) : OpR X (binaryOp .Add) (r2D G W (binD G.P cf .add)) := by
  intro pins s σ H x y v u Q I rx ry ⟨F, a, b, S, ha, hb, h⟩
  cases a with
  | obj c i => exact own pins s σ H x y v u Q I rx ry ⟨F, c, i, b, S, ha.obj, hb, h⟩
  | int i =>
    cases b with
    | int j => exact op_add pins s σ H x y v u Q I rx ry ⟨i, j, ha.int, hb.int, h.now S (by simp only [Rep])⟩
    | _ => exact False.elim h
  | str i =>
    cases b with
    | str j =>
      simp only [binD] at h
      split at h
      · rename_i hl
        exact op_add_str pins s σ H x y v u Q I rx ry ⟨i, j, ha.str, hb.str, line16 hl, h.now S (by simp only [Rep])⟩
      · exact False.elim h
    | _ => exact False.elim h
  | tup i =>
    cases b with
    | tup j =>
      simp only [binD] at h
      split at h
      · rename_i hl
        obtain ⟨p, vs, rfl, h1, h1', r1⟩ := ha.tup S
        obtain ⟨q, ws, rfl, h2, h2', r2⟩ := hb.tup S
        refine op_catA pins s σ H _ _ v u Q I rx ry ⟨p, q, vs, ws, rfl, rfl, by rw [hK]; exact h1, by rw [hK]; exact h2, line16 (by rw [r1.length, r2.length]; exact hl), fun e => ?_, fun _ e => ?_, fun _ _ t ht => PostV.tup S ht (r1.append r2) h⟩
        · refine h.now S (.ofT h2' ?_)
          have := r1.length
          subst e
          have e2 : i = [] := List.eq_nil_of_length_eq_zero (by simpa using this.symm)
          subst e2
          simpa using r2
        · refine h.now S (.ofT h1' ?_)
          have := r2.length
          subst e
          have e2 : j = [] := List.eq_nil_of_length_eq_zero (by simpa using this.symm)
          subst e2
          simpa using r1
      · exact False.elim h
    | _ => exact False.elim h
  | lst i =>
    cases b with
    | lst j =>
      simp only [binD] at h
      split at h
      · rename_i hl
        obtain ⟨p, vs, rfl, h1, r1⟩ := ha.lst S
        obtain ⟨q, ws, rfl, h2, r2⟩ := hb.lst S
        exact op_cat pins s σ H _ _ v u Q I rx ry ⟨p, q, vs, ws, rfl, rfl, h1, h2, line16 (by rw [r1.length, r2.length]; exact hl), fun t ht => PostV.lst S ht (r1.append r2) h⟩
      · exact False.elim h
    | _ => exact False.elim h
  | _ => exact False.elim h

theorem opr_sub (own : OwnOp G W X (binaryOp .Sub) (binD G.P cf .sub)) : OpR X (binaryOp .Sub) (r2D G W (binD G.P cf .sub)) := by
  intro pins s σ H x y v u Q I rx ry ⟨F, a, b, S, ha, hb, h⟩
  cases a with
  | obj c i => exact own pins s σ H x y v u Q I rx ry ⟨F, c, i, b, S, ha.obj, hb, h⟩
  | int i =>
    cases b with
    | int j => exact op_sub pins s σ H x y v u Q I rx ry ⟨i, j, ha.int, hb.int, h.now S (by simp only [Rep])⟩
    | _ => exact False.elim h
  | _ => exact False.elim h
theorem mulOk_big {i j : Int} (h : i.natAbs.log2 + j.natAbs.log2 < 100000000) : IntMulOk i j := by
  have b : ∀ x : Int, Builtin.Int.intBits x ≤ x.natAbs.log2 + 1 := fun x => by
    unfold Builtin.Int.intBits
    split <;> omega
  exact IntMulOk.of_le (b i) (b j) (by omega)
theorem op_mulB : OpR X (binaryOp .Mult) (rI (fun i j => i.natAbs.log2 + j.natAbs.log2 < 100000000) fun i j => .int (i * j)) := opI fun _ _ _ _ _ _ _ hc q => mul_int q (mulOk_big hc)
theorem opr_mul (own : OwnOp G W X (binaryOp .Mult) (binD G.P cf .mul)) (hK : X.K = G.K) : OpR X (binaryOp .Mult) (r2D G W (binD G.P cf .mul)) := by
  intro pins s σ H x y v u Q I rx ry ⟨F, a, b, S, ha, hb, h⟩
  cases a with
  | obj c i => exact own pins s σ H x y v u Q I rx ry ⟨F, c, i, b, S, ha.obj, hb, h⟩
  | int i =>
    cases b with
    | int j =>
      simp only [binD] at h
      split at h
      · rename_i hl
        exact op_mulB pins s σ H x y v u Q I rx ry ⟨i, j, ha.int, hb.int, hl, h.now S (by simp only [Rep])⟩
      · exact False.elim h
    | _ => exact False.elim h
  | tup i =>
    cases b with
    | int j =>
      simp only [binD] at h
      split at h
      · rename_i hl
        obtain ⟨p, vs, rfl, h1, h1', r1⟩ := ha.tup S
        obtain ⟨g1, g2, g3, g4⟩ := hl
        exact op_repT pins s σ H _ y v u Q I rx ry ⟨p, j, vs, rfl, hb.int, by rw [hK]; exact h1, (fun e => by rw [e] at r1; have := r1.length; simp at this; omega), by omega, by omega, by rw [r1.length]; exact g1, fun t ht => PostV.tup S ht (r1.rep _) h⟩
      · exact False.elim h
    | _ => exact False.elim h
  | lst i =>
    cases b with
    | int j =>
      simp only [binD] at h
      split at h
      · rename_i hl
        obtain ⟨p, vs, rfl, h1, r1⟩ := ha.lst S
        exact op_rep pins s σ H _ _ v u Q I rx ry ⟨p, j, vs, rfl, hb.int, h1, by omega, by omega, line16 (by rw [r1.length]; exact hl.1), fun t ht => PostV.lst S ht (r1.rep _) h⟩
      · exact False.elim h
    | _ => exact False.elim h
  | _ => exact False.elim h
theorem opr_fdiv : OpR X (binaryOp .FloorDiv) (r2D G W (binD G.P cf .fdiv)) := by
  intro pins s σ H x y v u Q I rx ry ⟨F, a, b, S, ha, hb, h⟩
  cases a with
  | int i =>
    cases b with
    | int j =>
      simp only [binD] at h
      split at h
      · rename_i hl
        exact op_fdivW pins s σ H x y v u Q I rx ry ⟨i, j, ha.int, hb.int, hl, h.now S (by simp only [Rep])⟩
      · exact False.elim h
    | _ => exact False.elim h
  | _ => exact False.elim h
theorem opr_mod : OpR X (binaryOp .Mod) (r2D G W (binD G.P cf .mod)) := by
  intro pins s σ H x y v u Q I rx ry ⟨F, a, b, S, ha, hb, h⟩
  cases a with
  | int i =>
    cases b with
    | int j =>
      simp only [binD] at h
      split at h
      · rename_i hl
        exact op_mod pins s σ H x y v u Q I rx ry ⟨i, j, ha.int, hb.int, hl, h.now S (by simp only [Rep])⟩
      · exact False.elim h
    | _ => exact False.elim h
  | _ => exact False.elim h
def OwnUn (G : Gb) (W : XK) (X : Cx) (f : Value → Sem Value) (m : D → R Vr) : Prop :=
  UnR X f (fun x H Q => ∃ F c i, Same F H ∧ Rep G F (.obj c i) x ∧ PostV G W F H Q (m (.obj c i)))
theorem unr_neg (own : OwnUn G W X (unaryOp .USub) (fun x => (negD G.P cf x).map Vr.sh)) : UnR X (unaryOp .USub) (fun x H Q => ∃ F a, Same F H ∧ Rd2 G F H a x ∧ PostV G W F H Q ((negD G.P cf a).map Vr.sh)) := by
  intro pins s σ H x v Q I rx ⟨F, a, S, ha, h⟩
  cases a with
  | obj c i => exact own pins s σ H x v Q I rx ⟨F, c, i, S, ha.obj, h⟩
  | int i => exact un_neg pins s σ H x v Q I rx ⟨i, ha.int, PostV.now (d := .int (-i)) S h (by simp only [Rep])⟩
  | _ => exact False.elim h
/-! ### comparisons -/
abbrev blR (m : D → D → R Bool) : D → D → R Vr := fun a b => (m a b).map fun b => Vr.sh (.bl b)
theorem PostV.bl {F H : Hp} {Q : VK} {b : Bool} (S : Same F H) (h : PostV G W F H Q (.ok (.sh (.bl b)))) : Q (.bl b) H := h.now S (by simp only [Rep])
theorem opr_lt (hK : X.K = G.K) (hu : X.A.units < cLine) (own : OwnOp G W X (compareOp .Lt) (blR (cmpD G.P cf .lt))) : OpR X (compareOp .Lt) (r2D G W (blR (cmpD G.P cf .lt))) := by
  intro pins s σ H x y v u Q I rx ry ⟨F, a, b, S, ha, hb, h⟩
  cases a with
  | obj c i => exact own pins s σ H x y v u Q I rx ry ⟨F, c, i, b, S, ha.obj, hb, h⟩
  | int i =>
    cases b with
    | int j => exact op_lt pins s σ H x y v u Q I rx ry ⟨i, j, ha.int, hb.int, PostV.bl S h⟩
    | _ => exact False.elim h
  | str i =>
    cases b with
    | str j => exact op_lt_str pins s σ H x y v u Q I rx ry ⟨i, j, ha.str, hb.str, PostV.bl S h⟩
    | _ => exact False.elim h
  | tup i =>
    cases b with
    | tup j =>
      simp only [blR, cmpD] at h
      split at h
      · rename_i ns ms e1 e2
        obtain ⟨p, vs, rfl, h1, h1', r1⟩ := ha.tup S
        obtain ⟨q, ws, rfl, h2, h2', r2⟩ := hb.tup S
        have z1 := r1.ints e1
        have z2 := r2.ints e2
        subst z1 z2
        exact op_ltT hu pins s σ H _ _ v u Q I rx ry ⟨p, q, ns, ms, rfl, rfl, by rw [hK]; exact h1, by rw [hK]; exact h2, PostV.bl S h⟩
      · exact False.elim h
    | _ => exact False.elim h
  | _ => exact False.elim h
theorem opr_le (own : OwnOp G W X (compareOp .LtE) (blR (cmpD G.P cf .le))) : OpR X (compareOp .LtE) (r2D G W (blR (cmpD G.P cf .le))) := by
  intro pins s σ H x y v u Q I rx ry ⟨F, a, b, S, ha, hb, h⟩
  cases a with
  | obj c i => exact own pins s σ H x y v u Q I rx ry ⟨F, c, i, b, S, ha.obj, hb, h⟩
  | int i =>
    cases b with
    | int j => exact op_le pins s σ H x y v u Q I rx ry ⟨i, j, ha.int, hb.int, PostV.bl S h⟩
    | _ => exact False.elim h
  | str i =>
    cases b with
    | str j => exact op_le_str pins s σ H x y v u Q I rx ry ⟨i, j, ha.str, hb.str, PostV.bl S h⟩
    | _ => exact False.elim h
  | _ => exact False.elim h
theorem opr_gt : OpR X (compareOp .Gt) (r2D G W (blR (cmpD G.P cf .gt))) := by
  intro pins s σ H x y v u Q I rx ry ⟨F, a, b, S, ha, hb, h⟩
  cases a with
  | int i =>
    cases b with
    | int j => exact op_gt pins s σ H x y v u Q I rx ry ⟨i, j, ha.int, hb.int, PostV.bl S h⟩
    | _ => exact False.elim h
  | _ => exact False.elim h
theorem opr_ge : OpR X (compareOp .GtE) (r2D G W (blR (cmpD G.P cf .ge))) := by
  intro pins s σ H x y v u Q I rx ry ⟨F, a, b, S, ha, hb, h⟩
  cases a with
  | int i =>
    cases b with
    | int j => exact op_ge pins s σ H x y v u Q I rx ry ⟨i, j, ha.int, hb.int, PostV.bl S h⟩
    | _ => exact False.elim h
  | _ => exact False.elim h
/-! ### items, slices -/
theorem atI_rep {F : Hp} {ds : List D} {vs : List V} {i : Int} {d : D} (r : Reps G F ds vs) (h : atI ds i = some d) : ∃ v, atI vs i = some v ∧ Rep G F d v := by
  unfold atI at h ⊢
  rw [r.length]
  cases e : ixN ds.length i with
  | none => rw [e] at h; cases h
  | some j =>
    rw [e] at h
    exact r.get h
theorem ixr (hK : X.K = G.K) : IxR X (fun x y H Q => ∃ F a b, Same F H ∧ Rd2 G F H a x ∧ Rd2 G F H b y ∧ PostV G W F H Q ((ixOf a b).map Vr.sh)) := by
  intro value slice pins s σ H x y v u Q I rx ry ⟨F, a, b, S, ha, hb, h⟩ hs
  cases b with
  | int i =>
    cases a with
    | lst ds =>
      obtain ⟨p, vs, rfl, h1, r1⟩ := ha.lst S
      simp only [ixOf, items] at h
      split at h
      · rename_i d e
        obtain ⟨z, e1, e2⟩ := atI_rep r1 e
        exact ix_list value slice pins s σ H _ _ v u Q I rx ry ⟨p, vs, i, z, rfl, hb.int, .inl (.inl h1), e1, PostV.now S h e2⟩ hs
      · exact False.elim h
    | tup ds =>
      obtain ⟨p, vs, rfl, h1, _, r1⟩ := ha.tup S
      simp only [ixOf, items] at h
      split at h
      · rename_i d e
        obtain ⟨z, e1, e2⟩ := atI_rep r1 e
        exact ix_tup value slice pins s σ H _ _ v u Q I rx ry ⟨p, vs, i, z, rfl, hb.int, by rw [hK]; exact h1, e1, PostV.now S h e2⟩ hs
      · exact False.elim h
    | _ => exact False.elim h
  | _ =>
    simp only [ixOf] at h
    split at h
    · simp_all
    · exact False.elim h
theorem Reps.cut {F : Hp} {ds : List D} {vs : List V} (r : Reps G F ds vs) (lo hi : Option Int) : Reps G F (cutD ds lo hi) (cutV vs lo hi) := by
  unfold cutD cutV
  rw [r.length]
  exact (r.drop _).take _
theorem slr (hK : X.K = G.K) : SlR X (fun x lo hi H Q => ∃ F a, Same F H ∧ Rd2 G F H a x ∧ PostV G W F H Q (slcD a lo hi)) := by
  intro pins s σ H x v vl vu lo hi sl Q I rx hs pl pu ⟨F, a, S, ha, h⟩
  cases a with
  | lst ds =>
    obtain ⟨p, vs, rfl, h1, r1⟩ := ha.lst S
    exact sl_list pins s σ H _ v vl vu lo hi sl Q I rx hs pl pu ⟨p, vs, rfl, .inl (.inl h1), fun t ht => PostV.lst S ht (r1.cut lo hi) h⟩
  | ro ds =>
    obtain ⟨p, vs, rfl, h1, r1⟩ := ha.ro S
    exact sl_list pins s σ H _ v vl vu lo hi sl Q I rx hs pl pu ⟨p, vs, rfl, by rw [hK]; exact h1, fun t ht => PostV.lst S ht (r1.cut lo hi) h⟩
  | tup ds =>
    obtain ⟨p, vs, rfl, h1, h1', r1⟩ := ha.tup S
    refine sl_tupA pins s σ H _ v vl vu lo hi sl Q I rx hs pl pu ⟨p, vs, rfl, by rw [hK]; exact h1, fun e => ?_, fun _ t ht => PostV.tup S ht (r1.cut lo hi) h⟩
    have e2 : cutD ds lo hi = ds := by
      unfold cutD
      rw [← r1.length, e.1, e.2, r1.length]
      simp
    simp only [slcD, e2] at h
    exact PostV.now S h (.ofT h1' r1)
  | _ => exact False.elim h
end
end PV
set_option Elab.async false
set_option linter.all false
set_option maxRecDepth 100000
namespace PV
open PySem PySem.Spec PyProof.Rows L2
def Rd2s (G : Gb) (F H : Hp) : List D → List V → Prop
  | [], vs => vs = []
  | d :: ds, vs => ∃ v r, vs = v :: r ∧ Rd2 G F H d v ∧ Rd2s G F H ds r
section
variable {G : Gb} {W : XK} {X : Cx} {cf : CF} {F H : Hp}
theorem Rd2s.one {d : D} {vs : List V} (h : Rd2s G F H [d] vs) : ∃ v, vs = [v] ∧ Rd2 G F H d v := by
  obtain ⟨v, r, rfl, h1, h2⟩ := h
  have h2 : r = [] := h2
  subst h2
  exact ⟨v, rfl, h1⟩
theorem Rd2s.two {d e : D} {vs : List V} (h : Rd2s G F H [d, e] vs) : ∃ v u, vs = [v, u] ∧ Rd2 G F H d v ∧ Rd2 G F H e u := by
  obtain ⟨v, r, rfl, h1, h2⟩ := h
  obtain ⟨u, rfl, h3⟩ := Rd2s.one h2
  exact ⟨v, u, rfl, h1, h3⟩
def bifR (G : Gb) (W : XK) (b : Bif) : List V → Hp → VK → Prop := fun vs H Q => ∃ F ds, Same F H ∧ Rd2s G F H ds vs ∧ PostV G W F H Q (bifD b ds)
theorem Rd2.seq (hK : X.K = G.K) {ds : List D} {v : V} (S : Same F H) (h : Rd2 G F H (.lst ds) v ∨ Rd2 G F H (.tup ds) v) : ∃ a vs, v = .ref a ∧ (SqL X.K H a vs ∨ SqT X.K H a vs) ∧ Reps G F ds vs := by
  rcases h with h | h
  · obtain ⟨p, vs, rfl, h1, r1⟩ := h.lst S
    exact ⟨p, vs, rfl, .inl (.inl (.inl h1)), r1⟩
  · obtain ⟨p, vs, rfl, h1, _, r1⟩ := h.tup S
    exact ⟨p, vs, rfl, .inr (by rw [hK]; exact h1), r1⟩
theorem PostV.int {Q : VK} {i : Int} (S : Same F H) (h : PostV G W F H Q (.ok (.sh (.int i)))) : Q (.int i) H := h.now S (by simp only [Rep])
theorem cr_len (hK : X.K = G.K) : CallR X (.builtin "len") (bifR G W .len) := by
  intro pins s σ H vs us Q I r ⟨F, ds, S, rd, h⟩
  simp only [bifD] at h
  split at h
  · obtain ⟨v, rfl, h1⟩ := rd.one
    obtain ⟨a, ws, rfl, h2, r1⟩ := Rd2.seq hK S (.inl h1)
    exact call_len pins s σ H _ us Q I r ⟨_, ws.length, rfl, h2.imp (fun z => ⟨ws, z, rfl⟩) (fun z => ⟨ws, z, rfl⟩), PostV.int S (by rw [r1.length]; exact h)⟩
  · obtain ⟨v, rfl, h1⟩ := rd.one
    obtain ⟨a, ws, rfl, h2, r1⟩ := Rd2.seq hK S (.inr h1)
    exact call_len pins s σ H _ us Q I r ⟨_, ws.length, rfl, h2.imp (fun z => ⟨ws, z, rfl⟩) (fun z => ⟨ws, z, rfl⟩), PostV.int S (by rw [r1.length]; exact h)⟩
  · obtain ⟨v, rfl, h1⟩ := rd.one
    split at h
    · rename_i hl
      have e := h1.str
      subst e
      exact call_len pins s σ H _ us Q I r ⟨_, _, rfl, ⟨line16 hl, rfl⟩, PostV.int S h⟩
    · exact False.elim h
  · exact False.elim h
theorem cr_abs : CallR X (.builtin "abs") (bifR G W .abs) := by
  intro pins s σ H vs us Q I r ⟨F, ds, S, rd, h⟩
  simp only [bifD] at h
  split at h
  · obtain ⟨v, rfl, h1⟩ := rd.one
    have e := h1.int
    subst e
    exact call_abs pins s σ H _ us Q I r ⟨_, rfl, PostV.int S h⟩
  · exact False.elim h
theorem cr_int : CallR X (.type "int") (bifR G W .int) := by
  intro pins s σ H vs us Q I r ⟨F, ds, S, rd, h⟩
  simp only [bifD] at h
  split at h
  · obtain ⟨v, rfl, h1⟩ := rd.one
    have e := h1.int
    subst e
    exact call_int1 pins s σ H _ us Q I r (.inl ⟨_, rfl, PostV.int S h⟩)
  · obtain ⟨v, rfl, h1⟩ := rd.one
    have e := h1.bl
    subst e
    exact call_int1 pins s σ H _ us Q I r (.inr ⟨_, rfl, PostV.int S h⟩)
  · exact False.elim h
theorem cr_tup (hK : X.K = G.K) : CallR X (.type "tuple") (bifR G W .tup) := by
  intro pins s σ H vs us Q I r ⟨F, ds, S, rd, h⟩
  simp only [bifD] at h
  split at h
  · obtain ⟨v, rfl, h1⟩ := rd.one
    obtain ⟨a, ws, rfl, h2, r1⟩ := h1.lst S
    exact call_tuple_of pins s σ H _ us Q I r ⟨a, ws, rfl, .inl ⟨.inl (.inl h2), fun p hp => PostV.tup S hp r1 h⟩⟩
  · obtain ⟨v, rfl, h1⟩ := rd.one
    obtain ⟨a, ws, rfl, h2, h3, r1⟩ := h1.tup S
    exact call_tuple_of pins s σ H _ us Q I r ⟨a, ws, rfl, .inr ⟨by rw [hK]; exact h2, PostV.now S h (.ofT h3 r1)⟩⟩
  · exact False.elim h
theorem cr_lst (hK : X.K = G.K) : CallR X (.type "list") (bifR G W .lst) := by
  intro pins s σ H vs us Q I r ⟨F, ds, S, rd, h⟩
  simp only [bifD] at h
  split at h
  · obtain ⟨v, rfl, h1⟩ := rd.one
    obtain ⟨a, ws, rfl, h2, r1⟩ := Rd2.seq hK S (.inl h1)
    exact call_list_of pins s σ H _ us Q I r ⟨a, ws, rfl, h2, fun p hp => PostV.lst S hp r1 h⟩
  · obtain ⟨v, rfl, h1⟩ := rd.one
    obtain ⟨a, ws, rfl, h2, r1⟩ := Rd2.seq hK S (.inr h1)
    exact call_list_of pins s σ H _ us Q I r ⟨a, ws, rfl, h2, fun p hp => PostV.lst S hp r1 h⟩
  · exact False.elim h
theorem cr_max2 (hc : X.calm = true) : CallR X (.builtin "max") (bifR G W .max2) := by
  intro pins s σ H vs us Q I r ⟨F, ds, S, rd, h⟩
  simp only [bifD] at h
  split at h
  · obtain ⟨v, u, rfl, h1, h2⟩ := rd.two
    have e := h1.int
    have e2 := h2.int
    subst e e2
    exact call_max2 hc pins s σ H _ us Q I r ⟨_, _, rfl, PostV.int S h⟩
  · exact False.elim h
theorem cr_min2 (hc : X.calm = true) : CallR X (.builtin "min") (bifR G W .min2) := by
  intro pins s σ H vs us Q I r ⟨F, ds, S, rd, h⟩
  simp only [bifD] at h
  split at h
  · obtain ⟨v, u, rfl, h1, h2⟩ := rd.two
    have e := h1.int
    have e2 := h2.int
    subst e e2
    exact call_min2 hc pins s σ H _ us Q I r ⟨_, _, rfl, PostV.int S h⟩
  · exact False.elim h
/-- sum of a tuple of ints -/
theorem sum_tup {prog : Program} {w : World} {A : Around} {E : Value → Shared → Prop} {s : Shared} {l : Addr} {its : List Value} {ns : List Int} {Q : Value → Shared → Prop} (hh : A.handled = none) (hl : s.heap.IsTuple l its.toArray) (hi : IntsAre its ns)
    (h : ∀ h' tk t', (∀ b o, s.heap.get? b = some o → h'.get? b = some o) → Q (.int ns.sum t') { s with heap := h', toks := tk }) : wpAny (model prog w) A (call (.builtin "sum") [.ref l]) Q E s := by
  obtain ⟨xs, e⟩ := hi.allInts.items
  have hn : numsOf (intItems xs).toList = ns := by rw [← e]; exact hi.numsOf
  rw [nums_intItems] at hn
  rw [e] at hl
  have hlt : l < s.heap.objs.size := by obtain ⟨_, e, _⟩ := hl; exact Heap.lt_size e
  refine call_sum_walkG (wpAny_pyIter_tuple hl ?_)
  refine ⟨_, _, _, _, _, _, numAt xs, rfl, Walks.tuple (A := A.in1) hh s.heap.objs.size l (Nat.ne_of_lt hlt) (intItems xs), ⟨⟨_, Heap.get?_push_size _ rfl, rfl, rfl⟩, ?_⟩, fun b hb => ?_, (fun _ _ => intItems_at), fun h' tk t' hk => ?_⟩
  · obtain ⟨o, e1, e2⟩ := hl
    exact ⟨o, Heap.get?_push_of_some _ e1, e2⟩
  · rw [Heap.size_push]
    rcases List.mem_cons.mp hb with rfl | hb
    · exact Nat.lt_succ_self _
    · rw [List.mem_singleton.mp hb]
      exact Nat.lt_succ_of_lt hlt
  · have := h h' tk t' fun b o e => hk b o (fun hm => by
      rw [List.mem_singleton] at hm
      exact absurd (hm ▸ Heap.lt_size e) (Nat.lt_irrefl _)) (Heap.get?_push_of_some _ e)
    rw [preSum_eq, List.take_of_length_le (by simp [intItems]), hn]
    exact this
theorem cr_sumD (hc : X.calm = true) (hK : X.K = G.K) : CallR X (.builtin "sum") (bifR G W .sum) := by
  intro pins s σ H vs us Q I r ⟨F, ds, S, rd, h⟩
  simp only [bifD] at h
  split at h
  · obtain ⟨v, rfl, h1⟩ := rd.one
    split at h
    · rename_i ns e
      obtain ⟨a, ws, rfl, h2, r1⟩ := h1.lst S
      have z := r1.ints e
      subst z
      exact cr_sum hc pins s σ H _ us Q I r ⟨a, ns, rfl, .inl (.inl h2), PostV.int S h⟩
    · exact False.elim h
  · obtain ⟨v, rfl, h1⟩ := rd.one
    split at h
    · rename_i ns e
      obtain ⟨a, ws, rfl, h2, _, r1⟩ := h1.tup S
      have z := r1.ints e
      subst z
      obtain ⟨its, rv, hl, _⟩ := I.tuple (by rw [hK]; exact h2)
      rw [Vals.ref1 r]
      exact sum_tup (I.ok.hd hc) hl rv.ints fun h' tk t' hk => ⟨.int _, H, I.kept hk, ⟨_, rfl⟩, PostV.int S h⟩
    · exact False.elim h
  · exact False.elim h
theorem cr_allD (hc : X.calm = true) : CallR X (.builtin "all") (bifR G W .all) := by
  intro pins s σ H vs us Q I r ⟨F, ds, S, rd, h⟩
  simp only [bifD] at h
  split at h
  · obtain ⟨v, rfl, h1⟩ := rd.one
    split at h
    · rename_i ns e
      obtain ⟨a, ws, rfl, h2, r1⟩ := h1.lst S
      have z := r1.bools e
      subst z
      exact cr_all hc pins s σ H _ us Q I r ⟨a, ns, rfl, .inl (.inl h2), PostV.bl S h⟩
    · exact False.elim h
  · exact False.elim h
theorem cr_anyD (hc : X.calm = true) : CallR X (.builtin "any") (bifR G W .any) := by
  intro pins s σ H vs us Q I r ⟨F, ds, S, rd, h⟩
  simp only [bifD] at h
  split at h
  · obtain ⟨v, rfl, h1⟩ := rd.one
    split at h
    · rename_i ns e
      obtain ⟨a, ws, rfl, h2, r1⟩ := h1.lst S
      have z := r1.bools e
      subst z
      exact cr_any hc pins s σ H _ us Q I r ⟨a, ns, rfl, .inl (.inl h2), PostV.bl S h⟩
    · exact False.elim h
  · exact False.elim h
end
end PV
set_option Elab.async false
set_option linter.all false
set_option maxRecDepth 100000
namespace PV
open PySem PySem.Spec PyProof.Rows L2
theorem PE.imp {X : Cx} {e : Expr} {t t' : TE} (h : PE X e t) (k : ∀ σ H Q, t' σ H Q → t σ H Q) : PE X e t' := ⟨fun pins s σ H Q I q => h.run pins s σ H Q I (k σ H Q q)⟩
theorem PT.imp {X : Cx} {e : Expr} {t t' : TT} (h : PT X e t) (k : ∀ σ H Q, t' σ H Q → t σ H Q) : PT X e t' := ⟨fun pins s σ H Q I q => h.run pins s σ H Q I (k σ H Q q)⟩
theorem PW.imp {X : Cx} {e : Expr} {t t' : TT} (h : PW X e t) (k : ∀ σ H Q, t' σ H Q → t σ H Q) : PW X e t' := ⟨fun wh pins s σ H Q I q => h.run wh pins s σ H Q I (k σ H Q q)⟩
theorem PA.imp {X : Cx} {e : List Expr} {t t' : TA} (h : PA X e t) (k : ∀ σ H Q, t' σ H Q → t σ H Q) : PA X e t' := ⟨fun pos pins s σ H Q I q => h.run pos pins s σ H Q I (k σ H Q q)⟩
theorem PO.imp {X : Cx} {e : Option Expr} {t t' : TO} (h : PO X e t) (k : ∀ σ H Q, t' σ H Q → t σ H Q) : PO X e t' := ⟨fun pins s σ H Q I q => h.run pins s σ H Q I (k σ H Q q)⟩
/-- tests -/
def PostT (G : Gb) (W : XK) (c : Cf) (Q : Bool → Hp → Prop) : R (Bool × En) → Prop
  | .ok (b, e') => ∀ F' H', Step G c ⟨F', c.σ, H', e'⟩ → Sim G ⟨F', c.σ, H', e'⟩ → Q b H'
  | .exc x => ∀ cls d H', (∀ b o, c.H b = some o → ¬ c.W b → H' b = some o) → XAt G x cls d H' → W cls d H'
  | .stuck => False
def tT (G : Gb) (W : XK) (m : En → R (Bool × En)) : TT := fun σ H Q => ∃ F e, Sim G ⟨F, σ, H, e⟩ ∧ PostT G W ⟨F, σ, H, e⟩ Q (m e)
/-- values of an argument list: they go away -/
def PostA (G : Gb) (W : XK) (c : Cf) (Q : List V → Hp → Prop) : R (List D × En) → Prop
  | .ok (ds, e') => ∀ vs F' H', Step G c ⟨F', c.σ, H', e'⟩ → Sim G ⟨F', c.σ, H', e'⟩ → Reps G F' ds vs → Q vs H'
  | .exc x => ∀ cls d H', (∀ b o, c.H b = some o → ¬ c.W b → H' b = some o) → XAt G x cls d H' → W cls d H'
  | .stuck => False
def tA (G : Gb) (W : XK) (m : En → R (List D × En)) : TA := fun σ H Q => ∃ F e, Sim G ⟨F, σ, H, e⟩ ∧ PostA G W ⟨F, σ, H, e⟩ Q (m e)
/-- .. that are looked at -/
def VRels (G : Gb) (H0 : Hp) (c : Cf) : List V → List Vl → Prop
  | vs, [] => vs = []
  | vs, l :: ls => ∃ v r, vs = v :: r ∧ VRel G H0 c v (hold l) ∧ hold l = l ∧ VRels G H0 c r ls
def PostP (G : Gb) (W : XK) (c : Cf) (Q : List V → Hp → Prop) : R (List Vl × En) → Prop
  | .ok (ls, e') => ∀ vs F' H', Step G c ⟨F', c.σ, H', e'⟩ → Sim G ⟨F', c.σ, H', e'⟩ → VRels G c.H ⟨F', c.σ, H', e'⟩ vs ls → Q vs H'
  | .exc x => ∀ cls d H', (∀ b o, c.H b = some o → ¬ c.W b → H' b = some o) → XAt G x cls d H' → W cls d H'
  | .stuck => False
def tP (G : Gb) (W : XK) (m : En → R (List Vl × En)) : TA := fun σ H Q => ∃ F e, Sim G ⟨F, σ, H, e⟩ ∧ PostP G W ⟨F, σ, H, e⟩ Q (m e)

section
variable {G : Gb} {W : XK} {X : Cx} {c c1 : Cf} {F F' H H' : Hp}
/-! ### going on -/
theorem PostE.mk {Q : VK} {α : Type} {r : R (α × En)} {Post : R (α × En) → Prop} (m : R (Vl × En)) (k : Vl → En → R (α × En)) (hx : ∀ x, Post (.exc x) → ∀ cls d H', (∀ b o, c.H b = some o → ¬ c.W b → H' b = some o) → XAt G x cls d H' → W cls d H') (hs : ¬ Post .stuck)
    (h : Post (bnd m k)) (hk : ∀ vl e' v F' H', Step G c ⟨F', c.σ, H', e'⟩ → Sim G ⟨F', c.σ, H', e'⟩ → VRel G c.H ⟨F', c.σ, H', e'⟩ v vl → Post (k vl e') → Q v H') : PostE G W c Q m := by
  cases m with
  | ok p =>
    obtain ⟨vl, e'⟩ := p
    intro v F' H' st S r
    exact hk vl e' v F' H' st S r h
  | exc x => exact hx x h
  | stuck => exact (hs h).elim
theorem PostT.next {Q : Bool → Hp → Prop} {r : R (Bool × En)} (h : PostT G W c Q r) (s : Step G c c1) (e : c1.σ = c.σ) : PostT G W c1 Q r := by
  cases r with
  | ok p =>
    obtain ⟨vl, e'⟩ := p
    intro F' H' st S
    rw [e] at st S
    exact h F' H' (s.trans st) S
  | exc x =>
    intro cls d H' fr xa
    exact h cls d H' (fun b o hb hw => fr b o (s.frame b o hb hw) fun w => (s.w b w).elim hw fun z => by rw [hb] at z; cases z) xa
  | stuck => exact h
theorem PostA.next {Q : List V → Hp → Prop} {r : R (List D × En)} (h : PostA G W c Q r) (s : Step G c c1) (e : c1.σ = c.σ) : PostA G W c1 Q r := by
  cases r with
  | ok p =>
    obtain ⟨vl, e'⟩ := p
    intro vs F' H' st S
    rw [e] at st S
    exact h vs F' H' (s.trans st) S
  | exc x =>
    intro cls d H' fr xa
    exact h cls d H' (fun b o hb hw => fr b o (s.frame b o hb hw) fun w => (s.w b w).elim hw fun z => by rw [hb] at z; cases z) xa
  | stuck => exact h
theorem VRels.imp {H0 H1 : Hp} {vs : List V} (k : ∀ a, H1 a = none → H0 a = none) : ∀ {vs : List V} {ls : List Vl}, VRels G H1 c vs ls → VRels G H0 c vs ls
  | vs, [], h => h
  | vs, l :: ls, h => by
    obtain ⟨v, r, e, h1, h2, h3⟩ := h
    exact ⟨v, r, e, h1.imp k, h2, VRels.imp (vs := vs) k h3⟩
theorem VRels.mono {H0 H1 : Hp} {e e' : En} {σ : Sg} (sm : Same F F') : ∀ {vs : List V} {ls : List Vl}, VRels G H0 ⟨F, σ, H, e⟩ vs ls → VRels G H1 ⟨F', σ, H', e'⟩ vs ls
  | vs, [], h => h
  | vs, l :: ls, h => by
    obtain ⟨v, r, e, h1, h2, h3⟩ := h
    exact ⟨v, r, e, hold_mono sm h1, h2, VRels.mono sm h3⟩
theorem PostP.next {Q : List V → Hp → Prop} {r : R (List Vl × En)} (h : PostP G W c Q r) (s : Step G c c1) (e : c1.σ = c.σ) : PostP G W c1 Q r := by
  cases r with
  | ok p =>
    obtain ⟨vl, e'⟩ := p
    intro vs F' H' st S z
    rw [e] at st S z
    exact h vs F' H' (s.trans st) S (VRels.imp (vs := vs) s.back z)
  | exc x =>
    intro cls d H' fr xa
    exact h cls d H' (fun b o hb hw => fr b o (s.frame b o hb hw) fun w => (s.w b w).elim hw fun z => by rw [hb] at z; cases z) xa
  | stuck => exact h
/-! ### names, constants -/
theorem gE_con {e : Expr} {d : D} {v : V} (h : PE X e (tC v)) (r : ∀ F, Rep G F d v) : PE X e (tE G W fun σ => .ok (.sh d, σ)) :=
  PE.imp h fun σ H Q ⟨F, e, S, q⟩ => q v F H Step.rfl' S (r F)
theorem gE_var {x : Str} {i : Nat} {pos : Pos} (hN : X.N[i]? = some x) (hv : Vis X.env.scope x) (hd : (x == ("__debug__" : Str)) = false) (hcd : (x == ("__classdict__" : Str)) = false) :
    PE X (.Name x pos) (tE G W fun σ => (getv i σ).map fun v => (v, σ)) := by
  refine PE.imp (pe_var (i := i) hN hv hd hcd) fun σ H Q ⟨F, e, S, q⟩ => ?_
  unfold getv at q
  dsimp only at q
  cases hx : e[i]? with
  | none => rw [hx] at q; exact q.elim
  | some x =>
    have k := S.cell i x hx
    rw [hx] at q
    cases x with
    | un => exact q.elim
    | bld c ds => exact q.elim
    | sh d =>
      obtain ⟨v, q1, q2⟩ := k
      exact ⟨v, q1, q v F H Step.rfl' S q2⟩
    | ow ds =>
      obtain ⟨a, q1, q2⟩ := k
      exact ⟨_, q1, q _ F H Step.rfl' S q1⟩
    | lk ds =>
      obtain ⟨a, q1, q2⟩ := k
      exact ⟨_, q1, q _ F H Step.rfl' S q1⟩
    | io ds =>
      obtain ⟨a, q1, q2⟩ := k
      exact ⟨_, q1, q _ F H Step.rfl' S q1⟩
/-! ### operators -/
/-- two operands, both looked at when both are there -/
theorem two {ma mb : En → R (Vl × En)} {α : Type} {k : D → D → En → R (α × En)} {Post : Cf → R (α × En) → Prop} {σ : Sg} {e : En} {R : V → V → Hp → Prop}
    (hx : ∀ c x, Post c (.exc x) → ∀ cls d H', (∀ b o, c.H b = some o → ¬ c.W b → H' b = some o) → XAt G x cls d H' → W cls d H') (hs : ∀ c, ¬ Post c .stuck)
    (hn : ∀ {c c1 : Cf} {r}, Post c r → Step G c c1 → c1.σ = c.σ → Post c1 r)
    (S : Sim G ⟨F, σ, H, e⟩) (h : Post ⟨F, σ, H, e⟩ (bnd (ma e) fun va σ => bnd (mb σ) fun vb σ => bnd (pk (hold va) σ) fun x σ => bnd (pk (hold vb) σ) fun y σ => k x y σ))
    (hk : ∀ F' H' e' x y v u, Step G ⟨F, σ, H, e⟩ ⟨F', σ, H', e'⟩ → Sim G ⟨F', σ, H', e'⟩ → Rd2 G F' H' x v → Rd2 G F' H' y u → Post ⟨F', σ, H', e'⟩ (k x y e') → R v u H') :
    tE G W ma σ H (fun v H1 => tE G W mb σ H1 (fun u H2 => R v u H2)) := by
  refine ⟨F, e, S, PostE.mk (r := .stuck) (Post := Post _) _ _ (hx _) (hs _) h fun va e1 v F1 H1 st1 S1 r1 h1 => ?_⟩
  obtain ⟨F1', st1', S1', r1'⟩ := hold_ok st1 S1 r1
  have h1' := hn h1 st1' rfl
  refine ⟨F1', e1, S1', PostE.mk (r := .stuck) (Post := Post _) _ _ (hx _) (hs _) h1' fun vb e2 u F2 H2 st2 S2 r2 h2 => ?_⟩
  obtain ⟨F2', st2', S2', r2'⟩ := hold_ok st2 S2 r2
  have h2' := hn h2 st2' rfl
  obtain ⟨x, rx, h3⟩ := pk_ok (Post := Post _) (hs _) S2' (hold_mono (H1 := H1) st2'.f r1') h2'
  obtain ⟨y, ry, h4⟩ := pk_ok (Post := Post _) (hs _) S2' r2' h3
  exact hk F2' H2 e2 x y v u (st1'.trans st2') S2' rx ry h4
theorem PostE.hx {Q : VK} : ∀ (c : Cf) x, PostE G W c Q (.exc x) → ∀ cls d H', (∀ b o, c.H b = some o → ¬ c.W b → H' b = some o) → XAt G x cls d H' → W cls d H' := fun _ _ h => h
theorem PostT.hx {Q : Bool → Hp → Prop} : ∀ (c : Cf) x, PostT G W c Q (.exc x) → ∀ cls d H', (∀ b o, c.H b = some o → ¬ c.W b → H' b = some o) → XAt G x cls d H' → W cls d H' := fun _ _ h => h
theorem gE_bin {a b : Expr} {op : Operator} {pos : Pos} {ma mb : En → R (Vl × En)} {m : D → D → R Vr} (ho : OpR X (binaryOp op) (r2D G W m)) (ha : PE X a (tE G W ma)) (hb : PE X b (tE G W mb)) :
    PE X (.BinOp a op b pos) (tE G W fun σ => bnd (ma σ) fun va σ => bnd (mb σ) fun vb σ => bnd (pk (hold va) σ) fun x σ => bnd (pk (hold vb) σ) fun y σ => lift ((m x y).map vr) σ) := by
  refine PE.imp (pe_op ho ha hb) fun σ H Q ⟨F, e, S, h⟩ => ?_
  exact two (Post := fun c r => PostE G W c Q r) PostE.hx (fun _ z => z) (fun h s e => PostE.next h s e) S h fun F' H' e' x y v u st S' rx ry h' => ⟨F', x, y, S'.sub, rx, ry, PostE.lift S' h'⟩
theorem lift_blv {m : R Bool} {e : En} : lift (m.map fun b => Vl.sh (.bl b)) e = PV.lift (R.map vr (m.map fun b => Vr.sh (.bl b))) e := by
  cases m <;> rfl
theorem cmpI {op : CmpOp} {ma mb : En → R (Vl × En)} {m : D → D → R Bool} {σ : Sg} {Q : VK}
    (h : tE G W (fun σ => bnd (ma σ) fun va σ => bnd (mb σ) fun vb σ => bnd (pk (hold va) σ) fun x σ => bnd (pk (hold vb) σ) fun y σ => lift ((m x y).map fun b => Vl.sh (.bl b)) σ) σ H Q) :
    tOp (r2D G W (blR m)) (tE G W ma) (tE G W mb) σ H Q := by
  obtain ⟨F, e, S, h⟩ := h
  exact two (Post := fun c r => PostE G W c Q r) PostE.hx (fun _ z => z) (fun h s e => PostE.next h s e) S h fun F' H' e' x y v u st S' rx ry h' => ⟨F', x, y, S'.sub, rx, ry, PostE.lift S' (by rw [lift_blv] at h'; exact h')⟩
theorem gE_cmp {a b : Expr} {op : CmpOp} {pos : Pos} {ma mb : En → R (Vl × En)} {m : D → D → R Bool} (hm : behindInMarks op b = false) (ho : OpR X (compareOp op) (r2D G W (blR m))) (ha : PE X a (tE G W ma)) (hb : PE X b (tE G W mb)) :
    PE X (.Compare a [op] [b] pos) (tE G W fun σ => bnd (ma σ) fun va σ => bnd (mb σ) fun vb σ => bnd (pk (hold va) σ) fun x σ => bnd (pk (hold vb) σ) fun y σ => lift ((m x y).map fun b => Vl.sh (.bl b)) σ) :=
  PE.imp (pe_cmpR ho ha hb hm) fun σ H Q h => cmpI (op := op) h
/-- a test off a value's reading -/
theorem tstI {t : TE} {m : En → R (Vl × En)} {σ : Sg} {Q : Bool → Hp → Prop} (hi : ∀ Q, tE G W m σ H Q → t σ H Q) (h : tT G W (fun σ => bnd (m σ) fun v σ => toB v σ) σ H Q) : t σ H fun x H' => ∃ k, x = .bl k ∧ Q k H' := by
  refine hi _ ?_
  obtain ⟨F, e, S, h⟩ := h
  refine ⟨F, e, S, PostE.mk (r := .stuck) (Post := PostT G W _ Q) _ _ (PostT.hx _) (fun z => z) h fun vl e1 v F1 H1 st1 S1 r1 h1 => ?_⟩
  cases vl with
  | sh d =>
    cases d with
    | bl b =>
      have r1 : Rep G F1 (.bl b) v := r1
      simp only [Rep] at r1
      exact ⟨b, r1, h1 F1 H1 st1 S1⟩
    | _ => exact False.elim h1
  | ow ds => exact False.elim h1
  | sl i => exact False.elim h1
theorem gT_cmp {a b : Expr} {op : CmpOp} {pos : Pos} {ma mb : En → R (Vl × En)} {m : D → D → R Bool} (hm : behindInMarks op b = false) (ho : OpR X (compareOp op) (r2D G W (blR m))) (ha : PE X a (tE G W ma)) (hb : PE X b (tE G W mb)) :
    PT X (.Compare a [op] [b] pos) (tT G W fun σ => bnd (bnd (ma σ) fun va σ => bnd (mb σ) fun vb σ => bnd (pk (hold va) σ) fun x σ => bnd (pk (hold vb) σ) fun y σ => lift ((m x y).map fun b => Vl.sh (.bl b)) σ) fun v σ => toB v σ) :=
  PT.imp (pt_cmpR ho ha hb hm) fun σ H Q h => tstI (t := tOp (r2D G W (blR m)) (tE G W ma) (tE G W mb)) (fun Q h => cmpI (op := op) h) h
theorem gT_val {e : Expr} {m : En → R (Vl × En)} (h : PE X e (tE G W m)) (he : ∀ whole, isTrue e X.env whole = (do let v ← whole; standAt e.pos; holding [v] (truthy v))) : PT X e (tT G W fun σ => bnd (m σ) fun v σ => toB v σ) :=
  PT.imp (pt_val h he) fun σ H Q h => tstI (t := tE G W m) (fun Q h => h) h
end
end PV
set_option Elab.async false
set_option linter.all false
set_option maxRecDepth 100000
namespace PV
open PySem PySem.Spec PyProof.Rows L2
section
variable {G : Gb} {W : XK} {X : Cx} {F F' H H' : Hp}
/-- one operand, looked at -/
theorem oneI {ma : En → R (Vl × En)} {α : Type} {k : D → En → R (α × En)} {Post : Cf → R (α × En) → Prop} {σ : Sg} {e : En} {R : V → Hp → Prop}
    (hx : ∀ c x, Post c (.exc x) → ∀ cls d H', (∀ b o, c.H b = some o → ¬ c.W b → H' b = some o) → XAt G x cls d H' → W cls d H') (hs : ∀ c, ¬ Post c .stuck)
    (hn : ∀ {c c1 : Cf} {r}, Post c r → Step G c c1 → c1.σ = c.σ → Post c1 r)
    (S : Sim G ⟨F, σ, H, e⟩) (h : Post ⟨F, σ, H, e⟩ (bnd (ma e) fun va σ => bnd (pk (hold va) σ) fun x σ => k x σ))
    (hk : ∀ F' H' e' x v, Step G ⟨F, σ, H, e⟩ ⟨F', σ, H', e'⟩ → Sim G ⟨F', σ, H', e'⟩ → Rd2 G F' H' x v → Post ⟨F', σ, H', e'⟩ (k x e') → R v H') :
    tE G W ma σ H R := by
  refine ⟨F, e, S, PostE.mk (r := .stuck) (Post := Post _) _ _ (hx _) (hs _) h fun va e1 v F1 H1 st1 S1 r1 h1 => ?_⟩
  obtain ⟨F1', st1', S1', r1'⟩ := hold_ok st1 S1 r1
  have h1' := hn h1 st1' rfl
  obtain ⟨x, rx, h3⟩ := pk_ok (Post := Post _) (hs _) S1' r1' h1'
  exact hk F1' H1 e1 x v st1' S1' rx h3
theorem pk_hold {α : Type} {v : Vl} {σ : En} {k : D → En → R (α × En)} : bnd (pk (hold v) σ) k = bnd (pk v σ) k := by
  cases v <;> rfl
theorem gE_neg {a : Expr} {pos : Pos} {ma : En → R (Vl × En)} {m : D → R D} (ho : UnR X (unaryOp .USub) (fun x H Q => ∃ F a, Same F H ∧ Rd2 G F H a x ∧ PostV G W F H Q ((m a).map Vr.sh))) (ha : PE X a (tE G W ma)) :
    PE X (.UnaryOp .USub a pos) (tE G W fun σ => bnd (ma σ) fun va σ => bnd (pk va σ) fun x σ => lift ((m x).map Vl.sh) σ) := by
  refine PE.imp (pe_un ho ha) fun σ H Q ⟨F, e, S, h⟩ => ?_
  refine oneI (Post := fun c r => PostE G W c Q r) PostE.hx (fun _ z => z) (fun h s e => PostE.next h s e) S (by simp only [pk_hold]; exact h) fun F' H' e' x v st S' rx h' => ⟨F', x, S'.sub, rx, PostE.lift S' (by rw [lift_sh] at h'; exact h')⟩
/-- a value that must be a truth value -/
theorem blI {ma : En → R (Vl × En)} {α : Type} {k : Bool → En → R (α × En)} {Post : Cf → R (α × En) → Prop} {σ : Sg} {e : En} {R : V → Hp → Prop}
    (hx : ∀ c x, Post c (.exc x) → ∀ cls d H', (∀ b o, c.H b = some o → ¬ c.W b → H' b = some o) → XAt G x cls d H' → W cls d H') (hs : ∀ c, ¬ Post c .stuck)
    (hn : ∀ {c c1 : Cf} {r}, Post c r → Step G c c1 → c1.σ = c.σ → Post c1 r)
    (S : Sim G ⟨F, σ, H, e⟩) (h : Post ⟨F, σ, H, e⟩ (bnd (ma e) fun va σ => bnd (toB va σ) fun b σ => k b σ))
    (hk : ∀ F' H' e' b, Step G ⟨F, σ, H, e⟩ ⟨F', σ, H', e'⟩ → Sim G ⟨F', σ, H', e'⟩ → Post ⟨F', σ, H', e'⟩ (k b e') → R (.bl b) H') :
    tE G W ma σ H R := by
  refine ⟨F, e, S, PostE.mk (r := .stuck) (Post := Post _) _ _ (hx _) (hs _) h fun va e1 v F1 H1 st1 S1 r1 h1 => ?_⟩
  cases va with
  | sh d =>
    cases d with
    | bl b =>
      have r1 : Rep G F1 (.bl b) v := r1
      simp only [Rep] at r1
      subst r1
      exact hk F1 H1 e1 b st1 S1 (hn h1 st1 rfl)
    | _ => exact (hs _ h1).elim
  | ow ds => exact (hs _ h1).elim
  | sl i => exact (hs _ h1).elim
/-- .. an int -/
theorem intI {ma : En → R (Vl × En)} {α : Type} {k : Option Int → En → R (α × En)} {Post : Cf → R (α × En) → Prop} {σ : Sg} {e : En} {R : V → Hp → Prop}
    (hx : ∀ c x, Post c (.exc x) → ∀ cls d H', (∀ b o, c.H b = some o → ¬ c.W b → H' b = some o) → XAt G x cls d H' → W cls d H') (hs : ∀ c, ¬ Post c .stuck)
    (hn : ∀ {c c1 : Cf} {r}, Post c r → Step G c c1 → c1.σ = c.σ → Post c1 r)
    (S : Sim G ⟨F, σ, H, e⟩) (h : Post ⟨F, σ, H, e⟩ (bnd (ma e) fun va σ => bnd (toI va σ) fun b σ => k b σ))
    (hk : ∀ F' H' e' i, Step G ⟨F, σ, H, e⟩ ⟨F', σ, H', e'⟩ → Sim G ⟨F', σ, H', e'⟩ → Post ⟨F', σ, H', e'⟩ (k (some i) e') → R (.int i) H') :
    tE G W ma σ H R := by
  refine ⟨F, e, S, PostE.mk (r := .stuck) (Post := Post _) _ _ (hx _) (hs _) h fun va e1 v F1 H1 st1 S1 r1 h1 => ?_⟩
  cases va with
  | sh d =>
    cases d with
    | int b =>
      have r1 : Rep G F1 (.int b) v := r1
      simp only [Rep] at r1
      subst r1
      exact hk F1 H1 e1 b st1 S1 (hn h1 st1 rfl)
    | _ => exact (hs _ h1).elim
  | ow ds => exact (hs _ h1).elim
  | sl i => exact (hs _ h1).elim
theorem PostE.bl {c : Cf} {b : Bool} {Q : VK} (S : Sim G c) (h : PostE G W c Q (.ok (.sh (.bl b), c.e))) : Q (.bl b) c.H := h.sh S (by simp only [Rep])
theorem gE_not {a : Expr} {pos : Pos} {ma : En → R (Vl × En)} (ha : PE X a (tE G W ma)) :
    PE X (.UnaryOp .Not a pos) (tE G W fun σ => bnd (ma σ) fun va σ => bnd (toB va σ) fun b σ => .ok (.sh (.bl (!b)), σ)) := by
  refine PE.imp (pe_not ha) fun σ H Q ⟨F, e, S, h⟩ => ?_
  exact blI (Post := fun c r => PostE G W c Q r) PostE.hx (fun _ z => z) (fun h s e => PostE.next h s e) S h fun F' H' e' b st S' h' => ⟨b, rfl, PostE.bl S' h'⟩
theorem PostT.now {c : Cf} {b : Bool} {Q : Bool → Hp → Prop} (S : Sim G c) (h : PostT G W c Q (.ok (b, c.e))) : Q b c.H := h c.F c.H Step.rfl' S
/-- tests one after another -/
theorem PostT.bind {c : Cf} {m : R (Bool × En)} {α : Type} {k : Bool → En → R (α × En)} {Post : R (α × En) → Prop} {Q' : Bool → Hp → Prop} (hx : ∀ x, Post (.exc x) → ∀ cls d H', (∀ b o, c.H b = some o → ¬ c.W b → H' b = some o) → XAt G x cls d H' → W cls d H') (hs : ¬ Post .stuck) (h : Post (bnd m k))
    (hk : ∀ b e' F' H', Step G c ⟨F', c.σ, H', e'⟩ → Sim G ⟨F', c.σ, H', e'⟩ → Post (k b e') → Q' b H') : PostT G W c Q' m := by
  cases m with
  | ok p =>
    obtain ⟨b, e'⟩ := p
    intro F' H' st S
    exact hk b e' F' H' st S h
  | exc x => exact hx x h
  | stuck => exact (hs h).elim
theorem gT_not {a : Expr} {pos : Pos} {ma : En → R (Bool × En)} (ha : PT X a (tT G W ma)) : PT X (.UnaryOp .Not a pos) (tT G W fun σ => bnd (ma σ) fun b σ => .ok (!b, σ)) := by
  refine PT.imp (pt_not ha) fun σ H Q ⟨F, e, S, h⟩ => ?_
  exact ⟨F, e, S, PostT.bind (Post := PostT G W _ Q) (PostT.hx _) (fun z => z) h fun b e' F' H' st S' h' => h' F' H' st S'⟩
theorem gE_isN {a : Expr} {pos j pos'} {ma : En → R (Vl × En)} (ha : PE X a (tE G W ma)) :
    PE X (.Compare a [.Is] [.Constant .none j pos'] pos) (tE G W fun σ => bnd (ma σ) fun va σ => bnd (pk va σ) fun x σ => .ok (.sh (.bl (isNon x)), σ)) := by
  refine PE.imp (pe_cmp (pc_isN ha) (nobehind _ (by decide) (by decide))) fun σ H Q ⟨F, e, S, h⟩ => ?_
  refine oneI (Post := fun c r => PostE G W c Q r) PostE.hx (fun _ z => z) (fun h s e => PostE.next h s e) S (by simp only [pk_hold]; exact h) fun F' H' e' x v st S' rx h' => ?_
  have e : decide (v = .non) = (isNon x) := by
    rcases rx with r | ⟨ds, a, rfl, rfl, _⟩
    · cases x <;> simp only [Rep] at r
      all_goals first
        | (subst r; rfl)
        | (obtain ⟨_, _, rfl, _⟩ := r; rfl)
        | (obtain ⟨_, _, _, rfl, _⟩ := r; rfl)
    · rfl
  rw [e]
  exact PostE.bl S' h'
theorem gE_notN {a : Expr} {pos j pos'} {ma : En → R (Vl × En)} (ha : PE X a (tE G W ma)) :
    PE X (.Compare a [.IsNot] [.Constant .none j pos'] pos) (tE G W fun σ => bnd (ma σ) fun va σ => bnd (pk va σ) fun x σ => .ok (.sh (.bl (!isNon x)), σ)) := by
  refine PE.imp (pe_cmp (pc_notN ha) (nobehind _ (by decide) (by decide))) fun σ H Q ⟨F, e, S, h⟩ => ?_
  refine oneI (Post := fun c r => PostE G W c Q r) PostE.hx (fun _ z => z) (fun h s e => PostE.next h s e) S (by simp only [pk_hold]; exact h) fun F' H' e' x v st S' rx h' => ?_
  have e : (!decide (v = .non)) = (!isNon x) := by
    rcases rx with r | ⟨ds, a, rfl, rfl, _⟩
    · cases x <;> simp only [Rep] at r
      all_goals first
        | (subst r; rfl)
        | (obtain ⟨_, _, rfl, _⟩ := r; rfl)
        | (obtain ⟨_, _, _, rfl, _⟩ := r; rfl)
    · rfl
  rw [e]
  exact PostE.bl S' h'
theorem gE_andV {a b : Expr} {rest : List Expr} {pos : Pos} {ma mb : En → R (Vl × En)} (ha : PE X a (tE G W ma)) (hb : PE X (.BoolOp .And (b :: rest) pos) (tE G W mb)) :
    PE X (.BoolOp .And (a :: b :: rest) pos) (tE G W fun σ => bnd (ma σ) fun va σ => bnd (toB va σ) fun r σ => match r with
      | true => mb σ
      | false => .ok (.sh (.bl false), σ)) := by
  refine PE.imp (pe_and ha hb) fun σ H Q ⟨F, e, S, h⟩ => ?_
  refine blI (Post := fun c r => PostE G W c Q r) PostE.hx (fun _ z => z) (fun h s e => PostE.next h s e) S h fun F' H' e' r st S' h' => ⟨r, rfl, ?_⟩
  cases r with
  | true => exact ⟨F', e', S', h'⟩
  | false => exact PostE.bl S' h'
theorem gE_orV {a b : Expr} {rest : List Expr} {pos : Pos} {ma mb : En → R (Vl × En)} (ha : PE X a (tE G W ma)) (hb : PE X (.BoolOp .Or (b :: rest) pos) (tE G W mb)) :
    PE X (.BoolOp .Or (a :: b :: rest) pos) (tE G W fun σ => bnd (ma σ) fun va σ => bnd (toB va σ) fun r σ => match r with
      | true => .ok (.sh (.bl true), σ)
      | false => mb σ) := by
  refine PE.imp (pe_or ha hb) fun σ H Q ⟨F, e, S, h⟩ => ?_
  refine blI (Post := fun c r => PostE G W c Q r) PostE.hx (fun _ z => z) (fun h s e => PostE.next h s e) S h fun F' H' e' r st S' h' => ⟨r, rfl, ?_⟩
  cases r with
  | true => exact PostE.bl S' h'
  | false => exact ⟨F', e', S', h'⟩
theorem gW_and {a b : Expr} {rest : List Expr} {pos : Pos} {ma mb : En → R (Bool × En)} (ha : PT X a (tT G W ma)) (hb : PW X (.BoolOp .And (b :: rest) pos) (tT G W mb)) :
    PW X (.BoolOp .And (a :: b :: rest) pos) (tT G W fun σ => bnd (ma σ) fun r σ => match r with
      | true => mb σ
      | false => .ok (false, σ)) := by
  refine PW.imp (pw_and ha hb) fun σ H Q ⟨F, e, S, h⟩ => ?_
  refine ⟨F, e, S, PostT.bind (Post := PostT G W _ Q) (PostT.hx _) (fun z => z) h fun r e' F' H' st S' h' => ?_⟩
  cases r with
  | true => exact ⟨F', e', S', PostT.next h' st rfl⟩
  | false => exact h' F' H' st S'
theorem gW_or {a b : Expr} {rest : List Expr} {pos : Pos} {ma mb : En → R (Bool × En)} (ha : PT X a (tT G W ma)) (hb : PW X (.BoolOp .Or (b :: rest) pos) (tT G W mb)) :
    PW X (.BoolOp .Or (a :: b :: rest) pos) (tT G W fun σ => bnd (ma σ) fun r σ => match r with
      | true => .ok (true, σ)
      | false => mb σ) := by
  refine PW.imp (pw_or ha hb) fun σ H Q ⟨F, e, S, h⟩ => ?_
  refine ⟨F, e, S, PostT.bind (Post := PostT G W _ Q) (PostT.hx _) (fun z => z) h fun r e' F' H' st S' h' => ?_⟩
  cases r with
  | true => exact h' F' H' st S'
  | false => exact ⟨F', e', S', PostT.next h' st rfl⟩
theorem gE_ite {c a b : Expr} {pos : Pos} {mc : En → R (Bool × En)} {ma mb : En → R (Vl × En)} (hc : PT X c (tT G W mc)) (ha : PE X a (tE G W ma)) (hb : PE X b (tE G W mb)) :
    PE X (.IfExp c a b pos) (tE G W fun σ => bnd (mc σ) fun r σ => match r with
      | true => ma σ
      | false => mb σ) := by
  refine PE.imp (pe_ifExp hc ha hb) fun σ H Q ⟨F, e, S, h⟩ => ?_
  refine ⟨F, e, S, PostT.bind (Post := PostE G W _ Q) (PostE.hx _) (fun z => z) h fun r e' F' H' st S' h' => ?_⟩
  cases r with
  | true => exact ⟨F', e', S', PostE.next h' st rfl⟩
  | false => exact ⟨F', e', S', PostE.next h' st rfl⟩
/-! ### argument lists -/
theorem PostA.hx {Q : List V → Hp → Prop} : ∀ (c : Cf) x, PostA G W c Q (.exc x) → ∀ cls d H', (∀ b o, c.H b = some o → ¬ c.W b → H' b = some o) → XAt G x cls d H' → W cls d H' := fun _ _ h => h
theorem PostP.hx {Q : List V → Hp → Prop} : ∀ (c : Cf) x, PostP G W c Q (.exc x) → ∀ cls d H', (∀ b o, c.H b = some o → ¬ c.W b → H' b = some o) → XAt G x cls d H' → W cls d H' := fun _ _ h => h
theorem PostA.bind {c : Cf} {m : R (List D × En)} {α : Type} {k : List D → En → R (α × En)} {Post : R (α × En) → Prop} {Q' : List V → Hp → Prop} (hx : ∀ x, Post (.exc x) → ∀ cls d H', (∀ b o, c.H b = some o → ¬ c.W b → H' b = some o) → XAt G x cls d H' → W cls d H') (hs : ¬ Post .stuck) (h : Post (bnd m k))
    (hk : ∀ ds e' vs F' H', Step G c ⟨F', c.σ, H', e'⟩ → Sim G ⟨F', c.σ, H', e'⟩ → Reps G F' ds vs → Post (k ds e') → Q' vs H') : PostA G W c Q' m := by
  cases m with
  | ok p =>
    obtain ⟨b, e'⟩ := p
    intro vs F' H' st S r
    exact hk b e' vs F' H' st S r h
  | exc x => exact hx x h
  | stuck => exact (hs h).elim
theorem PostP.bind {c : Cf} {m : R (List Vl × En)} {α : Type} {k : List Vl → En → R (α × En)} {Post : R (α × En) → Prop} {Q' : List V → Hp → Prop} (hx : ∀ x, Post (.exc x) → ∀ cls d H', (∀ b o, c.H b = some o → ¬ c.W b → H' b = some o) → XAt G x cls d H' → W cls d H') (hs : ¬ Post .stuck) (h : Post (bnd m k))
    (hk : ∀ ds e' vs F' H', Step G c ⟨F', c.σ, H', e'⟩ → Sim G ⟨F', c.σ, H', e'⟩ → VRels G c.H ⟨F', c.σ, H', e'⟩ vs ds → Post (k ds e') → Q' vs H') : PostP G W c Q' m := by
  cases m with
  | ok p =>
    obtain ⟨b, e'⟩ := p
    intro vs F' H' st S r
    exact hk b e' vs F' H' st S r h
  | exc x => exact hx x h
  | stuck => exact (hs h).elim
theorem gA_nil : PA X [] (tA G W fun σ => .ok ([], σ)) := PA.imp pa_nil fun σ H Q ⟨F, e, S, h⟩ => h [] F H Step.rfl' S Reps.nil
theorem gA_cons {e : Expr} {es : List Expr} {m : En → R (Vl × En)} {ms : En → R (List D × En)} (he : PE X e (tE G W m)) (hes : PA X es (tA G W ms)) (hs : starEach (e :: es) X.env = (false, eval e X.env) :: starEach es X.env) :
    PA X (e :: es) (tA G W fun σ => bnd (m σ) fun v σ => bnd (esc v σ) fun d σ => bnd (ms σ) fun ds σ => .ok (d :: ds, σ)) := by
  refine PA.imp (pa_cons he hes hs) fun σ H Q ⟨F, e, S, h⟩ => ?_
  refine ⟨F, e, S, PostE.mk (r := .stuck) (Post := PostA G W _ Q) _ _ (PostA.hx _) (fun z => z) h fun vl e1 v F1 H1 st1 S1 r1 h1 => ?_⟩
  obtain ⟨d, F2, e2, st2, sm2, S2, rp, h2⟩ := esc_ok (Post := PostA G W _ Q) (fun z => z) st1 S1 r1 h1
  refine ⟨F2, e2, S2, PostA.bind (Post := PostA G W _ Q) (PostA.hx _) (fun z => z) (PostA.next h2 st2 rfl) fun ds e3 vs F3 H3 st3 S3 r3 h3 => ?_⟩
  exact h3 (v :: vs) F3 H3 st3 S3 (.cons (Rep.mono st3.f rp) r3)
theorem gP_nil : PA X [] (tP G W fun σ => .ok ([], σ)) := PA.imp pa_nil fun σ H Q ⟨F, e, S, h⟩ => h [] F H Step.rfl' S rfl
theorem hold_hold (v : Vl) : hold (hold v) = hold v := by cases v <;> rfl
theorem gP_cons {e : Expr} {es : List Expr} {m : En → R (Vl × En)} {ms : En → R (List Vl × En)} (he : PE X e (tE G W m)) (hes : PA X es (tP G W ms)) (hs : starEach (e :: es) X.env = (false, eval e X.env) :: starEach es X.env) :
    PA X (e :: es) (tP G W fun σ => bnd (m σ) fun v σ => bnd (ms σ) fun vs σ => .ok (hold v :: vs, σ)) := by
  refine PA.imp (pa_cons he hes hs) fun σ H Q ⟨F, e, S, h⟩ => ?_
  refine ⟨F, e, S, PostE.mk (r := .stuck) (Post := PostP G W _ Q) _ _ (PostP.hx _) (fun z => z) h fun vl e1 v F1 H1 st1 S1 r1 h1 => ?_⟩
  obtain ⟨F2, st2, S2, r2⟩ := hold_ok st1 S1 r1
  refine ⟨F2, e1, S2, PostP.bind (Post := PostP G W _ Q) (PostP.hx _) (fun z => z) (PostP.next h1 st2 rfl) fun ds e3 vs F3 H3 st3 S3 r3 h3 => ?_⟩
  refine h3 (v :: vs) F3 H3 st3 S3 ⟨v, vs, rfl, ?_, hold_hold _, r3⟩
  rw [hold_hold]
  exact hold_mono st3.f r2
/-! ### displays, items -/
theorem gE_tup {es : List Expr} {k : Nat} {pos : Pos} {ms : En → R (List D × En)} (h : PA X es (tA G W ms)) (hl : ∀ σ ds σ', ms σ = .ok (ds, σ') → ds.length ≤ 16000000) : PE X (.Tuple es k pos) (tE G W fun σ => bnd (ms σ) fun ds σ => .ok (.sh (.tup ds), σ)) := by
  refine PE.imp (pe_tup h) fun σ H Q ⟨F, e, S, h⟩ => ?_
  refine ⟨F, e, S, ?_⟩
  cases hm : ms e with
  | ok p =>
    obtain ⟨ds, e1⟩ := p
    simp only [hm] at h
    intro vs F1 H1 st1 S1 r1
    refine ⟨line16 (by rw [r1.length]; exact hl _ _ _ hm), fun p hp => ?_⟩
    have st : StepV F1 H1 (upd F1 p (.tup vs)) (upd H1 p (.tup vs)) := StepV.new1 S1.sub hp
    refine h (.ref p) _ _ (st1.trans st.step) (st.sim S1) ?_
    show Rep G _ (.tup ds) (.ref p)
    simp only [Rep]
    exact ⟨p, vs, rfl, .inl (.inl upd_same), r1.mono st.f⟩
  | exc x => simp only [hm] at h; exact h
  | stuck => simp only [hm] at h; exact h
theorem gE_lst {es : List Expr} {pos : Pos} {ms : En → R (List D × En)} (h : PA X es (tA G W ms)) (hl : ∀ σ ds σ', ms σ = .ok (ds, σ') → ds.length ≤ 16000000) : PE X (.List es pos) (tE G W fun σ => bnd (ms σ) fun ds σ => .ok (.ow ds, σ)) := by
  refine PE.imp (pe_lst h) fun σ H Q ⟨F, e, S, h⟩ => ?_
  refine ⟨F, e, S, ?_⟩
  cases hm : ms e with
  | ok p =>
    obtain ⟨ds, e1⟩ := p
    simp only [hm] at h
    intro vs F1 H1 st1 S1 r1
    refine ⟨line16 (by rw [r1.length]; exact hl _ _ _ hm), fun p hp => ?_⟩
    have st : StepV F1 H1 F1 (upd H1 p (.lst vs)) := StepV.new0 S1.sub hp
    refine h (.ref p) _ _ (st1.trans st.step) (st.sim S1) ⟨p, rfl, ⟨vs, upd_same, S1.sub.free hp, r1⟩, fun w => ?_, st1.back p hp⟩
    have w : Cf.W ⟨F1, σ, H1, e1⟩ p := w
    exact (S1.wh w).1 hp
  | exc x => simp only [hm] at h; exact h
  | stuck => simp only [hm] at h; exact h
theorem gE_ix {a b : Expr} {pos : Pos} {ma mb : En → R (Vl × En)} (hK : X.K = G.K) (hs : PlainIx b) (ha : PE X a (tE G W ma)) (hb : PE X b (tE G W mb)) :
    PE X (.Subscript a b pos) (tE G W fun σ => bnd (ma σ) fun va σ => bnd (mb σ) fun vb σ => bnd (pk (hold va) σ) fun x σ => bnd (pk (hold vb) σ) fun y σ => lift ((ixOf x y).map Vl.sh) σ) := by
  refine PE.imp (pe_ix (ixr (W := W) hK) ha hb hs) fun σ H Q ⟨F, e, S, h⟩ => ?_
  exact two (Post := fun c r => PostE G W c Q r) PostE.hx (fun _ z => z) (fun h s e => PostE.next h s e) S h fun F' H' e' x y v u st S' rx ry h' => ⟨F', x, y, S'.sub, rx, ry, PostE.lift S' (by rw [lift_sh] at h'; exact h')⟩
end
end PV
set_option Elab.async false
set_option linter.all false
set_option maxRecDepth 100000
namespace PV
open PySem PySem.Spec PyProof.Rows L2
/-! ## what a def promises -/
def faW (fa : FArg) (vs : List V) (b : Addr) : Prop := match fa with
  | .no => False
  | _ => ∃ r, vs = .ref b :: r
def FaPre (G : Gb) (fa : FArg) (vs : List V) (F H : Hp) (args : List D) : Prop := match fa with
  | .no => Reps G F args vs
  | .io ds => ∃ a r, vs = .ref a :: r ∧ LstAt G F H ds a ∧ Reps G F args r
  | .bld c => ∃ a r, vs = .ref a :: r ∧ BldAt G F H c [] a ∧ Reps G F args r
def FaPost (G : Gb) (fa : FArg) (vs : List V) (F H : Hp) (xs : List D) : Prop := match fa with
  | .no => True
  | .io _ => ∃ a r, vs = .ref a :: r ∧ LstAt G F H xs a
  | .bld c => ∃ a r, vs = .ref a :: r ∧ BldAt G F H c xs a
def PostF (G : Gb) (fa : FArg) (vs : List V) (F H : Hp) (Q : VK) (E : XK) : R (Vr × List D) → Prop
  | .ok (r, xs) => ∀ v F' H', Same F F' → Same F' H' → (∀ b o, H b = some o → ¬ faW fa vs b → H' b = some o) → (∀ b, F b = none → F' b ≠ none → H b = none) → (∀ b, H b ≠ none → H' b ≠ none) →
      FaPost G fa vs F' H' xs → VrRel G H F' H' v r → Q v H'
  | .exc x => ∀ cls d H', (∀ b o, H b = some o → ¬ faW fa vs b → H' b = some o) → XAt G x cls d H' → E cls d H'
  | .stuck => False
def spD (G : Gb) (cf : CF) (k : Nat) : Sp := fun vs H Q E => ∃ f, G.P.fns[k]? = some f ∧ vs.length = f.ps.length ∧ ∃ F fa args, Same F H ∧ FaPre G fa vs F H args ∧ PostF G fa vs F H Q E (cf k fa args)

structure ClsOk (G : Gb) (mg : Str → Option Value) (c : Nat) (C : ClsI) : Prop where
  gl : mg C.name = some (.ref (G.cls c))
  cl : Cls G.K (G.cls c)
  no : ∀ f ∈ C.flds, NoAttr G.K (G.cls c) f
  mkr : Mk G.K (G.cls c) (G.fn C.init)
  me : ∀ m k, C.meths.lookup m = some k → Meth G.K (G.cls c) m (G.fn k)
  mf : ∀ m k, C.meths.lookup m = some k → m ∉ C.flds
  ha : PySem.W.findIn G.K (.ref (G.cls c)) "__class__" = some (some (.builtin "object.__class__"))
  hn : PySem.W.specialIn G.K (.builtin "object.__class__") "__get__" = some (some (.builtin "getset_descriptor.__get__"))
  htk : PySem.W.takesIn G.K (.builtin "object.__class__") = some true
  hm : PySem.W.mroIn G.K (G.cls c) (.type "object") = some true
  kO : ∀ t ∈ ["int", "bool", "str", "tuple", "list"], PySem.W.kitOne G.K (.ref (G.cls c)) (.type t) = some false
  kT : ∀ t ∈ ["NoneType", "int", "bool", "str", "tuple", "list", "dict"], PySem.W.kitOne G.K (.type t) (.ref (G.cls c)) = some false
  kS : ∀ c' C', G.P.cls[c']? = some C' → PySem.W.kitOne G.K (.ref (G.cls c)) (.ref (G.cls c')) = some (c' == c)
abbrev mroVE : List Value := [.type "ValueError", .type "Exception", .type "BaseException", .type "object"]
structure ExcOk (G : Gb) (mg : Str → Option Value) (c : Nat) (E : ExcI) : Prop where
  gl : mg E.name = some (.ref (G.exc c))
  kp : PySem.W.keepIn G.K (.ref (G.exc c)) = true
  exm : ∀ c' E', G.P.exs[c']? = some E' → PySem.W.exmOne G.K (.ref (G.exc c')) (.ref (G.exc c)) = some (decide (c = c'))
  sub : PySem.W.subIn G.K (.ref (G.exc c)) (.type "BaseException") = some true
  ty : PySem.W.typeIn G.K (.ref (G.exc c)) = some (.type "type")
  own : E.fld = none → PySem.W.excIn G.K (G.exc c) mroVE "ValueError.__new__" = true
  xf : ∀ f, E.fld = some f → G.exf c = f ∧ xfB G.K (G.exc c) = true ∧ PySem.W.findIn G.K (.ref (G.exc c)) f = some none
structure Facts (G : Gb) (cf : CF) (lv : Nat) (prog : Program) (w : World) (mg : Str → Option Value) (base : Heap) : Prop where
  fn : ∀ k f, G.P.fns[k]? = some f → ∃ fd, FnOk prog w G.K mg base (L2.CX prog w) lv (G.fn k) fd f.ps (spD G cf k) ∧ PySem.W.keepIn G.K (.ref (G.fn k)) = true ∧ Binds G.K fd f.ps [] ∧ (f.dv ≠ [] → ∃ ds, Vals (f.dv.map V.int) ds ∧ Binds G.K fd f.ps ds)
  gl : ∀ k f, G.P.fns[k]? = some f → f.top = true → mg f.name = some (.ref (G.fn k))
  cls : ∀ c C, G.P.cls[c]? = some C → ClsOk G mg c C
  exs : ∀ c E, G.P.exs[c]? = some E → ExcOk G mg c E
/-- a place in the code where the evaluator may walk -/
structure Gd (G : Gb) (W : XK) (cf : CF) (lv : Nat) (X : Cx) : Prop where
  kK : X.K = G.K
  calm : X.calm = true
  nd : X.N.Nodup
  room : Room (lv + 8) X.A
  tk : Takes X (fun c d _ H => W c d H)
  fa : Facts G cf lv X.prog X.w X.mg X.base
section
variable {G : Gb} {W : XK} {X : Cx} {cf : CF} {lv : Nat} {F F' H H' : Hp}
theorem Gd.fn (g : Gd G W cf lv X) {k : Nat} {f : FnI} (h : G.P.fns[k]? = some f) : ∃ fd, FnOk X.prog X.w X.K X.mg X.base (L2.CX X.prog X.w) lv (G.fn k) fd f.ps (spD G cf k) ∧ PySem.W.keepIn X.K (.ref (G.fn k)) = true ∧ Binds X.K fd f.ps [] ∧ (f.dv ≠ [] → ∃ ds, Vals (f.dv.map V.int) ds ∧ Binds X.K fd f.ps ds) := by
  have := g.fa.fn k f h
  rw [← g.kK] at this
  exact this
theorem Gd.pass (g : Gd G W cf lv X) : Passes (L2.CX X.prog X.w) X W := passes_call g.tk fun _ _ _ _ h => h
/-- a call's end, of a def that changes nothing that stood -/
theorem PostF.ofE {vs : List V} {σ : Sg} {e : En} {Q : VK} {m : R (Vr × List D)} (S : Sim G ⟨F, σ, H, e⟩) (h : PostE G W ⟨F, σ, H, e⟩ Q (lift (m.map fun p => vr p.1) e)) : PostF G .no vs F H Q W m := by
  cases m with
  | ok p =>
    obtain ⟨r, xs⟩ := p
    intro v F' H' s1 s2 fr nw dm _ hr
    have st : StepV F H F' H' := ⟨s1, s2, fun b o hb => fr b o hb (fun z => z), nw⟩
    refine h v F' H' st.step (st.sim S) ?_
    cases r with
    | sh d => exact hr
    | ow ds =>
      obtain ⟨a, h1, h2, h3⟩ := hr
      refine ⟨a, h1, h2, fun w => ?_, h3⟩
      have w : Cf.W ⟨F, σ, H, e⟩ a := w
      exact (S.wh w).1 h3
  | exc x => exact fun cls d H' s xa => h cls d H' (fun b o hb _ => s b o hb fun z => z) xa
  | stuck => exact h
theorem gE_call {x : Str} {k : Nat} {f : FnI} {p pos : Pos} {e : Expr} {es : List Expr} {ms : En → R (List D × En)} (g : Gd G W cf lv X) (hf : G.P.fns[k]? = some f) (ht : f.top = true) (hx : f.name = x) (hl : (e :: es).length = f.ps.length)
    (hln : ∀ σ ds σ', ms σ = .ok (ds, σ') → ds.length = (e :: es).length) (hg : Gl X x) (ha : PA X (e :: es) (tA G W ms)) (hdb : (x == ("__debug__" : Str)) = false) (he : starEach (e :: es) X.env = (false, eval e X.env) :: starEach es X.env) (hpl : (backTo pos (starEach es X.env)).any (·.1) = false) :
    PE X (.Call (.Name x p) (e :: es) [] pos) (tE G W fun σ => bnd (ms σ) fun ds σ => lift ((cf k .no ds).map fun p => vr p.1) σ) := by
  obtain ⟨fd, hF, hk, hb, _⟩ := g.fn hf
  have hm : X.mg x = some (.ref (G.fn k)) := by rw [← hx]; exact g.fa.gl k f hf ht
  refine PE.imp (pe_call hF (g.room.mono (by omega)) hg hm hk hb .nil g.pass ha hdb he hpl) fun σ H Q ⟨F, e0, S, h⟩ => ?_
  refine ⟨F, e0, S, ?_⟩
  cases hm : ms e0 with
  | ok p =>
    obtain ⟨ds, e1⟩ := p
    simp only [hm] at h
    intro vs F1 H1 st1 S1 r1
    have h1 := PostE.next h st1 rfl
    rw [List.append_nil]
    exact ⟨f, hf, by rw [r1.length, hln _ _ _ hm, hl], F1, .no, ds, S1.sub, r1, PostF.ofE S1 h1⟩
  | exc x => simp only [hm] at h; exact h
  | stuck => simp only [hm] at h; exact h
end
end PV
set_option Elab.async false
set_option linter.all false
set_option maxRecDepth 100000
namespace PV
open PySem PySem.Spec PyProof.Rows L2
section
variable {G : Gb} {W : XK} {X : Cx} {cf : CF} {lv : Nat} {F F' H H' : Hp}
theorem gE_callv {x : Str} {i : Nat} {p pos : Pos} {e : Expr} {es : List Expr} {ms : En → R (List D × En)} (g : Gd G W cf lv X) (hN : X.N[i]? = some x) (hv : Vis X.env.scope x)
    (ha : PA X (e :: es) (tA G W ms)) (hdb : (x == ("__debug__" : Str)) = false) (hcd : (x == ("__classdict__" : Str)) = false) (he : starEach (e :: es) X.env = (false, eval e X.env) :: starEach es X.env) (hpl : (backTo pos (starEach es X.env)).any (·.1) = false) :
    PE X (.Call (.Name x p) (e :: es) [] pos) (tE G W fun σ => match σ[i]? with
      | some (.sh (.fn k)) => (match G.P.fns[k]? with
        | some f => bnd (ms σ) fun ds σ => if ds.length = f.ps.length then lift ((cf k .no ds).map fun p => vr p.1) σ else .stuck
        | none => .stuck)
      | _ => .stuck) := by
  refine ⟨fun pins s σ H Q I ⟨F, e0, S, h⟩ => ?_⟩
  dsimp only at h
  split at h
  · rename_i k hk
    split at h
    · rename_i f hf
      obtain ⟨fd, hF, hkp, hb, _⟩ := g.fn hf
      obtain ⟨v, q1, q2⟩ := S.cell i _ hk
      have q2 : v = .ref (G.fn k) := by simpa only [Rep] using q2
      subst q2
      refine (pe_callL (i := i) (f := G.fn k) hF (g.room.mono (by omega)) hN hv hkp hb .nil g.pass ha hdb hcd he hpl).run pins s σ H Q I ⟨q1, ?_⟩
      refine ⟨F, e0, S, ?_⟩
      cases hm : ms e0 with
      | ok p =>
        obtain ⟨ds, e1⟩ := p
        simp only [hm] at h
        intro vs F1 H1 st1 S1 r1
        rw [bnd_ok] at h
        split at h
        · rename_i hl
          have h1 := PostE.next h st1 rfl
          rw [List.append_nil]
          exact ⟨f, hf, by rw [r1.length, hl], F1, .no, ds, S1.sub, r1, PostF.ofE S1 h1⟩
        · exact h.elim
      | exc x => simp only [hm] at h; exact h
      | stuck => simp only [hm] at h; exact h
    · exact h.elim
  · exact h.elim
/-- the list that a slot holds is changed by a call -/
theorem Sim.ioEnd {σ : Sg} {e : En} {i : Nat} {x x' : Cell} {a : Addr} (S : Sim G ⟨F, σ, H, e⟩) (hx : e[i]? = some x) (hlk : ∀ ds, x ≠ .lk ds) (ho : x.own = true) (ho' : x'.own = true) (htg : x'.tag = x.tag) (hσ : σ[i]? = some (some (.ref a)))
    (s1 : Same F F') (s2 : Same F' H') (fr : ∀ b o, H b = some o → b ≠ a → H' b = some o) (nw : ∀ b, F b = none → F' b ≠ none → H b = none) (dm : ∀ b, H b ≠ none → H' b ≠ none) (hc : CellOk G F' H' σ[i]? x') :
    Step G ⟨F, σ, H, e⟩ ⟨F', σ, H', e.set i x'⟩ ∧ Sim G ⟨F', σ, H', e.set i x'⟩ := by
  have hi : i < e.length := (List.getElem?_eq_some_iff.mp hx).1
  have get : ∀ j, j ≠ i → (e.set i x')[j]? = e[j]? := fun j hj => List.getElem?_set_ne (Ne.symm hj)
  have wa : Cf.W ⟨F, σ, H, e⟩ a := ⟨i, x, hx, ho, hσ⟩
  refine ⟨⟨s1, fun b o hb hw => fr b o hb fun z => hw (by rw [z]; exact wa), fun b h h' => .inl (nw b h h'), dm, fun b hb => ?_, fun j ds v hj hv => ?_, fun j y tg hj ht => ?_⟩, ⟨by simpa using S.len, s2, fun j y hy => ?_, fun j1 j2 y1 y2 b h1 h2 o1 o2 t1 t2 => ?_⟩⟩
  · obtain ⟨j, y, h1, h2, h3⟩ := hb
    left
    by_cases z : j = i
    · subst z
      exact ⟨j, x, hx, ho, h3⟩
    · exact ⟨j, y, by rw [← get j z]; exact h1, h2, h3⟩
  · left
    have z : j ≠ i := fun z => by
      subst z
      have hj : e[j]? = some (.lk ds) := hj
      rw [hx] at hj
      cases hj
      exact hlk _ rfl
    exact ⟨by rw [show (Cf.mk F' σ H' (e.set i x')).e[j]? = (e.set i x')[j]? from rfl, get j z]; exact hj, hv⟩
  · have hj : (e.set i x')[j]? = some y := hj
    by_cases z : j = i
    · subst z
      rw [List.getElem?_set_self hi] at hj
      cases hj
      exact ⟨x, hx, by rw [← htg]; exact ht, rfl⟩
    · rw [get j z] at hj
      exact ⟨y, hj, ht, rfl⟩
  · by_cases z : j = i
    · subst z
      have hy : (e.set j x')[j]? = some y := hy
      rw [List.getElem?_set_self hi] at hy
      cases hy
      exact hc
    · have hy : (e.set i x')[j]? = some y := hy
      rw [get j z] at hy
      have k0 := S.cell j y hy
      have la : ∀ (b : Addr), y.own = true → σ[j]? = some (some (.ref b)) → b ≠ a := fun b hy' hb ee => z (S.inj j i y x a hy hx hy' ho (by rw [← ee]; exact hb) hσ)
      have nf : ∀ b, F b = none → H b ≠ none → F' b = none := fun b q1 q2 => by
        cases q : F' b with
        | none => rfl
        | some o => exact absurd (nw b q1 (by rw [q]; simp)) q2
      cases y with
      | un => trivial
      | sh d =>
        obtain ⟨u, z1, z2⟩ := k0
        exact ⟨u, z1, Rep.mono s1 z2⟩
      | ow es =>
        obtain ⟨b, z1, ws, z2, z3, z4⟩ := k0
        exact ⟨b, z1, ws, fr b _ z2 (la b rfl z1), nf b z3 (by have z2 : H b = _ := z2; rw [z2]; simp), z4.mono s1⟩
      | lk es =>
        obtain ⟨b, z1, ws, z2, z3, z4⟩ := k0
        exact ⟨b, z1, ws, fr b _ z2 (la b rfl z1), nf b z3 (by have z2 : H b = _ := z2; rw [z2]; simp), z4.mono s1⟩
      | io es =>
        obtain ⟨b, z1, ws, z2, z3, z4⟩ := k0
        exact ⟨b, z1, ws, fr b _ z2 (la b rfl z1), nf b z3 (by have z2 : H b = _ := z2; rw [z2]; simp), z4.mono s1⟩
      | bld c es =>
        obtain ⟨b, z1, dx, ws, z2, z3, z4, z5⟩ := k0
        exact ⟨b, z1, dx, ws, fr b _ z2 (la b rfl z1), z3, nf b z4 (by have z2 : H b = _ := z2; rw [z2]; simp), z5.mono s1⟩
  · have own : ∀ (j : Nat) (y : Cell), (e.set i x')[j]? = some y → y.own = true → ∃ y' : Cell, e[j]? = some y' ∧ y'.own = true := fun j y hy hoy => by
      by_cases z : j = i
      · subst z; exact ⟨x, hx, ho⟩
      · rw [get j z] at hy; exact ⟨y, hy, hoy⟩
    obtain ⟨y1', k1, k2⟩ := own j1 y1 h1 o1
    obtain ⟨y2', k3, k4⟩ := own j2 y2 h2 o2
    exact S.inj j1 j2 y1' y2' b k1 k3 k2 k4 t1 t2
theorem gE_callio {x y : Str} {k i : Nat} {f : FnI} {p py pos : Pos} {es : List Expr} {ms : En → R (List D × En)} (g : Gd G W cf lv X) (hf : G.P.fns[k]? = some f) (ht : f.top = true) (hx : f.name = x) (hl : es.length + 1 = f.ps.length)
    (hln : ∀ σ ds σ', ms σ = .ok (ds, σ') → ds.length = es.length) (hg : Gl X x) (hN : X.N[i]? = some y) (hv : Vis X.env.scope y) (hd : (y == ("__debug__" : Str)) = false) (hcd : (y == ("__classdict__" : Str)) = false)
    (ha : PA X es (tA G W ms)) (hdb : (x == ("__debug__" : Str)) = false) (he : starEach (.Name y py :: es) X.env = (false, eval (.Name y py) X.env) :: starEach es X.env) (hpl : (backTo pos (starEach es X.env)).any (·.1) = false) :
    PE X (.Call (.Name x p) (.Name y py :: es) [] pos) (tE G W fun σ => bnd ((getv i σ).map fun v => (v, σ)) fun _ σ => bnd (ms σ) fun ds σ => match σ[i]? with
    | some (.ow xs) => (match cf k (.io xs) ds with
      | .ok (.sh d, xs') => .ok (.sh d, σ.set i (.ow xs'))
      | .ok (.ow ys, xs') => .ok (.ow ys, σ.set i (.ow xs'))
      | .exc _ => .stuck
      | .stuck => .stuck)
    | some (.io xs) => (match cf k (.io xs) ds with
      | .ok (.sh d, xs') => .ok (.sh d, σ.set i (.io xs'))
      | .ok (.ow ys, xs') => .ok (.ow ys, σ.set i (.io xs'))
      | .exc _ => .stuck
      | .stuck => .stuck)
    | _ => .stuck) := by
  obtain ⟨fd, hF, hk, hb, _⟩ := g.fn hf
  have hm : X.mg x = some (.ref (G.fn k)) := by rw [← hx]; exact g.fa.gl k f hf ht
  refine PE.imp (pe_call hF (g.room.mono (by omega)) hg hm hk hb .nil g.pass (pa_cons (pe_var (i := i) hN hv hd hcd) ha he) hdb he hpl) fun σ H Q ⟨F, e0, S, h⟩ => ?_
  show tVar i σ H (fun x H1 => tA G W ms σ H1 fun xs H2 => spD G cf k ((x :: xs) ++ []) H2 Q W)
  have hv0 : ∃ v, σ[i]? = some (some v) := by
    unfold getv at h
    dsimp only at h
    cases hx : e0[i]? with
    | none => rw [hx] at h; exact h.elim
    | some x =>
      have k := S.cell i x hx
      rw [hx] at h
      cases x with
      | un => exact h.elim
      | bld c ds => exact h.elim
      | sh d => obtain ⟨v, q1, q2⟩ := k; exact ⟨v, q1⟩
      | ow ds => obtain ⟨v, q1, q2⟩ := k; exact ⟨_, q1⟩
      | lk ds => obtain ⟨v, q1, q2⟩ := k; exact ⟨_, q1⟩
      | io ds => obtain ⟨v, q1, q2⟩ := k; exact ⟨_, q1⟩
  have h : PostE G W ⟨F, σ, H, e0⟩ Q (bnd (ms e0) fun ds σ => match σ[i]? with
    | some (.ow xs) => (match cf k (.io xs) ds with
      | .ok (.sh d, xs') => .ok (.sh d, σ.set i (.ow xs'))
      | .ok (.ow ys, xs') => .ok (.ow ys, σ.set i (.ow xs'))
      | .exc _ => .stuck
      | .stuck => .stuck)
    | some (.io xs) => (match cf k (.io xs) ds with
      | .ok (.sh d, xs') => .ok (.sh d, σ.set i (.io xs'))
      | .ok (.ow ys, xs') => .ok (.ow ys, σ.set i (.io xs'))
      | .exc _ => .stuck
      | .stuck => .stuck)
    | _ => .stuck) := by
    cases hg : getv i e0 with
    | ok v => simp only [hg] at h; exact h
    | exc x => unfold getv at hg; split at hg <;> cases hg
    | stuck => simp only [hg] at h; exact h.elim
  cases hm : ms e0 with
  | ok p =>
    obtain ⟨ds, e1⟩ := p
    simp only [hm] at h
    -- what the slot holds then; the slot's value does not change
    have key : ∀ (mk : List D → Cell), (∀ xs ds, mk xs ≠ .lk ds) → (∀ xs, (mk xs).own = true) → (∀ xs ys, (mk xs).tag = (mk ys).tag) → (∀ F H s xs, CellOk G F H s (mk xs) ↔ ∃ a, s = some (some (.ref a)) ∧ LstAt G F H xs a) → ∀ xs, e1[i]? = some (mk xs) →
        PostE G W ⟨F, σ, H, e0⟩ Q (match cf k (.io xs) ds with
          | .ok (.sh d, xs') => .ok (.sh d, e1.set i (mk xs'))
          | .ok (.ow ys, xs') => .ok (.ow ys, e1.set i (mk xs'))
          | .exc _ => .stuck
          | .stuck => .stuck) → (∃ v, σ[i]? = some (some v)) → tVar i σ H (fun x H1 => tA G W ms σ H1 fun xs H2 => spD G cf k ((x :: xs) ++ []) H2 Q W) := by
      intro mk hnl ho htg hc xs hi hp ⟨v, hv⟩
      refine ⟨v, hv, F, e0, S, ?_⟩
      rw [hm]
      intro vs F1 H1 st1 S1 r1
      obtain ⟨a, q1, q2⟩ := (hc _ _ _ _).mp (S1.cell i _ hi)
      have q1 : σ[i]? = some (some (.ref a)) := q1
      rw [hv] at q1; cases q1
      have hp1 := PostE.next hp st1 rfl
      rw [List.append_nil]
      refine ⟨f, hf, by rw [List.length_cons, r1.length, hln _ _ _ hm, hl], F1, .io xs, ds, S1.sub, ⟨a, vs, rfl, q2, r1⟩, ?_⟩
      cases hr : cf k (.io xs) ds with
      | ok p =>
        obtain ⟨r, xs'⟩ := p
        rw [hr] at hp1
        intro u F' H' s1 s2 fr nw dm fp vrr
        obtain ⟨a', r', ea, fp⟩ := fp
        cases ea
        obtain ⟨st, S2⟩ := S1.ioEnd (x' := mk xs') hi (hnl _) (ho _) (ho _) (htg _ _) hv s1 s2 (fun b o hb hne => fr b o hb fun ⟨r', z⟩ => by cases z; exact hne rfl) nw dm ((hc _ _ _ _).mpr ⟨a, hv, fp⟩)
        cases r with
        | sh d => exact hp1 u F' H' st S2 vrr
        | ow ys =>
          refine hp1 u F' H' st S2 ?_
          obtain ⟨b, t1, t2, e3⟩ := vrr
          refine ⟨b, t1, t2, fun w => ?_, e3⟩
          rcases st.w b w with z | z
          · exact (S1.wh z).1 e3
          · obtain ⟨j, y, w1, w2, w3⟩ := w
            have w3 : σ[j]? = some (some (.ref b)) := w3
            have own : ∃ y' : Cell, e1[j]? = some y' ∧ y'.own = true := by
              by_cases zz : j = i
              · subst zz; exact ⟨_, hi, ho _⟩
              · have w1 : (List.set _ i (mk xs'))[j]? = some y := w1
                rw [List.getElem?_set_ne (Ne.symm zz)] at w1
                exact ⟨y, w1, w2⟩
            obtain ⟨y', w4, w5⟩ := own
            exact (S1.wh ⟨j, y', w4, w5, w3⟩).1 e3
      | exc x => rw [hr] at hp1; exact hp1.elim
      | stuck => rw [hr] at hp1; exact hp1.elim
    rw [bnd_ok] at h
    split at h
    · rename_i xs hi
      exact key .ow (fun _ _ z => by cases z) (fun _ => rfl) (fun _ _ => rfl) (fun _ _ _ _ => Iff.rfl) xs hi h hv0
    · rename_i xs hi
      exact key .io (fun _ _ z => by cases z) (fun _ => rfl) (fun _ _ => rfl) (fun _ _ _ _ => Iff.rfl) xs hi h hv0
    · exact h.elim
  | exc x =>
    simp only [hm] at h
    obtain ⟨v, hv⟩ := hv0
    refine ⟨v, hv, F, e0, S, ?_⟩
    rw [hm]
    exact h
  | stuck => simp only [hm] at h; exact h.elim
end
end PV
set_option Elab.async false
set_option linter.all false
set_option maxRecDepth 100000
namespace PV
open PySem PySem.Spec PyProof.Rows L2
section
variable {G : Gb} {W : XK} {X : Cx} {cf : CF} {lv : Nat} {F F' H H' : Hp}
/-! ## a new instance -/
theorem gE_mk {x : Str} {c : Nat} {C : ClsI} {f : FnI} {dv : List Int} {p pos : Pos} {e : Expr} {es : List Expr} {ms : En → R (List D × En)} (g : Gd G W cf lv X) (hC : G.P.cls[c]? = some C) (hf : G.P.fns[C.init]? = some f) (hx : C.name = x)
    (hl : (e :: es).length + dv.length + 1 = f.ps.length) (hdv : dv = [] ∨ dv = f.dv)
    (hln : ∀ σ ds σ', ms σ = .ok (ds, σ') → ds.length = (e :: es).length) (hg : Gl X x) (ha : PA X (e :: es) (tA G W ms)) (hdb : (x == ("__debug__" : Str)) = false) (he : starEach (e :: es) X.env = (false, eval e X.env) :: starEach es X.env) (hpl : (backTo pos (starEach es X.env)).any (·.1) = false) :
    PE X (.Call (.Name x p) (e :: es) [] pos) (tE G W fun σ => bnd (ms σ) fun ds σ => match G.P.cls[c]? with
      | some C => lift ((cf C.init (.bld c) (ds ++ dv.map D.int)).bind fun p => mkD c C.flds.length p) σ
      | none => .stuck) := by
  obtain ⟨fd, hF, hk, hb0, hb1⟩ := g.fn hf
  have ck := g.fa.cls c C hC
  have hm : X.mg x = some (.ref (G.cls c)) := by rw [← hx]; exact ck.gl
  have hb : ∃ ds, Vals (dv.map V.int) ds ∧ Binds X.K fd f.ps ds := by
    by_cases z : dv = []
    · subst z; exact ⟨[], .nil, hb0⟩
    · rcases hdv with q | q
      · exact absurd q z
      · subst q; exact hb1 z
  obtain ⟨dsv, hvd, hb⟩ := hb
  have repD : ∀ F, Reps G F (dv.map D.int) (dv.map V.int) := fun F => by
    clear hdv hl hvd
    induction dv with
    | nil => exact Reps.nil
    | cons a r ih => exact .cons (by simp only [Rep]) ih
  have mk' : Mk X.K (G.cls c) (G.fn C.init) := by rw [g.kK]; exact ck.mkr
  refine PE.imp (pe_make mk' hF (g.room.mono (by omega)) hg hm hb hvd g.pass ha hdb he hpl) fun σ H Q ⟨F, e0, S, h⟩ => ?_
  refine ⟨F, e0, S, ?_⟩
  cases hm : ms e0 with
  | exc x => simp only [hm] at h; exact h
  | stuck => simp only [hm] at h; exact h
  | ok p =>
    obtain ⟨ds, e1⟩ := p
    simp only [hm, hC] at h
    intro vs F1 H1 st1 S1 r1
    have h1 := PostE.next h st1 rfl
    rw [bnd_ok] at h1
    intro y dx ny ndx nex
    have S2 : Same F1 (upd (upd H1 dx (.own y)) y (.ins (G.cls c) dx [])) := fun b o hb => by
      have q := S1.sub b o hb
      have n1 : b ≠ y := fun z => by
        have q : H1 b = some o := q
        rw [z, ny] at q; cases q
      have n2 : b ≠ dx := fun z => by
        have q : H1 b = some o := q
        rw [z, ndx] at q; cases q
      rw [upd_ne n1, upd_ne n2]; exact q
    refine ⟨f, hf, ?_, F1, .bld c, ds ++ dv.map D.int, S2, ⟨y, _, rfl, ⟨dx, [], ?_, Nat.zero_le _, ?_, Reps.nil⟩, r1.append (repD F1)⟩, ?_⟩
    · rw [List.length_cons, List.length_append, r1.length, hln _ _ _ hm, List.length_map, ← hl]
    · rw [upd_same]; simp
    · exact S1.sub.free ny
    · cases hr : cf C.init (.bld c) (ds ++ dv.map D.int) with
      | exc z =>
        rw [hr] at h1
        intro cls d H' fr xa
        refine h1 cls d H' (fun b o hb hw => fr b o ?_ ?_) xa
        · have hb : H1 b = some o := hb
          rw [upd_ne (fun z => by rw [z, ny] at hb; cases hb), upd_ne (fun z => by rw [z, ndx] at hb; cases hb)]
          exact hb
        · rintro ⟨r, z⟩
          cases z
          have hb : H1 y = some o := hb
          rw [ny] at hb; cases hb
      | stuck => rw [hr] at h1; exact h1.elim
      | ok p =>
        obtain ⟨r, xs⟩ := p
        rw [hr] at h1
        rw [R.bind_ok] at h1
        unfold mkD at h1
        dsimp only at h1
        split at h1
        · split at h1
          · rename_i hxl
            intro v F' H' s1 s2 fr nw dm fp vrr
            obtain ⟨a, r', ea, dx', vs', q1, q2, q3, q4⟩ := fp
            cases ea
            have vn : v = .non := by
              have vrr : Rep G F' .non v := vrr
              simpa only [Rep] using vrr
            refine ⟨vn, ?_⟩
            have keep : ∀ b o, H1 b = some o → H' b = some o := fun b o hb => by
              refine fr b o ?_ ?_
              · rw [upd_ne (fun z => by rw [z, ny] at hb; cases hb), upd_ne (fun z => by rw [z, ndx] at hb; cases hb)]
                exact hb
              · rintro ⟨r, z⟩
                cases z
                rw [ny] at hb; cases hb
            have sm : Same F' (upd F' y (.ins (G.cls c) dx' ((clsF G.P c).zip vs'))) := fun b u hb => by
              have : b ≠ y := fun z => by rw [z, q3] at hb; cases hb
              rw [upd_ne this]; exact hb
            have st : StepV F1 H1 (upd F' y (.ins (G.cls c) dx' ((clsF G.P c).zip vs'))) H' := by
              refine ⟨s1.trans sm, fun b u hb => ?_, keep, fun b hb hb' => ?_⟩
              · by_cases z : b = y
                · subst z; rw [upd_same] at hb; rw [← hb]; exact q1
                · rw [upd_ne z] at hb; exact s2 b u hb
              · by_cases z : b = y
                · subst z; exact ny
                · rw [upd_ne z] at hb'
                  have := nw b hb hb'
                  by_cases z2 : b = dx
                  · subst z2; exact ndx
                  · rw [upd_ne z, upd_ne z2] at this; exact this
            refine h1 (.ref y) _ _ st.step (st.sim S1) ?_
            show Rep G _ (.obj c xs) (.ref y)
            simp only [Rep]
            have hcf : clsF G.P c = C.flds := by unfold clsF; rw [hC]
            exact ⟨y, dx', vs', rfl, upd_same, ⟨C, hC⟩, by rw [q4.length, hcf]; exact hxl, q4.mono sm⟩
          · exact h1.elim
        · exact h1.elim
/-! ## methods -/
def noSuper : Expr → Bool
  | .Call _ [] _ _ => false
  | _ => true
theorem attrBase {o : Expr} {m : Str} {env : PySem.Env} {whole : Sem Value} (h : noSuper o = true) : attributeBase o m env whole = whole := by
  unfold attributeBase
  cases o <;> try rfl
  rename_i f args kws pos
  cases args with
  | nil => cases h
  | cons a r => cases f <;> rfl
theorem mcallForm {o : Expr} {m : Str} {apos pos : Pos} {env : PySem.Env} {ov : Value} {n : Nat} {args : List (Bool × Sem Value)} {kws : List (Option Str × Sem Value)} (hf : methodCallForm n args kws = true) (hl : (apos.endLine == pos.line) = true) :
    methodCall o m apos pos env ov n args kws = (do
      let (f, first) ← holding [ov] (getMethod ov m (do return (← importBound o env).getD true))
      callWith pos f first args kws) := by
  have e1 : calleeOf (methodCallForm n args kws) o env ov m = getMethod ov m (do return (← importBound o env).getD true) := by
    rw [hf] <;> rfl
  have e2 : methodCallPos (methodCallForm n args kws) o env apos pos = pure pos := by
    unfold methodCallPos
    exact if_pos (by rw [hl, Bool.or_true])
  unfold methodCall
  rw [e1, e2]
  first
    | rfl
    | simp only [pure_bind]
theorem lookup_zip {c : Nat} {vs : List V} {m : Str} : ∀ {fs : List Str} {vs : List V}, m ∉ fs → (fs.zip vs).lookup m = none
  | [], vs, _ => by simp
  | f :: fs, [], _ => by simp
  | f :: fs, v :: vs, h => by
    simp only [List.mem_cons, not_or] at h
    rw [List.zip_cons_cons, List.lookup_cons]
    have : (m == f) = false := by simpa using h.1
    rw [this]
    exact lookup_zip (c := c) (vs := vs) h.2
/-- the reading of a method call -/
theorem methI {c : Nat} {C : ClsI} {m : Str} {k : Nat} {f : FnI} {ma : En → R (Vl × En)} {ms : En → R (List D × En)} {n : Nat} {σ : Sg} {Q : VK} (g : Gd G W cf lv X) (hC : G.P.cls[c]? = some C) (hme : C.meths.lookup m = some k) (hf : G.P.fns[k]? = some f) (hl : n + 1 = f.ps.length)
    (hln : ∀ σ ds σ', ms σ = .ok (ds, σ') → ds.length = n)
    (h : tE G W (fun σ => bnd (ma σ) fun va σ => bnd (pk (hold va) σ) fun x σ => match x with
      | .obj c' xs => if c' = c then (match clsM G.P c m with
        | some k => bnd (ms σ) fun ds σ => lift ((cf k .no (.obj c xs :: ds)).map fun p => vr p.1) σ
        | none => .stuck) else .stuck
      | _ => .stuck) σ H Q) : tMeth (G.cls c) m (spD G cf k) [] W (tE G W ma) (tA G W ms) σ H Q := by
  obtain ⟨F, e, S, h⟩ := h
  have ck := g.fa.cls c C hC
  have hcm : clsM G.P c m = some k := by unfold clsM; rw [hC]; exact hme
  refine oneI (Post := fun c r => PostE G W c Q r) PostE.hx (fun _ z => z) (fun h s e => PostE.next h s e) S h fun F1 H1 e1 x v st S1 rx h1 => ?_
  cases x with
  | obj c' xs =>
    dsimp only at h1
    split at h1
    · rename_i ec
      subst ec
      rw [hcm] at h1
      have rp := rx.obj
      have rp2 := rp
      simp only [Rep] at rp2
      obtain ⟨a, dx, vs, rfl, q1, _, q2, q3⟩ := rp2
      refine ⟨a, dx, _, rfl, S1.sub _ _ q1, lookup_zip (c := c') (vs := vs) (by
        have := ck.mf m k hme
        unfold clsF
        rw [hC]
        exact this), F1, e1, S1, ?_⟩
      cases hm : ms e1 with
      | exc z => simp only [hm] at h1; exact h1
      | stuck => simp only [hm] at h1; exact h1
      | ok p =>
        obtain ⟨ds, e2⟩ := p
        simp only [hm] at h1
        intro ws F2 H2 st2 S2 r2
        have h2 := PostE.next h1 st2 rfl
        rw [List.append_nil]
        exact ⟨f, hf, by rw [List.length_cons, r2.length, hln _ _ _ hm, hl], F2, .no, .obj c' xs :: ds, S2.sub, .cons (Rep.mono st2.f rp) r2, PostF.ofE S2 h2⟩
    · exact h1.elim
  | _ => exact h1.elim
theorem gE_meth {c : Nat} {C : ClsI} {m : Str} {k : Nat} {f : FnI} {o e : Expr} {es : List Expr} {apos pos : Pos} {ma : En → R (Vl × En)} {ms : En → R (List D × En)} (g : Gd G W cf lv X) (hC : G.P.cls[c]? = some C) (hme : C.meths.lookup m = some k) (hf : G.P.fns[k]? = some f) (hl : (e :: es).length + 1 = f.ps.length)
    (hln : ∀ σ ds σ', ms σ = .ok (ds, σ') → ds.length = (e :: es).length) (ho : PE X o (tE G W ma)) (ha : PA X (e :: es) (tA G W ms)) (hs : noSuper o = true)
    (hfm : methodCallForm ((e :: es).length + 0) (backTo pos (starEach (e :: es) X.env)) (backToKw pos (keywordEach [] X.env)) = true) (hln' : (apos.endLine == pos.line) = true)
    (he : starEach (e :: es) X.env = (false, eval e X.env) :: starEach es X.env) (hpl : (backTo pos (starEach es X.env)).any (·.1) = false) :
    PE X (.Call (.Attribute o m apos) (e :: es) [] pos) (tE G W fun σ => bnd (ma σ) fun va σ => bnd (pk (hold va) σ) fun x σ => match x with
      | .obj c' xs => if c' = c then (match clsM G.P c m with
        | some k => bnd (ms σ) fun ds σ => lift ((cf k .no (.obj c xs :: ds)).map fun p => vr p.1) σ
        | none => .stuck) else .stuck
      | _ => .stuck) := by
  obtain ⟨fd, hF, hk, hb, _⟩ := g.fn hf
  have ck := g.fa.cls c C hC
  have cl : Cls X.K (G.cls c) := by rw [g.kK]; exact ck.cl
  have me : Meth X.K (G.cls c) m (G.fn k) := by rw [g.kK]; exact ck.me m k hme
  refine PE.imp (pe_meth (pl := do return (← importBound o X.env).getD true) ho cl me hF (g.room.mono (by omega)) hb .nil g.pass ha he hpl ?_) fun σ H Q h => methI g hC hme hf hl hln h
  show (do
    let ov ← attributeBase o m X.env (eval o X.env)
    standAt apos.atName
    methodCall o m apos pos X.env ov ((e :: es).length + ([] : List Keyword).length) (backTo pos (starEach (e :: es) X.env)) (backToKw pos (keywordEach [] X.env))) = _
  rw [attrBase hs]
  have e1 : ∀ ov, methodCall o m apos pos X.env ov ((e :: es).length + ([] : List Keyword).length) (backTo pos (starEach (e :: es) X.env)) (backToKw pos (keywordEach [] X.env)) = _ := fun ov => mcallForm hfm hln'
  simp only [e1]
theorem gE_meth0 {c : Nat} {C : ClsI} {m : Str} {k : Nat} {f : FnI} {o : Expr} {apos pos : Pos} {ma : En → R (Vl × En)} (g : Gd G W cf lv X) (hC : G.P.cls[c]? = some C) (hme : C.meths.lookup m = some k) (hf : G.P.fns[k]? = some f) (hl : 1 = f.ps.length)
    (ho : PE X o (tE G W ma)) (hs : noSuper o = true)
    (hfm : methodCallForm (0 + 0) (backTo pos (starEach [] X.env)) (backToKw pos (keywordEach [] X.env)) = true) (hln' : (apos.endLine == pos.line) = true) :
    PE X (.Call (.Attribute o m apos) [] [] pos) (tE G W fun σ => bnd (ma σ) fun va σ => bnd (pk (hold va) σ) fun x σ => match x with
      | .obj c' xs => if c' = c then (match clsM G.P c m with
        | some k => bnd (.ok ([], σ)) fun ds σ => lift ((cf k .no (.obj c xs :: ds)).map fun p => vr p.1) σ
        | none => .stuck) else .stuck
      | _ => .stuck) := by
  obtain ⟨fd, hF, hk, hb, _⟩ := g.fn hf
  have ck := g.fa.cls c C hC
  have cl : Cls X.K (G.cls c) := by rw [g.kK]; exact ck.cl
  have me : Meth X.K (G.cls c) m (G.fn k) := by rw [g.kK]; exact ck.me m k hme
  refine PE.imp (pe_meth0 (pl := do return (← importBound o X.env).getD true) ho cl me hF (g.room.mono (by omega)) hb .nil g.pass ?_) fun σ H Q h => ?_
  · show (do
      let ov ← attributeBase o m X.env (eval o X.env)
      standAt apos.atName
      methodCall o m apos pos X.env ov (([] : List Expr).length + ([] : List Keyword).length) (backTo pos (starEach [] X.env)) (backToKw pos (keywordEach [] X.env))) = _
    rw [attrBase hs]
    have e1 : ∀ ov, methodCall o m apos pos X.env ov (([] : List Expr).length + ([] : List Keyword).length) (backTo pos (starEach [] X.env)) (backToKw pos (keywordEach [] X.env)) = _ := fun ov => mcallForm hfm hln'
    simp only [e1]
  · have z := methI (n := 0) (ms := fun σ => .ok ([], σ)) g hC hme hf (by simpa using hl) (fun σ ds σ' e => by cases e; rfl) h
    unfold tMeth at z ⊢
    obtain ⟨F, e0, S, p⟩ := z
    refine ⟨F, e0, S, ?_⟩
    cases hm : ma e0 with
    | exc x => rw [hm] at p; exact p
    | stuck => rw [hm] at p; exact p
    | ok q =>
      obtain ⟨vl, e1⟩ := q
      rw [hm] at p
      intro v F1 H1 st1 S1 r1
      obtain ⟨a, dx, fs, e2, e3, e4, F2, e5, S2, p2⟩ := p v F1 H1 st1 S1 r1
      exact ⟨a, dx, fs, e2, e3, e4, p2 [] F2 H1 Step.rfl' S2 Reps.nil⟩
/-! ## fields, slices -/
theorem gE_fld {o : Expr} {f : Str} {pos : Pos} {ma : En → R (Vl × En)} (g : Gd G W cf lv X) (ho : PE X o (tE G W ma)) (hs : noSuper o = true) :
    PE X (.Attribute o f pos) (tE G W fun σ => bnd (ma σ) fun va σ => bnd (pk (hold va) σ) fun x σ => match x with
      | .obj c ds => (match ((clsF G.P c).zip ds).lookup f with
        | some d => .ok (.sh d, σ)
        | none => .stuck)
      | _ => .stuck) := by
  refine PE.imp (pe_fld ho (attrBase hs)) fun σ H Q ⟨F, e, S, h⟩ => ?_
  refine oneI (Post := fun c r => PostE G W c Q r) PostE.hx (fun _ z => z) (fun h s e => PostE.next h s e) S h fun F1 H1 e1 x v st S1 rx h1 => ?_
  cases x with
  | obj c ds =>
    have rp := rx.obj
    simp only [Rep] at rp
    obtain ⟨a, dx, vs, rfl, q1, ⟨C, hC⟩, q2, q3⟩ := rp
    dsimp only at h1
    split at h1
    · rename_i d hd
      have hfl : ∀ {fs : List Str} {ds : List D} {vs : List V}, Reps G F1 ds vs → (fs.zip ds).lookup f = some d → ∃ v, (fs.zip vs).lookup f = some v ∧ Rep G F1 d v ∧ f ∈ fs := by
        intro fs
        induction fs with
        | nil => intro ds vs _ h; simp at h
        | cons y fs ih =>
          intro ds vs r h
          cases ds with
          | nil => simp at h
          | cons d0 ds =>
            simp only [Reps] at r
            obtain ⟨v0, r0, rfl, r1, r2⟩ := r
            rw [List.zip_cons_cons, List.lookup_cons] at h ⊢
            cases e : (f == y) with
            | true =>
              rw [e] at h
              cases h
              exact ⟨v0, rfl, r1, by rw [eq_of_beq e]; exact List.mem_cons_self⟩
            | false =>
              rw [e] at h
              obtain ⟨u, h1, h2, h3⟩ := ih r2 h
              exact ⟨u, h1, h2, List.mem_cons_of_mem _ h3⟩
      obtain ⟨u, e1, e2, e3⟩ := hfl q3 hd
      have ck := g.fa.cls c C hC
      have e3' : f ∈ C.flds := by unfold clsF at e3; rw [hC] at e3; exact e3
      exact ⟨a, G.cls c, dx, _, u, rfl, S1.sub _ _ q1, by rw [g.kK]; exact ck.cl, by rw [g.kK]; exact ck.no f e3', e1, PostE.sh S1 e2 h1⟩
    · exact h1.elim
  | _ => exact h1.elim
def PostO (G : Gb) (W : XK) (c : Cf) (Q : Option Int → Hp → Prop) : R (Option Int × En) → Prop
  | .ok (b, e') => ∀ F' H', Step G c ⟨F', c.σ, H', e'⟩ → Sim G ⟨F', c.σ, H', e'⟩ → Q b H'
  | .exc x => ∀ cls d H', (∀ b o, c.H b = some o → ¬ c.W b → H' b = some o) → XAt G x cls d H' → W cls d H'
  | .stuck => False
def tO (G : Gb) (W : XK) (m : En → R (Option Int × En)) : TO := fun σ H Q => ∃ F e, Sim G ⟨F, σ, H, e⟩ ∧ PostO G W ⟨F, σ, H, e⟩ Q (m e)
theorem PostO.hx {Q : Option Int → Hp → Prop} : ∀ (c : Cf) x, PostO G W c Q (.exc x) → ∀ cls d H', (∀ b o, c.H b = some o → ¬ c.W b → H' b = some o) → XAt G x cls d H' → W cls d H' := fun _ _ h => h
theorem PostO.next {c c1 : Cf} {Q : Option Int → Hp → Prop} {r : R (Option Int × En)} (h : PostO G W c Q r) (s : Step G c c1) (e : c1.σ = c.σ) : PostO G W c1 Q r := by
  cases r with
  | ok p =>
    obtain ⟨vl, e'⟩ := p
    intro F' H' st S
    rw [e] at st S
    exact h F' H' (s.trans st) S
  | exc x =>
    intro cls d H' fr xa
    exact h cls d H' (fun b o hb hw => fr b o (s.frame b o hb hw) fun w => (s.w b w).elim hw fun z => by rw [hb] at z; cases z) xa
  | stuck => exact h
theorem PostO.bind {c : Cf} {m : R (Option Int × En)} {α : Type} {k : Option Int → En → R (α × En)} {Post : R (α × En) → Prop} {Q' : Option Int → Hp → Prop} (hx : ∀ x, Post (.exc x) → ∀ cls d H', (∀ b o, c.H b = some o → ¬ c.W b → H' b = some o) → XAt G x cls d H' → W cls d H') (hs : ¬ Post .stuck) (h : Post (bnd m k))
    (hk : ∀ b e' F' H', Step G c ⟨F', c.σ, H', e'⟩ → Sim G ⟨F', c.σ, H', e'⟩ → Post (k b e') → Q' b H') : PostO G W c Q' m := by
  cases m with
  | ok p =>
    obtain ⟨b, e'⟩ := p
    intro F' H' st S
    exact hk b e' F' H' st S h
  | exc x => exact hx x h
  | stuck => exact (hs h).elim
theorem gO_none : PO X none (tO G W fun σ => .ok (none, σ)) := PO.imp po_none fun σ H Q ⟨F, e, S, h⟩ => h F H Step.rfl' S
theorem gO_some {a : Expr} {ma : En → R (Vl × En)} (ha : PE X a (tE G W ma)) : PO X (some a) (tO G W fun σ => bnd (ma σ) fun v σ => toI v σ) := by
  refine PO.imp (po_some ha) fun σ H Q ⟨F, e, S, h⟩ => ?_
  refine ⟨F, e, S, PostE.mk (r := .stuck) (Post := PostO G W _ Q) _ _ (PostO.hx _) (fun z => z) h fun va e1 v F1 H1 st1 S1 r1 h1 => ?_⟩
  cases va with
  | sh d =>
    cases d with
    | int b =>
      have r1 : Rep G F1 (.int b) v := r1
      simp only [Rep] at r1
      exact ⟨b, r1, h1 F1 H1 st1 S1⟩
    | _ => exact h1.elim
  | ow ds => exact h1.elim
  | sl i => exact h1.elim
theorem gE_slc {a : Expr} {lo hi : Option Expr} {p2 pos : Pos} {ma : En → R (Vl × En)} {ml mh : En → R (Option Int × En)} (g : Gd G W cf lv X) (ha : PE X a (tE G W ma)) (hl : PO X lo (tO G W ml)) (hh : PO X hi (tO G W mh)) :
    PE X (.Subscript a (.Slice lo hi none p2) pos) (tE G W fun σ => bnd (ma σ) fun va σ => bnd (ml σ) fun l σ => bnd (mh σ) fun h σ => bnd (pk (hold va) σ) fun x σ => lift ((slcD x l h).map vr) σ) := by
  refine PE.imp (pe_slice (slr (W := W) g.kK) ha hl hh) fun σ H Q ⟨F, e, S, h⟩ => ?_
  refine ⟨F, e, S, PostE.mk (r := .stuck) (Post := PostE G W _ Q) _ _ (PostE.hx _) (fun z => z) h fun va e1 v F1 H1 st1 S1 r1 h1 => ?_⟩
  obtain ⟨F1', st1', S1', r1'⟩ := hold_ok st1 S1 r1
  have h1' := PostE.next h1 st1' rfl
  refine ⟨F1', e1, S1', PostO.bind (Post := PostE G W _ Q) (PostE.hx _) (fun z => z) h1' fun l e2 F2 H2 st2 S2 h2 => ?_⟩
  refine ⟨F2, e2, S2, PostO.bind (Post := PostE G W _ Q) (PostE.hx _) (fun z => z) (PostE.next h2 st2 rfl) fun u e3 F3 H3 st3 S3 h3 => ?_⟩
  have h3' := PostE.next h3 st3 rfl
  obtain ⟨x, rx, h4⟩ := pk_ok (Post := PostE G W ⟨F3, σ, H3, e3⟩ Q) (fun z => z) S3 (hold_mono (H1 := H1) (st2.f.trans st3.f) r1') h3'
  exact ⟨F3, x, S3.sub, rx, PostE.lift S3 h4⟩
end
end PV
set_option Elab.async false
set_option linter.all false
set_option maxRecDepth 100000
namespace PV
open PySem PySem.Spec PyProof.Rows L2
section
variable {G : Gb} {W : XK} {X : Cx} {cf : CF} {lv : Nat} {F F' H H' : Hp}
theorem chainI {op op' : CmpOp} {ma mb mc : En → R (Vl × En)} {m m' : D → D → R Bool} {σ : Sg} {Q : VK}
    (h : tE G W (fun σ => bnd (ma σ) fun va σ => bnd (mb σ) fun vb σ => bnd (pk (hold va) σ) fun x σ => bnd (pk (hold vb) σ) fun y σ => bnd (lift (m x y) σ) fun r σ => match r with
      | true => bnd (mc σ) fun vc σ => bnd (pk (hold vb) σ) fun y σ => bnd (pk (hold vc) σ) fun z σ => lift ((m' y z).map fun b => Vl.sh (.bl b)) σ
      | false => .ok (.sh (.bl false), σ)) σ H Q) :
    tChain (r2D G W (blR m)) (r2D G W (blR m')) (tE G W ma) (tE G W mb) (tE G W mc) σ H Q := by
  obtain ⟨F, e, S, h⟩ := h
  refine ⟨F, e, S, PostE.mk (r := .stuck) (Post := PostE G W _ Q) _ _ (PostE.hx _) (fun z => z) h fun va e1 v F1 H1 st1 S1 r1 h1 => ?_⟩
  obtain ⟨F1', st1', S1', r1'⟩ := hold_ok st1 S1 r1
  refine ⟨F1', e1, S1', PostE.mk (r := .stuck) (Post := PostE G W _ Q) _ _ (PostE.hx _) (fun z => z) (PostE.next h1 st1' rfl) fun vb e2 u F2 H2 st2 S2 r2 h2 => ?_⟩
  obtain ⟨F2', st2', S2', r2'⟩ := hold_ok st2 S2 r2
  have h2' := PostE.next h2 st2' rfl
  obtain ⟨x, rx, h3⟩ := pk_ok (Post := PostE G W ⟨F2', σ, H2, e2⟩ Q) (fun z => z) S2' (hold_mono (H1 := H1) st2'.f r1') h2'
  obtain ⟨y, ry, h4⟩ := pk_ok (Post := PostE G W ⟨F2', σ, H2, e2⟩ Q) (fun z => z) S2' r2' h3
  refine ⟨F2', x, y, S2'.sub, rx, ry, ?_⟩
  unfold blR
  cases hm : m x y with
  | exc z => rw [hm] at h4; exact fun cls d H' s xa => h4 cls d H' (fun b o hb _ => s b o hb) xa
  | stuck => rw [hm] at h4; exact h4.elim
  | ok b =>
    rw [hm] at h4
    intro z F3 H3 sv rz
    have rz : Rep G F3 (.bl b) z := rz
    simp only [Rep] at rz
    subst rz
    refine ⟨b, rfl, ?_⟩
    have S3 := sv.sim S2'
    have h5 := PostE.next h4 sv.step rfl
    cases b with
    | false => exact PostE.bl S3 h5
    | true =>
      refine ⟨F3, e2, S3, PostE.mk (r := .stuck) (Post := PostE G W _ Q) _ _ (PostE.hx _) (fun z => z) h5 fun vc e4 t F4 H4 st4 S4 r4 h6 => ?_⟩
      obtain ⟨F4', st4', S4', r4'⟩ := hold_ok st4 S4 r4
      have h6' := PostE.next h6 st4' rfl
      obtain ⟨y', ry', h7⟩ := pk_ok (Post := PostE G W ⟨F4', σ, H4, e4⟩ Q) (fun z => z) S4' (hold_mono (H1 := H1) (sv.f.trans st4'.f) r2') h6'
      obtain ⟨z, rz, h8⟩ := pk_ok (Post := PostE G W ⟨F4', σ, H4, e4⟩ Q) (fun z => z) S4' r4' h7
      exact ⟨F4', y', z, S4'.sub, ry', rz, PostE.lift S4' (by rw [lift_blv] at h8; exact h8)⟩
theorem gE_chain {a b c : Expr} {op op' : CmpOp} {pos : Pos} {ma mb mc : En → R (Vl × En)} {m m' : D → D → R Bool} (hm : lastMarks [op, op'] [b, c] = false) (ho : OpR X (compareOp op) (r2D G W (blR m))) (ho' : OpR X (compareOp op') (r2D G W (blR m'))) (ha : PE X a (tE G W ma)) (hb : PE X b (tE G W mb)) (hc : PE X c (tE G W mc)) :
    PE X (.Compare a [op, op'] [b, c] pos) (tE G W fun σ => bnd (ma σ) fun va σ => bnd (mb σ) fun vb σ => bnd (pk (hold va) σ) fun x σ => bnd (pk (hold vb) σ) fun y σ => bnd (lift (m x y) σ) fun r σ => match r with
      | true => bnd (mc σ) fun vc σ => bnd (pk (hold vb) σ) fun y σ => bnd (pk (hold vc) σ) fun z σ => lift ((m' y z).map fun b => Vl.sh (.bl b)) σ
      | false => .ok (.sh (.bl false), σ)) :=
  PE.imp (pe_chain ho ho' ha hb hc hm) fun σ H Q h => chainI (op := op) (op' := op') h
theorem gT_chain {a b c : Expr} {op op' : CmpOp} {pos : Pos} {ma mb mc : En → R (Vl × En)} {m m' : D → D → R Bool} (hm : lastMarks [op, op'] [b, c] = false) (ho : OpR X (compareOp op) (r2D G W (blR m))) (ho' : OpR X (compareOp op') (r2D G W (blR m'))) (ha : PE X a (tE G W ma)) (hb : PE X b (tE G W mb)) (hc : PE X c (tE G W mc)) :
    PT X (.Compare a [op, op'] [b, c] pos) (tT G W fun σ => bnd (bnd (ma σ) fun va σ => bnd (mb σ) fun vb σ => bnd (pk (hold va) σ) fun x σ => bnd (pk (hold vb) σ) fun y σ => bnd (lift (m x y) σ) fun r σ => match r with
      | true => bnd (mc σ) fun vc σ => bnd (pk (hold vb) σ) fun y σ => bnd (pk (hold vc) σ) fun z σ => lift ((m' y z).map fun b => Vl.sh (.bl b)) σ
      | false => .ok (.sh (.bl false), σ)) fun v σ => toB v σ) :=
  PT.imp (pt_chain ho ho' ha hb hc hm) fun σ H Q h => tstI (t := tChain (r2D G W (blR m)) (r2D G W (blR m')) (tE G W ma) (tE G W mb) (tE G W mc)) (fun Q h => chainI (op := op) (op' := op') h) h
/-! ## built-in functions -/
theorem pks_ok {σ : Sg} {H0 : Hp} {α : Type} {Post : R (α × En) → Prop} {e : En} (hs : ¬ Post .stuck) (S : Sim G ⟨F, σ, H, e⟩) : ∀ {ls : List Vl} {vs : List V} {k : List D → En → R (α × En)}, VRels G H0 ⟨F, σ, H, e⟩ vs ls → Post (bnd (pks ls e) k) →
    ∃ ds, Rd2s G F H ds vs ∧ Post (k ds e)
  | [], vs, k, r, h => by
    have r : vs = [] := r
    subst r
    exact ⟨[], rfl, h⟩
  | l :: ls, vs, k, r, h => by
    obtain ⟨v, us, rfl, r1, hl, r2⟩ := r
    have h : Post (bnd (bnd (pk l e) fun d σ => bnd (pks ls σ) fun ds σ => .ok (d :: ds, σ)) k) := h
    rw [hl] at r1
    have h2 : Post (bnd (pk l e) fun d σ => bnd (bnd (pks ls σ) fun ds σ => .ok (d :: ds, σ)) k) := by
      cases hp : pk l e with
      | ok p => rw [hp] at h; exact h
      | exc x => rw [hp] at h; exact h
      | stuck => rw [hp] at h; exact h
    obtain ⟨d, rd, h3⟩ := pk_ok (Post := Post) hs S r1 h2
    have h4 : Post (bnd (pks ls e) fun ds σ => k (d :: ds) σ) := by
      cases hp : pks ls e with
      | ok p => rw [hp] at h3; exact h3
      | exc x => rw [hp] at h3; exact h3
      | stuck => rw [hp] at h3; exact h3
    obtain ⟨ds, rds, h5⟩ := pks_ok hs S r2 h4
    exact ⟨d :: ds, ⟨v, us, rfl, rd, rds⟩, h5⟩
theorem bifI {b : Bif} {ms : En → R (List Vl × En)} {σ : Sg} {Q : VK} (h : tE G W (fun σ => bnd (ms σ) fun vs σ => bnd (pks vs σ) fun ds σ => lift ((bifD b ds).map vr) σ) σ H Q) : tCB (bifR G W b) (tP G W ms) σ H Q := by
  obtain ⟨F, e, S, h⟩ := h
  refine ⟨F, e, S, PostP.bind (Post := PostE G W _ Q) (PostE.hx _) (fun z => z) h fun ls e1 vs F1 H1 st1 S1 r1 h1 => ?_⟩
  obtain ⟨ds, rd, h2⟩ := pks_ok (Post := PostE G W ⟨F1, σ, H1, e1⟩ Q) (fun z => z) S1 r1 (PostE.next h1 st1 rfl)
  exact ⟨F1, ds, S1.sub, rd, PostE.lift S1 h2⟩
def bifN : Bif → Str
  | .len => "len" | .abs => "abs" | .int => "int" | .tup => "tuple" | .lst => "list" | .max2 => "max" | .min2 => "min" | .sum => "sum" | .all => "all" | .any => "any"
theorem gE_bif {b : Bif} {p pos : Pos} {e : Expr} {es : List Expr} {ms : En → R (List Vl × En)} (g : Gd G W cf lv X) (hg : Gl X (bifN b)) (hm : X.mg (bifN b) = none) (ha : PA X (e :: es) (tP G W ms))
    (he : starEach (e :: es) X.env = (false, eval e X.env) :: starEach es X.env) (hpl : (backTo pos (starEach es X.env)).any (·.1) = false) :
    PE X (.Call (.Name (bifN b) p) (e :: es) [] pos) (tE G W fun σ => bnd (ms σ) fun vs σ => bnd (pks vs σ) fun ds σ => lift ((bifD b ds).map vr) σ) := by
  cases b with
  | len => exact PE.imp (pe_callB (cr_len (W := W) g.kK) hg hm (by decide +kernel) ha (by decide) (by decide) he hpl) fun σ H Q h => bifI h
  | abs => exact PE.imp (pe_callB (cr_abs (G := G) (W := W)) hg hm (by decide +kernel) ha (by decide) (by decide) he hpl) fun σ H Q h => bifI h
  | int => exact PE.imp (pe_callTy (cr_int (G := G) (W := W)) hg hm (by decide +kernel) ha (by decide) (by decide) he hpl) fun σ H Q h => bifI h
  | tup => exact PE.imp (pe_callTy (cr_tup (W := W) g.kK) hg hm (by decide +kernel) ha (by decide) (by decide) he hpl) fun σ H Q h => bifI h
  | lst => exact PE.imp (pe_callTy (cr_lst (W := W) g.kK) hg hm (by decide +kernel) ha (by decide) (by decide) he hpl) fun σ H Q h => bifI h
  | max2 => exact PE.imp (pe_callB (cr_max2 (G := G) (W := W) g.calm) hg hm (by decide +kernel) ha (by decide) (by decide) he hpl) fun σ H Q h => bifI h
  | min2 => exact PE.imp (pe_callB (cr_min2 (G := G) (W := W) g.calm) hg hm (by decide +kernel) ha (by decide) (by decide) he hpl) fun σ H Q h => bifI h
  | sum => exact PE.imp (pe_callB (cr_sumD (W := W) g.calm g.kK) hg hm (by decide +kernel) ha (by decide) (by decide) he hpl) fun σ H Q h => bifI h
  | all => exact PE.imp (pe_callB (cr_allD (G := G) (W := W) g.calm) hg hm (by decide +kernel) ha (by decide) (by decide) he hpl) fun σ H Q h => bifI h
  | any => exact PE.imp (pe_callB (cr_anyD (G := G) (W := W) g.calm) hg hm (by decide +kernel) ha (by decide) (by decide) he hpl) fun σ H Q h => bifI h
/-! ## isinstance -/
def tyN : TyK → String
  | .int => "int" | .bool => "bool" | .str => "str" | .tup => "tuple" | .lst => "list" | .own _ => ""
def tyVal (G : Gb) : D → Value
  | .non => .type "NoneType" | .bl _ => .type "bool" | .int _ => .type "int" | .str _ => .type "str" | .tup _ => .type "tuple" | .lst _ => .type "list" | .obj c _ => .ref (G.cls c) | .dic => .type "dict"
  | _ => .none
/-- a value's type, for isinstance -/
theorem tyX {d : D} {v : V} (g : Gd G W cf lv X) (S : Same F H) (r : Rd2 G F H d v) (h1 : ∀ k, d ≠ .fn k) (h2 : ∀ k, d ≠ .ro k) :
    ∃ t, TyX X.K H v t ∧ t = tyVal G d := by
  cases d with
  | non => have e := r.non; subst e; exact ⟨_, .base .non, rfl⟩
  | bl b => have e := r.bl; subst e; exact ⟨_, .base (.bl b), rfl⟩
  | int i => have e := r.int; subst e; exact ⟨_, .base (.int i), rfl⟩
  | str z => have e := r.str; subst e; exact ⟨_, .base (.str z), rfl⟩
  | tup ds =>
    obtain ⟨a, vs, rfl, q, _, _⟩ := r.tup S
    refine ⟨.type "tuple", ?_, rfl⟩
    rcases q with (q | ⟨o, q⟩) | ⟨o, its, n, q1, q2, _⟩
    · exact .base (.tup q)
    · exact .fTuple q
    · exact .kTuple (by rw [g.kK]; exact q1) q2
  | lst ds =>
    obtain ⟨a, vs, rfl, q, _⟩ := r.lst S
    exact ⟨.type "list", .base (.lst q), rfl⟩
  | obj c ds =>
    have rp := r.obj
    simp only [Rep] at rp
    obtain ⟨a, dx, vs, rfl, q1, ⟨C, hC⟩, q2, q3⟩ := rp
    have ck := g.fa.cls c C hC
    refine ⟨.ref (G.cls c), ?_, rfl⟩
    have := g.kK
    exact .base (.ins (S _ _ q1) (by rw [this]; exact ck.cl) (by rw [this]; exact ck.ha) (by rw [this]; exact ck.hn) (by rw [this]; exact ck.htk) (by rw [this]; exact ck.hm))
  | dic =>
    rcases r with r | ⟨_, _, e, _⟩
    · simp only [Rep] at r
      obtain ⟨a, kvs, rfl, q⟩ := r
      exact ⟨.type "dict", .base (.dK (S _ _ q)), rfl⟩
    · cases e
  | fn k => exact absurd rfl (h1 k)
  | ro k => exact absurd rfl (h2 k)
def TyOk (G : Gb) : TyK → Prop
  | .own c => ∃ C, G.P.cls[c]? = some C
  | _ => True
def tyU (G : Gb) : TyK → Value
  | .own c => .ref (G.cls c)
  | t => .type (tyN t)
/-- what isinstance says -/
theorem kit_ok {d : D} {v : V} {t : TyK} (g : Gd G W cf lv X) (ht : TyOk G t) (S : Same F H) (r : Rd2 G F H d v) {b : Bool} (h : isiD t d = .ok b) :
    TyX X.K H v (tyVal G d) ∧ PySem.W.kitOne X.K (tyVal G d) (tyU G t) = some b := by
  have h1 : ∀ k, d ≠ .fn k := fun k z => by subst z; cases h
  have h2 : ∀ k, d ≠ .ro k := fun k z => by subst z; cases h
  obtain ⟨tt, ty, e⟩ := tyX g S r h1 h2
  have hb : b = isi1 t d := by
    unfold isiD at h
    split at h <;> cases h
    rfl
  subst hb
  subst e
  refine ⟨ty, ?_⟩
  rw [g.kK]
  cases t with
  | own c =>
    obtain ⟨C, hc⟩ := ht
    have ck := g.fa.cls c C hc
    cases d with
    | obj c' ds =>
      have rp := r.obj
      simp only [Rep] at rp
      obtain ⟨_, _, _, _, _, ⟨C', hC'⟩, _⟩ := rp
      exact (g.fa.cls c' C' hC').kS c C hc
    | fn k => exact absurd rfl (h1 k)
    | ro k => exact absurd rfl (h2 k)
    | non => exact ck.kT _ (by simp)
    | bl b => exact ck.kT _ (by simp)
    | int b => exact ck.kT _ (by simp)
    | str b => exact ck.kT _ (by simp)
    | tup b => exact ck.kT _ (by simp)
    | lst b => exact ck.kT _ (by simp)
    | dic => exact ck.kT _ (by simp)
  | _ =>
    cases d with
    | obj c' ds =>
      have rp := r.obj
      simp only [Rep] at rp
      obtain ⟨_, _, _, _, _, ⟨C', hC'⟩, _⟩ := rp
      exact (g.fa.cls c' C' hC').kO _ (by simp [tyN])
    | fn k => exact absurd rfl (h1 k)
    | ro k => exact absurd rfl (h2 k)
    | _ => first | exact kit_ty (r := true) (by decide +kernel) | exact kit_ty (r := false) (by decide +kernel)
/-- the class that isinstance is asked for -/
def PTy (X : Cx) (G : Gb) (e : Expr) (t : TyK) : Prop := TyOk G t ∧ ∃ c : V, PE X e (tC c) ∧ ClsV c (tyU G t)
theorem pty_ty {t : TyK} {pos : Pos} (hn : ∀ c, t ≠ .own c) (hg : Gl X (Str.ofString (tyN t))) (hm : X.mg (Str.ofString (tyN t)) = none) : PTy X G (.Name (Str.ofString (tyN t)) pos) t := by
  cases t with
  | own c => exact absurd rfl (hn c)
  | int => exact ⟨trivial, .ty "int", pe_bltn hg hm (by decide +kernel) rfl (by decide) (by decide), .ty _⟩
  | bool => exact ⟨trivial, .ty "bool", pe_bltn hg hm (by decide +kernel) rfl (by decide) (by decide), .ty _⟩
  | str => exact ⟨trivial, .ty "str", pe_bltn hg hm (by decide +kernel) rfl (by decide) (by decide), .ty _⟩
  | tup => exact ⟨trivial, .ty "tuple", pe_bltn hg hm (by decide +kernel) rfl (by decide) (by decide), .ty _⟩
  | lst => exact ⟨trivial, .ty "list", pe_bltn hg hm (by decide +kernel) rfl (by decide) (by decide), .ty _⟩
theorem pty_own {c : Nat} {C : ClsI} {pos : Pos} (g : Gd G W cf lv X) (hC : G.P.cls[c]? = some C) (hg : Gl X C.name) (hd : (C.name == ("__debug__" : Str)) = false) : PTy X G (.Name C.name pos) (.own c) :=
  ⟨⟨C, hC⟩, .ref (G.cls c), pe_glob hg (g.fa.cls c C hC).gl rfl hd, .own _⟩
theorem gE_isi {a tex : Expr} {t : TyK} {p pos : Pos} {ma : En → R (Vl × En)} (g : Gd G W cf lv X) (hg : Gl X "isinstance") (hm : X.mg "isinstance" = none) (ha : PE X a (tE G W ma)) (hty : PTy X G tex t)
    (he : starEach [a, tex] X.env = (false, eval a X.env) :: starEach [tex] X.env) (he2 : starEach [tex] X.env = (false, eval tex X.env) :: starEach [] X.env) (hpl : (backTo pos (starEach [tex] X.env)).any (·.1) = false) :
    PE X (.Call (.Name "isinstance" p) [a, tex] [] pos) (tE G W fun σ => bnd (ma σ) fun va σ => bnd (pk (hold va) σ) fun x σ => lift ((isiD t x).map fun b => Vl.sh (.bl b)) σ) := by
  obtain ⟨ht, c, hc, hcv⟩ := hty
  refine PE.imp (pe_callB call_isi hg hm (by decide +kernel) (pa_cons ha (pa_cons hc pa_nil he2) he) (by decide) (by decide) he hpl) fun σ H Q ⟨F, e, S, h⟩ => ?_
  refine oneI (Post := fun c r => PostE G W c Q r) PostE.hx (fun _ z => z) (fun h s e => PostE.next h s e) S h fun F1 H1 e1 x v st S1 rx h1 => ?_
  cases hi : isiD t x with
  | exc z => unfold isiD at hi; split at hi <;> cases hi
  | stuck => rw [hi] at h1; exact h1.elim
  | ok b =>
    rw [hi] at h1
    obtain ⟨ty, hk⟩ := kit_ok g ht S1.sub rx hi
    exact ⟨v, c, tyVal G x, tyU G t, b, rfl, hcv, ty, hk, PostE.bl S1 h1⟩
theorem gE_isi2 {a te ue : Expr} {t u : TyK} {n : Nat} {p tpos pos : Pos} {ma : En → R (Vl × En)} (g : Gd G W cf lv X) (hg : Gl X "isinstance") (hm : X.mg "isinstance" = none) (ha : PE X a (tE G W ma)) (hty : PTy X G te t) (huy : PTy X G ue u)
    (he : starEach [a, .Tuple [te, ue] n tpos] X.env = (false, eval a X.env) :: starEach [.Tuple [te, ue] n tpos] X.env) (he2 : starEach [.Tuple [te, ue] n tpos] X.env = (false, eval (.Tuple [te, ue] n tpos) X.env) :: starEach [] X.env) (hpl : (backTo pos (starEach [.Tuple [te, ue] n tpos] X.env)).any (·.1) = false)
    (h3 : starEach [te, ue] X.env = (false, eval te X.env) :: starEach [ue] X.env) (h4 : starEach [ue] X.env = (false, eval ue X.env) :: starEach [] X.env) :
    PE X (.Call (.Name "isinstance" p) [a, .Tuple [te, ue] n tpos] [] pos) (tE G W fun σ => bnd (ma σ) fun va σ => bnd (pk (hold va) σ) fun x σ => lift ((isiD t x).bind fun a => (isiD u x).map fun b => Vl.sh (.bl (a || b))) σ) := by
  obtain ⟨ht, c, hc, hcv⟩ := hty
  obtain ⟨hu, d, hd, hdv⟩ := huy
  refine PE.imp (pe_callB call_isiT hg hm (by decide +kernel) (pa_cons ha (pa_cons (pe_tup (pa_cons hc (pa_cons hd pa_nil h4) h3)) pa_nil he2) he) (by decide) (by decide) he hpl) fun σ H Q ⟨F, e, S, h⟩ => ?_
  refine oneI (Post := fun c r => PostE G W c Q r) PostE.hx (fun _ z => z) (fun h s e => PostE.next h s e) S h fun F1 H1 e1 x v st S1 rx h1 => ?_
  cases hi : isiD t x with
  | exc z => unfold isiD at hi; split at hi <;> cases hi
  | stuck => rw [hi] at h1; exact h1.elim
  | ok b =>
    rw [hi, R.bind_ok] at h1
    cases hj : isiD u x with
    | exc z => unfold isiD at hj; split at hj <;> cases hj
    | stuck => rw [hj] at h1; exact h1.elim
    | ok b2 =>
      rw [hj] at h1
      refine ⟨by show 2 ≤ sizeLine; decide, fun q hq => ?_⟩
      have sv : StepV F1 H1 F1 (upd H1 q (.tup [c, d])) := StepV.new0 S1.sub hq
      have S2 := sv.sim S1
      have rx2 : Rd2 G F1 (upd H1 q (.tup [c, d])) x v := by
        rcases rx with z | ⟨ds, a, e1, e2, vs, e3, e4⟩
        · exact .inl z
        · exact .inr ⟨ds, a, e1, e2, vs, sv.h _ _ e3, e4⟩
      obtain ⟨ty, hk⟩ := kit_ok g ht S2.sub rx2 hi
      obtain ⟨_, hk2⟩ := kit_ok g hu S2.sub rx2 hj
      refine ⟨v, q, [c, d], tyVal G x, [tyU G t, tyU G u], b || b2, rfl, upd_same, .cons hcv (.cons hdv .nil), ty, ?_, PostE.bl S2 (PostE.next h1 sv.step rfl)⟩
      refine kitAny_cons hk (fun e => ?_) (fun e => by rw [e]; rfl)
      subst e
      refine kitAny_cons hk2 (fun e => ?_) (fun e => by rw [e]; rfl)
      subst e
      exact kitAny_nil
end
end PV
set_option Elab.async false
set_option linter.all false
set_option maxRecDepth 100000
namespace PV
open PySem PySem.Spec PyProof.Rows L2
section
variable {G : Gb} {W : XK} {F F' H H' : Hp} {σ : Sg} {e e' : En}
/-! ## cells by place -/
theorem CellOk.at {x : Cell} {s : Option (Option V)} (h : CellOk G F H s x) (ho : x.own = true) : ∃ a, s = some (some (.ref a)) ∧ H a ≠ none ∧ F a = none := by
  cases x with
  | un => cases ho
  | sh d => cases ho
  | ow ds => obtain ⟨a, q1, vs, q2, q3, _⟩ := h; exact ⟨a, q1, by rw [q2]; simp, q3⟩
  | lk ds => obtain ⟨a, q1, vs, q2, q3, _⟩ := h; exact ⟨a, q1, by rw [q2]; simp, q3⟩
  | io ds => obtain ⟨a, q1, vs, q2, q3, _⟩ := h; exact ⟨a, q1, by rw [q2]; simp, q3⟩
  | bld c ds => obtain ⟨a, q1, dx, vs, q2, _, q3, _⟩ := h; exact ⟨a, q1, by rw [q2]; simp, q3⟩
/-- a cell stays when its own object stays -/
theorem CellOk.stay {x : Cell} {s : Option (Option V)} (h : CellOk G F H s x) (sm : Same F F') (k : x.own = true → ∀ a, s = some (some (.ref a)) → (∀ o, H a = some o → H' a = some o) ∧ (F a = none → F' a = none)) : CellOk G F' H' s x := by
  cases x with
  | un => trivial
  | sh d => obtain ⟨v, q1, q2⟩ := h; exact ⟨v, q1, Rep.mono sm q2⟩
  | ow ds => obtain ⟨a, q1, vs, q2, q3, q4⟩ := h; obtain ⟨k1, k2⟩ := k rfl a q1; exact ⟨a, q1, vs, k1 _ q2, k2 q3, q4.mono sm⟩
  | lk ds => obtain ⟨a, q1, vs, q2, q3, q4⟩ := h; obtain ⟨k1, k2⟩ := k rfl a q1; exact ⟨a, q1, vs, k1 _ q2, k2 q3, q4.mono sm⟩
  | io ds => obtain ⟨a, q1, vs, q2, q3, q4⟩ := h; obtain ⟨k1, k2⟩ := k rfl a q1; exact ⟨a, q1, vs, k1 _ q2, k2 q3, q4.mono sm⟩
  | bld c ds => obtain ⟨a, q1, dx, vs, q2, q0, q3, q4⟩ := h; obtain ⟨k1, k2⟩ := k rfl a q1; exact ⟨a, q1, dx, vs, k1 _ q2, q0, k2 q3, q4.mono sm⟩
/-- the general way to a new configuration: the same heap; each slot's cell is told -/
theorem Sim.slots {σ' : Sg} (S : Sim G ⟨F, σ, H, e⟩) (hl : e'.length = σ'.length)
    (h : ∀ (i : Nat) (x : Cell), e'[i]? = some x → CellOk G F H σ'[i]? x)
    (hi : ∀ (i j : Nat) (x y : Cell) (a : Addr), e'[i]? = some x → e'[j]? = some y → x.own = true → y.own = true → σ'[i]? = some (some (.ref a)) → σ'[j]? = some (some (.ref a)) → i = j) : Sim G ⟨F, σ', H, e'⟩ := ⟨hl, S.sub, h, hi⟩
theorem setc_eq {i : Nat} {c : Cell} {e e' : En} (h : setc i c e = .ok e') : e' = e.set i c ∧ ∃ x, e[i]? = some x ∧ (∀ ds, x ≠ .lk ds) ∧ (∀ ds, x ≠ .io ds) ∧ ∀ k ds, x ≠ .bld k ds := by
  unfold setc at h
  cases hx : e[i]? with
  | none => simp only [hx] at h; cases h
  | some x =>
    simp only [hx] at h
    cases x <;> first | (cases h; exact ⟨rfl, _, rfl, by simp, by simp, by simp⟩) | cases h
/-- a slot is stored: its new cell holds what the value says -/
theorem Sim.setc {i : Nat} {c : Cell} {v : V} (S : Sim G ⟨F, σ, H, e⟩) (h : setc i c e = .ok e') (hc : CellOk G F H (some (some v)) c) (hw : c.own = true → ∀ a, v = .ref a → ¬ Cf.W ⟨F, σ, H, e⟩ a) :
    Sim G ⟨F, σ.set i (some v), H, e'⟩ := by
  obtain ⟨rfl, x, hx, _⟩ := setc_eq h
  have hi : i < e.length := (List.getElem?_eq_some_iff.mp hx).1
  have hi' : i < σ.length := by have := S.len; exact this ▸ hi
  have g1 : ∀ j, j ≠ i → (e.set i c)[j]? = e[j]? := fun j hj => List.getElem?_set_ne (Ne.symm hj)
  have g2 : ∀ j, j ≠ i → (σ.set i (some v))[j]? = σ[j]? := fun j hj => List.getElem?_set_ne (Ne.symm hj)
  refine S.slots (by simpa using S.len) (fun j y hy => ?_) fun j1 j2 y1 y2 a h1 h2 o1 o2 t1 t2 => ?_
  · by_cases z : j = i
    · subst z
      rw [List.getElem?_set_self hi] at hy
      rw [List.getElem?_set_self hi']
      cases hy
      exact hc
    · rw [g1 j z] at hy
      rw [g2 j z]
      exact S.cell j y hy
  · have no : ∀ j y, j ≠ i → (e.set i c)[j]? = some y → y.own = true → (σ.set i (some v))[j]? = some (some (.ref a)) → c.own = true → v = .ref a → False := fun j y z hy ho hs hc hv =>
      hw hc a hv ⟨j, y, by rw [← g1 j z]; exact hy, ho, by rw [← g2 j z]; exact hs⟩
    by_cases z1 : j1 = i
    · by_cases z2 : j2 = i
      · rw [z1, z2]
      · exfalso
        subst z1
        rw [List.getElem?_set_self hi] at h1
        rw [List.getElem?_set_self hi'] at t1
        cases h1
        cases t1
        exact no j2 y2 z2 h2 o2 t2 o1 rfl
    · by_cases z2 : j2 = i
      · exfalso
        subst z2
        rw [List.getElem?_set_self hi] at h2
        rw [List.getElem?_set_self hi'] at t2
        cases h2
        cases t2
        exact no j1 y1 z1 h1 o1 t1 o2 rfl
      · rw [g1 j1 z1] at h1
        rw [g1 j2 z2] at h2
        rw [g2 j1 z1] at t1
        rw [g2 j2 z2] at t2
        exact S.inj j1 j2 y1 y2 a h1 h2 o1 o2 t1 t2
theorem Step.setc {c0 : Cf} {i : Nat} {c : Cell} {v : V} (st : Step G c0 ⟨F, σ, H, e⟩) (h : setc i c e = .ok e') (hl : e.length = σ.length) (ht : c.tag = none) (hw : c.own = true → ∀ a, v = .ref a → c0.H a = none) : Step G c0 ⟨F, σ.set i (some v), H, e'⟩ := by
  obtain ⟨rfl, x, hx, hnl, _⟩ := setc_eq h
  have hi : i < e.length := (List.getElem?_eq_some_iff.mp hx).1
  have hi' : i < σ.length := hl ▸ hi
  have g1 : ∀ j, j ≠ i → (e.set i c)[j]? = e[j]? := fun j hj => List.getElem?_set_ne (Ne.symm hj)
  have g2 : ∀ j, j ≠ i → (σ.set i (some v))[j]? = σ[j]? := fun j hj => List.getElem?_set_ne (Ne.symm hj)
  refine ⟨st.f, st.frame, st.new, st.dom, fun b hb => ?_, fun j ds u hj hu => ?_, fun j y tg hj hy => ?_⟩
  · obtain ⟨j, y, h1, h2, h3⟩ := hb
    have h1 : (e.set i c)[j]? = some y := h1
    have h3 : (σ.set i (some v))[j]? = some (some (.ref b)) := h3
    by_cases z : j = i
    · subst z
      rw [List.getElem?_set_self hi] at h1
      rw [List.getElem?_set_self hi'] at h3
      cases h1
      cases h3
      exact .inr (hw h2 b rfl)
    · rw [g1 j z] at h1
      rw [g2 j z] at h3
      exact st.w b ⟨j, y, h1, h2, h3⟩
  · rcases st.lk j ds u hj hu with ⟨q1, q2⟩ | q
    · left
      have q1 : e[j]? = some (.lk ds) := q1
      have z : j ≠ i := fun z => by
        subst z
        rw [hx] at q1
        cases q1
        exact hnl _ rfl
      exact ⟨by show (e.set i c)[j]? = _; rw [g1 j z]; exact q1, by show (σ.set i (some v))[j]? = _; rw [g2 j z]; exact q2⟩
    · exact .inr q
  · have hj : (e.set i c)[j]? = some y := hj
    by_cases z : j = i
    · subst z
      rw [List.getElem?_set_self hi] at hj
      cases hj
      rw [ht] at hy; cases hy
    · rw [g1 j z] at hj
      show ∃ y, _ ∧ _ ∧ (σ.set i (some v))[j]? = _
      rw [g2 j z]
      exact st.io j y tg hj hy
/-! ## locks -/
theorem lock_ne {i j : Nat} (z : j ≠ i) : (lock i e)[j]? = e[j]? := by
  unfold lock
  split
  · exact List.getElem?_set_ne (Ne.symm z)
  · rfl
theorem lock_get {i j : Nat} : (lock i e)[j]? = match e[j]? with
    | some (.ow ds) => if j = i then some (.lk ds) else some (.ow ds)
    | x => x := by
  by_cases z : j = i
  · subst z
    unfold lock
    cases hx : e[j]? with
    | none => simp [hx]
    | some x =>
      have hi : j < e.length := (List.getElem?_eq_some_iff.mp hx).1
      cases x <;> simp [hx, List.getElem?_set_self hi]
  · rw [lock_ne z]
    cases hx : e[j]? with
    | none => rfl
    | some x => cases x <;> simp [z]
theorem lock_len {i : Nat} : (lock i e).length = e.length := by
  unfold lock
  split <;> simp
theorem unlock_ne {i j : Nat} (z : j ≠ i) : (unlock i e)[j]? = e[j]? := by
  unfold unlock
  split
  · exact List.getElem?_set_ne (Ne.symm z)
  · rfl
theorem unlock_get {i j : Nat} : (unlock i e)[j]? = match e[j]? with
    | some (.lk ds) => if j = i then some (.ow ds) else some (.lk ds)
    | x => x := by
  by_cases z : j = i
  · subst z
    unfold unlock
    cases hx : e[j]? with
    | none => simp [hx]
    | some x =>
      have hi : j < e.length := (List.getElem?_eq_some_iff.mp hx).1
      cases x <;> simp [hx, List.getElem?_set_self hi]
  · rw [unlock_ne z]
    cases hx : e[j]? with
    | none => rfl
    | some x => cases x <;> simp [z]
theorem unlock_len {i : Nat} : (unlock i e).length = e.length := by
  unfold unlock
  split <;> simp
/-- the cells are the same but for locks -/
theorem lock_cell {i j : Nat} {y : Cell} (h : (lock i e)[j]? = some y) : ∃ x, e[j]? = some x ∧ (x = y ∨ ∃ ds, x = .ow ds ∧ y = .lk ds) := by
  rw [lock_get] at h
  split at h
  · rename_i ds hx
    split at h
    · cases h; exact ⟨_, hx, .inr ⟨_, rfl, rfl⟩⟩
    · cases h; exact ⟨_, hx, .inl rfl⟩
  · exact ⟨y, h, .inl rfl⟩
theorem unlock_cell {i j : Nat} {y : Cell} (h : (unlock i e)[j]? = some y) : ∃ x, e[j]? = some x ∧ (x = y ∨ ∃ ds, j = i ∧ x = .lk ds ∧ y = .ow ds) := by
  rw [unlock_get] at h
  split at h
  · rename_i ds hx
    split at h
    · rename_i z; cases h; exact ⟨_, hx, .inr ⟨_, z, rfl, rfl⟩⟩
    · cases h; exact ⟨_, hx, .inl rfl⟩
  · exact ⟨y, h, .inl rfl⟩
theorem Sim.lock {i : Nat} (S : Sim G ⟨F, σ, H, e⟩) : Sim G ⟨F, σ, H, lock i e⟩ := by
  refine S.slots (by rw [lock_len]; exact S.len) (fun j y hy => ?_) fun j1 j2 y1 y2 a h1 h2 o1 o2 t1 t2 => ?_
  · obtain ⟨x, hx, z | ⟨ds, z1, z2⟩⟩ := lock_cell hy
    · subst z; exact S.cell j x hx
    · subst z1 z2
      have k : CellOk G F H σ[j]? (.ow ds) := S.cell j _ hx
      exact k
  · obtain ⟨x1, hx1, z1⟩ := lock_cell h1
    obtain ⟨x2, hx2, z2⟩ := lock_cell h2
    refine S.inj j1 j2 x1 x2 a hx1 hx2 ?_ ?_ t1 t2
    · rcases z1 with z | ⟨ds, z, _⟩
      · rw [z]; exact o1
      · rw [z]; rfl
    · rcases z2 with z | ⟨ds, z, _⟩
      · rw [z]; exact o2
      · rw [z]; rfl
theorem Step.lock {c0 : Cf} {i : Nat} (st : Step G c0 ⟨F, σ, H, e⟩) : Step G c0 ⟨F, σ, H, PV.lock i e⟩ := by
  refine ⟨st.f, st.frame, st.new, st.dom, fun b hb => ?_, fun j ds u hj hu => ?_, fun j y tg hj hy => ?_⟩
  · obtain ⟨j, y, h1, h2, h3⟩ := hb
    obtain ⟨x, hx, z⟩ := lock_cell (show (PV.lock i e)[j]? = some y from h1)
    refine st.w b ⟨j, x, hx, ?_, h3⟩
    rcases z with z | ⟨ds, z, _⟩
    · rw [z]; exact h2
    · rw [z]; rfl
  · rcases st.lk j ds u hj hu with ⟨q1, q2⟩ | q
    · left
      have q1 : e[j]? = some (.lk ds) := q1
      exact ⟨by show (PV.lock i e)[j]? = _; rw [lock_get, q1], q2⟩
    · exact .inr q
  · obtain ⟨x, hx, z⟩ := lock_cell (show (PV.lock i e)[j]? = some y from hj)
    rcases z with z | ⟨ds, _, z⟩
    · subst z; exact st.io j x tg hx hy
    · subst z; cases hy
theorem Sim.unlock {i : Nat} (S : Sim G ⟨F, σ, H, e⟩) : Sim G ⟨F, σ, H, PV.unlock i e⟩ := by
  refine S.slots (by rw [unlock_len]; exact S.len) (fun j y hy => ?_) fun j1 j2 y1 y2 a h1 h2 o1 o2 t1 t2 => ?_
  · obtain ⟨x, hx, z | ⟨ds, _, z1, z2⟩⟩ := unlock_cell hy
    · subst z; exact S.cell j x hx
    · subst z1 z2
      have k : CellOk G F H σ[j]? (.lk ds) := S.cell j _ hx
      exact k
  · obtain ⟨x1, hx1, z1⟩ := unlock_cell h1
    obtain ⟨x2, hx2, z2⟩ := unlock_cell h2
    refine S.inj j1 j2 x1 x2 a hx1 hx2 ?_ ?_ t1 t2
    · rcases z1 with z | ⟨ds, _, z, _⟩
      · rw [z]; exact o1
      · rw [z]; rfl
    · rcases z2 with z | ⟨ds, _, z, _⟩
      · rw [z]; exact o2
      · rw [z]; rfl
/-- a lock that this walk laid (the slot was not locked before) is taken off -/
theorem Step.unlock {c0 : Cf} {i : Nat} (st : Step G c0 ⟨F, σ, H, e⟩) (hn : ∀ ds, c0.e[i]? ≠ some (.lk ds)) : Step G c0 ⟨F, σ, H, PV.unlock i e⟩ := by
  refine ⟨st.f, st.frame, st.new, st.dom, fun b hb => ?_, fun j ds u hj hu => ?_, fun j y tg hj hy => ?_⟩
  · obtain ⟨j, y, h1, h2, h3⟩ := hb
    obtain ⟨x, hx, z⟩ := unlock_cell (show (PV.unlock i e)[j]? = some y from h1)
    refine st.w b ⟨j, x, hx, ?_, h3⟩
    rcases z with z | ⟨ds, _, z, _⟩
    · rw [z]; exact h2
    · rw [z]; rfl
  · rcases st.lk j ds u hj hu with ⟨q1, q2⟩ | q
    · left
      have q1 : e[j]? = some (.lk ds) := q1
      have z : j ≠ i := fun z => hn ds (by rw [← z]; exact hj)
      exact ⟨by show (PV.unlock i e)[j]? = _; rw [unlock_get, q1]; simp [z], q2⟩
    · exact .inr q
  · obtain ⟨x, hx, z⟩ := unlock_cell (show (PV.unlock i e)[j]? = some y from hj)
    rcases z with z | ⟨ds, _, _, z⟩
    · subst z; exact st.io j x tg hx hy
    · subst z; cases hy
theorem Sim.locks {ls : List Nat} (S : Sim G ⟨F, σ, H, e⟩) : Sim G ⟨F, σ, H, ls.foldr PV.lock e⟩ := by
  induction ls with
  | nil => exact S
  | cons i r ih => exact ih.lock
theorem Step.locks {c0 : Cf} {ls : List Nat} (st : Step G c0 ⟨F, σ, H, e⟩) : Step G c0 ⟨F, σ, H, ls.foldr PV.lock e⟩ := by
  induction ls with
  | nil => exact st
  | cons i r ih => exact ih.lock
theorem Sim.unlocks {ls : List Nat} (S : Sim G ⟨F, σ, H, e⟩) : Sim G ⟨F, σ, H, ls.foldr PV.unlock e⟩ := by
  induction ls with
  | nil => exact S
  | cons i r ih => exact ih.unlock
theorem Step.unlocks {c0 : Cf} {ls : List Nat} (st : Step G c0 ⟨F, σ, H, e⟩) (hn : ∀ i ∈ ls, ∀ ds, c0.e[i]? ≠ some (.lk ds)) : Step G c0 ⟨F, σ, H, ls.foldr PV.unlock e⟩ := by
  induction ls with
  | nil => exact st
  | cons i r ih => exact (ih fun j hj => hn j (List.mem_cons_of_mem _ hj)).unlock (hn i List.mem_cons_self)
theorem W.unlocks {ls : List Nat} {a : Addr} (h : Cf.W ⟨F, σ, H, ls.foldr PV.unlock e⟩ a) : Cf.W ⟨F, σ, H, e⟩ a := by
  induction ls with
  | nil => exact h
  | cons i r ih =>
    obtain ⟨j, y, h1, h2, h3⟩ := h
    obtain ⟨x, hx, z⟩ := unlock_cell (show (PV.unlock i (r.foldr PV.unlock e))[j]? = some y from h1)
    refine ih ⟨j, x, hx, ?_, h3⟩
    rcases z with z | ⟨ds, _, z, _⟩
    · rw [z]; exact h2
    · rw [z]; rfl
end
end PV
set_option Elab.async false
set_option linter.all false
set_option maxRecDepth 100000
namespace PV
open PySem PySem.Spec PyProof.Rows L2
section
variable {G : Gb} {W : XK} {F F' H H' : Hp} {σ σ' : Sg} {e e' : En}
/-! ## own names are wiped, and laid back -/
theorem wipe_get {vs : List Nat} {j : Nat} : (wipe σ vs)[j]? = if j ∈ vs then σ[j]?.map fun _ => none else σ[j]? := by
  induction vs with
  | nil => simp [wipe]
  | cons v vs ih =>
    unfold wipe
    by_cases z : v = j
    · subst z
      by_cases hv : v < σ.length
      · rw [List.getElem?_set_self (by rw [wipe_length]; exact hv)]
        simp [List.getElem?_eq_getElem hv]
      · rw [List.getElem?_eq_none (by rw [List.length_set, wipe_length]; omega)]
        simp [List.getElem?_eq_none (show σ.length ≤ v by omega)]
    · rw [List.getElem?_set_ne z, ih]
      have : j ∈ v :: vs ↔ j ∈ vs := by simp [Ne.symm z]
      simp only [this]
theorem wipeE_len {vs : List Nat} : (wipeE e vs).length = e.length := by
  induction vs with
  | nil => rfl
  | cons v vs ih => unfold wipeE; rw [List.length_set, ih]
theorem wipeE_get {vs : List Nat} {j : Nat} : (wipeE e vs)[j]? = if j ∈ vs then e[j]?.map fun _ => .un else e[j]? := by
  induction vs with
  | nil => simp [wipeE]
  | cons v vs ih =>
    unfold wipeE
    by_cases z : v = j
    · subst z
      by_cases hv : v < e.length
      · rw [List.getElem?_set_self (by rw [wipeE_len]; exact hv)]
        simp [List.getElem?_eq_getElem hv]
      · rw [List.getElem?_eq_none (by rw [List.length_set, wipeE_len]; omega)]
        simp [List.getElem?_eq_none (show e.length ≤ v by omega)]
    · rw [List.getElem?_set_ne z, ih]
      have : j ∈ v :: vs ↔ j ∈ vs := by simp [Ne.symm z]
      simp only [this]
theorem back_len {e0 : En} {vs : List Nat} : (back e0 vs e).length = e.length := by
  induction vs with
  | nil => rfl
  | cons v vs ih => unfold back; rw [List.length_set, ih]
theorem back_get {e0 : En} {vs : List Nat} {j : Nat} (hl : e0.length = e.length) : (back e0 vs e)[j]? = if j ∈ vs then e0[j]? else e[j]? := by
  induction vs with
  | nil => simp [back]
  | cons v vs ih =>
    unfold back
    by_cases z : v = j
    · subst z
      by_cases hv : v < e.length
      · rw [List.getElem?_set_self (by rw [back_len]; exact hv)]
        simp [List.getElem?_eq_getElem (hl ▸ hv : v < e0.length)]
      · rw [List.getElem?_eq_none (by rw [List.length_set, back_len]; omega)]
        simp [List.getElem?_eq_none (show e0.length ≤ v by omega)]
    · rw [List.getElem?_set_ne z, ih]
      have : j ∈ v :: vs ↔ j ∈ vs := by simp [Ne.symm z]
      simp only [this]
theorem wipe_wipe {vs : List Nat} (hl : σ'.length = σ.length) (h : ∀ j, j ∉ vs → σ'[j]? = σ[j]?) : wipe σ' vs = wipe σ vs := by
  apply List.ext_getElem?
  intro j
  rw [wipe_get, wipe_get]
  by_cases hj : j ∈ vs
  · rw [if_pos hj, if_pos hj]
    by_cases q : j < σ.length
    · rw [List.getElem?_eq_getElem q, List.getElem?_eq_getElem (hl ▸ q)]; rfl
    · rw [List.getElem?_eq_none (by omega), List.getElem?_eq_none (by omega)]
  · rw [if_neg hj, if_neg hj]; exact h j hj
theorem wipeE_cell {vs : List Nat} {j : Nat} {y : Cell} (h : (wipeE e vs)[j]? = some y) (ho : y ≠ .un) : j ∉ vs ∧ e[j]? = some y := by
  rw [wipeE_get] at h
  split at h
  · rw [Option.map_eq_some_iff] at h
    obtain ⟨_, _, z⟩ := h
    exact absurd z.symm ho
  · rename_i z; exact ⟨z, h⟩
theorem Sim.wipe {vs : List Nat} (S : Sim G ⟨F, σ, H, e⟩) : Sim G ⟨F, wipe σ vs, H, wipeE e vs⟩ := by
  refine S.slots (by rw [wipeE_len, wipe_length]; exact S.len) (fun j y hy => ?_) fun j1 j2 y1 y2 a h1 h2 o1 o2 t1 t2 => ?_
  · by_cases hu : y = .un
    · subst hu; trivial
    · obtain ⟨hj, hy⟩ := wipeE_cell hy hu
      rw [wipe_get, if_neg hj]
      exact S.cell j y hy
  · obtain ⟨k1, h1⟩ := wipeE_cell h1 (fun z => by subst z; cases o1)
    obtain ⟨k2, h2⟩ := wipeE_cell h2 (fun z => by subst z; cases o2)
    rw [wipe_get, if_neg k1] at t1
    rw [wipe_get, if_neg k2] at t2
    exact S.inj j1 j2 y1 y2 a h1 h2 o1 o2 t1 t2
theorem Step.wipe {c0 : Cf} {vs : List Nat} (st : Step G c0 ⟨F, σ, H, e⟩) (hn : ∀ i ∈ vs, ∀ ds, c0.e[i]? ≠ some (.lk ds)) : Step G c0 ⟨F, L2.wipe σ vs, H, wipeE e vs⟩ := by
  refine ⟨st.f, st.frame, st.new, st.dom, fun b hb => ?_, fun j ds u hj hu => ?_, fun j y tg hj hy => ?_⟩
  · obtain ⟨j, y, h1, h2, h3⟩ := hb
    obtain ⟨k1, h1⟩ := wipeE_cell h1 (fun z => by subst z; cases h2)
    have h3 : (L2.wipe σ vs)[j]? = some (some (.ref b)) := h3
    rw [wipe_get, if_neg k1] at h3
    exact st.w b ⟨j, y, h1, h2, h3⟩
  · have hv : j ∉ vs := fun z => hn j z ds hj
    rcases st.lk j ds u hj hu with ⟨q1, q2⟩ | q
    · left
      exact ⟨by show (wipeE e vs)[j]? = _; rw [wipeE_get, if_neg hv]; exact q1, by show (L2.wipe σ vs)[j]? = _; rw [wipe_get, if_neg hv]; exact q2⟩
    · exact .inr q
  · obtain ⟨k1, h1⟩ := wipeE_cell hj (fun z => by subst z; cases hy)
    obtain ⟨x, h2, h3, h4⟩ := st.io j y tg h1 hy
    exact ⟨x, h2, h3, by show (L2.wipe σ vs)[j]? = _; rw [wipe_get, if_neg k1]; exact h4⟩
theorem noLk_ne {vs : List Nat} (h : noLk vs e = true) : ∀ i ∈ vs, ∀ ds, e[i]? ≠ some (.lk ds) := fun i hi ds z => by
  have q := (List.all_eq_true.mp h) i hi
  rw [z] at q
  cases q
/-- the block is over: its own slots are what they were -/
theorem restore {vs : List Nat} (S : Sim G ⟨F, σ, H, e⟩) (hn : ∀ i ∈ vs, ∀ ds, e[i]? ≠ some (.lk ds)) (st : Step G ⟨F, L2.wipe σ vs, H, wipeE e vs⟩ ⟨F', L2.wipe σ vs, H', wipeE e' vs⟩) (S' : Sim G ⟨F', L2.wipe σ vs, H', wipeE e' vs⟩) :
    Step G ⟨F, σ, H, e⟩ ⟨F', σ, H', PV.back e vs e'⟩ ∧ Sim G ⟨F', σ, H', PV.back e vs e'⟩ ∧ ∀ b, Cf.W ⟨F', σ, H', PV.back e vs e'⟩ b → Cf.W ⟨F', L2.wipe σ vs, H', wipeE e' vs⟩ b ∨ H b ≠ none := by
  have hl : e.length = e'.length := by
    have l1 : e.length = σ.length := S.len
    have l2 : (wipeE e' vs).length = (L2.wipe σ vs).length := S'.len
    rw [wipeE_len, wipe_length] at l2
    exact l1.trans l2.symm
  have out : ∀ j y, (PV.back e vs e')[j]? = some y → (j ∈ vs ∧ e[j]? = some y) ∨ (j ∉ vs ∧ e'[j]? = some y ∧ (wipeE e' vs)[j]? = some y) := fun j y h => by
    rw [back_get hl] at h
    by_cases z : j ∈ vs
    · rw [if_pos z] at h; exact .inl ⟨z, h⟩
    · rw [if_neg z] at h; exact .inr ⟨z, h, by rw [wipeE_get, if_neg z]; exact h⟩
  -- an own slot's object is nobody's in the block
  have apart : ∀ j y a, j ∈ vs → e[j]? = some y → y.own = true → σ[j]? = some (some (.ref a)) → ¬ Cf.W ⟨F, L2.wipe σ vs, H, wipeE e vs⟩ a := fun j y a hj hy ho hs ⟨i, x, h1, h2, h3⟩ => by
    obtain ⟨k1, h1⟩ := wipeE_cell h1 (fun z => by subst z; cases h2)
    have h3 : (L2.wipe σ vs)[i]? = some (some (.ref a)) := h3
    rw [wipe_get, if_neg k1] at h3
    exact k1 (S.inj i j x y a h1 hy h2 ho h3 hs ▸ hj)
  have sub : ∀ b, Cf.W ⟨F, L2.wipe σ vs, H, wipeE e vs⟩ b → Cf.W ⟨F, σ, H, e⟩ b := fun b ⟨i, x, h1, h2, h3⟩ => by
    obtain ⟨k1, h1⟩ := wipeE_cell h1 (fun z => by subst z; cases h2)
    have h3 : (L2.wipe σ vs)[i]? = some (some (.ref b)) := h3
    rw [wipe_get, if_neg k1] at h3
    exact ⟨i, x, h1, h2, h3⟩
  have apart' : ∀ j y a, j ∈ vs → e[j]? = some y → y.own = true → σ[j]? = some (some (.ref a)) → H a ≠ none ∧ F a = none ∧ ¬ Cf.W ⟨F', L2.wipe σ vs, H', wipeE e' vs⟩ a := fun j y a hj hy ho hs => by
    obtain ⟨b, q1, q2, q3⟩ := (S.cell j y hy).at ho
    have q1 : σ[j]? = some (some (.ref b)) := q1
    rw [hs] at q1; cases q1
    exact ⟨q2, q3, fun w => (st.w a w).elim (apart j y a hj hy ho hs) q2⟩
  refine ⟨⟨st.f, fun b o hb hw => st.frame b o hb fun z => hw (sub b z), fun b h h' => (st.new b h h').imp id (sub b), st.dom, fun b hb => ?_, fun j ds u hj hu => ?_, fun j y tg hj hy => ?_⟩, ⟨?_, S'.sub, fun j y hy => ?_, fun j1 j2 y1 y2 a h1 h2 o1 o2 t1 t2 => ?_⟩, fun b hb => ?_⟩
  · obtain ⟨j, y, h1, h2, h3⟩ := hb
    rcases out j y h1 with ⟨z, h1⟩ | ⟨z, h1, h1'⟩
    · exact .inl ⟨j, y, h1, h2, h3⟩
    · exact (st.w b ⟨j, y, h1', h2, by show (L2.wipe σ vs)[j]? = _; rw [wipe_get, if_neg z]; exact h3⟩).imp (sub b) id
  · have hv : j ∉ vs := fun z => hn j z ds hj
    rcases st.lk j ds u (by show (wipeE e vs)[j]? = _; rw [wipeE_get, if_neg hv]; exact hj) (by show (L2.wipe σ vs)[j]? = _; rw [wipe_get, if_neg hv]; exact hu) with ⟨q1, q2⟩ | q
    · left
      have q1 : (wipeE e' vs)[j]? = some (.lk ds) := q1
      rw [wipeE_get, if_neg hv] at q1
      exact ⟨by show (PV.back e vs e')[j]? = _; rw [back_get hl, if_neg hv]; exact q1, hu⟩
    · exact .inr q
  · rcases out j y hj with ⟨z, h1⟩ | ⟨z, h1, h1'⟩
    · exact ⟨y, h1, hy, rfl⟩
    · obtain ⟨x, k1, k2, k3⟩ := st.io j y tg h1' hy
      obtain ⟨_, k1⟩ := wipeE_cell k1 (fun z => by subst z; cases k2)
      exact ⟨x, k1, k2, rfl⟩
  · rw [show (Cf.mk F' σ H' (PV.back e vs e')).e.length = (PV.back e vs e').length from rfl, back_len, ← hl]; exact S.len
  · rcases out j y hy with ⟨z, h1⟩ | ⟨z, h1, h1'⟩
    · refine (S.cell j y h1).stay st.f fun ho a hs => ?_
      obtain ⟨q1, q2, q3⟩ := apart' j y a z h1 ho hs
      refine ⟨fun o ho' => st.frame a o ho' (apart j y a z h1 ho hs), fun hf => ?_⟩
      show F' a = none
      cases q : F' a with
      | none => rfl
      | some o => exact ((st.new a q2 (by show F' a ≠ none; rw [q]; simp)).elim q1 (apart j y a z h1 ho hs)).elim
    · have k := S'.cell j y h1'
      rw [show (Cf.mk F' (L2.wipe σ vs) H' (wipeE e' vs)).σ[j]? = (L2.wipe σ vs)[j]? from rfl, wipe_get, if_neg z] at k
      exact k
  · have t1 : σ[j1]? = some (some (.ref a)) := t1
    have t2 : σ[j2]? = some (some (.ref a)) := t2
    have inW : ∀ j y, j ∉ vs → (wipeE e' vs)[j]? = some y → y.own = true → σ[j]? = some (some (.ref a)) → Cf.W ⟨F', L2.wipe σ vs, H', wipeE e' vs⟩ a := fun j y z h ho t => ⟨j, y, h, ho, by show (L2.wipe σ vs)[j]? = _; rw [wipe_get, if_neg z]; exact t⟩
    rcases out j1 y1 h1 with ⟨z1, g1⟩ | ⟨z1, g1, g1'⟩
    · rcases out j2 y2 h2 with ⟨z2, g2⟩ | ⟨z2, g2, g2'⟩
      · exact S.inj j1 j2 y1 y2 a g1 g2 o1 o2 t1 t2
      · exact ((apart' j1 y1 a z1 g1 o1 t1).2.2 (inW j2 y2 z2 g2' o2 t2)).elim
    · rcases out j2 y2 h2 with ⟨z2, g2⟩ | ⟨z2, g2, g2'⟩
      · exact ((apart' j2 y2 a z2 g2 o2 t2).2.2 (inW j1 y1 z1 g1' o1 t1)).elim
      · refine S'.inj j1 j2 y1 y2 a g1' g2' o1 o2 ?_ ?_
        · show (L2.wipe σ vs)[j1]? = _; rw [wipe_get, if_neg z1]; exact t1
        · show (L2.wipe σ vs)[j2]? = _; rw [wipe_get, if_neg z2]; exact t2
  · obtain ⟨j, y, h1, h2, h3⟩ := hb
    rcases out j y h1 with ⟨z, h1⟩ | ⟨z, h1, h1'⟩
    · exact .inr (apart' j y b z h1 h2 h3).1
    · exact .inl ⟨j, y, h1', h2, by show (L2.wipe σ vs)[j]? = _; rw [wipe_get, if_neg z]; exact h3⟩
end
end PV
set_option Elab.async false
set_option linter.all false
set_option maxRecDepth 100000
namespace PV
open PySem PySem.Spec PyProof.Rows L2
/-! ## lists and tuples alike, walked alone, in pairs, with their places -/
def SqK (K : PySem.W.Frag) (b : Bool) (H : Hp) (a : Addr) (xs : List V) : Prop := match b with
  | true => SqL K H a xs
  | false => SqT K H a xs
def itO (b : Bool) (a : Addr) : Obj := match b with
  | true => { cls := .type "list_iterator", data := .fields #[.ref a, .int 0 0] }
  | false => { cls := .type "tuple_iterator", data := .fields #[.ref a, .int 0 0] }
def IsIt (b : Bool) (h : Heap) (it a : Addr) (i : Nat) : Prop := match b with
  | true => h.IsListIter it a i
  | false => h.IsTupleIter it a i
def IsSq (b : Bool) (h : Heap) (a : Addr) (its : Array Value) : Prop := match b with
  | true => h.IsList a its
  | false => h.IsTuple a its
theorem drawsK {prog : Program} {w : World} {A : Around} (hh : A.handled = none) (b : Bool) (it a : Addr) (hne : a ≠ it) (items : Array Value) :
    Draws prog w A it [it, a] items.size (fun i v => items[i]? = some v) (fun i h => IsIt b h it a i ∧ IsSq b h a items) := by
  cases b
  · exact Draws.tuple hh it a hne items
  · exact Draws.list hh it a hne items
theorem beginsK (b : Bool) (a : Addr) (items : Array Value) : Begins (.ref a) (itO b a) fun h => IsSq b h a items := by
  cases b
  · exact begins_tuple a items
  · exact begins_list a items
theorem IsIt.new {b : Bool} {h : Heap} {it a : Addr} (e : h.get? it = some (itO b a)) : IsIt b h it a 0 := by
  cases b
  · exact ⟨_, e, rfl, rfl⟩
  · exact ⟨_, e, rfl, rfl⟩
theorem IsIt.at {b : Bool} {h h' : Heap} {it a : Addr} {i : Nat} (st : IsIt b h it a i) (k : ∀ o, h.get? it = some o → h'.get? it = some o) : IsIt b h' it a i := by
  cases b
  · have st : h.IsTupleIter it a i := st
    exact st.at k
  · have st : h.IsListIter it a i := st
    exact st.at k
theorem IsIt.ob {b : Bool} {h : Heap} {it a : Addr} {i : Nat} (st : IsIt b h it a i) : ∃ o, h.get? it = some o ∧ ∀ v, o.data ≠ .cell v := by
  cases b
  · obtain ⟨o, e, _, d⟩ := (show h.IsTupleIter it a i from st)
    exact ⟨o, e, fun v z => by rw [d] at z; cases z⟩
  · obtain ⟨o, e, _, d⟩ := (show h.IsListIter it a i from st)
    exact ⟨o, e, fun v z => by rw [d] at z; cases z⟩
section
variable {X : Cx} {pins : List (Addr × Obj)} {σ : L2.St} {H : Hp} {s : Shared}
theorem seqK {b : Bool} {a : Addr} {xs : List V} (I : Inv X pins σ H s) (h : SqK X.K b H a xs) : ∃ its, Vals xs its ∧ IsSq b s.heap a its.toArray ∧ a < s.heap.objs.size := by
  cases b
  · obtain ⟨its, rv, p, _⟩ := I.tuple h
    obtain ⟨o, ho, _⟩ := id p
    exact ⟨its, rv, p, Heap.lt_size ho⟩
  · obtain ⟨its, rv, p, _⟩ := I.list h
    exact ⟨its, rv, p.isList, p.lt⟩
theorem seqK_inj {b : Bool} {a : Addr} {xs ys : List V} (I : Inv X pins σ H s) (h : SqK X.K b H a xs) (h' : SqK X.K b H a ys) : xs = ys := by
  cases b
  · exact I.tuple_inj h h'
  · exact I.list_inj h h'
end
/-- two, the items in new pairs -/
def ItzK (K : PySem.W.Frag) (p q : Bool) (a b : Addr) : It :=
  ⟨fun i H => ∃ (xs ys : List V) (x y : V), SqK K p H a xs ∧ SqK K q H b ys ∧ xs[i]? = some x ∧ ys[i]? = some y,
    fun i H v H' => ∃ T x y, v = .ref T ∧ H T = none ∧ H' = upd H T (.tup [x, y]) ∧ (∀ xs, SqK K p H a xs → xs[i]? = some x) ∧ ∀ ys, SqK K q H b ys → ys[i]? = some y,
    fun i H => ∃ xs ys : List V, SqK K p H a xs ∧ SqK K q H b ys ∧ i ≤ xs.length ∧ i ≤ ys.length ∧ (i = xs.length ∨ i = ys.length)⟩
theorem turn_zipK {P : Program} {w : World} {K : PySem.W.Frag} {elts : List Expr} {kk : Nat} {tpos : Pos} {p q : Bool} {a b z TI TO i1 i2 : Addr} (D : ZipSep2 z TI TO i1 i2 [i1, a] [i2, b]) :
    Turn P w K (.Tuple elts kk tpos) (ItzK K p q a b) [z, TI, TO, i1, i2] z (fun i h => IsZip h z TI TO .none ∧ IsTupOf2 h TI (.ref i1) (.ref i2) ∧ (∃ x y, IsTupOf2 h TO x y) ∧ IsIt p h i1 a i ∧ IsIt q h i2 b i) where
  mem := by simp
  obj := fun i h st c hc => by
    obtain ⟨hz, hTI, ⟨x, y, hTO⟩, h1, h2⟩ := st
    have e' : c = z ∨ c = TI ∨ c = TO ∨ c = i1 ∨ c = i2 := by simpa using hc
    rcases e' with r | r | r | r | r
    · rw [r]; exact ⟨_, hz, fun v r => nomatch r⟩
    · rw [r]; exact ⟨_, hTI, fun v r => nomatch r⟩
    · rw [r]; exact ⟨_, hTO, fun v r => nomatch r⟩
    · rw [r]; exact h1.ob
    · rw [r]; exact h2.ob
  keep := fun i h h' st k => by
    obtain ⟨hz, hTI, ⟨x, y, hTO⟩, h1, h2⟩ := st
    exact ⟨k z (by simp) _ hz, k TI (by simp) _ hTI, ⟨x, y, k TO (by simp) _ hTO⟩, h1.at fun o q => k i1 (by simp) o q, h2.at fun o q => k i2 (by simp) o q⟩
  item := by
    intro X hP hw hK hc i pins s σ H E I hf st hg
    subst hP hw hK
    obtain ⟨hz, hTI, ⟨x0, y0, hTO⟩, h1, h2⟩ := st
    obtain ⟨xs, ys, x, y, hqx, hqy, hx, hy⟩ := hg
    obtain ⟨its, rv, p1, l1⟩ := seqK I hqx
    obtain ⟨its2, rv2, p2, l2⟩ := seqK I hqy
    obtain ⟨u, hu, ru⟩ := rv.get hx
    obtain ⟨u2, hu2, ru2⟩ := rv2.get hy
    have hzl : z < s.heap.objs.size := Heap.lt_size hz
    have hd : X.A.in1.handled = none := I.ok.hd hc
    have n1 : a ≠ i1 := fun e => D.sep1_2 (by
      exfalso
      rw [e] at p1
      obtain ⟨o, ho, hdat⟩ := h1.ob
      cases p
      · obtain ⟨o1, e1, _, d1⟩ := (show s.heap.IsTupleIter i1 a i from h1)
        obtain ⟨o2, e2, _, n, d2⟩ := (show s.heap.IsTuple i1 its.toArray from p1)
        rw [e1] at e2; cases e2; rw [d1] at d2; cases d2
      · obtain ⟨o1, e1, _, d1⟩ := (show s.heap.IsListIter i1 a i from h1)
        obtain ⟨o2, e2, _, n, d2⟩ := (show s.heap.IsList i1 its.toArray from p1)
        rw [e1] at e2; cases e2; rw [d1] at d2; cases d2)
    have n2 : b ≠ i2 := fun e => by
      rw [e] at p2
      cases q
      · obtain ⟨o1, e1, _, d1⟩ := (show s.heap.IsTupleIter i2 b i from h2)
        obtain ⟨o2, e2, _, n, d2⟩ := (show s.heap.IsTuple i2 its2.toArray from p2)
        rw [e1] at e2; cases e2; rw [d1] at d2; cases d2
      · obtain ⟨o1, e1, _, d1⟩ := (show s.heap.IsListIter i2 b i from h2)
        obtain ⟨o2, e2, _, n, d2⟩ := (show s.heap.IsList i2 its2.toArray from p2)
        rw [e1] at e2; cases e2; rw [d1] at d2; cases d2
    have lt1 : i < its.toArray.size := (Array.getElem?_eq_some_iff.mp (show its.toArray[i]? = some u by simpa using hu)).1
    have lt2 : i < its2.toArray.size := (Array.getElem?_eq_some_iff.mp (show its2.toArray[i]? = some u2 by simpa using hu2)).1
    refine wpAny_pyNext_zipD2_item D (drawsK hd p i1 a n1 its.toArray) (drawsK hd q i2 b n2 its2.toArray) hz hTI hTO ⟨h1, p1⟩ ⟨h2, p2⟩ lt1 lt2 fun x1 x2 h' tk hx1 hx2 z' TO' st1 st2 hT hsz hk => ?_
    have ex1 : x1 = u := by
      have e1 : its.toArray[i]? = some u := by simpa using hu
      rw [e1] at hx1; cases hx1; rfl
    have ex2 : x2 = u2 := by
      have e1 : its2.toArray[i]? = some u2 := by simpa using hu2
      rw [e1] at hx2; cases hx2; rfl
    subst ex1 ex2
    refine ⟨_, rfl, wpAny_letOwnedTupleGo_zip (s := { s with heap := h', toks := tk }) z' fun h'' z'' sb => ?_⟩
    have hT2 : h''.get? s.heap.objs.size = some { cls := .type "tuple", data := .seq #[x1, x2] } := (sb.2 _ (Nat.ne_of_gt hzl)).trans hT
    have new : ObjOk X.prog X.w (upd H s.heap.objs.size (.tup [x, y])) h'' s.heap.objs.size (.tup [x, y]) :=
      ⟨by show 2 ≤ sizeLine; decide, [x1, x2], .cons ru (.cons ru2 .nil), ⟨_, hT2, rfl, _, rfl⟩⟩
    have I1 : Inv X pins σ (upd H s.heap.objs.size (.tup [x, y])) { s with heap := h'', toks := tk } :=
      I.turnedNew (t' := tk) (ch := [z, TI, TO, i1, i2]) (fun c o hb q => (sb.2 c (fun q' => hb (by simp [q']))).trans (hk c o (fun q' => hb (by simp [q'])) (fun q' => hb (by simp [q'])) (fun q' => hb (by simp [q'])) (fun q' => hb (by simp [q'])) q)) hf (Nat.le_refl _) new
    refine ⟨.ref s.heap.objs.size, _, I1, rfl, ⟨_, x, y, rfl, I.hok.fresh (Nat.le_refl _), rfl, fun l hl => by rw [seqK_inj I hl hqx]; exact hx, fun l hl => by rw [seqK_inj I hl hqy]; exact hy⟩, ⟨z'', ?_, ⟨x1, x2, ?_⟩, ?_, ?_⟩, fun c hcm => ?_⟩
    · exact (sb.2 _ D.TIz).trans (hk _ _ D.TIz D.TITO D.TIi1 D.TIi2 hTI)
    · exact (sb.2 _ D.TOz).trans TO'
    · exact st1.1.at fun o q => (sb.2 _ D.zi1.symm).trans q
    · exact st2.1.at fun o q => (sb.2 _ D.zi2.symm).trans q
    · have hlt : c < s.heap.objs.size := by
        have e' : c = z ∨ c = TI ∨ c = TO ∨ c = i1 ∨ c = i2 := by simpa using hcm
        rcases e' with q | q | q | q | q
        · rw [q]; exact hzl
        · rw [q]; exact Heap.lt_size hTI
        · rw [q]; exact Heap.lt_size hTO
        · rw [q]; obtain ⟨_, e1, _⟩ := h1.ob; exact Heap.lt_size e1
        · rw [q]; obtain ⟨_, e2, _⟩ := h2.ob; exact Heap.lt_size e2
      rw [upd_ne (Nat.ne_of_lt hlt)]
      exact (hf c hcm).1
  done := by
    intro X hP hw hK hc i pins s σ H E I hf st hg
    subst hP hw hK
    obtain ⟨hz, hTI, ⟨x0, y0, hTO⟩, h1, h2⟩ := st
    obtain ⟨xs, ys, hqx, hqy, le1, le2, hend⟩ := hg
    obtain ⟨its, rv, p1, l1⟩ := seqK I hqx
    obtain ⟨its2, rv2, p2, l2⟩ := seqK I hqy
    have hd : X.A.in1.handled = none := I.ok.hd hc
    have e1 := rv.length
    have e2 := rv2.length
    have n1 : a ≠ i1 := fun e => by
      rw [e] at p1
      cases p
      · obtain ⟨o1, e1, _, d1⟩ := (show s.heap.IsTupleIter i1 a i from h1)
        obtain ⟨o2, e2, _, n, d2⟩ := (show s.heap.IsTuple i1 its.toArray from p1)
        rw [e1] at e2; cases e2; rw [d1] at d2; cases d2
      · obtain ⟨o1, e1, _, d1⟩ := (show s.heap.IsListIter i1 a i from h1)
        obtain ⟨o2, e2, _, n, d2⟩ := (show s.heap.IsList i1 its.toArray from p1)
        rw [e1] at e2; cases e2; rw [d1] at d2; cases d2
    have n2 : b ≠ i2 := fun e => by
      rw [e] at p2
      cases q
      · obtain ⟨o1, e1, _, d1⟩ := (show s.heap.IsTupleIter i2 b i from h2)
        obtain ⟨o2, e2, _, n, d2⟩ := (show s.heap.IsTuple i2 its2.toArray from p2)
        rw [e1] at e2; cases e2; rw [d1] at d2; cases d2
      · obtain ⟨o1, e1, _, d1⟩ := (show s.heap.IsListIter i2 b i from h2)
        obtain ⟨o2, e2, _, n, d2⟩ := (show s.heap.IsList i2 its2.toArray from p2)
        rw [e1] at e2; cases e2; rw [d1] at d2; cases d2
    exact wpAny_pyNext_zipD2_end D (drawsK hd p i1 a n1 its.toArray) (drawsK hd q i2 b n2 its2.toArray) hz hTI hTO ⟨h1, p1⟩ ⟨h2, p2⟩ (by simp; omega) (by simp; omega) (by simp; omega) fun h' tk hk => ⟨rfl, I.turnedL (t' := tk) (ch := [z, TI, TO, i1, i2]) (fun c o hb q =>
      hk c o (fun q' => hb (by simp [q'])) (fun q' => hb (by simp [q'])) (fun q' => hb (by simp [q'])) (fun q' => hb (by simp [q'])) q) hf⟩
  self := fun A i s Q E st h => wpAny_pyIter_zip st.1 h
/-- one, each item with its place -/
def IteK (K : PySem.W.Frag) (p : Bool) (a : Addr) : It :=
  ⟨fun i H => ∃ (xs : List V) (x : V), SqK K p H a xs ∧ xs[i]? = some x, fun i H v H' => ∃ T x, v = .ref T ∧ H T = none ∧ H' = upd H T (.tup [.int (i : Nat), x]) ∧ ∀ xs, SqK K p H a xs → xs[i]? = some x, fun i H => ∃ xs : List V, SqK K p H a xs ∧ i = xs.length⟩
theorem turn_enumK {P : Program} {w : World} {K : PySem.W.Frag} {elts : List Expr} {kk : Nat} {tpos : Pos} {p : Bool} (a e it : Addr) (hea : e ≠ a) (hia : a ≠ it) :
    Turn P w K (.Tuple elts kk tpos) (IteK K p a) [e, it] e (fun i h => (∃ old, IsEnum h e it ((i : Nat) : Int) old) ∧ IsIt p h it a i ∧ e ≠ it) where
  mem := by simp
  obj := fun i h st b hb => by
    obtain ⟨⟨old, he⟩, h1, _⟩ := st
    have e' : b = e ∨ b = it := by simpa using hb
    rcases e' with z | z
    · rw [z]; exact ⟨_, he, fun v q => nomatch q⟩
    · rw [z]; exact h1.ob
  keep := fun i h h' st k => let ⟨⟨old, he⟩, hi, hne⟩ := st; ⟨⟨old, k e (by simp) _ he⟩, hi.at fun o q => k it (by simp) o q, hne⟩
  item := by
    intro X hP hw hK hc i pins s σ H E I hf st hg
    subst hP hw hK
    obtain ⟨⟨old, he⟩, hit, hne⟩ := st
    obtain ⟨xs, x, hq, hx⟩ := hg
    obtain ⟨its, rv, p1, l1⟩ := seqK I hq
    obtain ⟨u, hu, ru⟩ := rv.get hx
    have hel : e < s.heap.objs.size := Heap.lt_size he
    have hil : it < s.heap.objs.size := by obtain ⟨_, q, _⟩ := hit.ob; exact Heap.lt_size q
    have hd : X.A.in1.handled = none := I.ok.hd hc
    have lt1 : i < its.toArray.size := (Array.getElem?_eq_some_iff.mp (show its.toArray[i]? = some u by simpa using hu)).1
    refine wpAny_pyNext_enum_itemD (drawsK hd p it a hia its.toArray) he ⟨hit, p1⟩ lt1 hne (by simp [hne, hea]) fun x1 h' tk hx1 ho st1 hT hsz hk => ?_
    have ex1 : x1 = u := by
      have e1 : its.toArray[i]? = some u := by simpa using hu
      rw [e1] at hx1; cases hx1; rfl
    subst ex1
    refine ⟨_, rfl, wpAny_letOwnedTupleGo_enum (s := { s with heap := h', toks := tk + 1 }) ho fun h'' he' sb => ?_⟩
    have hT2 : h''.get? s.heap.objs.size = some { cls := .type "tuple", data := .seq #[.int i tk, x1] } := (sb.2 _ (Nat.ne_of_gt hel)).trans hT
    have new : ObjOk X.prog X.w (upd H s.heap.objs.size (.tup [.int (i : Nat), x])) h'' s.heap.objs.size (.tup [.int (i : Nat), x]) :=
      ⟨by show 2 ≤ sizeLine; decide, [.int i tk, x1], .cons ⟨_, rfl⟩ (.cons ru .nil), ⟨_, hT2, rfl, _, rfl⟩⟩
    have I1 : Inv X pins σ (upd H s.heap.objs.size (.tup [.int (i : Nat), x])) { s with heap := h'', toks := tk + 1 } :=
      I.turnedNew (ch := [e, it]) (fun b ob hb q => (sb.2 b (fun z => hb (by simp [z]))).trans (hk b ob (fun z => hb (by simp [z])) (fun z => hb (by simp [z])) q)) hf (Nat.le_refl _) new
    refine ⟨.ref s.heap.objs.size, _, I1, rfl, ⟨_, x, rfl, I.hok.fresh (Nat.le_refl _), rfl, fun ys hy => by rw [seqK_inj I hy hq]; exact hx⟩, ⟨⟨x1, ?_⟩, st1.1.at fun o q => (sb.2 it (Ne.symm hne)).trans q, hne⟩, fun b hb => ?_⟩
    · have e1 : ((i + 1 : Nat) : Int) = (i : Int) + 1 := by omega
      rw [e1]; exact he'
    · have hb' : b < s.heap.objs.size := by
        have e' : b = e ∨ b = it := by simpa using hb
        rcases e' with z | z
        · rw [z]; exact hel
        · rw [z]; exact hil
      rw [upd_ne (Nat.ne_of_lt hb')]
      exact (hf b hb).1
  done := by
    intro X hP hw hK hc i pins s σ H E I hf st hg
    subst hP hw hK
    obtain ⟨⟨old, he⟩, hit, hne⟩ := st
    obtain ⟨xs, hq, hx⟩ := hg
    obtain ⟨its, rv, p1, l1⟩ := seqK I hq
    obtain ⟨f0, f1, f2, f3, f4, f5⟩ := hf it (by simp)
    have hl := rv.length
    have hd : X.A.in1.handled = none := I.ok.hd hc
    have e1 : i = its.toArray.size := by simp; omega
    subst e1
    exact wpAny_pyNext_enum_endD (drawsK hd p it a hia its.toArray) he ⟨hit, p1⟩ fun h' eb => ⟨rfl, I.turned (t' := s.toks) (fun b o hb q => eb b o hb q) f0 f1 f3 f4 f5⟩
  self := fun A i s Q E st h => let ⟨⟨_, he⟩, _⟩ := st; wpAny_pyIter_enum he h
/-! ### enumerate of a list or a tuple is made -/
theorem meets_enumerate_newB {v1 : Value} {o1 : Obj} {H1 : Heap → Prop} (B1 : Begins v1 o1 H1) :
    Meets (Builtin.«enumerate.__new__» ⟨[.type "enumerate", v1], []⟩) (fun _ R s => H1 s.heap ∧
      R (.ok (.ret (.ref (s.heap.objs.size + 1)))) { s with heap := (s.heap.push o1).push { cls := .type "enumerate", data := .fields #[.none, .bool false, .ref s.heap.objs.size, rawInt 0, .none, .none] } }) :=
  .of_wp fun prog w A R s h => by
    obtain ⟨hp, g, d, tk, os⟩ := s
    obtain ⟨h1, h⟩ := h
    have hsub := sub_enumerate
    have q1 : ∀ {A' : Around} {E : Value → Shared → Prop} {Q : Value → Shared → Prop}, Q (.ref hp.objs.size) ⟨(hp.push o1), g, d, tk, os⟩ → wpAny (model prog w) A' (pyIter v1) Q E ⟨hp, g, d, tk, os⟩ :=
      fun q => B1.iter prog w _ _ ⟨hp, g, d, tk, os⟩ _ (B1.keeps _ _ h1 fun b o' e => e) q
    have hz : (hp.push o1).objs.size = hp.objs.size + 1 := Heap.size_push ..
    wp_walk
    refine wpAny_stack_any fun st => wpAny_pure ?_
    split
    · rename_i c _ _ _ _ _
      cases (c == Value.type "enumerate")
      · wp_walk using q1
        exact ⟨_, rfl, by rw [hz]; exact h⟩
      · wp_walk using q1
        exact ⟨_, rfl, by rw [hz]; exact h⟩
    · wp_walk using q1
      exact ⟨_, rfl, by rw [hz]; exact h⟩
section
variable {prog : Program} {w : World} {A : Around} {E : Value → Shared → Prop} {s : Shared}
theorem call_enumerateB {v1 : Value} {o1 : Obj} {H1 : Heap → Prop} {Q : Value → Shared → Prop} (B1 : Begins v1 o1 H1) (h1 : H1 s.heap)
    (h : ∀ h', IsEnum h' (s.heap.objs.size + 1) s.heap.objs.size 0 .none → h'.get? s.heap.objs.size = some o1 → h'.objs.size = s.heap.objs.size + 2 →
      (∀ b o, s.heap.get? b = some o → h'.get? b = some o) → Q (.ref (s.heap.objs.size + 1)) { s with heap := h' }) :
    wpAny (model prog w) A (call (.type "enumerate") [v1]) Q E s := by
  refine callType_new F.called_enumerate (by decide) (F.typeCall_enumerate_1 _) (F.newCall_enumerate_1 _) (fun obj => F.args_object_init_2 obj _) F.entry_enumerate_new
    (meets_enumerate_newB B1) ⟨h1, ?_⟩
  have hz : (s.heap.push o1).objs.size = s.heap.objs.size + 1 := Heap.size_push ..
  have he : IsEnum ((s.heap.push o1).push
      { cls := .type "enumerate", data := .fields #[.none, .bool false, .ref s.heap.objs.size, rawInt 0, .none, .none] }) (s.heap.objs.size + 1) s.heap.objs.size 0 .none := by
    have := Heap.get?_push_size (s.heap.push o1)
      (o := { cls := .type "enumerate", data := .fields #[.none, .bool false, .ref s.heap.objs.size, rawInt 0, .none, .none] }) rfl
    rw [hz] at this; exact this
  refine ⟨⟨_, he, rfl⟩, h _ he (Heap.get?_push_of_some _ (Heap.get?_push_size _ B1.free)) (by rw [Heap.size_push, hz]) fun b o x => Heap.get?_push_of_some _ (Heap.get?_push_of_some _ x)⟩
end
theorem zipSep (n : Nat) (a b : Nat) (la : a < n) (lb : b < n) : ZipSep2 (n + 4) (n + 2) (n + 3) n (n + 1) [n, a] [n + 1, b] := by
  have k1 : ∀ x y : Nat, x ∉ [y, a] ↔ x ≠ y ∧ x ≠ a := by simp
  have k2 : ∀ x y : Nat, x ∉ [y, b] ↔ x ≠ y ∧ x ≠ b := by simp
  exact ⟨show n + 2 ≠ n + 4 by omega, show n + 3 ≠ n + 4 by omega, show n + 2 ≠ n + 3 by omega, show n + 2 ≠ n by omega, List.mem_cons_self, (k1 _ _).mpr (by omega), (k1 _ _).mpr (by omega), show n + 2 ≠ n + 1 by omega, List.mem_cons_self, (k2 _ _).mpr (by omega), (k2 _ _).mpr (by omega), (k2 _ _).mpr (by omega), (k1 _ _).mpr (by omega)⟩
/-! ### the readings -/
def iSeqK (K : PySem.W.Frag) (tl : TE) : TI := fun σ H R => tl σ H fun x H1 => ∃ a, x = .ref a ∧ ((∃ xs, SqL K H1 a xs) ∧ R (Itl K a) H1 ∨ (∃ xs, SqT K H1 a xs) ∧ R (Itt K a) H1)
def iZipK (K : PySem.W.Frag) (ta : TA) : TI := fun σ H R => ta σ H fun vs H1 => ∃ p q a b xs ys, vs = [.ref a, .ref b] ∧ SqK K p H1 a xs ∧ SqK K q H1 b ys ∧ R (ItzK K p q a b) H1
def iEnumK (K : PySem.W.Frag) (ta : TA) : TI := fun σ H R => ta σ H fun vs H1 => ∃ p a xs, vs = [.ref a] ∧ SqK K p H1 a xs ∧ R (IteK K p a) H1
section
variable {X : Cx} {tg : Expr}
theorem pi_seqK {l : Expr} {tl : TE} (hl : PE X l tl) : PI X tg l (iSeqK X.K tl) := by
  refine ⟨fun pins s σ H R I h => ?_⟩
  refine thn (hl.run pins s σ H _ I h) fun v s1 ⟨x, H1, I1, r1, q1⟩ => ?_
  obtain ⟨a, e, q1⟩ := q1
  subst e
  cases r1
  rcases q1 with ⟨⟨xs, hq⟩, q⟩ | ⟨⟨xs, hq⟩, q⟩
  · obtain ⟨its, rv, p, hz⟩ := I1.list hq
    refine wpAny_pyIter_list p.isList ?_
    refine ⟨s1.heap.objs.size, [s1.heap.objs.size], _, _, H1, rfl, I1.kept (t' := s1.toks) fun b o e => Heap.get?_push_of_some _ e, turn_list a _, ⟨_, Heap.get?_push_size _ rfl, rfl, rfl⟩, fun b hb => ?_, q⟩
    have e : b = s1.heap.objs.size := by simpa using hb
    subst e
    exact I1.fpOk (Nat.le_refl _) (I1.hok.fresh (Nat.le_refl _))
  · obtain ⟨its, rv, p, hz⟩ := I1.tuple hq
    refine wpAny_pyIter_tuple (show s1.heap.IsTuple a its.toArray from p) ?_
    refine ⟨s1.heap.objs.size, [s1.heap.objs.size], _, _, H1, rfl, I1.kept (t' := s1.toks) fun b o e => Heap.get?_push_of_some _ e, turn_tuple a _, ⟨_, Heap.get?_push_size _ rfl, rfl, rfl⟩, fun b hb => ?_, q⟩
    have e : b = s1.heap.objs.size := by simpa using hb
    subst e
    exact I1.fpOk (Nat.le_refl _) (I1.hok.fresh (Nat.le_refl _))
theorem pi_zipK {e e2 : Expr} {ta : TA} {p pos tpos : Pos} {elts : List Expr} {kk : Nat} (hg : Gl X "zip") (hm : X.mg "zip" = none) (ha : PA X [e, e2] ta)
    (hs : starEach [e, e2] X.env = (false, eval e X.env) :: starEach [e2] X.env := by rfl) (hpl : (backTo pos (starEach [e2] X.env)).any (·.1) = false := by rfl) :
    PI X (.Tuple elts kk tpos) (.Call (.Name "zip" p) [e, e2] [] pos) (iZipK X.K ta) := by
  refine ⟨fun pins s σ H R I h => ?_⟩
  refine Call_ (ld_blt I hg hm PyProof.Rows.boot_zip (PyProof.Rows.callWith_type1 (thn (ha.run pos pins s σ H _ I h) fun us s1 ⟨vs, H1, I1, r1, q1⟩ => ?_) hs hpl))
  obtain ⟨p, q, a, b, xs, ys, ex, hqx, hqy, q1⟩ := q1
  subst ex
  cases r1 with
  | cons r rr =>
    cases rr with
    | cons r' rr =>
      cases rr
      cases r
      cases r'
      obtain ⟨its, rv, p1, la⟩ := seqK I1 hqx
      obtain ⟨its2, rv2, p2, lb⟩ := seqK I1 hqy
      refine zip_begins2 (beginsK p a its.toArray) (beginsK q b its2.toArray) p1 p2 fun h' hz hTI hTO h1 h2 hsz hk => wpAny_pyIter_zip hz ?_
      have I2 : Inv X pins σ H1 { s1 with heap := h' } := I1.kept (t' := s1.toks) hk
      have D : ZipSep2 (s1.heap.objs.size + 4) (s1.heap.objs.size + 2) (s1.heap.objs.size + 3) s1.heap.objs.size (s1.heap.objs.size + 1) [s1.heap.objs.size, a] [s1.heap.objs.size + 1, b] := zipSep _ a b la lb
      refine ⟨s1.heap.objs.size + 4, [s1.heap.objs.size + 4, s1.heap.objs.size + 2, s1.heap.objs.size + 3, s1.heap.objs.size, s1.heap.objs.size + 1], _, _, H1, rfl, I2, turn_zipK D, ⟨hz, hTI, ⟨_, _, hTO⟩, IsIt.new h1, IsIt.new h2⟩, fun c hcm => ?_, q1⟩
      have e' : c = s1.heap.objs.size + 4 ∨ c = s1.heap.objs.size + 2 ∨ c = s1.heap.objs.size + 3 ∨ c = s1.heap.objs.size ∨ c = s1.heap.objs.size + 1 := by simpa using hcm
      have hle : s1.heap.objs.size ≤ c := by
        rcases e' with z | z | z | z | z
        · rw [z]; exact Nat.le_add_right _ _
        · rw [z]; exact Nat.le_add_right _ _
        · rw [z]; exact Nat.le_add_right _ _
        · rw [z]; exact Nat.le_refl _
        · rw [z]; exact Nat.le_add_right _ _
      exact I1.fpOk hle (I1.hok.fresh hle)
theorem pi_enumK {e : Expr} {ta : TA} {p pos tpos : Pos} {elts : List Expr} {kk : Nat} (hg : Gl X "enumerate") (hm : X.mg "enumerate" = none) (ha : PA X [e] ta) (hs : starEach [e] X.env = [(false, eval e X.env)] := by rfl) :
    PI X (.Tuple elts kk tpos) (.Call (.Name "enumerate" p) [e] [] pos) (iEnumK X.K ta) := by
  refine ⟨fun pins s σ H R I h => ?_⟩
  refine Call_ (ld_blt I hg hm boot_enumerate (PyProof.Rows.callWith_type1 (thn (ha.run pos pins s σ H _ I h) fun us s1 ⟨vs, H1, I1, r1, q1⟩ => ?_) hs rfl))
  obtain ⟨p, a, xs, ex, hq, q⟩ := q1
  subst ex
  cases r1 with
  | cons r rr =>
    cases rr
    cases r
    obtain ⟨its, rv, p1, la⟩ := seqK I1 hq
    refine call_enumerateB (beginsK p a its.toArray) p1 fun h' he hit hsz hk => wpAny_pyIter_enum he ?_
    have I2 : Inv X pins σ H1 { s1 with heap := h' } := I1.kept (t' := s1.toks) hk
    have la' : a < s1.heap.objs.size := la
    refine ⟨s1.heap.objs.size + 1, [s1.heap.objs.size + 1, s1.heap.objs.size], _, _, H1, rfl, I2, turn_enumK a (s1.heap.objs.size + 1) s1.heap.objs.size (Nat.ne_of_gt (Nat.lt_succ_of_lt la)) (Nat.ne_of_lt la), ⟨⟨.none, he⟩, IsIt.new hit, Nat.succ_ne_self _⟩, fun b hb => ?_, q⟩
    have e' : b = s1.heap.objs.size + 1 ∨ b = s1.heap.objs.size := by simpa using hb
    have hle : s1.heap.objs.size ≤ b := by
      rcases e' with z | z
      · rw [z]; exact Nat.le_add_right _ _
      · rw [z]; exact Nat.le_refl _
    exact I1.fpOk hle (I1.hok.fresh hle)
end
end PV
set_option Elab.async false
set_option linter.all false
set_option maxRecDepth 100000
namespace PV
open PySem PySem.Spec PyProof.Rows L2
theorem PI.imp {X : Cx} {tg e : Expr} {t t' : TI} (h : PI X tg e t) (k : ∀ σ H R, t' σ H R → t σ H R) : PI X tg e t' := ⟨fun pins s σ H R I q => h.run pins s σ H R I (k σ H R q)⟩
/-- what is walked stays: shared data, or a locked slot's list -/
def SrcAt (G : Gb) (c : Cf) (d : D) (v : V) : Prop := Rep G c.F d v ∨ ∃ (i : Nat) (ds : List D), d = .lst ds ∧ c.e[i]? = some (Cell.lk ds) ∧ c.σ[i]? = some (some v)
structure ItOk (G : Gb) (J : It) (Keep : Cf → Prop) (ds : List D) : Prop where
  mono : ∀ c c', Same c.F c'.F → (∀ (i : Nat) (ds : List D) (v : V), c.e[i]? = some (Cell.lk ds) → c.σ[i]? = some (some v) → (c'.e[i]? = some (Cell.lk ds) ∧ c'.σ[i]? = some (some v)) ∨ Rep G c'.F (.lst ds) v) → Keep c → Keep c'
  go : ∀ c i, Sim G c → Keep c → i < ds.length → J.go i c.H
  yld : ∀ c i x H', Sim G c → Keep c → i < ds.length → J.yld i c.H x H' → ∃ d F', ds[i]? = some d ∧ StepV c.F c.H F' H' ∧ Rep G F' d x
  stop : ∀ c, Sim G c → Keep c → J.stop ds.length c.H
def PostI (G : Gb) (W : XK) (c : Cf) (R : It → Hp → Prop) : PV.R ((List D × List Nat) × En) → Prop
  | .ok ((ds, ls), e') => ∀ J Keep F' H', Step G c ⟨F', c.σ, H', e'⟩ → Sim G ⟨F', c.σ, H', e'⟩ → (∀ i ∈ ls, ∀ ds, e'[i]? ≠ some (.lk ds)) → ItOk G J Keep ds → Keep ⟨F', c.σ, H', ls.foldr PV.lock e'⟩ → R J H'
  | .exc x => ∀ cls d H', (∀ b o, c.H b = some o → ¬ c.W b → H' b = some o) → XAt G x cls d H' → W cls d H'
  | .stuck => False
def tI (G : Gb) (W : XK) (m : En → PV.R ((List D × List Nat) × En)) : TI := fun σ H R => ∃ F e, Sim G ⟨F, σ, H, e⟩ ∧ PostI G W ⟨F, σ, H, e⟩ R (m e)
section
variable {G : Gb} {W : XK} {X : Cx} {cf : CF} {lv : Nat} {c c1 : Cf} {F F' H H' : Hp} {σ : Sg} {e : En} {R : It → Hp → Prop}
theorem PostI.hx : ∀ (c : Cf) x, PostI G W c R (.exc x) → ∀ cls d H', (∀ b o, c.H b = some o → ¬ c.W b → H' b = some o) → XAt G x cls d H' → W cls d H' := fun _ _ h => h
theorem PostI.next {r : PV.R ((List D × List Nat) × En)} (h : PostI G W c R r) (s : Step G c c1) (e : c1.σ = c.σ) : PostI G W c1 R r := by
  cases r with
  | ok p =>
    obtain ⟨⟨ds, ls⟩, e'⟩ := p
    intro J Keep F' H' st S hn it k
    rw [e] at st S k
    exact h J Keep F' H' (s.trans st) S hn it k
  | exc x =>
    intro cls d H' fr xa
    exact h cls d H' (fun b o hb hw => fr b o (s.frame b o hb hw) fun w => (s.w b w).elim hw fun z => by rw [hb] at z; cases z) xa
  | stuck => exact h
theorem SrcAt.step {d : D} {v : V} (h : SrcAt G c d v) (sf : Same c.F c1.F) (sl : ∀ (i : Nat) (ds : List D) (v : V), c.e[i]? = some (Cell.lk ds) → c.σ[i]? = some (some v) → (c1.e[i]? = some (Cell.lk ds) ∧ c1.σ[i]? = some (some v)) ∨ Rep G c1.F (.lst ds) v) : SrcAt G c1 d v := by
  rcases h with h | ⟨i, ds, rfl, h1, h2⟩
  · exact .inl (Rep.mono sf h)
  · rcases sl i ds v h1 h2 with ⟨k1, k2⟩ | k
    · exact .inr ⟨i, ds, rfl, k1, k2⟩
    · exact .inl k
def kd : D → Bool
  | .lst _ => true
  | _ => false
theorem SrcAt.sq {d : D} {v : V} {xs : List D} (h : SrcAt G c d v) (S : Sim G c) (hi : items d = some xs) : ∃ a vs, v = .ref a ∧ SqK G.K (kd d) c.H a vs ∧ Reps G c.F xs vs := by
  cases d <;> simp only [items] at hi <;> cases hi
  · rcases h with h | ⟨i, ds, z, _⟩
    · simp only [Rep] at h
      obtain ⟨a, vs, h1, h2, h3⟩ := h
      exact ⟨a, vs, h1, sqT_same S.sub h2, h3⟩
    · cases z
  · rcases h with h | ⟨i, ds, z, h1, h2⟩
    · simp only [Rep] at h
      obtain ⟨a, vs, h1, h2, h3⟩ := h
      exact ⟨a, vs, h1, .inl (.inl (S.sub _ _ h2)), h3⟩
    · cases z
      obtain ⟨a, q1, vs, q2, q3, q4⟩ := S.cell i _ h1
      rw [h2] at q1
      cases q1
      exact ⟨a, vs, rfl, .inl (.inl q2), q4⟩
theorem locks_get {ls : List Nat} {j : Nat} : (ls.foldr PV.lock e)[j]? = match e[j]? with
    | some (.ow ds) => if j ∈ ls then some (.lk ds) else some (.ow ds)
    | x => x := by
  induction ls with
  | nil =>
    show e[j]? = _
    cases hx : e[j]? with
    | none => rfl
    | some x => cases x <;> simp
  | cons i r ih =>
    rw [List.foldr_cons, lock_get, ih]
    cases e[j]? with
    | none => rfl
    | some x =>
      cases x <;> simp only []
      by_cases z : j ∈ r
      · simp [z]
      · by_cases z' : j = i
        · subst z'; simp [z]
        · simp [z, z']
/-- a looked-at value is a source -/
theorem srcAt_of {vl : Vl} {v : V} {d : D} {ls : List Nat} {H0 : Hp} (S : Sim G ⟨F, σ, H, e⟩) (hh : hold vl = vl) (r : VRel G H0 ⟨F, σ, H, e⟩ v vl) (hp : peek vl e = .ok d) (hw : wOk vl e = true) (hl : ∀ i ∈ lks vl e, i ∈ ls) : SrcAt G ⟨F, σ, H, ls.foldr PV.lock e⟩ d v := by
  cases vl with
  | sh d' => cases hp; exact Or.inl r
  | ow ds => cases hh
  | sl i =>
    have r : σ[i]? = some (some v) := r
    unfold peek at hp
    unfold wOk at hw
    unfold lks at hl
    dsimp only at hp hw hl
    cases hx : e[i]? with
    | none => rw [hx] at hp; cases hp
    | some x =>
      have k := S.cell i x hx
      rw [hx] at hp hw hl
      cases x with
      | un => cases hp
      | bld c ds => cases hp
      | io ds => cases hw
      | sh d' =>
        cases hp
        obtain ⟨u, k1, k2⟩ := k
        have k1 : σ[i]? = some (some u) := k1
        rw [r] at k1; cases k1
        exact Or.inl k2
      | ow ds =>
        cases hp
        refine Or.inr ⟨i, ds, rfl, ?_, r⟩
        show (ls.foldr PV.lock e)[i]? = _
        rw [locks_get, hx]
        simp [hl i (by simp)]
      | lk ds =>
        cases hp
        refine Or.inr ⟨i, ds, rfl, ?_, r⟩
        show (ls.foldr PV.lock e)[i]? = _
        rw [locks_get, hx]
theorem lks_not {vl : Vl} : ∀ i ∈ lks vl e, ∀ ds, e[i]? ≠ some (.lk ds) := fun i hi ds hx => by
  unfold lks at hi
  cases vl with
  | sl j =>
    simp only at hi
    split at hi
    · rename_i xs hj
      have z : i = j := by simpa using hi
      subst z
      rw [hx] at hj; cases hj
    · cases hi
  | _ => cases hi
theorem lks_hold {vl : Vl} : lks (hold vl) e = lks vl e := by cases vl <;> rfl
theorem wOk_hold {vl : Vl} : wOk (hold vl) e = wOk vl e := by cases vl <;> rfl
theorem pkE {α : Type} {vl : Vl} {k : D → En → PV.R (α × En)} {Post : PV.R (α × En) → Prop} (hs : ¬ Post .stuck) (h : Post (bnd (pk vl e) k)) : ∃ d, peek vl e = .ok d ∧ Post (k d e) := by
  unfold pk at h
  cases hp : peek vl e with
  | ok d => rw [hp] at h; exact ⟨d, rfl, h⟩
  | exc x =>
    unfold peek at hp
    split at hp
    · cases hp
    · cases hp
    · split at hp <;> cases hp
  | stuck => rw [hp] at h; exact (hs h).elim
theorem Reps.getI {ds : List D} {vs : List V} {i : Nat} (r : Reps G F ds vs) (h : i < ds.length) : ∃ d v, ds[i]? = some d ∧ vs[i]? = some v ∧ Rep G F d v := by
  have e : ds[i]? = some ds[i] := List.getElem?_eq_getElem h
  obtain ⟨v, k1, k2⟩ := r.get e
  exact ⟨_, v, e, k1, k2⟩
/-! ### iterators -/
theorem itOk_seq {d : D} {a : Addr} {xs : List D} (hi : items d = some xs) : ItOk G (match kd d with
    | true => Itl G.K a
    | false => Itt G.K a) (fun c => SrcAt G c d (.ref a)) xs where
  mono := fun c c' sf sl k => k.step sf sl
  go := fun c i S k h => by
    obtain ⟨a', vs, ea, q, r⟩ := k.sq S hi
    cases ea
    obtain ⟨x, v, _, hv, _⟩ := r.getI h
    cases hk : kd d <;> rw [hk] at q <;> exact ⟨vs, v, q, hv⟩
  yld := fun c i x H' S k h y => by
    obtain ⟨a', vs, ea, q, r⟩ := k.sq S hi
    cases ea
    obtain ⟨dx, v, hd, hv, rv⟩ := r.getI h
    cases hk : kd d <;> rw [hk] at q y
    · obtain ⟨rfl, y⟩ := y
      rw [y vs q] at hv; cases hv
      exact ⟨dx, c.F, hd, .rfl' S.sub, rv⟩
    · obtain ⟨rfl, y⟩ := y
      rw [y vs q] at hv; cases hv
      exact ⟨dx, c.F, hd, .rfl' S.sub, rv⟩
  stop := fun c S k => by
    obtain ⟨a', vs, ea, q, r⟩ := k.sq S hi
    cases ea
    have hl := r.length
    cases hk : kd d <;> rw [hk] at q <;> exact ⟨vs, q, by omega⟩
theorem new_pair {dx dy : D} {x y : V} {T : Addr} (S : Sim G c) (hT : c.H T = none) (rx : Rep G c.F dx x) (ry : Rep G c.F dy y) : ∃ F', StepV c.F c.H F' (upd c.H T (.tup [x, y])) ∧ Rep G F' (.tup [dx, dy]) (.ref T) := by
  have st := StepV.new1 (o := .tup [x, y]) S.sub hT
  refine ⟨_, st, ?_⟩
  simp only [Rep]
  exact ⟨T, [x, y], rfl, .inl (.inl upd_same), .cons (rx.mono st.f) (.cons (ry.mono st.f) .nil)⟩
theorem enumD_get : ∀ (n : Nat) (ds : List D) (i : Nat), (enumD n ds)[i]? = ds[i]?.map fun d => .tup [.int ((n + i : Nat) : Int), d]
  | n, [], i => by simp [enumD]
  | n, d :: ds, 0 => by simp [enumD]
  | n, d :: ds, i + 1 => by
    simp only [enumD, List.getElem?_cons_succ]
    rw [enumD_get (n + 1) ds i]
    have : n + 1 + i = n + (i + 1) := by omega
    rw [this]
theorem enumD_len : ∀ (n : Nat) (ds : List D), (enumD n ds).length = ds.length
  | n, [] => rfl
  | n, d :: ds => by simp [enumD, enumD_len (n + 1) ds]
theorem zipD_len : ∀ (xs ys : List D), (zipD xs ys).length = min xs.length ys.length
  | [], ys => by simp [zipD]
  | x :: xs, [] => by simp [zipD]
  | x :: xs, y :: ys => by simp [zipD, zipD_len xs ys]
theorem zipD_get : ∀ (xs ys : List D) (i : Nat) (x y : D), xs[i]? = some x → ys[i]? = some y → (zipD xs ys)[i]? = some (.tup [x, y])
  | [], ys, i, x, y, h, _ => by simp at h
  | x :: xs, [], i, _, _, _, h => by simp at h
  | x :: xs, y :: ys, 0, a, b, h, k => by simp at h k; simp [zipD, h, k]
  | x :: xs, y :: ys, i + 1, a, b, h, k => by
    simp only [List.getElem?_cons_succ] at h k
    simp [zipD, zipD_get xs ys i a b h k]
theorem itOk_enum {d : D} {a : Addr} {xs : List D} (hi : items d = some xs) : ItOk G (IteK G.K (kd d) a) (fun c => SrcAt G c d (.ref a)) (enumD 0 xs) where
  mono := fun c c' sf sl k => k.step sf sl
  go := fun c i S k h => by
    obtain ⟨a', vs, ea, q, r⟩ := k.sq S hi
    cases ea
    rw [enumD_len] at h
    obtain ⟨x, v, _, hv, _⟩ := r.getI h
    exact ⟨vs, v, q, hv⟩
  yld := fun c i x H' S k h y => by
    obtain ⟨a', vs, ea, q, r⟩ := k.sq S hi
    cases ea
    rw [enumD_len] at h
    obtain ⟨dx, v, hd, hv, rv⟩ := r.getI h
    obtain ⟨T, u, rfl, hT, rfl, y⟩ := y
    rw [y vs q] at hv; cases hv
    have ri : Rep G c.F (.int (i : Nat)) (.int (i : Nat)) := by simp only [Rep]
    obtain ⟨F', st, rp⟩ := new_pair S hT ri rv
    exact ⟨_, F', by rw [enumD_get, hd]; simp, st, rp⟩
  stop := fun c S k => by
    obtain ⟨a', vs, ea, q, r⟩ := k.sq S hi
    cases ea
    have hl := r.length
    rw [enumD_len]
    exact ⟨vs, q, hl.symm⟩
theorem itOk_zip {d d' : D} {a b : Addr} {xs ys : List D} (hi : items d = some xs) (hj : items d' = some ys) : ItOk G (ItzK G.K (kd d) (kd d') a b) (fun c => SrcAt G c d (.ref a) ∧ SrcAt G c d' (.ref b)) (zipD xs ys) where
  mono := fun c c' sf sl k => ⟨k.1.step sf sl, k.2.step sf sl⟩
  go := fun c i S k h => by
    obtain ⟨a', vs, ea, q, r⟩ := k.1.sq S hi
    obtain ⟨b', us, eb, q', r'⟩ := k.2.sq S hj
    cases ea
    cases eb
    rw [zipD_len] at h
    obtain ⟨x, v, _, hv, _⟩ := r.getI (i := i) (by omega)
    obtain ⟨x', v', _, hv', _⟩ := r'.getI (i := i) (by omega)
    exact ⟨vs, us, v, v', q, q', hv, hv'⟩
  yld := fun c i x H' S k h y => by
    obtain ⟨a', vs, ea, q, r⟩ := k.1.sq S hi
    obtain ⟨b', us, eb, q', r'⟩ := k.2.sq S hj
    cases ea
    cases eb
    rw [zipD_len] at h
    obtain ⟨dx, v, hd, hv, rv⟩ := r.getI (i := i) (by omega)
    obtain ⟨dy, v', hd', hv', rv'⟩ := r'.getI (i := i) (by omega)
    obtain ⟨T, u, u', rfl, hT, rfl, y1, y2⟩ := y
    rw [y1 vs q] at hv; cases hv
    rw [y2 us q'] at hv'; cases hv'
    obtain ⟨F', st, rp⟩ := new_pair S hT rv rv'
    exact ⟨_, F', zipD_get xs ys i _ _ hd hd', st, rp⟩
  stop := fun c S k => by
    obtain ⟨a', vs, ea, q, r⟩ := k.1.sq S hi
    obtain ⟨b', us, eb, q', r'⟩ := k.2.sq S hj
    cases ea
    cases eb
    have hl := r.length
    have hl' := r'.length
    rw [zipD_len]
    exact ⟨vs, us, q, q', by omega, by omega, by omega⟩
theorem itOk_rng {lo : Int} {n : Nat} : ItOk G (Itr lo n) (fun _ => True) ((List.range n).map fun (i : Nat) => D.int (lo + i)) where
  mono := fun _ _ _ _ _ => trivial
  go := fun c i S _ h => by
    have h : i < n := by simpa using h
    exact h
  yld := fun c i x H' S _ h y => by
    obtain ⟨rfl, rfl⟩ := y
    simp at h
    exact ⟨.int (lo + i), c.F, by simp [h], .rfl' S.sub, by simp only [Rep]⟩
  stop := fun c S _ => by simp; exact Nat.le_refl _
theorem itOk_rngC {lo k : Int} {n : Nat} : ItOk G (Itc lo k n) (fun _ => True) ((List.range n).map fun (i : Nat) => D.int (lo + (i : Int) * k)) where
  mono := fun _ _ _ _ _ => trivial
  go := fun c i S _ h => by
    have h : i < n := by simpa using h
    exact h
  yld := fun c i x H' S _ h y => by
    obtain ⟨rfl, rfl⟩ := y
    simp at h
    exact ⟨.int (lo + i * k), c.F, by simp [h], .rfl' S.sub, by simp only [Rep]⟩
  stop := fun c S _ => by simp; exact Nat.le_refl _
/-! ### the rules -/
theorem gI_seq {tg l : Expr} {m : En → PV.R (Vl × En)} (hK : X.K = G.K) (hl : PE X l (tE G W m)) : PI X tg l (tI G W fun σ => bnd (m σ) fun v σ => bnd (pk (hold v) σ) fun x σ => match items x with
    | some ds => if wOk v σ = true then .ok ((ds, lks v σ), σ) else .stuck
    | none => .stuck) := by
  refine PI.imp (pi_seqK hl) fun σ H R ⟨F, e, S, h⟩ => ?_
  refine ⟨F, e, S, PostE.mk (r := .stuck) (Post := PostI G W _ R) _ _ (PostI.hx _) (fun z => z) h fun vl e1 v F1 H1 st1 S1 r1 h1 => ?_⟩
  obtain ⟨F2, st2, S2, r2⟩ := hold_ok st1 S1 r1
  have h2 := h1.next st2 rfl
  obtain ⟨d, hp, h3⟩ := pkE (Post := PostI G W _ R) (fun z => z) h2
  cases hi : items d with
  | none => simp only [hi] at h3; exact h3.elim
  | some xs =>
    simp only [hi] at h3
    by_cases hw : wOk vl e1 = true
    · rw [if_pos hw] at h3
      have sa : SrcAt G ⟨F2, σ, H1, (lks vl e1).foldr PV.lock e1⟩ d v := srcAt_of S2 (by cases vl <;> rfl) r2 hp (by rw [wOk_hold]; exact hw) (by rw [lks_hold]; exact fun _ h => h)
      obtain ⟨a, vs, rfl, q, rp⟩ := sa.sq S2.locks hi
      have q := q
      rw [← hK] at q
      have fin := h3 _ _ F2 H1 Step.rfl' S2 lks_not (itOk_seq hi) sa
      refine ⟨a, rfl, ?_⟩
      cases hk : kd d <;> rw [hk] at q fin
      · exact .inr ⟨⟨vs, q⟩, by rw [hK]; exact fin⟩
      · exact .inl ⟨⟨vs, q⟩, by rw [hK]; exact fin⟩
    · rw [if_neg hw] at h3; exact h3.elim
theorem VRels.one {vs : List V} {l : Vl} {H0 : Hp} (h : VRels G H0 c vs [l]) : ∃ v, vs = [v] ∧ VRel G H0 c v l ∧ hold l = l := by
  obtain ⟨v, r, rfl, h1, h2, h3⟩ := h
  have h3 : r = [] := h3
  subst h3
  rw [h2] at h1
  exact ⟨v, rfl, h1, h2⟩
theorem VRels.two {vs : List V} {l l' : Vl} {H0 : Hp} (h : VRels G H0 c vs [l, l']) : ∃ v v', vs = [v, v'] ∧ (VRel G H0 c v l ∧ hold l = l) ∧ VRel G H0 c v' l' ∧ hold l' = l' := by
  obtain ⟨v, r, rfl, h1, h2, h3⟩ := h
  obtain ⟨v', rfl, k1, k2⟩ := VRels.one (vs := r) h3
  rw [h2] at h1
  exact ⟨v, v', rfl, ⟨h1, h2⟩, k1, k2⟩
theorem peek_noexc {l : Vl} {e : En} : ∀ x, peek l e ≠ .exc x := fun x hp => by
  unfold peek at hp
  split at hp
  · cases hp
  · cases hp
  · split at hp <;> cases hp
theorem pks_noexc : ∀ (ls : List Vl) (e : En) (x : Exn), pks ls e ≠ .exc x
  | [], e, x, z => by cases z
  | l :: ls, e, x, z => by
    simp only [pks, pk] at z
    cases hp : peek l e with
    | ok d =>
      rw [hp] at z
      simp only [PV.R.map, bnd_ok] at z
      cases hr : pks ls e with
      | ok q => rw [hr] at z; cases q; cases z
      | exc y => exact pks_noexc ls e y hr
      | stuck => rw [hr] at z; cases z
    | exc y => exact peek_noexc y hp
    | stuck => rw [hp] at z; cases z
theorem gI_enum {e : Expr} {p pos tpos : Pos} {elts : List Expr} {kk : Nat} {ms : En → PV.R (List Vl × En)} (hK : X.K = G.K) (hg : Gl X "enumerate") (hm : X.mg "enumerate" = none) (ha : PA X [e] (tP G W ms)) (hs : starEach [e] X.env = [(false, eval e X.env)]) :
    PI X (.Tuple elts kk tpos) (.Call (.Name "enumerate" p) [e] [] pos) (tI G W fun σ => bnd (ms σ) fun vs σ => bnd (pks vs σ) fun ds σ => match vs, ds with
    | [va], [x] => (match items x with
      | some xs => if wOk va σ = true then .ok ((enumD 0 xs, lks va σ), σ) else .stuck
      | _ => .stuck)
    | _, _ => .stuck) := by
  refine PI.imp (pi_enumK hg hm ha hs) fun σ H R ⟨F, e, S, h⟩ => ?_
  refine ⟨F, e, S, PostP.bind (Post := PostI G W _ R) (PostI.hx _) (fun z => z) h fun ls e1 vs F1 H1 st1 S1 r1 h1 => ?_⟩
  have h1 := h1.next st1 rfl
  match ls, r1, h1 with
  | [], _, h1 => exact h1.elim
  | [va], r1, h1 =>
    obtain ⟨v, rfl, r2, hh⟩ := r1.one
    obtain ⟨d, hp, h3⟩ := pkE (Post := PostI G W _ R) (k := fun d σ => bnd (bnd (pks [] σ) fun ds σ => .ok (d :: ds, σ)) fun ds σ => match [va], ds with
      | [va], [x] => (match items x with
        | some xs => if wOk va σ = true then .ok ((enumD 0 xs, lks va σ), σ) else .stuck
        | _ => .stuck)
      | _, _ => .stuck) (fun z => z) (by
        have h1 := h1
        simp only [pks] at h1 ⊢
        cases hq : pk va e1 with
        | ok p => rw [hq] at h1; exact h1
        | exc x => rw [hq] at h1; exact h1
        | stuck => rw [hq] at h1; exact h1)
    simp only [pks, bnd_ok] at h3
    cases hi : items d with
    | none => simp only [hi] at h3; exact h3.elim
    | some xs =>
      simp only [hi] at h3
      by_cases hw : wOk va e1 = true
      · rw [if_pos hw] at h3
        have sa : SrcAt G ⟨F1, σ, H1, (lks va e1).foldr PV.lock e1⟩ d v := srcAt_of S1 hh r2 hp hw fun _ h => h
        obtain ⟨a, vs, rfl, q, rp⟩ := sa.sq S1.locks hi
        have q := q
        rw [← hK] at q
        have fin := h3 _ _ F1 H1 Step.rfl' S1 lks_not (itOk_enum hi) sa
        exact ⟨_, a, vs, rfl, q, by rw [hK]; exact fin⟩
      · rw [if_neg hw] at h3; exact h3.elim
  | va :: vb :: ls, r1, h1 =>
    exfalso
    cases hq : pks (va :: vb :: ls) e1 with
    | ok p => rw [hq] at h1; exact h1
    | exc x =>
      exact pks_noexc _ _ _ hq
    | stuck => rw [hq] at h1; exact h1
theorem gI_zip {e e2 : Expr} {p pos tpos : Pos} {elts : List Expr} {kk : Nat} {ms : En → PV.R (List Vl × En)} (hK : X.K = G.K) (hg : Gl X "zip") (hm : X.mg "zip" = none) (ha : PA X [e, e2] (tP G W ms)) (hs : starEach [e, e2] X.env = (false, eval e X.env) :: starEach [e2] X.env) (hpl : (backTo pos (starEach [e2] X.env)).any (·.1) = false) :
    PI X (.Tuple elts kk tpos) (.Call (.Name "zip" p) [e, e2] [] pos) (tI G W fun σ => bnd (ms σ) fun vs σ => bnd (pks vs σ) fun ds σ => match vs, ds with
    | [va, vb], [x, y] => (match items x, items y with
      | some xs, some ys => if wOk va σ = true ∧ wOk vb σ = true then .ok ((zipD xs ys, lks va σ ++ lks vb σ), σ) else .stuck
      | _, _ => .stuck)
    | _, _ => .stuck) := by
  refine PI.imp (pi_zipK hg hm ha hs hpl) fun σ H R ⟨F, e, S, h⟩ => ?_
  refine ⟨F, e, S, PostP.bind (Post := PostI G W _ R) (PostI.hx _) (fun z => z) h fun ls e1 vs F1 H1 st1 S1 r1 h1 => ?_⟩
  have h1 := h1.next st1 rfl
  have nope : (∀ va vb, ls ≠ [va, vb]) → False := fun hne => by
    cases hq : pks ls e1 with
    | ok p =>
      rw [hq] at h1
      obtain ⟨ds, e2⟩ := p
      rw [bnd_ok] at h1
      match ls, ds, hne, h1 with
      | [], _, _, h1 => exact h1
      | [_], _, _, h1 => exact h1
      | va :: vb :: [], _, hne, _ => exact hne va vb rfl
      | _ :: _ :: _ :: _, _, _, h1 => exact h1
    | exc x => exact pks_noexc _ _ _ hq
    | stuck => rw [hq] at h1; exact h1
  match ls, r1, h1, nope with
  | [], _, _, nope => exact (nope (by simp)).elim
  | [_], _, _, nope => exact (nope (by simp)).elim
  | _ :: _ :: _ :: _, _, _, nope => exact (nope (by simp)).elim
  | [va, vb], r1, h1, _ =>
    obtain ⟨v, v', rfl, ⟨r2, hh⟩, r3, hh'⟩ := r1.two
    have h2 : ∃ d d', peek va e1 = .ok d ∧ peek vb e1 = .ok d' := by
      cases hp : peek va e1 with
      | ok d =>
        cases hp' : peek vb e1 with
        | ok d' => exact ⟨d, d', rfl, rfl⟩
        | exc y => exact (peek_noexc y hp').elim
        | stuck => simp [pks, pk, hp, hp', PV.R.map] at h1; exact h1.elim
      | exc y => exact (peek_noexc y hp).elim
      | stuck => simp [pks, pk, hp, PV.R.map] at h1; exact h1.elim
    obtain ⟨d, d', hp, hp'⟩ := h2
    simp only [pks, pk, hp, hp', PV.R.map, bnd_ok] at h1
    cases hi : items d with
    | none => simp only [hi] at h1; exact h1.elim
    | some xs =>
      cases hj : items d' with
      | none => simp only [hi, hj] at h1; exact h1.elim
      | some ys =>
        simp only [hi, hj] at h1
        by_cases hw : wOk va e1 = true ∧ wOk vb e1 = true
        · rw [if_pos hw] at h1
          have sa : SrcAt G ⟨F1, σ, H1, (lks va e1 ++ lks vb e1).foldr PV.lock e1⟩ d v := srcAt_of S1 hh r2 hp hw.1 fun _ h => List.mem_append_left _ h
          have sb : SrcAt G ⟨F1, σ, H1, (lks va e1 ++ lks vb e1).foldr PV.lock e1⟩ d' v' := srcAt_of S1 hh' r3 hp' hw.2 fun _ h => List.mem_append_right _ h
          obtain ⟨a, vs, rfl, q, rp⟩ := sa.sq S1.locks hi
          obtain ⟨b, us, rfl, q', rp'⟩ := sb.sq S1.locks hj
          have q := q
          rw [← hK] at q
          have q' := q'
          rw [← hK] at q'
          have fin := h1 _ _ F1 H1 Step.rfl' S1 (fun i hi => (List.mem_append.mp hi).elim (lks_not i) (lks_not i)) (itOk_zip hi hj) ⟨sa, sb⟩
          exact ⟨_, _, a, b, vs, us, rfl, q, q', by rw [hK]; exact fin⟩
        · rw [if_neg hw] at h1; exact h1.elim
/-! ### ranges -/
theorem rngD_inv {lo hi c : Int} {ds : List D} (h : rngD lo hi c = some ds) : (-1000000 < lo ∧ lo < 1000000000 ∧ -1000000 < hi ∧ hi < 1000000000) ∧
    (c = 1 ∧ ds = ((List.range (hi - lo).toNat).map fun (i : Nat) => D.int (lo + i)) ∨ c = -1 ∧ ds = ((List.range (lo - hi).toNat).map fun (i : Nat) => D.int (lo + (i : Int) * (-1)))) := by
  unfold rngD at h
  split at h
  · rename_i hb
    refine ⟨hb, ?_⟩
    split at h
    · rename_i hc; cases h; exact .inl ⟨hc, rfl⟩
    · split at h
      · rename_i hc; cases h; exact .inr ⟨hc, rfl⟩
      · cases h
  · cases h
theorem Reps.int1 {n : Int} {vs : List V} (r : Reps G F [.int n] vs) : vs = [.int n] := by
  simp only [Reps, Rep] at r
  obtain ⟨v, _, rfl, rfl, rfl⟩ := r
  rfl
theorem Reps.int2 {n m : Int} {vs : List V} (r : Reps G F [.int n, .int m] vs) : vs = [.int n, .int m] := by
  simp only [Reps, Rep] at r
  obtain ⟨v, _, rfl, rfl, v', _, rfl, rfl, rfl⟩ := r
  rfl
theorem Reps.int3 {n m k : Int} {vs : List V} (r : Reps G F [.int n, .int m, .int k] vs) : vs = [.int n, .int m, .int k] := by
  simp only [Reps, Rep] at r
  obtain ⟨v, _, rfl, rfl, v', _, rfl, rfl, v'', _, rfl, rfl, rfl⟩ := r
  rfl
theorem PostA.inv {ms : PV.R (List D × En)} {n : Nat} {k : List D → En → PV.R ((List D × List Nat) × En)} {c : Cf} {Q : List V → Hp → Prop} (hl : ∀ ds σ', ms = .ok (ds, σ') → ds.length = n) (h : PostI G W c R (bnd ms k))
    (hk : ∀ ds e' vs F' H', ds.length = n → Step G c ⟨F', c.σ, H', e'⟩ → Sim G ⟨F', c.σ, H', e'⟩ → Reps G F' ds vs → PostI G W c R (k ds e') → Q vs H') : PostA G W c Q ms := by
  cases ms with
  | ok p =>
    obtain ⟨ds, e'⟩ := p
    intro vs F' H' st S r
    exact hk ds e' vs F' H' (hl ds e' rfl) st S r h
  | exc x => exact h
  | stuck => exact h
theorem gI_rng {es : List Expr} {p pos : Pos} {tg : Expr} {ms : En → PV.R (List D × En)} (hln : ∀ σ ds σ', ms σ = .ok (ds, σ') → ds.length = es.length) (hg : Gl X "range") (hm : X.mg "range" = none) (ha : PA X es (tA G W ms)) (hs : ∀ a l, a ∈ es → starEach (a :: l) X.env = (false, eval a X.env) :: starEach l X.env) (hpl : ∀ l : List Expr, (∀ a ∈ l, a ∈ es) → (backTo pos (starEach l X.env)).any (·.1) = false)
    (hne : es.length = 1 ∨ es.length = 2 ∨ es.length = 3) :
    PI X tg (.Call (.Name "range" p) es [] pos) (tI G W fun σ => bnd (ms σ) fun ds σ => match rngA ds with
    | some xs => .ok ((xs, []), σ)
    | none => .stuck) := by
  match es, hne with
  | [a], _ =>
    refine PI.imp (pi_range1 hg hm ha (hs a [] (by simp))) fun σ H R ⟨F, e, S, h⟩ => ?_
    refine ⟨F, e, S, PostA.inv (n := 1) (hln e) h fun ds e1 vs F1 H1 hl st1 S1 r1 h1 => ?_⟩
    have h1 := h1.next st1 rfl
    match ds, hl with
    | [d], _ =>
      cases d with
      | int n =>
        simp only [rngA] at h1
        cases hr : rngD 0 n 1 with
        | none => rw [hr] at h1; exact h1.elim
        | some xs =>
          rw [hr] at h1
          obtain ⟨hb, ⟨_, rfl⟩ | ⟨hc, _⟩⟩ := rngD_inv hr
          · refine ⟨n, r1.int1, by omega, by omega, ?_⟩
            have fin := h1 _ _ F1 H1 Step.rfl' S1 (by simp) (itOk_rng (n := (n - 0).toNat)) trivial
            simpa using fin
          · cases hc
      | _ => exact h1.elim
  | [a, b], _ =>
    refine PI.imp (pi_range2 hg hm ha (by rw [hs a _ (by simp), hs b _ (by simp)]; rfl) (by rw [hs b _ (by simp)]; rfl)) fun σ H R ⟨F, e, S, h⟩ => ?_
    refine ⟨F, e, S, PostA.inv (n := 2) (hln e) h fun ds e1 vs F1 H1 hl st1 S1 r1 h1 => ?_⟩
    have h1 := h1.next st1 rfl
    match ds, hl with
    | [d, d'], _ =>
      cases d with
      | int n =>
        cases d' with
        | int m =>
          simp only [rngA] at h1
          cases hr : rngD n m 1 with
          | none => rw [hr] at h1; exact h1.elim
          | some xs =>
            rw [hr] at h1
            obtain ⟨hb, ⟨_, rfl⟩ | ⟨hc, _⟩⟩ := rngD_inv hr
            · exact ⟨n, m, r1.int2, by omega, h1 _ _ F1 H1 Step.rfl' S1 (by simp) (itOk_rng (n := (m - n).toNat)) trivial⟩
            · cases hc
        | _ => exact h1.elim
      | _ => exact h1.elim
  | [a, b, c], _ =>
    refine PI.imp (pi_range3 hg hm ha (hs _ _ (by simp)) (hpl [b, c] (by simp))) fun σ H R ⟨F, e, S, h⟩ => ?_
    refine ⟨F, e, S, PostA.inv (n := 3) (hln e) h fun ds e1 vs F1 H1 hl st1 S1 r1 h1 => ?_⟩
    have h1 := h1.next st1 rfl
    match ds, hl with
    | [d, d', d''], _ =>
      cases d with
      | int n =>
        cases d' with
        | int m =>
          cases d'' with
          | int k =>
            simp only [rngA] at h1
            cases hr : rngD n m k with
            | none => rw [hr] at h1; exact h1.elim
            | some xs =>
              rw [hr] at h1
              obtain ⟨hb, ⟨rfl, rfl⟩ | ⟨rfl, rfl⟩⟩ := rngD_inv hr
              · refine ⟨n, m, 1, (m - n).toNat, r1.int3, ⟨by decide, by decide, small_one (by omega) (by omega) (by omega) (by omega), by rw [rangeSize_one]; split <;> omega⟩, ?_⟩
                exact h1 _ _ F1 H1 Step.rfl' S1 (by simp) (by
                  have := itOk_rngC (G := G) (lo := n) (k := 1) (n := (m - n).toNat)
                  simpa using this) trivial
              · exact ⟨n, m, -1, (n - m).toNat, r1.int3, RgC.neg (by omega) (by omega) (by omega) (by omega), h1 _ _ F1 H1 Step.rfl' S1 (by simp) itOk_rngC trivial⟩
          | _ => exact h1.elim
        | _ => exact h1.elim
      | _ => exact h1.elim
end
end PV
set_option Elab.async false
set_option linter.all false
set_option maxRecDepth 100000
namespace PV
open PySem PySem.Spec PyProof.Rows L2
/-! ## targets -/
def gNames : List Nat → TGs
  | [] => gNil
  | i :: is => gCons (gName i) (gNames is)
def gTg (K : PySem.W.Frag) (t : Tgt) : TG := match t with
  | .v i => gName i
  | .tp is => gTup K is.length (gNames is)
section
variable {G : Gb} {W : XK} {X : Cx} {cf : CF} {lv : Nat} {c c1 : Cf} {F F' H H' : Hp} {σ : Sg} {e e' : En}
theorem setc_noexc {i : Nat} {c : Cell} {e : En} : ∀ x, setc i c e ≠ .exc x := fun x h => by
  unfold setc at h
  split at h <;> cases h
theorem setAll_noexc : ∀ (is : List Nat) (ds : List D) (e : En) x, setAll is ds e ≠ .exc x
  | [], [], e, x, h => by cases h
  | [], _ :: _, e, x, h => by cases h
  | _ :: _, [], e, x, h => by cases h
  | i :: is, d :: ds, e, x, h => by
    simp only [setAll] at h
    cases hc : setc i (.sh d) e with
    | ok e' => rw [hc] at h; exact setAll_noexc is ds e' x h
    | exc y => exact setc_noexc y hc
    | stuck => rw [hc] at h; cases h
theorem setT_noexc {t : Tgt} {d : D} {e : En} : ∀ x, setT t d e ≠ .exc x := fun x h => by
  cases t with
  | v i => exact setc_noexc x h
  | tp is =>
    cases d with
    | tup ds => exact setAll_noexc is ds e x h
    | _ => cases h
theorem namesI {Q : L2.St → Hp → Prop} : ∀ {is : List Nat} {ds : List D} {vs : List V} {σ : Sg} {e e' : En}, Sim G ⟨F, σ, H, e⟩ → Reps G F ds vs → setAll is ds e = .ok e' →
    (∀ σ', Sim G ⟨F, σ', H, e'⟩ → (∀ c0, Step G c0 ⟨F, σ, H, e⟩ → Step G c0 ⟨F, σ', H, e'⟩) → σ'.length = σ.length → (∀ j, j ∉ is → σ'[j]? = σ[j]?) → Q σ' H) → gNames is vs σ H Q ∧ vs.length = is.length
  | [], [], vs, σ, e, e', S, r, h, k => by
    simp only [Reps] at r
    subst r
    cases h
    exact ⟨⟨rfl, k σ S (fun _ s => s) rfl fun _ _ => rfl⟩, rfl⟩
  | [], _ :: _, _, _, _, _, _, _, h, _ => by cases h
  | _ :: _, [], _, _, _, _, _, _, h, _ => by cases h
  | i :: is, d :: ds, vs, σ, e, e', S, r, h, k => by
    simp only [Reps] at r
    obtain ⟨v, vr, rfl, r1, r2⟩ := r
    simp only [setAll] at h
    cases hc : setc i (.sh d) e with
    | ok e1 =>
      rw [hc] at h
      have S1 : Sim G ⟨F, σ.set i (some v), H, e1⟩ := S.setc hc ⟨v, rfl, r1⟩ (fun z => by cases z)
      obtain ⟨k1, k2⟩ := namesI (Q := Q) S1 r2 h fun σ' S' st hl ho => k σ' S' (fun c0 s => st c0 (s.setc hc S.len rfl (fun z => by cases z))) (by rw [hl, List.length_set]) fun j hj => by
        simp only [List.mem_cons, not_or] at hj
        rw [ho j hj.2, List.getElem?_set_ne (Ne.symm hj.1)]
      exact ⟨⟨v, vr, rfl, k1⟩, by simp [k2]⟩
    | exc y => rw [hc] at h; cases h
    | stuck => rw [hc] at h; cases h
theorem tgI {t : Tgt} {d : D} {x : V} {Q : L2.St → Hp → Prop} (S : Sim G ⟨F, σ, H, e⟩) (r : Rep G F d x) (h : setT t d e = .ok e')
    (k : ∀ σ', Sim G ⟨F, σ', H, e'⟩ → (∀ c0, Step G c0 ⟨F, σ, H, e⟩ → Step G c0 ⟨F, σ', H, e'⟩) → σ'.length = σ.length → (∀ j, j ∉ t.slots → σ'[j]? = σ[j]?) → Q σ' H) : gTg G.K t x σ H Q := by
  cases t with
  | v i =>
    exact k _ (S.setc h ⟨x, rfl, r⟩ fun z => by cases z) (fun c0 s => s.setc h S.len rfl fun z => by cases z) (by rw [List.length_set]) fun j hj => List.getElem?_set_ne (fun z => hj (by simp [Tgt.slots, z]))
  | tp is =>
    cases d with
    | tup ds =>
      simp only [Rep] at r
      obtain ⟨a, vs, rfl, r1, r2⟩ := r
      obtain ⟨k1, k2⟩ := namesI S r2 h k
      exact ⟨a, vs, rfl, sqT_same S.sub r1, k2, k1⟩
    | _ => cases h
theorem pgs_names {X : Cx} : ∀ {is : List Nat} {es : List Expr}, (∃ xs : List (Nat × Expr), is = xs.map (·.1) ∧ es = xs.map (·.2) ∧ ∀ p ∈ xs, PG X p.2 (gName p.1) ∧ ∀ r, (assignEach (p.2 :: r) X.env).map (·.2) = assign p.2 X.env :: (assignEach r X.env).map (·.2)) → PGs X es (gNames is)
  | is, es, ⟨xs, e1, e2, h⟩ => by
    subst e1 e2
    induction xs with
    | nil => exact pgs_nil
    | cons p xs ih =>
      obtain ⟨h1, h2⟩ := h p List.mem_cons_self
      exact pgs_cons h1 (ih fun q hq => h q (List.mem_cons_of_mem _ hq)) (h2 _)
/-! ## an unowned list grows -/
theorem Step.grow {c0 : Cf} {D : Addr} {o : HO} (st : Step G c0 ⟨F, σ, H, e⟩) (h0 : c0.H D = none) : Step G c0 ⟨F, σ, upd H D o, e⟩ where
  f := st.f
  frame := fun b u hb hw => by
    have : b ≠ D := fun z => by rw [z, h0] at hb; cases hb
    show upd H D o b = some u
    rw [upd_ne this]; exact st.frame b u hb hw
  new := st.new
  dom := fun b hb => by
    show upd H D o b ≠ none
    by_cases z : b = D
    · rw [z, upd_same]; simp
    · rw [upd_ne z]; exact st.dom b hb
  w := st.w
  lk := st.lk
  io := st.io
theorem Sim.grow {D : Addr} {o : HO} (S : Sim G ⟨F, σ, H, e⟩) (hf : F D = none) (hw : ¬ Cf.W ⟨F, σ, H, e⟩ D) : Sim G ⟨F, σ, upd H D o, e⟩ where
  len := S.len
  sub := fun b u hb => by
    have hb : F b = some u := hb
    have : b ≠ D := fun z => by rw [z, hf] at hb; cases hb
    show upd H D o b = some u
    rw [upd_ne this]; exact S.sub b u hb
  cell := fun i x hx => (S.cell i x hx).stay (fun _ _ h => h) fun ho a hs => ⟨fun u hu => by
    have : a ≠ D := fun z => hw ⟨i, x, hx, ho, by rw [← z]; exact hs⟩
    show upd H D o a = some u
    rw [upd_ne this]; exact hu, fun h => h⟩
  inj := S.inj
theorem ow_step {H0 : Hp} {D : Addr} {acc : List PV.D} (st : Step G c c1) (h : VRel G H0 c (.ref D) (.ow acc)) : VRel G H0 c1 (.ref D) (.ow acc) := by
  obtain ⟨a, h1, ⟨vs, h2, h3, h4⟩, h5, h6⟩ := h
  have hn : c.H a ≠ none := by rw [h2]; simp
  refine ⟨a, h1, ⟨vs, st.frame _ _ h2 h5, ?_, h4.mono st.f⟩, fun w => (st.w a w).elim h5 hn, h6⟩
  cases q : c1.F a with
  | none => rfl
  | some o => exact ((st.new a h3 (by rw [q]; simp)).elim hn h5).elim
theorem W.wipe {vs : List Nat} {b : Addr} (h : Cf.W ⟨F, L2.wipe σ vs, H, wipeE e vs⟩ b) : Cf.W ⟨F, σ, H, e⟩ b := by
  obtain ⟨i, x, h1, h2, h3⟩ := h
  obtain ⟨k1, h1⟩ := wipeE_cell h1 (fun z => by subst z; cases h2)
  have h3 : (L2.wipe σ vs)[i]? = some (some (.ref b)) := h3
  rw [wipe_get, if_neg k1] at h3
  exact ⟨i, x, h1, h2, h3⟩
theorem ow_wipe {H0 : Hp} {vs : List Nat} {D : Addr} {acc : List PV.D} (h : VRel G H0 ⟨F, σ, H, e⟩ (.ref D) (.ow acc)) : VRel G H0 ⟨F, L2.wipe σ vs, H, wipeE e vs⟩ (.ref D) (.ow acc) := by
  obtain ⟨a, h1, h2, h5, h6⟩ := h
  exact ⟨a, h1, h2, fun w => h5 (W.wipe w), h6⟩
/-! ## comprehensions -/
def nW : XK := fun _ _ _ => False
/-- what a loop's results are to be -/
structure PLok (PL : R (List D × En) → Prop) : Prop where
  exc : ∀ x, ¬ PL (.exc x)
  stuck : ¬ PL .stuck
/-- the part of a step that keeps what is walked -/
structure StepK (G : Gb) (c d : Cf) : Prop where
  f : Same c.F d.F
  lk : ∀ (i : Nat) (ds : List D) (v : V), c.e[i]? = some (.lk ds) → c.σ[i]? = some (some v) → (d.e[i]? = some (.lk ds) ∧ d.σ[i]? = some (some v)) ∨ Rep G d.F (.lst ds) v
theorem Step.k (s : Step G c c1) : StepK G c c1 := ⟨s.f, s.lk⟩
theorem StepK.trans {a b c : Cf} (s : StepK G a b) (t : StepK G b c) : StepK G a c := ⟨s.f.trans t.f, fun i ds v h k => by
  rcases s.lk i ds v h k with ⟨q1, q2⟩ | q
  · exact t.lk i ds v q1 q2
  · exact .inr (Rep.mono t.f q)⟩
theorem StepK.heap {c0 : Cf} (s : StepK G c0 ⟨F, σ, H, e⟩) : StepK G c0 ⟨F, σ, H', e⟩ := ⟨s.f, s.lk⟩
theorem StepK.wipe {c0 : Cf} {vs : List Nat} (st : StepK G c0 ⟨F, σ, H, e⟩) (hn : ∀ i ∈ vs, ∀ ds, c0.e[i]? ≠ some (.lk ds)) : StepK G c0 ⟨F, L2.wipe σ vs, H, wipeE e vs⟩ := ⟨st.f, fun j ds u hj hu => by
  have hv : j ∉ vs := fun z => hn j z ds hj
  rcases st.lk j ds u hj hu with ⟨q1, q2⟩ | q
  · left
    exact ⟨by show (wipeE e vs)[j]? = _; rw [wipeE_get, if_neg hv]; exact q1, by show (L2.wipe σ vs)[j]? = _; rw [wipe_get, if_neg hv]; exact q2⟩
  · exact .inr q⟩
/-- the invariant: the block's slots are wiped; c0: ahead of the new list; ck: where the walk began -/
def LcW (G : Gb) (c0 ck : Cf) (σw : Sg) (vs : List Nat) (Da : Addr) (f : D → List D → En → R (List D × En)) (PL : R (List D × En) → Prop) (ds : List D) (i m : Nat) (H : Hp) : Prop :=
  m = ds.length - i ∧ i ≤ ds.length ∧ ∃ F e acc, Step G c0 ⟨F, σw, H, wipeE e vs⟩ ∧ StepK G ck ⟨F, σw, H, wipeE e vs⟩ ∧ Sim G ⟨F, σw, H, wipeE e vs⟩ ∧ VRel G c0.H ⟨F, σw, H, wipeE e vs⟩ (.ref Da) (.ow acc) ∧ PL (lcL f (ds.drop i) acc e)
theorem bnd_ex {α β : Type} {m : R (α × En)} {k : α → En → R (β × En)} {Post : R (β × En) → Prop} (he : ∀ x, ¬ Post (.exc x)) (hs : ¬ Post .stuck) (h : Post (bnd m k)) : ∃ a e, m = .ok (a, e) ∧ Post (k a e) := by
  cases m with
  | ok p => exact ⟨p.1, p.2, rfl, h⟩
  | exc x => exact (he x h).elim
  | stuck => exact (hs h).elim
/-- one turn of a comprehension: from what is yielded to the next turn -/
theorem lc_turn {c0 ck : Cf} {σw : Sg} {vs : List Nat} {t : Tgt} {mc : En → R (Bool × En)} {me : En → R (Vl × En)} {Da : Addr} {d : D} {x : V} {acc : List D} {PL : R (List D × En) → Prop} (hp : PLok PL) {k : List D → En → R (List D × En)} {Nx : Hp → Prop}
    (hvs : ∀ j ∈ t.slots, j ∈ vs) (hσ : L2.wipe σw vs = σw) (hn : ∀ i ∈ vs, ∀ ds, c0.e[i]? ≠ some (Cell.lk ds)) (hnk : ∀ i ∈ vs, ∀ ds, ck.e[i]? ≠ some (Cell.lk ds))
    (st : Step G c0 ⟨F, σw, H, wipeE e vs⟩) (sk : StepK G ck ⟨F, σw, H, wipeE e vs⟩) (S : Sim G ⟨F, σw, H, wipeE e vs⟩) (hD : VRel G c0.H ⟨F, σw, H, wipeE e vs⟩ (.ref Da) (.ow acc)) (rx : Rep G F d x)
    (h : PL (bnd (lcF vs t mc me d acc e) k))
    (hN : ∀ F' H' e' acc', Step G c0 ⟨F', σw, H', wipeE e' vs⟩ → StepK G ck ⟨F', σw, H', wipeE e' vs⟩ → Sim G ⟨F', σw, H', wipeE e' vs⟩ → VRel G c0.H ⟨F', σw, H', wipeE e' vs⟩ (.ref Da) (.ow acc') → PL (k acc' e') → Nx H') :
    gTg G.K t x σw H fun σ2 H2 => L2.wipe σ2 vs = σw ∧ tT G nW mc σ2 H2 fun b H3 =>
      if b = true then tE G nW me σ2 H3 fun y H4 => ∃ acc, H4 Da = some (.lst acc) ∧ acc.length < sizeLine ∧ Nx (upd H4 Da (.lst (acc ++ [y]))) else Nx H3 := by
  unfold lcF at h
  cases hset : setT t d (wipeE e vs) with
  | ok e1 =>
    rw [hset] at h
    refine tgI S rx hset fun σ2 S2 st2 hl2 ho2 => ⟨?_, ?_⟩
    · rw [← hσ]
      exact wipe_wipe hl2 fun j hj => ho2 j fun z => hj (hvs j z)
    have hw2 : L2.wipe σ2 vs = σw := by
      rw [← hσ]
      exact wipe_wipe hl2 fun j hj => ho2 j fun z => hj (hvs j z)
    have h : PL (bnd (bnd (mc e1) fun b σ => match b with
      | true => addL acc (bnd (me σ) fun v σ => esc v σ)
      | false => .ok (acc, σ)) k) := h
    have st2' := st2 _ st
    have sk2' := sk.trans (st2 _ Step.rfl').k
    have D2 : VRel G c0.H ⟨F, σ2, H, e1⟩ (.ref Da) (.ow acc) := ow_step (st2 _ Step.rfl') hD
    cases hmc : mc e1 with
    | exc y => rw [hmc] at h; exact (hp.exc y h).elim
    | stuck => rw [hmc] at h; exact (hp.stuck h).elim
    | ok p =>
      obtain ⟨b, e3⟩ := p
      rw [hmc] at h
      refine ⟨F, e1, S2, ?_⟩
      rw [hmc]
      intro F3 H3 st3 S3
      have st3' := st2'.trans st3
      have sk3' := sk2'.trans st3.k
      have D3 := ow_step st3 D2
      cases b with
      | false =>
        rw [if_neg Bool.false_ne_true]
        have h : PL (k acc e3) := h
        have w := st3'.wipe hn
        have wk := sk3'.wipe hnk
        rw [hw2] at w wk
        have Sw := S3.wipe (vs := vs)
        rw [hw2] at Sw
        have Dw := ow_wipe (vs := vs) D3
        rw [hw2] at Dw
        exact hN F3 H3 e3 acc w wk Sw Dw h
      | true =>
        rw [if_pos rfl]
        have h : PL (bnd (addL acc (bnd (me e3) fun v σ => esc v σ)) k) := h
        unfold addL at h
        refine ⟨F3, e3, S3, ?_⟩
        cases hme : me e3 with
        | exc y => rw [hme] at h; exact (hp.exc y h).elim
        | stuck => rw [hme] at h; exact (hp.stuck h).elim
        | ok p =>
          obtain ⟨vl, e4⟩ := p
          rw [hme] at h
          intro v F4 H4 st4 S4 r4
          obtain ⟨dy, F5, e5, st5, sm5, S5, rp, h5⟩ := esc_ok (Post := fun r => PL (bnd (bnd r fun y σ => if acc.length < 16000000 then .ok (acc ++ [y], σ) else .stuck) k)) (k := fun y σ => .ok (y, σ)) hp.stuck st4 S4 r4 (by
            cases hq : esc vl e4 with
            | ok q => rw [bnd_ok, hq] at h; exact h
            | exc y => rw [bnd_ok, hq] at h; exact (hp.exc y h).elim
            | stuck => rw [bnd_ok, hq] at h; exact (hp.stuck h).elim)
          rw [bnd_ok] at h5
          by_cases hl : acc.length < 16000000
          · rw [if_pos hl] at h5
            have h5 : PL (k (acc ++ [dy]) e5) := h5
            have D5 := ow_step st5 D3
            obtain ⟨a, ea, ⟨us, q1, q2, q3⟩, q4, q5⟩ := D5
            cases ea
            have q1 : H4 Da = some (.lst us) := q1
            have q2 : F5 Da = none := q2
            refine ⟨us, q1, by rw [q3.length]; exact Nat.lt_of_lt_of_le hl (by decide), ?_⟩
            have st6 := ((st3'.trans st5).grow (o := .lst (us ++ [v])) q5).wipe hn
            have S6 := (S5.grow (o := .lst (us ++ [v])) q2 q4).wipe (vs := vs)
            have sk6 := ((sk3'.trans st5.k).heap (H' := upd H4 Da (.lst (us ++ [v])))).wipe hnk
            rw [hw2] at st6 S6 sk6
            refine hN F5 _ e5 (acc ++ [dy]) st6 sk6 S6 ⟨Da, rfl, ⟨us ++ [v], upd_same, q2, q3.append (.cons rp .nil)⟩, fun w => ?_, q5⟩ h5
            refine q4 ?_
            rw [← hw2] at w
            exact W.wipe w
          · rw [if_neg hl] at h5; exact (hp.stuck h5).elim
  | exc y => exact (setT_noexc y hset).elim
  | stuck => rw [hset] at h; exact (hp.stuck h).elim
/-- the loop of a comprehension, from its first turn -/
theorem lc_loop {c0 ck : Cf} {σw : Sg} {vs : List Nat} {t : Tgt} {mc : En → R (Bool × En)} {me : En → R (Vl × En)} {Da : Addr} {ds : List D} {J : It} {Keep : Cf → Prop} {PL : R (List D × En) → Prop} (hp : PLok PL) (it : ItOk G J Keep ds) (hk : Keep ck)
    (hvs : ∀ j ∈ t.slots, j ∈ vs) (hσ : L2.wipe σw vs = σw) (hn : ∀ i ∈ vs, ∀ ds, c0.e[i]? ≠ some (Cell.lk ds)) (hnk : ∀ i ∈ vs, ∀ ds, ck.e[i]? ≠ some (Cell.lk ds)) {Q : Hp → Prop}
    (hQ : ∀ F e acc H, Step G c0 ⟨F, σw, H, wipeE e vs⟩ → StepK G ck ⟨F, σw, H, wipeE e vs⟩ → Sim G ⟨F, σw, H, wipeE e vs⟩ → VRel G c0.H ⟨F, σw, H, wipeE e vs⟩ (.ref Da) (.ow acc) → PL (.ok (acc, e)) → Q H) :
    ∀ i m H, LcW G c0 ck σw vs Da (lcF vs t mc me) PL ds i m H → (J.stop i H ∧ Q H) ∨ (J.go i H ∧ ∃ Nx : Hp → Prop, (∀ H', Nx H' → ∃ m', m' < m ∧ LcW G c0 ck σw vs Da (lcF vs t mc me) PL ds (i + 1) m' H') ∧ ∀ x H', J.yld i H x H' → gTg G.K t x σw H' fun σ2 H2 => L2.wipe σ2 vs = σw ∧ tT G nW mc σ2 H2 fun b H3 =>
      if b = true then tE G nW me σ2 H3 fun y H4 => ∃ acc, H4 Da = some (.lst acc) ∧ acc.length < sizeLine ∧ Nx (upd H4 Da (.lst (acc ++ [y]))) else Nx H3) := by
  rintro i m H ⟨rfl, hi, F, e, acc, st, sk, S, hD, h⟩
  by_cases hlt : i < ds.length
  · refine .inr ⟨it.go ⟨F, σw, H, wipeE e vs⟩ i S (it.mono _ _ sk.f sk.lk hk) hlt, LcW G c0 ck σw vs Da (lcF vs t mc me) PL ds (i + 1) (ds.length - (i + 1)), fun H' w => ⟨_, by omega, w⟩, fun x H' y => ?_⟩
    obtain ⟨d, F', hd, sv, rx⟩ := it.yld ⟨F, σw, H, wipeE e vs⟩ i x H' S (it.mono _ _ sk.f sk.lk hk) hlt y
    have ed : ds.drop i = d :: ds.drop (i + 1) := by
      rw [List.drop_eq_getElem_cons hlt]
      rw [List.getElem?_eq_getElem hlt] at hd
      cases hd; rfl
    rw [ed] at h
    have st' := st.trans (sv.step (σ := σw) (e := wipeE e vs))
    have sk' := sk.trans (sv.step (σ := σw) (e := wipeE e vs)).k
    exact lc_turn hp hvs hσ hn hnk st' sk' (sv.sim S) (ow_step sv.step hD) rx h fun F2 H2 e2 acc2 st2 sk2 S2 D2 h2 => ⟨rfl, by omega, F2, e2, acc2, st2, sk2, S2, D2, h2⟩
  · have e : i = ds.length := by omega
    subst e
    have h : PL (.ok (acc, e)) := by
      rw [List.drop_length] at h
      exact h
    exact .inl ⟨it.stop ⟨F, σw, H, wipeE e vs⟩ S (it.mono _ _ sk.f sk.lk hk), hQ F e acc H st sk S hD h⟩
end
end PV
set_option Elab.async false
set_option linter.all false
set_option maxRecDepth 100000
namespace PV
open PySem PySem.Spec PyProof.Rows L2
section
variable {G : Gb} {W : XK} {X : Cx} {cf : CF} {lv : Nat} {c c1 : Cf} {F F' H H' : Hp} {σ : Sg} {e e' : En}
theorem wipe_twice {vs : List Nat} : L2.wipe (L2.wipe σ vs) vs = L2.wipe σ vs := wipe_wipe (wipe_length _ _) fun j hj => by rw [wipe_get, if_neg hj]
theorem PostI.of {Post : R (Vl × En) → Prop} {m : R ((List D × List Nat) × En)} {k : List D × List Nat → En → R (Vl × En)} {R : It → Hp → Prop} (hx : ∀ x, Post (.exc x) → ∀ cls d H', (∀ b o, c.H b = some o → ¬ c.W b → H' b = some o) → XAt G x cls d H' → W cls d H') (hs : ¬ Post .stuck) (h : Post (bnd m k))
    (hk : ∀ ds ls e' J Keep F' H', Step G c ⟨F', c.σ, H', e'⟩ → Sim G ⟨F', c.σ, H', e'⟩ → (∀ i ∈ ls, ∀ ds, e'[i]? ≠ some (Cell.lk ds)) → ItOk G J Keep ds → Keep ⟨F', c.σ, H', ls.foldr PV.lock e'⟩ → Post (k (ds, ls) e') → R J H') : PostI G W c R m := by
  cases m with
  | ok p =>
    obtain ⟨⟨ds, ls⟩, e'⟩ := p
    intro J Keep F' H' st S hn it kk
    exact hk ds ls e' J Keep F' H' st S hn it kk h
  | exc x => exact hx x h
  | stuck => exact (hs h).elim
/-- the end of a comprehension: its block goes, its locks come off -/
theorem lc_end {vs ls : List Nat} {Da : Addr} {acc : List D} {Q : VK} {F1 H1 F2 H2 : Hp} {e1 e2 : En} (S1 : Sim G ⟨F1, σ, H1, e1⟩) (hn1 : ∀ i ∈ ls, ∀ ds, e1[i]? ≠ some (Cell.lk ds)) (hn : ∀ i ∈ vs, ∀ ds, (ls.foldr PV.lock e1)[i]? ≠ some (Cell.lk ds))
    (st : Step G ⟨F1, L2.wipe σ vs, H1, wipeE (ls.foldr PV.lock e1) vs⟩ ⟨F2, L2.wipe σ vs, H2, wipeE e2 vs⟩) (S : Sim G ⟨F2, L2.wipe σ vs, H2, wipeE e2 vs⟩) (hD : VRel G H1 ⟨F2, L2.wipe σ vs, H2, wipeE e2 vs⟩ (.ref Da) (.ow acc))
    (h : PostE G W ⟨F1, σ, H1, e1⟩ Q (.ok (.ow acc, ls.foldr unlock (back (ls.foldr PV.lock e1) vs e2)))) : Q (.ref Da) H2 := by
  obtain ⟨r1, r2, r3⟩ := restore S1.locks hn st S
  obtain ⟨a, ea, hL, hw, h0⟩ := hD
  cases ea
  refine h (.ref Da) F2 H2 ?_ ?_ ?_
  · have := (Step.locks (ls := ls) (c0 := ⟨F1, σ, H1, e1⟩) Step.rfl').trans r1
    exact this.unlocks hn1
  · exact r2.unlocks
  · refine ⟨Da, rfl, hL, fun w => ?_, h0⟩
    rcases r3 Da (PV.W.unlocks w) with z | z
    · exact hw z
    · exact z h0
theorem lcI {t : Tgt} {ms : En → R ((List D × List Nat) × En)} {mc : En → R (Bool × En)} {me : En → R (Vl × En)} {Q : VK} (h : tE G W (lcM ms t.slots (lcF t.slots t mc me)) σ H Q) : tLc (tI G W ms) (gTg G.K t) (tT G nW mc) (tE G nW me) t.slots σ H Q := by
  obtain ⟨F, e, S, h⟩ := h
  refine ⟨F, e, S, PostI.of (Post := PostE G W _ Q) (PostE.hx _) (fun z => z) h fun ds ls e1 J Keep F1 H1 st1 S1 hn1 it kk h1 => ?_⟩
  intro Da hDa
  have h1 := PostE.next h1 st1 rfl
  by_cases hl : noLk t.slots (ls.foldr PV.lock e1) = true
  · simp only [hl, if_true] at h1
    have hn := noLk_ne hl
    have SL : Sim G ⟨F1, σ, H1, ls.foldr PV.lock e1⟩ := S1.locks
    have kw : Keep ⟨F1, L2.wipe σ t.slots, H1, wipeE (ls.foldr PV.lock e1) t.slots⟩ := (fun s : Step G _ _ => it.mono _ _ s.f s.lk kk) (Step.wipe Step.rfl' hn)
    have Sw : Sim G ⟨F1, L2.wipe σ t.slots, H1, wipeE (ls.foldr PV.lock e1) t.slots⟩ := SL.wipe
    have fD : F1 Da = none := by
      cases q : F1 Da with
      | none => rfl
      | some o => have z : H1 Da = some o := S1.sub Da o q; rw [hDa] at z; cases z
    have wD : ¬ Cf.W ⟨F1, L2.wipe σ t.slots, H1, wipeE (ls.foldr PV.lock e1) t.slots⟩ Da := fun w => (Sw.wh w).1 hDa
    have hnw : ∀ i ∈ t.slots, ∀ ds, (wipeE (ls.foldr PV.lock e1) t.slots)[i]? ≠ some (Cell.lk ds) := fun i hi ds hx => by
      obtain ⟨z, _⟩ := wipeE_cell hx (fun z => by cases z)
      exact z hi
    refine ⟨LcW G ⟨F1, L2.wipe σ t.slots, H1, wipeE (ls.foldr PV.lock e1) t.slots⟩ ⟨F1, L2.wipe σ t.slots, H1, wipeE (ls.foldr PV.lock e1) t.slots⟩ (L2.wipe σ t.slots) t.slots Da (lcF t.slots t mc me) (fun r => PostE G W ⟨F1, σ, H1, e1⟩ Q (bnd (unexc r) fun acc σ2 => .ok (.ow acc, ls.foldr unlock (back (ls.foldr PV.lock e1) t.slots σ2)))) ds,
      ⟨ds.length, by simp, Nat.zero_le _, F1, ls.foldr PV.lock e1, [], Step.grow Step.rfl' hDa, (Step.k Step.rfl').heap, Sw.grow fD wD, ⟨Da, rfl, ⟨[], upd_same, fD, .nil⟩, wD, hDa⟩, h1⟩, ?_⟩
    exact lc_loop ⟨fun x z => z, fun z => z⟩ it kw (fun j hj => hj) wipe_twice hnw hnw fun F2 e2 acc H2 st _ S hD h2 => lc_end S1 hn1 hn st S hD h2
  · simp only [hl] at h1
    exact h1.elim
theorem gE_lcG {elt tg iter : Expr} {ifs : List Expr} {scope : Scope} {own : List (Str × Nat)} {pos : Pos} {t : Tgt} {ms : En → R ((List D × List Nat) × En)} {mc : En → R (Bool × En)} {me : En → R (Vl × En)} (hc : X.calm = true) (hN : X.N.Nodup) (hi : PI X tg iter (tI G W ms)) (ok : BlkOk X.N X.env.scope scope own) (ho : own.map (·.2) = t.slots)
    (hg : ∀ (s : Shared) (H : Hp) (C : Addr) (cl : List (Str × Addr)) (fp : List Addr), PG (X.blk s H scope (compEnvC scope cl C X.env) fp) tg (gTg G.K t)) (ht : ∀ (s : Shared) (H : Hp) (C : Addr) (cl : List (Str × Addr)) (fp : List Addr), PTs (X.blk s H scope (compEnvC scope cl C X.env) fp) ifs (tT G nW mc))
    (he : ∀ (s : Shared) (H : Hp) (C : Addr) (cl : List (Str × Addr)) (fp : List Addr), PE (X.blk s H scope (compEnvC scope cl C X.env) fp) elt (tE G nW me)) (hs : ∀ x, foldedSetIterable iter X.env x = pure x) :
    PE X (.ListComp elt [⟨tg, iter, ifs, 0⟩] scope pos) (tE G W (lcM ms t.slots (lcF t.slots t mc me))) := by
  have p := pe_lc hc hN hi ok hg ht he hs (pos := pos)
  rw [ho] at p
  exact PE.imp p fun σ H Q h => lcI h
/-- name = [..] -/
theorem gS_setLc {i : Nat} {y : Str} {py : Pos} {elt tg iter : Expr} {ifs : List Expr} {scope : Scope} {own : List (Str × Nat)} {pos spos : Pos} {t : Tgt} {ms : En → R ((List D × List Nat) × En)} {mc : En → R (Bool × En)} {me : En → R (Vl × En)} (hc : X.calm = true) (hN : X.N.Nodup) (hy : X.N[i]? = some y) (hyl : X.env.scope.names.lookup y = some .local)
    (hsw : swapsWith (.ListComp elt [⟨tg, iter, ifs, 0⟩] scope pos) (some (.Name y py)) spos.line X.env = pure true) (hi : PI X tg iter (tI G W ms)) (ok : BlkOk X.N X.env.scope scope own) (ho : own.map (·.2) = t.slots)
    (hg : ∀ (s : Shared) (H : Hp) (C : Addr) (cl : List (Str × Addr)) (fp : List Addr), PG (X.blk s H scope (compEnvC scope cl C X.env) fp) tg (gTg G.K t)) (ht : ∀ (s : Shared) (H : Hp) (C : Addr) (cl : List (Str × Addr)) (fp : List Addr), PTs (X.blk s H scope (compEnvC scope cl C X.env) fp) ifs (tT G nW mc))
    (he : ∀ (s : Shared) (H : Hp) (C : Addr) (cl : List (Str × Addr)) (fp : List Addr), PE (X.blk s H scope (compEnvC scope cl C X.env) fp) elt (tE G nW me)) (hs : ∀ x, foldedSetIterable iter X.env x = pure x) :
    PS X (.Assign [.Name y py] (.ListComp elt [⟨tg, iter, ifs, 0⟩] scope pos) spos) (tAsg (tE G W (lcM ms t.slots (lcF t.slots t mc me))) (gName i)) := by
  have p := ps_setLc hc hN hy hyl hsw hi ok hg ht he hs
  rw [ho] at p
  exact ⟨fun pins s σ H D I h => p.run pins s σ H D I (lcI h)⟩
/-- no test -/
theorem gTs_nil : PTs X [] (tT G W fun σ => .ok (true, σ)) := ⟨fun pins s σ H Q I h => pts_nil.run pins s σ H Q I (by
  obtain ⟨F, e, S, h⟩ := h
  exact h F H Step.rfl' S)⟩
end
end PV
set_option Elab.async false
set_option linter.all false
set_option maxRecDepth 100000
namespace PV
open PySem PySem.Spec PyProof.Rows L2
section
variable {G : Gb} {W : XK} {X : Cx} {cf : CF} {lv : Nat} {c c1 : Cf} {F F' H H' : Hp} {σ : Sg} {e e' : En}
/-! ## locks that come off inside a block -/
theorem unlocks_get {ls : List Nat} {j : Nat} : (ls.foldr PV.unlock e)[j]? = match e[j]? with
    | some (.lk ds) => if j ∈ ls then some (.ow ds) else some (.lk ds)
    | x => x := by
  induction ls with
  | nil =>
    show e[j]? = _
    cases hx : e[j]? with
    | none => rfl
    | some x => cases x <;> simp
  | cons i r ih =>
    rw [List.foldr_cons, unlock_get, ih]
    cases e[j]? with
    | none => rfl
    | some x =>
      cases x <;> simp only []
      by_cases z : j ∈ r
      · simp [z]
      · by_cases z' : j = i
        · subst z'; simp [z]
        · simp [z, z']
theorem wipeE_unlocks {vs ls : List Nat} : wipeE (ls.foldr PV.unlock e) vs = ls.foldr PV.unlock (wipeE e vs) := by
  apply List.ext_getElem?
  intro j
  rw [wipeE_get, unlocks_get, unlocks_get, wipeE_get]
  by_cases hj : j ∈ vs
  · simp only [hj, if_true]
    cases e[j]? with
    | none => rfl
    | some x => cases x <;> simp only [Option.map_some] <;> split <;> rfl
  · simp only [hj, if_false]
theorem wipe_sub {us vs : List Nat} (h : ∀ j ∈ us, j ∈ vs) : L2.wipe (L2.wipe σ us) vs = L2.wipe σ vs := by
  apply List.ext_getElem?
  intro j
  rw [wipe_get, wipe_get, wipe_get]
  by_cases hj : j ∈ us
  · simp only [hj, h j hj, if_true]
    cases σ[j]? <;> rfl
  · simp only [hj, if_false]
theorem wipeE_sub {us vs : List Nat} (h : ∀ j ∈ us, j ∈ vs) : wipeE (wipeE e us) vs = wipeE e vs := by
  apply List.ext_getElem?
  intro j
  rw [wipeE_get, wipeE_get, wipeE_get]
  by_cases hj : j ∈ us
  · simp only [hj, h j hj, if_true]
    cases e[j]? <;> rfl
  · simp only [hj, if_false]
theorem unlocks_lk {c0 cm : Cf} {ls : List Nat} (s0 : StepK G c0 cm) (hn : ∀ i ∈ ls, ∀ ds, cm.e[i]? ≠ some (Cell.lk ds)) (sm : Same cm.F F) (st : StepK G c0 ⟨F, σ, H, e⟩) : StepK G c0 ⟨F, σ, H, ls.foldr PV.unlock e⟩ := ⟨st.f, fun j ds u hj hu => by
  rcases st.lk j ds u hj hu with ⟨q1, q2⟩ | q
  · by_cases z : j ∈ ls
    · rcases s0.lk j ds u hj hu with ⟨k1, k2⟩ | k
      · exact (hn j z ds k1).elim
      · exact .inr (Rep.mono sm k)
    · left
      have q1 : e[j]? = some (.lk ds) := q1
      exact ⟨by show (ls.foldr PV.unlock e)[j]? = _; rw [unlocks_get, q1]; simp [z], q2⟩
  · exact .inr q⟩
theorem Step.unlocks2 {c0 cm : Cf} {ls : List Nat} (s0 : Step G c0 cm) (hn : ∀ i ∈ ls, ∀ ds, cm.e[i]? ≠ some (Cell.lk ds)) (sm : Same cm.F F) (st : Step G c0 ⟨F, σ, H, e⟩) : Step G c0 ⟨F, σ, H, ls.foldr PV.unlock e⟩ := by
  refine ⟨st.f, st.frame, st.new, st.dom, fun b hb => st.w b (PV.W.unlocks hb), (unlocks_lk s0.k hn sm st.k).lk, fun j y tg hj hy => ?_⟩
  have hj : (ls.foldr PV.unlock e)[j]? = some y := hj
  rw [unlocks_get] at hj
  split at hj
  · split at hj
    · cases hj; cases hy
    · cases hj; cases hy
  · exact st.io j y tg hj hy
theorem ow_unlocks {H0 : Hp} {ls : List Nat} {D : Addr} {acc : List PV.D} (h : VRel G H0 ⟨F, σ, H, e⟩ (.ref D) (.ow acc)) : VRel G H0 ⟨F, σ, H, ls.foldr PV.unlock e⟩ (.ref D) (.ow acc) := by
  obtain ⟨a, h1, h2, h5, h6⟩ := h
  exact ⟨a, h1, h2, fun w => h5 (PV.W.unlocks w), h6⟩
theorem tgV {i : Nat} {d : D} {x : V} {Q : L2.St → Hp → Prop} (S : Sim G ⟨F, σ, H, e⟩) (r : Rep G F d x) (h : setT (.v i) d e = .ok e')
    (k : ∀ σ', Sim G ⟨F, σ', H, e'⟩ → (∀ c0, Step G c0 ⟨F, σ, H, e⟩ → Step G c0 ⟨F, σ', H, e'⟩) → σ'.length = σ.length → (∀ j, j ∉ (Tgt.v i).slots → σ'[j]? = σ[j]?) → Q σ' H) : gName i x σ H Q := tgI (t := .v i) S r h k
theorem yesI {A B : Hp → Prop} (h : A H) : tYes σ H fun b H3 => if b = true then A H3 else B H3 := by
  show (if true = true then A H else B H)
  rw [if_pos rfl]
  exact h
/-- the outer clause's turn -/
theorem lc2_turn {c0 ck : Cf} {σw : Sg} {vs : List Nat} {t t' : Nat} {ms : En → R ((List D × List Nat) × En)} {me : En → R (Vl × En)} {Da : Addr} {d : D} {x : V} {acc : List D} {PL : R (List D × En) → Prop} (hp : PLok PL) {k : List D → En → R (List D × En)} {Nx : Hp → Prop}
    (ht : t ∈ vs) (ht' : t' ∈ vs) (hσ : L2.wipe σw vs = σw) (hn : ∀ i ∈ vs, ∀ ds, c0.e[i]? ≠ some (Cell.lk ds)) (hnk : ∀ i ∈ vs, ∀ ds, ck.e[i]? ≠ some (Cell.lk ds))
    (st : Step G c0 ⟨F, σw, H, wipeE e vs⟩) (sk : StepK G ck ⟨F, σw, H, wipeE e vs⟩) (S : Sim G ⟨F, σw, H, wipeE e vs⟩) (hD : VRel G c0.H ⟨F, σw, H, wipeE e vs⟩ (.ref Da) (.ow acc)) (rx : Rep G F d x)
    (h : PL (bnd (lc2F vs t t' ms me d acc e) k))
    (hN : ∀ F' H' e' acc', Step G c0 ⟨F', σw, H', wipeE e' vs⟩ → StepK G ck ⟨F', σw, H', wipeE e' vs⟩ → Sim G ⟨F', σw, H', wipeE e' vs⟩ → VRel G c0.H ⟨F', σw, H', wipeE e' vs⟩ (.ref Da) (.ow acc') → PL (k acc' e') → Nx H') :
    gName t x σw H fun σ2 H2 => L2.wipe σ2 vs = σw ∧ tYes σ2 H2 fun b H3 =>
      if b = true then tI G nW ms σ2 H3 fun J1 H4 => ∃ W1 : Nat → Nat → Hp → Prop, (∃ m, W1 0 m H4) ∧ ∀ j k H, W1 j k H →
        (J1.stop j H ∧ Nx H) ∨ (J1.go j H ∧ ∃ Nx1 : Hp → Prop, (∀ H', Nx1 H' → ∃ k', k' < k ∧ W1 (j + 1) k' H') ∧ ∀ x H', J1.yld j H x H' → gName t' x (L2.wipe σ2 [t']) H' fun σ3 H5 => L2.wipe σ3 [t'] = L2.wipe σ2 [t'] ∧ tYes σ3 H5 fun b H6 =>
          if b = true then tE G nW me σ3 H6 fun y H7 => ∃ acc, H7 Da = some (.lst acc) ∧ acc.length < sizeLine ∧ Nx1 (upd H7 Da (.lst (acc ++ [y]))) else Nx1 H6)
      else Nx H3 := by
  unfold lc2F at h
  cases hset : setT (.v t) d (wipeE e vs) with
  | exc y => exact (setT_noexc y hset).elim
  | stuck => rw [hset] at h; exact (hp.stuck h).elim
  | ok e1 =>
    rw [hset] at h
    refine tgV S rx hset fun σ2 S2 st2 hl2 ho2 => ?_
    have hw2 : L2.wipe σ2 vs = σw := by
      rw [← hσ]
      exact wipe_wipe hl2 fun j hj => ho2 j fun z => hj (by simp only [Tgt.slots, List.mem_singleton] at z; rw [z]; exact ht)
    refine ⟨hw2, yesI ?_⟩
    have st2' := st2 _ st
    have sk2' := sk.trans (st2 _ Step.rfl').k
    have D2 : VRel G c0.H ⟨F, σ2, H, e1⟩ (.ref Da) (.ow acc) := ow_step (st2 _ Step.rfl') hD
    refine ⟨F, e1, S2, ?_⟩
    cases hms : ms e1 with
    | exc y =>
      have h : PL (bnd (bnd (ms e1) _) k) := h
      rw [hms] at h; exact (hp.exc y h).elim
    | stuck =>
      have h : PL (bnd (bnd (ms e1) _) k) := h
      rw [hms] at h; exact (hp.stuck h).elim
    | ok p =>
      obtain ⟨⟨ds, ls⟩, e3⟩ := p
      have h : PL (bnd (bnd (ms e1) fun q σ1 => if noLk [t'] (q.2.foldr lock σ1) = true then
        bnd (lcL (lcF [t'] (.v t') (fun σ => .ok (true, σ)) me) q.1 acc (q.2.foldr lock σ1)) fun ys σ2 => .ok (ys, q.2.foldr unlock σ2) else .stuck) k) := h
      rw [hms] at h
      rw [bnd_ok] at h
      intro J Keep F3 H3 st3 S3 hn3 it kk
      by_cases hl : noLk [t'] (ls.foldr PV.lock e3) = true
      · simp only [hl, if_true] at h
        have hnl := noLk_ne hl
        have sub : ∀ j ∈ [t'], j ∈ vs := fun j hj => by simp only [List.mem_singleton] at hj; rw [hj]; exact ht'
        have stL : Step G ⟨F, σ2, H, e1⟩ ⟨F3, σ2, H3, ls.foldr PV.lock e3⟩ := Step.locks st3
        have st4 : Step G c0 ⟨F3, L2.wipe σ2 [t'], H3, wipeE (ls.foldr PV.lock e3) [t']⟩ := (st2'.trans stL).wipe fun i hi => hn i (sub i hi)
        have S4 : Sim G ⟨F3, L2.wipe σ2 [t'], H3, wipeE (ls.foldr PV.lock e3) [t']⟩ := S3.locks.wipe
        have D4 : VRel G c0.H ⟨F3, L2.wipe σ2 [t'], H3, wipeE (ls.foldr PV.lock e3) [t']⟩ (.ref Da) (.ow acc) := ow_wipe (ow_step stL D2)
        have kw : Keep ⟨F3, L2.wipe σ2 [t'], H3, wipeE (ls.foldr PV.lock e3) [t']⟩ := (fun s : Step G _ _ => it.mono _ _ s.f s.lk kk) (Step.wipe Step.rfl' hnl)
        have hnw : ∀ i ∈ [t'], ∀ ds, (wipeE (ls.foldr PV.lock e3) [t'])[i]? ≠ some (Cell.lk ds) := fun i hi ds hx => by
          obtain ⟨z, _⟩ := wipeE_cell hx (fun z => by cases z)
          exact z hi
        refine ⟨LcW G c0 ⟨F3, L2.wipe σ2 [t'], H3, wipeE (ls.foldr PV.lock e3) [t']⟩ (L2.wipe σ2 [t']) [t'] Da (lcF [t'] (.v t') (fun σ => .ok (true, σ)) me) (fun r => PL (bnd (bnd r fun ys σ2 => .ok (ys, ls.foldr unlock σ2)) k)) ds,
          ⟨ds.length, by simp, Nat.zero_le _, F3, ls.foldr PV.lock e3, acc, st4, Step.rfl'.k, S4, D4, h⟩, ?_⟩
        have loop := lc_loop (G := G) (c0 := c0) (ck := ⟨F3, L2.wipe σ2 [t'], H3, wipeE (ls.foldr PV.lock e3) [t']⟩) (σw := L2.wipe σ2 [t']) (vs := [t']) (t := .v t') (mc := fun σ => .ok (true, σ)) (me := me) (Da := Da) (PL := fun r => PL (bnd (bnd r fun ys σ2 => .ok (ys, ls.foldr unlock σ2)) k)) (Q := Nx)
          ⟨hp.exc, hp.stuck⟩ it kw (fun j hj => hj) wipe_twice (fun i hi => hn i (sub i hi)) hnw fun F5 e5 acc5 H5 st5 sk5 S5 D5 h5 => by
            have h5 : PL (k acc5 (ls.foldr unlock e5)) := h5
            have st6 := st5.wipe hn
            have S6 := S5.wipe (vs := vs)
            have D6 := ow_wipe (vs := vs) D5
            have sm3 : Same F3 F5 := sk5.f
            have sk6 : StepK G ck ⟨F5, L2.wipe (L2.wipe σ2 [t']) vs, H5, wipeE (wipeE e5 [t']) vs⟩ := (((sk2'.trans stL.k).wipe fun i hi => hnk i (sub i hi)).trans sk5).wipe hnk
            rw [wipe_sub sub, hw2, wipeE_sub sub] at st6 S6 D6 sk6
            refine hN F5 H5 (ls.foldr unlock e5) acc5 ?_ ?_ ?_ ?_ h5
            · rw [wipeE_unlocks]
              exact Step.unlocks2 (cm := ⟨F3, σ2, H3, e3⟩) (st2'.trans st3) hn3 sm3 st6
            · rw [wipeE_unlocks]
              exact unlocks_lk (cm := ⟨F3, σ2, H3, e3⟩) (sk2'.trans st3.k) hn3 sm3 sk6
            · rw [wipeE_unlocks]
              exact S6.unlocks
            · rw [wipeE_unlocks]
              exact ow_unlocks D6
        rintro j m H6 w6
        rcases loop j m H6 w6 with z | ⟨z1, Nx1, z2, z3⟩
        · exact .inl z
        · refine .inr ⟨z1, Nx1, z2, fun x H' y => ?_⟩
          have q := z3 x H' y
          refine ⟨q.1, yesI ?_⟩
          obtain ⟨F7, e7, S7, q7⟩ := q.2
          have q8 := q7 F7 _ Step.rfl' S7
          simp only [if_true] at q8
          exact q8
      · simp only [hl] at h
        exact (hp.stuck h).elim
theorem lc2_loop {cw : Cf} {vs : List Nat} {t t' : Nat} {ms : En → R ((List D × List Nat) × En)} {me : En → R (Vl × En)} {Da : Addr} {ds : List D} {J : It} {Keep : Cf → Prop} {PL : R (List D × En) → Prop} (hp : PLok PL) (it : ItOk G J Keep ds) (hk : Keep cw)
    (ht : t ∈ vs) (ht' : t' ∈ vs) (hσ : L2.wipe cw.σ vs = cw.σ) (hn : ∀ i ∈ vs, ∀ ds, cw.e[i]? ≠ some (Cell.lk ds)) {Q : Hp → Prop}
    (hQ : ∀ F e acc H, Step G cw ⟨F, cw.σ, H, wipeE e vs⟩ → Sim G ⟨F, cw.σ, H, wipeE e vs⟩ → VRel G cw.H ⟨F, cw.σ, H, wipeE e vs⟩ (.ref Da) (.ow acc) → PL (.ok (acc, e)) → Q H) :
    ∀ i m H, LcW G cw cw cw.σ vs Da (lc2F vs t t' ms me) PL ds i m H → (J.stop i H ∧ Q H) ∨ (J.go i H ∧ ∃ Nx : Hp → Prop, (∀ H', Nx H' → ∃ m', m' < m ∧ LcW G cw cw cw.σ vs Da (lc2F vs t t' ms me) PL ds (i + 1) m' H') ∧ ∀ x H', J.yld i H x H' → gName t x cw.σ H' fun σ2 H2 => L2.wipe σ2 vs = cw.σ ∧ tYes σ2 H2 fun b H3 =>
      if b = true then tI G nW ms σ2 H3 fun J1 H4 => ∃ W1 : Nat → Nat → Hp → Prop, (∃ m, W1 0 m H4) ∧ ∀ j k H, W1 j k H →
        (J1.stop j H ∧ Nx H) ∨ (J1.go j H ∧ ∃ Nx1 : Hp → Prop, (∀ H', Nx1 H' → ∃ k', k' < k ∧ W1 (j + 1) k' H') ∧ ∀ x H', J1.yld j H x H' → gName t' x (L2.wipe σ2 [t']) H' fun σ3 H5 => L2.wipe σ3 [t'] = L2.wipe σ2 [t'] ∧ tYes σ3 H5 fun b H6 =>
          if b = true then tE G nW me σ3 H6 fun y H7 => ∃ acc, H7 Da = some (.lst acc) ∧ acc.length < sizeLine ∧ Nx1 (upd H7 Da (.lst (acc ++ [y]))) else Nx1 H6)
      else Nx H3) := by
  rintro i m H ⟨rfl, hi, F, e, acc, st, sk, S, hD, h⟩
  by_cases hlt : i < ds.length
  · refine .inr ⟨it.go ⟨F, cw.σ, H, wipeE e vs⟩ i S (it.mono _ _ sk.f sk.lk hk) hlt, LcW G cw cw cw.σ vs Da (lc2F vs t t' ms me) PL ds (i + 1) (ds.length - (i + 1)), fun H' w => ⟨_, by omega, w⟩, fun x H' y => ?_⟩
    obtain ⟨d, F', hd, sv, rx⟩ := it.yld ⟨F, cw.σ, H, wipeE e vs⟩ i x H' S (it.mono _ _ sk.f sk.lk hk) hlt y
    have ed : ds.drop i = d :: ds.drop (i + 1) := by
      rw [List.drop_eq_getElem_cons hlt]
      rw [List.getElem?_eq_getElem hlt] at hd
      cases hd; rfl
    rw [ed] at h
    have st' := st.trans (sv.step (σ := cw.σ) (e := wipeE e vs))
    have sk' := sk.trans (sv.step (σ := cw.σ) (e := wipeE e vs)).k
    exact lc2_turn hp ht ht' hσ hn hn st' sk' (sv.sim S) (ow_step sv.step hD) rx h fun F2 H2 e2 acc2 st2 sk2 S2 D2 h2 => ⟨rfl, by omega, F2, e2, acc2, st2, sk2, S2, D2, h2⟩
  · have e : i = ds.length := by omega
    subst e
    have h : PL (.ok (acc, e)) := by
      rw [List.drop_length] at h
      exact h
    exact .inl ⟨it.stop ⟨F, cw.σ, H, wipeE e vs⟩ S (it.mono _ _ sk.f sk.lk hk), hQ F e acc H st S hD h⟩
theorem lc2I {t t' : Nat} {ms ms' : En → R ((List D × List Nat) × En)} {me : En → R (Vl × En)} {Q : VK} (h : tE G W (lcM ms [t, t'] (lc2F [t, t'] t t' ms' me)) σ H Q) : tLc2 (tI G W ms) (gName t) tYes (tI G nW ms') (gName t') tYes (tE G nW me) [t, t'] [t'] σ H Q := by
  obtain ⟨F, e, S, h⟩ := h
  refine ⟨F, e, S, PostI.of (Post := PostE G W _ Q) (PostE.hx _) (fun z => z) h fun ds ls e1 J Keep F1 H1 st1 S1 hn1 it kk h1 => ?_⟩
  intro Da hDa
  have h1 := PostE.next h1 st1 rfl
  by_cases hl : noLk [t, t'] (ls.foldr PV.lock e1) = true
  · simp only [hl, if_true] at h1
    have hn := noLk_ne hl
    have SL : Sim G ⟨F1, σ, H1, ls.foldr PV.lock e1⟩ := S1.locks
    have kw : Keep ⟨F1, L2.wipe σ [t, t'], H1, wipeE (ls.foldr PV.lock e1) [t, t']⟩ := (fun s : Step G _ _ => it.mono _ _ s.f s.lk kk) (Step.wipe Step.rfl' hn)
    have Sw : Sim G ⟨F1, L2.wipe σ [t, t'], H1, wipeE (ls.foldr PV.lock e1) [t, t']⟩ := SL.wipe
    have fD : F1 Da = none := by
      cases q : F1 Da with
      | none => rfl
      | some o => have z : H1 Da = some o := S1.sub Da o q; rw [hDa] at z; cases z
    have wD : ¬ Cf.W ⟨F1, L2.wipe σ [t, t'], H1, wipeE (ls.foldr PV.lock e1) [t, t']⟩ Da := fun w => (Sw.wh w).1 hDa
    have hnw : ∀ i ∈ [t, t'], ∀ ds, (wipeE (ls.foldr PV.lock e1) [t, t'])[i]? ≠ some (Cell.lk ds) := fun i hi ds hx => by
      obtain ⟨z, _⟩ := wipeE_cell hx (fun z => by cases z)
      exact z hi
    refine ⟨LcW G ⟨F1, L2.wipe σ [t, t'], H1, wipeE (ls.foldr PV.lock e1) [t, t']⟩ ⟨F1, L2.wipe σ [t, t'], H1, wipeE (ls.foldr PV.lock e1) [t, t']⟩ (L2.wipe σ [t, t']) [t, t'] Da (lc2F [t, t'] t t' ms' me) (fun r => PostE G W ⟨F1, σ, H1, e1⟩ Q (bnd (unexc r) fun acc σ2 => .ok (.ow acc, ls.foldr unlock (back (ls.foldr PV.lock e1) [t, t'] σ2)))) ds,
      ⟨ds.length, by simp, Nat.zero_le _, F1, ls.foldr PV.lock e1, [], Step.grow Step.rfl' hDa, (Step.k Step.rfl').heap, Sw.grow fD wD, ⟨Da, rfl, ⟨[], upd_same, fD, .nil⟩, wD, hDa⟩, h1⟩, ?_⟩
    exact lc2_loop (cw := ⟨F1, L2.wipe σ [t, t'], H1, wipeE (ls.foldr PV.lock e1) [t, t']⟩) ⟨fun x z => z, fun z => z⟩ it kw (by simp) (by simp) wipe_twice hnw fun F2 e2 acc H2 st S hD h2 => lc_end S1 hn1 hn st S hD h2
  · simp only [hl] at h1
    exact h1.elim
theorem gE_lc2 {elt tg iter tg1 iter1 : Expr} {scope : Scope} {own : List (Str × Nat)} {pos : Pos} {t t' : Nat} {ms ms' : En → R ((List D × List Nat) × En)} {me : En → R (Vl × En)} (hc : X.calm = true) (hN : X.N.Nodup) (hi : PI X tg iter (tI G W ms)) (ok : BlkOk X.N X.env.scope scope own) (ho : own.map (·.2) = [t, t'])
    (hg : ∀ (s : Shared) (H : Hp) (C : Addr) (cl : List (Str × Addr)) (fp : List Addr), PG (X.blk s H scope (compEnvC scope cl C X.env) fp) tg (gName t))
    (hi1 : ∀ (s : Shared) (H : Hp) (C : Addr) (cl : List (Str × Addr)) (fp : List Addr), PI (X.blk s H scope (compEnvC scope cl C X.env) fp) tg1 iter1 (tI G nW ms'))
    (hg1 : ∀ (s : Shared) (H : Hp) (C : Addr) (cl : List (Str × Addr)) (fp : List Addr), PG (X.blk s H scope (compEnvC scope cl C X.env) fp) tg1 (gName t'))
    (he : ∀ (s : Shared) (H : Hp) (C : Addr) (cl : List (Str × Addr)) (fp : List Addr), PE (X.blk s H scope (compEnvC scope cl C X.env) fp) elt (tE G nW me)) (hs : ∀ x, foldedSetIterable iter X.env x = pure x) (hs1 : ∀ env x, foldedSetIterable iter1 env x = pure x) :
    PE X (.ListComp elt [⟨tg, iter, [], 0⟩, ⟨tg1, iter1, [], 0⟩] scope pos) (tE G W (lcM ms [t, t'] (lc2F [t, t'] t t' ms' me))) := by
  have p := pe_lc2 (vs1 := [t']) hc hN hi ok (by rw [ho]; simp) hg (fun _ _ _ _ _ => pts_nil) hi1 hg1 (fun _ _ _ _ _ => pts_nil) he hs hs1 (pos := pos)
  rw [ho] at p
  exact PE.imp p fun σ H Q h => lc2I h
end
end PV
set_option Elab.async false
set_option linter.all false
set_option maxRecDepth 100000
namespace PV
open PySem PySem.Spec PyProof.Rows L2
/-! ## statements -/
def VrS (G : Gb) (c : Cf) (F' H' : Hp) (e' : En) (v : V) : Vr → Prop
  | .sh d => Rep G F' d v
  | .ow ds => ∃ a, v = .ref a ∧ LstAt G F' H' ds a ∧ (c.H a = none ∨ c.W a) ∧ ∀ (i : Nat) (x : Cell), e'[i]? = some x → x.tag ≠ none → c.σ[i]? ≠ some (some (.ref a))
def TagOk (G : Gb) (c : Cf) (F' H' : Hp) (e' : En) : Prop := ∀ (i : Nat) (x : Cell) (t : Option Nat), e'[i]? = some x → x.tag = some t → (∃ y : Cell, c.e[i]? = some y ∧ y.tag = some t) ∧ CellOk G F' H' c.σ[i]? x
def PostS (G : Gb) (W : XK) (c : Cf) (D : Ends) : R (Fl × En) → Prop
  | .ok (.nx, e') => ∀ σ' F' H', Step G c ⟨F', σ', H', e'⟩ → Sim G ⟨F', σ', H', e'⟩ → D.nx σ' H'
  | .ok (.rt r, e') => ∀ v F' H', Same c.F F' → Same F' H' → (∀ b o, c.H b = some o → ¬ c.W b → H' b = some o) → (∀ b, c.F b = none → F' b ≠ none → c.H b = none ∨ c.W b) → TagOk G c F' H' e' → VrS G c F' H' e' v r → D.rt v H'
  | .exc x => ∀ cls d H', (∀ b o, c.H b = some o → ¬ c.W b → H' b = some o) → XAt G x cls d H' → W cls d H'
  | .stuck => False
def tS (G : Gb) (W : XK) (m : En → R (Fl × En)) : TS := fun D σ H => ∃ F e, Sim G ⟨F, σ, H, e⟩ ∧ PostS G W ⟨F, σ, H, e⟩ D (m e)
theorem PS.imp {X : Cx} {st : Stmt} {t t' : TS} (h : PS X st t) (k : ∀ D σ H, t' D σ H → t D σ H) : PS X st t' := ⟨fun pins s σ H D I q => h.run pins s σ H D I (k D σ H q)⟩
theorem PSs.imp {X : Cx} {st : List Stmt} {t t' : TS} (h : PSs X st t) (k : ∀ D σ H, t' D σ H → t D σ H) : PSs X st t' := ⟨fun pins s σ H D I q => h.run pins s σ H D I (k D σ H q)⟩
theorem bnd_assoc {α β γ : Type} {m : R (α × En)} {f : α → En → R (β × En)} {g : β → En → R (γ × En)} : bnd (bnd m f) g = bnd m fun a σ => bnd (f a σ) g := by
  cases m <;> rfl
section
variable {G : Gb} {W : XK} {X : Cx} {cf : CF} {lv : Nat} {c c1 : Cf} {F F' H H' : Hp} {σ : Sg} {e e' : En} {D : Ends}
theorem PostS.hx : ∀ (c : Cf) x, PostS G W c D (.exc x) → ∀ cls d H', (∀ b o, c.H b = some o → ¬ c.W b → H' b = some o) → XAt G x cls d H' → W cls d H' := fun _ _ h => h
theorem PostS.next {r : R (Fl × En)} (h : PostS G W c D r) (s : Step G c c1) : PostS G W c1 D r := by
  cases r with
  | ok p =>
    obtain ⟨f, e'⟩ := p
    cases f with
    | nx => exact fun σ' F' H' st S => h σ' F' H' (s.trans st) S
    | rt r =>
      intro v F' H' f1 f2 fr nw tg vr
      have wb : ∀ a, c1.W a → c.H a = none ∨ c.W a := fun a w => (s.w a w).symm
      refine h v F' H' (s.f.trans f1) f2 (fun b o hb hw => fr b o (s.frame b o hb hw) fun w => (s.w b w).elim hw fun z => by rw [hb] at z; cases z) (fun b hb hb' => ?_) (fun i x t hx ht => ?_) ?_
      · by_cases q : c1.F b = none
        · rcases nw b q hb' with z | z
          · exact .inl (s.back b z)
          · exact wb b z
        · exact s.new b hb q
      · obtain ⟨⟨y, h1, h2⟩, h3⟩ := tg i x t hx ht
        obtain ⟨z, k1, k2, k3⟩ := s.io i y t h1 h2
        exact ⟨⟨z, k1, k2⟩, by rw [← k3]; exact h3⟩
      · cases r with
        | sh d => exact vr
        | ow ds =>
          obtain ⟨a, h1, h2, h3, h4⟩ := vr
          refine ⟨a, h1, h2, ?_, fun i x hx ht => ?_⟩
          · rcases h3 with z | z
            · exact .inl (s.back a z)
            · exact wb a z
          · have k := h4 i x hx ht
            cases hq : x.tag with
            | none => exact (ht hq).elim
            | some t =>
              obtain ⟨⟨y, q1, q2⟩, _⟩ := tg i x t hx hq
              obtain ⟨z, k1, k2, k3⟩ := s.io i y t q1 q2
              rw [← k3]; exact k
  | exc x =>
    intro cls d H' fr xa
    exact h cls d H' (fun b o hb hw => fr b o (s.frame b o hb hw) fun w => (s.w b w).elim hw fun z => by rw [hb] at z; cases z) xa
  | stuck => exact h
/-- the end of a path -/
theorem PostS.now {σ' : Sg} (h : PostS G W c D (.ok (.nx, e))) (st : Step G c ⟨F', σ', H', e⟩) (S : Sim G ⟨F', σ', H', e⟩) : D.nx σ' H' := h σ' F' H' st S
theorem nxR_ok {r : R En} (h : PostS G W c D (nxR r)) : ∃ e', r = .ok e' ∧ PostS G W c D (.ok (.nx, e')) ∨ ∃ x, r = .exc x := by
  cases r with
  | ok e' => exact ⟨e', .inl ⟨rfl, h⟩⟩
  | exc x => exact ⟨[], .inr ⟨x, rfl⟩⟩
  | stuck => exact h.elim
/-! ### one after another -/
theorem gSs_nil : PSs X [] (tS G W fun σ => .ok (.nx, σ)) := PSs.imp pss_nil fun D σ H ⟨F, e, S, h⟩ => h σ F H Step.rfl' S
theorem PostS.bind {m : R (Fl × En)} {k : Fl → En → R (Fl × En)} {D' : Ends} (hr : D'.rt = D.rt) (h : PostS G W c D (bnd m k)) (hrt : ∀ r e, k (.rt r) e = .ok (.rt r, e))
    (hk : ∀ σ' F' H' e', Step G c ⟨F', σ', H', e'⟩ → Sim G ⟨F', σ', H', e'⟩ → PostS G W c D (k .nx e') → D'.nx σ' H') : PostS G W c D' m := by
  cases m with
  | ok p =>
    obtain ⟨f, e'⟩ := p
    cases f with
    | nx => exact fun σ' F' H' st S => hk σ' F' H' e' st S h
    | rt r =>
      intro v F' H' f1 f2 fr nw tg vr
      rw [hr]
      have h : PostS G W c D (k (.rt r) e') := h
      rw [hrt] at h
      exact h v F' H' f1 f2 fr nw tg vr
  | exc x => exact h
  | stuck => exact h
def thenS (ms : En → R (Fl × En)) : Fl → En → R (Fl × En) := fun f σ => match f with
  | .nx => ms σ
  | .rt v => .ok (.rt v, σ)
theorem gSs_cons {st : Stmt} {rest : List Stmt} {m ms : En → R (Fl × En)} (h1 : PS X st (tS G W m)) (h2 : PSs X rest (tS G W ms)) : PSs X (st :: rest) (tS G W fun σ => bnd (m σ) fun f σ => match f with
    | .nx => ms σ
    | .rt v => .ok (.rt v, σ)) := by
  refine PSs.imp (pss_cons h1 h2) fun D σ H ⟨F, e, S, h⟩ => ?_
  exact ⟨F, e, S, PostS.bind (D := D) (k := thenS ms) rfl h (fun _ _ => rfl) fun σ' F' H' e' st S' h' => ⟨F', e', S', PostS.next (r := ms e') h' st⟩⟩
theorem gS_pass {pos : Pos} : PS X (.Pass pos) (tS G W fun σ => .ok (.nx, σ)) := PS.imp ps_pass fun D σ H ⟨F, e, S, h⟩ => h σ F H Step.rfl' S
theorem gS_doc {x j pos pos'} : PS X (.Expr (.Constant (.str x) j pos) pos') (tS G W fun σ => .ok (.nx, σ)) := PS.imp ps_doc fun D σ H ⟨F, e, S, h⟩ => h σ F H Step.rfl' S
theorem gS_if {cnd : Expr} {p q : List Stmt} {pos : Pos} {mc : En → R (Vl × En)} {ma mb : En → R (Fl × En)} (hc : PT X cnd (tT G W fun σ => bnd (mc σ) fun v σ => toB v σ)) (ha : PSs X p (tS G W ma)) (hb : PSs X q (tS G W mb)) : PS X (.If cnd p q pos) (tS G W fun σ => bnd (mc σ) fun v σ => bnd (toB v σ) fun r σ => match r with
    | true => ma σ
    | false => mb σ) := by
  refine PS.imp (ps_if hc ha hb) fun D σ H ⟨F, e, S, h⟩ => ?_
  replace h : PostS G W ⟨F, σ, H, e⟩ D (bnd (bnd (mc e) fun v σ => toB v σ) fun r σ => match r with
    | true => ma σ
    | false => mb σ) := by rw [bnd_assoc]; exact h
  refine ⟨F, e, S, PostT.bind (Post := PostS G W _ D) (PostS.hx _) (fun z => z) h fun b e' F' H' st S' h' => ?_⟩
  cases b with
  | true => rw [if_pos rfl]; exact ⟨F', e', S', h'.next st⟩
  | false => rw [if_neg Bool.false_ne_true]; exact ⟨F', e', S', h'.next st⟩
/-! ### readings of values -/
theorem escI {m : En → R (Vl × En)} {k : PV.D → En → R (Fl × En)} {R : V → Hp → Prop} (S : Sim G ⟨F, σ, H, e⟩) (h : PostS G W ⟨F, σ, H, e⟩ D (bnd (bnd (m e) fun v σ => esc v σ) k))
    (hk : ∀ F' H' e' d v, Step G ⟨F, σ, H, e⟩ ⟨F', σ, H', e'⟩ → Sim G ⟨F', σ, H', e'⟩ → Rep G F' d v → PostS G W ⟨F', σ, H', e'⟩ D (k d e') → R v H') : tE G W m σ H R := by
  rw [bnd_assoc] at h
  refine ⟨F, e, S, PostE.mk (r := .stuck) (Post := PostS G W _ D) _ _ (PostS.hx _) (fun z => z) h fun vl e1 v F1 H1 st1 S1 r1 h1 => ?_⟩
  obtain ⟨d, F2, e2, st2, sm2, S2, rp, h2⟩ := esc_ok (Post := PostS G W ⟨F, σ, H, e⟩ D) (fun z => z) st1 S1 r1 h1
  exact hk F2 H1 e2 d v st2 S2 rp (h2.next st2)
theorem intS {m : En → R (Vl × En)} {k : Option Int → En → R (Fl × En)} {R : V → Hp → Prop} (S : Sim G ⟨F, σ, H, e⟩) (h : PostS G W ⟨F, σ, H, e⟩ D (bnd (bnd (m e) fun v σ => toI v σ) k))
    (hk : ∀ F' H' e' i, Step G ⟨F, σ, H, e⟩ ⟨F', σ, H', e'⟩ → Sim G ⟨F', σ, H', e'⟩ → PostS G W ⟨F', σ, H', e'⟩ D (k (some i) e') → R (.int i) H') : tE G W m σ H R := by
  rw [bnd_assoc] at h
  exact intI (Post := fun c r => PostS G W c D r) PostS.hx (fun _ z => z) (fun h s _ => PostS.next h s) S h hk
/-! ### names are stored -/
theorem setv_I {v : V} {vl : Vl} {i : Nat} {c0 : Cf} (st : Step G c0 ⟨F, σ, H, e⟩) (S : Sim G ⟨F, σ, H, e⟩) (r : VRel G c0.H ⟨F, σ, H, e⟩ v vl) (h : setv i vl e = .ok e') : Step G c0 ⟨F, σ.set i (some v), H, e'⟩ ∧ Sim G ⟨F, σ.set i (some v), H, e'⟩ := by
  cases vl with
  | sh d => exact ⟨st.setc h S.len rfl fun z => (by cases z), S.setc h ⟨v, rfl, r⟩ fun z => (by cases z)⟩
  | ow ds =>
    obtain ⟨a, rfl, hl, hw, h0⟩ := r
    exact ⟨st.setc h S.len rfl fun _ b hb => by cases hb; exact h0, S.setc h ⟨a, rfl, hl⟩ fun _ b hb => by cases hb; exact hw⟩
  | sl j => cases h
theorem setv_noexc {i : Nat} {v : Vl} {e : En} : ∀ x, setv i v e ≠ .exc x := fun x h => by
  cases v with
  | sh d => exact setc_noexc x h
  | ow ds => exact setc_noexc x h
  | sl j => cases h
/-- a value to be stored: a slot's list is shared from here on -/
theorem alias_I {v : V} {vl : Vl} {c0 : Cf} {α : Type} {k : Vl → En → R (α × En)} {Post : R (α × En) → Prop} (hs : ¬ Post .stuck) (st : Step G c0 ⟨F, σ, H, e⟩) (S : Sim G ⟨F, σ, H, e⟩) (r : VRel G c0.H ⟨F, σ, H, e⟩ v vl) (h : Post (bnd (alias_ vl e) k)) :
    ∃ vl' F' e', Step G c0 ⟨F', σ, H, e'⟩ ∧ Sim G ⟨F', σ, H, e'⟩ ∧ VRel G c0.H ⟨F', σ, H, e'⟩ v vl' ∧ Post (k vl' e') ∧ Same F F' := by
  cases vl with
  | sh d => exact ⟨.sh d, F, e, st, S, r, h, fun _ _ h => h⟩
  | ow ds => exact ⟨.ow ds, F, e, st, S, r, h, fun _ _ h => h⟩
  | sl i =>
    have h : Post (bnd (bnd (esc (.sl i) e) fun d σ => .ok (d, σ)) fun d σ => k (.sh d) σ) := by
      have ea : alias_ (.sl i) e = (esc (.sl i) e).map fun p => (.sh p.1, p.2) := rfl
      rw [ea] at h
      cases hq : esc (.sl i) e with
      | ok p => rw [hq] at h; exact h
      | exc x => rw [hq] at h; exact h
      | stuck => rw [hq] at h; exact h
    rw [bnd_assoc] at h
    obtain ⟨d, F', e', st', sm, S', rp, h'⟩ := esc_ok hs st S r h
    exact ⟨.sh d, F', e', st', S', rp, h', sm⟩
theorem setI {i : Nat} {m : En → R (Vl × En)} (h : tS G W (fun σ => bnd (m σ) fun v σ => bnd (alias_ v σ) fun v σ => nxR (setv i v σ)) D σ H) : tAsg (tE G W m) (gName i) D σ H := by
  obtain ⟨F, e, S, h⟩ := h
  refine ⟨F, e, S, PostE.mk (r := .stuck) (Post := PostS G W _ D) _ _ (PostS.hx _) (fun z => z) h fun vl e1 v F1 H1 st1 S1 r1 h1 => ?_⟩
  obtain ⟨vl', F2, e2, st2, S2, r2, h2, _⟩ := alias_I (Post := PostS G W _ D) (fun z => z) st1 S1 r1 h1
  cases hq : setv i vl' e2 with
  | ok e3 =>
    rw [hq] at h2
    obtain ⟨st3, S3⟩ := setv_I st2 S2 r2 hq
    exact h2.now st3 S3
  | exc x => exact (setv_noexc x hq).elim
  | stuck => rw [hq] at h2; exact h2.elim
theorem gS_set {i : Nat} {x : Str} {ex : Expr} {m : En → R (Vl × En)} {pos pos' : Pos} (hN : X.N.Nodup) (hi : X.N[i]? = some x) (hx : Loc X.env.scope x) (he : PE X ex (tE G W m)) (hs : swapsWith ex (some (.Name x pos')) pos.line X.env = pure false) (hf : X.fn x = true ∨ X.env.scope.names.lookup x = some .local) :
    PS X (.Assign [.Name x pos'] ex pos) (tS G W fun σ => bnd (m σ) fun v σ => bnd (alias_ v σ) fun v σ => nxR (setv i v σ)) := PS.imp (ps_set hN hi hx he hs hf) fun D σ H h => setI h
theorem gS_setLc' {i : Nat} {y : Str} {py : Pos} {ex : Expr} {spos : Pos} {m : En → R (Vl × En)} (h : PS X (.Assign [.Name y py] ex spos) (tAsg (tE G W m) (gName i))) : PS X (.Assign [.Name y py] ex spos) (tS G W fun σ => bnd (m σ) fun v σ => bnd (alias_ v σ) fun v σ => nxR (setv i v σ)) := PS.imp h fun D σ H h => setI h
/-- a, b, .. = a tuple -/
theorem gS_setT {is : List Nat} {tg ex : Expr} {m : En → R (Vl × En)} {pos : Pos} (he : PE X ex (tE G W m)) (hg : PG X tg (gTg G.K (.tp is))) (hs : swapsWithSole [tg] ex pos.line X.env = pure false) (hw : swappedStores [tg] ex X.env = pure none) (h1 : (assignEach [tg] X.env).map (·.2) = [assign tg X.env]) :
    PS X (.Assign [tg] ex pos) (tS G W fun σ => bnd (m σ) fun v σ => bnd (pk (hold v) σ) fun d σ => nxR (setT (.tp is) d σ)) := by
  refine PS.imp (ps_asg he hg hs hw h1) fun D σ H ⟨F, e, S, h⟩ => ?_
  refine oneI (Post := fun c r => PostS G W c D r) PostS.hx (fun _ z => z) (fun h s _ => PostS.next h s) S h fun F' H' e' d v st S' rx h' => ?_
  cases hq : setT (.tp is) d e' with
  | ok e3 =>
    rw [hq] at h'
    rcases rx with rx | ⟨ds, a, rfl, rfl, _⟩
    · exact tgI S' rx hq fun σ' S3 st3 _ _ => PostS.now h' (st3 _ Step.rfl') S3
    · cases hq
  | exc x => exact (setT_noexc x hq).elim
  | stuck => rw [hq] at h'; exact h'.elim
theorem gS_par2 {i j : Nat} {x y : Str} {a b : Expr} {ma mb : En → R (Vl × En)} {px py pt pos : Pos} {kt k2 pt2} (hc : X.calm = true) (hN : X.N.Nodup) (hi : X.N[i]? = some x) (hj : X.N[j]? = some y) (hij : i ≠ j)
    (hx : X.env.scope.names.lookup x = some .local) (hy : X.env.scope.names.lookup y = some .local) (ha : PE X a (tE G W ma)) (hb : PE X b (tE G W mb)) (he : starEach [a, b] X.env = (false, eval a X.env) :: starEach [b] X.env) (he2 : starEach [b] X.env = (false, eval b X.env) :: starEach [] X.env)
    (hw : swappedStores [.Tuple [.Name x px, .Name y py] kt pt] (.Tuple [a, b] k2 pt2) X.env = pure (some [x, y])) (hs : swapsWithSole [.Tuple [.Name x px, .Name y py] kt pt] (.Tuple [a, b] k2 pt2) pos.line X.env = pure false) :
    PS X (.Assign [.Tuple [.Name x px, .Name y py] kt pt] (.Tuple [a, b] k2 pt2) pos) (tS G W fun σ => bnd (ma σ) fun va σ => bnd (alias_ va σ) fun va σ => bnd (mb σ) fun vb σ => bnd (alias_ vb σ) fun vb σ =>
      if i ≠ j then nxR ((setv i va σ).bind (setv j vb)) else .stuck) := by
  refine PS.imp (ps_par hc hN hi hj hij hx hy (pa_cons ha (pa_cons hb pa_nil he2) he) hw hs) fun D σ H ⟨F, e, S, h⟩ => ?_
  refine ⟨F, e, S, PostE.mk (r := .stuck) (Post := PostS G W _ D) _ _ (PostS.hx _) (fun z => z) h fun va e1 v F1 H1 st1 S1 r1 h1 => ?_⟩
  obtain ⟨va', F2, e2, st2, S2, r2, h2, _⟩ := alias_I (Post := PostS G W _ D) (fun z => z) st1 S1 r1 h1
  refine ⟨F2, e2, S2, PostE.mk (r := .stuck) (Post := PostS G W ⟨F, σ, H, e⟩ D) _ _ (fun x hP => PostS.next (r := .exc x) hP st2) (fun z => z) h2 fun vb e3 u F3 H3 st3 S3 r3 h3 => ?_⟩
  obtain ⟨vb', F4, e4, st4, S4, r4, h4, _⟩ := alias_I (Post := PostS G W ⟨F, σ, H, e⟩ D) (fun z => z) st3 S3 r3 h3
  rw [if_pos hij] at h4
  have r2' : VRel G H ⟨F4, σ, H3, e4⟩ v va' := VRel.step st4 rfl r2
  show ∃ v' w', [v, u] = [v', w'] ∧ _
  refine ⟨v, u, rfl, ?_⟩
  have st5 := st2.trans st4
  cases hq : setv i va' e4 with
  | ok e5 =>
    rw [hq] at h4
    obtain ⟨st6, S6⟩ := setv_I (c0 := ⟨F, σ, H, e⟩) st5 S4 r2' hq
    have h4 : PostS G W ⟨F, σ, H, e⟩ D (nxR (setv j vb' e5)) := h4
    cases hq2 : setv j vb' e5 with
    | ok e6 =>
      rw [hq2] at h4
      have r4' : VRel G H ⟨F4, σ.set i (some v), H3, e5⟩ u vb' := by
        cases vb' with
        | sh d => exact r4
        | sl j => cases hq2
        | ow ds =>
          obtain ⟨a, ea, hl, hw, h0⟩ := r4
          refine ⟨a, ea, hl, fun w => ?_, st2.back a h0⟩
          obtain ⟨j', x', w1, w2, w3⟩ := w
          have w1 : e5[j']? = some x' := w1
          have w3 : (σ.set i (some v))[j']? = some (some (.ref a)) := w3
          have eqc : ∃ cc : Cell, e5 = e4.set i cc ∧ (cc.own = true → ∃ ws, va' = .ow ws) := by
            cases va' with
            | sh d => exact ⟨_, (setc_eq hq).1, fun z => by cases z⟩
            | ow ws => exact ⟨_, (setc_eq hq).1, fun _ => ⟨ws, rfl⟩⟩
            | sl _ => cases hq
          obtain ⟨cc, e5e, hcc⟩ := eqc
          by_cases z : j' = i
          · subst z
            have hl4 : j' < e4.length := by
              have q := (List.getElem?_eq_some_iff.mp w1).1
              rw [e5e] at q; simpa using q
            have hl5 : j' < σ.length := by
              have q := S4.len
              exact (show e4.length = σ.length from q) ▸ hl4
            rw [e5e, List.getElem?_set_self hl4] at w1
            rw [List.getElem?_set_self hl5] at w3
            cases w1
            cases w3
            obtain ⟨ws, rfl⟩ := hcc w2
            obtain ⟨b, eb, ⟨vs, k1, _⟩, _⟩ := r2
            cases eb
            have h0 : H1 a = none := h0
            have k1 : H1 a = some (.lst vs) := k1
            rw [h0] at k1; cases k1
          · rw [e5e, List.getElem?_set_ne (Ne.symm z)] at w1
            rw [List.getElem?_set_ne (Ne.symm z)] at w3
            exact hw ⟨j', x', w1, w2, w3⟩
      obtain ⟨st7, S7⟩ := setv_I (c0 := ⟨F, σ, H, e⟩) st6 S6 r4' hq2
      exact PostS.now h4 st7 S7
    | exc x => exact (setv_noexc x hq2).elim
    | stuck => rw [hq2] at h4; exact h4.elim
  | exc x => exact (setv_noexc x hq).elim
  | stuck => rw [hq] at h4; exact h4.elim
theorem gS_expr {ex : Expr} {m : En → R (Vl × En)} {pos : Pos} (he : PE X ex (tE G W m)) (hs : swapsWith ex none pos.line X.env = pure false) : PS X (.Expr ex pos) (tS G W fun σ => bnd (m σ) fun _ σ => .ok (.nx, σ)) := by
  refine PS.imp (ps_expr he hs) fun D σ H ⟨F, e, S, h⟩ => ?_
  exact ⟨F, e, S, PostE.mk (r := .stuck) (Post := PostS G W _ D) _ _ (PostS.hx _) (fun z => z) h fun vl e1 v F1 H1 st1 S1 r1 h1 => PostS.now h1 st1 S1⟩
/-! ### lists changed in place -/
theorem ixN_lt {n : Nat} {k : Int} {j : Nat} (h : ixN n k = some j) : j < n := by
  unfold ixN at h
  split at h
  · split at h
    · cases h; omega
    · cases h
  · split at h
    · cases h; omega
    · cases h
theorem isL_at {i : Nat} (S : Sim G ⟨F, σ, H, e⟩) (h : isL i e = true) : ∃ a vs, σ[i]? = some (some (.ref a)) ∧ H a = some (.lst vs) := by
  unfold isL at h
  split at h
  · rename_i ds hx
    obtain ⟨a, k1, vs, k2, _⟩ := S.cell i _ hx
    exact ⟨a, vs, k1, k2⟩
  · rename_i ds hx
    obtain ⟨a, k1, vs, k2, _⟩ := S.cell i _ hx
    exact ⟨a, vs, k1, k2⟩
  · cases h
theorem updI {i : Nat} {f : List PV.D → Option (List PV.D)} (S : Sim G ⟨F, σ, H, e⟩) (h : updL i f e = .ok e') : ∃ a vs ds ds', σ[i]? = some (some (.ref a)) ∧ H a = some (.lst vs) ∧ Reps G F ds vs ∧ f ds = some ds' ∧
    ∀ vs', Reps G F ds' vs' → Step G ⟨F, σ, H, e⟩ ⟨F, σ, upd H a (.lst vs'), e'⟩ ∧ Sim G ⟨F, σ, upd H a (.lst vs'), e'⟩ := by
  have key : ∀ (mk : List PV.D → Cell), (∀ xs ds, mk xs ≠ .lk ds) → (∀ xs, (mk xs).own = true) → (∀ xs ys, (mk xs).tag = (mk ys).tag) → (∀ F H s xs, CellOk G F H s (mk xs) ↔ ∃ a, s = some (some (.ref a)) ∧ LstAt G F H xs a) → ∀ ds ds', e[i]? = some (mk ds) → f ds = some ds' → e' = e.set i (mk ds') →
      ∃ a vs ds ds', σ[i]? = some (some (.ref a)) ∧ H a = some (.lst vs) ∧ Reps G F ds vs ∧ f ds = some ds' ∧ ∀ vs', Reps G F ds' vs' → Step G ⟨F, σ, H, e⟩ ⟨F, σ, upd H a (.lst vs'), e'⟩ ∧ Sim G ⟨F, σ, upd H a (.lst vs'), e'⟩ := by
    intro mk hnl ho htg hc ds ds' hx hf he
    obtain ⟨a, k1, vs, k2, k3, k4⟩ := (hc _ _ _ _).mp (S.cell i _ hx)
    have k1 : σ[i]? = some (some (.ref a)) := k1
    refine ⟨a, vs, ds, ds', k1, k2, k4, hf, fun vs' r => ?_⟩
    subst he
    exact S.ioEnd (x' := mk ds') hx (hnl _) (ho _) (ho _) (htg _ _) k1 (fun _ _ h => h) (fun b u hb => by
      have : b ≠ a := fun z => by
        have k3 : F a = none := k3
        rw [z, k3] at hb; cases hb
      rw [upd_ne this]; exact S.sub b u hb) (fun b o hb hne => by rw [upd_ne hne]; exact hb) (fun b h h' => absurd h h') (fun b hb => by
      by_cases z : b = a
      · rw [z, upd_same]; simp
      · rw [upd_ne z]; exact hb) ((hc _ _ _ _).mpr ⟨a, k1, vs', upd_same, k3, r⟩)
  unfold updL at h
  split at h
  · rename_i ds hx
    cases hf : f ds with
    | none => rw [hf] at h; cases h
    | some ds' =>
      rw [hf] at h
      cases h
      exact key .ow (fun _ _ z => by cases z) (fun _ => rfl) (fun _ _ => rfl) (fun _ _ _ _ => Iff.rfl) ds ds' hx hf rfl
  · rename_i ds hx
    cases hf : f ds with
    | none => rw [hf] at h; cases h
    | some ds' =>
      rw [hf] at h
      cases h
      exact key .io (fun _ _ z => by cases z) (fun _ => rfl) (fun _ _ => rfl) (fun _ _ _ _ => Iff.rfl) ds ds' hx hf rfl
  · cases h
theorem updL_noexc {i : Nat} {f : List PV.D → Option (List PV.D)} {e : En} : ∀ x, updL i f e ≠ .exc x := fun x h => by
  unfold updL at h
  split at h
  · split at h <;> cases h
  · split at h <;> cases h
  · cases h
theorem gS_setix {i : Nat} {y : Str} {ex ix : Expr} {m mi : En → R (Vl × En)} {pos py ps : Pos} (hN : X.N[i]? = some y) (hv : Vis X.env.scope y) (hd : (y == ("__debug__" : Str)) = false) (hcd : (y == ("__classdict__" : Str)) = false) (he : PE X ex (tE G W m)) (hi : PE X ix (tE G W mi))
    (ha : ∀ v, assign (.Subscript (.Name y py) ix ps) X.env v = (do
      let ov ← holding [v] (eval (.Name y py) X.env)
      let iv ← holding [v, ov] (eval ix X.env)
      standAt ps
      holding [v, ov, iv] (setItem ov iv v)
      release [v, ov, iv] [])) (hs : swapsWithSole [.Subscript (.Name y py) ix ps] ex pos.line X.env = pure false) (hw : swappedStores [.Subscript (.Name y py) ix ps] ex X.env = pure none) (h1 : (assignEach [.Subscript (.Name y py) ix ps] X.env).map (·.2) = [assign (.Subscript (.Name y py) ix ps) X.env]) :
    PS X (.Assign [.Subscript (.Name y py) ix ps] ex pos) (tS G W fun σ => bnd (bnd (m σ) fun v σ => esc v σ) fun y σ => if isL i σ = true then bnd (bnd (mi σ) fun v σ => toI v σ) fun k σ => nxR (updL i (setF (k.getD 0) y) σ) else .stuck) := by
  refine PS.imp (ps_asg he (pg_sub (pe_var (i := i) hN hv hd hcd) hi set_list ha) hs hw h1) fun D σ H ⟨F, e, S, h⟩ => ?_
  refine escI (k := fun y σ => if isL i σ = true then bnd (bnd (mi σ) fun v σ => toI v σ) fun k σ => nxR (updL i (setF (k.getD 0) y) σ) else .stuck) S h fun F1 H1 e1 d v st1 S1 r1 h1 => ?_
  by_cases hl : isL i e1 = true
  · rw [if_pos hl] at h1
    obtain ⟨a, vs, k1, k2⟩ := isL_at S1 hl
    refine ⟨_, k1, ?_⟩
    refine intS S1 h1 fun F2 H2 e2 n st2 S2 h2 => ?_
    cases hq : updL i (setF ((some n).getD 0) d) e2 with
    | ok e3 =>
      rw [hq] at h2
      obtain ⟨a', vs', ds, ds', q1, q2, q3, q4, q5⟩ := updI S2 hq
      rw [k1] at q1
      cases q1
      unfold setF at q4
      rw [Option.map_eq_some_iff] at q4
      obtain ⟨j, q6, q7⟩ := q4
      subst q7
      obtain ⟨st3, S3⟩ := q5 (vs'.set j v) (q3.set (r1.mono st2.f) j)
      exact ⟨a, vs', n, j, rfl, rfl, q2, by rw [q3.length]; exact q6, PostS.now h2 st3 S3⟩
    | exc x => exact (updL_noexc x hq).elim
    | stuck => rw [hq] at h2; exact h2.elim
  · rw [if_neg hl] at h1; exact h1.elim
end
end PV
set_option Elab.async false
set_option linter.all false
set_option maxRecDepth 100000
namespace PV
open PySem PySem.Spec PyProof.Rows L2
section
variable {G : Gb} {W : XK} {X : Cx} {cf : CF} {lv : Nat} {c c1 : Cf} {F F' H H' : Hp} {σ : Sg} {e e' : En} {D : Ends}
theorem tyL {H : Hp} {a : Addr} {vs : List V} {K : PySem.W.Frag} (h : H a = some (.lst vs)) : tyV K "list" (.ref a) H := .inl ⟨rfl, vs, .inl (.inl h)⟩
def hfewOk (es : List Expr) (env : PySem.Env) (pos : Pos) : Prop := ((backTo pos (starEach es env)).all (fun x => !x.1) && (backToKw pos (keywordEach [] env)).all (fun x => x.1.isSome)
      && decide (es.length + ([] : List Keyword).length + (if ([] : List Keyword).isEmpty then 0 else 1) < 30)) = true
theorem gS_app {i : Nat} {y : Str} {ex : Expr} {m : En → R (Vl × En)} {pos py ap cp : Pos} (hN : X.N[i]? = some y) (hv : Vis X.env.scope y) (hd : (y == ("__debug__" : Str)) = false) (hcd : (y == ("__classdict__" : Str)) = false) (he : PE X ex (tE G W m))
    (hfew : hfewOk [ex] X.env cp) (hline : (ap.endLine == cp.line) = true) (hs : starEach [ex] X.env = (false, eval ex X.env) :: starEach [] X.env) (hsw : swapsWith (.Call (.Attribute (.Name y py) "append" ap) [ex] [] cp) none pos.line X.env = pure false) :
    PS X (.Expr (.Call (.Attribute (.Name y py) "append" ap) [ex] [] cp) pos) (tS G W fun σ => if isL i σ = true then bnd (bnd (m σ) fun v σ => esc v σ) fun y σ => nxR (updL i (appF y) σ) else .stuck) := by
  refine PS.imp (ps_expr (pe_bm F.plainAttrs_list F.slot_list_append rfl mt_append (pe_var (i := i) hN hv hd hcd) (pa_cons he pa_nil hs) (attrBase rfl) hfew hline hs rfl) hsw) fun D σ H ⟨F, e, S, h⟩ => ?_
  by_cases hl : isL i e = true
  · simp only [hl, if_true] at h
    obtain ⟨a, vs, k1, k2⟩ := isL_at S hl
    refine ⟨_, k1, tyL k2, ?_⟩
    refine escI (k := fun y σ => nxR (updL i (appF y) σ)) S h fun F1 H1 e1 d v st1 S1 r1 h1 => ?_
    show ∃ l xs y, _
    cases hq : updL i (appF d) e1 with
    | ok e3 =>
      simp only [hq] at h1
      obtain ⟨a', vs', ds, ds', q1, q2, q3, q4, q5⟩ := updI S1 hq
      rw [k1] at q1
      cases q1
      unfold appF at q4
      split at q4
      · rename_i hlt
        cases q4
        obtain ⟨st3, S3⟩ := q5 (vs' ++ [v]) (q3.append (.cons r1 .nil))
        exact ⟨a, vs', v, rfl, rfl, q2, by rw [q3.length]; exact line16' hlt, PostS.now h1 st3 S3⟩
      · cases q4
    | exc x => exact (updL_noexc x hq).elim
    | stuck => simp only [hq] at h1; exact h1.elim
  · simp only [hl] at h; exact h.elim
theorem gS_ins {i : Nat} {y : Str} {ek ex : Expr} {mk m : En → R (Vl × En)} {pos py ap cp : Pos} (hN : X.N[i]? = some y) (hv : Vis X.env.scope y) (hd : (y == ("__debug__" : Str)) = false) (hcd : (y == ("__classdict__" : Str)) = false) (hk : PE X ek (tE G W mk)) (he : PE X ex (tE G W m))
    (hfew : hfewOk [ek, ex] X.env cp) (hline : (ap.endLine == cp.line) = true) (hs : starEach [ek, ex] X.env = (false, eval ek X.env) :: starEach [ex] X.env) (hs2 : starEach [ex] X.env = (false, eval ex X.env) :: starEach [] X.env) (hpl : (backTo cp (starEach [ex] X.env)).any (·.1) = false) (hsw : swapsWith (.Call (.Attribute (.Name y py) "insert" ap) [ek, ex] [] cp) none pos.line X.env = pure false) :
    PS X (.Expr (.Call (.Attribute (.Name y py) "insert" ap) [ek, ex] [] cp) pos) (tS G W fun σ => if isL i σ = true then bnd (bnd (mk σ) fun v σ => toI v σ) fun n σ => bnd (bnd (m σ) fun v σ => esc v σ) fun y σ => nxR (updL i (insF (n.getD 0) y) σ) else .stuck) := by
  refine PS.imp (ps_expr (pe_bm F.plainAttrs_list F.slot_list_insert rfl mt_insert (pe_var (i := i) hN hv hd hcd) (pa_cons hk (pa_cons he pa_nil hs2) hs) (attrBase rfl) hfew hline hs hpl) hsw) fun D σ H ⟨F, e, S, h⟩ => ?_
  by_cases hl : isL i e = true
  · simp only [hl, if_true] at h
    obtain ⟨a, vs, k1, k2⟩ := isL_at S hl
    refine ⟨_, k1, tyL k2, ?_⟩
    refine intS (k := fun n σ => bnd (bnd (m σ) fun v σ => esc v σ) fun y σ => nxR (updL i (insF (n.getD 0) y) σ)) S h fun F0 H0 e0 n st0 S0 h0 => ?_
    refine escI (k := fun y σ => nxR (updL i (insF n y) σ)) S0 h0 fun F1 H1 e1 d v st1 S1 r1 h1 => ?_
    show ∃ l xs y, _
    cases hq : updL i (insF n d) e1 with
    | ok e3 =>
      simp only [hq] at h1
      obtain ⟨a', vs', ds, ds', q1, q2, q3, q4, q5⟩ := updI S1 hq
      rw [k1] at q1
      cases q1
      unfold insF at q4
      split at q4
      · rename_i hlt
        cases q4
        obtain ⟨st3, S3⟩ := q5 (vs'.take n.toNat ++ [v] ++ vs'.drop n.toNat) (((q3.take _).append (.cons r1 .nil)).append (q3.drop _))
        exact ⟨a, vs', n, v, rfl, rfl, q2, by rw [q3.length]; exact line16' hlt.1, hlt.2.1, by omega, PostS.now h1 st3 S3⟩
      · cases q4
    | exc x => exact (updL_noexc x hq).elim
    | stuck => simp only [hq] at h1; exact h1.elim
  · simp only [hl] at h; exact h.elim
theorem gS_ext {i : Nat} {y : Str} {ex : Expr} {m : En → R (Vl × En)} {pos py ap cp : Pos} (hN : X.N[i]? = some y) (hv : Vis X.env.scope y) (hd : (y == ("__debug__" : Str)) = false) (hcd : (y == ("__classdict__" : Str)) = false) (he : PE X ex (tE G W m))
    (hfew : hfewOk [ex] X.env cp) (hline : (ap.endLine == cp.line) = true) (hs : starEach [ex] X.env = (false, eval ex X.env) :: starEach [] X.env) (hsw : swapsWith (.Call (.Attribute (.Name y py) "extend" ap) [ex] [] cp) none pos.line X.env = pure false) :
    PS X (.Expr (.Call (.Attribute (.Name y py) "extend" ap) [ex] [] cp) pos) (tS G W fun σ => if isL i σ = true then bnd (m σ) fun v σ => bnd (pk (hold v) σ) fun y σ => match y with
      | .lst xs => nxR (updL i (extF xs) σ)
      | _ => .stuck else .stuck) := by
  refine PS.imp (ps_expr (pe_bm F.plainAttrs_list F.slot_list_extend rfl mt_extend (pe_var (i := i) hN hv hd hcd) (pa_cons he pa_nil hs) (attrBase rfl) hfew hline hs rfl) hsw) fun D σ H ⟨F, e, S, h⟩ => ?_
  by_cases hl : isL i e = true
  · simp only [hl, if_true] at h
    obtain ⟨a, vs, k1, k2⟩ := isL_at S hl
    refine ⟨_, k1, tyL k2, ?_⟩
    refine oneI (Post := fun c r => PostS G W c D r) (k := fun y σ => match y with
      | .lst xs => nxR (updL i (extF xs) σ)
      | _ => .stuck) PostS.hx (fun _ z => z) (fun h s _ => PostS.next h s) S h fun F1 H1 e1 d v st1 S1 rx h1 => ?_
    show ∃ l b xs zs, _
    cases d with
    | lst xs =>
      dsimp only at h1
      cases hq : updL i (extF xs) e1 with
      | ok e3 =>
        simp only [hq] at h1
        obtain ⟨a', vs', ds, ds', q1, q2, q3, q4, q5⟩ := updI S1 hq
        rw [k1] at q1
        cases q1
        unfold extF at q4
        split at q4
        · rename_i hlt
          cases q4
          obtain ⟨b, us, rfl, p1, p2⟩ : ∃ b us, v = .ref b ∧ H1 b = some (.lst us) ∧ Reps G F1 xs us := by
            rcases rx with rx | ⟨ds', b, z, rfl, us, p1, _, p2⟩
            · simp only [Rep] at rx
              obtain ⟨b, us, rfl, p1, p2⟩ := rx
              exact ⟨b, us, rfl, S1.sub b _ p1, p2⟩
            · cases z
              exact ⟨b, us, rfl, p1, p2⟩
          obtain ⟨st3, S3⟩ := q5 (vs' ++ us) (q3.append p2)
          exact ⟨a, b, vs', us, rfl, rfl, q2, p1, by rw [q3.length, p2.length]; exact line16 hlt, PostS.now h1 st3 S3⟩
        · cases q4
      | exc x => exact (updL_noexc x hq).elim
      | stuck => simp only [hq] at h1; exact h1.elim
    | _ => exact h1.elim
  · simp only [hl] at h; exact h.elim
/-! ### fields of a new instance -/
theorem hasB_no {f : Str} {fs : List Str} (h : hasB f fs = false) : f ∉ fs := fun hm => by
  unfold hasB at h
  rw [List.any_eq_false] at h
  exact h f hm (by simp)
theorem putF_zip {f : Str} {v : V} : ∀ {fs : List Str} {vs : List V}, fs[vs.length]? = some f → f ∉ fs.take vs.length → putF f v (fs.zip vs) = fs.zip (vs ++ [v])
  | [], vs, h, _ => by simp at h
  | g :: fs, [], h, _ => by
    simp only [List.length_nil, List.getElem?_cons_zero, Option.some.injEq] at h
    subst h
    simp [putF]
  | g :: fs, u :: vs, h, hn => by
    simp only [List.length_cons, List.getElem?_cons_succ] at h
    simp only [List.length_cons, List.take_succ_cons, List.mem_cons, not_or] at hn
    simp only [List.zip_cons_cons, List.cons_append, putF]
    rw [if_neg (Ne.symm hn.1), putF_zip h hn.2]
theorem gS_setfld {f y : Str} {ex : Expr} {m : En → R (Vl × En)} {pos py pa : Pos} (g : Gd G W cf lv X) (hN : X.N[(0 : Nat)]? = some y) (hv : Vis X.env.scope y) (hd : (y == ("__debug__" : Str)) = false) (hcd : (y == ("__classdict__" : Str)) = false) (he : PE X ex (tE G W m)) (hsw : swapsWith ex (some (.Attribute (.Name y py) f pa)) pos.line X.env = pure false) :
    PS X (.Assign [.Attribute (.Name y py) f pa] ex pos) (tS G W fun σ => bnd (bnd (m σ) fun v σ => esc v σ) fun y σ => match σ[(0 : Nat)]? with
    | some (.bld c fs) => if (clsF G.P c)[fs.length]? = some f ∧ hasB f ((clsF G.P c).take fs.length) = false ∧ fs.length < 1000 then .ok (.nx, σ.set 0 (.bld c (fs ++ [y]))) else .stuck
    | _ => .stuck) := by
  refine PS.imp (ps_fld (pe_var (i := 0) hN hv hd hcd) he hsw) fun D σ H ⟨F, e, S, h⟩ => ?_
  refine escI (k := fun y σ => match σ[(0 : Nat)]? with
    | some (.bld c fs) => if (clsF G.P c)[fs.length]? = some f ∧ hasB f ((clsF G.P c).take fs.length) = false ∧ fs.length < 1000 then .ok (.nx, σ.set 0 (.bld c (fs ++ [y]))) else .stuck
    | _ => .stuck) S h fun F1 H1 e1 d v st1 S1 r1 h1 => ?_
  split at h1
  · rename_i c fs hx
    split at h1
    · rename_i hcnd
      obtain ⟨hc1, hc2, hc3⟩ := hcnd
      obtain ⟨a, k1, dx, vs, k2, k3, k4, k5⟩ := S1.cell 0 _ hx
      have k1 : σ[(0 : Nat)]? = some (some (.ref a)) := k1
      have k2 : H1 a = _ := k2
      have k4 : F1 a = none := k4
      have hl := k5.length
      have hC : ∃ C, G.P.cls[c]? = some C ∧ clsF G.P c = C.flds := by
        unfold clsF at hc1 ⊢
        cases hq : G.P.cls[c]? with
        | none => rw [hq] at hc1; simp at hc1
        | some C => exact ⟨C, rfl, rfl⟩
      obtain ⟨C, hC1, hC2⟩ := hC
      have ck := g.fa.cls c C hC1
      rw [← hl] at hc1 hc2
      have pz := putF_zip (v := v) hc1 (hasB_no hc2)
      have hlt : vs.length < (clsF G.P c).length := (List.getElem?_eq_some_iff.mp hc1).1
      refine ⟨_, k1, a, G.cls c, dx, _, rfl, k2, by rw [g.kK]; exact ck.cl, by rw [g.kK]; exact ck.no f (by rw [← hC2]; exact List.mem_of_getElem? hc1), ?_, ?_⟩
      · rw [List.length_zip]; omega
      · rw [pz]
        obtain ⟨st3, S3⟩ := S1.ioEnd (x' := .bld c (fs ++ [d])) (F' := F1) (H' := upd H1 a (.ins (G.cls c) dx ((clsF G.P c).zip (vs ++ [v])))) hx (fun _ z => by cases z) rfl rfl rfl k1 (fun _ _ h => h) (fun b u hb => by
          have hb : F1 b = some u := hb
          have : b ≠ a := fun z => by rw [z, k4] at hb; cases hb
          rw [upd_ne this]; exact S1.sub b u hb) (fun b o hb hne => by rw [upd_ne hne]; exact hb) (fun b h h' => absurd h h') (fun b hb => by
          by_cases z : b = a
          · rw [z, upd_same]; simp
          · rw [upd_ne z]; exact hb) ⟨a, k1, dx, vs ++ [v], upd_same, by simp; omega, k4, k5.append (.cons r1 .nil)⟩
        exact PostS.now h1 st3 S3
    · exact h1.elim
  · exact h1.elim
/-! ### return -/
theorem tag_own {x : Cell} {t : Option Nat} (h : x.tag = some t) : x.own = true := by cases x <;> first | rfl | cases h
theorem Step.tagOk {c0 : Cf} (st : Step G c0 ⟨F, σ, H, e⟩) (S : Sim G ⟨F, σ, H, e⟩) (he : ∀ (i : Nat) (x : Cell), e'[i]? = some x → x.tag ≠ none → e[i]? = some x) : TagOk G c0 F H e' := fun i x t hx ht => by
  have hx' := he i x hx (by rw [ht]; simp)
  obtain ⟨y, k1, k2, k3⟩ := st.io i x t hx' ht
  have k := S.cell i x hx'
  rw [k3] at k
  exact ⟨⟨y, k1, k2⟩, k⟩
theorem PostS.ret {c0 : Cf} {v : V} {r : Vr} (h : PostS G W c0 D (.ok (.rt r, e'))) (st : Step G c0 ⟨F, σ, H, e⟩) (S : Sim G ⟨F, σ, H, e⟩) (he : ∀ (i : Nat) (x : Cell), e'[i]? = some x → x.tag ≠ none → e[i]? = some x) (hv : VrS G c0 F H e' v r) : D.rt v H :=
  h v F H st.f S.sub st.frame st.new (st.tagOk S he) hv
theorem gS_ret {ex : Expr} {m : En → R (Vl × En)} {pos : Pos} (he : PE X ex (tE G W m)) : PS X (.Return (some ex) pos) (tS G W fun σ => bnd (m σ) fun v σ => match v with
    | .sh d => .ok (.rt (.sh d), σ)
    | .ow ds => .ok (.rt (.ow ds), σ)
    | .sl i => match σ[i]? with
      | some (.ow ds) => .ok (.rt (.ow ds), σ.set i .un)
      | some (.sh d) => .ok (.rt (.sh d), σ)
      | _ => .stuck) := by
  refine PS.imp (ps_ret he) fun D σ H ⟨F, e, S, h⟩ => ?_
  refine ⟨F, e, S, PostE.mk (r := .stuck) (Post := PostS G W _ D) _ _ (PostS.hx _) (fun z => z) h fun vl e1 v F1 H1 st1 S1 r1 h1 => ?_⟩
  cases vl with
  | sh d => exact PostS.ret h1 st1 S1 (fun _ _ h _ => h) r1
  | ow ds =>
    obtain ⟨a, k1, k2, k3, k4⟩ := r1
    refine PostS.ret h1 st1 S1 (fun _ _ h _ => h) ⟨a, k1, k2, .inl k4, fun i x hx ht hs => ?_⟩
    cases hq : x.tag with
    | none => exact ht hq
    | some t =>
      obtain ⟨y, q1, q2, q3⟩ := st1.io i x t hx hq
      exact k3 ⟨i, x, hx, tag_own hq, by rw [q3]; exact hs⟩
  | sl i =>
    have r1 : σ[i]? = some (some v) := r1
    dsimp only at h1
    split at h1
    · rename_i ds hx
      obtain ⟨a, k1, k2⟩ := S1.cell i _ hx
      have k1 : σ[i]? = some (some (.ref a)) := k1
      rw [r1] at k1
      cases k1
      have hi : i < e1.length := (List.getElem?_eq_some_iff.mp hx).1
      have hset : ∀ (j : Nat) (x : Cell), (e1.set i .un)[j]? = some x → x.tag ≠ none → j ≠ i ∧ e1[j]? = some x := fun j x hj ht => by
        by_cases z : j = i
        · subst z
          rw [List.getElem?_set_self hi] at hj
          cases hj
          exact (ht rfl).elim
        · rw [List.getElem?_set_ne (Ne.symm z)] at hj
          exact ⟨z, hj⟩
      refine PostS.ret h1 st1 S1 (fun j x hj ht => (hset j x hj ht).2) ⟨a, rfl, k2, ?_, fun j x hj ht hs => ?_⟩
      · exact (st1.w a ⟨i, _, hx, rfl, r1⟩).symm
      · obtain ⟨hne, hj'⟩ := hset j x hj ht
        cases hq : x.tag with
        | none => exact ht hq
        | some t =>
          obtain ⟨y, q1, q2, q3⟩ := st1.io j x t hj' hq
          exact hne (S1.inj j i x _ a hj' hx (tag_own hq) rfl (by rw [q3]; exact hs) r1)
    · rename_i d hx
      obtain ⟨u, k1, k2⟩ := S1.cell i _ hx
      have k1 : σ[i]? = some (some u) := k1
      rw [r1] at k1
      cases k1
      exact PostS.ret h1 st1 S1 (fun _ _ h _ => h) k2
    · exact h1.elim
theorem gS_retN {pos : Pos} : PS X (.Return none pos) (tS G W fun σ => .ok (.rt (.sh .non), σ)) :=
  PS.imp ps_retN fun D σ H ⟨F, e, S, h⟩ => PostS.ret h Step.rfl' S (fun _ _ h _ => h) (by simp only [VrS, Rep])
end
end PV
set_option Elab.async false
set_option linter.all false
set_option maxRecDepth 100000
namespace PV
open PySem PySem.Spec PyProof.Rows L2
section
variable {G : Gb} {W : XK} {X : Cx} {cf : CF} {lv : Nat} {c c1 : Cf} {F F' H H' : Hp} {σ : Sg} {e e' : En} {D : Ends}
theorem PostS.bindP {Post : R (Fl × En) → Prop} {m : R (Fl × En)} {k : Fl → En → R (Fl × En)} {D' : Ends} (h : Post (bnd m k)) (hrt : ∀ r e', Post (k (.rt r) e') → PostS G W c D' (.ok (.rt r, e'))) (hexc : ∀ x, Post (.exc x) → PostS G W c D' (.exc x)) (hst : ¬ Post .stuck)
    (hk : ∀ σ' F' H' e', Step G c ⟨F', σ', H', e'⟩ → Sim G ⟨F', σ', H', e'⟩ → Post (k .nx e') → D'.nx σ' H') : PostS G W c D' m := by
  cases m with
  | ok p =>
    obtain ⟨f, e'⟩ := p
    cases f with
    | nx => exact fun σ' F' H' st S => hk σ' F' H' e' st S h
    | rt r => exact hrt r e' h
  | exc x => exact hexc x h
  | stuck => exact (hst h).elim
/-! ### while -/
theorem gS_whl {cnd : Expr} {body : List Stmt} {pos : Pos} {mc : En → R (Bool × En)} {mb : En → R (Fl × En)} {w : Nat} (hp : PassesOwn (model X.prog X.w) X.A X.env X.xe) (hc : PT X cnd (tT G W mc)) (hb : PSs X body (tS G W mb)) : PS X (.While cnd body [] pos) (tS G W (whlL mc mb w)) := by
  refine PS.imp (ps_while hp hc hb) fun D σ H ⟨F0, e0, S0, h0⟩ => ?_
  refine ⟨fun m σ' H' => ∃ F e, Step G ⟨F0, σ, H, e0⟩ ⟨F, σ', H', e⟩ ∧ Sim G ⟨F, σ', H', e⟩ ∧ PostS G W ⟨F0, σ, H, e0⟩ D (whlL mc mb m e), ⟨w, F0, e0, Step.rfl', S0, h0⟩, ?_⟩
  rintro m σ1 H1 ⟨F1, e1, st1, S1, h1⟩
  cases m with
  | zero => exact h1.elim
  | succ n =>
    refine ⟨F1, e1, S1, PostT.bind (Post := PostS G W ⟨F0, σ, H, e0⟩ D) (k := fun b σ' => match b with
      | false => .ok (.nx, σ')
      | true => bnd (mb σ') fun r σ'' => match r with
        | .nx => whlL mc mb n σ''
        | .rt v => .ok (.rt v, σ'')) (fun x hP => PostS.next (r := .exc x) hP st1) (fun z => z) h1 fun b e2 F2 H2 st2 S2 h2 => ?_⟩
    cases b with
    | false =>
      rw [if_neg Bool.false_ne_true]
      exact PostS.now h2 (st1.trans st2) S2
    | true =>
      rw [if_pos rfl]
      refine ⟨fun σ' H' => ∃ F e, Step G ⟨F0, σ, H, e0⟩ ⟨F, σ', H', e⟩ ∧ Sim G ⟨F, σ', H', e⟩ ∧ PostS G W ⟨F0, σ, H, e0⟩ D (whlL mc mb n e), fun σ' H' z => ⟨n, Nat.lt_succ_self n, z⟩, ?_⟩
      refine ⟨F2, e2, S2, PostS.bindP (Post := PostS G W ⟨F0, σ, H, e0⟩ D) (k := thenS (whlL mc mb n)) h2 (fun r e' q => ?_) (fun x q => PostS.next (r := .exc x) q (st1.trans st2)) (fun z => z) fun σ' F' H' e' st S' q => ⟨F', e', (st1.trans st2).trans st, S', q⟩⟩
      have q := PostS.next (r := .ok (.rt r, e')) q (st1.trans st2)
      exact q
/-! ### for -/
theorem unlocks_tag {ls : List Nat} {i : Nat} {x : Cell} (h : (ls.foldr PV.unlock e)[i]? = some x) (ht : x.tag ≠ none) : e[i]? = some x := by
  rw [unlocks_get] at h
  split at h
  · split at h
    · cases h; exact (ht rfl).elim
    · cases h; exact (ht rfl).elim
  · exact h
theorem PostS.unl {ls : List Nat} {r : Vr} (h : PostS G W c D (.ok (.rt r, ls.foldr PV.unlock e))) : PostS G W c D (.ok (.rt r, e)) := by
  intro v F' H' f1 f2 fr nw tg vr
  refine h v F' H' f1 f2 fr nw (fun i x t hx ht => tg i x t (unlocks_tag hx (by rw [ht]; simp)) ht) ?_
  cases r with
  | sh d => exact vr
  | ow ds =>
    obtain ⟨a, k1, k2, k3, k4⟩ := vr
    exact ⟨a, k1, k2, k3, fun i x hx ht => k4 i x (unlocks_tag hx ht) ht⟩
theorem gS_for {tg iter : Expr} {body : List Stmt} {pos : Pos} {t : Tgt} {ms : En → R ((List PV.D × List Nat) × En)} {mb : En → R (Fl × En)} (hp : PassesOwn (model X.prog X.w) X.A X.env X.xe) (hc : X.calm = true) (hi : PI X tg iter (tI G W ms)) (hg : PG X tg (gTg G.K t)) (hb : PSs X body (tS G W mb))
    (hs : ∀ x, foldedSetIterable iter X.env x = pure x) : PS X (.For tg iter body [] pos) (tS G W fun σ => bnd (ms σ) fun p σ1 =>
      bnd (forL (fun d σ => bnd (lift (setT t d σ) σ) fun σ' _ => mb σ') p.1 (p.2.foldr lock σ1)) fun r σ2 => .ok (r, p.2.foldr unlock σ2)) := by
  refine PS.imp (ps_for hp hc hi hg hb hs) fun D σ H ⟨F0, e0, S0, h0⟩ => ?_
  have PIof : ∀ {R : It → Hp → Prop}, (∀ (ds : List PV.D) (ls : List Nat) (e' : En) J Keep F' H', Step G ⟨F0, σ, H, e0⟩ ⟨F', σ, H', e'⟩ → Sim G ⟨F', σ, H', e'⟩ → (∀ i ∈ ls, ∀ ds, e'[i]? ≠ some (Cell.lk ds)) → ItOk G J Keep ds → Keep ⟨F', σ, H', ls.foldr PV.lock e'⟩ →
      PostS G W ⟨F0, σ, H, e0⟩ D (bnd (forL (fun d σ => bnd (lift (setT t d σ) σ) fun σ' _ => mb σ') ds (ls.foldr lock e')) fun r σ2 => .ok (r, ls.foldr unlock σ2)) → R J H') → tI G W ms σ H R := fun {R} k => by
    refine ⟨F0, e0, S0, ?_⟩
    cases hm : ms e0 with
    | ok p =>
      obtain ⟨⟨ds, ls⟩, e'⟩ := p
      intro J Keep F' H' st S hn it kk
      have h0 := h0
      simp only [hm, bnd_ok] at h0
      exact k ds ls e' J Keep F' H' st S hn it kk h0
    | exc x => simp only [hm, bnd_exc] at h0; exact h0
    | stuck => simp only [hm, bnd_stuck] at h0; exact h0.elim
  refine PIof fun ds ls e1 J Keep F1 H1 st1 S1 hn1 it kk h1 => ?_
  have h1 := h1.next st1
  -- what a loop's result is to be
  refine ⟨fun i m σ' H' => m = ds.length - i ∧ i ≤ ds.length ∧ ∃ F e, Step G ⟨F1, σ, H1, e1⟩ ⟨F, σ', H', e⟩ ∧ StepK G ⟨F1, σ, H1, ls.foldr PV.lock e1⟩ ⟨F, σ', H', e⟩ ∧ Sim G ⟨F, σ', H', e⟩ ∧
    PostS G W ⟨F1, σ, H1, e1⟩ D (bnd (forL (fun d σ => bnd (lift (setT t d σ) σ) fun σ' _ => mb σ') (ds.drop i) e) fun r σ2 => .ok (r, ls.foldr unlock σ2)),
    ⟨ds.length, by simp, Nat.zero_le _, F1, ls.foldr PV.lock e1, Step.locks Step.rfl', Step.rfl'.k, S1.locks, h1⟩, ?_⟩
  rintro i m σ' H' ⟨rfl, hi', F2, e2, st, sk, S, h⟩
  by_cases hlt : i < ds.length
  · refine .inr ⟨it.go ⟨F2, σ', H', e2⟩ i S (it.mono _ _ sk.f sk.lk kk) hlt, fun σ'' H'' => ds.length - (i + 1) = ds.length - (i + 1) ∧ i + 1 ≤ ds.length ∧ ∃ F e, Step G ⟨F1, σ, H1, e1⟩ ⟨F, σ'', H'', e⟩ ∧ StepK G ⟨F1, σ, H1, ls.foldr PV.lock e1⟩ ⟨F, σ'', H'', e⟩ ∧ Sim G ⟨F, σ'', H'', e⟩ ∧
      PostS G W ⟨F1, σ, H1, e1⟩ D (bnd (forL (fun d σ => bnd (lift (setT t d σ) σ) fun σ' _ => mb σ') (ds.drop (i + 1)) e) fun r σ2 => .ok (r, ls.foldr unlock σ2)), fun σ'' H'' w => ⟨ds.length - (i + 1), by omega, w⟩, fun x H3 y => ?_⟩
    obtain ⟨d, F3, hd, sv, rx⟩ := it.yld ⟨F2, σ', H', e2⟩ i x H3 S (it.mono _ _ sk.f sk.lk kk) hlt y
    have ed : ds.drop i = d :: ds.drop (i + 1) := by
      rw [List.drop_eq_getElem_cons hlt]
      rw [List.getElem?_eq_getElem hlt] at hd
      cases hd; rfl
    rw [ed] at h
    have stv := sv.step (G := G) (σ := σ') (e := e2)
    have st3 := st.trans stv
    have sk3 := sk.trans stv.k
    have S3 : Sim G ⟨F3, σ', H3, e2⟩ := sv.sim S
    cases hset : setT t d e2 with
    | exc z => exact (setT_noexc z hset).elim
    | stuck =>
      simp only [forL, hset] at h
      exact h.elim
    | ok e3 =>
      simp only [forL, hset] at h
      refine tgI S3 rx hset fun σ4 S4 st4 _ _ => ?_
      have st5 := st4 _ st3
      have sk5 := sk3.trans (st4 _ Step.rfl').k
      refine ⟨F3, e3, S4, PostS.bindP (Post := fun r => PostS G W ⟨F1, σ, H1, e1⟩ D (bnd r fun r σ2 => .ok (r, ls.foldr unlock σ2))) (k := thenS fun σ' => forL (fun d σ => bnd (lift (setT t d σ) σ) fun σ' _ => mb σ') (ds.drop (i + 1)) σ') h (fun r e' q => ?_) (fun x q => PostS.next (r := .exc x) q st5) (fun z => z) fun σ'' F' H'' e' st S' q => ⟨rfl, by omega, F', e', st5.trans st, sk5.trans st.k, S', q⟩⟩
      have q : PostS G W ⟨F1, σ, H1, e1⟩ D (.ok (.rt r, ls.foldr unlock e')) := q
      have q2 := PostS.unl (PostS.next q st5)
      exact q2
  · have e : i = ds.length := by omega
    subst e
    rw [List.drop_length] at h
    have h : PostS G W ⟨F1, σ, H1, e1⟩ D (.ok (.nx, ls.foldr unlock e2)) := h
    exact .inl ⟨it.stop ⟨F2, σ', H', e2⟩ S (it.mono _ _ sk.f sk.lk kk), PostS.now h (st.unlocks hn1) S.unlocks⟩
end
end PV
set_option Elab.async false
set_option linter.all false
set_option maxRecDepth 100000
namespace PV
open PySem PySem.Spec PyProof.Rows L2
/-! ## several except clauses, with and without a name -/
abbrev HdT := Option Nat × Value × (Addr → Value → Option Addr → TS)
def wManyA (K : PySem.W.Frag) (Wout : WX) (D : Ends) : List HdT → WX
  | [] => Wout
  | (none, c, ts) :: r => fun cls d σ H => ∃ b, PySem.W.exmOne K cls c = some b ∧ (b = true → ∀ a, H a = none → ts a cls d D σ H) ∧ (b = false → wManyA K Wout D r cls d σ H)
  | (some i, c, ts) :: r => fun cls d σ H => ∃ b, PySem.W.exmOne K cls c = some b ∧ (b = true → ∀ a, H a = none → ts a cls d { nx := fun σ' H' => D.nx (σ'.set i none) H', rt := D.rt, bk := fun σ' H' => D.bk (σ'.set i none) H', ct := fun σ' H' => D.ct (σ'.set i none) H' } (σ.set i (some (.ref a))) H) ∧
      (b = false → wManyA K Wout D r cls d σ H)
inductive HdsA (X : Cx) : List ExceptHandler → List HdT → Prop
  | nil : HdsA X [] []
  | cons {x : Str} {c : Value} {ts : Addr → Value → Option Addr → TS} {b₀ : Stmt} {suite : List Stmt} {np pos' : Pos} {hds : List ExceptHandler} {l : List HdT} (hc : Names X x c)
      (hsu : ∀ (a : Addr) (oe : Obj) (cls : Value) (d : Option Addr) (pn : List (Addr × Obj)), Zc cls d oe → (∃ vs, oe.data = .fields vs) → PSs (X.suite a ((a, oe) :: pn)) (b₀ :: suite) (ts a cls d)) (r : HdsA X hds l) :
      HdsA X (.ExceptHandler (some (.Name x np)) none (b₀ :: suite) pos' :: hds) ((none, c, ts) :: l)
  | consA {x n : Str} {i : Nat} {c : Value} {ts : Addr → Value → Option Addr → TS} {b₀ : Stmt} {suite : List Stmt} {np pos' : Pos} {hds : List ExceptHandler} {l : List HdT} (hc : Names X x c) (hi : X.N[i]? = some n) (hln : X.env.kindOf n = some .local)
      (hsu : ∀ (a : Addr) (oe : Obj) (cls : Value) (d : Option Addr) (pn : List (Addr × Obj)), Zc cls d oe → (∃ vs, oe.data = .fields vs) → PSs (X.suite a ((a, oe) :: pn)) (b₀ :: suite) (ts a cls d)) (r : HdsA X hds l) :
      HdsA X (.ExceptHandler (some (.Name x np)) (some n) (b₀ :: suite) pos' :: hds) ((some i, c, ts) :: l)
section
variable {X : Cx} {body : List Stmt} {h₀ : ExceptHandler} {hds : List ExceptHandler} {l : List HdT} {pos : Pos} {tb : WX → TS} {Wout : WX}
theorem ps_try_manyA (hs : X.stack = X.env :: X.outer) (hf : X.env.frame = some X.env.locals) (hN : X.N.Nodup) (tk : Takes X Wout)
    (hb : ∀ (W : WX) (pn : List (Addr × Obj)) (xe : Value → Shared → Prop), Takes (X.tr pn xe) W → PassesOwn (model X.prog X.w) X.A X.env xe → PSs (X.tr pn xe) body (tb W))
    (hh : HdsA X (h₀ :: hds) l) : PS X (.Try body (h₀ :: hds) [] [] pos) (fun D σ H => tb (wManyA X.K Wout D l) D σ H) := by
  refine ⟨fun pins s σ H D I h => ?_⟩
  have ok := I.ok
  have hfr : X.A.frames = some (X.env :: X.outer) := by rw [ok.frames, hs]
  refine wpAny_Try_except ?_
  refine wpAny_mono ((hb (wManyA X.K Wout D l) (X.pn ++ pins) (fun e s₁ => wpAny (model X.prog X.w) X.A (noteFrame e X.env) (fun _ s₂ => wpAny (model X.prog X.w) X.A (setFlight e none) (fun _ s₃ =>
    wpAny (model X.prog X.w) X.A (handleBy e X.env (h₀ :: hds)) (SP X pins D) X.xe s₃) X.xe s₂) X.xe s₁) (fun u s' xx => ?_) PassesOwn.looking).run [] s σ H D (I.toTry _) h) (fun f s1 hsp => ?_) (fun e s1 he => he)
  · obtain ⟨a, B, sI, pins', σ', H', cls, d, rfl, J', nb, up, sky, na, os, ag, w⟩ := xx
    have J : Inv X pins σ' H' sI := J'.ofTry ok
    have sky' : Sky B (X.env :: X.outer) a (Zc cls d) X.env.locals s'.heap := by rw [← hs]; exact sky
    show wpAny (model X.prog X.w) X.A (noteFrame (.ref a) X.env) _ _ _
    refine Sky.land Zc.steady hfr hf sky' fun h3 fl3 up3 => ?_
    have J3 : Inv X pins σ' H' { s' with heap := h3 } := J.landed nb fl3.1 (up.trans up3) os ag
    obtain ⟨oe3, vs3, he3, hz3, hd3⟩ := fl3.there
    have notFr : ∀ {h : Heap} {o : Obj} {vs : Array Value}, h.FunFrames B (X.env :: X.outer) → h.get? a = some o → o.data = .fields vs → a ∉ frs (X.env :: X.outer) := fun {h o vs} ff e dd hm => by
      obtain ⟨_, o', e', hnf⟩ := ff.mem hm
      rw [e] at e'; cases e'
      exact hnf _ dd
    have nfr := notFr fl3.2.2.1 he3 hd3
    have nL : a ≠ X.env.locals := fun z => nfr (List.mem_filterMap.mpr ⟨X.env, List.mem_cons_self, by rw [hf, z]⟩)
    have nF : a ∉ X.fs := fun hm => by
      obtain ⟨e, he, q⟩ := List.mem_filterMap.mp hm
      exact nfr (List.mem_filterMap.mpr ⟨e, List.mem_cons_of_mem _ he, q⟩)
    have S3 := J3.suite he3 hd3 na nL nF
    have LT : PySem.W.Looks (model X.prog X.w) h3 (typeOf (.ref a)) cls := fun A Q E s k q => wpAny_typeOf_ref (k _ _ he3) (by rw [hz3.1]; exact q)
    have test : ∀ {x : Str} {c : Value} {np : Pos}, Names X x c → ∀ {Q : Value → Shared → Prop} {E : Value → Shared → Prop}, Q c { s' with heap := h3 } → wpAny (model X.prog X.w) (X.A.mark (some (.ref a))) (eval (.Name x np) X.env) Q E { s' with heap := h3 } := fun {x c np} hc {Q E} q => by
      obtain ⟨hg, hdbg, hm | ⟨hm, hv, hnn⟩⟩ := hc
      · exact ld_glob (X := X.suite a ((a, oe3) :: (X.pn ++ pins))) S3 hg hm q hdbg
      · exact ld_blt (X := X.suite a ((a, oe3) :: (X.pn ++ pins))) S3 hg hm hv q hnn hdbg
    have go : ∀ {hds' : List ExceptHandler} {l' : List HdT}, HdsA X hds' l' → wManyA X.K Wout D l' cls d σ' H' →
        wpAny (model X.prog X.w) X.A (handleBy (.ref a) X.env hds') (SP X pins D) X.xe { s' with heap := h3 } := by
      intro hds' l' hk
      induction hk with
      | nil =>
        intro w
        refine wpAny_handleBy_nil ?_
        obtain ⟨k1, k2, k3, oe, vs, T, oT, ts', he, hz, hd, h1, hr⟩ := id fl3
        unfold PySem.passOn
        refine wpAny_bind (wpAny_field he hd h1 ?_)
        rw [if_neg (show ¬ ((Value.ref T == Value.none) = true) from by simp)]
        have fin : wpAny (model X.prog X.w) X.A (setFlight (.ref a) X.env.frame) (fun _ s4 => wpAny (model X.prog X.w) X.A (throw (.ref a) : Sem Flow) (SP X pins D) X.xe s4) X.xe { s' with heap := h3 } := by
          rw [hf]
          refine HandSPX.setFlight_upZ fl3 fun h4 hh4 up4 => wpAny_throw (tk _ _ ?_)
          exact ⟨a, B, sI, pins, σ', H', cls, d, rfl, J, nb, (up.trans up3).trans up4, .inr (.inr (by rw [hs]; exact hh4)), na, os, ag, w⟩
        first
          | exact wpAny_bind (wpAny_pure (wpAny_bind fin))
          | exact wpAny_bind fin
      | @cons x c ts b₀ suite np pos' hds2 l2 hc hsu r ih =>
        intro w
        obtain ⟨b, hb1, hyes, hno⟩ := w
        refine wpAny_handleBy_cons (codeAny_handlers_test ?_) (by intro q; cases q)
        have LM := PySem.W.exm_one (M := model X.prog X.w) (J3.kIn) LT hb1
        refine test hc (LM.here ?_)
        cases b with
        | true =>
          refine codeAny_handlers_suite ?_
          refine HandSPX.lands_againZ fl3 fun h4 fl4 up4 => ?_
          have J4 : Inv X pins σ' H' { s' with heap := h4 } := J.landed nb fl4.1 ((up.trans up3).trans up4) os ag
          obtain ⟨oe4, vs4, he4, hz4, hd4⟩ := fl4.there
          have S4 := J4.suite he4 hd4 na nL nF
          refine wpAny_mono ((hsu a oe4 cls d (X.pn ++ pins) hz4 ⟨_, hd4⟩).run [] _ _ H' _ S4 (hyes rfl a na)) (fun f s6 hsp => ?_) (fun _ _ z => False.elim z)
          cases f with
          | next =>
            obtain ⟨σ6, H6, S6, q6⟩ := hsp
            exact ⟨_, _, S6.unsuite ok, q6⟩
          | brk =>
            obtain ⟨σ6, H6, S6, q6⟩ := hsp
            exact ⟨_, _, S6.unsuite ok, q6⟩
          | cont =>
            obtain ⟨σ6, H6, S6, q6⟩ := hsp
            exact ⟨_, _, S6.unsuite ok, q6⟩
          | ret u =>
            obtain ⟨v6, σ6, H6, S6, r6, q6⟩ := hsp
            exact ⟨_, _, _, S6.unsuite ok, r6, q6⟩
        | false =>
          show wpAny _ X.A (handleBy (.ref a) X.env hds2) _ _ _
          exact ih (hno rfl)
      | @consA x n i c ts b₀ suite np pos' hds2 l2 hc hi hln hsu r ih =>
        intro w
        obtain ⟨b, hb1, hyes, hno⟩ := w
        have hloc : Loc X.env.scope n := .inl hln
        refine wpAny_handleBy_cons (codeAny_handlers_test ?_) (by intro q; cases q)
        have LM := PySem.W.exm_one (M := model X.prog X.w) (J3.kIn) LT hb1
        refine test hc (LM.here ?_)
        cases b with
        | true =>
          refine codeAny_handlers_suite_as ?_
          refine HandSPX.lands_againZ fl3 fun h4 fl4 up4 => ?_
          have J4 : Inv X pins σ' H' { s' with heap := h4 } := J.landed nb fl4.1 ((up.trans up3).trans up4) os ag
          obtain ⟨oe4, vs4, he4, hz4, hd4⟩ := fl4.there
          have S4 := J4.suite he4 hd4 na nL nF
          refine store_ok (X := X.suite a ((a, oe4) :: (X.pn ++ pins))) (v := .ref a) S4 hN hi hloc rfl (fun s5 S5 => ?_) (.inr hln)
          refine wpAny_mono ((hsu a oe4 cls d (X.pn ++ pins) hz4 ⟨_, hd4⟩).run [] s5 _ H' _ S5 (hyes rfl a na)) (fun f s6 hsp => ?_) (fun _ _ z => False.elim z)
          have end_ : ∀ {σ6 : L2.St} {H6 : Hp} {Q : Shared → Prop}, Inv (X.suite a ((a, oe4) :: (X.pn ++ pins))) [] σ6 H6 s6 → (∀ s7, Inv X pins (σ6.set i none) H6 s7 → Q s7) →
              wpAny (model X.prog X.w) X.A (do bindName X.env n .none; unbindBehindTheSuite X.env n pos') (fun _ s7 => Q s7) X.xe s6 := fun {σ6 H6 Q} S6 hq => gone_ok (S6.unsuite ok) hN hi hln hq
          cases f with
          | next =>
            obtain ⟨σ6, H6, S6, q6⟩ := hsp
            exact end_ S6 fun s7 J7 => ⟨_, _, J7, q6⟩
          | brk =>
            obtain ⟨σ6, H6, S6, q6⟩ := hsp
            exact end_ S6 fun s7 J7 => ⟨_, _, J7, q6⟩
          | cont =>
            obtain ⟨σ6, H6, S6, q6⟩ := hsp
            exact end_ S6 fun s7 J7 => ⟨_, _, J7, q6⟩
          | ret u =>
            obtain ⟨v6, σ6, H6, S6, r6, q6⟩ := hsp
            exact end_ S6 fun s7 J7 => ⟨_, _, _, J7, r6, q6⟩
        | false =>
          show wpAny _ X.A (handleBy (.ref a) X.env hds2) _ _ _
          exact ih (hno rfl)
    exact go hh w
  · cases f with
    | next =>
      obtain ⟨σ', H', J', q⟩ := hsp
      exact wpAny_execs_nil ⟨σ', H', J'.ofTry ok, q⟩
    | brk =>
      obtain ⟨σ', H', J', q⟩ := hsp
      exact ⟨σ', H', J'.ofTry ok, q⟩
    | cont =>
      obtain ⟨σ', H', J', q⟩ := hsp
      exact ⟨σ', H', J'.ofTry ok, q⟩
    | ret u =>
      obtain ⟨v, σ', H', J', r, q⟩ := hsp
      exact ⟨v, σ', H', J'.ofTry ok, r, q⟩
end
end PV
set_option Elab.async false
set_option linter.all false
set_option maxRecDepth 100000
namespace PV
open PySem PySem.Spec PyProof.Rows L2
section
variable {G : Gb} {W : XK} {X : Cx} {cf : CF} {lv : Nat} {c c1 : Cf} {F F' H H' : Hp} {σ : Sg} {e e' : En} {D : Ends}
/-- raise X('..') -/
theorem gS_raise {x m : Str} {k : Nat} {E : ExcI} {j : Nat} {p p2 pos pos' : Pos} (g : Gd G W cf lv X) (hE : G.P.exs[k]? = some E) (hx : E.name = x) (ho : E.fld = none) (hg : Gl X x) (hdb : (x == ("__debug__" : Str)) = false) :
    PS X (.Raise (some (.Call (.Name x p) [.Constant (.str m) j p2] [] pos')) none pos) (tS G W fun _ => .exc ⟨k, none⟩) := by
  have ek := g.fa.exs k E hE
  have q : PySem.W.excIn X.K (G.exc k) mroVE "ValueError.__new__" = true := by rw [g.kK]; exact ek.own ho
  refine PS.imp (ps_raise g.calm g.tk (pmk_own F.excBase_ValueError q (by rw [← hx]; exact ek.gl) (by rw [g.kK]; exact ek.kp) (raises_own (by rw [g.kK]; exact ek.sub) (by rw [g.kK]; exact ek.ty)) hg hdb)) fun D σ H ⟨F, e, S, h⟩ => ?_
  exact h _ none H (fun b o hb _ => hb) ⟨⟨E, hE⟩, rfl, fun a z => by cases z⟩
/-! ### try -/
inductive HdsG (G : Gb) (P : Prg) (cf : CF) (w : Nat) (X : Cx) : List ExceptHandler → Hds → Prop
  | nil : HdsG G P cf w X [] .nil
  | con {x : Str} {k : Nat} {E : ExcI} {b : Sms} {b₀ : Stmt} {suite : List Stmt} {np pos' : Pos} {hds : List ExceptHandler} {r : Hds} (hE : G.P.exs[k]? = some E) (hx : E.name = x) (hg : Gl X x) (hdb : (x == ("__debug__" : Str)) = false)
      (hsu : ∀ (a : Addr) (oe : Obj) (pn : List (Addr × Obj)), PSs (X.suite a ((a, oe) :: pn)) (b₀ :: suite) (tS G nW (exSs P cf w b))) (hr : HdsG G P cf w X hds r) :
      HdsG G P cf w X (.ExceptHandler (some (.Name x np)) none (b₀ :: suite) pos' :: hds) (.con k b r)
  | fld {x n s f : Str} {i k : Nat} {E : ExcI} {np p1 p2 p3 p4 p5 pos' : Pos} {j1 j2 : Nat} {hds : List ExceptHandler} {r : Hds} (hE : G.P.exs[k]? = some E) (hx : E.name = x) (hf : E.fld = some f) (hg : Gl X x) (hdb : (x == ("__debug__" : Str)) = false)
      (hi : X.N[i]? = some n) (hln : X.env.kindOf n = some .local) (hv : Vis X.env.scope n) (hd : (n == ("__debug__" : Str)) = false) (hcd : (n == ("__classdict__" : Str)) = false)
      (hs1 : starEach [.Constant (.str s) j1 p1, .Attribute (.Name n p2) f p3] X.env = (false, eval (.Constant (.str s) j1 p1) X.env) :: starEach [.Attribute (.Name n p2) f p3] X.env)
      (hs2 : starEach [.Attribute (.Name n p2) f p3] X.env = (false, eval (.Attribute (.Name n p2) f p3) X.env) :: starEach [] X.env) (hr : HdsG G P cf w X hds r) :
      HdsG G P cf w X (.ExceptHandler (some (.Name x np)) (some n) [.Return (some (.Tuple [.Constant (.str s) j1 p1, .Attribute (.Name n p2) f p3] j2 p4)) p5] pos' :: hds) (.fld k i s r)
/-- the reading of `return s, n.f` -/
def tXs (G : Gb) (i k : Nat) (s : Str) : Addr → Value → Option Addr → TS := fun a cls d => tRet (tTup (tCons (tC (.str s)) (tCons (tXf a cls d (G.exc k) (G.exf k) (tVar i)) tNil)))
def HdsL (G : Gb) (P : Prg) (cf : CF) (w : Nat) : Hds → List HdT
  | .nil => []
  | .con k b r => (none, .ref (G.exc k), fun _ _ _ => tS G nW (exSs P cf w b)) :: HdsL G P cf w r
  | .fld k i s r => (some i, .ref (G.exc k), tXs G i k s) :: HdsL G P cf w r
theorem xs_suite {n s f : Str} {i k : Nat} {a : Addr} {oe : Obj} {cls : Value} {d : Option Addr} {pn : List (Addr × Obj)} {p1 p2 p3 p4 p5 : Pos} {j1 j2 : Nat} (T : xfB X.K (G.exc k) = true) (hno : PySem.W.findIn X.K (.ref (G.exc k)) f = some none) (ef : G.exf k = f) (hz : Zc cls d oe) (hfl : ∃ vs, oe.data = .fields vs)
    (hi : X.N[i]? = some n) (hv : Vis X.env.scope n) (hd : (n == ("__debug__" : Str)) = false) (hcd : (n == ("__classdict__" : Str)) = false)
    (hs1 : starEach [.Constant (.str s) j1 p1, .Attribute (.Name n p2) f p3] X.env = (false, eval (.Constant (.str s) j1 p1) X.env) :: starEach [.Attribute (.Name n p2) f p3] X.env)
    (hs2 : starEach [.Attribute (.Name n p2) f p3] X.env = (false, eval (.Attribute (.Name n p2) f p3) X.env) :: starEach [] X.env) :
    PSs (X.suite a ((a, oe) :: pn)) [.Return (some (.Tuple [.Constant (.str s) j1 p1, .Attribute (.Name n p2) f p3] j2 p4)) p5] (tXs G i k s a cls d) := by
  have pv : PE (X.suite a ((a, oe) :: pn)) (.Name n p2) (tVar i) := pe_var (X := X.suite a ((a, oe) :: pn)) hi hv hd hcd
  have px : PE (X.suite a ((a, oe) :: pn)) (.Attribute (.Name n p2) f p3) (tXf a cls d (G.exc k) f (tVar i)) := pe_xf (xfB_ok T) hno hz hfl pv (attrBase rfl)
  unfold tXs
  rw [ef]
  exact pss_one (ps_ret (pe_tup (pa_cons (X := X.suite a ((a, oe) :: pn)) pe_str (pa_cons px pa_nil hs2) hs1)))
theorem HdsG.ok {P : Prg} {w : Nat} (g : Gd G W cf lv X) : ∀ {hds : List ExceptHandler} {hs : Hds}, HdsG G P cf w X hds hs → HdsA X hds (HdsL G P cf w hs)
  | _, _, .nil => .nil
  | _, _, .con hE hx hg hdb hsu hr => .cons ⟨hg, hdb, .inl (by rw [← hx]; exact (g.fa.exs _ _ hE).gl)⟩ (fun a oe cls d pn _ _ => hsu a oe pn) (hr.ok g)
  | _, _, .fld hE hx hf hg hdb hi hln hv hd hcd hs1 hs2 hr => by
    have ek := g.fa.exs _ _ hE
    obtain ⟨f1, f2, f3⟩ := ek.xf _ hf
    exact .consA ⟨hg, hdb, .inl (by rw [← hx]; exact ek.gl)⟩ hi hln (fun a oe cls d pn hz hfl => xs_suite (by rw [g.kK]; exact f2) (by rw [g.kK]; exact f3) f1 hz hfl hi hv hd hcd hs1 hs2) (hr.ok g)
theorem flat_rep {a : PV.D} {v : V} (h : flat a v) : Rep G F a v := by
  cases a <;> simp only [flat] at h <;> simp only [Rep] <;> exact h
/-- what follows an exception that a clause catches: a value, in a heap that has grown -/
theorem rt_of {c2 : Cf} {r : Vr} {d : PV.D} {H1 : Hp} (h : PostS G W c D (.ok (.rt (.sh d), []))) (fr : ∀ b o, c.H b = some o → ¬ c.W b → H1 b = some o) {v : V} {F' H' : Hp} (f1 : Same c.F F') (f2 : Same F' H') (k : Same H1 H') (nw : ∀ b, c.F b = none → F' b ≠ none → H1 b = none) (rv : Rep G F' d v) : D.rt v H' := by
  refine h v F' H' f1 f2 (fun b o hb hw => k b o (fr b o hb hw)) (fun b hb hb' => ?_) (fun i x t hx _ => by simp at hx) rv
  by_cases hw : c.W b
  · exact .inr hw
  · left
    cases q : c.H b with
    | none => rfl
    | some o =>
      have z := nw b hb hb'
      rw [fr b o q hw] at z; cases z
theorem hdsI {P : Prg} {w : Nat} {x : Exn} {cls : Value} {d : Option Addr} {H1 : Hp} (g : Gd G W cf lv X) (S : Sim G ⟨F, σ, H, e⟩) (fr : ∀ b o, H b = some o → ¬ Cf.W ⟨F, σ, H, e⟩ b → H1 b = some o) (xa : XAt G x cls d H1) {σ' : Sg} (hl : σ'.length = X.N.length) (hl' : e.length = X.N.length) :
    ∀ {hds : List ExceptHandler} {hs : Hds}, HdsG G P cf w X hds hs → PostS G W ⟨F, σ, H, e⟩ D (exH P cf w hs x e) → wManyA X.K (fun c d _ H => W c d H) D (HdsL G P cf w hs) cls d σ' H1
  | _, _, .nil, h => h cls d H1 fr xa
  | _, _, .con (k := k) (b := b) (r := r) hE hx hg hdb hsu hr, h => by
    obtain ⟨E', hE'⟩ := xa.ex
    have ek := g.fa.exs _ _ hE
    refine ⟨decide (k = x.c), by rw [g.kK, xa.cls]; exact ek.exm _ _ hE', fun hb a ha => ?_, fun hb => ?_⟩
    · have hb : k = x.c := of_decide_eq_true hb
      simp only [exH, if_pos hb] at h
      have sF : Same F H1 := fun b o hb => fr b o (S.sub b o hb) fun wv => by
        have z := (S.wh wv).2
        have hb : F b = some o := hb
        rw [show (Cf.mk F σ H e).F b = F b from rfl, hb] at z; cases z
      have nw : ∀ b, ¬ Cf.W ⟨F, σ', H1, e.map fun _ => .un⟩ b := fun b ⟨i, y, h1, h2, _⟩ => by
        have h1 : (e.map fun _ => Cell.un)[i]? = some y := h1
        rw [List.getElem?_map, Option.map_eq_some_iff] at h1
        obtain ⟨_, _, rfl⟩ := h1
        cases h2
      refine ⟨F, e.map fun _ => .un, ⟨by simp [hl, hl'], sF, fun i y hy => ?_, fun i j y z a h1 h2 o1 => ?_⟩, ?_⟩
      · have hy : (e.map fun _ => Cell.un)[i]? = some y := hy
        rw [List.getElem?_map, Option.map_eq_some_iff] at hy
        obtain ⟨_, _, rfl⟩ := hy
        trivial
      · have h1 : (e.map fun _ => Cell.un)[i]? = some y := h1
        rw [List.getElem?_map, Option.map_eq_some_iff] at h1
        obtain ⟨_, _, rfl⟩ := h1
        cases o1
      · cases hq : exSs P cf w b (e.map fun _ => .un) with
        | ok p =>
          obtain ⟨f, e1⟩ := p
          rw [hq] at h
          cases f with
          | nx => exact h.elim
          | rt r =>
            cases r with
            | ow ds => exact h.elim
            | sh dd =>
              intro v F2 H2 f1 f2 fr2 nw2 tg vr
              exact rt_of (c2 := ⟨F, σ, H, e⟩) (r := .sh dd) h fr f1 f2 (fun b o hb => fr2 b o hb (nw b)) (fun b hb hb' => (nw2 b hb hb').elim id fun z => (nw b z).elim) vr
        | exc y => rw [hq] at h; exact h.elim
        | stuck => rw [hq] at h; exact h.elim
    · have hb : ¬ k = x.c := of_decide_eq_false hb
      simp only [exH, if_neg hb] at h
      exact hdsI g S fr xa hl hl' hr h
  | _, _, .fld (i := i) (k := k) (s := s) (r := r) hE hx hf hg hdb hi hln hv hd hcd hs1 hs2 hr, h => by
    obtain ⟨E', hE'⟩ := xa.ex
    have ek := g.fa.exs _ _ hE
    refine ⟨decide (k = x.c), by rw [g.kK, xa.cls]; exact ek.exm _ _ hE', fun hb a ha => ?_, fun hb => ?_⟩
    · have hb : k = x.c := of_decide_eq_true hb
      simp only [exH, if_pos hb] at h
      cases hq : x.arg with
      | none => rw [hq] at h; exact h.elim
      | some aD =>
        rw [hq] at h
        obtain ⟨dd, v, rfl, q1, q2⟩ := xa.arg aD hq
        have hil : i < σ'.length := by rw [hl]; exact (List.getElem?_eq_some_iff.mp hi).1
        show ∃ y, (σ'.set i (some (.ref a)))[i]? = some (some y) ∧ (y = .ref a ∧ cls = .ref (G.exc k) ∧ _)
        refine ⟨.ref a, List.getElem?_set_self hil, rfl, by rw [hb]; exact xa.cls, dd, [(G.exf x.c, v)], v, rfl, q1, by rw [hb]; simp [List.lookup], ?_⟩
        refine ⟨by show 2 ≤ sizeLine; decide, fun p hp => ?_⟩
        have sF : Same F H1 := fun b o hb => fr b o (S.sub b o hb) fun wv => by
          have z := (S.wh wv).2
          have hb : F b = some o := hb
          rw [show (Cf.mk F σ H e).F b = F b from rfl, hb] at z; cases z
        have st := StepV.new1 (o := .tup [.str s, v]) sF hp
        refine rt_of (c2 := ⟨F, σ, H, e⟩) (r := .sh .non) h fr st.f st.sub st.h st.new ?_
        simp only [Rep]
        exact ⟨p, [.str s, v], rfl, .inl (.inl upd_same), .cons (by simp only [Rep]) (.cons (flat_rep q2) .nil)⟩
    · have hb : ¬ k = x.c := of_decide_eq_false hb
      simp only [exH, if_neg hb] at h
      exact hdsI g S fr xa hl hl' hr h
theorem gS_try {P : Prg} {w : Nat} {body : List Stmt} {h₀ : ExceptHandler} {hds : List ExceptHandler} {hd : Hds} {pos : Pos} {mb : En → R (Fl × En)} (g : Gd G W cf lv X) (hs : X.stack = X.env :: X.outer) (hf : X.env.frame = some X.env.locals)
    (hb : ∀ (W' : XK) (pn : List (Addr × Obj)) (xe : Value → Shared → Prop), Takes (X.tr pn xe) (fun c d _ H => W' c d H) → PassesOwn (model X.prog X.w) X.A X.env xe → PSs (X.tr pn xe) body (tS G W' mb)) (hh : HdsG G P cf w X (h₀ :: hds) hd) :
    PS X (.Try body (h₀ :: hds) [] [] pos) (tS G W fun σ => match mb σ with
      | .ok r => .ok r
      | .exc x => exH P cf w hd x σ
      | .stuck => .stuck) := by
  have p := ps_try_manyA (pos := pos) hs hf g.nd g.tk (tb := fun W => tS G (fun cls d H => ∀ σ : Sg, σ.length = X.N.length → W cls d σ H) mb) (fun W pn xe tk po => hb _ pn xe (fun u s' ⟨a, B, sI, pins, σ, H, cls, d, e, I, nb, up, sky, na, os, ag, w⟩ =>
    tk u s' ⟨a, B, sI, pins, σ, H, cls, d, e, I, nb, up, sky, na, os, ag, w σ I.len⟩) po) (hh.ok g)
  refine ⟨fun pins s σ H D I h => p.run pins s σ H D I ?_⟩
  obtain ⟨F, e, S, h⟩ := h
  refine ⟨F, e, S, ?_⟩
  cases hm : mb e with
  | ok r =>
    simp only [hm] at h
    obtain ⟨f, e'⟩ := r
    cases f <;> exact h
  | exc x =>
    simp only [hm] at h
    intro cls d H1 fr xa σ' hl
    have hl' : e.length = X.N.length := by
      have : e.length = σ.length := S.len
      rw [this, I.len]
    exact hdsI g S fr xa hl hl' hh h
  | stuck => simp only [hm] at h; exact h.elim
end
end PV
set_option Elab.async false
set_option linter.all false
set_option maxRecDepth 100000
namespace PV
open PySem PySem.Spec PyProof.Rows L2
section
variable {G : Gb} {W : XK} {X : Cx} {cf : CF} {lv : Nat} {c c1 : Cf} {F F' H H' : Hp}
/-! ## plain data are compared -/
mutual
theorem dp_rep (S : Same F H) : ∀ {d : D} {p : PyData} {v : V}, toPD d = some p → Rep G F d v → Dp G.K H v p
  | .non, p, v, h, r => by simp only [toPD] at h; simp only [Rep] at r; cases h; subst r; exact .non
  | .bl b, p, v, h, r => by simp only [toPD] at h; simp only [Rep] at r; cases h; subst r; exact .bl b
  | .int i, p, v, h, r => by simp only [toPD] at h; simp only [Rep] at r; cases h; subst r; exact .int i
  | .str s, p, v, h, r => by simp only [toPD] at h; simp only [Rep] at r; cases h; subst r; exact .str s
  | .tup ds, p, v, h, r => by
    simp only [toPD, Option.map_eq_some_iff] at h
    simp only [Rep] at r
    obtain ⟨ps, h1, rfl⟩ := h
    obtain ⟨a, vs, rfl, q1, q2⟩ := r
    exact .tup (sqT_same S q1) (dp_reps S h1 q2)
  | .lst ds, p, v, h, r => by
    simp only [toPD, Option.map_eq_some_iff] at h
    simp only [Rep] at r
    obtain ⟨ps, h1, rfl⟩ := h
    obtain ⟨a, vs, rfl, q1, q2⟩ := r
    exact .lst (.inl (.inl (S _ _ q1))) (dp_reps S h1 q2)
  | .obj _ _, _, _, h, _ => by simp only [toPD] at h; cases h
  | .fn _, _, _, h, _ => by simp only [toPD] at h; cases h
  | .dic, _, _, h, _ => by simp only [toPD] at h; cases h
  | .ro _, _, _, h, _ => by simp only [toPD] at h; cases h
theorem dp_reps (S : Same F H) : ∀ {ds : List D} {ps : List PyData} {vs : List V}, toPDs ds = some ps → Reps G F ds vs → DpAll G.K H vs ps
  | [], ps, vs, h, r => by simp only [toPDs] at h; simp only [Reps] at r; cases h; subst r; exact .nil
  | d :: ds, ps, vs, h, r => by
    simp only [toPDs] at h
    simp only [Reps] at r
    obtain ⟨v, vr, rfl, r1, r2⟩ := r
    split at h
    · rename_i p ps' e1 e2
      cases h
      exact .cons (dp_rep S e1 r1) (dp_reps S e2 r2)
    · cases h
end
theorem dp_rd {d : D} {p : PyData} {v : V} (S : Same F H) (h : toPD d = some p) (r : Rd2 G F H d v) : Dp G.K H v p := by
  rcases r with r | ⟨ds, a, rfl, rfl, vs, q1, q2, q3⟩
  · exact dp_rep S h r
  · simp only [toPD, Option.map_eq_some_iff] at h
    obtain ⟨ps, h1, rfl⟩ := h
    exact .lst (.inl (.inl q1)) (dp_reps S h1 q3)
theorem opr_eq (hK : X.K = G.K) (hu : X.A.units + 64 < cLine) (own : OwnOp G W X (compareOp .Eq) (blR (cmpD G.P cf .eq))) : OpR X (compareOp .Eq) (r2D G W (blR (cmpD G.P cf .eq))) := by
  intro pins s σ H x y v u Q I rx ry ⟨F, a, b, S, ha, hb, h⟩
  have own' : ∀ c i, a = .obj c i → wpAny (model X.prog X.w) X.A (compareOp .Eq v u) (EP X pins σ Q) X.xe s := fun c i e => by
    subst e
    exact own pins s σ H x y v u Q I rx ry ⟨F, c, i, b, S, ha.obj, hb, h⟩
  cases hp : toPD a with
  | none =>
    cases a with
    | obj c i => exact own' c i rfl
    | _ => simp only [blR, cmpD, eqT, hp] at h; exact False.elim h
  | some p =>
    cases hq : toPD b with
    | none =>
      cases a with
      | obj c i => exact own' c i rfl
      | _ => simp only [blR, cmpD, eqT, hp, hq] at h; exact False.elim h
    | some q =>
      simp only [blR, cmpD, eqT, hp, hq] at h
      by_cases hs : SeqAt.shaped p = true ∧ SeqAt.shaped q = true
      · simp only [hs, and_self, if_true] at h
        exact op_eqD hu pins s σ H x y v u Q I rx ry ⟨p, q, by rw [hK]; exact dp_rd S hp ha, by rw [hK]; exact dp_rd S hq hb, hs.1, hs.2, PostV.bl S h⟩
      · rw [if_neg hs] at h; exact False.elim h
theorem opr_ne (hK : X.K = G.K) (hu : X.A.units + 64 < cLine) (own : OwnOp G W X (compareOp .NotEq) (blR (cmpD G.P cf .ne))) : OpR X (compareOp .NotEq) (r2D G W (blR (cmpD G.P cf .ne))) := by
  intro pins s σ H x y v u Q I rx ry ⟨F, a, b, S, ha, hb, h⟩
  have own' : ∀ c i, a = .obj c i → wpAny (model X.prog X.w) X.A (compareOp .NotEq v u) (EP X pins σ Q) X.xe s := fun c i e => by
    subst e
    exact own pins s σ H x y v u Q I rx ry ⟨F, c, i, b, S, ha.obj, hb, h⟩
  cases hp : toPD a with
  | none =>
    cases a with
    | obj c i => exact own' c i rfl
    | _ => simp only [blR, cmpD, eqT, hp] at h; exact False.elim h
  | some p =>
    cases hq : toPD b with
    | none =>
      cases a with
      | obj c i => exact own' c i rfl
      | _ => simp only [blR, cmpD, eqT, hp, hq] at h; exact False.elim h
    | some q =>
      simp only [blR, cmpD, eqT, hp, hq] at h
      by_cases hs : SeqAt.shaped p = true ∧ SeqAt.shaped q = true
      · simp only [hs, and_self, if_true] at h
        exact op_neD hu pins s σ H x y v u Q I rx ry ⟨p, q, by rw [hK]; exact dp_rd S hp ha, by rw [hK]; exact dp_rd S hq hb, hs.1, hs.2, PostV.bl S h⟩
      · rw [if_neg hs] at h; exact False.elim h
theorem opr_mem (hK : X.K = G.K) (hu : X.A.units + 65 < cLine) : OpR X (compareOp .In) (r2D G W (blR (cmpD G.P cf .mem))) := by
  intro pins s σ H x y v u Q I rx ry ⟨F, a, b, S, ha, hb, h⟩
  simp only [blR, cmpD, memT] at h
  split at h
  · rename_i p ds hp hq
    by_cases hs : SeqAt.shaped p = true ∧ SeqAt.shaped (.list ds) = true
    · rw [if_pos hs] at h
      exact op_inD hu pins s σ H x y v u Q I rx ry ⟨p, ds, by rw [hK]; exact dp_rd S hp ha, by rw [hK]; exact dp_rd S hq hb, hs.1, hs.2, PostV.bl S h⟩
    · rw [if_neg hs] at h; exact False.elim h
  · exact False.elim h
theorem opr_nmem (hK : X.K = G.K) (hu : X.A.units + 65 < cLine) : OpR X (compareOp .NotIn) (r2D G W (blR (cmpD G.P cf .nmem))) := by
  intro pins s σ H x y v u Q I rx ry ⟨F, a, b, S, ha, hb, h⟩
  simp only [blR, cmpD, memT] at h
  split at h
  · rename_i p ds hp hq
    by_cases hs : SeqAt.shaped p = true ∧ SeqAt.shaped (.list ds) = true
    · rw [if_pos hs] at h
      exact op_notInD hu pins s σ H x y v u Q I rx ry ⟨p, ds, by rw [hK]; exact dp_rd S hp ha, by rw [hK]; exact dp_rd S hq hb, hs.1, hs.2, PostV.bl S h⟩
    · rw [if_neg hs] at h; exact False.elim h
  · exact False.elim h
theorem gE_rev {ex : Expr} {k : Nat} {p1 p2 p3 pos : Pos} {ma : En → R (Vl × En)} (hK : X.K = G.K) (he : PE X ex (tE G W ma)) : PE X (.Subscript ex (.Slice none none (some (.UnaryOp .USub (.Constant (.int 1) k p1) p2)) p3) pos)
    (tE G W fun σ => bnd (ma σ) fun va σ => bnd (pk (hold va) σ) fun x σ => lift ((revD x).map vr) σ) := by
  refine PE.imp (pe_revL he) fun σ H Q ⟨F, e, S, h⟩ => ?_
  refine oneI (Post := fun c r => PostE G W c Q r) PostE.hx (fun _ z => z) (fun h s e => PostE.next h s e) S h fun F1 H1 e1 x v st S1 rx h1 => ?_
  cases x with
  | lst ds =>
    obtain ⟨a, vs, rfl, q1, q2⟩ : ∃ a vs, v = .ref a ∧ H1 a = some (.lst vs) ∧ Reps G F1 ds vs := by
      rcases rx with rx | ⟨ds', b, z, rfl, us, p1, _, p2⟩
      · simp only [Rep] at rx
        obtain ⟨b, us, rfl, p1, p2⟩ := rx
        exact ⟨b, us, rfl, S1.sub b _ p1, p2⟩
      · cases z
        exact ⟨b, us, rfl, p1, p2⟩
    refine ⟨a, vs, rfl, .inl (.inl q1), fun p hp => ?_⟩
    have h2 := PostE.lift S1 h1
    have st2 := StepV.new0 (o := .lst vs.reverse) S1.sub hp
    have fp : F1 p = none := by
      cases q : F1 p with
      | none => rfl
      | some o =>
        have z : H1 p = some o := S1.sub p o q
        rw [hp] at z; cases z
    exact h2 (.ref p) _ _ st2 ⟨p, rfl, ⟨vs.reverse, upd_same, fp, q2.reverse⟩, hp⟩
  | _ => exact h1.elim
/-! ### list(range(..)), tuple(range(..)) -/
theorem rg_reps {lo : Int} : ∀ n : Nat, Reps G F ((List.range n).map fun (i : Nat) => D.int (lo + (i : Int))) ((List.range n).map fun i => V.int (lo + (i : Nat)))
  | 0 => Reps.nil
  | n + 1 => by
    rw [List.range_succ, List.map_append, List.map_append]
    exact (rg_reps n).append (.cons (by simp only [Rep]) .nil)
def rgO (l : Bool) (a b : Int) : HO := match l with
  | true => .lst (rgV a b)
  | false => .tup (rgV a b)
theorem rgEnd {l : Bool} {lo hi : Int} {σ : Sg} {e : En} {Q : VK} (S : Sim G ⟨F, σ, H, e⟩) (h : PostE G W ⟨F, σ, H, e⟩ Q (lift ((rgR l lo hi).map vr) e)) :
    RgOk lo hi ∧ ∀ q, H q = none → Q (.ref q) (upd H q (rgO l lo hi)) := by
  have h2 := PostE.lift S h
  unfold rgR at h2
  split at h2
  · rename_i hb
    refine ⟨⟨by omega, by omega, by omega, by omega, by omega⟩, fun q hq => ?_⟩
    cases l with
    | true => exact PostV.lst S.sub hq (rg_reps _) h2
    | false => exact PostV.tup S.sub hq (rg_reps _) h2
  · exact h2.elim
theorem rg1I {l : Bool} {ma : En → R (Vl × En)} {σ : Sg} {Q : VK} (h : tE G W (fun σ => bnd (ma σ) fun v σ => bnd (toI v σ) fun n σ => lift ((rgR l 0 (n.getD 0)).map vr) σ) σ H Q) :
    tRg1 (tE G W ma) σ H fun a b H1 => RgOk a b ∧ ∀ q, H1 q = none → Q (.ref q) (upd H1 q (rgO l a b)) := by
  obtain ⟨F, e, S, h⟩ := h
  exact intI (Post := fun c r => PostE G W c Q r) PostE.hx (fun _ z => z) (fun h s e => PostE.next h s e) S h fun F' H' e' i st S' h' => ⟨i, rfl, rgEnd S' h'⟩
theorem rg2I {l : Bool} {ma mb : En → R (Vl × En)} {σ : Sg} {Q : VK} (h : tE G W (fun σ => bnd (ma σ) fun v σ => bnd (toI v σ) fun n σ => bnd (mb σ) fun v σ => bnd (toI v σ) fun m σ => lift ((rgR l (n.getD 0) (m.getD 0)).map vr) σ) σ H Q) :
    tRg2 (tE G W ma) (tE G W mb) σ H fun a b H1 => RgOk a b ∧ ∀ q, H1 q = none → Q (.ref q) (upd H1 q (rgO l a b)) := by
  obtain ⟨F, e, S, h⟩ := h
  refine intI (Post := fun c r => PostE G W c Q r) PostE.hx (fun _ z => z) (fun h s e => PostE.next h s e) S h fun F' H' e' i st S' h' => ?_
  exact intI (Post := fun c r => PostE G W c Q r) PostE.hx (fun _ z => z) (fun h s e => PostE.next h s e) S' h' fun F2 H2 e2 j st2 S2 h2 => ⟨i, j, rfl, rfl, rgEnd S2 h2⟩
theorem gE_trng1 {l : Bool} {a : Expr} {p p' pos pos' : Pos} {ma : En → R (Vl × En)} {x : Str} (hc : X.calm = true) (hx : x = if l then ("list" : Str) else "tuple") (hg : Gl X x) (hm : X.mg x = none) (hg' : Gl X "range") (hm' : X.mg "range" = none) (ha : PE X a (tE G W ma)) (na : starEach [a] X.env = (false, eval a X.env) :: starEach [] X.env) :
    PE X (.Call (.Name x p) [.Call (.Name "range" p') [a] [] pos'] [] pos) (tE G W fun σ => bnd (ma σ) fun v σ => bnd (toI v σ) fun n σ => lift ((rgR l 0 (n.getD 0)).map vr) σ) := by
  subst hx
  cases l with
  | true => exact PE.imp (pe_listRg hc hg hm (prg_1 hg' hm' ha na) rfl) fun σ H Q h => rg1I h
  | false => exact PE.imp (pe_tupRg hc hg hm (prg_1 hg' hm' ha na) rfl) fun σ H Q h => rg1I h
theorem gE_trng2 {l : Bool} {a b : Expr} {p p' pos pos' : Pos} {ma mb : En → R (Vl × En)} {x : Str} (hc : X.calm = true) (hx : x = if l then ("list" : Str) else "tuple") (hg : Gl X x) (hm : X.mg x = none) (hg' : Gl X "range") (hm' : X.mg "range" = none) (ha : PE X a (tE G W ma)) (hb : PE X b (tE G W mb)) (na : starEach [a, b] X.env = (false, eval a X.env) :: starEach [b] X.env) (nb : starEach [b] X.env = (false, eval b X.env) :: starEach [] X.env) (hp : (backTo pos' (starEach [b] X.env)).any (·.1) = false) :
    PE X (.Call (.Name x p) [.Call (.Name "range" p') [a, b] [] pos'] [] pos) (tE G W fun σ => bnd (ma σ) fun v σ => bnd (toI v σ) fun n σ => bnd (mb σ) fun v σ => bnd (toI v σ) fun m σ => lift ((rgR l (n.getD 0) (m.getD 0)).map vr) σ) := by
  subst hx
  cases l with
  | true => exact PE.imp (pe_listRg hc hg hm (prg_2 hg' hm' ha hb na nb hp) rfl) fun σ H Q h => rg2I h
  | false => exact PE.imp (pe_tupRg hc hg hm (prg_2 hg' hm' ha hb na nb hp) rfl) fun σ H Q h => rg2I h
end
end PV
set_option Elab.async false
set_option linter.all false
set_option maxRecDepth 100000
namespace PV
open PySem PySem.Spec PyProof.Rows L2
/-! ## the checker: that a text in Lean is the text of the program -/
structure CC where
  P : Prg
  N : List Str
  frs : List Str
def noStar1 : Expr → Bool
  | .Starred .. => false
  | _ => true
def noStar : List Expr → Bool
  | [] => true
  | e :: es => noStar1 e && noStar es
theorem star_cons {e : Expr} {es : List Expr} {env : PySem.Env} (h : noStar1 e = true) : starEach (e :: es) env = (false, eval e env) :: starEach es env := by
  cases e <;> first | rfl | cases h
theorem star_any {pos : Pos} {env : PySem.Env} : ∀ {es : List Expr}, noStar es = true → (backTo pos (starEach es env)).any (·.1) = false
  | [], _ => rfl
  | e :: es, h => by
    simp only [noStar, Bool.and_eq_true] at h
    rw [star_cons h.1]
    show (false || (backTo pos (starEach es env)).any (·.1)) = false
    rw [star_any h.2]; rfl
theorem star_all {pos : Pos} {env : PySem.Env} : ∀ {es : List Expr}, noStar es = true → (backTo pos (starEach es env)).all (fun x => !x.1) = true
  | [], _ => rfl
  | e :: es, h => by
    simp only [noStar, Bool.and_eq_true] at h
    rw [star_cons h.1]
    show (true && (backTo pos (starEach es env)).all (fun x => !x.1)) = true
    rw [star_all h.2]; rfl
theorem star_few {pos : Pos} {env : PySem.Env} {es : List Expr} (h : noStar es = true) (hl : es.length < 30) : hfewOk es env pos := by
  unfold hfewOk
  rw [star_all h]
  show (true && true && decide (es.length + 0 + 0 < 30)) = true
  simp [hl]
theorem star_form {pos : Pos} {env : PySem.Env} {es : List Expr} (h : noStar es = true) (hl : es.length < 30) : methodCallForm (es.length + 0) (backTo pos (starEach es env)) (backToKw pos (keywordEach [] env)) = true := by
  unfold methodCallForm
  rw [star_all h]
  show (true && true && decide (es.length + 0 + 0 < 30)) = true
  simp [hl]
theorem noStar_mem : ∀ {es : List Expr}, noStar es = true ↔ ∀ e ∈ es, noStar1 e = true
  | [] => by simp [noStar]
  | e :: es => by simp [noStar, noStar_mem (es := es)]
/-! ### names -/
def okName (x : Str) : Bool := !(x == ("__debug__" : Str)) && !(x == ("__classdict__" : Str))
def kindB (sc : Scope) (x : Str) (k : NameKind) : Bool := decide (sc.names.lookup x = some k)
def visB (sc : Scope) (x : Str) : Bool := kindB sc x .local || kindB sc x .cell || kindB sc x .free
def locB (sc : Scope) (x : Str) : Bool := kindB sc x .local || kindB sc x .cell
def slotB (c : CC) (sc : Scope) (i : Nat) (x : Str) : Bool := decide (c.N[i]? = some x) && (visB sc x && okName x)
def glB (sc : Scope) (x : Str) : Bool := kindB sc x .globalImplicit && okName x
def freB (c : CC) (sc : Scope) (x : Str) : Bool := glB sc x && hasB x c.frs
theorem visB_ok {sc : Scope} {x : Str} (h : visB sc x = true) : Vis sc x := by
  unfold visB kindB at h
  simp only [Bool.or_eq_true, decide_eq_true_eq] at h
  rcases h with (h | h) | h
  · exact .inl h
  · exact .inr (.inl h)
  · exact .inr (.inr h)
theorem okName_ok {x : Str} (h : okName x = true) : (x == ("__debug__" : Str)) = false ∧ (x == ("__classdict__" : Str)) = false := by
  unfold okName at h
  simp only [Bool.and_eq_true, Bool.not_eq_true'] at h
  exact h
def opB : BOp → Operator → Bool
  | .add, .Add => true
  | .sub, .Sub => true
  | .mul, .Mult => true
  | .fdiv, .FloorDiv => true
  | .mod, .Mod => true
  | _, _ => false
def copB : COp → CmpOp → Bool
  | .lt, .Lt => true
  | .le, .LtE => true
  | .gt, .Gt => true
  | .ge, .GtE => true
  | .eq, .Eq => true
  | .ne, .NotEq => true
  | .mem, .In => true
  | .nmem, .NotIn => true
  | _, _ => false
def conB : D → Const → Bool
  | .non, .none => true
  | .bl b, .bool b' => b == b'
  | .int i, .int j => decide (i = j)
  | .str s, .str t => decide (s = t)
  | _, _ => false
def plainIxB : Expr → Bool
  | .Slice .. => false
  | _ => true
def notSet : Expr → Bool
  | .Set .. => false
  | _ => true
theorem plainIx_ok {b : Expr} (h : plainIxB b = true) : PlainIx b := fun o i => by cases b <;> first | rfl | cases h
theorem notSet_ok {e : Expr} {env : PySem.Env} (h : notSet e = true) : ∀ x, foldedSetIterable e env x = pure x := fun x => by cases e <;> first | rfl | cases h
/-- the tests whose truth is looked at part by part -/
def tEx : Ex → Bool
  | .ite .. => false
  | .not a => tEx a
  | .and a b => tEx a && tEx b
  | .or a b => tEx a && tEx b
  | _ => true
def lenE : Exs → Nat
  | .nil => 0
  | .cons _ es => lenE es + 1
/-! ### targets, blocks -/
def nameB (c : CC) (sc : Scope) (fn : Str → Bool) (i : Nat) (x : Str) : Bool := decide (c.N[i]? = some x) && (locB sc x && (fn x || kindB sc x .local))
def namesB (c : CC) (sc : Scope) (fn : Str → Bool) : List Nat → List Expr → Bool
  | [], [] => true
  | i :: is, .Name x _ :: es => nameB c sc fn i x && namesB c sc fn is es
  | _, _ => false
def tgB (c : CC) (sc : Scope) (fn : Str → Bool) : Tgt → Expr → Bool
  | .v i, .Name x _ => nameB c sc fn i x
  | .tp is, .Tuple es _ _ => namesB c sc fn is es
  | _, _ => false
def ownOf (c : CC) (is : List Nat) : List (Str × Nat) := is.filterMap fun i => (c.N[i]?).map fun x => (x, i)
def blkB (c : CC) (sc scope : Scope) (is : List Nat) : Bool :=
  decide (scope.kind = .function) && (scope.names.all fun y => decide (scope.names.lookup y.1 = some y.2)) && decide ((ownOf c is).map (·.2) = is) &&
  (scope.names.all fun y => !decide (y.2 = .free) || (kindB sc y.1 .cell || kindB sc y.1 .free)) &&
  (scope.names.all fun y => !(decide (y.2 = .local) || decide (y.2 = .cell)) || (hasB y.1 ((ownOf c is).map (·.1)) || !hasB y.1 c.N))
def bfn (scope : Scope) : Str → Bool := fun x => scope.names.lookup x == some .cell
def tyB (c : CC) (sc : Scope) : TyK → Expr → Bool
  | .own k, .Name x _ => (match c.P.cls[k]? with
    | some C => decide (C.name = x) && glB sc x
    | none => false)
  | t, .Name x _ => decide (Str.ofString (tyN t) = x) && freB c sc x
  | _, _ => false
def tgTup : Expr → Bool
  | .Tuple .. => true
  | _ => false
/-! ### expressions -/
mutual
def chkE (c : CC) : Ex → Scope → Expr → Bool
  | .var i, sc, e => match e with
    | .Name x _ => slotB c sc i x
    | _ => false
  | .con d, _, e => match e with
    | .Constant k _ _ => conB d k
    | _ => false
  | .gcon .., _, _ => false
  | .gfn k, sc, e => match e with
    | .Name x _ => (match c.P.fns[k]? with
      | some f => f.top && (decide (f.name = x) && glB sc x)
      | none => false)
    | _ => false
  | .bin o a b, sc, e => match e with
    | .BinOp x op y _ => opB o op && (chkE c a sc x && chkE c b sc y)
    | _ => false
  | .neg a, sc, e => match e with
    | .UnaryOp .USub x _ => chkE c a sc x
    | _ => false
  | .not a, sc, e => match e with
    | .UnaryOp .Not x _ => chkE c a sc x
    | _ => false
  | .cmp o a b, sc, e => match e with
    | .Compare x [op] [y] _ => copB o op && (!behindInMarks op y && (chkE c a sc x && chkE c b sc y))
    | _ => false
  | .isN a, sc, e => match e with
    | .Compare x [.Is] [.Constant .none _ _] _ => chkE c a sc x
    | _ => false
  | .notN a, sc, e => match e with
    | .Compare x [.IsNot] [.Constant .none _ _] _ => chkE c a sc x
    | _ => false
  | .chain o p a b d, sc, e => match e with
    | .Compare x [op, op'] [y, z] _ => copB o op && (copB p op' && (!lastMarks [op, op'] [y, z] && (chkE c a sc x && (chkE c b sc y && chkE c d sc z))))
    | _ => false
  | .and a b, sc, e => match e with
    | .BoolOp .And (x :: y :: rest) pos => chkE c a sc x && (match rest with
      | [] => chkE c b sc y
      | z :: zs => chkE c b sc (.BoolOp .And (y :: z :: zs) pos))
    | _ => false
  | .or a b, sc, e => match e with
    | .BoolOp .Or (x :: y :: rest) pos => chkE c a sc x && (match rest with
      | [] => chkE c b sc y
      | z :: zs => chkE c b sc (.BoolOp .Or (y :: z :: zs) pos))
    | _ => false
  | .ite t a b, sc, e => match e with
    | .IfExp x y z _ => chkE c t sc x && (tEx t && (chkE c a sc y && chkE c b sc z))
    | _ => false
  | .tup es, sc, e => match e with
    | .Tuple l _ _ => chkA c es sc l && decide (l.length < 1000)
    | _ => false
  | .lst es, sc, e => match e with
    | .List l _ => chkA c es sc l && decide (l.length < 1000)
    | _ => false
  | .ix a i, sc, e => match e with
    | .Subscript x y _ => plainIxB y && (chkE c a sc x && chkE c i sc y)
    | _ => false
  | .slc a lo hi, sc, e => match e with
    | .Subscript x (.Slice l h none _) _ => chkE c a sc x && (chkO c lo sc l && chkO c hi sc h)
    | _ => false
  | .rev a, sc, e => match e with
    | .Subscript x (.Slice none none (some (.UnaryOp .USub (.Constant (.int 1) _ _) _)) _) _ => chkE c a sc x
    | _ => false
  | .fld a f, sc, e => match e with
    | .Attribute x f' _ => decide (f = f') && (noSuper x && chkE c a sc x)
    | _ => false
  | .call k es, sc, e => match e with
    | .Call (.Name x _) (y :: l) [] _ => (match c.P.fns[k]? with
      | some f => f.top && (decide (f.name = x) && (glB sc x && (decide ((y :: l).length = f.ps.length) && chkA c es sc (y :: l))))
      | none => false)
    | _ => false
  | .callio k i es, sc, e => match e with
    | .Call (.Name x _) (.Name y _ :: l) [] _ => (match c.P.fns[k]? with
      | some f => f.top && (decide (f.name = x) && (glB sc x && (slotB c sc i y && (decide (l.length + 1 = f.ps.length) && chkA c es sc l))))
      | none => false)
    | _ => false
  | .callv i es, sc, e => match e with
    | .Call (.Name x _) (y :: l) [] _ => slotB c sc i x && chkA c es sc (y :: l)
    | _ => false
  | .mk k es dv, sc, e => match e with
    | .Call (.Name x _) (y :: l) [] _ => (match c.P.cls[k]? with
      | some C => (match c.P.fns[C.init]?, intsD dv with
        | some f, some ns => decide (C.name = x) && (glB sc x && (decide ((y :: l).length + ns.length + 1 = f.ps.length) && (decide (ns = [] ∨ ns = f.dv) && chkA c es sc (y :: l))))
        | _, _ => false)
      | none => false)
    | _ => false
  | .meth k a m es, sc, e => match e with
    | .Call (.Attribute o m' ap) l [] pos => (match c.P.cls[k]? with
      | some C => (match C.meths.lookup m with
        | some j => (match c.P.fns[j]? with
          | some f => decide (m = m') && (noSuper o && ((ap.endLine == pos.line) && (decide (l.length < 30) && (decide (l.length + 1 = f.ps.length) && (chkE c a sc o && chkA c es sc l)))))
          | none => false)
        | none => false)
      | none => false)
    | _ => false
  | .bif b es, sc, e => match e with
    | .Call (.Name x _) (y :: l) [] _ => decide (bifN b = x) && (freB c sc x && chkA c es sc (y :: l))
    | _ => false
  | .trng1 l a, sc, e => match e with
    | .Call (.Name x _) [.Call (.Name y _) [z] [] _] [] _ => decide (x = if l then ("list" : Str) else "tuple") && (freB c sc x && (decide (("range" : Str) = y) && (freB c sc y && (noStar1 z && chkE c a sc z))))
    | _ => false
  | .trng2 l a b, sc, e => match e with
    | .Call (.Name x _) [.Call (.Name y _) [z, z'] [] _] [] _ => decide (x = if l then ("list" : Str) else "tuple") && (freB c sc x && (decide (("range" : Str) = y) && (freB c sc y && (noStar [z, z'] && (chkE c a sc z && chkE c b sc z')))))
    | _ => false
  | .isi a t, sc, e => match e with
    | .Call (.Name x _) [y, z] [] _ => decide (("isinstance" : Str) = x) && (freB c sc x && (noStar1 y && (chkE c a sc y && tyB c sc t z)))
    | _ => false
  | .isi2 a t u, sc, e => match e with
    | .Call (.Name x _) [y, .Tuple [z, z'] _ _] [] _ => decide (("isinstance" : Str) = x) && (freB c sc x && (noStar1 y && (chkE c a sc y && (tyB c sc t z && tyB c sc u z'))))
    | _ => false
  | .lc s t a, sc, e => match e with
    | .ListComp elt [⟨tg, iter, [], 0⟩] scope _ => chkI c s sc tg iter && (blkB c sc scope t.slots && (tgB c (relS scope sc) (bfn scope) t tg && chkE c a (relS scope sc) elt))
    | _ => false
  | .lcf s t d a, sc, e => match e with
    | .ListComp elt [⟨tg, iter, [x], 0⟩] scope _ => chkI c s sc tg iter && (blkB c sc scope t.slots && (tgB c (relS scope sc) (bfn scope) t tg && (chkE c d (relS scope sc) x && (tEx d && chkE c a (relS scope sc) elt))))
    | _ => false
  | .lc2 s t s' t' a, sc, e => match e with
    | .ListComp elt [⟨tg, iter, [], 0⟩, ⟨tg', iter', [], 0⟩] scope _ => chkI c s sc tg iter && (blkB c sc scope [t, t'] && (tgB c (relS scope sc) (bfn scope) (.v t) tg && (chkI c s' (relS scope sc) tg' iter' && (tgB c (relS scope sc) (bfn scope) (.v t') tg' && chkE c a (relS scope sc) elt))))
    | _ => false
def chkA (c : CC) : Exs → Scope → List Expr → Bool
  | .nil, _, l => match l with
    | [] => true
    | _ => false
  | .cons a es, sc, l => match l with
    | e :: l => noStar1 e && (chkE c a sc e && chkA c es sc l)
    | _ => false
def chkO (c : CC) : Exo → Scope → Option Expr → Bool
  | .none, _, o => match o with
    | none => true
    | _ => false
  | .some a, sc, o => match o with
    | some e => chkE c a sc e
    | _ => false
def chkI (c : CC) : Src → Scope → Expr → Expr → Bool
  | .seq a, sc, _, e => notSet e && chkE c a sc e
  | .rng es, sc, _, e => match e with
    | .Call (.Name x _) l [] _ => decide (("range" : Str) = x) && (freB c sc x && (decide (l.length = 1 ∨ l.length = 2 ∨ l.length = 3) && chkA c es sc l))
    | _ => false
  | .zip es, sc, tg, e => match e with
    | .Call (.Name x _) [y, z] [] _ => tgTup tg && (decide (("zip" : Str) = x) && (freB c sc x && chkA c es sc [y, z]))
    | _ => false
  | .enum es, sc, tg, e => match e with
    | .Call (.Name x _) [y] [] _ => tgTup tg && (decide (("enumerate" : Str) = x) && (freB c sc x && chkA c es sc [y]))
    | _ => false
end
end PV
set_option Elab.async false
set_option linter.all false
set_option maxRecDepth 100000
set_option maxHeartbeats 2000000
namespace PV
open PySem PySem.Spec PyProof.Rows L2
/-- what the program's own classes do for operators -/
structure Owns (G : Gb) (W : XK) (cf : CF) (X : Cx) : Prop where
  add : OwnOp G W X (binaryOp .Add) (binD G.P cf .add)
  sub : OwnOp G W X (binaryOp .Sub) (binD G.P cf .sub)
  mul : OwnOp G W X (binaryOp .Mult) (binD G.P cf .mul)
  neg : OwnUn G W X (unaryOp .USub) (fun x => (negD G.P cf x).map Vr.sh)
  lt : OwnOp G W X (compareOp .Lt) (blR (cmpD G.P cf .lt))
  le : OwnOp G W X (compareOp .LtE) (blR (cmpD G.P cf .le))
  eq : OwnOp G W X (compareOp .Eq) (blR (cmpD G.P cf .eq))
  ne : OwnOp G W X (compareOp .NotEq) (blR (cmpD G.P cf .ne))
structure At (c : CC) (G : Gb) (W : XK) (cf : CF) (lv : Nat) (sc : Scope) (X : Cx) : Prop where
  g : Gd G W cf lv X
  P : G.P = c.P
  N : X.N = c.N
  sc : X.env.scope = sc
  fre : ∀ x, hasB x c.frs = true → X.mg x = none
  own : ∀ (W : XK) (X' : Cx), Gd G W cf lv X' → Owns G W cf X'
end PV
namespace L2
open PySem PySem.Spec PyProof.Rows PV
theorem PE.congr {G : Gb} {W : XK} {X : Cx} {e : Expr} {m m' : En → PV.R (Vl × En)} (h : PE X e (tE G W m)) (k : ∀ σ, m' σ = m σ) : PE X e (tE G W m') := by
  have z : m' = m := funext k
  rw [z]; exact h
theorem PT.congr {G : Gb} {W : XK} {X : Cx} {e : Expr} {m m' : En → PV.R (Bool × En)} (h : PT X e (tT G W m)) (k : ∀ σ, m' σ = m σ) : PT X e (tT G W m') := by
  have z : m' = m := funext k
  rw [z]; exact h
theorem PW.congr {G : Gb} {W : XK} {X : Cx} {e : Expr} {m m' : En → PV.R (Bool × En)} (h : PW X e (tT G W m)) (k : ∀ σ, m' σ = m σ) : PW X e (tT G W m') := by
  have z : m' = m := funext k
  rw [z]; exact h
end L2
namespace PV
open PySem PySem.Spec PyProof.Rows L2
theorem bnd_congr {α β : Type} {m : R (α × En)} {f g : α → En → R (β × En)} (h : ∀ a σ, f a σ = g a σ) : bnd m f = bnd m g := by
  cases m with
  | ok p => exact h _ _
  | exc _ => rfl
  | stuck => rfl
section
variable {c : CC} {G : Gb} {W : XK} {X : Cx} {cf : CF} {lv : Nat} {sc : Scope}
theorem At.vis (a : At c G W cf lv sc X) {i : Nat} {x : Str} (h : slotB c sc i x = true) : X.N[i]? = some x ∧ Vis X.env.scope x ∧ (x == ("__debug__" : Str)) = false ∧ (x == ("__classdict__" : Str)) = false := by
  unfold slotB at h
  simp only [Bool.and_eq_true, decide_eq_true_eq] at h
  obtain ⟨h1, h2, h3⟩ := h
  obtain ⟨h4, h5⟩ := okName_ok h3
  exact ⟨by rw [a.N]; exact h1, by rw [a.sc]; exact visB_ok h2, h4, h5⟩
theorem At.gl (a : At c G W cf lv sc X) {x : Str} (h : glB sc x = true) : Gl X x ∧ (x == ("__debug__" : Str)) = false := by
  unfold glB kindB at h
  simp only [Bool.and_eq_true, decide_eq_true_eq] at h
  exact ⟨by unfold Gl PySem.Env.kindOf; rw [a.sc]; exact h.1, (okName_ok h.2).1⟩
theorem At.free (a : At c G W cf lv sc X) {x : Str} (h : freB c sc x = true) : Gl X x ∧ X.mg x = none := by
  unfold freB at h
  simp only [Bool.and_eq_true] at h
  exact ⟨(a.gl h.1).1, a.fre x h.2⟩
theorem At.units (a : At c G W cf lv sc X) : X.A.units + 65 < cLine := by have := a.g.room.un; omega
theorem At.op (a : At c G W cf lv sc X) {o : BOp} {op : Operator} (h : opB o op = true) : OpR X (binaryOp op) (r2D G W (binD G.P cf o)) := by
  have w := a.own W X a.g
  cases o <;> cases op <;> first | cases h | skip
  · exact opr_add a.g.kK w.add
  · exact opr_sub w.sub
  · exact opr_mul w.mul a.g.kK
  · exact opr_fdiv
  · exact opr_mod
theorem At.cop (a : At c G W cf lv sc X) {o : COp} {op : CmpOp} (h : copB o op = true) : OpR X (compareOp op) (r2D G W (blR (cmpD G.P cf o))) := by
  have w := a.own W X a.g
  have hu := a.units
  cases o <;> cases op <;> first | cases h | skip
  · exact opr_lt a.g.kK (by omega) w.lt
  · exact opr_le w.le
  · exact opr_gt
  · exact opr_ge
  · exact opr_eq a.g.kK (by omega) w.eq
  · exact opr_ne a.g.kK (by omega) w.ne
  · exact opr_mem a.g.kK hu
  · exact opr_nmem a.g.kK hu
theorem At.blk (a : At c G W cf lv sc X) {s : Shared} {H : Hp} {scope : Scope} {C : Addr} {cl : List (Str × Addr)} {fp : List Addr} : At c G nW cf lv (relS scope sc) (X.blk s H scope (compEnvC scope cl C X.env) fp) where
  g := ⟨a.g.kK, a.g.calm, a.g.nd, a.g.room, takes_none5, a.g.fa⟩
  P := a.P
  N := a.N
  sc := by rw [← a.sc]; rfl
  fre := a.fre
  own := a.own
theorem hasB_mem {f : Str} {fs : List Str} (h : hasB f fs = true) : f ∈ fs := by
  unfold hasB at h
  rw [List.any_eq_true] at h
  obtain ⟨g, h1, h2⟩ := h
  have h2 : g = f := of_decide_eq_true h2
  rw [← h2]; exact h1
theorem At.blkOk (a : At c G W cf lv sc X) {scope : Scope} {is : List Nat} (h : blkB c sc scope is = true) : BlkOk X.N X.env.scope scope (ownOf c is) ∧ (ownOf c is).map (·.2) = is := by
  unfold blkB at h
  simp only [Bool.and_eq_true, decide_eq_true_eq] at h
  obtain ⟨⟨⟨⟨h1, h2⟩, h3⟩, h4⟩, h5⟩ := h
  refine ⟨⟨h1, fun y hy => ?_, fun p hp => ?_, fun y hy hf => ?_, fun y hy ho => ?_⟩, h3⟩
  · exact of_decide_eq_true (List.all_eq_true.mp h2 y hy)
  · unfold ownOf at hp
    rw [List.mem_filterMap] at hp
    obtain ⟨i, _, hi⟩ := hp
    rw [Option.map_eq_some_iff] at hi
    obtain ⟨x, hx, rfl⟩ := hi
    rw [a.N]; exact hx
  · have q := List.all_eq_true.mp h4 y hy
    simp only [hf, decide_true, Bool.not_true, Bool.false_or, Bool.or_eq_true, kindB, decide_eq_true_eq] at q
    rw [a.sc]; exact q
  · have q := List.all_eq_true.mp h5 y hy
    have z : (decide (y.2 = NameKind.local) || decide (y.2 = NameKind.cell)) = true := by
      rcases ho with ho | ho <;> simp [ho]
    rw [z] at q
    simp only [Bool.not_true, Bool.false_or, Bool.or_eq_true, Bool.not_eq_true'] at q
    rcases q with q | q
    · exact .inl (hasB_mem q)
    · right
      rw [a.N]
      exact hasB_no q
theorem nameB_pg (a : At c G W cf lv sc X) {fn : Str → Bool} (hfn : X.fn = fn) {i : Nat} {x : Str} {pos : Pos} (h : nameB c sc fn i x = true) : PG X (.Name x pos) (gName i) := by
  unfold nameB locB kindB at h
  simp only [Bool.and_eq_true, Bool.or_eq_true, decide_eq_true_eq] at h
  obtain ⟨h1, h2, h3⟩ := h
  exact pg_name a.g.nd (by rw [a.N]; exact h1) (by rw [a.sc]; exact h2) (by rw [a.sc, hfn]; exact h3)
theorem namesB_pg (a : At c G W cf lv sc X) {fn : Str → Bool} (hfn : X.fn = fn) : ∀ {is : List Nat} {es : List Expr}, namesB c sc fn is es = true → PGs X es (gNames is) ∧ (assignEach es X.env).length = is.length ∧ (assignEach es X.env).findIdx? (·.1) = none
  | [], [], _ => ⟨pgs_nil, rfl, rfl⟩
  | [], _ :: _, h => by cases h
  | i :: is, [], h => by cases h
  | i :: is, e :: es, h => by
    unfold namesB at h
    split at h
    · rename_i z; cases z
    · rename_i i' is' x p es' h1 h2
      cases h1
      cases h2
      rw [Bool.and_eq_true] at h
      obtain ⟨k1, k2, k3⟩ := namesB_pg a hfn h.2
      refine ⟨pgs_cons (nameB_pg a hfn h.1) k1 rfl, ?_, ?_⟩
      · show (assignEach es X.env).length + 1 = is.length + 1
        rw [k2]
      · show List.findIdx? (·.1) ((false, assign (.Name x p) X.env) :: assignEach es X.env) = none
        rw [List.findIdx?_cons, k3]; rfl
    · cases h
theorem tgB_pg (a : At c G W cf lv sc X) {fn : Str → Bool} (hfn : X.fn = fn) {t : Tgt} {e : Expr} (h : tgB c sc fn t e = true) : PG X e (gTg G.K t) := by
  unfold tgB at h
  split at h
  · exact nameB_pg a hfn h
  · obtain ⟨k1, k2, k3⟩ := namesB_pg a hfn h
    have := pg_tup a.g.calm k1 k2 k3 (pos := ‹_›) (k := ‹_›)
    rw [a.g.kK] at this
    exact this
  · cases h
theorem tyB_ok (a : At c G W cf lv sc X) {t : TyK} {e : Expr} (h : tyB c sc t e = true) : PTy X G e t ∧ noStar1 e = true := by
  unfold tyB at h
  split at h
  · split at h
    · rename_i C hC
      simp only [Bool.and_eq_true, decide_eq_true_eq] at h
      obtain ⟨rfl, h2⟩ := h
      obtain ⟨h3, h4⟩ := a.gl h2
      exact ⟨pty_own a.g (by rw [a.P]; exact hC) h3 h4, rfl⟩
    · cases h
  · rename_i t x p hn
    simp only [Bool.and_eq_true, decide_eq_true_eq] at h
    obtain ⟨rfl, h2⟩ := h
    obtain ⟨h3, h4⟩ := a.free h2
    exact ⟨pty_ty (fun k z => hn k z) h3 h4, rfl⟩
  · cases h
end
theorem intsD_map : ∀ {ds : List D} {ns : List Int}, intsD ds = some ns → ds = ns.map D.int
  | [], ns, h => by simp [intsD] at h; subst h; rfl
  | .int i :: ds, ns, h => by
    simp only [intsD, Option.map_eq_some_iff] at h
    obtain ⟨ms, e1, rfl⟩ := h
    simp [intsD_map e1]
  | .non :: _, _, e | .bl _ :: _, _, e | .str _ :: _, _, e | .tup _ :: _, _, e | .lst _ :: _, _, e | .obj _ _ :: _, _, e | .fn _ :: _, _, e | .dic :: _, _, e | .ro _ :: _, _, e => by simp [intsD] at e
theorem evs_len {P : Prg} {cf : CF} : ∀ (es : Exs) (σ : En) (ds : List D) (σ' : En), evs P cf es σ = .ok (ds, σ') → ds.length = lenE es
  | .nil, σ, ds, σ', h => by
    simp only [evs] at h
    cases h; rfl
  | .cons a es, σ, ds, σ', h => by
    simp only [evs] at h
    cases h1 : ev P cf a σ with
    | ok p =>
      rw [h1, bnd_ok] at h
      cases h2 : esc p.1 p.2 with
      | ok q =>
        rw [h2, bnd_ok] at h
        cases h3 : evs P cf es q.2 with
        | ok r =>
          rw [h3, bnd_ok] at h
          cases h
          simp [lenE, evs_len es _ _ _ h3]
        | exc x => rw [h3] at h; cases h
        | stuck => rw [h3] at h; cases h
      | exc x => rw [h2] at h; cases h
      | stuck => rw [h2] at h; cases h
    | exc x => rw [h1] at h; cases h
    | stuck => rw [h1] at h; cases h
theorem chkA_len {c : CC} : ∀ (es : Exs) (sc : Scope) (l : List Expr), chkA c es sc l = true → l.length = lenE es ∧ noStar l = true
  | .nil, sc, l, h => by
    unfold chkA at h
    split at h
    · exact ⟨rfl, rfl⟩
    · cases h
  | .cons a es, sc, l, h => by
    unfold chkA at h
    split at h
    · rename_i e l
      simp only [Bool.and_eq_true] at h
      obtain ⟨h1, h2⟩ := chkA_len es sc l h.2.2
      exact ⟨by simp [lenE, h1], by simp [noStar, h.1, h2]⟩
    · cases h
end PV
set_option Elab.async false
set_option linter.all false
set_option maxRecDepth 100000
set_option maxHeartbeats 4000000
namespace PV
open PySem PySem.Spec PyProof.Rows L2
section
variable {G : Gb} {W : XK} {X : Cx}
theorem isNI {nb : Bool} {ma : En → R (Vl × En)} {σ : Sg} {H : Hp} {Q : VK} (h : tE G W (fun σ => bnd (ma σ) fun va σ => bnd (pk va σ) fun x σ => .ok (.sh (.bl (if nb then isNon x else !isNon x)), σ)) σ H Q) :
    tE G W ma σ H fun x H1 => Q (.bl (if nb then decide (x = .non) else !decide (x = .non))) H1 := by
  obtain ⟨F, e, S, h⟩ := h
  refine oneI (Post := fun c r => PostE G W c Q r) PostE.hx (fun _ z => z) (fun h s e => PostE.next h s e) S (by simp only [pk_hold]; exact h) fun F' H' e' x v st S' rx h' => ?_
  have e : decide (v = .non) = (isNon x) := by
    rcases rx with r | ⟨ds, a, rfl, rfl, _⟩
    · cases x <;> simp only [Rep] at r
      all_goals first
        | (subst r; rfl)
        | (obtain ⟨_, _, rfl, _⟩ := r; rfl)
        | (obtain ⟨_, _, _, rfl, _⟩ := r; rfl)
    · rfl
  rw [e]
  exact PostE.bl S' h'
theorem gT_isN {a : Expr} {pos j pos'} {ma : En → R (Vl × En)} (ha : PE X a (tE G W ma)) :
    PT X (.Compare a [.Is] [.Constant .none j pos'] pos) (tT G W fun σ => bnd (bnd (ma σ) fun va σ => bnd (pk va σ) fun x σ => .ok (.sh (.bl (isNon x)), σ)) fun v σ => toB v σ) :=
  PT.imp (pt_cmp (pc_isN ha) (nobehind _ (by decide) (by decide))) fun σ H Q h => tstI (t := tIsN (tE G W ma)) (fun Q h => isNI (nb := true) h) h
theorem gT_notN {a : Expr} {pos j pos'} {ma : En → R (Vl × En)} (ha : PE X a (tE G W ma)) :
    PT X (.Compare a [.IsNot] [.Constant .none j pos'] pos) (tT G W fun σ => bnd (bnd (ma σ) fun va σ => bnd (pk va σ) fun x σ => .ok (.sh (.bl (!isNon x)), σ)) fun v σ => toB v σ) :=
  PT.imp (pt_cmp (pc_notN ha) (nobehind _ (by decide) (by decide))) fun σ H Q h => tstI (t := tNotN (tE G W ma)) (fun Q h => isNI (nb := false) h) h
end
/-- what the checker's yes tells -/
def OkE (c : CC) (G : Gb) (cf : CF) (lv : Nat) (ex : Ex) : Prop := ∀ (sc : Scope) (e : Expr), chkE c ex sc e = true → (∀ (W : XK) (X : Cx), At c G W cf lv sc X → PE X e (tE G W fun σ => ev c.P cf ex σ)) ∧
  (tEx ex = true → ∀ (W : XK) (X : Cx), At c G W cf lv sc X → PT X e (tT G W fun σ => bnd (ev c.P cf ex σ) fun v σ => toB v σ))
def OkA (c : CC) (G : Gb) (cf : CF) (lv : Nat) (es : Exs) : Prop := ∀ (sc : Scope) (l : List Expr), chkA c es sc l = true → ∀ (W : XK) (X : Cx), At c G W cf lv sc X → PA X l (tA G W fun σ => evs c.P cf es σ) ∧ PA X l (tP G W fun σ => evp c.P cf es σ)
def OkO (c : CC) (G : Gb) (cf : CF) (lv : Nat) (o : Exo) : Prop := ∀ (sc : Scope) (x : Option Expr), chkO c o sc x = true → ∀ (W : XK) (X : Cx), At c G W cf lv sc X → PO X x (tO G W fun σ => evo c.P cf o σ)
def OkI (c : CC) (G : Gb) (cf : CF) (lv : Nat) (s : Src) : Prop := ∀ (sc : Scope) (tg e : Expr), chkI c s sc tg e = true → (∀ (W : XK) (X : Cx), At c G W cf lv sc X → PI X tg e (tI G W fun σ => src c.P cf s σ)) ∧ notSet e = true
section
variable {c : CC} {G : Gb} {cf : CF} {lv : Nat}
/-- a value's truth, plainly -/
theorem both {ex : Ex} {e : Expr} {sc : Scope} (h : ∀ (W : XK) (X : Cx), At c G W cf lv sc X → PE X e (tE G W fun σ => ev c.P cf ex σ)) (he : ∀ env whole, isTrue e env whole = (do let v ← whole; standAt e.pos; holding [v] (truthy v))) :
    (∀ (W : XK) (X : Cx), At c G W cf lv sc X → PE X e (tE G W fun σ => ev c.P cf ex σ)) ∧ (tEx ex = true → ∀ (W : XK) (X : Cx), At c G W cf lv sc X → PT X e (tT G W fun σ => bnd (ev c.P cf ex σ) fun v σ => toB v σ)) :=
  ⟨h, fun _ W X a => gT_val (h W X a) (he _)⟩
theorem conB_ok {X : Cx} {d : D} {k : Const} {n : Nat} {pos : Pos} (h : conB d k = true) : ∃ v, PE X (.Constant k n pos) (tC v) ∧ ∀ F, Rep G F d v := by
  unfold conB at h
  split at h
  · exact ⟨.non, pe_non, fun F => by simp only [Rep]⟩
  · rename_i b b'
    have e : b = b' := by simpa using h
    subst e
    exact ⟨.bl b, pe_bl, fun F => by simp only [Rep]⟩
  · have e := of_decide_eq_true h
    subst e
    exact ⟨.int _, pe_int, fun F => by simp only [Rep]⟩
  · have e := of_decide_eq_true h
    subst e
    exact ⟨.str _, pe_str, fun F => by simp only [Rep]⟩
  · cases h
mutual
theorem okE : ∀ (ex : Ex), OkE c G cf lv ex
  | .var i => fun sc e h => by
    unfold chkE at h
    split at h
    · refine both (fun W X a => ?_) (fun _ _ => rfl)
      obtain ⟨h1, h2, h3, h4⟩ := a.vis h
      exact (gE_var h1 h2 h3 h4).congr fun σ => by simp only [ev]
    · cases h
  | .con d => fun sc e h => by
    unfold chkE at h
    split at h
    · refine both (fun W X a => ?_) (fun _ _ => rfl)
      obtain ⟨v, h1, h2⟩ := conB_ok (G := G) (X := X) h
      exact (gE_con h1 h2).congr fun σ => by simp only [ev]
    · cases h
  | .gcon _ _ => fun sc e h => by
    unfold chkE at h
    cases h
  | .gfn k => fun sc e h => by
    unfold chkE at h
    split at h
    · split at h
      · rename_i f hf
        simp only [Bool.and_eq_true, decide_eq_true_eq] at h
        obtain ⟨h1, h2, h3⟩ := h
        refine both (fun W X a => ?_) (fun _ _ => rfl)
        obtain ⟨h4, h5⟩ := a.gl h3
        have hm := a.g.fa.gl k f (by rw [a.P]; exact hf) h1
        rw [h2] at hm
        exact (gE_con (d := .fn k) (pe_glob (v := .ref (G.fn k)) h4 hm rfl h5) (fun F => by simp only [Rep])).congr fun σ => by simp only [ev]
      · cases h
    · cases h
  | .bin o a b => fun sc e h => by
    unfold chkE at h
    split at h
    · simp only [Bool.and_eq_true] at h
      obtain ⟨h1, h2, h3⟩ := h
      have k1 := (okE a sc _ h2).1
      have k2 := (okE b sc _ h3).1
      refine both (fun W X A => ?_) (fun _ _ => rfl)
      exact (gE_bin (A.op h1) (k1 W X A) (k2 W X A)).congr fun σ => by simp only [ev, A.P]
    · cases h
  | .neg a => fun sc e h => by
    unfold chkE at h
    split at h
    · have k1 := (okE a sc _ h).1
      refine both (fun W X A => ?_) (fun _ _ => rfl)
      exact (gE_neg (unr_neg (A.own W X A.g).neg) (k1 W X A)).congr fun σ => by simp only [ev, A.P]
    · cases h
  | .not a => fun sc e h => by
    unfold chkE at h
    split at h
    · obtain ⟨k1, k2⟩ := okE a sc _ h
      refine ⟨fun W X A => (gE_not (k1 W X A)).congr fun σ => by simp only [ev], fun ht W X A => (gT_not (k2 ht W X A)).congr fun σ => ?_⟩
      simp only [ev, bnd_assoc] <;> rfl
    · cases h
  | .cmp o a b => fun sc e h => by
    unfold chkE at h
    split at h
    · simp only [Bool.and_eq_true, Bool.not_eq_true'] at h
      obtain ⟨h1, h2, h3, h4⟩ := h
      have k1 := (okE a sc _ h3).1
      have k2 := (okE b sc _ h4).1
      exact ⟨fun W X A => (gE_cmp h2 (A.cop h1) (k1 W X A) (k2 W X A)).congr fun σ => by simp only [ev, A.P], fun _ W X A => (gT_cmp h2 (A.cop h1) (k1 W X A) (k2 W X A)).congr fun σ => by simp only [ev, A.P]⟩
    · cases h
  | .isN a => fun sc e h => by
    unfold chkE at h
    split at h
    · have k1 := (okE a sc _ h).1
      exact ⟨fun W X A => (gE_isN (k1 W X A)).congr fun σ => by simp only [ev], fun _ W X A => (gT_isN (k1 W X A)).congr fun σ => by simp only [ev]⟩
    · cases h
  | .notN a => fun sc e h => by
    unfold chkE at h
    split at h
    · have k1 := (okE a sc _ h).1
      exact ⟨fun W X A => (gE_notN (k1 W X A)).congr fun σ => by simp only [ev], fun _ W X A => (gT_notN (k1 W X A)).congr fun σ => by simp only [ev]⟩
    · cases h
  | .chain o p a b d => fun sc e h => by
    unfold chkE at h
    split at h
    · simp only [Bool.and_eq_true, Bool.not_eq_true'] at h
      obtain ⟨h1, h2, h3, h4, h5, h6⟩ := h
      have k1 := (okE a sc _ h4).1
      have k2 := (okE b sc _ h5).1
      have k3 := (okE d sc _ h6).1
      exact ⟨fun W X A => (gE_chain h3 (A.cop h1) (A.cop h2) (k1 W X A) (k2 W X A) (k3 W X A)).congr fun σ => by simp only [ev, A.P] <;> rfl, fun _ W X A => (gT_chain h3 (A.cop h1) (A.cop h2) (k1 W X A) (k2 W X A) (k3 W X A)).congr fun σ => by simp only [ev, A.P] <;> rfl⟩
    · cases h
  | .and a b => fun sc e h => by
    unfold chkE at h
    split at h
    · rename_i x y rest pos
      simp only [Bool.and_eq_true] at h
      obtain ⟨h1, h2⟩ := h
      obtain ⟨k1, k2⟩ := okE a sc _ h1
      have kb : (∀ (W : XK) (X : Cx), At c G W cf lv sc X → PE X (.BoolOp .And (y :: rest) pos) (tE G W fun σ => ev c.P cf b σ)) ∧ (tEx b = true → ∀ (W : XK) (X : Cx), At c G W cf lv sc X → PW X (.BoolOp .And (y :: rest) pos) (tT G W fun σ => bnd (ev c.P cf b σ) fun v σ => toB v σ)) := by
        cases rest with
        | nil =>
          obtain ⟨k3, k4⟩ := okE b sc _ h2
          exact ⟨fun W X A => pe_one (k3 W X A), fun ht W X A => pw_and1 (k4 ht W X A)⟩
        | cons z zs =>
          obtain ⟨k3, k4⟩ := okE b sc _ h2
          exact ⟨k3, fun ht W X A => ⟨fun wh pins s σ H Q I q => (k4 ht W X A).run pins s σ H Q I q⟩⟩
      refine ⟨fun W X A => (gE_andV (k1 W X A) (kb.1 W X A)).congr fun σ => by simp only [ev] <;> rfl, fun ht W X A => ?_⟩
      simp only [tEx, Bool.and_eq_true] at ht
      refine (gW_and (k2 ht.1 W X A) (kb.2 ht.2 W X A)).pt.congr fun σ => ?_
      simp only [ev, bnd_assoc]
      refine bnd_congr fun va σ => bnd_congr fun r σ => ?_
      cases r <;> rfl
    · cases h
  | .or a b => fun sc e h => by
    unfold chkE at h
    split at h
    · rename_i x y rest pos
      simp only [Bool.and_eq_true] at h
      obtain ⟨h1, h2⟩ := h
      obtain ⟨k1, k2⟩ := okE a sc _ h1
      have kb : (∀ (W : XK) (X : Cx), At c G W cf lv sc X → PE X (.BoolOp .Or (y :: rest) pos) (tE G W fun σ => ev c.P cf b σ)) ∧ (tEx b = true → ∀ (W : XK) (X : Cx), At c G W cf lv sc X → PW X (.BoolOp .Or (y :: rest) pos) (tT G W fun σ => bnd (ev c.P cf b σ) fun v σ => toB v σ)) := by
        cases rest with
        | nil =>
          obtain ⟨k3, k4⟩ := okE b sc _ h2
          exact ⟨fun W X A => pe_one (k3 W X A), fun ht W X A => pw_or1 (k4 ht W X A)⟩
        | cons z zs =>
          obtain ⟨k3, k4⟩ := okE b sc _ h2
          exact ⟨k3, fun ht W X A => ⟨fun wh pins s σ H Q I q => (k4 ht W X A).run pins s σ H Q I q⟩⟩
      refine ⟨fun W X A => (gE_orV (k1 W X A) (kb.1 W X A)).congr fun σ => by simp only [ev] <;> rfl, fun ht W X A => ?_⟩
      simp only [tEx, Bool.and_eq_true] at ht
      refine (gW_or (k2 ht.1 W X A) (kb.2 ht.2 W X A)).pt.congr fun σ => ?_
      simp only [ev, bnd_assoc]
      refine bnd_congr fun va σ => bnd_congr fun r σ => ?_
      cases r <;> rfl
    · cases h
  | .ite t a b => fun sc e h => by
    unfold chkE at h
    split at h
    · simp only [Bool.and_eq_true] at h
      obtain ⟨h1, h2, h3, h4⟩ := h
      have k1 := (okE t sc _ h1).2 h2
      have k2 := (okE a sc _ h3).1
      have k3 := (okE b sc _ h4).1
      refine ⟨fun W X A => (gE_ite (k1 W X A) (k2 W X A) (k3 W X A)).congr fun σ => ?_, fun ht => by cases ht⟩
      simp only [ev, bnd_assoc] <;> rfl
    · cases h
  | .tup es => fun sc e h => by
    unfold chkE at h
    split at h
    · simp only [Bool.and_eq_true, decide_eq_true_eq] at h
      have k1 := okA es sc _ h.1
      have hl := (chkA_len es sc _ h.1).1
      refine both (fun W X A => ?_) (fun _ _ => rfl)
      exact (gE_tup (k1 W X A).1 fun σ ds σ' z => by rw [evs_len es σ ds σ' z]; omega).congr fun σ => by simp only [ev]
    · cases h
  | .lst es => fun sc e h => by
    unfold chkE at h
    split at h
    · simp only [Bool.and_eq_true, decide_eq_true_eq] at h
      have k1 := okA es sc _ h.1
      have hl := (chkA_len es sc _ h.1).1
      refine both (fun W X A => ?_) (fun _ _ => rfl)
      exact (gE_lst (k1 W X A).1 fun σ ds σ' z => by rw [evs_len es σ ds σ' z]; omega).congr fun σ => by simp only [ev]
    · cases h
  | .ix a i => fun sc e h => by
    unfold chkE at h
    split at h
    · simp only [Bool.and_eq_true] at h
      obtain ⟨h1, h2, h3⟩ := h
      have k1 := (okE a sc _ h2).1
      have k2 := (okE i sc _ h3).1
      refine both (fun W X A => ?_) (fun _ _ => rfl)
      exact (gE_ix A.g.kK (plainIx_ok h1) (k1 W X A) (k2 W X A)).congr fun σ => by simp only [ev]
    · cases h
  | .slc a lo hi => fun sc e h => by
    unfold chkE at h
    split at h
    · simp only [Bool.and_eq_true] at h
      obtain ⟨h1, h2, h3⟩ := h
      have k1 := (okE a sc _ h1).1
      have k2 := okO lo sc _ h2
      have k3 := okO hi sc _ h3
      refine both (fun W X A => ?_) (fun _ _ => rfl)
      exact (gE_slc A.g (k1 W X A) (k2 W X A) (k3 W X A)).congr fun σ => by simp only [ev]
    · cases h
  | .rev a => fun sc e h => by
    unfold chkE at h
    split at h
    · have k1 := (okE a sc _ h).1
      refine both (fun W X A => ?_) (fun _ _ => rfl)
      exact (gE_rev A.g.kK (k1 W X A)).congr fun σ => by simp only [ev]
    · cases h
  | .fld a f => fun sc e h => by
    unfold chkE at h
    split at h
    · simp only [Bool.and_eq_true, decide_eq_true_eq] at h
      obtain ⟨rfl, h2, h3⟩ := h
      have k1 := (okE a sc _ h3).1
      refine both (fun W X A => ?_) (fun _ _ => rfl)
      exact (gE_fld A.g (k1 W X A) h2).congr fun σ => by simp only [ev, A.P] <;> rfl
    · cases h
  | .call k es => fun sc e h => by
    unfold chkE at h
    split at h
    · split at h
      · rename_i f hf
        simp only [Bool.and_eq_true, decide_eq_true_eq] at h
        obtain ⟨h1, h2, h3, h4, h5⟩ := h
        have k1 := okA es sc _ h5
        obtain ⟨hl, hst⟩ := chkA_len es sc _ h5
        simp only [noStar, Bool.and_eq_true] at hst
        refine both (fun W X A => ?_) (fun _ _ => rfl)
        obtain ⟨g1, g2⟩ := A.gl h3
        exact (gE_call A.g (by rw [A.P]; exact hf) h1 h2 h4 (fun σ ds σ' z => by rw [evs_len es σ ds σ' z, hl]) g1 (k1 W X A).1 g2 (star_cons hst.1) (star_any hst.2)).congr fun σ => by simp only [ev]
      · cases h
    · cases h
  | .callio k i es => fun sc e h => by
    unfold chkE at h
    split at h
    · split at h
      · rename_i f hf
        simp only [Bool.and_eq_true, decide_eq_true_eq] at h
        obtain ⟨h1, h2, h3, h4, h5, h6⟩ := h
        have k1 := okA es sc _ h6
        obtain ⟨hl, hst⟩ := chkA_len es sc _ h6
        refine both (fun W X A => ?_) (fun _ _ => rfl)
        obtain ⟨g1, g2⟩ := A.gl h3
        obtain ⟨v1, v2, v3, v4⟩ := A.vis h4
        exact (gE_callio A.g (by rw [A.P]; exact hf) h1 h2 h5 (fun σ ds σ' z => by rw [evs_len es σ ds σ' z, hl]) g1 v1 v2 v3 v4 (k1 W X A).1 g2 (star_cons rfl) (star_any hst)).congr fun σ => by simp only [ev] <;> rfl
      · cases h
    · cases h
  | .callv i es => fun sc e h => by
    unfold chkE at h
    split at h
    · simp only [Bool.and_eq_true] at h
      obtain ⟨h1, h2⟩ := h
      have k1 := okA es sc _ h2
      obtain ⟨hl, hst⟩ := chkA_len es sc _ h2
      simp only [noStar, Bool.and_eq_true] at hst
      refine both (fun W X A => ?_) (fun _ _ => rfl)
      obtain ⟨v1, v2, v3, v4⟩ := A.vis h1
      exact (gE_callv A.g v1 v2 (k1 W X A).1 v3 v4 (star_cons hst.1) (star_any hst.2)).congr fun σ => by simp only [ev, A.P] <;> rfl
    · cases h
  | .mk k es dv => fun sc e h => by
    unfold chkE at h
    split at h
    · split at h
      · rename_i C hC
        split at h
        · rename_i f ns hf hn
          simp only [Bool.and_eq_true, decide_eq_true_eq] at h
          obtain ⟨h1, h2, h3, h4, h5⟩ := h
          have k1 := okA es sc _ h5
          obtain ⟨hl, hst⟩ := chkA_len es sc _ h5
          simp only [noStar, Bool.and_eq_true] at hst
          have hdv := intsD_map hn
          refine both (fun W X A => ?_) (fun _ _ => rfl)
          obtain ⟨g1, g2⟩ := A.gl h2
          exact (gE_mk A.g (by rw [A.P]; exact hC) (by rw [A.P]; exact hf) h1 h3 h4 (fun σ ds σ' z => by rw [evs_len es σ ds σ' z, hl]) g1 (k1 W X A).1 g2 (star_cons hst.1) (star_any hst.2)).congr fun σ => by simp only [ev, A.P, hdv] <;> rfl
        · cases h
      · cases h
    · cases h
  | .meth k a m es => fun sc e h => by
    unfold chkE at h
    split at h
    · rename_i o m' ap l pos
      split at h
      · rename_i C hC
        split at h
        · rename_i j hj
          split at h
          · rename_i f hf
            simp only [Bool.and_eq_true, decide_eq_true_eq] at h
            obtain ⟨rfl, h2, h3, h4, h5, h6, h7⟩ := h
            have k1 := (okE a sc _ h6).1
            have k2 := okA es sc _ h7
            obtain ⟨hl, hst⟩ := chkA_len es sc _ h7
            refine both (fun W X A => ?_) (fun _ _ => rfl)
            cases l with
            | nil =>
              cases es with
              | nil => exact (gE_meth0 A.g (by rw [A.P]; exact hC) hj (by rw [A.P]; exact hf) (by simpa using h5) (k1 W X A) h2 (star_form (es := []) rfl (by decide)) h3).congr fun σ => by simp only [ev, evs, A.P] <;> rfl
              | cons b bs => simp [lenE] at hl
            | cons y l =>
              have hst' := hst
              simp only [noStar, Bool.and_eq_true] at hst'
              exact (gE_meth A.g (by rw [A.P]; exact hC) hj (by rw [A.P]; exact hf) h5 (fun σ ds σ' z => by rw [evs_len es σ ds σ' z, hl]) (k1 W X A) (k2 W X A).1 h2 (star_form hst h4) h3 (star_cons hst'.1) (star_any hst'.2)).congr fun σ => by simp only [ev, A.P] <;> rfl
          · cases h
        · cases h
      · cases h
    · cases h
  | .bif b es => fun sc e h => by
    unfold chkE at h
    split at h
    · simp only [Bool.and_eq_true, decide_eq_true_eq] at h
      obtain ⟨rfl, h2, h3⟩ := h
      have k1 := okA es sc _ h3
      obtain ⟨hl, hst⟩ := chkA_len es sc _ h3
      simp only [noStar, Bool.and_eq_true] at hst
      refine both (fun W X A => ?_) (fun _ _ => rfl)
      obtain ⟨g1, g2⟩ := A.free h2
      exact (gE_bif A.g g1 g2 (k1 W X A).2 (star_cons hst.1) (star_any hst.2)).congr fun σ => by simp only [ev]
    · cases h
  | .trng1 l a => fun sc e h => by
    unfold chkE at h
    split at h
    · simp only [Bool.and_eq_true, decide_eq_true_eq] at h
      obtain ⟨h1, h2, rfl, h4, h5, h6⟩ := h
      have k1 := (okE a sc _ h6).1
      refine both (fun W X A => ?_) (fun _ _ => rfl)
      obtain ⟨g1, g2⟩ := A.free h2
      obtain ⟨g3, g4⟩ := A.free h4
      exact (gE_trng1 A.g.calm h1 g1 g2 g3 g4 (k1 W X A) (star_cons h5)).congr fun σ => by simp only [ev]
    · cases h
  | .trng2 l a b => fun sc e h => by
    unfold chkE at h
    split at h
    · simp only [Bool.and_eq_true, decide_eq_true_eq] at h
      obtain ⟨h1, h2, rfl, h4, h5, h6, h7⟩ := h
      have k1 := (okE a sc _ h6).1
      have k2 := (okE b sc _ h7).1
      simp only [noStar, Bool.and_eq_true] at h5
      refine both (fun W X A => ?_) (fun _ _ => rfl)
      obtain ⟨g1, g2⟩ := A.free h2
      obtain ⟨g3, g4⟩ := A.free h4
      exact (gE_trng2 A.g.calm h1 g1 g2 g3 g4 (k1 W X A) (k2 W X A) (star_cons h5.1) (star_cons h5.2.1) (star_any (by simp [noStar, h5.2.1]))).congr fun σ => by simp only [ev]
    · cases h
  | .isi a t => fun sc e h => by
    unfold chkE at h
    split at h
    · simp only [Bool.and_eq_true, decide_eq_true_eq] at h
      obtain ⟨rfl, h2, h3, h4, h5⟩ := h
      have k1 := (okE a sc _ h4).1
      refine both (fun W X A => ?_) (fun _ _ => rfl)
      obtain ⟨g1, g2⟩ := A.free h2
      obtain ⟨t1, t2⟩ := tyB_ok A h5
      exact (gE_isi A.g g1 g2 (k1 W X A) t1 (star_cons h3) (star_cons t2) (star_any (by simp [noStar, t2]))).congr fun σ => by simp only [ev]
    · cases h
  | .isi2 a t u => fun sc e h => by
    unfold chkE at h
    split at h
    · simp only [Bool.and_eq_true, decide_eq_true_eq] at h
      obtain ⟨rfl, h2, h3, h4, h5, h6⟩ := h
      have k1 := (okE a sc _ h4).1
      refine both (fun W X A => ?_) (fun _ _ => rfl)
      obtain ⟨g1, g2⟩ := A.free h2
      obtain ⟨t1, t2⟩ := tyB_ok A h5
      obtain ⟨t3, t4⟩ := tyB_ok A h6
      exact (gE_isi2 A.g g1 g2 (k1 W X A) t1 t3 (star_cons h3) (star_cons rfl) (star_any rfl) (star_cons t2) (star_cons t4)).congr fun σ => by simp only [ev]
    · cases h
  | .lc s t a => fun sc e h => by
    unfold chkE at h
    split at h
    · simp only [Bool.and_eq_true] at h
      obtain ⟨h1, h2, h3, h4⟩ := h
      obtain ⟨k1, k1'⟩ := okI s sc _ _ h1
      have k2 := (okE a _ _ h4).1
      refine both (fun W X A => ?_) (fun _ _ => rfl)
      obtain ⟨b1, b2⟩ := A.blkOk h2
      exact (gE_lcG A.g.calm A.g.nd (k1 W X A) b1 b2 (fun s H C cl fp => tgB_pg A.blk rfl h3) (fun s H C cl fp => gTs_nil) (fun s H C cl fp => k2 _ _ A.blk) (notSet_ok k1')).congr fun σ => by simp only [ev]
    · cases h
  | .lcf s t d a => fun sc e h => by
    unfold chkE at h
    split at h
    · simp only [Bool.and_eq_true] at h
      obtain ⟨h1, h2, h3, h4, h5, h6⟩ := h
      obtain ⟨k1, k1'⟩ := okI s sc _ _ h1
      have k2 := (okE d _ _ h4).2 h5
      have k3 := (okE a _ _ h6).1
      refine both (fun W X A => ?_) (fun _ _ => rfl)
      obtain ⟨b1, b2⟩ := A.blkOk h2
      exact (gE_lcG A.g.calm A.g.nd (k1 W X A) b1 b2 (fun s H C cl fp => tgB_pg A.blk rfl h3) (fun s H C cl fp => pts_one (k2 _ _ A.blk)) (fun s H C cl fp => k3 _ _ A.blk) (notSet_ok k1')).congr fun σ => by simp only [ev]
    · cases h
  | .lc2 s t s' t' a => fun sc e h => by
    unfold chkE at h
    split at h
    · simp only [Bool.and_eq_true] at h
      obtain ⟨h1, h2, h3, h4, h5, h6⟩ := h
      obtain ⟨k1, k1'⟩ := okI s sc _ _ h1
      obtain ⟨k2, k2'⟩ := okI s' _ _ _ h4
      have k3 := (okE a _ _ h6).1
      refine both (fun W X A => ?_) (fun _ _ => rfl)
      obtain ⟨b1, b2⟩ := A.blkOk h2
      exact (gE_lc2 A.g.calm A.g.nd (k1 W X A) b1 b2 (fun s H C cl fp => tgB_pg A.blk rfl h3) (fun s H C cl fp => k2 _ _ A.blk) (fun s H C cl fp => tgB_pg A.blk rfl h5) (fun s H C cl fp => k3 _ _ A.blk) (notSet_ok k1') (fun env x => notSet_ok k2' x)).congr fun σ => by simp only [ev]
    · cases h
theorem okA : ∀ (es : Exs), OkA c G cf lv es
  | .nil => fun sc l h W X A => by
    unfold chkA at h
    split at h
    · constructor
      · have z : (fun σ => evs c.P cf .nil σ) = fun σ => .ok ([], σ) := funext fun σ => by simp only [evs]
        rw [z]; exact gA_nil
      · have z : (fun σ => evp c.P cf .nil σ) = fun σ => .ok ([], σ) := funext fun σ => by simp only [evp]
        rw [z]; exact gP_nil
    · cases h
  | .cons a es => fun sc l h W X A => by
    unfold chkA at h
    split at h
    · simp only [Bool.and_eq_true] at h
      obtain ⟨h1, h2, h3⟩ := h
      have k1 := (okE a sc _ h2).1 W X A
      obtain ⟨k2, k3⟩ := okA es sc _ h3 W X A
      constructor
      · have z : (fun σ => evs c.P cf (.cons a es) σ) = fun σ => bnd (ev c.P cf a σ) fun v σ => bnd (esc v σ) fun d σ => bnd (evs c.P cf es σ) fun ds σ => .ok (d :: ds, σ) := funext fun σ => by simp only [evs]
        rw [z]; exact gA_cons k1 k2 (star_cons h1)
      · have z : (fun σ => evp c.P cf (.cons a es) σ) = fun σ => bnd (ev c.P cf a σ) fun v σ => bnd (evp c.P cf es σ) fun vs σ => .ok (hold v :: vs, σ) := funext fun σ => by simp only [evp]
        rw [z]; exact gP_cons k1 k3 (star_cons h1)
    · cases h
theorem okO : ∀ (o : Exo), OkO c G cf lv o
  | .none => fun sc x h W X A => by
    unfold chkO at h
    split at h
    · have z : (fun σ => evo c.P cf .none σ) = fun σ => .ok (none, σ) := funext fun σ => by simp only [evo]
      rw [z]; exact gO_none
    · cases h
  | .some a => fun sc x h W X A => by
    unfold chkO at h
    split at h
    · have k1 := (okE a sc _ h).1 W X A
      have z : (fun σ => evo c.P cf (.some a) σ) = fun σ => bnd (ev c.P cf a σ) fun v σ => toI v σ := funext fun σ => by simp only [evo]
      rw [z]; exact gO_some k1
    · cases h
theorem okI : ∀ (s : Src), OkI c G cf lv s
  | .seq a => fun sc tg e h => by
    unfold chkI at h
    simp only [Bool.and_eq_true] at h
    refine ⟨fun W X A => ?_, h.1⟩
    have k1 := (okE a sc _ h.2).1 W X A
    have z : (fun σ => src c.P cf (.seq a) σ) = fun σ => bnd (ev c.P cf a σ) fun v σ => bnd (pk (hold v) σ) fun x σ => match items x with
      | some ds => if wOk v σ = true then .ok ((ds, lks v σ), σ) else .stuck
      | none => .stuck := funext fun σ => by simp only [src] <;> rfl
    rw [z]; exact gI_seq A.g.kK k1
  | .rng es => fun sc tg e h => by
    unfold chkI at h
    split at h
    · simp only [Bool.and_eq_true, decide_eq_true_eq] at h
      obtain ⟨rfl, h2, h3, h4⟩ := h
      obtain ⟨hl, hst⟩ := chkA_len es sc _ h4
      refine ⟨fun W X A => ?_, rfl⟩
      obtain ⟨g1, g2⟩ := A.free h2
      have k1 := (okA es sc _ h4 W X A).1
      have z : (fun σ => src c.P cf (.rng es) σ) = fun σ => bnd (evs c.P cf es σ) fun ds σ => match rngA ds with
        | some xs => .ok ((xs, []), σ)
        | none => .stuck := funext fun σ => by simp only [src] <;> rfl
      rw [z]
      exact gI_rng (fun σ ds σ' z => by rw [evs_len es σ ds σ' z, hl]) g1 g2 k1 (fun a l ha => star_cons (noStar_mem.mp hst a ha)) (fun l hl => star_any (noStar_mem.mpr fun e he => noStar_mem.mp hst e (hl e he))) h3
    · cases h
  | .zip es => fun sc tg e h => by
    unfold chkI at h
    split at h
    · simp only [Bool.and_eq_true, decide_eq_true_eq] at h
      obtain ⟨h1, rfl, h2, h4⟩ := h
      obtain ⟨hl, hst⟩ := chkA_len es sc _ h4
      simp only [noStar, Bool.and_eq_true] at hst
      refine ⟨fun W X A => ?_, rfl⟩
      obtain ⟨g1, g2⟩ := A.free h2
      have k1 := (okA es sc _ h4 W X A).2
      have z : (fun σ => src c.P cf (.zip es) σ) = fun σ => bnd (evp c.P cf es σ) fun vs σ => bnd (pks vs σ) fun ds σ => match vs, ds with
        | [va, vb], [x, y] => (match items x, items y with
          | some xs, some ys => if wOk va σ = true ∧ wOk vb σ = true then .ok ((zipD xs ys, lks va σ ++ lks vb σ), σ) else .stuck
          | _, _ => .stuck)
        | _, _ => .stuck := funext fun σ => by simp only [src] <;> rfl
      rw [z]
      cases tg <;> first | exact gI_zip A.g.kK g1 g2 k1 (star_cons hst.1) (star_any (by simp [noStar, hst.2.1])) | cases h1
    · cases h
  | .enum es => fun sc tg e h => by
    unfold chkI at h
    split at h
    · simp only [Bool.and_eq_true, decide_eq_true_eq] at h
      obtain ⟨h1, rfl, h2, h4⟩ := h
      obtain ⟨hl, hst⟩ := chkA_len es sc _ h4
      simp only [noStar, Bool.and_eq_true] at hst
      refine ⟨fun W X A => ?_, rfl⟩
      obtain ⟨g1, g2⟩ := A.free h2
      have k1 := (okA es sc _ h4 W X A).2
      have z : (fun σ => src c.P cf (.enum es) σ) = fun σ => bnd (evp c.P cf es σ) fun vs σ => bnd (pks vs σ) fun ds σ => match vs, ds with
        | [va], [x] => (match items x with
          | some xs => if wOk va σ = true then .ok ((enumD 0 xs, lks va σ), σ) else .stuck
          | _ => .stuck)
        | _, _ => .stuck := funext fun σ => by simp only [src] <;> rfl
      rw [z]
      cases tg <;> first | exact gI_enum A.g.kK g1 g2 k1 (star_cons hst.1) | cases h1
    · cases h
end
end
end PV
set_option Elab.async false
set_option linter.all false
set_option maxRecDepth 100000
set_option maxHeartbeats 4000000
namespace PV
open PySem PySem.Spec PyProof.Rows L2
theorem blockF {env : PySem.Env} (hk : env.scope.kind = .function) : env.blockKind = .function := by
  unfold PySem.Env.blockKind; rw [hk]; rfl
theorem noStar_any {vs : List Expr} (h : noStar vs = true) : (vs.any fun | .Starred .. => true | _ => false) = false := by
  rw [List.any_eq_false]
  intro e he
  have := noStar_mem.mp h e he
  cases e <;> first | (simp; done) | cases this
theorem swN {ts vs : List Expr} {p1 p2 : Pos} {k1 k2 : Nat} {env : PySem.Env} {names : List Str} {line : Nat} (hk : env.scope.kind = .function) (hl : ts.length = 2 ∨ ts.length = 3) (hv : vs.length = ts.length) (hs : noStar vs = true) (hline : (ts.head?.map (·.pos.line)).getD 0 = line)
    (hn : (ts.filterMap fun
      | .Name id pos => if env.kindOf id == some .local && pos.line == line then some id else none
      | _ => none) = names) (hn1 : names.length = ts.length) (hn2 : names.eraseDups.length = names.length) (h1 : (vs.all (foldedForSure 8)) = false) (h2 : (vs.all (constantsAlone 8)) = false) : swappedStores [.Tuple ts k1 p1] (.Tuple vs k2 p2) env = pure (some names) := by
  unfold swappedStores
  dsimp only
  have e3 := noStar_any hs
  refine (if_neg ?_).trans ((if_neg ?_).trans ?_)
  · rw [blockF hk, hv]
    rcases hl with hl | hl <;> rw [hl] <;> decide
  · intro z
    exact Bool.noConfusion (e3.symm.trans z)
  · rw [hline]
    refine (if_neg ?_).trans ((if_neg ?_).trans ((if_neg ?_).trans ?_))
    · intro z
      have z : (names.length != ts.length || names.eraseDups.length != names.length) = true := by rw [← hn]; exact z
      rw [hn1, hn2, hn1] at z
      simp at z
    · rw [h1]; decide
    · rw [h2]; decide
    · rw [← hn]; rfl
def swT (sc : Scope) (line : Nat) (ts : List Expr) : List Str := ts.filterMap fun
      | .Name id pos => if decide (sc.names.lookup id = some .local) && pos.line == line then some id else none
      | _ => none
theorem swT_eq {env : PySem.Env} {sc : Scope} (h : env.scope = sc) {line : Nat} {ts : List Expr} : (ts.filterMap fun
      | .Name id pos => if env.kindOf id == some .local && pos.line == line then some id else none
      | _ => none) = swT sc line ts := by
  subst h
  unfold swT PySem.Env.kindOf
  congr 1
  funext e
  cases e <;> try rfl
  rename_i id pos
  have : (env.scope.names.lookup id == some NameKind.local) = decide (env.scope.names.lookup id = some .local) := by
    by_cases z : env.scope.names.lookup id = some .local
    · simp [z]
    · simp [z]
  simp only [this]

/-! ## statements are checked -/
def isLC : Ex → Bool
  | .lc .. => true
  | .lcf .. => true
  | .lc2 .. => true
  | _ => false
/-- name = [..] swaps -/
def swB (sc : Scope) (t : Str) (l : Nat) : Expr → Bool
  | .ListComp _ _ s pos => kindB sc t .local && (l == pos.line) && !(s.names.any fun (n, k) => n == t && (k == .local || k == .cell))
  | _ => false
def isComp : Expr → Bool
  | .ListComp .. => true
  | .SetComp .. => true
  | .DictComp .. => true
  | _ => false
theorem sw_not {e : Expr} {t : Option Expr} {l : Nat} {env : PySem.Env} (h : isComp e = false) : swapsWith e t l env = pure false := by
  cases e <;> first | rfl | cases h
theorem swB_eq {sc : Scope} {t : Str} {py : Pos} {e : Expr} {l : Nat} {env : PySem.Env} (hk : env.scope.kind = .function) (hs : env.scope = sc) (hc : isComp e = true → ∃ a b c d, e = .ListComp a b c d) : swapsWith e (some (.Name t py)) l env = pure (swB sc t py.line e) := by
  by_cases h : isComp e = true
  · obtain ⟨a, b, s, p, rfl⟩ := hc h
    have hb := blockF hk
    subst hs
    unfold swapsWith swB kindB
    simp only [hb, Expr.pos]
    have : (env.kindOf t == some NameKind.local) = decide (env.scope.names.lookup t = some .local) := by
      unfold PySem.Env.kindOf
      by_cases z : env.scope.names.lookup t = some .local
      · simp [z]
      · simp [z]
    rw [this]
    rfl
  · have h : isComp e = false := by simpa using h
    rw [sw_not h]
    cases e <;> first | rfl | cases h
theorem sw_sub {e o i : Expr} {p : Pos} {l : Nat} {env : PySem.Env} : swapsWith e (some (.Subscript o i p)) l env = pure false := by cases e <;> rfl
theorem sw_attr {e o : Expr} {f : Str} {p : Pos} {l : Nat} {env : PySem.Env} : swapsWith e (some (.Attribute o f p)) l env = pure false := by cases e <;> rfl
theorem sw_tup {e : Expr} {es : List Expr} {k : Nat} {p : Pos} {l : Nat} {env : PySem.Env} : swapsWith e (some (.Tuple es k p)) l env = pure false := by cases e <;> rfl
theorem sws_sub {e o i : Expr} {p : Pos} {env : PySem.Env} : swappedStores [.Subscript o i p] e env = pure none := by cases e <;> rfl
def notTup : Expr → Bool
  | .Tuple .. => false
  | _ => true
theorem sws_not {e : Expr} {es : List Expr} {k : Nat} {p : Pos} {env : PySem.Env} (h : notTup e = true) : swappedStores [.Tuple es k p] e env = pure none := by cases e <;> first | rfl | cases h
/-- no names are swapped -/
def swNoB (sc : Scope) (ts : List Expr) : Expr → Bool
  | .Tuple vs _ _ => !(ts.length == 2 || ts.length == 3) || (noStar vs && (swT sc ((ts.head?.map (·.pos.line)).getD 0) ts).length != ts.length)
  | _ => true
theorem swNo {ts : List Expr} {e : Expr} {k : Nat} {p : Pos} {env : PySem.Env} {sc : Scope} (hk : env.scope.kind = .function) (hs : env.scope = sc) (h : swNoB sc ts e = true) : swappedStores [.Tuple ts k p] e env = pure none := by
  by_cases hn : notTup e = true
  · exact sws_not hn
  · cases e <;> first | exact absurd rfl hn | skip
    rename_i vs k2 p2
    unfold swNoB at h
    simp only [Bool.or_eq_true, Bool.and_eq_true] at h
    unfold swappedStores
    dsimp only
    by_cases h1 : (!(ts.length == 2 || ts.length == 3) || vs.length != ts.length || env.blockKind != .function) = true
    · exact if_pos h1
    · refine (if_neg h1).trans ?_
      rcases h with h | ⟨h2, h3⟩
      · exfalso
        rw [h] at h1
        simp at h1
      · have e3 := noStar_any h2
        refine (if_neg (fun z => Bool.noConfusion (e3.symm.trans z))).trans ?_
        refine if_pos ?_
        have e4 := swT_eq hs (line := (ts.head?.map (·.pos.line)).getD 0) (ts := ts)
        have : ((swT sc ((ts.head?.map (·.pos.line)).getD 0) ts).length != ts.length || (swT sc ((ts.head?.map (·.pos.line)).getD 0) ts).eraseDups.length != (swT sc ((ts.head?.map (·.pos.line)).getD 0) ts).length) = true := by rw [h3]; rfl
        rw [← e4] at this
        exact this
/-- a constant, a tuple of constants -/
def chkK : Ex → Expr → Bool
  | .con d, e => match e with
    | .Constant k _ _ => conB d k
    | _ => false
  | .tup (.cons (.con d) (.cons (.con d') .nil)), e => match e with
    | .Tuple [.Constant k _ _, .Constant k' _ _] _ _ => conB d k && conB d' k'
    | _ => false
  | _, _ => false
mutual
def chkS (c : CC) : Sm → Scope → Stmt → Bool
  | .asg t a, sc, st => match t, st with
    | .v i, .Assign [.Name x px] e _ => nameB c sc (fun _ => true) i x && (chkE c a sc e && (!isComp e || isLC a))
    | .tp is, .Assign [.Tuple es _ _] e _ => namesB c sc (fun _ => true) is es && (chkE c a sc e && swNoB sc es e)
    | _, _ => false
  | .par2 i j a b, sc, st => match st with
    | .Assign [.Tuple [.Name x px, .Name y py] _ _] (.Tuple [e, e'] _ _) _ => decide (i ≠ j) && (decide (c.N[i]? = some x) && (decide (c.N[j]? = some y) && (decide (swT sc px.line [.Name x px, .Name y py] = [x, y]) && (decide ([x, y].eraseDups.length = 2) &&
        (!([e, e'].all (foldedForSure 8)) && (!([e, e'].all (constantsAlone 8)) && (noStar [e, e'] && (kindB sc x .local && (kindB sc y .local && (chkE c a sc e && chkE c b sc e'))))))))))
    | _ => false
  | .par is es, sc, st => match is, st with
    | [i, j, l], .Assign [.Tuple [.Name x px, .Name y py, .Name z pz] _ _] (.Tuple [e, e', e''] _ _) _ => decide (i ≠ j ∧ i ≠ l ∧ j ≠ l) && (decide (c.N[i]? = some x) && (decide (c.N[j]? = some y) && (decide (c.N[l]? = some z) && (decide (swT sc px.line [.Name x px, .Name y py, .Name z pz] = [x, y, z]) && (decide ([x, y, z].eraseDups.length = 3) &&
        (!([e, e', e''].all (foldedForSure 8)) && (!([e, e', e''].all (constantsAlone 8)) && (kindB sc x .local && (kindB sc y .local && (kindB sc z .local && chkA c es sc [e, e', e''])))))))))) 
    | _, _ => false
  | .setix i ix a, sc, st => match st with
    | .Assign [.Subscript (.Name y _) x _] e _ => slotB c sc i y && (plainIxB x && (chkE c ix sc x && chkE c a sc e))
    | _ => false
  | .setix2 .., _, _ => false
  | .setfld f a, sc, st => match st with
    | .Assign [.Attribute (.Name y _) f' _] e _ => decide (f = f') && (slotB c sc 0 y && chkE c a sc e)
    | _ => false
  | .app i a, sc, st => match st with
    | .Expr (.Call (.Attribute (.Name y _) m ap) [e] [] cp) _ => decide (("append" : Str) = m) && (slotB c sc i y && ((ap.endLine == cp.line) && (noStar1 e && chkE c a sc e)))
    | _ => false
  | .ins i k a, sc, st => match st with
    | .Expr (.Call (.Attribute (.Name y _) m ap) [x, e] [] cp) _ => decide (("insert" : Str) = m) && (slotB c sc i y && ((ap.endLine == cp.line) && (noStar [x, e] && (chkE c k sc x && chkE c a sc e))))
    | _ => false
  | .ext i a, sc, st => match st with
    | .Expr (.Call (.Attribute (.Name y _) m ap) [e] [] cp) _ => decide (("extend" : Str) = m) && (slotB c sc i y && ((ap.endLine == cp.line) && (noStar1 e && chkE c a sc e)))
    | _ => false
  | .rem .., _, _ => false
  | .ex a, sc, st => match st with
    | .Expr e _ => !isComp e && chkE c a sc e
    | _ => false
  | .ifs t a b, sc, st => match st with
    | .If x p q _ => chkE c t sc x && (tEx t && (chkSs c a sc p && chkSs c b sc q))
    | _ => false
  | .whl t b, sc, st => match st with
    | .While x p [] _ => chkE c t sc x && (tEx t && chkSs c b sc p)
    | _ => false
  | .for t s b, sc, st => match st with
    | .For tg x p [] _ => chkI c s sc tg x && (tgB c sc (fun _ => true) t tg && chkSs c b sc p)
    | _ => false
  | .ret a, sc, st => match st with
    | .Return (some e) _ => chkE c a sc e
    | _ => false
  | .retN, _, st => match st with
    | .Return none _ => true
    | _ => false
  | .raise k, sc, st => match st with
    | .Raise (some (.Call (.Name x _) [.Constant (.str _) _ _] [] _)) none _ => (match c.P.exs[k]? with
      | some E => decide (E.name = x) && (decide (E.fld = none) && glB sc x)
      | none => false)
    | _ => false
  | .raise1 .., _, _ => false
  | .tryS b hs, sc, st => match st with
    | .Try p (h :: hds) [] [] _ => chkSs c b sc p && chkH c hs sc (h :: hds)
    | _ => false
  | .pass, _, st => match st with
    | .Pass _ => true
    | .Expr (.Constant (.str _) _ _) _ => true
    | _ => false
def chkSs (c : CC) : Sms → Scope → List Stmt → Bool
  | .nil, _, l => match l with
    | [] => true
    | _ => false
  | .cons s r, sc, l => match l with
    | st :: l => chkS c s sc st && chkSs c r sc l
    | _ => false
def chkH (c : CC) : Hds → Scope → List ExceptHandler → Bool
  | .nil, _, l => match l with
    | [] => true
    | _ => false
  | .con k b r, sc, l => match l with
    | .ExceptHandler (some (.Name x _)) none [.Return (some e) _] _ :: l => (match c.P.exs[k]? with
      | some E => (match b with
        | .cons (.ret a) .nil => decide (E.name = x) && (glB sc x && (chkK a e && chkH c r sc l))
        | _ => false)
      | none => false)
    | _ => false
  | .fld k i s r, sc, l => match l with
    | .ExceptHandler (some (.Name x _)) (some n) [.Return (some (.Tuple [.Constant (.str s') _ _, .Attribute (.Name n' _) f _] _ _)) _] _ :: l => (match c.P.exs[k]? with
      | some E => decide (E.name = x) && (decide (n = n' ∧ s = s' ∧ E.fld = some f) && (glB sc x && (slotB c sc i n && (kindB sc n .local && chkH c r sc l))))
      | none => false)
    | _ => false
end
end PV
set_option Elab.async false
set_option linter.all false
set_option maxRecDepth 100000
set_option maxHeartbeats 4000000
namespace PV
open PySem PySem.Spec PyProof.Rows L2
structure AtS (c : CC) (G : Gb) (W : XK) (cf : CF) (lv : Nat) (sc : Scope) (X : Cx) : Prop extends At c G W cf lv sc X where
  po : PassesOwn (model X.prog X.w) X.A X.env X.xe
  stk : X.stack = X.env :: X.outer
  frm : X.env.frame = some X.env.locals
  fn : X.fn = fun _ => true
  kf : X.env.scope.kind = .function
end PV
namespace L2
open PySem PySem.Spec PyProof.Rows PV
theorem PS.congr {G : Gb} {W : XK} {X : Cx} {st : Stmt} {m m' : En → PV.R (Fl × En)} (h : PS X st (tS G W m)) (k : ∀ σ, m' σ = m σ) : PS X st (tS G W m') := by
  have z : m' = m := funext k
  rw [z]; exact h
theorem PSs.congr {G : Gb} {W : XK} {X : Cx} {st : List Stmt} {m m' : En → PV.R (Fl × En)} (h : PSs X st (tS G W m)) (k : ∀ σ, m' σ = m σ) : PSs X st (tS G W m') := by
  have z : m' = m := funext k
  rw [z]; exact h
end L2
namespace PV
open PySem PySem.Spec PyProof.Rows L2
section
variable {G : Gb} {W : XK} {X : Cx} {D : Ends}
theorem gS_par3 {i j l : Nat} {x y z : Str} {a b d : Expr} {ms : En → R (List PV.D × En)} {px py pz pt pos : Pos} {kt k2 pt2} (hc : X.calm = true) (hN : X.N.Nodup) (hi : X.N[i]? = some x) (hj : X.N[j]? = some y) (hl : X.N[l]? = some z) (hij : i ≠ j) (hil : i ≠ l) (hjl : j ≠ l)
    (hx : X.env.scope.names.lookup x = some .local) (hy : X.env.scope.names.lookup y = some .local) (hz : X.env.scope.names.lookup z = some .local) (ha : PA X [a, b, d] (tA G W ms))
    (hw : swappedStores [.Tuple [.Name x px, .Name y py, .Name z pz] kt pt] (.Tuple [a, b, d] k2 pt2) X.env = pure (some [x, y, z])) (hs : swapsWithSole [.Tuple [.Name x px, .Name y py, .Name z pz] kt pt] (.Tuple [a, b, d] k2 pt2) pos.line X.env = pure false) :
    PS X (.Assign [.Tuple [.Name x px, .Name y py, .Name z pz] kt pt] (.Tuple [a, b, d] k2 pt2) pos) (tS G W fun σ => bnd (ms σ) fun ds σ => nxR (setAll [i, j, l] ds σ)) := by
  refine PS.imp (ps_par3 hc hN hi hj hl hij hil hjl hx hy hz ha hw hs) fun D σ H ⟨F, e, S, h⟩ => ?_
  refine ⟨F, e, S, ?_⟩
  cases hm : ms e with
  | ok p =>
    obtain ⟨ds, e1⟩ := p
    simp only [hm, bnd_ok] at h
    intro vs F1 H1 st1 S1 r1
    cases hq : setAll [i, j, l] ds e1 with
    | ok e2 =>
      simp only [hq] at h
      obtain ⟨k1, k2⟩ := namesI (Q := fun σ' H' => D.nx σ' H') S1 r1 hq fun σ' S' st' _ _ => PostS.now h (st' _ st1) S'
      match vs, k2, k1 with
      | [u, v, w], _, k1 =>
        refine ⟨u, v, w, rfl, ?_⟩
        obtain ⟨u', r1', e1', k1⟩ := k1
        cases e1'
        obtain ⟨v', r2', e2', k1⟩ := k1
        cases e2'
        obtain ⟨w', r3', e3', k1⟩ := k1
        cases e3'
        exact k1.2
    | exc x => exact (setAll_noexc _ _ _ x hq).elim
    | stuck => simp only [hq] at h; exact h.elim
  | exc x => simp only [hm] at h; exact h
  | stuck => simp only [hm] at h; exact h
end
section
variable {c : CC} {G : Gb} {cf : CF} {lv w : Nat}
theorem okK {X : Cx} {W : XK} {a : Ex} {e : Expr} (h : chkK a e = true) : PE X e (tE G W fun σ => ev c.P cf a σ) ∧ noStar1 e = true := by
  unfold chkK at h
  split at h
  · split at h
    · obtain ⟨v, h1, h2⟩ := conB_ok (G := G) (X := X) h
      exact ⟨(gE_con h1 h2).congr fun σ => by simp only [ev], rfl⟩
    · cases h
  · split at h
    · simp only [Bool.and_eq_true] at h
      obtain ⟨v, h1, h2⟩ := conB_ok (G := G) (X := X) h.1
      obtain ⟨v', h3, h4⟩ := conB_ok (G := G) (X := X) h.2
      refine ⟨(gE_tup (gA_cons (gE_con h1 h2) (gA_cons (gE_con h3 h4) gA_nil rfl) rfl) (fun σ ds σ' z => ?_)).congr fun σ => by simp only [ev, evs], rfl⟩
      cases z
      show 2 ≤ 16000000
      decide
    · cases h
  · cases h
theorem okLc {ex : Ex} {sc : Scope} {e : Expr} (hl : isLC ex = true) (h : chkE c ex sc e = true) : (∃ a b s p, e = .ListComp a b s p) ∧ ∀ (W : XK) (X : Cx), At c G W cf lv sc X → ∀ {i : Nat} {y : Str} {py spos : Pos}, X.N[i]? = some y → X.env.scope.names.lookup y = some .local → swapsWith e (some (.Name y py)) spos.line X.env = pure true →
    PS X (.Assign [.Name y py] e spos) (tAsg (tE G W fun σ => ev c.P cf ex σ) (gName i)) := by
  cases ex <;> first | cases hl | skip
  · rename_i s t a
    unfold chkE at h
    split at h
    · simp only [Bool.and_eq_true] at h
      obtain ⟨h1, h2, h3, h4⟩ := h
      obtain ⟨k1, k1'⟩ := okI (G := G) (cf := cf) (lv := lv) s sc _ _ h1
      have k2 := (okE (G := G) (cf := cf) (lv := lv) a _ _ h4).1
      refine ⟨⟨_, _, _, _, rfl⟩, fun W X A i y py spos hi hy hsw => ?_⟩
      obtain ⟨b1, b2⟩ := A.blkOk h2
      have z : (fun σ => ev c.P cf (.lc s t a) σ) = lcM (fun σ => src c.P cf s σ) t.slots (lcF t.slots t (fun σ => .ok (true, σ)) fun σ => ev c.P cf a σ) := funext fun σ => by simp only [ev]
      rw [z]
      exact gS_setLc A.g.calm A.g.nd hi hy hsw (k1 W X A) b1 b2 (fun s H C cl fp => tgB_pg A.blk rfl h3) (fun s H C cl fp => gTs_nil) (fun s H C cl fp => k2 _ _ A.blk) (notSet_ok k1')
    · cases h
  · rename_i s t d a
    unfold chkE at h
    split at h
    · simp only [Bool.and_eq_true] at h
      obtain ⟨h1, h2, h3, h4, h5, h6⟩ := h
      obtain ⟨k1, k1'⟩ := okI (G := G) (cf := cf) (lv := lv) s sc _ _ h1
      have k2 := (okE (G := G) (cf := cf) (lv := lv) d _ _ h4).2 h5
      have k3 := (okE (G := G) (cf := cf) (lv := lv) a _ _ h6).1
      refine ⟨⟨_, _, _, _, rfl⟩, fun W X A i y py spos hi hy hsw => ?_⟩
      obtain ⟨b1, b2⟩ := A.blkOk h2
      have z : (fun σ => ev c.P cf (.lcf s t d a) σ) = lcM (fun σ => src c.P cf s σ) t.slots (lcF t.slots t (fun σ => bnd (ev c.P cf d σ) fun v σ => toB v σ) fun σ => ev c.P cf a σ) := funext fun σ => by simp only [ev]
      rw [z]
      exact gS_setLc A.g.calm A.g.nd hi hy hsw (k1 W X A) b1 b2 (fun s H C cl fp => tgB_pg A.blk rfl h3) (fun s H C cl fp => pts_one (k2 _ _ A.blk)) (fun s H C cl fp => k3 _ _ A.blk) (notSet_ok k1')
    · cases h
  · rename_i s t s' t' a
    unfold chkE at h
    split at h
    · simp only [Bool.and_eq_true] at h
      obtain ⟨h1, h2, h3, h4, h5, h6⟩ := h
      obtain ⟨k1, k1'⟩ := okI (G := G) (cf := cf) (lv := lv) s sc _ _ h1
      obtain ⟨k2, k2'⟩ := okI (G := G) (cf := cf) (lv := lv) s' _ _ _ h4
      have k3 := (okE (G := G) (cf := cf) (lv := lv) a _ _ h6).1
      refine ⟨⟨_, _, _, _, rfl⟩, fun W X A i y py spos hi hy hsw => ?_⟩
      obtain ⟨b1, b2⟩ := A.blkOk h2
      have z : (fun σ => ev c.P cf (.lc2 s t s' t' a) σ) = lcM (fun σ => src c.P cf s σ) [t, t'] (lc2F [t, t'] t t' (fun σ => src c.P cf s' σ) fun σ => ev c.P cf a σ) := funext fun σ => by simp only [ev]
      rw [z]
      have p := ps_setLc2 (py := py) (spos := spos) (vs1 := [t']) A.g.calm A.g.nd hi hy hsw (k1 W X A) b1 (by rw [b2]; simp) (fun s H C cl fp => tgB_pg (G := G) (cf := cf) (lv := lv) A.blk rfl h3) (fun _ _ _ _ _ => pts_nil) (fun s H C cl fp => k2 _ _ A.blk) (fun s H C cl fp => tgB_pg (G := G) (cf := cf) (lv := lv) A.blk rfl h5) (fun _ _ _ _ _ => pts_nil) (fun s H C cl fp => k3 _ _ A.blk) (notSet_ok k1') (fun env x => notSet_ok k2' x)
      rw [b2] at p
      exact ⟨fun pins s σ H D I h => p.run pins s σ H D I (lc2I h)⟩
    · cases h
theorem sole_sub {e o i : Expr} {p : Pos} {l : Nat} {env : PySem.Env} : swapsWithSole [.Subscript o i p] e l env = pure false := by cases e <;> rfl
theorem sole_tup {e : Expr} {es : List Expr} {k : Nat} {p : Pos} {l : Nat} {env : PySem.Env} : swapsWithSole [.Tuple es k p] e l env = pure false := by cases e <;> rfl
def OkS (c : CC) (G : Gb) (cf : CF) (lv w : Nat) (s : Sm) : Prop := ∀ (sc : Scope) (st : Stmt), chkS c s sc st = true → ∀ (W : XK) (X : Cx), AtS c G W cf lv sc X → PS X st (tS G W fun σ => exS c.P cf w s σ)
def OkSs (c : CC) (G : Gb) (cf : CF) (lv w : Nat) (s : Sms) : Prop := ∀ (sc : Scope) (l : List Stmt), chkSs c s sc l = true → ∀ (W : XK) (X : Cx), AtS c G W cf lv sc X → PSs X l (tS G W fun σ => exSs c.P cf w s σ)
def OkH (c : CC) (G : Gb) (cf : CF) (lv w : Nat) (s : Hds) : Prop := ∀ (sc : Scope) (l : List ExceptHandler), chkH c s sc l = true → ∀ (W : XK) (X : Cx), AtS c G W cf lv sc X → HdsG G c.P cf w X l s
theorem AtS.kx {c : CC} {sc : Scope} {W : XK} {X : Cx} (A : AtS c G W cf lv sc X) : X.env.scope.kind = .function := A.kf
theorem AtS.lk {c : CC} {sc : Scope} {W : XK} {X : Cx} (A : AtS c G W cf lv sc X) {x : Str} {k : NameKind} (h : kindB sc x k = true) : X.env.scope.names.lookup x = some k := by rw [A.sc]; exact of_decide_eq_true h
mutual
theorem okS : ∀ (s : Sm), OkS c G cf lv w s
  | .asg t a => fun sc st h W X A => by
    unfold chkS at h
    split at h
    · rename_i t i x px e pos
      simp only [Bool.and_eq_true, Bool.or_eq_true, Bool.not_eq_true'] at h
      obtain ⟨h1, h2, h3⟩ := h
      have k1 := (okE (G := G) (cf := cf) (lv := lv) a sc _ h2).1 W X A.toAt
      unfold nameB locB kindB at h1
      simp only [Bool.and_eq_true, Bool.or_eq_true, decide_eq_true_eq] at h1
      have hi : X.N[i]? = some x := by rw [A.N]; exact h1.1
      have hx : Loc X.env.scope x := by rw [A.sc]; exact h1.2.1
      have hsw : swapsWith e (some (.Name x px)) pos.line X.env = pure (swB sc x px.line e) := by
        refine swB_eq A.kx A.sc fun hc => ?_
        rcases h3 with h3 | h3
        · rw [h3] at hc; cases hc
        · exact (okLc (G := G) (cf := cf) (lv := lv) h3 h2).1
      have fin : PS X (.Assign [.Name x px] e pos) (tS G W fun σ => bnd (ev c.P cf a σ) fun v σ => bnd (alias_ v σ) fun v σ => nxR (setv i v σ)) := by
        cases hq : swB sc x px.line e with
        | false => exact gS_set A.g.nd hi hx k1 (by rw [hsw, hq]) (.inl (by rw [A.fn]))
        | true =>
          have hc : isComp e = true := by
            cases e <;> first | rfl | cases hq
          rcases h3 with h3 | h3
          · rw [h3] at hc; cases hc
          · have hy : X.env.scope.names.lookup x = some .local := by
              unfold swB at hq
              split at hq
              · simp only [Bool.and_eq_true] at hq
                exact A.lk hq.1.1
              · cases hq
            exact gS_setLc' ((okLc (G := G) (cf := cf) (lv := lv) h3 h2).2 W X A.toAt hi hy (by rw [hsw, hq]))
      exact fin.congr fun σ => by simp only [exS]
    · rename_i t is es k1 p1 e pos
      simp only [Bool.and_eq_true] at h
      obtain ⟨h1, h2, h3⟩ := h
      have q1 := (okE (G := G) (cf := cf) (lv := lv) a sc _ h2).1 W X A.toAt
      have hg : PG X (.Tuple es k1 p1) (gTg G.K (.tp is)) := tgB_pg (c := c) (cf := cf) (lv := lv) (sc := sc) (W := W) (fn := fun _ => true) A.toAt A.fn (t := .tp is) (e := .Tuple es k1 p1) h1
      exact (gS_setT (pos := pos) q1 hg (sw_tup (e := e) (es := es) (k := k1) (p := p1) (l := pos.line) (env := X.env)) (swNo A.kf A.sc h3) rfl).congr fun σ => by simp only [exS]
    · cases h
  | .par2 i j a b => fun sc st h W X A => by
    unfold chkS at h
    split at h
    · rename_i x px y py k1 p1 e e' k2 p2 pos
      simp only [Bool.and_eq_true, decide_eq_true_eq, Bool.not_eq_true'] at h
      obtain ⟨h1, h2, h3, h4, h5, h6, h7, h8, h9, h10, h11, h12⟩ := h
      have q1 := (okE (G := G) (cf := cf) (lv := lv) a sc _ h11).1 W X A.toAt
      have q2 := (okE (G := G) (cf := cf) (lv := lv) b sc _ h12).1 W X A.toAt
      have hst := h8
      simp only [noStar, Bool.and_eq_true] at hst
      have hw : swappedStores [.Tuple [.Name x px, .Name y py] k1 p1] (.Tuple [e, e'] k2 p2) X.env = pure (some [x, y]) :=
        swN A.kx (.inl rfl) rfl h8 rfl ((swT_eq A.sc).trans h4) rfl h5 h6 h7
      exact (gS_par2 A.g.calm A.g.nd (by rw [A.N]; exact h2) (by rw [A.N]; exact h3) h1 (A.lk h9) (A.lk h10) q1 q2 (star_cons hst.1) (star_cons hst.2.1) hw rfl).congr fun σ => by simp only [exS]
    · cases h
  | .par is es => fun sc st h W X A => by
    unfold chkS at h
    split at h
    · rename_i is i j l x px y py z pz k1 p1 e e' e'' k2 p2 pos
      simp only [Bool.and_eq_true, decide_eq_true_eq, Bool.not_eq_true'] at h
      obtain ⟨⟨h1, h1', h1''⟩, h2, h3, h3', h4, h5, h6, h7, h9, h10, h11, h12⟩ := h
      have q1 := (okA (G := G) (cf := cf) (lv := lv) es sc _ h12 W X A.toAt).1
      obtain ⟨hl, hst⟩ := chkA_len es sc _ h12
      have hw : swappedStores [.Tuple [.Name x px, .Name y py, .Name z pz] k1 p1] (.Tuple [e, e', e''] k2 p2) X.env = pure (some [x, y, z]) :=
        swN A.kx (.inr rfl) rfl hst rfl ((swT_eq A.sc).trans h4) rfl h5 h6 h7
      exact (gS_par3 A.g.calm A.g.nd (by rw [A.N]; exact h2) (by rw [A.N]; exact h3) (by rw [A.N]; exact h3') h1 h1' h1'' (A.lk h9) (A.lk h10) (A.lk h11) q1 hw rfl).congr fun σ => by simp only [exS]
    · cases h
  | .setix i ix a => fun sc st h W X A => by
    unfold chkS at h
    split at h
    · rename_i y py x ps e pos
      simp only [Bool.and_eq_true] at h
      obtain ⟨h1, h2, h3, h4⟩ := h
      have q1 := (okE (G := G) (cf := cf) (lv := lv) ix sc _ h3).1 W X A.toAt
      have q2 := (okE (G := G) (cf := cf) (lv := lv) a sc _ h4).1 W X A.toAt
      obtain ⟨v1, v2, v3, v4⟩ := A.toAt.vis h1
      exact (gS_setix v1 v2 v3 v4 q2 q1 (fun v => by cases x <;> first | rfl | cases h2) sole_sub sws_sub rfl).congr fun σ => by simp only [exS]
    · cases h
  | .setix2 .. => fun sc st h W X A => by
    unfold chkS at h
    cases h
  | .setfld f a => fun sc st h W X A => by
    unfold chkS at h
    split at h
    · simp only [Bool.and_eq_true, decide_eq_true_eq] at h
      obtain ⟨rfl, h2, h3⟩ := h
      have q1 := (okE (G := G) (cf := cf) (lv := lv) a sc _ h3).1 W X A.toAt
      obtain ⟨v1, v2, v3, v4⟩ := A.toAt.vis h2
      exact (gS_setfld A.g v1 v2 v3 v4 q1 sw_attr).congr fun σ => by simp only [exS, A.P] <;> rfl
    · cases h
  | .app i a => fun sc st h W X A => by
    unfold chkS at h
    split at h
    · simp only [Bool.and_eq_true, decide_eq_true_eq] at h
      obtain ⟨rfl, h2, h3, h4, h5⟩ := h
      have q1 := (okE (G := G) (cf := cf) (lv := lv) a sc _ h5).1 W X A.toAt
      obtain ⟨v1, v2, v3, v4⟩ := A.toAt.vis h2
      exact (gS_app v1 v2 v3 v4 q1 (star_few (by simp [noStar, h4]) (by simp)) h3 (star_cons h4) rfl).congr fun σ => by simp only [exS]
    · cases h
  | .ins i k a => fun sc st h W X A => by
    unfold chkS at h
    split at h
    · simp only [Bool.and_eq_true, decide_eq_true_eq] at h
      obtain ⟨rfl, h2, h3, h4, h5, h6⟩ := h
      have q1 := (okE (G := G) (cf := cf) (lv := lv) k sc _ h5).1 W X A.toAt
      have q2 := (okE (G := G) (cf := cf) (lv := lv) a sc _ h6).1 W X A.toAt
      obtain ⟨v1, v2, v3, v4⟩ := A.toAt.vis h2
      have hst := h4
      simp only [noStar, Bool.and_eq_true] at hst
      exact (gS_ins v1 v2 v3 v4 q1 q2 (star_few h4 (by simp)) h3 (star_cons hst.1) (star_cons hst.2.1) (star_any (by simp [noStar, hst.2.1])) rfl).congr fun σ => by simp only [exS]
    · cases h
  | .ext i a => fun sc st h W X A => by
    unfold chkS at h
    split at h
    · simp only [Bool.and_eq_true, decide_eq_true_eq] at h
      obtain ⟨rfl, h2, h3, h4, h5⟩ := h
      have q1 := (okE (G := G) (cf := cf) (lv := lv) a sc _ h5).1 W X A.toAt
      obtain ⟨v1, v2, v3, v4⟩ := A.toAt.vis h2
      exact (gS_ext v1 v2 v3 v4 q1 (star_few (by simp [noStar, h4]) (by simp)) h3 (star_cons h4) rfl).congr fun σ => by simp only [exS] <;> rfl
    · cases h
  | .rem .. => fun sc st h W X A => by
    unfold chkS at h
    cases h
  | .ex a => fun sc st h W X A => by
    unfold chkS at h
    split at h
    · simp only [Bool.and_eq_true, Bool.not_eq_true'] at h
      have q1 := (okE (G := G) (cf := cf) (lv := lv) a sc _ h.2).1 W X A.toAt
      exact (gS_expr q1 (sw_not h.1)).congr fun σ => by simp only [exS]
    · cases h
  | .ifs t a b => fun sc st h W X A => by
    unfold chkS at h
    split at h
    · simp only [Bool.and_eq_true] at h
      obtain ⟨h1, h2, h3, h4⟩ := h
      have q1 := (okE (G := G) (cf := cf) (lv := lv) t sc _ h1).2 h2 W X A.toAt
      have q2 := okSs a sc _ h3 W X A
      have q3 := okSs b sc _ h4 W X A
      exact (gS_if q1 q2 q3).congr fun σ => by simp only [exS] <;> rfl
    · cases h
  | .whl t b => fun sc st h W X A => by
    unfold chkS at h
    split at h
    · simp only [Bool.and_eq_true] at h
      obtain ⟨h1, h2, h3⟩ := h
      have q1 := (okE (G := G) (cf := cf) (lv := lv) t sc _ h1).2 h2 W X A.toAt
      have q2 := okSs b sc _ h3 W X A
      exact (gS_whl (w := w) A.po q1 q2).congr fun σ => by simp only [exS]
    · cases h
  | .for t s b => fun sc st h W X A => by
    unfold chkS at h
    split at h
    · simp only [Bool.and_eq_true] at h
      obtain ⟨h1, h2, h3⟩ := h
      obtain ⟨q1, q1'⟩ := okI (G := G) (cf := cf) (lv := lv) s sc _ _ h1
      have q2 := okSs b sc _ h3 W X A
      have hg := tgB_pg (cf := cf) (lv := lv) A.toAt A.fn h2
      exact (gS_for A.po A.g.calm (q1 W X A.toAt) hg q2 (notSet_ok q1')).congr fun σ => by simp only [exS]
    · cases h
  | .ret a => fun sc st h W X A => by
    unfold chkS at h
    split at h
    · have q1 := (okE (G := G) (cf := cf) (lv := lv) a sc _ h).1 W X A.toAt
      exact (gS_ret q1).congr fun σ => by simp only [exS] <;> rfl
    · cases h
  | .retN => fun sc st h W X A => by
    unfold chkS at h
    split at h
    · exact gS_retN.congr fun σ => by simp only [exS]
    · cases h
  | .raise k => fun sc st h W X A => by
    unfold chkS at h
    split at h
    · split at h
      · rename_i E hE
        simp only [Bool.and_eq_true, decide_eq_true_eq] at h
        obtain ⟨h1, h2, h3⟩ := h
        obtain ⟨g1, g2⟩ := A.toAt.gl h3
        exact (gS_raise A.g (by rw [A.P]; exact hE) h1 h2 g1 g2).congr fun σ => by simp only [exS]
      · cases h
    · cases h
  | .raise1 .. => fun sc st h W X A => by
    unfold chkS at h
    cases h
  | .tryS b hs => fun sc st h W X A => by
    unfold chkS at h
    split at h
    · simp only [Bool.and_eq_true] at h
      have q2 := okH hs sc _ h.2 W X A
      refine (gS_try A.g A.stk A.frm (fun W' pn xe tk po => okSs b sc _ h.1 W' (X.tr pn xe) ⟨⟨⟨A.g.kK, A.g.calm, A.g.nd, A.g.room, tk, A.g.fa⟩, A.P, A.N, A.sc, A.fre, A.own⟩, po, A.stk, A.frm, A.fn, A.kf⟩) q2).congr fun σ => by simp only [exS] <;> rfl
    · cases h
  | .pass => fun sc st h W X A => by
    unfold chkS at h
    split at h
    · exact gS_pass.congr fun σ => by simp only [exS]
    · exact gS_doc.congr fun σ => by simp only [exS]
    · cases h
theorem okSs : ∀ (s : Sms), OkSs c G cf lv w s
  | .nil => fun sc l h W X A => by
    unfold chkSs at h
    split at h
    · exact gSs_nil.congr fun σ => by simp only [exSs]
    · cases h
  | .cons s r => fun sc l h W X A => by
    unfold chkSs at h
    split at h
    · simp only [Bool.and_eq_true] at h
      exact (gSs_cons (okS s sc _ h.1 W X A) (okSs r sc _ h.2 W X A)).congr fun σ => by simp only [exSs] <;> rfl
    · cases h
theorem okH : ∀ (s : Hds), OkH c G cf lv w s
  | .nil => fun sc l h W X A => by
    unfold chkH at h
    split at h
    · exact .nil
    · cases h
  | .con k b r => fun sc l h W X A => by
    unfold chkH at h
    split at h
    · split at h
      · rename_i E hE
        split at h
        · simp only [Bool.and_eq_true, decide_eq_true_eq] at h
          obtain ⟨h1, h2, h3, h4⟩ := h
          obtain ⟨g1, g2⟩ := A.toAt.gl h2
          refine .con (by rw [A.P]; exact hE) h1 g1 g2 (fun a oe pn => ?_) (okH r sc _ h4 W X A)
          exact (gSs_cons (gS_ret (okK (c := c) (cf := cf) h3).1) gSs_nil).congr fun σ => by simp only [exSs, exS] <;> rfl
        · cases h
      · cases h
    · cases h
  | .fld k i s r => fun sc l h W X A => by
    unfold chkH at h
    split at h
    · split at h
      · rename_i E hE
        simp only [Bool.and_eq_true, decide_eq_true_eq] at h
        obtain ⟨h1, ⟨rfl, rfl, h2⟩, h3, h4, h5, h6⟩ := h
        obtain ⟨g1, g2⟩ := A.toAt.gl h3
        obtain ⟨v1, v2, v3, v4⟩ := A.toAt.vis h4
        exact .fld (by rw [A.P]; exact hE) h1 h2 g1 g2 v1 (A.lk h5) v2 v3 v4 (star_cons rfl) (star_cons rfl) (okH r sc _ h6 W X A)
      · cases h
    · cases h
end
end
end PV
set_option Elab.async false
set_option linter.all false
set_option maxRecDepth 100000
set_option maxHeartbeats 4000000
namespace PV
open PySem PySem.Spec PyProof.Rows L2
/-! ## functions -/
section
variable {G : Gb} {W : XK} {F H : Hp} {D : Ends}
theorem pad_get {cs : List Cell} {m i : Nat} {x : Cell} (h : (cs ++ List.replicate m Cell.un)[i]? = some x) : cs[i]? = some x ∨ x = .un := by
  by_cases hi : i < cs.length
  · rw [List.getElem?_append_left hi] at h; exact .inl h
  · rw [List.getElem?_append_right (by omega)] at h
    rw [List.getElem?_replicate] at h
    split at h
    · cases h; exact .inr rfl
    · cases h
theorem simPad {cs : List Cell} {vs : List V} {m : Nat} (hl : cs.length = vs.length) (sub : Same F H) (h : ∀ (i : Nat) (x : Cell), cs[i]? = some x → ∃ v, vs[i]? = some v ∧ CellOk G F H (some (some v)) x) (ho : ∀ (i : Nat) (x : Cell), cs[i]? = some x → x.own = true → i = 0) :
    Sim G ⟨F, vs.map some ++ List.replicate m none, H, cs ++ List.replicate m .un⟩ where
  len := by simp [hl]
  sub := sub
  cell := fun i x hx => by
    have hx : (cs ++ List.replicate m Cell.un)[i]? = some x := hx
    rcases pad_get hx with hx' | rfl
    · obtain ⟨v, h1, h2⟩ := h i x hx'
      have hi : i < vs.length := (List.getElem?_eq_some_iff.mp h1).1
      show CellOk G F H (vs.map some ++ List.replicate m none)[i]? x
      rw [List.getElem?_append_left (by simpa using hi), List.getElem?_map, h1]
      exact h2
    · trivial
  inj := fun i j x y a hx hy ox oy _ _ => by
    rcases pad_get hx with hx' | rfl
    · rcases pad_get hy with hy' | rfl
      · rw [ho i x hx' ox, ho j y hy' oy]
      · cases oy
    · cases ox
theorem shCells {args : List PV.D} {vs : List V} (r : Reps G F args vs) : ∀ (i : Nat) (x : Cell), (args.map Cell.sh)[i]? = some x → ∃ v, vs[i]? = some v ∧ CellOk G F H (some (some v)) x := fun i x hx => by
  rw [List.getElem?_map, Option.map_eq_some_iff] at hx
  obtain ⟨d, hd, rfl⟩ := hx
  obtain ⟨v, h1, h2⟩ := r.get hd
  exact ⟨v, h1, v, rfl, h2⟩
theorem shCells_own {args : List PV.D} (i : Nat) (x : Cell) (hx : (args.map Cell.sh)[i]? = some x) (ho : x.own = true) : False := by
  rw [List.getElem?_map, Option.map_eq_some_iff] at hx
  obtain ⟨d, _, rfl⟩ := hx
  cases ho
/-- the first cell of a call with a list, or a new instance -/
def faC : FArg → List Cell
  | .no => []
  | .io ds => [.io ds]
  | .bld c => [.bld c []]
theorem st0_eq (fa : FArg) (N : Nat) (args : List PV.D) : st0 fa N args = (faC fa ++ args.map .sh) ++ List.replicate (N - nArgs fa args) .un := by
  cases fa <;> simp [st0, faC, nArgs]
/-- a call's entry -/
theorem simStart {fa : FArg} {vs : List V} {args : List PV.D} {N : List Str} (sub : Same F H) (h : FaPre G fa vs F H args) (hn : nArgs fa args = vs.length) : Sim G ⟨F, start N vs, H, st0 fa N.length args⟩ ∧ (∀ b, Cf.W ⟨F, start N vs, H, st0 fa N.length args⟩ b → faW fa vs b) ∧
    (∀ b, faW fa vs b → F b = none ∧ H b ≠ none) ∧ ∀ (x : Cell), (st0 fa N.length args)[(0 : Nat)]? = some x → x.own = true → ∃ a r, vs = .ref a :: r ∧ (start N vs)[(0 : Nat)]? = some (some (.ref a)) := by
  rw [st0_eq, hn]
  have key : ∀ (i : Nat) (x : Cell), (faC fa ++ args.map .sh)[i]? = some x → (∃ v, vs[i]? = some v ∧ CellOk G F H (some (some v)) x) ∧ (x.own = true → i = 0) := fun i x hx => by
    cases fa with
    | no => exact ⟨shCells h i x (by simpa [faC] using hx), fun ho => (shCells_own i x (by simpa [faC] using hx) ho).elim⟩
    | io ds =>
      obtain ⟨a, r, rfl, h1, h2⟩ := h
      cases i with
      | zero => simp [faC] at hx; subst hx; exact ⟨⟨_, rfl, a, rfl, h1⟩, fun _ => rfl⟩
      | succ i =>
        have hx : (args.map Cell.sh)[i]? = some x := by simpa [faC] using hx
        exact ⟨by simpa using shCells h2 i x hx, fun ho => (shCells_own i x hx ho).elim⟩
    | bld c =>
      obtain ⟨a, r, rfl, h1, h2⟩ := h
      cases i with
      | zero => simp [faC] at hx; subst hx; exact ⟨⟨_, rfl, a, rfl, h1⟩, fun _ => rfl⟩
      | succ i =>
        have hx : (args.map Cell.sh)[i]? = some x := by simpa [faC] using hx
        exact ⟨by simpa using shCells h2 i x hx, fun ho => (shCells_own i x hx ho).elim⟩
  have hl : (faC fa ++ args.map Cell.sh).length = vs.length := by
    rw [← hn]
    cases fa <;> simp [faC, nArgs]
  have S : Sim G ⟨F, start N vs, H, (faC fa ++ args.map .sh) ++ List.replicate (N.length - vs.length) .un⟩ := simPad hl sub (fun i x hx => (key i x hx).1) fun i x hx => (key i x hx).2
  have s0 : ∀ a r, vs = .ref a :: r → (start N vs)[(0 : Nat)]? = some (some (.ref a)) := fun a r e => by subst e; rfl
  have nofa : ∀ x : Cell, fa = .no → ((faC fa ++ args.map .sh) ++ List.replicate (N.length - vs.length) Cell.un)[(0 : Nat)]? = some x → x.own = true → False := fun x e hx ho => by
    subst e
    rcases pad_get hx with hx | rfl
    · exact shCells_own 0 x (by simpa [faC] using hx) ho
    · cases ho
  have ex : ∀ x : Cell, ((faC fa ++ args.map .sh) ++ List.replicate (N.length - vs.length) Cell.un)[(0 : Nat)]? = some x → x.own = true → ∃ a r, vs = .ref a :: r := fun x hx ho => by
    cases fa with
    | no => exact (nofa x rfl hx ho).elim
    | io ds => obtain ⟨a, r, e, _⟩ := h; exact ⟨a, r, e⟩
    | bld c => obtain ⟨a, r, e, _⟩ := h; exact ⟨a, r, e⟩
  refine ⟨S, fun b hb => ?_, fun b hb => ?_, fun x hx ho => ?_⟩
  · obtain ⟨i, x, h1, h2, h3⟩ := hb
    have h1 : ((faC fa ++ args.map .sh) ++ List.replicate (N.length - vs.length) Cell.un)[i]? = some x := h1
    have hi : i = 0 := by
      rcases pad_get h1 with h1' | rfl
      · exact (key i x h1').2 h2
      · cases h2
    subst hi
    obtain ⟨a, r, e⟩ := ex x h1 h2
    have h3 : (start N vs)[(0 : Nat)]? = some (some (.ref b)) := h3
    rw [s0 a r e] at h3
    cases h3
    cases fa with
    | no => exact (nofa x rfl h1 h2).elim
    | io ds => exact ⟨r, e⟩
    | bld c => exact ⟨r, e⟩
  · cases fa with
    | no => exact hb.elim
    | io ds =>
      obtain ⟨a, r, e, ⟨us, h1, h2, _⟩, _⟩ := h
      obtain ⟨r', e'⟩ := hb
      rw [e] at e'
      cases e'
      exact ⟨h2, by rw [h1]; simp⟩
    | bld c =>
      obtain ⟨a, r, e, ⟨dx, us, h1, _, h2, _⟩, _⟩ := h
      obtain ⟨r', e'⟩ := hb
      rw [e] at e'
      cases e'
      exact ⟨h2, by rw [h1]; simp⟩
  · obtain ⟨a, r, e⟩ := ex x hx ho
    exact ⟨a, r, e, s0 a r e⟩
/-- what a body's end tells of its call -/
theorem fin_inv {fa : FArg} {v : Vr} {e : En} {r : Vr} {xs : List PV.D} (h : fin fa v e = .ok (r, xs)) : r = v ∧ match fa with
    | .no => True
    | .io _ => e[(0 : Nat)]? = some (.io xs)
    | .bld _ => (∃ c, e[(0 : Nat)]? = some (.bld c xs)) ∧ v = .sh .non := by
  unfold fin at h
  cases fa with
  | no => cases h; exact ⟨rfl, trivial⟩
  | io ds =>
    simp only at h
    split at h
    · rename_i ds hx
      cases h
      exact ⟨rfl, hx⟩
    · cases h
  | bld c =>
    simp only at h
    cases hx : e[(0 : Nat)]? with
    | none => rw [hx] at h; cases h
    | some y =>
      rw [hx] at h
      cases y with
      | bld c' ds =>
        cases v with
        | ow ds => cases h
        | sh d =>
          cases d <;> first | (cases h; exact ⟨rfl, ⟨c', rfl⟩, rfl⟩) | cases h
      | _ => cases h
theorem fin_noexc {fa : FArg} {v : Vr} {e : En} : ∀ x, fin fa v e ≠ .exc x := fun x h => by
  unfold fin at h
  cases fa with
  | no => cases h
  | io ds =>
    simp only at h
    split at h <;> cases h
  | bld c =>
    simp only at h
    split at h <;> cases h
theorem st0_bld {c c' : Nat} {N : Nat} {args : List PV.D} {y : Cell} (h : (st0 (.bld c) N args)[(0 : Nat)]? = some y) : y = .bld c [] := by
  simp [st0] at h
  exact h.symm
theorem PostF.toS {f : FnI} {P : Prg} {cf : CF} {w : Nat} {fa : FArg} {vs : List V} {args : List PV.D} {Q : VK} {E : XK} (sub : Same F H) (h : FaPre G fa vs F H args) (hn : nArgs fa args = f.ps.length) (hv : vs.length = f.ps.length) (hp : PostF G fa vs F H Q E (runF P cf w f fa args)) :
    tS G E (fun σ => exSs P cf w f.body σ) { nx := fun _ H' => Q .non H', rt := Q } (start f.N vs) H := by
  obtain ⟨S, k1, k2, k3⟩ := simStart (N := f.N) sub h (hn.trans hv.symm)
  refine ⟨F, st0 fa f.N.length args, S, ?_⟩
  unfold runF at hp
  rw [if_pos hn] at hp
  have fr : ∀ {H' : Hp}, (∀ b o, H b = some o → ¬ Cf.W ⟨F, start f.N vs, H, st0 fa f.N.length args⟩ b → H' b = some o) → ∀ b o, H b = some o → ¬ faW fa vs b → H' b = some o := fun q b o hb hw => q b o hb fun z => hw (k1 b z)
  -- how the first cell ends
  have last : ∀ {e' : En} {F' H' : Hp} {v : Vr} {r : Vr} {xs : List PV.D}, (∀ (i : Nat) (x : Cell) (t : Option Nat), e'[i]? = some x → x.tag = some t → (∃ y : Cell, (st0 fa f.N.length args)[i]? = some y ∧ y.tag = some t) ∧ CellOk G F' H' (start f.N vs)[i]? x) → fin fa v e' = .ok (r, xs) →
      FaPost G fa vs F' H' xs ∧ (∀ b, faW fa vs b → F' b = none ∧ H' b ≠ none ∧ ∃ x : Cell, e'[(0 : Nat)]? = some x ∧ x.tag ≠ none ∧ (start f.N vs)[(0 : Nat)]? = some (some (.ref b))) := fun {e' F' H' v r xs} tg hf => by
    obtain ⟨rfl, hf⟩ := fin_inv hf
    cases fa with
    | no => exact ⟨trivial, fun b hb => hb.elim⟩
    | io ds =>
      simp only at hf
      obtain ⟨⟨y, y1, y2⟩, a, z1, us, z2, z3, z4⟩ := tg 0 _ none hf rfl
      obtain ⟨a', r', e1, e2⟩ := k3 y y1 (tag_own y2)
      rw [e2] at z1
      cases z1
      refine ⟨⟨a, r', e1, us, z2, z3, z4⟩, fun b hb => ?_⟩
      obtain ⟨r'', hb⟩ := hb
      rw [e1] at hb
      cases hb
      exact ⟨z3, by rw [z2]; simp, _, hf, by simp [Cell.tag], e2⟩
    | bld c =>
      simp only at hf
      obtain ⟨⟨c', hf⟩, _⟩ := hf
      obtain ⟨⟨y, y1, y2⟩, a, z1, dx, us, z2, z5, z3, z4⟩ := tg 0 _ (some c') hf rfl
      obtain ⟨a', r', e1, e2⟩ := k3 y y1 (tag_own y2)
      rw [e2] at z1
      cases z1
      have ey := st0_bld (c' := c) y1
      subst ey
      cases y2
      refine ⟨⟨a, r', e1, dx, us, z2, z5, z3, z4⟩, fun b hb => ?_⟩
      obtain ⟨r'', hb⟩ := hb
      rw [e1] at hb
      cases hb
      exact ⟨z3, by rw [z2]; simp, _, hf, by simp [Cell.tag], e2⟩
  show PostS G E ⟨F, start f.N vs, H, st0 fa f.N.length args⟩ _ (exSs P cf w f.body (st0 fa f.N.length args))
  cases hx : exSs P cf w f.body (st0 fa f.N.length args) with
  | ok p =>
    obtain ⟨fl, e'⟩ := p
    rw [hx] at hp
    cases fl with
    | nx =>
      intro σ' F' H' st S'
      replace hp : PostF G fa vs F H Q E (fin fa (.sh .non) e') := hp
      cases hf : fin fa (.sh .non) e' with
      | ok q =>
        obtain ⟨r, xs⟩ := q
        rw [hf] at hp
        have tg : ∀ (i : Nat) (x : Cell) (t : Option Nat), e'[i]? = some x → x.tag = some t → (∃ y : Cell, (st0 fa f.N.length args)[i]? = some y ∧ y.tag = some t) ∧ CellOk G F' H' (start f.N vs)[i]? x := fun i x t h1 h2 => by
          obtain ⟨y, q1, q2, q3⟩ := st.io i x t h1 h2
          have := S'.cell i x h1
          rw [q3] at this
          exact ⟨⟨y, q1, q2⟩, this⟩
        obtain ⟨l1, l2⟩ := last tg hf
        obtain ⟨er, _⟩ := fin_inv hf
        subst er
        refine hp .non F' H' st.f S'.sub (fr st.frame) (fun b hb hb' => ?_) st.dom l1 (by simp only [VrRel, Rep])
        rcases st.new b hb hb' with z | z
        · exact z
        · exact absurd (l2 b (k1 b z)).1 hb'
      | exc x => exact (fin_noexc x hf).elim
      | stuck => rw [hf] at hp; exact hp.elim
    | rt v =>
      intro u F' H' f1 f2 fr' nw tg vr
      replace hp : PostF G fa vs F H Q E (fin fa v e') := hp
      cases hf : fin fa v e' with
      | ok q =>
        obtain ⟨r, xs⟩ := q
        rw [hf] at hp
        obtain ⟨l1, l2⟩ := last tg hf
        obtain ⟨er, _⟩ := fin_inv hf
        subst er
        refine hp u F' H' f1 f2 (fr fr') (fun b hb hb' => ?_) (fun b hb => ?_) l1 ?_
        · rcases nw b hb hb' with z | z
          · exact z
          · exact absurd (l2 b (k1 b z)).1 hb'
        · by_cases hw : faW fa vs b
          · exact (l2 b hw).2.1
          · cases q : H b with
            | none => exact absurd q hb
            | some o => rw [fr fr' b o q hw]; simp
        · cases r with
          | sh d => exact vr
          | ow ds =>
            obtain ⟨a, h1, h2, h3, h4⟩ := vr
            refine ⟨a, h1, h2, ?_⟩
            rcases h3 with z | z
            · exact z
            · obtain ⟨_, _, x, q1, q2, q3⟩ := l2 a (k1 a z)
              exact absurd q3 (h4 0 x q1 q2)
      | exc x => exact (fin_noexc x hf).elim
      | stuck => rw [hf] at hp; exact hp.elim
  | exc x =>
    rw [hx] at hp
    intro cls d H' fr' xa
    exact hp cls d H' (fr fr') xa
  | stuck => rw [hx] at hp; exact hp.elim
end
/-! ### all functions of a text -/
structure Txt (G : Gb) (frs : List Str) (mg : Str → Option Value) (fd : Nat → FuncData) : Prop where
  fn : ∀ k f, G.P.fns[k]? = some f → ∃ x qual params body scope, FunD G.K x qual params body scope (f.dv.map V.int) [] (G.fn k) (fd k) ∧ FnScope f.N f.ps scope ∧ chkSs ⟨G.P, f.N, frs⟩ f.body scope body = true ∧ Binds G.K (fd k) f.ps [] ∧ (f.dv ≠ [] → ∃ ds, Vals (f.dv.map V.int) ds ∧ Binds G.K (fd k) f.ps ds)
  gl : ∀ k f, G.P.fns[k]? = some f → f.top = true → mg f.name = some (.ref (G.fn k))
  cls : ∀ c C, G.P.cls[c]? = some C → ClsOk G mg c C
  exs : ∀ c E, G.P.exs[c]? = some E → ExcOk G mg c E
  fre : ∀ x, hasB x frs = true → mg x = none
theorem fns_ok {G : Gb} {frs : List Str} {mg : Str → Option Value} {fd : Nat → FuncData} {prog : Program} {wd : World} {base : Heap} {w : Nat} (T : Txt G frs mg fd)
    (own : ∀ (n : Nat) (W : XK) (X : Cx), Gd G W (fnEv G.P w n) (9 * n) X → Owns G W (fnEv G.P w n) X) :
    ∀ (n k : Nat) (f : FnI), G.P.fns[k]? = some f → FnOk prog wd G.K mg base (L2.CX prog wd) (9 * n) (G.fn k) (fd k) f.ps (spD G (fnEv G.P w n) k)
  | 0, k, f, hf => by
    have no : ∀ vs H Q E, spD G (fnEv G.P w 0) k vs H Q E → False := fun vs H Q E ⟨f, _, _, F, fa, args, _, _, hp⟩ => hp
    exact ⟨fun vs H Q E h => (no vs H Q E h).elim, fun A outer s H args us vs Q E _ _ _ _ h => (no vs H Q E h).elim⟩
  | n + 1, k, f, hf => by
    have fa : Facts G (fnEv G.P w n) (9 * n) prog wd mg base := ⟨fun j g hg => by
      obtain ⟨x, qual, params, body, scope, h1, h2, h3, h4, h5⟩ := T.fn j g hg
      exact ⟨fd j, fns_ok T own n j g hg, h1.kp, h4, h5⟩, T.gl, T.cls, T.exs⟩
    obtain ⟨x, qual, params, body, scope, h1, h2, h3, h4, h5⟩ := T.fn k f hf
    have len : ∀ vs H Q E, spD G (fnEv G.P w (n + 1)) k vs H Q E → vs.length = f.ps.length := fun vs H Q E ⟨f', e1, e2, _⟩ => by
      rw [hf] at e1; cases e1; exact e2
    have := FunD.ok (P := prog) (w := wd) (mg := mg) (base := base) (CX := L2.CX prog wd) (k := 9 * n + 8) h1 h2 len fun cdv A outer s H vs Q E hr hsp => by
      obtain ⟨f', e1, e2, F, fa', args, sub, pre, hp⟩ := hsp
      rw [hf] at e1
      cases e1
      have hn : nArgs fa' args = f.ps.length := by
        rw [← e2]
        cases fa' with
        | no => exact (Reps.length pre).symm
        | io ds => obtain ⟨a, r, rfl, _, h⟩ := pre; simp [nArgs, h.length]
        | bld c => obtain ⟨a, r, rfl, _, h⟩ := pre; simp [nArgs, h.length]
      have hp : PostF G fa' vs F H Q E (runF G.P (fnEv G.P w n) w f fa' args) := by
        simp only [fnEv, hf] at hp
        exact hp
      refine ⟨tS G E fun σ => exSs G.P (fnEv G.P w n) w f.body σ, ?_, PostF.toS sub pre hn e2 hp⟩
      refine okSs (c := ⟨G.P, f.N, frs⟩) (lv := 9 * n) f.body scope body h3 E _ ⟨⟨⟨rfl, rfl, h2.nd, hr, takes_of rfl rfl rfl rfl, fa⟩, rfl, rfl, rfl, T.fre, own n⟩, passes_of rfl, rfl, rfl, rfl, h2.kind⟩
    exact this
end PV
set_option Elab.async false
set_option linter.all false
set_option maxRecDepth 100000
set_option maxHeartbeats 4000000
namespace PV
open PySem PySem.Spec PyProof.Rows L2
/-! ## what the run of the text's top must have left -/
abbrev AlX : Type := He.AlD × Bool
def obsX (fa : List He.Fa) (fn : List He.DefD) (x : PySem.W.Frag → Bool) (K : PySem.W.Frag) : AlX := (He.obsD fa fn K, x K)
def SaysX (fa : List He.Fa) (fn : List He.DefD) (x : PySem.W.Frag → Bool) (K : PySem.W.Frag) : Prop := obsX fa fn x K = (He.valD fn, true)
def obsXG (n : Nat) (fa : List He.Fa) (fn : List He.DefD) (x : PySem.W.Frag → Bool) (g : Addr → Option Obj) : AlX := obsX fa fn x (He.frG g (He.asD g n))
def hookX (n : Nat) (fa : List He.Fa) (fn : List He.DefD) (x : PySem.W.Frag → Bool) : PySem.W.Hook where
  α := AlX
  obs := fun s => obsXG n fa fn x s.heap.get?
  val := fun _ => (He.valD fn, true)
  says := fun _ h => ∃ K : PySem.W.Frag, K.In h ∧ SaysX fa fn x K
  of := fun _ _ e => ⟨_, He.frG_in, e⟩
  keeps := fun _ _ _ ⟨K, hK, c⟩ k => ⟨K, PySem.W.Frag.In.keeps hK k, c⟩
theorem obsXG_eq {n : Nat} {fa : List He.Fa} {fn : List He.DefD} {x : PySem.W.Frag → Bool} {g : Addr → Option Obj} {s : Shared} (h : ∀ a, g a = s.heap.get? a) : obsXG n fa fn x g = (hookX n fa fn x).obs s := by
  have e : g = s.heap.get? := funext h
  rw [e] <;> rfl
theorem SaysX.d {fa : List He.Fa} {fn : List He.DefD} {x : PySem.W.Frag → Bool} {K : PySem.W.Frag} (h : SaysX fa fn x K) : He.SaysD fa fn K ∧ x K = true := by
  have h1 : He.obsD fa fn K = He.valD fn := congrArg Prod.fst h
  have h2 : x K = true := congrArg Prod.snd h
  exact ⟨h1, h2⟩
/-! ### the facts that a text needs -/
def faFn (P : Prg) : List He.Fa := (P.fns.filter (·.top)).map fun f => .glo f.name
def faX (P : Prg) : List He.Fa := P.exs.flatMap fun E => [.glo E.name, .keep E.name] ++ P.exs.map fun E' => .exm E'.name E.name (decide (E.name = E'.name))
def faFr (frs : List Str) : List He.Fa := frs.map .free
def faOf (P : Prg) (frs : List Str) : List He.Fa := faFn P ++ (faX P ++ faFr frs)
def xOf (P : Prg) (K : PySem.W.Frag) : Bool := P.exs.all fun E => decide (PySem.W.subIn K (.ref (He.ga K E.name)) (.type "BaseException") = some true) && (decide (PySem.W.typeIn K (.ref (He.ga K E.name)) = some (.type "type")) && (match E.fld with
  | none => PySem.W.excIn K (He.ga K E.name) mroVE "ValueError.__new__"
  | some f => xfB K (He.ga K E.name) && decide (PySem.W.findIn K (.ref (He.ga K E.name)) f = some none)))
def gbOf (P : Prg) (fn : List He.DefD) (K : PySem.W.Frag) : Gb where
  P := P
  K := K
  fn := fun k => match fn[k]? with
    | some d => He.fAd K d.at_
    | none => 0
  cls := fun c => match P.cls[c]? with
    | some C => He.ga K C.name
    | none => 0
  exc := fun c => match P.exs[c]? with
    | some E => He.ga K E.name
    | none => 0
  exf := fun c => match P.exs[c]? with
    | some E => E.fld.getD ""
    | none => ""
def scB (N ps : List Str) (sc : Scope) : Bool := decide (sc.kind = .function) && (!sc.isCoroutine && (!sc.isGenerator && (decide (N.Nodup) && (decide (N.take ps.length = ps) && (ps.all (locB sc) && sc.names.all fun y => !decide (y.2 = .free))))))
theorem scB_ok {N ps : List Str} {sc : Scope} (h : scB N ps sc = true) : FnScope N ps sc := by
  unfold scB at h
  simp only [Bool.and_eq_true, decide_eq_true_eq, Bool.not_eq_true'] at h
  obtain ⟨h1, h2, h3, h4, h5, h6, h7⟩ := h
  refine ⟨h1, h2, h3, h4, h5, fun x hx => ?_, fun y hy => ?_⟩
  · have q := List.all_eq_true.mp h6 x hx
    unfold locB kindB at q
    simp only [Bool.or_eq_true, decide_eq_true_eq] at q
    exact q
  · have q := List.all_eq_true.mp h7 y hy
    simp only [Bool.not_eq_true', decide_eq_false_iff_not] at q
    exact q
/-- a def of the text, and its form in the program -/
structure Row (P : Prg) (frs : List Str) (f : FnI) (d : He.DefD) : Prop where
  top : f.top = true → d.at_ = (f.name, none)
  dfl : d.dfl = f.dv.map He.Dv.int
  kwd : d.kwd = []
  sc : scB f.N f.ps d.scope = true
  chk : chkSs ⟨P, f.N, frs⟩ f.body d.scope d.body = true
  bind : f.dv = [] → ∀ (kV doc pm : Value) (an : Option Addr) (cdv ct : Value) (us : List Value), us.length = f.ps.length → bindArgs (PySem.W.fnOf d.name d.qual d.params d.body d.scope .none kV doc pm an cdv ct) ⟨us, []⟩ = pure (f.ps.zip us)
  bindD : f.dv ≠ [] → ∀ (K : PySem.W.Frag) (fd : FuncData) (g : Addr), FunD K d.name d.qual d.params d.body d.scope (f.dv.map V.int) [] g fd → Binds K fd f.ps [] ∧ ∃ ds, Vals (f.dv.map V.int) ds ∧ Binds K fd f.ps ds
structure Rows (P : Prg) (frs : List Str) (fn : List He.DefD) : Prop where
  len : fn.length = P.fns.length
  row : ∀ (k : Nat) (f : FnI) (d : He.DefD), P.fns[k]? = some f → fn[k]? = some d → Row P frs f d
  exn : (P.exs.map (·.name)).Nodup
theorem txt_of {P : Prg} {frs : List Str} {fn : List He.DefD} {K : PySem.W.Frag} {mg : Str → Option Value} {h : Heap} (R : Rows P frs fn) (hc : P.cls = []) (S : SaysX (faOf P frs) fn (xOf P) K) (X : K.In h) (N : h.Ns mainGlobals mg) :
    ∃ fd, Txt (gbOf P fn K) frs mg fd ∧ ∀ (k : Nat) (d : He.DefD), fn[k]? = some d → FunD K d.name d.qual d.params d.body d.scope (d.dvs K) (d.kws K) ((gbOf P fn K).fn k) (fd k) := by
  obtain ⟨SD, hx⟩ := S.d
  have fact : ∀ f ∈ faOf P frs, f.ok K = true := fun f hf => by
    obtain ⟨i, hi⟩ := List.getElem?_of_mem hf
    exact SD.fact i hi
  have cho : ∀ k : Nat, ∃ fd, ∀ d : He.DefD, fn[k]? = some d → FunD K d.name d.qual d.params d.body d.scope (d.dvs K) (d.kws K) ((gbOf P fn K).fn k) fd := fun k => by
    cases hk : fn[k]? with
    | none => exact ⟨default, fun d z => by cases z⟩
    | some d =>
      obtain ⟨fd, hfd⟩ := SD.def_ k hk
      refine ⟨fd, fun d' z => ?_⟩
      cases z
      have : (gbOf P fn K).fn k = He.fAd K d.at_ := by simp only [gbOf, hk]
      rw [this]
      exact hfd
  obtain ⟨fd, hfd⟩ := Classical.axiomOfChoice cho
  refine ⟨fd, ⟨fun k f hf => ?_, fun k f hf ht => ?_, fun c C hC => ?_, fun c E hE => ?_, fun x hx' => ?_⟩, hfd⟩
  · have hf : P.fns[k]? = some f := hf
    have hkl : k < fn.length := by rw [R.len]; exact (List.getElem?_eq_some_iff.mp hf).1
    have hd : fn[k]? = some fn[k] := List.getElem?_eq_getElem hkl
    have r := R.row k f _ hf hd
    have F := hfd k _ hd
    have e1 : (fn[k]).dvs K = f.dv.map V.int := by
      unfold He.DefD.dvs
      rw [r.dfl, List.map_map]; rfl
    have e2 : (fn[k]).kws K = [] := by
      unfold He.DefD.kws
      rw [r.kwd]; rfl
    rw [e1, e2] at F
    refine ⟨_, _, _, _, _, F, scB_ok r.sc, r.chk, ?_, fun hne => (r.bindD hne K _ _ F).2⟩
    by_cases hne : f.dv = []
    · rw [hne] at F
      exact F.bindsN (r.bind hne)
    · exact (r.bindD hne K _ _ F).1
  · have hf : P.fns[k]? = some f := hf
    have hkl : k < fn.length := by rw [R.len]; exact (List.getElem?_eq_some_iff.mp hf).1
    have hd : fn[k]? = some fn[k] := List.getElem?_eq_getElem hkl
    have r := R.row k f _ hf hd
    have : (gbOf P fn K).fn k = He.ga K f.name := by
      simp only [gbOf, hd]
      rw [r.top ht]; rfl
    rw [this]
    exact He.glo_ok X N (fact _ (List.mem_append_left _ (List.mem_map.mpr ⟨f, List.mem_filter.mpr ⟨List.mem_of_getElem? hf, ht⟩, rfl⟩)))
  · have hC : P.cls[c]? = some C := hC
    rw [hc] at hC
    simp at hC
  · have hE : P.exs[c]? = some E := hE
    have hm : E ∈ P.exs := List.mem_of_getElem? hE
    have ge : (gbOf P fn K).exc c = He.ga K E.name := by simp only [gbOf, hE]
    have inX : ∀ f, f ∈ ([.glo E.name, .keep E.name] ++ P.exs.map fun E' => .exm E'.name E.name (decide (E.name = E'.name)) : List He.Fa) → f.ok K = true := fun f hf => fact f (List.mem_append_right _ (List.mem_append_left _ (List.mem_flatMap.mpr ⟨E, hm, hf⟩)))
    have q := List.all_eq_true.mp hx E hm
    simp only [Bool.and_eq_true, decide_eq_true_eq] at q
    obtain ⟨q1, q2, q3⟩ := q
    refine ⟨by rw [ge]; exact He.glo_ok X N (inX _ (by simp)), by rw [ge]; exact He.keep_ok (inX (.keep E.name) (by simp)), fun c' E' hE' => ?_, by rw [ge]; exact q1, by rw [ge]; exact q2, fun hn => ?_, fun f hf => ?_⟩
    · have hE' : P.exs[c']? = some E' := hE'
      have ge' : (gbOf P fn K).exc c' = He.ga K E'.name := by simp only [gbOf, hE']
      rw [ge, ge']
      have := He.exm_ok (inX (.exm E'.name E.name (decide (E.name = E'.name))) (List.mem_append_right _ (List.mem_map.mpr ⟨E', List.mem_of_getElem? hE', rfl⟩)))
      refine Eq.trans this ?_
      have e : decide (E.name = E'.name) = decide (c = c') := by
        by_cases z : c = c'
        · subst z
          rw [hE] at hE'
          cases hE'
          simp
        · have hi : c < (P.exs.map (·.name)).length := by simpa using (List.getElem?_eq_some_iff.mp hE).1
          have hj : c' < (P.exs.map (·.name)).length := by simpa using (List.getElem?_eq_some_iff.mp hE').1
          have n1 : (P.exs.map (·.name))[c]? = some E.name := by rw [List.getElem?_map, hE]; rfl
          have n2 : (P.exs.map (·.name))[c']? = some E'.name := by rw [List.getElem?_map, hE']; rfl
          have ne : E.name ≠ E'.name := fun ee => z ((List.getElem?_inj hi R.exn).mp (by rw [n1, n2, ee]))
          simp [z, ne]
      rw [e]
    · rw [hn] at q3
      rw [ge]; exact q3
    · rw [hf] at q3
      simp only [Bool.and_eq_true, decide_eq_true_eq] at q3
      refine ⟨by simp only [gbOf, hE, hf]; rfl, by rw [ge]; exact q3.1, by rw [ge]; exact q3.2⟩
  · exact He.free_ok X N (fact _ (List.mem_append_right _ (List.mem_append_right _ (List.mem_map.mpr ⟨x, hasB_mem hx', rfl⟩))))
theorem owns_none {G : Gb} {W : XK} {cf : CF} {X : Cx} (hc : G.P.cls = []) : Owns G W cf X := by
  have no : ∀ {F : Hp} {c : Nat} {i : List D} {x : V}, Rep G F (.obj c i) x → False := fun {F c i x} h => by
    simp only [Rep] at h
    obtain ⟨_, _, _, _, _, ⟨C, hC⟩, _⟩ := h
    rw [hc] at hC
    simp at hC
  have o : ∀ (f : Value → Value → Sem Value) (m : D → D → R Vr), OwnOp G W X f m := fun f m pins s σ H x y v u Q I rx ry ⟨F, c, i, b, _, h, _⟩ => (no h).elim
  exact ⟨o _ _, o _ _, o _ _, fun pins s σ H x v Q I rx ⟨F, c, i, _, h, _⟩ => (no h).elim, o _ _, o _ _, o _ _, o _ _⟩
theorem FnOk.some {P : Program} {w : World} {K : PySem.W.Frag} {mg : Str → Option Value} {base : Heap} {CX : CXT} {k : Nat} {f : Addr} {fd : FuncData} {ps : List Str} {sp : Nat → Sp} (h : ∀ i, FnOk P w K mg base CX k f fd ps (sp i)) : FnOk P w K mg base CX k f fd ps (fun vs H Q E => ∃ i, sp i vs H Q E) :=
  ⟨fun vs H Q E ⟨i, q⟩ => (h i).len vs H Q E q, fun A outer s H args us vs Q E hr he hb hv ⟨i, q⟩ => (h i).run A outer s H args us vs Q E hr he hb hv q⟩
/-- where nothing is let out -/
theorem FnOk.cx0 {P : Program} {w : World} {K : PySem.W.Frag} {mg : Str → Option Value} {base : Heap} {k : Nat} {f : Addr} {fd : FuncData} {ps : List Str} {sp : Sp} (h : FnOk P w K mg base (L2.CX P w) k f fd ps sp) : FnOk P w K mg base L2.CX0 k f fd ps (fun vs H Q _ => sp vs H Q fun _ _ _ => False) :=
  ⟨fun vs H Q E q => h.len vs H Q _ q, fun A outer s H args us vs Q E hr he hb hv q => codeAny_mono (h.run A outer s H args us vs Q _ hr he hb hv q) fun r s' hq => by
    cases r with
    | error e =>
      obtain ⟨_, _, _, _, _, _, _, _, _, _, _, _, z⟩ := hq
      exact z.elim
    | ok fl => cases fl <;> exact hq⟩
theorem ro_reps {F : Hp} {G : Gb} : ∀ ns : List Int, Reps G F (ns.map D.int) (ns.map V.int)
  | [] => Reps.nil
  | n :: ns => .cons (by simp only [Rep]) (ro_reps ns)
/-- the end: the law's word in plain Lean gives the promise that the head asks for -/
theorem hF_of {P : Prg} {frs : List Str} {fn : List He.DefD} {prog : Program} (R : Rows P frs fn) (hc : P.cls = []) {n m lk most : Nat} {f : FnI} {d : He.DefD} (hf : P.fns[lk]? = some f) (hd : fn[lk]? = some d) (hps : f.ps = [("script" : Str)]) (hdv : f.dv = []) (ht : f.top = true) (hn : f.name = ("law" : Str))
    (law : ∀ ns : List Int, ns.length ≤ most → (∀ z ∈ ns, z.natAbs.log2 ≤ 1048576) → ∃ w, fnEv P w n lk .no [.ro (ns.map D.int)] = .ok (.sh (.bl true), [])) (w : World) (mg : Str → Option Value) (fa : Addr) (h : Heap) (hs : (hookX m (faOf P frs) fn (xOf P)).says w h) (hN : h.Ns mainGlobals mg) (hfa : mg "law" = some (.ref fa)) :
    ∃ (K : PySem.W.Frag) (fd : FuncData) (sp : L2.Sp), K.In h ∧ (∀ (s : Shared) (u : Value), BindsTo s fd ⟨[u], []⟩ [("script", u)]) ∧
      (∀ (H : L2.Hp) (a : Addr) (ns : List Int), ns.length ≤ most → (∀ z ∈ ns, z.natAbs.log2 ≤ 1048576) → L2.Only H → L2.SqL K H a (ns.map L2.V.int) → sp [.ref a] H (fun v _ => v = .bl true) fun _ _ _ => False) ∧
      ∀ base : Heap, K.In base → base.Ns mainGlobals mg → L2.FnOk prog w K mg base L2.CX0 (9 * n) fa fd ["script"] sp := by
  obtain ⟨K, hK, hS⟩ := hs
  obtain ⟨fd, T, hfd⟩ := txt_of R hc hS hK hN
  have F := hfd lk d hd
  have r := R.row lk f d hf hd
  have e1 : d.dvs K = [] := by
    unfold He.DefD.dvs
    rw [r.dfl, hdv]; rfl
  have e2 : d.kws K = [] := by
    unfold He.DefD.kws
    rw [r.kwd]; rfl
  rw [e1, e2] at F
  have efa : fa = (gbOf P fn K).fn lk := by
    have q := T.gl lk f hf ht
    rw [hn, hfa] at q
    cases q
    rfl
  refine ⟨K, fd lk, fun vs H Q _ => ∃ i, spD (gbOf P fn K) (fnEv P i n) lk vs H Q fun _ _ _ => False, hK, fun s u => ?_, fun H a ns hl hz ho hsq => ?_, fun base hKb hNb => ?_⟩
  · have b := F.bindsA (ps := f.ps) (r.bind hdv) s [u] (by rw [hps]; rfl)
    rw [hps] at b
    exact b
  · obtain ⟨i, hi⟩ := law ns hl hz
    refine ⟨i, f, hf, by rw [hps]; rfl, H, .no, [.ro (ns.map D.int)], fun _ _ h => h, ?_, ?_⟩
    · refine .cons ?_ .nil
      simp only [Rep]
      exact ⟨a, ns.map V.int, rfl, hsq, ro_reps ns⟩
    · rw [hi]
      intro v F' H' _ _ _ _ _ _ hv
      have hv : Rep (gbOf P fn K) F' (.bl true) v := hv
      simpa only [Rep] using hv
  · rw [← hps, efa]
    exact FnOk.cx0 (sp := fun vs H Q E => ∃ i, spD (gbOf P fn K) (fnEv P i n) lk vs H Q E) <| FnOk.some fun i => fns_ok (G := gbOf P fn K) (w := i) T (fun n W X g => owns_none hc) n lk f hf
theorem log2_bits {z : Int} {m : Nat} (h : Builtin.Int.intBits z ≤ m) : z.natAbs.log2 ≤ m := by
  unfold Builtin.Int.intBits at h
  split at h
  · rename_i e
    have : z.natAbs = 0 := by first | exact e | omega | (simp_all)
    rw [this]; exact Nat.zero_le _
  · omega
theorem walk_ofEB {l : PySem.W.OpenLaw} {n k : Nat} {q : Program} {loose : List Str} {XP : (Str → Option Value) → Heap → Prop} {YP : World → Heap → Prop} {d : DefRec} {CX : L2.CXT} {x : Str}
    (hn : l.most = some n) (hn2 : n ≤ sizeLine) (hdf : d.params.defaults = []) (hr : Room k callerA)
    (F : ∀ (w : World) (mg : Str → Option Value) (fa : Addr) (h : Heap), YP w h → h.Ns mainGlobals mg → mg d.name = some (.ref fa) →
      ∃ (K : PySem.W.Frag) (fd : FuncData) (sp : L2.Sp), K.In h ∧ (∀ (s : Shared) (u : Value), BindsTo s fd ⟨[u], []⟩ [(x, u)]) ∧
        (∀ (H : L2.Hp) (a : Addr) (ns : List Int), ns.length ≤ n → (∀ z ∈ ns, z.natAbs.log2 ≤ 1048576) → L2.Only H → L2.SqL K H a (ns.map L2.V.int) → sp [.ref a] H (fun v _ => v = .bl true) fun _ _ _ => False) ∧
        ∀ base : Heap, K.In base → base.Ns mainGlobals mg → L2.FnOk l.prog w K mg base CX k fa fd [x] sp)
    (hCX : ∀ (H : L2.Hp) (s : Shared) (e : Value) (s' : Shared), CX [] H s (fun _ _ _ => False) e s' → False) :
    PySem.W.WalkO q loose XP YP l.row.toRowW d [] (fun f vs => PySem.call f vs) := by
  refine Att.attach_callB hn hdf fun w s₀ s₁ mg mb fa o pm cd doc a vs ns G Y ho hd hcd hmg hobj hints hlen hbits hg => ?_
  obtain ⟨K, fd, sp, KX, hb, hsp, hF⟩ := F w mg fa _ Y G.T.g hmg
  exact L2.law_call KX G.T.g G.T.b G.T.builtins G.T.nolimit hg hobj hints (Nat.le_trans hlen hn2) hr hF hb (fun H hO hS => hsp H a ns hlen (fun z hz => log2_bits (hbits z hz)) hO hS) fun H e s' => hCX H s₁ e s'
end PV
set_option Elab.async false
set_option linter.all false
set_option maxRecDepth 100000
set_option maxHeartbeats 4000000
namespace PV
open PySem L2
/-! ## the evaluator as rules of simp, first things first -/
/-- a mark that keeps simp out of what comes after: its kind hangs on it -/
inductive Mk {γ : Type} (f : γ) where
  | a | b
def bndS {α β : Type} (m : R (α × En)) (f : α → En → R (β × En)) (_ : Mk f) : R (β × En) := bnd m f
def RbindS {α β : Type} (m : R α) (f : α → R β) (_ : Mk f) : R β := m.bind f
@[simp ↓] theorem bnd_S {α β : Type} (m : R (α × En)) (f : α → En → R (β × En)) : bnd m f = bndS m f .a := id rfl
@[simp ↓] theorem Rbind_S {α β : Type} (m : R α) (f : α → R β) : R.bind m f = RbindS m f .a := id rfl
@[simp high] theorem bnd_okH {α β : Type} (a : α) (σ : En) (f : α → En → R (β × En)) (t : Mk f) : bndS (.ok (a, σ)) f t = f a σ := id rfl
@[simp high] theorem bnd_excH {α β : Type} (x : Exn) (f : α → En → R (β × En)) (t : Mk f) : bndS (.exc x) f t = .exc x := id rfl
@[simp high] theorem bnd_stuckH {α β : Type} (f : α → En → R (β × En)) (t : Mk f) : bndS .stuck f t = .stuck := id rfl
@[simp high] theorem Rbind_okH {α β : Type} (a : α) (f : α → R β) (t : Mk f) : RbindS (R.ok a) f t = f a := id rfl
@[simp high] theorem Rbind_excH {α β : Type} (x : Exn) (f : α → R β) (t : Mk f) : RbindS (R.exc x) f t = .exc x := id rfl
@[simp] theorem Rmap_ok {α β : Type} (f : α → β) (a : α) : R.map f (.ok a) = .ok (f a) := id rfl
@[simp] theorem Rmap_exc {α β : Type} (f : α → β) (x : Exn) : R.map f (.exc x) = .exc x := id rfl
@[simp] theorem Rmap_stuck {α β : Type} (f : α → β) : R.map f (.stuck : R α) = .stuck := id rfl
@[simp] theorem lift_ok {α : Type} (a : α) (σ : En) : lift (.ok a) σ = .ok (a, σ) := id rfl
@[simp] theorem lift_exc {α : Type} (x : Exn) (σ : En) : lift (.exc x : R α) σ = .exc x := id rfl
@[simp] theorem lift_stuck {α : Type} (σ : En) : lift (.stuck : R α) σ = .stuck := id rfl
@[simp] theorem hold_sh (d : D) : hold (.sh d) = .sh d := id rfl
@[simp] theorem hold_ow (d : List D) : hold (.ow d) = .sh (.lst d) := id rfl
@[simp] theorem hold_sl (i : Nat) : hold (.sl i) = .sl i := id rfl
@[simp] theorem pk_sh (d : D) (σ : En) : pk (.sh d) σ = .ok (d, σ) := id rfl
@[simp] theorem pk_ow (d : List D) (σ : En) : pk (.ow d) σ = .ok (.lst d, σ) := id rfl
theorem pk_sl (i : Nat) (σ : En) : pk (.sl i) σ = (match σ[i]? with
    | some (.ow ds) => .ok (.lst ds)
    | some (.lk ds) => .ok (.lst ds)
    | some (.io ds) => .ok (.lst ds)
    | some (.sh d) => .ok d
    | _ => .stuck : R D).map fun d => (d, σ) := id rfl
@[simp] theorem toB_sh (b : Bool) (σ : En) : toB (.sh (.bl b)) σ = .ok (b, σ) := id rfl
@[simp] theorem toI_sh (b : Int) (σ : En) : toI (.sh (.int b)) σ = .ok (some b, σ) := id rfl
@[simp] theorem esc_sh (d : D) (σ : En) : esc (.sh d) σ = .ok (d, σ) := id rfl
@[simp] theorem esc_ow (d : List D) (σ : En) : esc (.ow d) σ = .ok (.lst d, σ) := id rfl
@[simp] theorem alias_sh (d : D) (σ : En) : alias_ (.sh d) σ = .ok (.sh d, σ) := id rfl
@[simp] theorem alias_ow (d : List D) (σ : En) : alias_ (.ow d) σ = .ok (.ow d, σ) := id rfl
@[simp] theorem alias_sl (i : Nat) (σ : En) : alias_ (.sl i) σ = (esc (.sl i) σ).map fun p => (.sh p.1, p.2) := id rfl
@[simp] theorem vr_sh (d : D) : vr (.sh d) = .sh d := id rfl
@[simp] theorem vr_ow (d : List D) : vr (.ow d) = .ow d := id rfl
@[simp] theorem vrD_sh (d : D) : vrD (.sh d) = d := id rfl
@[simp] theorem vrD_ow (d : List D) : vrD (.ow d) = .lst d := id rfl
@[simp] theorem setv_sh (i : Nat) (d : D) (σ : En) : setv i (.sh d) σ = setc i (.sh d) σ := id rfl
@[simp] theorem setv_ow (i : Nat) (d : List D) (σ : En) : setv i (.ow d) σ = setc i (.ow d) σ := id rfl
@[simp] theorem nxR_okS (σ : En) : nxR (.ok σ) = .ok (.nx, σ) := id rfl
@[simp] theorem pks_nil (σ : En) : pks [] σ = .ok ([], σ) := id rfl
@[simp] theorem pks_cons (v : Vl) (vs : List Vl) (σ : En) : pks (v :: vs) σ = bnd (pk v σ) fun d σ => bnd (pks vs σ) fun ds σ => .ok (d :: ds, σ) := id rfl
@[simp] theorem setT_v (i : Nat) (d : D) (σ : En) : setT (.v i) d σ = setc i (.sh d) σ := id rfl
@[simp] theorem setT_tp (is : List Nat) (ds : List D) (σ : En) : setT (.tp is) (.tup ds) σ = setAll is ds σ := id rfl
@[simp] theorem setAll_nil (σ : En) : setAll [] [] σ = .ok σ := id rfl
@[simp] theorem setAll_cons (i : Nat) (is : List Nat) (d : D) (ds : List D) (σ : En) : setAll (i :: is) (d :: ds) σ = (setc i (.sh d) σ).bind (setAll is ds) := id rfl
@[simp] theorem lcL_nil (f : D → List D → En → R (List D × En)) (acc : List D) (σ : En) : lcL f [] acc σ = .ok (acc, σ) := id rfl
@[simp] theorem forL_nil (f : D → En → R (Fl × En)) (σ : En) : forL f [] σ = .ok (.nx, σ) := id rfl
@[simp] theorem getv_eq {i : Nat} {σ : En} : getv i σ = match σ[i]? with
  | some (.sh d) => .ok (.sh d)
  | some (.ow _) => .ok (.sl i)
  | some (.lk _) => .ok (.sl i)
  | some (.io _) => .ok (.sl i)
  | _ => .stuck := id rfl
def asg : Cell → Bool
  | .un => true
  | .sh _ => true
  | .ow _ => true
  | _ => false
@[simp] theorem asg_un : asg .un = true := id rfl
@[simp] theorem asg_sh {d : D} : asg (.sh d) = true := id rfl
@[simp] theorem asg_ow {d : List D} : asg (.ow d) = true := id rfl
@[simp] theorem setc_ok {i : Nat} {c : Cell} {σ : En} (h : (σ[i]?.map asg) = some true) : setc i c σ = .ok (σ.set i c) := by
  unfold setc
  cases e : σ[i]? with
  | none => rw [e] at h; cases h
  | some x =>
    rw [e] at h
    cases x <;> first | rfl | cases h
@[simp] theorem updL_eq {i : Nat} {f : List D → Option (List D)} {σ : En} : updL i f σ = match σ[i]? with
  | some (.ow ds) => (match f ds with
    | some ds' => .ok (σ.set i (.ow ds'))
    | none => .stuck)
  | some (.io ds) => (match f ds with
    | some ds' => .ok (σ.set i (.io ds'))
    | none => .stuck)
  | _ => .stuck := id rfl
@[simp] theorem isL_eq {i : Nat} {σ : En} : isL i σ = match σ[i]? with
  | some (.ow _) => true
  | some (.io _) => true
  | _ => false := id rfl
@[simp] theorem lock_eq {i : Nat} {σ : En} : lock i σ = match σ[i]? with
  | some (.ow ds) => σ.set i (.lk ds)
  | _ => σ := id rfl
@[simp] theorem unlock_eq {i : Nat} {σ : En} : unlock i σ = match σ[i]? with
  | some (.lk ds) => σ.set i (.ow ds)
  | _ => σ := id rfl
@[simp] theorem noLk_eq {is : List Nat} {σ : En} : noLk is σ = is.all fun i => match σ[i]? with
  | some (.lk _) => false
  | _ => true := id rfl
@[simp] theorem appF_eq {y : D} {ds : List D} : appF y ds = if ds.length < 16000000 then some (ds ++ [y]) else none := id rfl
@[simp] theorem insF_eq {k : Int} {y : D} {ds : List D} : insF k y ds = if ds.length < 16000000 ∧ 0 ≤ k ∧ k ≤ ds.length then some (ds.take k.toNat ++ [y] ++ ds.drop k.toNat) else none := id rfl
@[simp] theorem extF_eq {xs ds : List D} : extF xs ds = if ds.length + xs.length ≤ 16000000 then some (ds ++ xs) else none := id rfl
@[simp] theorem setF_eq {k : Int} {y : D} {ds : List D} : setF k y ds = (ixN ds.length k).map fun j => ds.set j y := id rfl
@[simp] theorem ixOf_eq {x i : D} : ixOf x i = match items x, i with
  | some ds, .int i => match atI ds i with
    | some d => .ok d
    | none => .stuck
  | _, _ => .stuck := id rfl
@[simp] theorem items_lst {ds : List D} : items (.lst ds) = some ds := id rfl
@[simp] theorem items_tup {ds : List D} : items (.tup ds) = some ds := id rfl
@[simp] theorem wOk_sh {d : D} {σ : En} : wOk (.sh d) σ = true := id rfl
@[simp] theorem wOk_ow {d : List D} {σ : En} : wOk (.ow d) σ = true := id rfl
@[simp] theorem wOk_sl {i : Nat} {σ : En} : wOk (.sl i) σ = (match σ[i]? with
    | some (.io _) => false
    | _ => true) := id rfl
@[simp] theorem lks_sh {d : D} {σ : En} : lks (.sh d) σ = [] := id rfl
@[simp] theorem lks_ow {d : List D} {σ : En} : lks (.ow d) σ = [] := id rfl
@[simp] theorem lks_sl {i : Nat} {σ : En} : lks (.sl i) σ = (match σ[i]? with
    | some (.ow _) => [i]
    | _ => []) := id rfl
@[simp] theorem pk_sl_eq {i : Nat} {σ : En} : pk (.sl i) σ = (match σ[i]? with
    | some (.ow ds) => .ok (.lst ds)
    | some (.lk ds) => .ok (.lst ds)
    | some (.io ds) => .ok (.lst ds)
    | some (.sh d) => .ok d
    | _ => .stuck : R D).map fun d => (d, σ) := id rfl
@[simp] theorem esc_sl_eq {i : Nat} {σ : En} : esc (.sl i) σ = (match σ[i]? with
    | some (.ow ds) => .ok (.lst ds, σ.set i (.sh (.lst ds)))
    | some (.lk ds) => .ok (.lst ds, σ.set i (.sh (.lst ds)))
    | some (.sh d) => .ok (d, σ)
    | _ => .stuck) := id rfl
section
variable {P : Prg} {cf : CF}
@[simp] theorem ev_var {i} {σ} : ev P cf (.var i) σ = (getv i σ).map fun v => (v, σ) := by rw [ev] <;> rfl
@[simp] theorem ev_con {d} {σ} : ev P cf (.con d) σ = .ok (.sh d, σ) := by rw [ev] <;> rfl
@[simp] theorem ev_gcon {u0} {i} {σ} : ev P cf (.gcon u0 i) σ = .ok (.sh (.int i), σ) := by rw [ev] <;> rfl
@[simp] theorem ev_gfn {k} {σ} : ev P cf (.gfn k) σ = .ok (.sh (.fn k), σ) := by rw [ev] <;> rfl
@[simp] theorem ev_bin {o} {a} {b} {σ} : ev P cf (.bin o a b) σ = bnd (ev P cf a σ) fun va σ => bnd (ev P cf b σ) fun vb σ => bnd (pk (hold va) σ) fun x σ => bnd (pk (hold vb) σ) fun y σ => lift ((binD P cf o x y).map vr) σ := by rw [ev] <;> rfl
@[simp] theorem ev_neg {a} {σ} : ev P cf (.neg a) σ = bnd (ev P cf a σ) fun va σ => bnd (pk va σ) fun x σ => lift ((negD P cf x).map Vl.sh) σ := by rw [ev] <;> rfl
@[simp] theorem ev_not {a} {σ} : ev P cf (.not a) σ = bnd (ev P cf a σ) fun va σ => bnd (toB va σ) fun b σ => .ok (.sh (.bl (!b)), σ) := by rw [ev] <;> rfl
@[simp] theorem ev_cmp {o} {a} {b} {σ} : ev P cf (.cmp o a b) σ = bnd (ev P cf a σ) fun va σ => bnd (ev P cf b σ) fun vb σ => bnd (pk (hold va) σ) fun x σ => bnd (pk (hold vb) σ) fun y σ => lift ((cmpD P cf o x y).map fun b => Vl.sh (.bl b)) σ := by rw [ev] <;> rfl
@[simp] theorem ev_isN {a} {σ} : ev P cf (.isN a) σ = bnd (ev P cf a σ) fun va σ => bnd (pk va σ) fun x σ => .ok (.sh (.bl (isNon x)), σ) := by rw [ev] <;> rfl
@[simp] theorem ev_notN {a} {σ} : ev P cf (.notN a) σ = bnd (ev P cf a σ) fun va σ => bnd (pk va σ) fun x σ => .ok (.sh (.bl (!isNon x)), σ) := by rw [ev] <;> rfl
@[simp] theorem ev_chain {o} {p} {a} {b} {c} {σ} : ev P cf (.chain o p a b c) σ = bnd (ev P cf a σ) fun va σ => bnd (ev P cf b σ) fun vb σ => bnd (pk (hold va) σ) fun x σ => bnd (pk (hold vb) σ) fun y σ => bnd (lift (cmpD P cf o x y) σ) fun r σ => match r with
    | true => bnd (ev P cf c σ) fun vc σ => bnd (pk (hold vb) σ) fun y σ => bnd (pk (hold vc) σ) fun z σ => lift ((cmpD P cf p y z).map fun b => Vl.sh (.bl b)) σ
    | false => .ok (.sh (.bl false), σ) := by rw [ev] <;> rfl
@[simp] theorem ev_and {a} {b} {σ} : ev P cf (.and a b) σ = bnd (ev P cf a σ) fun va σ => bnd (toB va σ) fun r σ => match r with
    | true => ev P cf b σ
    | false => .ok (.sh (.bl false), σ) := by rw [ev] <;> rfl
@[simp] theorem ev_or {a} {b} {σ} : ev P cf (.or a b) σ = bnd (ev P cf a σ) fun va σ => bnd (toB va σ) fun r σ => match r with
    | true => .ok (.sh (.bl true), σ)
    | false => ev P cf b σ := by rw [ev] <;> rfl
@[simp] theorem ev_ite {c} {a} {b} {σ} : ev P cf (.ite c a b) σ = bnd (ev P cf c σ) fun vc σ => bnd (toB vc σ) fun r σ => match r with
    | true => ev P cf a σ
    | false => ev P cf b σ := by rw [ev] <;> rfl
@[simp] theorem ev_tup {es} {σ} : ev P cf (.tup es) σ = bnd (evs P cf es σ) fun ds σ => .ok (.sh (.tup ds), σ) := by rw [ev] <;> rfl
@[simp] theorem ev_lst {es} {σ} : ev P cf (.lst es) σ = bnd (evs P cf es σ) fun ds σ => .ok (.ow ds, σ) := by rw [ev] <;> rfl
@[simp] theorem ev_ix {a} {i} {σ} : ev P cf (.ix a i) σ = bnd (ev P cf a σ) fun va σ => bnd (ev P cf i σ) fun vi σ => bnd (pk (hold va) σ) fun x σ => bnd (pk (hold vi) σ) fun y σ => lift ((ixOf x y).map Vl.sh) σ := by rw [ev] <;> rfl
@[simp] theorem ev_slc {a} {lo} {hi} {σ} : ev P cf (.slc a lo hi) σ = bnd (ev P cf a σ) fun va σ => bnd (evo P cf lo σ) fun l σ => bnd (evo P cf hi σ) fun h σ => bnd (pk (hold va) σ) fun x σ => lift ((slcD x l h).map vr) σ := by rw [ev] <;> rfl
@[simp] theorem ev_rev {a} {σ} : ev P cf (.rev a) σ = bnd (ev P cf a σ) fun va σ => bnd (pk (hold va) σ) fun x σ => lift ((revD x).map vr) σ := by rw [ev] <;> rfl
@[simp] theorem ev_fld {a} {f} {σ} : ev P cf (.fld a f) σ = bnd (ev P cf a σ) fun va σ => bnd (pk (hold va) σ) fun x σ => match x with
    | .obj c ds => (match ((clsF P c).zip ds).lookup f with
      | some d => .ok (.sh d, σ)
      | none => .stuck)
    | _ => .stuck := by rw [ev] <;> rfl
@[simp] theorem ev_call {k} {es} {σ} : ev P cf (.call k es) σ = bnd (evs P cf es σ) fun ds σ => lift ((cf k .no ds).map fun p => vr p.1) σ := by rw [ev] <;> rfl
@[simp] theorem ev_callio {k} {i} {es} {σ} : ev P cf (.callio k i es) σ = bnd ((getv i σ).map fun v => (v, σ)) fun _ σ => bnd (evs P cf es σ) fun ds σ => match σ[i]? with
    | some (.ow xs) => (match cf k (.io xs) ds with
      | .ok (.sh d, xs') => .ok (.sh d, σ.set i (.ow xs'))
      | .ok (.ow ys, xs') => .ok (.ow ys, σ.set i (.ow xs'))
      | .exc _ => .stuck
      | .stuck => .stuck)
    | some (.io xs) => (match cf k (.io xs) ds with
      | .ok (.sh d, xs') => .ok (.sh d, σ.set i (.io xs'))
      | .ok (.ow ys, xs') => .ok (.ow ys, σ.set i (.io xs'))
      | .exc _ => .stuck
      | .stuck => .stuck)
    | _ => .stuck := by rw [ev] <;> rfl
@[simp] theorem ev_callv {i} {es} {σ} : ev P cf (.callv i es) σ = match σ[i]? with
    | some (.sh (.fn k)) => (match P.fns[k]? with
      | some f => bnd (evs P cf es σ) fun ds σ => if ds.length = f.ps.length then lift ((cf k .no ds).map fun p => vr p.1) σ else .stuck
      | none => .stuck)
    | _ => .stuck := by rw [ev] <;> rfl
@[simp] theorem ev_mk {c} {es} {dv} {σ} : ev P cf (.mk c es dv) σ = bnd (evs P cf es σ) fun ds σ => match P.cls[c]? with
    | some C => lift ((cf C.init (.bld c) (ds ++ dv)).bind fun p => mkD c C.flds.length p) σ
    | none => .stuck := by rw [ev] <;> rfl
@[simp] theorem ev_meth {c} {a} {m} {es} {σ} : ev P cf (.meth c a m es) σ = bnd (ev P cf a σ) fun va σ => bnd (pk (hold va) σ) fun x σ => match x with
    | .obj c' xs => if c' = c then (match clsM P c m with
      | some k => bnd (evs P cf es σ) fun ds σ => lift ((cf k .no (.obj c xs :: ds)).map fun p => vr p.1) σ
      | none => .stuck) else .stuck
    | _ => .stuck := by rw [ev] <;> rfl
@[simp] theorem ev_bif {b} {es} {σ} : ev P cf (.bif b es) σ = bnd (evp P cf es σ) fun vs σ => bnd (pks vs σ) fun ds σ => lift ((bifD b ds).map vr) σ := by rw [ev] <;> rfl
@[simp] theorem ev_trng1 {l} {a} {σ} : ev P cf (.trng1 l a) σ = bnd (ev P cf a σ) fun v σ => bnd (toI v σ) fun n σ => lift ((rgR l 0 (n.getD 0)).map vr) σ := by rw [ev] <;> rfl
@[simp] theorem ev_trng2 {l} {a} {b} {σ} : ev P cf (.trng2 l a b) σ = bnd (ev P cf a σ) fun v σ => bnd (toI v σ) fun n σ => bnd (ev P cf b σ) fun v σ => bnd (toI v σ) fun m σ => lift ((rgR l (n.getD 0) (m.getD 0)).map vr) σ := by rw [ev] <;> rfl
@[simp] theorem ev_isi {a} {t} {σ} : ev P cf (.isi a t) σ = bnd (ev P cf a σ) fun va σ => bnd (pk (hold va) σ) fun x σ => lift ((isiD t x).map fun b => Vl.sh (.bl b)) σ := by rw [ev] <;> rfl
@[simp] theorem ev_isi2 {a} {t} {u} {σ} : ev P cf (.isi2 a t u) σ = bnd (ev P cf a σ) fun va σ => bnd (pk (hold va) σ) fun x σ => lift ((isiD t x).bind fun a => (isiD u x).map fun b => Vl.sh (.bl (a || b))) σ := by rw [ev] <;> rfl
@[simp] theorem evs_nil {σ} : evs P cf .nil σ = .ok ([], σ) := by rw [evs] <;> rfl
@[simp] theorem evs_cons {e} {es} {σ} : evs P cf (.cons e es) σ = bnd (ev P cf e σ) fun v σ => bnd (esc v σ) fun d σ => bnd (evs P cf es σ) fun ds σ => .ok (d :: ds, σ) := by rw [evs] <;> rfl
@[simp] theorem evp_nil {σ} : evp P cf .nil σ = .ok ([], σ) := by rw [evp] <;> rfl
@[simp] theorem evp_cons {e} {es} {σ} : evp P cf (.cons e es) σ = bnd (ev P cf e σ) fun v σ => bnd (evp P cf es σ) fun vs σ => .ok (hold v :: vs, σ) := by rw [evp] <;> rfl
@[simp] theorem evo_none {σ} : evo P cf .none σ = .ok (none, σ) := by rw [evo] <;> rfl
@[simp] theorem evo_some {e} {σ} : evo P cf (.some e) σ = bnd (ev P cf e σ) fun v σ => toI v σ := by rw [evo] <;> rfl
@[simp] theorem src_seq {e} {σ} : src P cf (.seq e) σ = bnd (ev P cf e σ) fun v σ => bnd (pk (hold v) σ) fun x σ => match items x with
    | some ds => if wOk v σ = true then .ok ((ds, lks v σ), σ) else .stuck
    | none => .stuck := by rw [src] <;> rfl
@[simp] theorem src_rng {es} {σ} : src P cf (.rng es) σ = bnd (evs P cf es σ) fun ds σ => match rngA ds with
    | some xs => .ok ((xs, []), σ)
    | none => .stuck := by rw [src] <;> rfl
@[simp] theorem src_zip {es} {σ} : src P cf (.zip es) σ = bnd (evp P cf es σ) fun vs σ => bnd (pks vs σ) fun ds σ => match vs, ds with
    | [va, vb], [x, y] => (match items x, items y with
      | some xs, some ys => if wOk va σ = true ∧ wOk vb σ = true then .ok ((zipD xs ys, lks va σ ++ lks vb σ), σ) else .stuck
      | _, _ => .stuck)
    | _, _ => .stuck := by rw [src] <;> rfl
@[simp] theorem src_enum {es} {σ} : src P cf (.enum es) σ = bnd (evp P cf es σ) fun vs σ => bnd (pks vs σ) fun ds σ => match vs, ds with
    | [va], [x] => (match items x with
      | some xs => if wOk va σ = true then .ok ((enumD 0 xs, lks va σ), σ) else .stuck
      | _ => .stuck)
    | _, _ => .stuck := by rw [src] <;> rfl
def lcE (P : Prg) (cf : CF) (t : Tgt) (e : Ex) : D → List D → En → R (List D × En) := lcF t.slots t (fun σ => .ok (true, σ)) fun σ => ev P cf e σ
def lcC (P : Prg) (cf : CF) (t : Tgt) (c e : Ex) : D → List D → En → R (List D × En) := lcF t.slots t (fun σ => bnd (ev P cf c σ) fun v σ => toB v σ) fun σ => ev P cf e σ
def lc2E (P : Prg) (cf : CF) (t : Nat) (s' : Src) (t' : Nat) (e : Ex) : D → List D → En → R (List D × En) := lc2F [t, t'] t t' (fun σ => src P cf s' σ) fun σ => ev P cf e σ
def lcR (q : R ((List D × List Nat) × En)) (vs : List Nat) (f : D → List D → En → R (List D × En)) : R (Vl × En) := bnd q fun p σ1 => if noLk vs (p.2.foldr lock σ1) = true then
  bnd (unexc (lcL f p.1 [] (p.2.foldr lock σ1))) fun acc σ2 => .ok (.ow acc, p.2.foldr unlock (back (p.2.foldr lock σ1) vs σ2)) else .stuck
@[simp] theorem lcR_ok {p : List D × List Nat} {σ1 : En} {vs : List Nat} {f : D → List D → En → R (List D × En)} : lcR (.ok (p, σ1)) vs f = if noLk vs (p.2.foldr lock σ1) = true then
  bnd (unexc (lcL f p.1 [] (p.2.foldr lock σ1))) fun acc σ2 => .ok (.ow acc, p.2.foldr unlock (back (p.2.foldr lock σ1) vs σ2)) else .stuck := id rfl
@[simp] theorem unexc_ok {α : Type} {a : α} : unexc (.ok a) = .ok a := id rfl
@[simp] theorem ev_lc {s : Src} {t : Tgt} {e : Ex} {σ : En} : ev P cf (.lc s t e) σ = lcR (src P cf s σ) t.slots (lcE P cf t e) := by rw [ev] <;> rfl
@[simp] theorem ev_lcf {s : Src} {t : Tgt} {c e : Ex} {σ : En} : ev P cf (.lcf s t c e) σ = lcR (src P cf s σ) t.slots (lcC P cf t c e) := by rw [ev] <;> rfl
@[simp] theorem ev_lc2 {s : Src} {t : Nat} {s' : Src} {t' : Nat} {e : Ex} {σ : En} : ev P cf (.lc2 s t s' t' e) σ = lcR (src P cf s σ) [t, t'] (lc2E P cf t s' t' e) := by rw [ev] <;> rfl
end
section
variable {P : Prg} {cf : CF} {w : Nat}
@[simp] theorem exS_asg {t} {e} {σ} : exS P cf w (.asg t e) σ = bnd (ev P cf e σ) fun v σ => match t with
    | .v i => bnd (alias_ v σ) fun v σ => nxR (setv i v σ)
    | .tp is => bnd (pk (hold v) σ) fun d σ => nxR (setT (.tp is) d σ) := by rw [exS] <;> rfl
@[simp] theorem exS_par2 {i} {j} {a} {b} {σ} : exS P cf w (.par2 i j a b) σ = bnd (ev P cf a σ) fun va σ => bnd (alias_ va σ) fun va σ => bnd (ev P cf b σ) fun vb σ => bnd (alias_ vb σ) fun vb σ =>
      if i ≠ j then nxR ((setv i va σ).bind (setv j vb)) else .stuck := by rw [exS] <;> rfl
@[simp] theorem exS_par {is} {es} {σ} : exS P cf w (.par is es) σ = bnd (evs P cf es σ) fun ds σ => nxR (setAll is ds σ) := by rw [exS] <;> rfl
@[simp] theorem exS_setix {i} {ix} {e} {σ} : exS P cf w (.setix i ix e) σ = bnd (bnd (ev P cf e σ) fun v σ => esc v σ) fun y σ => if isL i σ = true then bnd (bnd (ev P cf ix σ) fun v σ => toI v σ) fun k σ => nxR (updL i (setF (k.getD 0) y) σ) else .stuck := by rw [exS] <;> rfl
@[simp] theorem exS_setfld {f} {e} {σ} : exS P cf w (.setfld f e) σ = bnd (bnd (ev P cf e σ) fun v σ => esc v σ) fun y σ => match σ[(0 : Nat)]? with
    | some (.bld c fs) => if (clsF P c)[fs.length]? = some f ∧ hasB f ((clsF P c).take fs.length) = false ∧ fs.length < 1000 then .ok (.nx, σ.set 0 (.bld c (fs ++ [y]))) else .stuck
    | _ => .stuck := by rw [exS] <;> rfl
@[simp] theorem exS_app {i} {e} {σ} : exS P cf w (.app i e) σ = if isL i σ = true then bnd (bnd (ev P cf e σ) fun v σ => esc v σ) fun y σ => nxR (updL i (appF y) σ) else .stuck := by rw [exS] <;> rfl
@[simp] theorem exS_ins {i} {k} {e} {σ} : exS P cf w (.ins i k e) σ = if isL i σ = true then bnd (bnd (ev P cf k σ) fun v σ => toI v σ) fun n σ => bnd (bnd (ev P cf e σ) fun v σ => esc v σ) fun y σ => nxR (updL i (insF (n.getD 0) y) σ) else .stuck := by rw [exS] <;> rfl
@[simp] theorem exS_ext {i} {e} {σ} : exS P cf w (.ext i e) σ = if isL i σ = true then bnd (ev P cf e σ) fun v σ => bnd (pk (hold v) σ) fun y σ => match y with
    | .lst xs => nxR (updL i (extF xs) σ)
    | _ => .stuck else .stuck := by rw [exS] <;> rfl
@[simp] theorem exS_ex {e} {σ} : exS P cf w (.ex e) σ = bnd (ev P cf e σ) fun _ σ => .ok (.nx, σ) := by rw [exS] <;> rfl
@[simp] theorem exS_ifs {c} {a} {b} {σ} : exS P cf w (.ifs c a b) σ = bnd (ev P cf c σ) fun v σ => bnd (toB v σ) fun r σ => match r with
    | true => exSs P cf w a σ
    | false => exSs P cf w b σ := by rw [exS] <;> rfl
@[simp] theorem exS_ret {e} {σ} : exS P cf w (.ret e) σ = bnd (ev P cf e σ) fun v σ => match v with
    | .sh d => .ok (.rt (.sh d), σ)
    | .ow ds => .ok (.rt (.ow ds), σ)
    | .sl i => match σ[i]? with
      | some (.ow ds) => .ok (.rt (.ow ds), σ.set i .un)
      | some (.sh d) => .ok (.rt (.sh d), σ)
      | _ => .stuck := by rw [exS] <;> rfl
@[simp] theorem exS_retN {σ} : exS P cf w .retN σ = .ok (.rt (.sh .non), σ) := by rw [exS] <;> rfl
@[simp] theorem exS_raise {c} {u1} : exS P cf w (.raise c) u1 = .exc ⟨c, none⟩ := by rw [exS] <;> rfl
@[simp] theorem exS_raise1 {c} {e} {σ} : exS P cf w (.raise1 c e) σ = bnd (ev P cf e σ) fun v σ => bnd (esc v σ) fun y _ => .exc ⟨c, some y⟩ := by rw [exS] <;> rfl
@[simp] theorem exS_tryS {b} {hs} {σ} : exS P cf w (.tryS b hs) σ = match exSs P cf w b σ with
    | .ok r => .ok r
    | .exc x => exH P cf w hs x σ
    | .stuck => .stuck := by rw [exS] <;> rfl
@[simp] theorem exS_pass {σ} : exS P cf w .pass σ = .ok (.nx, σ) := by rw [exS] <;> rfl
@[simp] theorem exSs_nil {σ} : exSs P cf w .nil σ = .ok (.nx, σ) := by rw [exSs] <;> rfl
@[simp] theorem exSs_cons {s} {r} {σ} : exSs P cf w (.cons s r) σ = bnd (exS P cf w s σ) fun f σ => match f with
    | .nx => exSs P cf w r σ
    | .rt v => .ok (.rt v, σ) := by rw [exSs] <;> rfl
@[simp] theorem exH_nil {x} {u1} : exH P cf w .nil x u1 = .exc x := by rw [exH] <;> rfl
@[simp] theorem exH_con {c} {b} {r} {x} {σ} : exH P cf w (.con c b r) x σ = if c = x.c then (match exSs P cf w b (σ.map fun _ => .un) with
    | .ok (.rt (.sh d), _) => .ok (.rt (.sh d), [])
    | _ => .stuck) else exH P cf w r x σ := by rw [exH] <;> rfl
@[simp] theorem exH_fld {c} {u1} {s} {r} {x} {σ} : exH P cf w (.fld c u1 s r) x σ = if c = x.c then (match x.arg with
    | some a => .ok (.rt (.sh (.tup [.str s, a])), [])
    | none => .stuck) else exH P cf w r x σ := by rw [exH] <;> rfl
def forF (P : Prg) (cf : CF) (w : Nat) (t : Tgt) (b : Sms) : D → En → R (Fl × En) := fun d σ => bnd (lift (setT t d σ) σ) fun σ' _ => exSs P cf w b σ'
def whC (P : Prg) (cf : CF) (c : Ex) : En → R (Bool × En) := fun σ => bnd (ev P cf c σ) fun v σ => toB v σ
def whB (P : Prg) (cf : CF) (w : Nat) (b : Sms) : En → R (Fl × En) := fun σ => exSs P cf w b σ
def forR (q : R ((List D × List Nat) × En)) (f : D → En → R (Fl × En)) : R (Fl × En) := bnd q fun p σ1 => bnd (forL f p.1 (p.2.foldr lock σ1)) fun r σ2 => .ok (r, p.2.foldr unlock σ2)
@[simp] theorem forR_ok {p : List D × List Nat} {σ1 : En} {f : D → En → R (Fl × En)} : forR (.ok (p, σ1)) f = bnd (forL f p.1 (p.2.foldr lock σ1)) fun r σ2 => .ok (r, p.2.foldr unlock σ2) := id rfl
@[simp] theorem exS_for {t : Tgt} {s : Src} {b : Sms} {σ : En} : exS P cf w (.for t s b) σ = forR (src P cf s σ) (forF P cf w t b) := by rw [exS] <;> rfl
@[simp] theorem exS_whl {c : Ex} {b : Sms} {σ : En} : exS P cf w (.whl c b) σ = whlL (whC P cf c) (whB P cf w b) w σ := by rw [exS] <;> rfl
end
end PV
set_option Elab.async false
set_option linter.all false
set_option maxRecDepth 100000
set_option maxHeartbeats 4000000
namespace PV
open PySem L2
theorem fnEv_succ {P : Prg} {w n k : Nat} {fa : FArg} {args : List D} {f : FnI} (h : P.fns[k]? = some f) : fnEv P w (n + 1) k fa args = runF P (fnEv P w n) w f fa args := by
  simp only [fnEv, h]
/-- a call of a function without a list of its caller's -/
theorem fn_no {P : Prg} {w n k : Nat} {args : List D} {f : FnI} {v : Vr} {σ' : En} (h : P.fns[k]? = some f) (ha : args.length = f.ps.length) (hb : exSs P (fnEv P w n) w f.body (args.map .sh ++ List.replicate (f.N.length - args.length) .un) = .ok (.rt v, σ')) : fnEv P w (n + 1) k .no args = .ok (v, []) := by
  rw [fnEv_succ h]
  unfold runF
  rw [if_pos (show nArgs .no args = _ from ha)]
  show (match exSs P (fnEv P w n) w f.body (args.map .sh ++ List.replicate (f.N.length - args.length) .un) with
    | .ok (.nx, σ) => fin .no (.sh .non) σ
    | .ok (.rt v, σ) => fin .no v σ
    | .exc x => .exc x
    | .stuck => .stuck) = _
  rw [hb]
  rfl
/-- .. that raises -/
theorem fn_no_exc {P : Prg} {w n k : Nat} {args : List D} {f : FnI} {x : Exn} (h : P.fns[k]? = some f) (ha : args.length = f.ps.length) (hb : exSs P (fnEv P w n) w f.body (args.map .sh ++ List.replicate (f.N.length - args.length) .un) = .exc x) : fnEv P w (n + 1) k .no args = .exc x := by
  rw [fnEv_succ h]
  unfold runF
  rw [if_pos (show nArgs .no args = _ from ha)]
  show (match exSs P (fnEv P w n) w f.body (args.map .sh ++ List.replicate (f.N.length - args.length) .un) with
    | .ok (.nx, σ) => fin .no (.sh .non) σ
    | .ok (.rt v, σ) => fin .no v σ
    | .exc x => .exc x
    | .stuck => .stuck) = _
  rw [hb]
/-- .. with a list that is handed in -/
theorem fn_io {P : Prg} {w n k : Nat} {args ds ds' : List D} {f : FnI} {v : Vr} {σ' : En} (h : P.fns[k]? = some f) (ha : args.length + 1 = f.ps.length) (hb : exSs P (fnEv P w n) w f.body (.io ds :: args.map .sh ++ List.replicate (f.N.length - (args.length + 1)) .un) = .ok (.rt v, .io ds' :: σ')) : fnEv P w (n + 1) k (.io ds) args = .ok (v, ds') := by
  rw [fnEv_succ h]
  unfold runF
  rw [if_pos (show nArgs (.io ds) args = _ from ha)]
  show (match exSs P (fnEv P w n) w f.body (.io ds :: args.map .sh ++ List.replicate (f.N.length - (args.length + 1)) .un) with
    | .ok (.nx, σ) => fin (.io ds) (.sh .non) σ
    | .ok (.rt v, σ) => fin (.io ds) v σ
    | .exc x => .exc x
    | .stuck => .stuck) = _
  rw [hb]
  rfl
theorem seq_nx {P : Prg} {cf : CF} {w : Nat} {s : Sm} {r : Sms} {σ σ' : En} {q : R (Fl × En)} (h : exS P cf w s σ = .ok (.nx, σ')) (h2 : exSs P cf w r σ' = q) : exSs P cf w (.cons s r) σ = q := by
  rw [exSs_cons, h]
  exact h2
/-! ## loops by an invariant -/
theorem forL_inv {f : D → En → R (Fl × En)} {I : List D → En → Prop} (step : ∀ d ds σ, I (d :: ds) σ → ∃ σ', f d σ = .ok (.nx, σ') ∧ I ds σ') : ∀ (ds : List D) (σ : En), I ds σ → ∃ σ', forL f ds σ = .ok (.nx, σ') ∧ I [] σ'
  | [], σ, h => ⟨σ, rfl, h⟩
  | d :: ds, σ, h => by
    obtain ⟨σ', e, h'⟩ := step d ds σ h
    obtain ⟨σ'', e2, h2⟩ := forL_inv step ds σ' h'
    refine ⟨σ'', ?_, h2⟩
    simp only [forL, e, bnd_ok]
    exact e2
theorem range_map_succ {m : Nat} {lo : Int} : (List.range (m + 1)).map (fun (i : Nat) => D.int (lo + i)) = .int lo :: (List.range m).map (fun (i : Nat) => D.int ((lo + 1) + i)) := by
  rw [List.range_succ_eq_map, List.map_cons, List.map_map]
  congr 1
  · rw [show ((0 : Nat) : Int) = 0 from rfl, Int.add_zero]
  · apply List.map_congr_left
    intro i _
    show D.int (lo + ((i + 1 : Nat) : Int)) = D.int (lo + 1 + (i : Int))
    congr 1
    omega
theorem forL_rng {f : D → En → R (Fl × En)} {lo : Int} {I : Nat → En → Prop} : ∀ (m j : Nat), (∀ i σ, i < j + m → I i σ → ∃ σ', f (.int (lo + i)) σ = .ok (.nx, σ') ∧ I (i + 1) σ') → ∀ σ, I j σ → ∃ σ', forL f ((List.range m).map fun (i : Nat) => D.int ((lo + j) + i)) σ = .ok (.nx, σ') ∧ I (j + m) σ'
  | 0, j, step, σ, h => ⟨σ, rfl, h⟩
  | m + 1, j, step, σ, h => by
    obtain ⟨σ', e, h'⟩ := step j σ (by omega) h
    obtain ⟨σ'', e2, h2⟩ := forL_rng (lo := lo) (I := I) m (j + 1) (fun i σ hi => step i σ (by omega)) σ' h'
    refine ⟨σ'', ?_, by rw [show j + (m + 1) = j + 1 + m by omega]; exact h2⟩
    rw [range_map_succ]
    simp only [forL, e, bnd_ok]
    rw [← e2]
    congr 1
    apply List.map_congr_left
    intro i _
    congr 1
    omega
theorem for_rng {f : D → En → R (Fl × En)} {lo : Int} {m : Nat} (I : Nat → En → Prop) {σ : En} (h : I 0 σ) (step : ∀ i σ, i < m → I i σ → ∃ σ', f (.int (lo + i)) σ = .ok (.nx, σ') ∧ I (i + 1) σ') : ∃ σ', forL f ((List.range m).map fun (i : Nat) => D.int (lo + i)) σ = .ok (.nx, σ') ∧ I m σ' := by
  have q := forL_rng (f := f) (lo := lo) (I := I) m 0 (fun i σ hi => step i σ (by omega)) σ h
  rw [show lo + ((0 : Nat) : Int) = lo by omega, Nat.zero_add] at q
  exact q
theorem lcL_rng {f : D → List D → En → R (List D × En)} {lo : Int} {I : Nat → List D → En → Prop} : ∀ (m j : Nat), (∀ i acc σ, i < j + m → I i acc σ → ∃ acc' σ', f (.int (lo + i)) acc σ = .ok (acc', σ') ∧ I (i + 1) acc' σ') → ∀ acc σ, I j acc σ → ∃ acc' σ', lcL f ((List.range m).map fun (i : Nat) => D.int ((lo + j) + i)) acc σ = .ok (acc', σ') ∧ I (j + m) acc' σ'
  | 0, j, step, acc, σ, h => ⟨acc, σ, rfl, h⟩
  | m + 1, j, step, acc, σ, h => by
    obtain ⟨acc', σ', e, h'⟩ := step j acc σ (by omega) h
    obtain ⟨acc'', σ'', e2, h2⟩ := lcL_rng (lo := lo) (I := I) m (j + 1) (fun i acc σ hi => step i acc σ (by omega)) acc' σ' h'
    refine ⟨acc'', σ'', ?_, by rw [show j + (m + 1) = j + 1 + m by omega]; exact h2⟩
    rw [range_map_succ]
    simp only [lcL, e, bnd_ok]
    rw [← e2]
    congr 1
    apply List.map_congr_left
    intro i _
    congr 1
    omega
theorem lc_rng {f : D → List D → En → R (List D × En)} {lo : Int} {m : Nat} (I : Nat → List D → En → Prop) {σ : En} (h : I 0 [] σ) (step : ∀ i acc σ, i < m → I i acc σ → ∃ acc' σ', f (.int (lo + i)) acc σ = .ok (acc', σ') ∧ I (i + 1) acc' σ') : ∃ acc' σ', lcL f ((List.range m).map fun (i : Nat) => D.int (lo + i)) [] σ = .ok (acc', σ') ∧ I m acc' σ' := by
  have q := lcL_rng (f := f) (lo := lo) (I := I) m 0 (fun i acc σ hi => step i acc σ (by omega)) [] σ h
  rw [show lo + ((0 : Nat) : Int) = lo by omega, Nat.zero_add] at q
  exact q
theorem lcL_inv {f : D → List D → En → R (List D × En)} {I : List D → List D → En → Prop} (step : ∀ d ds acc σ, I (d :: ds) acc σ → ∃ acc' σ', f d acc σ = .ok (acc', σ') ∧ I ds acc' σ') : ∀ (ds acc : List D) (σ : En), I ds acc σ → ∃ acc' σ', lcL f ds acc σ = .ok (acc', σ') ∧ I [] acc' σ'
  | [], acc, σ, h => ⟨acc, σ, rfl, h⟩
  | d :: ds, acc, σ, h => by
    obtain ⟨acc', σ', e, h'⟩ := step d ds acc σ h
    obtain ⟨acc'', σ'', e2, h2⟩ := lcL_inv step ds acc' σ' h'
    refine ⟨acc'', σ'', ?_, h2⟩
    simp only [lcL, e, bnd_ok]
    exact e2
/-! ## ranges -/
theorem rngD_up {lo : Int} {k : Nat} (h1 : -1000000 < lo) (h2 : lo + k < 1000000000) : rngD lo (lo + k) 1 = some ((List.range k).map fun (i : Nat) => D.int (lo + i)) := by
  unfold rngD
  rw [if_pos ⟨h1, by omega, by omega, h2⟩, if_pos rfl, show (lo + (k : Int) - lo).toNat = k by omega]
theorem rngA_1 {k : Nat} (h : (k : Int) < 1000000000) : rngA [.int k] = some ((List.range k).map fun (i : Nat) => D.int i) := by
  have e := rngD_up (lo := 0) (k := k) (by decide) (by omega)
  simp only [Int.zero_add] at e
  exact e
theorem rngA_2 {lo hi : Int} {k : Nat} (hk : hi = lo + k) (h1 : -1000000 < lo) (h2 : hi < 1000000000) : rngA [.int lo, .int hi] = some ((List.range k).map fun (i : Nat) => D.int (lo + i)) := by
  subst hk
  exact rngD_up h1 h2
theorem for_rng_run {P : Prg} {cf : CF} {w : Nat} {t : Tgt} {es : Exs} {b : Sms} {σ σ1 σ' : En} {ds xs : List D} (h : evs P cf es σ = .ok (ds, σ1)) (hr : rngA ds = some xs) (e : forL (forF P cf w t b) xs σ1 = .ok (.nx, σ')) : exS P cf w (.for t (.rng es) b) σ = .ok (.nx, σ') := by
  rw [exS_for, src_rng, h, bnd_ok, hr, forR_ok]
  show bnd (forL (forF P cf w t b) xs σ1) (fun r σ2 => .ok (r, σ2)) = _
  rw [e]
  rfl
/-! ## == -/
theorem eqT_of {P : Prg} {cf : CF} {x y : D} {p q : PyData} (hx : toPD x = some p) (hy : toPD y = some q) (h1 : SeqAt.shaped p = true) (h2 : SeqAt.shaped q = true) : eqT P cf x y = .ok (PyData.eqv p q) := by
  unfold eqT
  rw [hx, hy]
  simp only [h1, h2, and_self, if_true]
@[simp] theorem eqT_int {P : Prg} {cf : CF} {i j : Int} : eqT P cf (.int i) (.int j) = .ok (decide (i = j)) := by
  rw [eqT_of (p := .int i) (q := .int j) rfl rfl rfl rfl]
  rfl
@[simp] theorem eqT_bl {P : Prg} {cf : CF} {i j : Bool} : eqT P cf (.bl i) (.bl j) = .ok (i == j) := by
  rw [eqT_of (p := .bool i) (q := .bool j) rfl rfl rfl rfl]
  rfl
/-! ## the helpers that every law has -/
def stateB : Sms := (.cons (.asg (.v 1) (.bin .add (.bin .mul (.var 1) (.con (.int 1000003))) (.bif .abs (.cons (.var 3) .nil)))) (.cons (.asg (.v 2) (.bin .mod (.bif .int (.cons (.bin .add (.bin .mul (.var 2) (.con (.int 48271))) (.var 3)) .nil)) (.con (.int 2147483647)))) .nil))
def stateF : Sms := .cons (.asg (.v 1) (.con (.int 0))) (.cons (.asg (.v 2) (.con (.int 1))) (.cons (.for (.v 3) (.seq (.slc (.var 0) .none (.some (.con (.int 63))))) stateB) (.cons (.ret (.lst (.cons (.var 1) (.cons (.ite (.cmp .ne (.var 2) (.con (.int 1973665155))) (.var 2) (.con (.int 7))) .nil)))) .nil)))
def takeF : Sms := .cons (.ifs (.cmp .gt (.ix (.var 0) (.con (.int 0))) (.con (.int 0))) (.cons (.asg (.v 2) (.bin .mod (.bif .int (.cons (.ix (.var 0) (.con (.int 0))) .nil)) (.var 1))) (.cons (.setix 0 (.con (.int 0)) (.bin .fdiv (.ix (.var 0) (.con (.int 0))) (.var 1))) (.cons (.ret (.var 2)) .nil))) .nil) (.cons (.setix 0 (.con (.int 1)) (.bin .mod (.bif .int (.cons (.bin .add (.bin .mul (.ix (.var 0) (.con (.int 1))) (.con (.int 48271))) (.con (.int 11))) .nil)) (.con (.int 2147483647)))) (.cons (.ret (.bin .mod (.bif .int (.cons (.bin .fdiv (.ix (.var 0) (.con (.int 1))) (.con (.int 7))) .nil)) (.var 1))) .nil))
/-- what a state of draws is -/
def StOk (ds : List D) : Prop := ∃ s t : Int, ds = [.int s, .int t] ∧ 0 ≤ s ∧ 0 ≤ t ∧ t < 2147483647
theorem small_log {i : Int} {k : Nat} (h : i.natAbs < 2 ^ k) (hk : 0 < k) : i.natAbs.log2 < k := by
  by_cases h0 : i.natAbs = 0
  · rw [h0]; exact hk
  · exact (Nat.log2_lt h0).mpr h
section
variable {P : Prg} {w n k : Nat}
theorem take_ev {f : FnI} (hf : P.fns[k]? = some f) (hb : f.body = takeF) (hp : f.ps.length = 2) (hN : f.N.length = 3) {ds : List D} (hs : StOk ds) {m : Int} (hm : 0 < m) (hm2 : m.natAbs.log2 < 9000) :
    ∃ (v : Int) (ds' : List D), fnEv P w (n + 1) k (.io ds) [.int m] = .ok (.sh (.int v), ds') ∧ 0 ≤ v ∧ v < m ∧ StOk ds' := by
  obtain ⟨s, t, rfl, h0, h1, h2⟩ := hs
  by_cases hz : 0 < s
  · refine ⟨s % m, [.int (s / m), .int t], fn_io hf (by rw [hp]; rfl) (σ' := [.sh (.int m), .sh (.int (s % m))]) ?_, Int.emod_nonneg _ (by omega), Int.emod_lt_of_pos _ hm, s / m, t, rfl, Int.ediv_nonneg h0 (by omega), h1, h2⟩
    rw [hb, hN]
    simp [takeF, cmpD, atI, hz, bifD, binD, hm, hm2, ixN]
  · have e1 : t.natAbs.log2 + 15 < 100000000 := by have := small_log (i := t) (k := 32) (by omega) (by decide); omega
    have e3 : Nat.log2 48271 = 15 := by decide
    have e4 : Nat.log2 7 < 9000 := by decide
    refine ⟨((t * 48271 + 11) % 2147483647) / 7 % m, [.int s, .int ((t * 48271 + 11) % 2147483647)], fn_io hf (by rw [hp]; rfl) (σ' := [.sh (.int m), .un]) ?_, Int.emod_nonneg _ (by omega), Int.emod_lt_of_pos _ hm, s, (t * 48271 + 11) % 2147483647, rfl, h0, by omega, by omega⟩
    rw [hb, hN]
    simp [takeF, cmpD, atI, hz, bifD, binD, hm, hm2, ixN, e1, e3, e4]
theorem seed_lt {b B : Nat} {s c : Int} (h0 : 0 ≤ s) (hs : s.natAbs < 2 ^ b) (hc : c.natAbs.log2 ≤ B) (hb : B + 1 ≤ b) : (s * 1000003 + (if c < 0 then -c else c)).natAbs < 2 ^ (b + 21) := by
  have h1 : c.natAbs < 2 ^ b := Nat.lt_of_lt_of_le (Nat.lt_of_lt_of_le Nat.lt_log2_self (Nat.pow_le_pow_right (by decide) (Nat.succ_le_succ hc))) (Nat.pow_le_pow_right (by decide) hb)
  rw [Nat.pow_add]
  generalize 2 ^ b = p at *
  have e : (2 : Nat) ^ 21 = 2097152 := by decide
  rw [e]
  omega
theorem state_turn {cf : CF} {c0 : Cell} {s t c : Int} {c3 : Cell} (h3 : c3 = .un ∨ ∃ d, c3 = .sh d) (hs : s.natAbs.log2 + 19 < 100000000) (h1 : t.natAbs.log2 + 15 < 100000000) :
    forF P cf w (.v 3) stateB (.int c) [c0, .sh (.int s), .sh (.int t), c3] = .ok (.nx, [c0, .sh (.int (s * 1000003 + (if c < 0 then -c else c))), .sh (.int ((t * 48271 + c) % 2147483647)), .sh (.int c)]) := by
  have e1 : Nat.log2 48271 = 15 := by decide
  have e2 : Nat.log2 1000003 = 19 := by decide
  rcases h3 with rfl | ⟨d, rfl⟩ <;>
  simp [forF, stateB, bifD, binD, e1, e2, hs, h1]
theorem state_loop {cf : CF} {c0 : Cell} {B : Nat} : ∀ (cs : List Int) (b : Nat) (s t : Int) (c3 : Cell), (c3 = .un ∨ ∃ d, c3 = .sh d) → (∀ c ∈ cs, c.natAbs.log2 ≤ B) → B + 1 ≤ b → b + 21 * cs.length ≤ 99999000 → 0 ≤ s → s.natAbs < 2 ^ b → 0 ≤ t → t < 2147483647 →
    ∃ (s' t' : Int) (c3' : Cell), forL (forF P cf w (.v 3) stateB) (cs.map D.int) [c0, .sh (.int s), .sh (.int t), c3] = .ok (.nx, [c0, .sh (.int s'), .sh (.int t'), c3']) ∧ 0 ≤ s' ∧ 0 ≤ t' ∧ t' < 2147483647
  | [], b, s, t, c3, h3, hc, hB, hb, h0, h1, h2, h4 => ⟨s, t, c3, rfl, h0, h2, h4⟩
  | c :: cs, b, s, t, c3, h3, hc, hB, hb, h0, h1, h2, h4 => by
    rw [List.length_cons] at hb
    have q1 : s.natAbs.log2 < b := small_log h1 (by omega)
    have q2 : t.natAbs.log2 < 32 := small_log (by omega) (by decide)
    have e := state_turn (P := P) (w := w) (cf := cf) (c0 := c0) (s := s) (t := t) (c := c) h3 (by omega) (by omega)
    obtain ⟨s', t', c3', i1, i2⟩ := state_loop cs (b + 21) _ ((t * 48271 + c) % 2147483647) (.sh (.int c)) (.inr ⟨_, rfl⟩) (fun x hx => hc x (List.mem_cons_of_mem _ hx)) (by omega) (by omega) (by split <;> omega) (seed_lt h0 h1 (hc c (List.mem_cons_self ..)) hB) (by omega) (by omega)
    refine ⟨s', t', c3', ?_, i2⟩
    simp only [List.map_cons, forL, e, bnd_ok]
    exact i1
theorem one_lt_pow {b : Nat} : (0 : Int).natAbs < 2 ^ b := Nat.two_pow_pos b
theorem cut63 (ns : List D) : cutD ns none (some 63) = ns.take 63 := by
  have e : HT.sIx ns.length 0 none = 0 := by first | rfl | simp [HT.sIx]
  have e2 : HT.sIx ns.length ns.length (some 63) = min 63 ns.length := by
    first
      | (simp [HT.sIx]; done)
      | (simp [HT.sIx]; omega)
  unfold cutD
  rw [e, e2, List.drop_zero, Nat.sub_zero]
  rcases Nat.le_total 63 ns.length with h | h
  · rw [Nat.min_eq_left h]
  · rw [Nat.min_eq_right h, List.take_of_length_le h, List.take_of_length_le (Nat.le_refl _)]
theorem state_ev {f : FnI} (hf : P.fns[k]? = some f) (hb : f.body = stateF) (hp : f.ps.length = 1) (hN : f.N.length = 4) {ns : List Int} (hl : ns.length ≤ 63) (hz : ∀ z ∈ ns, z.natAbs.log2 ≤ 1048576) :
    ∃ ds : List D, fnEv P w (n + 1) k .no [.ro (ns.map D.int)] = .ok (.ow ds, []) ∧ StOk ds := by
  obtain ⟨b, hbb⟩ : ∃ b, b = 1048577 := ⟨_, rfl⟩
  obtain ⟨s', t', c3', i1, i2, i3, i4⟩ := state_loop (P := P) (w := w) (cf := fnEv P w n) (c0 := .sh (.ro (ns.map D.int))) (B := 1048576) (ns.take 63) b 0 1 .un (.inl rfl) (fun c hc => hz c (List.mem_of_mem_take hc)) (by omega) (by rw [List.length_take]; omega) (by omega) one_lt_pow (by omega) (by omega)
  have ec : cutD (ns.map D.int) none (some 63) = (ns.take 63).map D.int := by rw [cut63, List.map_take]
  refine ⟨[.int s', .int (if t' = 1973665155 then 7 else t')], fn_no hf (by rw [hp]; rfl) (σ' := [.sh (.ro (ns.map D.int)), .sh (.int s'), .sh (.int t'), c3']) ?_, s', _, rfl, i2, by split <;> omega, by split <;> omega⟩
  rw [hb, hN]
  rw [List.map_take] at i1 ec
  by_cases ht : t' = 1973665155 <;> simp [stateF, cmpD, slcD, ec, i1, ht]
end
end PV
set_option Elab.async false
set_option linter.all false
set_option maxRecDepth 100000
set_option maxHeartbeats 4000000
namespace PV
open PySem L2
section
variable {P : Prg} {cf : CF} {w : Nat}
/-! ## drawn lists -/
theorem draw_lc {t : Nat} {e : Ex} {E : List D → Cell → En} {I : D → Prop} (hw : ∀ ds c, wipeE (E ds c) [t] = E ds .un) (hs : ∀ ds x, setc t (.sh x) (E ds .un) = .ok (E ds (.sh x)))
    (he : ∀ ds x, StOk ds → ∃ d ds', ev P cf e (E ds (.sh x)) = .ok (.sh d, E ds' (.sh x)) ∧ I d ∧ StOk ds') :
    ∀ (xs acc ds : List D) (c : Cell), StOk ds → acc.length + xs.length < 16000000 → ∃ ys ds' c', lcL (lcE P cf (.v t) e) xs acc (E ds c) = .ok (acc ++ ys, E ds' c') ∧ ys.length = xs.length ∧ (∀ y ∈ ys, I y) ∧ StOk ds'
  | [], acc, ds, c, h, _ => ⟨[], ds, c, by rw [List.append_nil]; rfl, rfl, nofun, h⟩
  | x :: xs, acc, ds, c, h, hl => by
    rw [List.length_cons] at hl
    obtain ⟨d, ds1, e1, i1, g1⟩ := he ds x h
    obtain ⟨ys, ds', c', e2, l2, i2, g2⟩ := draw_lc hw hs he xs (acc ++ [d]) ds1 (.sh x) g1 (by rw [List.length_append, List.length_singleton]; omega)
    refine ⟨d :: ys, ds', c', ?_, by rw [List.length_cons, List.length_cons, l2], ?_, g2⟩
    · rw [List.append_assoc, List.singleton_append] at e2
      rw [← e2]
      show bnd (lcE P cf (.v t) e x acc (E ds c)) _ = _
      have : lcE P cf (.v t) e x acc (E ds c) = .ok (acc ++ [d], E ds1 (.sh x)) := by
        unfold lcE lcF
        rw [show (Tgt.v t).slots = [t] from rfl, hw, setT_v, hs]
        show addL acc (bnd (ev P cf e (E ds (.sh x))) fun v σ => esc v σ) = _
        rw [e1]
        show (if acc.length < 16000000 then R.ok (acc ++ [d], E ds1 (.sh x)) else .stuck) = _
        rw [if_pos (by omega)]
      rw [this]
      rfl
    · intro y hy
      rcases List.mem_cons.mp hy with rfl | hy
      · exact i1
      · exact i2 y hy
/-! ## sorting -/
def pos (lt : D → D → Bool) (x : D) (l : List D) : Nat → Nat
  | 0 => 0
  | k + 1 => if lt x (l.getD k .non) then pos lt x l k else k + 1
theorem pos_le {lt : D → D → Bool} {x : D} {l : List D} : ∀ k, pos lt x l k ≤ k
  | 0 => Nat.le_refl _
  | k + 1 => by
    unfold pos
    split
    · exact Nat.le_succ_of_le (pos_le k)
    · exact Nat.le_refl _
def insP (lt : D → D → Bool) (l : List D) (x : D) : List D := l.take (pos lt x l l.length) ++ x :: l.drop (pos lt x l l.length)
def sortL (lt : D → D → Bool) (xs : List D) : List D := xs.foldl (insP lt) []
theorem insP_length {lt : D → D → Bool} {l : List D} {x : D} : (insP lt l x).length = l.length + 1 := by
  have := pos_le (lt := lt) (x := x) (l := l) l.length
  unfold insP
  rw [List.length_append, List.length_cons, List.length_take, List.length_drop]
  omega
theorem mem_insP {lt : D → D → Bool} {l : List D} {x y : D} (h : y ∈ insP lt l x) : y = x ∨ y ∈ l := by
  unfold insP at h
  rcases List.mem_append.mp h with h | h
  · exact .inr (List.mem_of_mem_take h)
  · rcases List.mem_cons.mp h with h | h
    · exact .inl h
    · exact .inr (List.mem_of_mem_drop h)
theorem mem_foldl_insP {lt : D → D → Bool} {y : D} : ∀ (xs l : List D), y ∈ xs.foldl (insP lt) l → y ∈ xs ∨ y ∈ l
  | [], l, h => .inr h
  | x :: xs, l, h => by
    rcases mem_foldl_insP xs _ h with h | h
    · exact .inl (List.mem_cons_of_mem _ h)
    · rcases mem_insP h with h | h
      · exact .inl (h ▸ List.mem_cons_self ..)
      · exact .inr h
theorem mem_sortL {lt : D → D → Bool} {y : D} {xs : List D} (h : y ∈ sortL lt xs) : y ∈ xs := by
  rcases mem_foldl_insP xs _ h with h | h
  · exact h
  · cases h
theorem foldl_insP_length {lt : D → D → Bool} : ∀ (xs l : List D), (xs.foldl (insP lt) l).length = l.length + xs.length
  | [], l => rfl
  | x :: xs, l => by
    show (xs.foldl (insP lt) (insP lt l x)).length = _
    rw [foldl_insP_length xs, insP_length, List.length_cons]
    omega
theorem sortL_length {lt : D → D → Bool} {xs : List D} : (sortL lt xs).length = xs.length := by
  unfold sortL
  rw [foldl_insP_length]
  exact Nat.zero_add _
def sortE : Ex := (.and (.cmp .gt (.var 3) (.con (.int 0))) (.cmp .lt (.var 2) (.ix (.var 1) (.bin .sub (.var 3) (.con (.int 1))))))
def sortB0 : Sms := (.cons (.asg (.v 3) (.bin .sub (.var 3) (.con (.int 1)))) .nil)
def sortB1 : Sms := (.cons (.asg (.v 3) (.bif .len (.cons (.var 1) .nil))) (.cons (.whl sortE sortB0) (.cons (.ins 1 (.var 3) (.var 2)) .nil)))
def sortF : Sms := (.cons (.asg (.v 1) (.lst .nil)) (.cons (.for (.v 2) (.seq (.var 0)) sortB1) (.cons (.ret (.bif .tup (.cons (.var 1) .nil))) .nil)))
theorem atI_nat {ds : List D} {k : Nat} (h : k < ds.length) : atI ds (k : Int) = some (ds.getD k .non) := by
  unfold atI ixN
  simp [h]
theorem sort_whl {lt : D → D → Bool} {x : D} {l : List D} {c0 : Cell} (hlt : ∀ y ∈ l, cmpD P cf .lt x y = .ok (lt x y)) : ∀ (m k : Nat), k < m → k ≤ l.length →
    whlL (whC P cf sortE) (whB P cf w sortB0) m [c0, .ow l, .sh x, .sh (.int k)] = .ok (.nx, [c0, .ow l, .sh x, .sh (.int (pos lt x l k))])
  | 0, k, h, _ => by omega
  | m + 1, 0, h, _ => by
    simp [whlL, whC, sortE, cmpD, pos]
  | m + 1, k + 1, h, hk => by
    have hm : l.getD k .non ∈ l := by
      rw [List.getD_eq_getElem?_getD, List.getElem?_eq_getElem (by omega)]
      exact List.getElem_mem _
    have e1 := hlt _ hm
    have e2 := atI_nat (ds := l) (k := k) (by omega)
    have e3 : (0 : Int) < ((k + 1 : Nat) : Int) := by omega
    have e4 : ((k + 1 : Nat) : Int) - 1 = (k : Int) := by omega
    generalize ((k + 1 : Nat) : Int) = q at *
    have ec : whC P cf sortE [c0, .ow l, .sh x, .sh (.int q)] = .ok (lt x (l.getD k .non), [c0, .ow l, .sh x, .sh (.int q)]) := by
      have e5 : cmpD P cf .gt (.int q) (.int 0) = .ok true := by
        show R.ok (decide ((0 : Int) < q)) = _
        rw [decide_eq_true e3]
      simp [whC, sortE, binD, e1, e2, e4, e5, -List.getD_eq_getElem?_getD]
    unfold pos
    cases hb : lt x (l.getD k .non) with
    | false =>
      rw [hb] at ec
      simp only [whlL, ec, bnd_ok]
      simp
      omega
    | true =>
      rw [hb] at ec
      have i := sort_whl (c0 := c0) hlt m k (by omega) (by omega)
      simp only [whlL, ec, bnd_ok]
      rw [show whB P cf w sortB0 [c0, .ow l, .sh x, .sh (.int q)] = .ok (.nx, [c0, .ow l, .sh x, .sh (.int k)]) by simp [whB, sortB0, binD, e4]]
      exact i
theorem sort_turn {lt : D → D → Bool} {x : D} {l : List D} {c0 c2 c3 : Cell} (h2 : asg c2 = true) (h3 : asg c3 = true) (hlt : ∀ y ∈ l, cmpD P cf .lt x y = .ok (lt x y)) (hl : l.length < w) (hw : w ≤ 16000000) :
    ∃ c3', asg c3' = true ∧ forF P cf w (.v 2) sortB1 x [c0, .ow l, c2, c3] = .ok (.nx, [c0, .ow (insP lt l x), .sh x, c3']) := by
  have e := sort_whl (w := w) (c0 := c0) hlt w l.length hl (Nat.le_refl _)
  have p := pos_le (lt := lt) (x := x) (l := l) l.length
  refine ⟨.sh (.int (pos lt x l l.length)), rfl, ?_⟩
  have e1 : exS P cf w (.asg (.v 3) (.bif .len (.cons (.var 1) .nil))) [c0, .ow l, .sh x, c3] = .ok (.nx, [c0, .ow l, .sh x, .sh (.int l.length)]) := by simp [bifD, h3]
  have e2 : exS P cf w (.whl sortE sortB0) [c0, .ow l, .sh x, .sh (.int l.length)] = .ok (.nx, [c0, .ow l, .sh x, .sh (.int (pos lt x l l.length))]) := by rw [exS_whl]; exact e
  have e3 : exS P cf w (.ins 1 (.var 3) (.var 2)) [c0, .ow l, .sh x, .sh (.int (pos lt x l l.length))] = .ok (.nx, [c0, .ow (insP lt l x), .sh x, .sh (.int (pos lt x l l.length))]) := by
    unfold insP
    generalize pos lt x l l.length = p at *
    have q1 : l.length < 16000000 := by omega
    simp [q1, p]
  show bnd (lift (setT (.v 2) x [c0, .ow l, c2, c3]) _) _ = _
  rw [show setT (.v 2) x [c0, .ow l, c2, c3] = .ok [c0, .ow l, .sh x, c3] by simp [h2]]
  show exSs P cf w sortB1 [c0, .ow l, .sh x, c3] = _
  exact seq_nx e1 (seq_nx e2 (seq_nx e3 (by simp)))
theorem sort_loop {lt : D → D → Bool} {S : D → Prop} {c0 : Cell} (hlt : ∀ x y, S x → S y → cmpD P cf .lt x y = .ok (lt x y)) (hw : w ≤ 16000000) : ∀ (xs l : List D) (c2 c3 : Cell), asg c2 = true → asg c3 = true → (∀ x ∈ xs, S x) → (∀ x ∈ l, S x) → l.length + xs.length < w + 1 →
    ∃ c2' c3', forL (forF P cf w (.v 2) sortB1) xs [c0, .ow l, c2, c3] = .ok (.nx, [c0, .ow (xs.foldl (insP lt) l), c2', c3'])
  | [], l, c2, c3, h2, h3, hx, hl, hn => ⟨c2, c3, rfl⟩
  | x :: xs, l, c2, c3, h2, h3, hx, hl, hn => by
    rw [List.length_cons] at hn
    obtain ⟨c3', a, e⟩ := sort_turn (c0 := c0) h2 h3 (fun y hy => hlt x y (hx x (List.mem_cons_self ..)) (hl y hy)) (by omega) hw
    obtain ⟨d2, d3, e2⟩ := sort_loop (c0 := c0) hlt hw xs (insP lt l x) (.sh x) c3' rfl a (fun y hy => hx y (List.mem_cons_of_mem _ hy)) (by
      intro y hy
      rcases mem_insP hy with h | h
      · exact h ▸ hx x (List.mem_cons_self ..)
      · exact hl y h) (by rw [insP_length]; omega)
    refine ⟨d2, d3, ?_⟩
    simp only [forL, e, bnd_ok]
    exact e2
end
theorem sort_ev {P : Prg} {w n k : Nat} {f : FnI} (hf : P.fns[k]? = some f) (hb : f.body = sortF) (hp : f.ps.length = 1) (hN : f.N.length = 4) {lt : D → D → Bool} {S : D → Prop}
    (hlt : ∀ x y, S x → S y → cmpD P (fnEv P w n) .lt x y = .ok (lt x y)) (hw : w ≤ 16000000) {a : D} {xs : List D} (ha : items a = some xs) (hx : ∀ x ∈ xs, S x) (hl : xs.length ≤ w) :
    fnEv P w (n + 1) k .no [a] = .ok (.sh (.tup (sortL lt xs)), []) := by
  obtain ⟨c2, c3, e⟩ := sort_loop (P := P) (w := w) (c0 := .sh a) hlt hw xs [] .un .un rfl rfl hx nofun (by simp; omega)
  refine fn_no (σ' := [.sh a, .ow (sortL lt xs), c2, c3]) hf (by rw [hp]; rfl) ?_
  rw [hb, hN]
  refine seq_nx (σ' := [.sh a, .ow [], .un, .un]) (by simp) ?_
  refine seq_nx (σ' := [.sh a, .ow (sortL lt xs), c2, c3]) ?_ (by simp [bifD])
  rw [exS_for]
  simp [ha, e, sortL]
end PV
set_option Elab.async false
set_option linter.all false
set_option maxRecDepth 100000
set_option maxHeartbeats 0
namespace K00
open PySem L2 PV
def f0 : FnI := ⟨"is_integer", true, ["value"], ["value"], [], (.cons (.ret (.and (.isi (.var 0) .int) (.not (.isi (.var 0) .bool)))) .nil)⟩
def f1 : FnI := ⟨"is_count", true, ["value", "low", "high"], ["value", "low", "high"], [], (.cons (.ret (.and (.call 0 (.cons (.var 0) .nil)) (.chain .le .le (.var 1) (.var 0) (.var 2)))) .nil)⟩
def f2 : FnI := ⟨"check_count", true, ["value", "low", "high"], ["value", "low", "high"], [], (.cons (.ifs (.not (.call 1 (.cons (.var 0) (.cons (.var 1) (.cons (.var 2) .nil))))) (.cons (.raise 0) .nil) .nil) .nil)⟩
def f3_e0 : Ex := (.cmp .gt (.var 1) (.con (.int 0)))
def f3_b0 : Sms := (.cons (.par2 0 1 (.var 1) (.bin .mod (.var 0) (.var 1))) .nil)
def f3 : FnI := ⟨"common", true, ["a", "b"], ["a", "b"], [], (.cons (.par2 0 1 (.bif .abs (.cons (.var 0) .nil)) (.bif .abs (.cons (.var 1) .nil))) (.cons (.whl f3_e0 f3_b0) (.cons (.ret (.var 0)) .nil)))⟩
def f4_b0 : Sms := (.cons (.asg (.v 1) (.bin .mul (.var 1) (.var 2))) .nil)
def f4 : FnI := ⟨"factorial", true, ["n", "found", "k"], ["n"], [], (.cons (.asg (.v 1) (.con (.int 1))) (.cons (.for (.v 2) (.rng (.cons (.con (.int 2)) (.cons (.bin .add (.var 0) (.con (.int 1))) .nil))) f4_b0) (.cons (.ret (.var 1)) .nil)))⟩
def f5_b0 : Sms := (.cons (.asg (.v 2) (.bin .fdiv (.bin .mul (.var 2) (.bin .sub (.var 0) (.var 3))) (.bin .add (.var 3) (.con (.int 1))))) .nil)
def f5 : FnI := ⟨"binomial", true, ["n", "k", "found", "i"], ["n", "k"], [], (.cons (.ifs (.or (.cmp .lt (.var 1) (.con (.int 0))) (.cmp .gt (.var 1) (.var 0))) (.cons (.ret (.con (.int 0))) .nil) .nil) (.cons (.asg (.v 2) (.con (.int 1))) (.cons (.for (.v 3) (.rng (.cons (.var 1) .nil)) f5_b0) (.cons (.ret (.var 2)) .nil))))⟩
def f6_b0 : Sms := (.cons (.asg (.v 2) (.bin .mul (.var 2) (.var 0))) .nil)
def f6 : FnI := ⟨"power", true, ["a", "k", "found", "_"], ["a", "k"], [], (.cons (.asg (.v 2) (.con (.int 1))) (.cons (.for (.v 3) (.rng (.cons (.var 1) .nil)) f6_b0) (.cons (.ret (.var 2)) .nil)))⟩
def f7 : FnI := ⟨"sign_power", true, ["k"], ["k"], [], (.cons (.ret (.ite (.cmp .eq (.bin .mod (.var 0) (.con (.int 2))) (.con (.int 0))) (.con (.int 1)) (.neg (.con (.int 1))))) .nil)⟩
def f8_e0 : Ex := (.bin .add (.bin .mul (.bin .add (.var 6) (.con (.int 1))) (.ix (.var 4) (.var 6))) (.bin .mul (.bin .sub (.var 3) (.var 6)) (.ix (.var 5) (.var 6))))
def f8_b0 : Sms := (.cons (.asg (.v 4) (.bin .add (.var 2) (.lst (.cons (.con (.int 0)) .nil)))) (.cons (.asg (.v 5) (.bin .add (.lst (.cons (.con (.int 0)) .nil)) (.var 2))) (.cons (.asg (.v 2) (.lc (.rng (.cons (.var 3) .nil)) (.v 6) f8_e0)) .nil)))
def f8 : FnI := ⟨"eulerian", true, ["n", "k", "row", "m", "line", "before", "i"], ["n", "k"], [], (.cons (.ex (.call 2 (.cons (.var 0) (.cons (.con (.int 0)) (.cons (.con (.int 30)) .nil))))) (.cons (.asg (.v 2) (.lst (.cons (.con (.int 1)) .nil))) (.cons (.for (.v 3) (.rng (.cons (.con (.int 2)) (.cons (.bin .add (.var 0) (.con (.int 1))) .nil))) f8_b0) (.cons (.ifs (.cmp .eq (.var 0) (.con (.int 0))) (.cons (.ret (.ite (.cmp .eq (.var 1) (.con (.int 0))) (.con (.int 1)) (.con (.int 0)))) .nil) .nil) (.cons (.ret (.ite (.chain .le .lt (.con (.int 0)) (.var 1) (.var 0)) (.ix (.var 2) (.var 1)) (.con (.int 0)))) .nil)))))⟩
def f9_r0 : Src := (.rng (.cons (.ite (.cmp .gt (.bif .len (.cons (.var 4) .nil)) (.con (.int 0))) (.bin .add (.ix (.var 4) (.neg (.con (.int 1)))) (.con (.int 1))) (.con (.int 0))) (.cons (.var 0) .nil)))
def f9_e0 : Ex := (.bin .add (.var 4) (.tup (.cons (.var 5) .nil)))
def f9_b0 : Sms := (.cons (.asg (.v 2) (.lc2 (.seq (.var 2)) 4 f9_r0 5 f9_e0)) .nil)
def f9 : FnI := ⟨"choices", true, ["n", "k", "found", "_", "own", "x"], ["n", "k"], [], (.cons (.asg (.v 2) (.lst (.cons (.tup .nil) .nil))) (.cons (.for (.v 3) (.rng (.cons (.var 1) .nil)) f9_b0) (.cons (.ret (.bif .tup (.cons (.var 2) .nil))) .nil)))⟩
def f10_r0 : Src := (.seq (.call 10 (.cons (.bin .sub (.var 0) (.var 2)) (.cons (.bin .sub (.var 1) (.con (.int 1))) .nil))))
def f10_e0 : Ex := (.bin .add (.tup (.cons (.var 2) .nil)) (.var 3))
def f10 : FnI := ⟨"parts_of", true, ["total", "size", "k", "rest"], ["total", "size"], [], (.cons (.ifs (.cmp .eq (.var 1) (.con (.int 0))) (.cons (.ret (.ite (.cmp .eq (.var 0) (.con (.int 0))) (.tup (.cons (.tup .nil) .nil)) (.tup .nil))) .nil) .nil) (.cons (.ifs (.cmp .eq (.var 1) (.con (.int 1))) (.cons (.ret (.tup (.cons (.tup (.cons (.var 0) .nil)) .nil))) .nil) .nil) (.cons (.ret (.bif .tup (.cons (.lc2 (.rng (.cons (.var 0) (.cons (.neg (.con (.int 1))) (.cons (.neg (.con (.int 1))) .nil)))) 2 f10_r0 3 f10_e0) .nil))) .nil)))⟩
def f11_b0 : Sms := (.cons (.asg (.v 1) (.bin .fdiv (.var 1) (.call 4 (.cons (.var 2) .nil)))) .nil)
def f11 : FnI := ⟨"multinomial", true, ["parts", "found", "k"], ["parts"], [], (.cons (.asg (.v 1) (.call 4 (.cons (.bif .sum (.cons (.var 0) .nil)) .nil))) (.cons (.for (.v 2) (.seq (.var 0)) f11_b0) (.cons (.ret (.var 1)) .nil)))⟩
def f12_e0 : Ex := (.and (.cmp .gt (.var 3) (.con (.int 0))) (.cmp .lt (.var 2) (.ix (.var 1) (.bin .sub (.var 3) (.con (.int 1))))))
def f12_b0 : Sms := (.cons (.asg (.v 3) (.bin .sub (.var 3) (.con (.int 1)))) .nil)
def f12_b1 : Sms := (.cons (.asg (.v 3) (.bif .len (.cons (.var 1) .nil))) (.cons (.whl f12_e0 f12_b0) (.cons (.ins 1 (.var 3) (.var 2)) .nil)))
def f12 : FnI := ⟨"ascending", true, ["row", "found", "x", "k"], ["row"], [], (.cons (.asg (.v 1) (.lst .nil)) (.cons (.for (.v 2) (.seq (.var 0)) f12_b1) (.cons (.ret (.bif .tup (.cons (.var 1) .nil))) .nil)))⟩
def f13_e0 : Ex := (.cmp .ne (.var 2) (.con (.int 0)))
def f13_e1 : Ex := (.var 2)
def f13_e2 : Ex := (.cmp .ne (.var 3) (.var 4))
def f13_e3 : Ex := (.con (.int 1))
def f13 : FnI := ⟨"sign_changes", true, ["signs", "row", "x", "a", "b"], ["signs"], [], (.cons (.asg (.v 1) (.lcf (.seq (.var 0)) (.v 2) f13_e0 f13_e1)) (.cons (.ret (.bif .len (.cons (.lcf (.zip (.cons (.var 1) (.cons (.slc (.var 1) (.some (.con (.int 1))) .none) .nil))) (.tp [3, 4]) f13_e2 f13_e3) .nil))) .nil))⟩
def f14_b0 : Sms := (.cons (.asg (.v 1) (.bin .add (.bin .mul (.var 1) (.con (.int 1000003))) (.bif .abs (.cons (.var 3) .nil)))) (.cons (.asg (.v 2) (.bin .mod (.bif .int (.cons (.bin .add (.bin .mul (.var 2) (.con (.int 48271))) (.var 3)) .nil)) (.con (.int 2147483647)))) .nil))
def f14 : FnI := ⟨"_law_state", true, ["script", "seed", "total", "cell"], ["script"], [], (.cons (.asg (.v 1) (.con (.int 0))) (.cons (.asg (.v 2) (.con (.int 1))) (.cons (.for (.v 3) (.seq (.slc (.var 0) .none (.some (.con (.int 63))))) f14_b0) (.cons (.ret (.lst (.cons (.var 1) (.cons (.ite (.cmp .ne (.var 2) (.con (.int 1973665155))) (.var 2) (.con (.int 7))) .nil)))) .nil))))⟩
def f15 : FnI := ⟨"_law_take", true, ["state", "m", "value"], ["state", "m"], [], (.cons (.ifs (.cmp .gt (.ix (.var 0) (.con (.int 0))) (.con (.int 0))) (.cons (.asg (.v 2) (.bin .mod (.bif .int (.cons (.ix (.var 0) (.con (.int 0))) .nil)) (.var 1))) (.cons (.setix 0 (.con (.int 0)) (.bin .fdiv (.ix (.var 0) (.con (.int 0))) (.var 1))) (.cons (.ret (.var 2)) .nil))) .nil) (.cons (.setix 0 (.con (.int 1)) (.bin .mod (.bif .int (.cons (.bin .add (.bin .mul (.ix (.var 0) (.con (.int 1))) (.con (.int 48271))) (.con (.int 11))) .nil)) (.con (.int 2147483647)))) (.cons (.ret (.bin .mod (.bif .int (.cons (.bin .fdiv (.ix (.var 0) (.con (.int 1))) (.con (.int 7))) .nil)) (.var 1))) .nil)))⟩
def f16 : FnI := ⟨"_law_says", true, ["value", "due"], ["value", "due"], [], (.cons (.ret (.and (.isi (.var 0) .bool) (.cmp .eq (.var 0) (.var 1)))) .nil)⟩
def f17 : FnI := ⟨"_law_is_whole", true, ["value"], ["value"], [], (.cons (.ret (.and (.isi (.var 0) .int) (.not (.isi (.var 0) .bool)))) .nil)⟩
def f18_e0 : Ex := (.call 18 (.cons (.ix (.var 0) (.var 2)) (.cons (.ix (.var 1) (.var 2)) .nil)))
def f18 : FnI := ⟨"_law_same", true, ["one", "two", "k"], ["one", "two"], [], (.cons (.ifs (.isi (.var 1) .tup) (.cons (.ret (.and (.isi (.var 0) .tup) (.and (.cmp .eq (.bif .len (.cons (.var 0) .nil)) (.bif .len (.cons (.var 1) .nil))) (.bif .all (.cons (.lc (.rng (.cons (.bif .len (.cons (.var 1) .nil)) .nil)) (.v 2) f18_e0) .nil))))) .nil) .nil) (.cons (.ifs (.isi (.var 1) .str) (.cons (.ret (.and (.isi (.var 0) .str) (.cmp .eq (.var 0) (.var 1)))) .nil) .nil) (.cons (.ifs (.isN (.var 1)) (.cons (.ret (.isN (.var 0))) .nil) .nil) (.cons (.ret (.and (.call 17 (.cons (.var 0) .nil)) (.cmp .eq (.var 0) (.var 1)))) .nil))))⟩
def f19 : FnI := ⟨"_law_result", true, ["act", "given", "refused"], ["act", "given"], [], (.cons (.tryS (.cons (.ifs (.cmp .eq (.bif .len (.cons (.var 1) .nil)) (.con (.int 1))) (.cons (.ret (.tup (.cons (.con (.str "told")) (.cons (.callv 0 (.cons (.ix (.var 1) (.con (.int 0))) .nil)) .nil)))) .nil) .nil) (.cons (.ifs (.cmp .eq (.bif .len (.cons (.var 1) .nil)) (.con (.int 2))) (.cons (.ret (.tup (.cons (.con (.str "told")) (.cons (.callv 0 (.cons (.ix (.var 1) (.con (.int 0))) (.cons (.ix (.var 1) (.con (.int 1))) .nil))) .nil)))) .nil) .nil) (.cons (.ifs (.cmp .eq (.bif .len (.cons (.var 1) .nil)) (.con (.int 3))) (.cons (.ret (.tup (.cons (.con (.str "told")) (.cons (.callv 0 (.cons (.ix (.var 1) (.con (.int 0))) (.cons (.ix (.var 1) (.con (.int 1))) (.cons (.ix (.var 1) (.con (.int 2))) .nil)))) .nil)))) .nil) .nil) (.cons (.ifs (.cmp .eq (.bif .len (.cons (.var 1) .nil)) (.con (.int 4))) (.cons (.ret (.tup (.cons (.con (.str "told")) (.cons (.callv 0 (.cons (.ix (.var 1) (.con (.int 0))) (.cons (.ix (.var 1) (.con (.int 1))) (.cons (.ix (.var 1) (.con (.int 2))) (.cons (.ix (.var 1) (.con (.int 3))) .nil))))) .nil)))) .nil) .nil) (.cons (.ret (.tup (.cons (.con (.str "told")) (.cons (.callv 0 (.cons (.ix (.var 1) (.con (.int 0))) (.cons (.ix (.var 1) (.con (.int 1))) (.cons (.ix (.var 1) (.con (.int 2))) (.cons (.ix (.var 1) (.con (.int 3))) (.cons (.ix (.var 1) (.con (.int 4))) .nil)))))) .nil)))) .nil))))) (.con 0 (.cons (.ret (.tup (.cons (.con (.str "malformed")) (.cons (.con .non) .nil)))) .nil) (.fld 1 2 "refused" .nil))) .nil)⟩
def f20_e0 : Ex := (.bin .add (.var 3) (.tup (.cons (.var 2) .nil)))
def f20_b0 : Sms := (.cons (.asg (.v 1) (.bin .add (.var 1) (.lc (.seq (.var 1)) (.v 3) f20_e0))) .nil)
def f20 : FnI := ⟨"_law_place_sets", true, ["n", "found", "i", "own"], ["n"], [], (.cons (.asg (.v 1) (.lst (.cons (.tup .nil) .nil))) (.cons (.for (.v 2) (.rng (.cons (.var 0) .nil)) f20_b0) (.cons (.ret (.var 1)) .nil)))⟩
def f21 : FnI := ⟨"_law_sign_of", true, ["k"], ["k"], [], (.cons (.ret (.ite (.cmp .eq (.bin .mod (.bif .int (.cons (.var 0) .nil)) (.con (.int 2))) (.con (.int 0))) (.con (.int 1)) (.neg (.con (.int 1))))) .nil)⟩
def f22_e0 : Ex := (.bin .add (.tup (.cons (.ix (.var 0) (.var 2)) .nil)) (.var 3))
def f22_b0 : Sms := (.cons (.asg (.v 1) (.bin .add (.var 1) (.lc (.seq (.call 22 (.cons (.bin .add (.slc (.var 0) .none (.some (.var 2))) (.slc (.var 0) (.some (.bin .add (.var 2) (.con (.int 1)))) .none)) .nil))) (.v 3) f22_e0))) .nil)
def f22 : FnI := ⟨"_law_all_orders", true, ["items", "found", "i", "rest"], ["items"], [], (.cons (.ifs (.cmp .eq (.bif .len (.cons (.var 0) .nil)) (.con (.int 0))) (.cons (.ret (.lst (.cons (.tup .nil) .nil))) .nil) .nil) (.cons (.asg (.v 1) (.lst .nil)) (.cons (.for (.v 2) (.rng (.cons (.bif .len (.cons (.var 0) .nil)) .nil)) f22_b0) (.cons (.ret (.var 1)) .nil))))⟩
def f23_b0 : Sms := (.cons (.asg (.v 1) (.bin .mul (.var 1) (.var 2))) .nil)
def f23 : FnI := ⟨"_law_product_up_to", true, ["n", "found", "k"], ["n"], [], (.cons (.asg (.v 1) (.con (.int 1))) (.cons (.for (.v 2) (.rng (.cons (.con (.int 2)) (.cons (.bin .add (.var 0) (.con (.int 1))) .nil))) f23_b0) (.cons (.ret (.var 1)) .nil)))⟩
def f24_e0 : Ex := (.and (.cmp .gt (.var 3) (.con (.int 0))) (.cmp .lt (.var 2) (.ix (.var 1) (.bin .sub (.var 3) (.con (.int 1))))))
def f24_b0 : Sms := (.cons (.asg (.v 3) (.bin .sub (.var 3) (.con (.int 1)))) .nil)
def f24_b1 : Sms := (.cons (.asg (.v 3) (.bif .len (.cons (.var 1) .nil))) (.cons (.whl f24_e0 f24_b0) (.cons (.ins 1 (.var 3) (.var 2)) .nil)))
def f24 : FnI := ⟨"_law_in_line", true, ["row", "found", "x", "k"], ["row"], [], (.cons (.asg (.v 1) (.lst .nil)) (.cons (.for (.v 2) (.seq (.var 0)) f24_b1) (.cons (.ret (.bif .tup (.cons (.var 1) .nil))) .nil)))⟩
def f25_e0 : Ex := (.cmp .lt (.ix (.var 0) (.bin .sub (.var 1) (.con (.int 1)))) (.ix (.var 0) (.var 1)))
def f25_e1 : Ex := (.con (.int 1))
def f25 : FnI := ⟨"_law_ascents", true, ["order", "k"], ["order"], [], (.cons (.ret (.bif .len (.cons (.lcf (.rng (.cons (.con (.int 1)) (.cons (.bif .len (.cons (.var 0) .nil)) .nil))) (.v 1) f25_e0 f25_e1) .nil))) .nil)⟩
def f26_e0 : Ex := (.bin .add (.var 5) (.tup (.cons (.var 6) .nil)))
def f26_b0 : Sms := (.cons (.asg (.v 4) (.bin .add (.var 4) (.lc (.rng (.cons (.bin .add (.var 0) (.con (.int 1))) .nil)) (.v 6) f26_e0))) .nil)
def f26_b1 : Sms := (.cons (.asg (.v 4) (.lst .nil)) (.cons (.for (.v 5) (.seq (.var 2)) f26_b0) (.cons (.asg (.v 2) (.bif .lst (.cons (.var 4) .nil))) .nil)))
def f26_e1 : Ex := (.cmp .eq (.bif .sum (.cons (.var 5) .nil)) (.var 0))
def f26_e2 : Ex := (.var 5)
def f26 : FnI := ⟨"_law_all_parts", true, ["total_sum", "extent", "found", "turn", "longer", "own", "x"], ["total_sum", "extent"], [], (.cons (.asg (.v 2) (.lst (.cons (.tup .nil) .nil))) (.cons (.for (.v 3) (.rng (.cons (.var 1) .nil)) f26_b1) (.cons (.ret (.rev (.lcf (.seq (.var 2)) (.v 5) f26_e1 f26_e2))) .nil)))⟩
def f27_s0 : Sm := (.asg (.v 1) (.call 14 (.cons (.var 0) .nil)))
def f27_s1 : Sm := (.par2 2 3 (.bin .sub (.callio 15 1 (.cons (.con (.int 9)) .nil)) (.con (.int 4))) (.bin .sub (.callio 15 1 (.cons (.con (.int 9)) .nil)) (.con (.int 2))))
def f27_b0 : Sms := (.cons (.asg (.v 5) (.call 17 (.cons (.var 4) .nil))) (.cons (.ifs (.or (.not (.call 16 (.cons (.call 0 (.cons (.var 4) .nil)) (.cons (.var 5) .nil)))) (.not (.call 16 (.cons (.call 1 (.cons (.var 4) (.cons (.var 2) (.cons (.var 3) .nil)))) (.cons (.ite (.var 5) (.and (.var 5) (.chain .le .le (.var 2) (.var 4) (.var 3))) (.con (.bl false))) .nil))))) (.cons (.ret (.con (.bl false))) .nil) .nil) .nil))
def f27_s2 : Sm := (.for (.v 4) (.seq (.lst (.cons (.con (.int 0)) (.cons (.con (.int 3)) (.cons (.neg (.con (.int 2))) (.cons (.con (.bl true)) (.cons (.con (.bl false)) (.cons (.con .non) (.cons (.con (.str "1")) (.cons (.tup .nil) (.cons (.tup (.cons (.con (.int 1)) .nil)) (.cons (.var 2) (.cons (.var 3) (.cons (.bin .add (.var 3) (.con (.int 1))) (.cons (.bin .sub (.var 2) (.con (.int 1))) .nil))))))))))))))) f27_b0)
def f27_s3 : Sm := (.par [6, 7, 8] (.cons (.bin .sub (.callio 15 1 (.cons (.con (.int 121)) .nil)) (.con (.int 60))) (.cons (.bin .sub (.callio 15 1 (.cons (.con (.int 121)) .nil)) (.con (.int 60))) (.cons (.callio 15 1 (.cons (.con (.int 8)) .nil)) .nil))))
def f27_s4 : Sm := (.asg (.v 9) (.con (.int 0)))
def f27_b1 : Sms := (.cons (.ifs (.and (.cmp .eq (.bin .mod (.bif .int (.cons (.var 6) .nil)) (.var 10)) (.con (.int 0))) (.and (.cmp .eq (.bin .mod (.bif .int (.cons (.var 7) .nil)) (.var 10)) (.con (.int 0))) (.or (.cmp .le (.var 10) (.bif .abs (.cons (.var 6) .nil))) (.cmp .le (.var 10) (.bif .abs (.cons (.var 7) .nil)))))) (.cons (.asg (.v 9) (.var 10)) .nil) .nil) .nil)
def f27_s5 : Sm := (.for (.v 10) (.rng (.cons (.con (.int 1)) (.cons (.con (.int 61)) .nil))) f27_b1)
def f27_s6 : Sm := (.asg (.v 11) (.con (.int 1)))
def f27_b2 : Sms := (.cons (.asg (.v 11) (.bin .mul (.var 11) (.var 6))) .nil)
def f27_s7 : Sm := (.for (.v 12) (.rng (.cons (.var 8) .nil)) f27_b2)
def f27_s8 : Sm := (.ifs (.or (.not (.call 18 (.cons (.call 3 (.cons (.var 6) (.cons (.var 7) .nil))) (.cons (.var 9) .nil)))) (.or (.not (.call 18 (.cons (.call 6 (.cons (.var 6) (.cons (.var 8) .nil))) (.cons (.var 11) .nil)))) (.not (.call 18 (.cons (.call 7 (.cons (.var 6) .nil)) (.cons (.call 21 (.cons (.bif .abs (.cons (.var 6) .nil)) .nil)) .nil)))))) (.cons (.ret (.con (.bl false))) .nil) .nil)
def f27_s9 : Sm := (.par2 13 14 (.callio 15 1 (.cons (.con (.int 12)) .nil)) (.bin .sub (.callio 15 1 (.cons (.con (.int 14)) .nil)) (.con (.int 1))))
def f27_s10 : Sm := (.asg (.v 15) (.lst (.cons (.con (.int 1)) .nil)))
def f27_e0 : Ex := (.bin .add (.var 16) (.var 17))
def f27_b3 : Sms := (.cons (.asg (.v 15) (.lc (.zip (.cons (.bin .add (.var 15) (.lst (.cons (.con (.int 0)) .nil))) (.cons (.bin .add (.lst (.cons (.con (.int 0)) .nil)) (.var 15)) .nil))) (.tp [16, 17]) f27_e0)) .nil)
def f27_s11 : Sm := (.for (.v 12) (.rng (.cons (.var 13) .nil)) f27_b3)
def f27_s12 : Sm := (.ifs (.or (.not (.call 18 (.cons (.call 4 (.cons (.var 13) .nil)) (.cons (.call 23 (.cons (.var 13) .nil)) .nil)))) (.not (.call 18 (.cons (.call 5 (.cons (.var 13) (.cons (.var 14) .nil))) (.cons (.ite (.chain .le .le (.con (.int 0)) (.var 14) (.var 13)) (.ix (.var 15) (.var 14)) (.con (.int 0))) .nil))))) (.cons (.ret (.con (.bl false))) .nil) .nil)
def f27_e1 : Ex := (.callio 15 1 (.cons (.con (.int 4)) .nil))
def f27_s13 : Sm := (.asg (.v 18) (.bif .tup (.cons (.lc (.rng (.cons (.callio 15 1 (.cons (.con (.int 4)) .nil)) .nil)) (.v 12) f27_e1) .nil)))
def f27_s14 : Sm := (.asg (.v 5) (.call 23 (.cons (.bif .sum (.cons (.var 18) .nil)) .nil)))
def f27_b4 : Sms := (.cons (.asg (.v 5) (.bin .fdiv (.var 5) (.call 23 (.cons (.var 16) .nil)))) .nil)
def f27_s15 : Sm := (.for (.v 16) (.seq (.var 18)) f27_b4)
def f27_s16 : Sm := (.ifs (.not (.call 18 (.cons (.call 11 (.cons (.var 18) .nil)) (.cons (.var 5) .nil)))) (.cons (.ret (.con (.bl false))) .nil) .nil)
def f27_s17 : Sm := (.asg (.v 19) (.callio 15 1 (.cons (.con (.int 6)) .nil)))
def f27_s18 : Sm := (.asg (.v 20) (.call 22 (.cons (.trng1 false (.var 19)) .nil)))
def f27_e2 : Ex := (.cmp .eq (.call 25 (.cons (.var 22) .nil)) (.var 23))
def f27_e3 : Ex := (.var 22)
def f27_e4 : Ex := (.bif .len (.cons (.lcf (.seq (.var 20)) (.v 22) f27_e2 f27_e3) .nil))
def f27_s19 : Sm := (.asg (.v 21) (.lc (.rng (.cons (.bin .add (.var 19) (.con (.int 1))) .nil)) (.v 23) f27_e4))
def f27_e5 : Ex := (.call 8 (.cons (.var 19) (.cons (.var 23) .nil)))
def f27_s20 : Sm := (.ifs (.or (.cmp .ne (.lc (.rng (.cons (.bin .add (.var 19) (.con (.int 1))) .nil)) (.v 23) f27_e5) (.var 21)) (.cmp .ne (.call 8 (.cons (.var 19) (.cons (.neg (.con (.int 1))) .nil))) (.con (.int 0)))) (.cons (.ret (.con (.bl false))) .nil) .nil)
def f27_s21 : Sm := (.asg (.v 24) (.bin .add (.con (.int 7)) (.callio 15 1 (.cons (.con (.int 24)) .nil))))
def f27_e6 : Ex := (.cmp .ne (.call 8 (.cons (.var 24) (.cons (.var 23) .nil))) (.call 8 (.cons (.var 24) (.cons (.bin .sub (.bin .sub (.var 24) (.con (.int 1))) (.var 23)) .nil))))
def f27_e7 : Ex := (.call 8 (.cons (.var 24) (.cons (.var 23) .nil)))
def f27_s22 : Sm := (.ifs (.or (.cmp .ne (.bif .sum (.cons (.lc (.rng (.cons (.var 24) .nil)) (.v 23) f27_e7) .nil)) (.call 23 (.cons (.var 24) .nil))) (.bif .any (.cons (.lc (.rng (.cons (.var 24) .nil)) (.v 23) f27_e6) .nil))) (.cons (.ret (.con (.bl false))) .nil) .nil)
def f27_s23 : Sm := (.asg (.tp [25, 26]) (.tup (.cons (.callio 15 1 (.cons (.con (.int 7)) .nil)) (.cons (.callio 15 1 (.cons (.con (.int 5)) .nil)) .nil))))
def f27_e8 : Ex := (.cmp .eq (.bif .len (.cons (.var 22) .nil)) (.var 26))
def f27_e9 : Ex := (.var 22)
def f27_s24 : Sm := (.ifs (.not (.call 18 (.cons (.call 9 (.cons (.var 25) (.cons (.var 26) .nil))) (.cons (.call 24 (.cons (.lcf (.seq (.call 20 (.cons (.var 25) .nil))) (.v 22) f27_e8 f27_e9) .nil)) .nil)))) (.cons (.ret (.con (.bl false))) .nil) .nil)
def f27_s25 : Sm := (.ifs (.or (.not (.call 18 (.cons (.call 10 (.cons (.var 26) (.cons (.con (.int 3)) .nil))) (.cons (.bif .tup (.cons (.call 26 (.cons (.var 26) (.cons (.con (.int 3)) .nil))) .nil)) .nil)))) (.not (.call 18 (.cons (.call 10 (.cons (.var 26) (.cons (.con (.int 1)) .nil))) (.cons (.tup (.cons (.tup (.cons (.var 26) .nil)) .nil)) .nil))))) (.cons (.ret (.con (.bl false))) .nil) .nil)
def f27_s26 : Sm := (.ifs (.or (.cmp .ne (.call 10 (.cons (.con (.int 0)) (.cons (.con (.int 0)) .nil))) (.tup (.cons (.tup .nil) .nil))) (.or (.cmp .ne (.call 10 (.cons (.con (.int 2)) (.cons (.con (.int 0)) .nil))) (.tup .nil)) (.cmp .ne (.bif .len (.cons (.call 10 (.cons (.var 26) (.cons (.con (.int 2)) .nil))) .nil)) (.bin .add (.var 26) (.con (.int 1)))))) (.cons (.ret (.con (.bl false))) .nil) .nil)
def f27_e10 : Ex := (.bin .sub (.callio 15 1 (.cons (.con (.int 9)) .nil)) (.con (.int 4)))
def f27_s27 : Sm := (.asg (.v 27) (.lc (.rng (.cons (.callio 15 1 (.cons (.con (.int 8)) .nil)) .nil)) (.v 12) f27_e10))
def f27_s28 : Sm := (.ifs (.or (.not (.call 18 (.cons (.call 12 (.cons (.var 27) .nil)) (.cons (.call 24 (.cons (.var 27) .nil)) .nil)))) (.not (.call 18 (.cons (.call 12 (.cons (.bif .tup (.cons (.var 27) .nil)) .nil)) (.cons (.call 24 (.cons (.var 27) .nil)) .nil))))) (.cons (.ret (.con (.bl false))) .nil) .nil)
def f27_e11 : Ex := (.bin .sub (.callio 15 1 (.cons (.con (.int 3)) .nil)) (.con (.int 1)))
def f27_s29 : Sm := (.asg (.v 28) (.lc (.rng (.cons (.callio 15 1 (.cons (.con (.int 8)) .nil)) .nil)) (.v 12) f27_e11))
def f27_e12 : Ex := (.cmp .ne (.var 23) (.con (.int 0)))
def f27_e13 : Ex := (.var 23)
def f27_s30 : Sm := (.asg (.v 29) (.lcf (.seq (.var 28)) (.v 23) f27_e12 f27_e13))
def f27_e14 : Ex := (.cmp .ne (.ix (.var 29) (.var 23)) (.ix (.var 29) (.bin .sub (.var 23) (.con (.int 1)))))
def f27_e15 : Ex := (.con (.int 1))
def f27_s31 : Sm := (.ifs (.not (.call 18 (.cons (.call 13 (.cons (.var 28) .nil)) (.cons (.bif .len (.cons (.lcf (.rng (.cons (.con (.int 1)) (.cons (.bif .len (.cons (.var 29) .nil)) .nil))) (.v 23) f27_e14 f27_e15) .nil)) .nil)))) (.cons (.ret (.con (.bl false))) .nil) .nil)
def f27_e16 : Ex := (.ix (.call 19 (.cons (.gfn 8) (.cons (.tup (.cons (.var 30) (.cons (.con (.int 1)) .nil))) .nil))) (.con (.int 0)))
def f27_s32 : Sm := (.ret (.cmp .eq (.lc (.seq (.tup (.cons (.neg (.con (.int 1))) (.cons (.con (.int 31)) (.cons (.con .non) (.cons (.con (.bl true)) .nil)))))) (.v 30) f27_e16) (.bin .mul (.lst (.cons (.con (.str "malformed")) .nil)) (.con (.int 4)))))
def f27 : FnI := ⟨"law", true, ["script", "state", "low", "high", "value", "whole", "a", "b", "k", "best", "d", "raised", "turn", "n", "m", "row", "x", "y", "parts", "extent", "orders", "counts", "own", "s", "big", "wide", "some", "drawn", "signs", "live", "bad"], ["script"], [], (.cons f27_s0 (.cons f27_s1 (.cons f27_s2 (.cons f27_s3 (.cons f27_s4 (.cons f27_s5 (.cons f27_s6 (.cons f27_s7 (.cons f27_s8 (.cons f27_s9 (.cons f27_s10 (.cons f27_s11 (.cons f27_s12 (.cons f27_s13 (.cons f27_s14 (.cons f27_s15 (.cons f27_s16 (.cons f27_s17 (.cons f27_s18 (.cons f27_s19 (.cons f27_s20 (.cons f27_s21 (.cons f27_s22 (.cons f27_s23 (.cons f27_s24 (.cons f27_s25 (.cons f27_s26 (.cons f27_s27 (.cons f27_s28 (.cons f27_s29 (.cons f27_s30 (.cons f27_s31 (.cons f27_s32 .nil)))))))))))))))))))))))))))))))))⟩
def P : Prg := ⟨[f0, f1, f2, f3, f4, f5, f6, f7, f8, f9, f10, f11, f12, f13, f14, f15, f16, f17, f18, f19, f20, f21, f22, f23, f24, f25, f26, f27], [], [⟨"Malformed", none⟩, ⟨"Refused", some "reason"⟩]⟩
def frs : List Str := ["abs", "all", "any", "bool", "int", "isinstance", "len", "list", "range", "str", "sum", "tuple", "zip"]
end K00
set_option Elab.async false
set_option linter.all false
set_option maxRecDepth 100000
set_option maxHeartbeats 4000000
namespace K00
open PySem L2 PV
section
variable {n : Nat}
theorem take_k {ds : List D} (hs : StOk ds) (m : Int) (hm : 0 < m) (hm2 : m.natAbs.log2 < 9000) :
    ∃ (v : Int) (ds' : List D), fnEv P 100 (n + 1) 15 (.io ds) [.int m] = .ok (.sh (.int v), ds') ∧ 0 ≤ v ∧ v < m ∧ StOk ds' := take_ev (f := f15) rfl rfl rfl rfl hs hm hm2
theorem is_whole (d : D) (h : ∀ k, d ≠ .fn k) (h2 : ∀ k, d ≠ .ro k) : fnEv P 100 (n + 1) 17 .no [d] = .ok (.sh (.bl (match d with | .int _ => true | _ => false)), []) := by
  refine fn_no (f := f17) (σ' := [.sh d]) rfl rfl ?_
  cases d <;> simp [f17, isiD, isi1] at h h2 ⊢
theorem is_integer (d : D) (h : ∀ k, d ≠ .fn k) (h2 : ∀ k, d ≠ .ro k) : fnEv P 100 (n + 1) 0 .no [d] = .ok (.sh (.bl (match d with | .int _ => true | _ => false)), []) := by
  refine fn_no (f := f0) (σ' := [.sh d]) rfl rfl ?_
  cases d <;> simp [f0, isiD, isi1] at h h2 ⊢
theorem is_count (d : D) (h : ∀ k, d ≠ .fn k) (h2 : ∀ k, d ≠ .ro k) (lo hi : Int) : fnEv P 100 (n + 2) 1 .no [d, .int lo, .int hi] = .ok (.sh (.bl (match d with | .int i => decide (lo ≤ i) && decide (i ≤ hi) | _ => false)), []) := by
  refine fn_no (f := f1) (σ' := [.sh d, .sh (.int lo), .sh (.int hi)]) rfl rfl ?_
  have e := is_integer (n := n) d h h2
  cases d with
  | int i => by_cases q : lo ≤ i <;> simp [f1, e, cmpD, ordD, q]
  | _ => simp [f1, e]
theorem says (a b : Bool) : fnEv P 100 (n + 1) 16 .no [.bl a, .bl b] = .ok (.sh (.bl (a == b)), []) := by
  refine fn_no (f := f16) (σ' := [.sh (.bl a), .sh (.bl b)]) rfl rfl ?_
  simp [f16, isiD, isi1, cmpD]

/-! ### is_integer, is_count -/
def okv (d : D) : Prop := (∀ k, d ≠ .fn k) ∧ (∀ k, d ≠ .ro k)
theorem b0_turn {c0 c1 c4 c5 : Cell} {lo hi : Int} {t : En} (h4 : asg c4 = true) (h5 : asg c5 = true) (d : D) (h : okv d) :
    ∃ d4 d5, forF P (fnEv P 100 (n + 2)) 100 (.v 4) f27_b0 d (c0 :: c1 :: .sh (.int lo) :: .sh (.int hi) :: c4 :: c5 :: t) = .ok (.nx, c0 :: c1 :: .sh (.int lo) :: .sh (.int hi) :: .sh d4 :: .sh d5 :: t) := by
  refine ⟨d, (.bl (match d with | .int _ => true | _ => false)), ?_⟩
  have e1 := is_whole (n := n + 1) d h.1 h.2
  have e2 := is_integer (n := n + 1) d h.1 h.2
  have e3 := is_count (n := n) d h.1 h.2 lo hi
  have e4 := fun a b => says (n := n + 1) a b
  cases d with
  | int i => by_cases q : lo ≤ i <;> simp [forF, f27_b0, e1, e2, e3, e4, h4, h5, cmpD, ordD, q]
  | _ => simp [forF, f27_b0, e1, e2, e3, e4, h4, h5]
theorem b0_loop {c0 c1 : Cell} {lo hi : Int} {t : En} : ∀ (ds : List D) (d : D) (c4 c5 : Cell), asg c4 = true → asg c5 = true → (∀ x ∈ d :: ds, okv x) →
    ∃ d4 d5, forL (forF P (fnEv P 100 (n + 2)) 100 (.v 4) f27_b0) (d :: ds) (c0 :: c1 :: .sh (.int lo) :: .sh (.int hi) :: c4 :: c5 :: t) = .ok (.nx, c0 :: c1 :: .sh (.int lo) :: .sh (.int hi) :: .sh d4 :: .sh d5 :: t)
  | [], d, c4, c5, h4, h5, h => by
    obtain ⟨d4, d5, e⟩ := b0_turn (n := n) (c0 := c0) (c1 := c1) (lo := lo) (hi := hi) (t := t) h4 h5 d (h d (List.mem_cons_self ..))
    refine ⟨d4, d5, ?_⟩
    simp only [forL, e, bnd_ok]
  | d' :: ds, d, c4, c5, h4, h5, h => by
    obtain ⟨d4, d5, e⟩ := b0_turn (n := n) (c0 := c0) (c1 := c1) (lo := lo) (hi := hi) (t := t) h4 h5 d (h d (List.mem_cons_self ..))
    obtain ⟨d4', d5', e2⟩ := b0_loop ds d' (.sh d4) (.sh d5) rfl rfl (fun x hx => h x (List.mem_cons_of_mem _ hx))
    refine ⟨d4', d5', ?_⟩
    rw [forL, e, bnd_ok]
    exact e2
theorem s1_ok {c0 c2 c3 : Cell} {ds : List D} {t : En} (h2 : asg c2 = true) (h3 : asg c3 = true) (hs : StOk ds) :
    ∃ (lo hi : Int) (ds' : List D), StOk ds' ∧ exS P (fnEv P 100 (n + 2)) 100 f27_s1 (c0 :: .ow ds :: c2 :: c3 :: t) = .ok (.nx, c0 :: .ow ds' :: .sh (.int lo) :: .sh (.int hi) :: t) := by
  obtain ⟨v1, d1, e1, _, _, g1⟩ := take_k (n := n + 1) hs 9 (by decide) (by decide)
  obtain ⟨v2, d2, e2, _, _, g2⟩ := take_k (n := n + 1) g1 9 (by decide) (by decide)
  refine ⟨v1 - 4, v2 - 2, d2, g2, ?_⟩
  simp [f27_s1, e1, e2, binD, h2, h3]
theorem s2_ok {c0 c1 c4 c5 : Cell} {lo hi : Int} {t : En} (h4 : asg c4 = true) (h5 : asg c5 = true) :
    ∃ d4 d5, exS P (fnEv P 100 (n + 2)) 100 f27_s2 (c0 :: c1 :: .sh (.int lo) :: .sh (.int hi) :: c4 :: c5 :: t) = .ok (.nx, c0 :: c1 :: .sh (.int lo) :: .sh (.int hi) :: .sh d4 :: .sh d5 :: t) := by
  obtain ⟨d4, d5, e⟩ := b0_loop (n := n) (c0 := c0) (c1 := c1) (lo := lo) (hi := hi) (t := t) [.int 3, .int (-2), .bl true, .bl false, .non, .str "1", .tup [], .tup [.int 1], .int lo, .int hi, .int (hi + 1), .int (lo - 1)] (.int 0) c4 c5 h4 h5 (by
    intro d hd
    simp only [List.mem_cons, List.not_mem_nil, or_false] at hd
    rcases hd with rfl | rfl | rfl | rfl | rfl | rfl | rfl | rfl | rfl | rfl | rfl | rfl | rfl <;> exact ⟨fun _ => nofun, fun _ => nofun⟩)
  refine ⟨d4, d5, ?_⟩
  simp [f27_s2, binD, negD, e]
end
end K00
set_option Elab.async false
set_option linter.all false
set_option maxRecDepth 100000
set_option maxHeartbeats 4000000
namespace K00
open PySem L2 PV
section
variable {n : Nat}
/-! ### common, power, sign_power -/
def absI (a : Int) : Int := if a < 0 then -a else a
theorem absI_nat (a : Int) : absI a = (a.natAbs : Int) := by unfold absI; split <;> omega
theorem common_loop {cf : CF} {w : Nat} : ∀ (m x y : Nat), y < m → whlL (whC P cf f3_e0) (whB P cf w f3_b0) m [.sh (.int x), .sh (.int y)] = .ok (.nx, [.sh (.int (Nat.gcd x y)), .sh (.int 0)])
  | 0, x, y, h => by omega
  | m + 1, x, 0, h => by
    simp [whlL, whC, f3_e0, cmpD]
  | m + 1, x, y + 1, h => by
    have q : x % (y + 1) < y + 1 := Nat.mod_lt _ (by omega)
    have e := common_loop (cf := cf) (w := w) m (y + 1) (x % (y + 1)) (by omega)
    rw [show Nat.gcd (y + 1) (x % (y + 1)) = Nat.gcd x (y + 1) by rw [Nat.gcd_comm x, Nat.gcd_rec (y + 1) x, Nat.gcd_comm]] at e
    rw [← e]
    have p : (0 : Int) < ((y + 1 : Nat) : Int) := by omega
    have p2 : (0 : Int) < (y : Int) + 1 := by omega
    simp [whlL, whC, whB, f3_e0, f3_b0, cmpD, binD, p, p2]
theorem common_ok (a b : Int) (h : b.natAbs < 100) : fnEv P 100 (n + 1) 3 .no [.int a, .int b] = .ok (.sh (.int (Int.gcd a b)), []) := by
  refine fn_no (f := f3) (σ' := [.sh (.int (Int.gcd a b)), .sh (.int 0)]) rfl rfl ?_
  have e := common_loop (cf := fnEv P 100 n) (w := 100) 100 a.natAbs b.natAbs h
  rw [show Nat.gcd a.natAbs b.natAbs = Int.gcd a b from rfl] at e
  have ea : (if a < 0 then -a else a) = (a.natAbs : Int) := absI_nat a
  have eb : (if b < 0 then -b else b) = (b.natAbs : Int) := absI_nat b
  simp [f3, bifD, ea, eb, e]
theorem pow_log {a : Int} (h : a.natAbs ≤ 60) (j : Nat) : (a ^ j).natAbs.log2 ≤ 6 * j + 1 := by
  have : (a ^ j).natAbs < 2 ^ (6 * j + 1) := by
    rw [Int.natAbs_pow, Nat.pow_succ, Nat.pow_mul]
    have h1 : a.natAbs ^ j ≤ (2 ^ 6) ^ j := Nat.pow_le_pow_left (by omega) j
    have h2 : 0 < (2 ^ 6) ^ j := Nat.pow_pos (by decide)
    omega
  exact Nat.le_of_lt (small_log this (by omega))
theorem pow_turn {cf : CF} {w : Nat} {a : Int} (h : a.natAbs ≤ 60) {k x : Int} {c3 : Cell} (hc : asg c3 = true) {j : Nat} (hj : j < 100) : forF P cf w (.v 3) f6_b0 (.int x) [.sh (.int a), .sh (.int k), .sh (.int (a ^ j)), c3] = .ok (.nx, [.sh (.int a), .sh (.int k), .sh (.int (a ^ (j + 1))), .sh (.int x)]) := by
  have l1 := pow_log h j
  have l2 : a.natAbs.log2 < 7 := small_log (by omega) (by decide)
  have l3 : (a ^ j).natAbs.log2 + a.natAbs.log2 < 100000000 := by omega
  rw [Int.natAbs_pow] at l3
  simp [forF, f6_b0, hc, binD, l3, Int.pow_succ]
theorem power_ok {a : Int} (h : a.natAbs ≤ 60) {k : Nat} (hk : k < 100) : fnEv P 100 (n + 1) 6 .no [.int a, .int k] = .ok (.sh (.int (a ^ k)), []) := by
  obtain ⟨σ', e, c3, hc, rfl⟩ := for_rng (f := forF P (fnEv P 100 n) 100 (.v 3) f6_b0) (lo := 0) (m := k) (fun j σ => ∃ c3, asg c3 = true ∧ σ = [.sh (.int a), .sh (.int k), .sh (.int (a ^ j)), c3]) (σ := [.sh (.int a), .sh (.int k), .sh (.int 1), .un]) ⟨.un, rfl, by rw [Int.pow_zero]⟩ (by rintro i _ hi ⟨c3, hc, rfl⟩; exact ⟨_, pow_turn h hc (by omega), _, rfl, rfl⟩)
  simp only [Int.zero_add] at e
  have r := rngA_1 (k := k) (by omega)
  refine fn_no (f := f6) (σ' := [.sh (.int a), .sh (.int k), .sh (.int (a ^ k)), c3]) rfl rfl ?_
  refine seq_nx (σ' := [.sh (.int a), .sh (.int k), .sh (.int 1), .un]) (by simp [f6]) ?_
  refine seq_nx (for_rng_run (by simp) r e) ?_
  simp
theorem sign_power_ok (a : Int) : fnEv P 100 (n + 1) 7 .no [.int a] = .ok (.sh (.int (if a % 2 = 0 then 1 else -1)), []) := by
  refine fn_no (f := f7) (σ' := [.sh (.int a)]) rfl rfl ?_
  by_cases q : a % 2 = 0 <;> simp [f7, binD, cmpD, negD, q]
theorem sign_of_ok (a : Int) : fnEv P 100 (n + 1) 21 .no [.int a] = .ok (.sh (.int (if a % 2 = 0 then 1 else -1)), []) := by
  refine fn_no (f := f21) (σ' := [.sh (.int a)]) rfl rfl ?_
  by_cases q : a % 2 = 0 <;> simp [f21, bifD, binD, cmpD, negD, q]
theorem same_int (a b : Int) : fnEv P 100 (n + 2) 18 .no [.int a, .int b] = .ok (.sh (.bl (decide (a = b))), []) := by
  refine fn_no (f := f18) (σ' := [.sh (.int a), .sh (.int b), .un]) rfl rfl ?_
  have e := is_whole (n := n) (.int a) nofun nofun
  simp [f18, isiD, isi1, PV.isNon, e, cmpD]

/-! ### the block of common, power, sign_power -/
theorem s3_ok {c0 c2 c3 c4 c5 c6 c7 c8 : Cell} {ds : List D} {t : En} (h6 : asg c6 = true) (h7 : asg c7 = true) (h8 : asg c8 = true) (hs : StOk ds) :
    ∃ (a b : Int) (k : Nat) (ds' : List D), a.natAbs ≤ 60 ∧ b.natAbs ≤ 60 ∧ k < 8 ∧ StOk ds' ∧ exS P (fnEv P 100 (n + 2)) 100 f27_s3 (c0 :: .ow ds :: c2 :: c3 :: c4 :: c5 :: c6 :: c7 :: c8 :: t) = .ok (.nx, c0 :: .ow ds' :: c2 :: c3 :: c4 :: c5 :: .sh (.int a) :: .sh (.int b) :: .sh (.int k) :: t) := by
  obtain ⟨v1, d1, e1, _, _, g1⟩ := take_k (n := n + 1) hs 121 (by decide) (by decide)
  obtain ⟨v2, d2, e2, _, _, g2⟩ := take_k (n := n + 1) g1 121 (by decide) (by decide)
  obtain ⟨v3, d3, e3, _, _, g3⟩ := take_k (n := n + 1) g2 8 (by decide) (by decide)
  refine ⟨v1 - 60, v2 - 60, v3.toNat, d3, by omega, by omega, by omega, g3, ?_⟩
  have ek : ((v3.toNat : Nat) : Int) = v3 := by omega
  simp [f27_s3, e1, e2, e3, binD, h6, h7, h8, ek]
def good (a b d : Int) : Prop := a % d = 0 ∧ b % d = 0 ∧ (d ≤ absI a ∨ d ≤ absI b)
instance (a b d : Int) : Decidable (good a b d) := by unfold good; infer_instance
theorem b1_turn {cf : CF} {w : Nat} {c0 c1 c2 c3 c4 c5 c8 c10 : Cell} {a b best d : Int} {t : En} (hc : asg c10 = true) (hd : 0 < d) :
    forF P cf w (.v 10) f27_b1 (.int d) (c0 :: c1 :: c2 :: c3 :: c4 :: c5 :: .sh (.int a) :: .sh (.int b) :: c8 :: .sh (.int best) :: c10 :: t)
      = .ok (.nx, c0 :: c1 :: c2 :: c3 :: c4 :: c5 :: .sh (.int a) :: .sh (.int b) :: c8 :: .sh (.int (if good a b d then d else best)) :: .sh (.int d) :: t) := by
  by_cases h1 : a % d = 0 <;> by_cases h2 : b % d = 0 <;> by_cases h3 : d ≤ absI a <;> by_cases h4 : d ≤ absI b <;> simp only [absI] at h3 h4 <;>
  simp [forF, f27_b1, good, absI, hc, hd, h1, h2, h3, h4, bifD, binD, cmpD, ordD]
end
end K00
set_option Elab.async false
set_option linter.all false
set_option maxRecDepth 100000
set_option maxHeartbeats 4000000
namespace K00
open PySem L2 PV
section
variable {n : Nat}
theorem good_gcd {a b : Int} (ha : a.natAbs ≤ 60) (hb : b.natAbs ≤ 60) (h : 0 < Int.gcd a b) : good a b (Int.gcd a b) ∧ Int.gcd a b ≤ 60 := by
  have h1 : ((Int.gcd a b : Nat) : Int) ∣ a := Int.gcd_dvd_left ..
  have h2 : ((Int.gcd a b : Nat) : Int) ∣ b := Int.gcd_dvd_right ..
  have n1 : Int.gcd a b ∣ a.natAbs := Nat.gcd_dvd_left _ _
  have n2 : Int.gcd a b ∣ b.natAbs := Nat.gcd_dvd_right _ _
  by_cases z : a.natAbs = 0
  · have zb : b.natAbs ≠ 0 := by
      intro q
      have : Int.gcd a b = 0 := by unfold Int.gcd; rw [z, q]; rfl
      omega
    have l := Nat.le_of_dvd (Nat.pos_of_ne_zero zb) n2
    refine ⟨⟨Int.emod_eq_zero_of_dvd h1, Int.emod_eq_zero_of_dvd h2, .inr ?_⟩, by omega⟩
    rw [absI_nat]; omega
  · have l := Nat.le_of_dvd (Nat.pos_of_ne_zero z) n1
    refine ⟨⟨Int.emod_eq_zero_of_dvd h1, Int.emod_eq_zero_of_dvd h2, .inl ?_⟩, by omega⟩
    rw [absI_nat]; omega
theorem good_le {a b : Int} {d : Nat} (hd : 0 < d) (h : good a b d) : 0 < Int.gcd a b ∧ d ≤ Int.gcd a b := by
  obtain ⟨h1, h2, h3⟩ := h
  have n1 : (d : Int) ∣ a := Int.dvd_of_emod_eq_zero h1
  have n2 : (d : Int) ∣ b := Int.dvd_of_emod_eq_zero h2
  have m1 : d ∣ a.natAbs := by have := Int.natAbs_dvd_natAbs.mpr n1; rwa [Int.natAbs_natCast] at this
  have m2 : d ∣ b.natAbs := by have := Int.natAbs_dvd_natAbs.mpr n2; rwa [Int.natAbs_natCast] at this
  have g : d ∣ Int.gcd a b := Nat.dvd_gcd m1 m2
  have p : 0 < Int.gcd a b := by
    rcases Nat.eq_zero_or_pos (Int.gcd a b) with q | q
    · have qa : a.natAbs = 0 := Nat.eq_zero_of_gcd_eq_zero_left q
      have qb : b.natAbs = 0 := Nat.eq_zero_of_gcd_eq_zero_right q
      rw [absI_nat, absI_nat, qa, qb] at h3
      omega
    · exact q
  exact ⟨p, Nat.le_of_dvd p g⟩
/-- the greatest of the good numbers to j -/
def bestTo (a b : Int) : Nat → Int
  | 0 => 0
  | j + 1 => if good a b (j + 1 : Nat) then (j + 1 : Nat) else bestTo a b j
theorem bestTo_le {a b : Int} : ∀ j, (∀ d : Nat, 0 < d → d ≤ j → good a b d → (d : Int) ≤ bestTo a b j) ∧ (bestTo a b j = 0 ∨ ∃ d : Nat, 0 < d ∧ d ≤ j ∧ good a b d ∧ bestTo a b j = d)
  | 0 => ⟨fun d h1 h2 => by omega, .inl rfl⟩
  | j + 1 => by
    obtain ⟨i1, i2⟩ := bestTo_le (a := a) (b := b) j
    unfold bestTo
    split
    · rename_i g
      exact ⟨fun d _ h2 _ => by omega, .inr ⟨j + 1, by omega, by omega, g, rfl⟩⟩
    · rename_i g
      refine ⟨fun d h1 h2 h3 => ?_, ?_⟩
      · by_cases e : d = j + 1
        · subst e; exact absurd h3 g
        · exact i1 d h1 (by omega) h3
      · rcases i2 with q | ⟨d, q1, q2, q3⟩
        · exact .inl q
        · exact .inr ⟨d, q1, by omega, q3⟩
theorem best_gcd {a b : Int} (ha : a.natAbs ≤ 60) (hb : b.natAbs ≤ 60) : bestTo a b 60 = Int.gcd a b := by
  obtain ⟨i1, i2⟩ := bestTo_le (a := a) (b := b) 60
  rcases Nat.eq_zero_or_pos (Int.gcd a b) with q | q
  · rcases i2 with e | ⟨d, q1, q2, q3, q4⟩
    · rw [e, q]; rfl
    · have := (good_le q1 q3).1; omega
  · obtain ⟨g, l⟩ := good_gcd ha hb q
    have h1 := i1 _ q l g
    rcases i2 with e | ⟨d, q1, q2, q3, q4⟩
    · omega
    · have := (good_le q1 q3).2; omega
theorem s5_ok {c0 c1 c2 c3 c4 c5 c8 c10 : Cell} {a b : Int} {t : En} (hc : asg c10 = true) (ha : a.natAbs ≤ 60) (hb : b.natAbs ≤ 60) :
    ∃ c10', asg c10' = true ∧ exS P (fnEv P 100 (n + 2)) 100 f27_s5 (c0 :: c1 :: c2 :: c3 :: c4 :: c5 :: .sh (.int a) :: .sh (.int b) :: c8 :: .sh (.int 0) :: c10 :: t)
      = .ok (.nx, c0 :: c1 :: c2 :: c3 :: c4 :: c5 :: .sh (.int a) :: .sh (.int b) :: c8 :: .sh (.int (Int.gcd a b)) :: c10' :: t) := by
  obtain ⟨σ', e, c10', hc', rfl⟩ := for_rng (f := forF P (fnEv P 100 (n + 2)) 100 (.v 10) f27_b1) (lo := 1) (m := 60) (fun j σ => ∃ c10, asg c10 = true ∧ σ = c0 :: c1 :: c2 :: c3 :: c4 :: c5 :: .sh (.int a) :: .sh (.int b) :: c8 :: .sh (.int (bestTo a b j)) :: c10 :: t) ⟨c10, hc, rfl⟩ (by
    rintro i _ hi ⟨c, h, rfl⟩
    refine ⟨_, b1_turn h (by omega), .sh (.int (1 + (i : Int))), rfl, ?_⟩
    rw [show (1 : Int) + (i : Int) = ((i + 1 : Nat) : Int) by omega]
    rfl)
  rw [best_gcd ha hb] at e
  refine ⟨c10', hc', ?_⟩
  refine for_rng_run (σ1 := c0 :: c1 :: c2 :: c3 :: c4 :: c5 :: .sh (.int a) :: .sh (.int b) :: c8 :: .sh (.int 0) :: c10 :: t) (by simp) (rngA_2 (k := 60) rfl (by decide) (by decide)) e
theorem b2_turn {cf : CF} {w : Nat} {c0 c1 c2 c3 c4 c5 c7 c8 c9 c10 c12 : Cell} {a x : Int} {t : En} (h : asg c12 = true) (ha : a.natAbs ≤ 60) {j : Nat} (hj : j < 100) :
    forF P cf w (.v 12) f27_b2 (.int x) (c0 :: c1 :: c2 :: c3 :: c4 :: c5 :: .sh (.int a) :: c7 :: c8 :: c9 :: c10 :: .sh (.int (a ^ j)) :: c12 :: t) = .ok (.nx, c0 :: c1 :: c2 :: c3 :: c4 :: c5 :: .sh (.int a) :: c7 :: c8 :: c9 :: c10 :: .sh (.int (a ^ (j + 1))) :: .sh (.int x) :: t) := by
  have l1 := pow_log ha j
  have l2 : a.natAbs.log2 < 7 := small_log (by omega) (by decide)
  have l3 : (a ^ j).natAbs.log2 + a.natAbs.log2 < 100000000 := by omega
  rw [Int.natAbs_pow] at l3
  simp [forF, f27_b2, h, binD, l3, Int.pow_succ]
theorem s7_ok {c0 c1 c2 c3 c4 c5 c7 c9 c10 c12 : Cell} {a : Int} {k : Nat} {t : En} (hc : asg c12 = true) (ha : a.natAbs ≤ 60) (hk : k < 100) :
    ∃ c12', asg c12' = true ∧ exS P (fnEv P 100 (n + 2)) 100 f27_s7 (c0 :: c1 :: c2 :: c3 :: c4 :: c5 :: .sh (.int a) :: c7 :: .sh (.int k) :: c9 :: c10 :: .sh (.int 1) :: c12 :: t)
      = .ok (.nx, c0 :: c1 :: c2 :: c3 :: c4 :: c5 :: .sh (.int a) :: c7 :: .sh (.int k) :: c9 :: c10 :: .sh (.int (a ^ k)) :: c12' :: t) := by
  obtain ⟨σ', e, c12', hc', rfl⟩ := for_rng (f := forF P (fnEv P 100 (n + 2)) 100 (.v 12) f27_b2) (lo := 0) (m := k) (fun j σ => ∃ c12, asg c12 = true ∧ σ = c0 :: c1 :: c2 :: c3 :: c4 :: c5 :: .sh (.int a) :: c7 :: .sh (.int k) :: c9 :: c10 :: .sh (.int (a ^ j)) :: c12 :: t) (σ := c0 :: c1 :: c2 :: c3 :: c4 :: c5 :: .sh (.int a) :: c7 :: .sh (.int k) :: c9 :: c10 :: .sh (.int 1) :: c12 :: t) ⟨c12, hc, by rw [Int.pow_zero]⟩ (by
    rintro i _ hi ⟨c, h, rfl⟩
    exact ⟨_, b2_turn h ha (by omega), _, rfl, rfl⟩)
  simp only [Int.zero_add] at e
  refine ⟨c12', hc', ?_⟩
  have r := rngA_1 (k := k) (by omega)
  exact for_rng_run (by simp) r e
end
end K00
set_option Elab.async false
set_option linter.all false
set_option maxRecDepth 100000
set_option maxHeartbeats 4000000
namespace K00
open PySem L2 PV
section
variable {n : Nat}
theorem s8_ok {c0 c1 c2 c3 c4 c5 c10 : Cell} {a b : Int} {k : Nat} {t : En} (ha : a.natAbs ≤ 60) (hb : b.natAbs ≤ 60) (hk : k < 100) :
    exS P (fnEv P 100 (n + 2)) 100 f27_s8 (c0 :: c1 :: c2 :: c3 :: c4 :: c5 :: .sh (.int a) :: .sh (.int b) :: .sh (.int k) :: .sh (.int (Int.gcd a b)) :: c10 :: .sh (.int (a ^ k)) :: t)
      = .ok (.nx, c0 :: c1 :: c2 :: c3 :: c4 :: c5 :: .sh (.int a) :: .sh (.int b) :: .sh (.int k) :: .sh (.int (Int.gcd a b)) :: c10 :: .sh (.int (a ^ k)) :: t) := by
  have e1 := common_ok (n := n + 1) a b (by omega)
  have e2 := power_ok (n := n + 1) ha hk
  have e3 := sign_power_ok (n := n + 1) a
  have e4 := sign_of_ok (n := n + 1) (if a < 0 then -a else a)
  have e5 := fun a b => same_int (n := n) a b
  have e6 : (if (if a < 0 then -a else a) % 2 = 0 then (1 : Int) else -1) = (if a % 2 = 0 then 1 else -1) := by
    split <;> split <;> split at * <;> omega
  rw [e6] at e4
  generalize ((Int.gcd a b : Nat) : Int) = g at *
  generalize a ^ k = p at *
  generalize (if a % 2 = 0 then (1 : Int) else -1) = q at *
  simp [f27_s8, e1, e2, e3, e4, e5, bifD]
end
end K00
set_option Elab.async false
set_option linter.all false
set_option maxRecDepth 100000
set_option maxHeartbeats 4000000
namespace K00
open PySem L2 PV
section
variable {n : Nat}

def rowD : Nat → List D
  | 0 => [.int 1]
  | 1 => [.int 1, .int 1]
  | 2 => [.int 1, .int 2, .int 1]
  | 3 => [.int 1, .int 3, .int 3, .int 1]
  | 4 => [.int 1, .int 4, .int 6, .int 4, .int 1]
  | 5 => [.int 1, .int 5, .int 10, .int 10, .int 5, .int 1]
  | 6 => [.int 1, .int 6, .int 15, .int 20, .int 15, .int 6, .int 1]
  | 7 => [.int 1, .int 7, .int 21, .int 35, .int 35, .int 21, .int 7, .int 1]
  | 8 => [.int 1, .int 8, .int 28, .int 56, .int 70, .int 56, .int 28, .int 8, .int 1]
  | 9 => [.int 1, .int 9, .int 36, .int 84, .int 126, .int 126, .int 84, .int 36, .int 9, .int 1]
  | 10 => [.int 1, .int 10, .int 45, .int 120, .int 210, .int 252, .int 210, .int 120, .int 45, .int 10, .int 1]
  | 11 => [.int 1, .int 11, .int 55, .int 165, .int 330, .int 462, .int 462, .int 330, .int 165, .int 55, .int 11, .int 1]
  | _ => []
theorem s11_ok {c0 c1 c2 c3 c4 c5 c6 c7 c8 c9 c10 c11 c12 c14 : Cell} {t : En} (h : asg c12 = true) (v : Nat) (hv : v < 12) : ∃ c12', asg c12' = true ∧ exSs P (fnEv P 100 (n + 4)) 100 (.cons f27_s10 (.cons f27_s11 .nil)) (c0 :: c1 :: c2 :: c3 :: c4 :: c5 :: c6 :: c7 :: c8 :: c9 :: c10 :: c11 :: c12 :: .sh (.int v) :: c14 :: .un :: .un :: .un :: t) = .ok (.nx, c0 :: c1 :: c2 :: c3 :: c4 :: c5 :: c6 :: c7 :: c8 :: c9 :: c10 :: c11 :: c12' :: .sh (.int v) :: c14 :: .ow (rowD v) :: .un :: .un :: t) := by
  match c12, h, v, hv with
  | .un, _, 0, _ => exact ⟨.un, rfl, by kernel_rfl⟩
  | .un, _, 1, _ => exact ⟨.sh (.int 0), rfl, by kernel_rfl⟩
  | .un, _, 2, _ => exact ⟨.sh (.int 1), rfl, by kernel_rfl⟩
  | .un, _, 3, _ => exact ⟨.sh (.int 2), rfl, by kernel_rfl⟩
  | .un, _, 4, _ => exact ⟨.sh (.int 3), rfl, by kernel_rfl⟩
  | .un, _, 5, _ => exact ⟨.sh (.int 4), rfl, by kernel_rfl⟩
  | .un, _, 6, _ => exact ⟨.sh (.int 5), rfl, by kernel_rfl⟩
  | .un, _, 7, _ => exact ⟨.sh (.int 6), rfl, by kernel_rfl⟩
  | .un, _, 8, _ => exact ⟨.sh (.int 7), rfl, by kernel_rfl⟩
  | .un, _, 9, _ => exact ⟨.sh (.int 8), rfl, by kernel_rfl⟩
  | .un, _, 10, _ => exact ⟨.sh (.int 9), rfl, by kernel_rfl⟩
  | .un, _, 11, _ => exact ⟨.sh (.int 10), rfl, by kernel_rfl⟩
  | .sh d, _, 0, _ => exact ⟨.sh d, rfl, by kernel_rfl⟩
  | .sh d, _, 1, _ => exact ⟨.sh (.int 0), rfl, by kernel_rfl⟩
  | .sh d, _, 2, _ => exact ⟨.sh (.int 1), rfl, by kernel_rfl⟩
  | .sh d, _, 3, _ => exact ⟨.sh (.int 2), rfl, by kernel_rfl⟩
  | .sh d, _, 4, _ => exact ⟨.sh (.int 3), rfl, by kernel_rfl⟩
  | .sh d, _, 5, _ => exact ⟨.sh (.int 4), rfl, by kernel_rfl⟩
  | .sh d, _, 6, _ => exact ⟨.sh (.int 5), rfl, by kernel_rfl⟩
  | .sh d, _, 7, _ => exact ⟨.sh (.int 6), rfl, by kernel_rfl⟩
  | .sh d, _, 8, _ => exact ⟨.sh (.int 7), rfl, by kernel_rfl⟩
  | .sh d, _, 9, _ => exact ⟨.sh (.int 8), rfl, by kernel_rfl⟩
  | .sh d, _, 10, _ => exact ⟨.sh (.int 9), rfl, by kernel_rfl⟩
  | .sh d, _, 11, _ => exact ⟨.sh (.int 10), rfl, by kernel_rfl⟩
  | .ow d, _, 0, _ => exact ⟨.ow d, rfl, by kernel_rfl⟩
  | .ow d, _, 1, _ => exact ⟨.sh (.int 0), rfl, by kernel_rfl⟩
  | .ow d, _, 2, _ => exact ⟨.sh (.int 1), rfl, by kernel_rfl⟩
  | .ow d, _, 3, _ => exact ⟨.sh (.int 2), rfl, by kernel_rfl⟩
  | .ow d, _, 4, _ => exact ⟨.sh (.int 3), rfl, by kernel_rfl⟩
  | .ow d, _, 5, _ => exact ⟨.sh (.int 4), rfl, by kernel_rfl⟩
  | .ow d, _, 6, _ => exact ⟨.sh (.int 5), rfl, by kernel_rfl⟩
  | .ow d, _, 7, _ => exact ⟨.sh (.int 6), rfl, by kernel_rfl⟩
  | .ow d, _, 8, _ => exact ⟨.sh (.int 7), rfl, by kernel_rfl⟩
  | .ow d, _, 9, _ => exact ⟨.sh (.int 8), rfl, by kernel_rfl⟩
  | .ow d, _, 10, _ => exact ⟨.sh (.int 9), rfl, by kernel_rfl⟩
  | .ow d, _, 11, _ => exact ⟨.sh (.int 10), rfl, by kernel_rfl⟩
  | _, _, k + 12, hk => exact absurd hk (by omega)

theorem s12_ok {c0 c1 c2 c3 c4 c5 c6 c7 c8 c9 c10 c11 c12 : Cell} {t : En} : ∀ (v m : Nat), v < 12 → m < 14 → exS P (fnEv P 100 (n + 4)) 100 f27_s12 (c0 :: c1 :: c2 :: c3 :: c4 :: c5 :: c6 :: c7 :: c8 :: c9 :: c10 :: c11 :: c12 :: .sh (.int v) :: .sh (.int ((m : Int) - 1)) :: .ow (rowD v) :: .un :: .un :: t) = .ok (.nx, c0 :: c1 :: c2 :: c3 :: c4 :: c5 :: c6 :: c7 :: c8 :: c9 :: c10 :: c11 :: c12 :: .sh (.int v) :: .sh (.int ((m : Int) - 1)) :: .ow (rowD v) :: .un :: .un :: t)
  | 0, 0, _, _ => by kernel_rfl
  | 0, 1, _, _ => by kernel_rfl
  | 0, 2, _, _ => by kernel_rfl
  | 0, 3, _, _ => by kernel_rfl
  | 0, 4, _, _ => by kernel_rfl
  | 0, 5, _, _ => by kernel_rfl
  | 0, 6, _, _ => by kernel_rfl
  | 0, 7, _, _ => by kernel_rfl
  | 0, 8, _, _ => by kernel_rfl
  | 0, 9, _, _ => by kernel_rfl
  | 0, 10, _, _ => by kernel_rfl
  | 0, 11, _, _ => by kernel_rfl
  | 0, 12, _, _ => by kernel_rfl
  | 0, 13, _, _ => by kernel_rfl
  | 1, 0, _, _ => by kernel_rfl
  | 1, 1, _, _ => by kernel_rfl
  | 1, 2, _, _ => by kernel_rfl
  | 1, 3, _, _ => by kernel_rfl
  | 1, 4, _, _ => by kernel_rfl
  | 1, 5, _, _ => by kernel_rfl
  | 1, 6, _, _ => by kernel_rfl
  | 1, 7, _, _ => by kernel_rfl
  | 1, 8, _, _ => by kernel_rfl
  | 1, 9, _, _ => by kernel_rfl
  | 1, 10, _, _ => by kernel_rfl
  | 1, 11, _, _ => by kernel_rfl
  | 1, 12, _, _ => by kernel_rfl
  | 1, 13, _, _ => by kernel_rfl
  | 2, 0, _, _ => by kernel_rfl
  | 2, 1, _, _ => by kernel_rfl
  | 2, 2, _, _ => by kernel_rfl
  | 2, 3, _, _ => by kernel_rfl
  | 2, 4, _, _ => by kernel_rfl
  | 2, 5, _, _ => by kernel_rfl
  | 2, 6, _, _ => by kernel_rfl
  | 2, 7, _, _ => by kernel_rfl
  | 2, 8, _, _ => by kernel_rfl
  | 2, 9, _, _ => by kernel_rfl
  | 2, 10, _, _ => by kernel_rfl
  | 2, 11, _, _ => by kernel_rfl
  | 2, 12, _, _ => by kernel_rfl
  | 2, 13, _, _ => by kernel_rfl
  | 3, 0, _, _ => by kernel_rfl
  | 3, 1, _, _ => by kernel_rfl
  | 3, 2, _, _ => by kernel_rfl
  | 3, 3, _, _ => by kernel_rfl
  | 3, 4, _, _ => by kernel_rfl
  | 3, 5, _, _ => by kernel_rfl
  | 3, 6, _, _ => by kernel_rfl
  | 3, 7, _, _ => by kernel_rfl
  | 3, 8, _, _ => by kernel_rfl
  | 3, 9, _, _ => by kernel_rfl
  | 3, 10, _, _ => by kernel_rfl
  | 3, 11, _, _ => by kernel_rfl
  | 3, 12, _, _ => by kernel_rfl
  | 3, 13, _, _ => by kernel_rfl
  | 4, 0, _, _ => by kernel_rfl
  | 4, 1, _, _ => by kernel_rfl
  | 4, 2, _, _ => by kernel_rfl
  | 4, 3, _, _ => by kernel_rfl
  | 4, 4, _, _ => by kernel_rfl
  | 4, 5, _, _ => by kernel_rfl
  | 4, 6, _, _ => by kernel_rfl
  | 4, 7, _, _ => by kernel_rfl
  | 4, 8, _, _ => by kernel_rfl
  | 4, 9, _, _ => by kernel_rfl
  | 4, 10, _, _ => by kernel_rfl
  | 4, 11, _, _ => by kernel_rfl
  | 4, 12, _, _ => by kernel_rfl
  | 4, 13, _, _ => by kernel_rfl
  | 5, 0, _, _ => by kernel_rfl
  | 5, 1, _, _ => by kernel_rfl
  | 5, 2, _, _ => by kernel_rfl
  | 5, 3, _, _ => by kernel_rfl
  | 5, 4, _, _ => by kernel_rfl
  | 5, 5, _, _ => by kernel_rfl
  | 5, 6, _, _ => by kernel_rfl
  | 5, 7, _, _ => by kernel_rfl
  | 5, 8, _, _ => by kernel_rfl
  | 5, 9, _, _ => by kernel_rfl
  | 5, 10, _, _ => by kernel_rfl
  | 5, 11, _, _ => by kernel_rfl
  | 5, 12, _, _ => by kernel_rfl
  | 5, 13, _, _ => by kernel_rfl
  | 6, 0, _, _ => by kernel_rfl
  | 6, 1, _, _ => by kernel_rfl
  | 6, 2, _, _ => by kernel_rfl
  | 6, 3, _, _ => by kernel_rfl
  | 6, 4, _, _ => by kernel_rfl
  | 6, 5, _, _ => by kernel_rfl
  | 6, 6, _, _ => by kernel_rfl
  | 6, 7, _, _ => by kernel_rfl
  | 6, 8, _, _ => by kernel_rfl
  | 6, 9, _, _ => by kernel_rfl
  | 6, 10, _, _ => by kernel_rfl
  | 6, 11, _, _ => by kernel_rfl
  | 6, 12, _, _ => by kernel_rfl
  | 6, 13, _, _ => by kernel_rfl
  | 7, 0, _, _ => by kernel_rfl
  | 7, 1, _, _ => by kernel_rfl
  | 7, 2, _, _ => by kernel_rfl
  | 7, 3, _, _ => by kernel_rfl
  | 7, 4, _, _ => by kernel_rfl
  | 7, 5, _, _ => by kernel_rfl
  | 7, 6, _, _ => by kernel_rfl
  | 7, 7, _, _ => by kernel_rfl
  | 7, 8, _, _ => by kernel_rfl
  | 7, 9, _, _ => by kernel_rfl
  | 7, 10, _, _ => by kernel_rfl
  | 7, 11, _, _ => by kernel_rfl
  | 7, 12, _, _ => by kernel_rfl
  | 7, 13, _, _ => by kernel_rfl
  | 8, 0, _, _ => by kernel_rfl
  | 8, 1, _, _ => by kernel_rfl
  | 8, 2, _, _ => by kernel_rfl
  | 8, 3, _, _ => by kernel_rfl
  | 8, 4, _, _ => by kernel_rfl
  | 8, 5, _, _ => by kernel_rfl
  | 8, 6, _, _ => by kernel_rfl
  | 8, 7, _, _ => by kernel_rfl
  | 8, 8, _, _ => by kernel_rfl
  | 8, 9, _, _ => by kernel_rfl
  | 8, 10, _, _ => by kernel_rfl
  | 8, 11, _, _ => by kernel_rfl
  | 8, 12, _, _ => by kernel_rfl
  | 8, 13, _, _ => by kernel_rfl
  | 9, 0, _, _ => by kernel_rfl
  | 9, 1, _, _ => by kernel_rfl
  | 9, 2, _, _ => by kernel_rfl
  | 9, 3, _, _ => by kernel_rfl
  | 9, 4, _, _ => by kernel_rfl
  | 9, 5, _, _ => by kernel_rfl
  | 9, 6, _, _ => by kernel_rfl
  | 9, 7, _, _ => by kernel_rfl
  | 9, 8, _, _ => by kernel_rfl
  | 9, 9, _, _ => by kernel_rfl
  | 9, 10, _, _ => by kernel_rfl
  | 9, 11, _, _ => by kernel_rfl
  | 9, 12, _, _ => by kernel_rfl
  | 9, 13, _, _ => by kernel_rfl
  | 10, 0, _, _ => by kernel_rfl
  | 10, 1, _, _ => by kernel_rfl
  | 10, 2, _, _ => by kernel_rfl
  | 10, 3, _, _ => by kernel_rfl
  | 10, 4, _, _ => by kernel_rfl
  | 10, 5, _, _ => by kernel_rfl
  | 10, 6, _, _ => by kernel_rfl
  | 10, 7, _, _ => by kernel_rfl
  | 10, 8, _, _ => by kernel_rfl
  | 10, 9, _, _ => by kernel_rfl
  | 10, 10, _, _ => by kernel_rfl
  | 10, 11, _, _ => by kernel_rfl
  | 10, 12, _, _ => by kernel_rfl
  | 10, 13, _, _ => by kernel_rfl
  | 11, 0, _, _ => by kernel_rfl
  | 11, 1, _, _ => by kernel_rfl
  | 11, 2, _, _ => by kernel_rfl
  | 11, 3, _, _ => by kernel_rfl
  | 11, 4, _, _ => by kernel_rfl
  | 11, 5, _, _ => by kernel_rfl
  | 11, 6, _, _ => by kernel_rfl
  | 11, 7, _, _ => by kernel_rfl
  | 11, 8, _, _ => by kernel_rfl
  | 11, 9, _, _ => by kernel_rfl
  | 11, 10, _, _ => by kernel_rfl
  | 11, 11, _, _ => by kernel_rfl
  | 11, 12, _, _ => by kernel_rfl
  | 11, 13, _, _ => by kernel_rfl
  | v + 12, _, h, _ => absurd h (by omega)
  | _, m + 14, _, h => absurd h (by omega)
end
end K00
set_option Elab.async false
set_option linter.all false
set_option maxRecDepth 100000
set_option maxHeartbeats 4000000
namespace K00
open PySem L2 PV
section
variable {n : Nat}
/-! ### multinomial -/

def Q13 (ys : List D) : Prop := ∀ (c0 c1 c2 c3 c4 c6 c7 c8 c9 c10 c11 c12 c13 c14 c15 c17 : Cell) (d5 : D) (t : En), ∃ d5' c16', exSs P (fnEv P 100 (n + 6)) 100 (.cons f27_s14 (.cons f27_s15 (.cons f27_s16 .nil))) (c0 :: c1 :: c2 :: c3 :: c4 :: .sh d5 :: c6 :: c7 :: c8 :: c9 :: c10 :: c11 :: c12 :: c13 :: c14 :: c15 :: .un :: c17 :: .sh (.tup ys) :: t) = .ok (.nx, c0 :: c1 :: c2 :: c3 :: c4 :: .sh d5' :: c6 :: c7 :: c8 :: c9 :: c10 :: c11 :: c12 :: c13 :: c14 :: c15 :: c16' :: c17 :: .sh (.tup ys) :: t)
theorem q13_0 : Q13 (n := n) [] := fun _ _ _ _ _ _ _ _ _ _ _ _ _ _ _ _ _ _ => ⟨.int 1, .un, by kernel_rfl⟩
theorem q13_1 : ∀ (a : Nat), a < 4 → Q13 (n := n) [.int a]
  | 0, _ => fun _ _ _ _ _ _ _ _ _ _ _ _ _ _ _ _ _ _ => ⟨.int 1, .sh (.int 0), by kernel_rfl⟩
  | 1, _ => fun _ _ _ _ _ _ _ _ _ _ _ _ _ _ _ _ _ _ => ⟨.int 1, .sh (.int 1), by kernel_rfl⟩
  | 2, _ => fun _ _ _ _ _ _ _ _ _ _ _ _ _ _ _ _ _ _ => ⟨.int 1, .sh (.int 2), by kernel_rfl⟩
  | 3, _ => fun _ _ _ _ _ _ _ _ _ _ _ _ _ _ _ _ _ _ => ⟨.int 1, .sh (.int 3), by kernel_rfl⟩
  | x + 4, h => absurd h (by omega)
theorem q13_2 : ∀ (a b : Nat), a < 4 → b < 4 → Q13 (n := n) [.int a, .int b]
  | 0, 0, _, _ => fun _ _ _ _ _ _ _ _ _ _ _ _ _ _ _ _ _ _ => ⟨.int 1, .sh (.int 0), by kernel_rfl⟩
  | 0, 1, _, _ => fun _ _ _ _ _ _ _ _ _ _ _ _ _ _ _ _ _ _ => ⟨.int 1, .sh (.int 1), by kernel_rfl⟩
  | 0, 2, _, _ => fun _ _ _ _ _ _ _ _ _ _ _ _ _ _ _ _ _ _ => ⟨.int 1, .sh (.int 2), by kernel_rfl⟩
  | 0, 3, _, _ => fun _ _ _ _ _ _ _ _ _ _ _ _ _ _ _ _ _ _ => ⟨.int 1, .sh (.int 3), by kernel_rfl⟩
  | 1, 0, _, _ => fun _ _ _ _ _ _ _ _ _ _ _ _ _ _ _ _ _ _ => ⟨.int 1, .sh (.int 0), by kernel_rfl⟩
  | 1, 1, _, _ => fun _ _ _ _ _ _ _ _ _ _ _ _ _ _ _ _ _ _ => ⟨.int 2, .sh (.int 1), by kernel_rfl⟩
  | 1, 2, _, _ => fun _ _ _ _ _ _ _ _ _ _ _ _ _ _ _ _ _ _ => ⟨.int 3, .sh (.int 2), by kernel_rfl⟩
  | 1, 3, _, _ => fun _ _ _ _ _ _ _ _ _ _ _ _ _ _ _ _ _ _ => ⟨.int 4, .sh (.int 3), by kernel_rfl⟩
  | 2, 0, _, _ => fun _ _ _ _ _ _ _ _ _ _ _ _ _ _ _ _ _ _ => ⟨.int 1, .sh (.int 0), by kernel_rfl⟩
  | 2, 1, _, _ => fun _ _ _ _ _ _ _ _ _ _ _ _ _ _ _ _ _ _ => ⟨.int 3, .sh (.int 1), by kernel_rfl⟩
  | 2, 2, _, _ => fun _ _ _ _ _ _ _ _ _ _ _ _ _ _ _ _ _ _ => ⟨.int 6, .sh (.int 2), by kernel_rfl⟩
  | 2, 3, _, _ => fun _ _ _ _ _ _ _ _ _ _ _ _ _ _ _ _ _ _ => ⟨.int 10, .sh (.int 3), by kernel_rfl⟩
  | 3, 0, _, _ => fun _ _ _ _ _ _ _ _ _ _ _ _ _ _ _ _ _ _ => ⟨.int 1, .sh (.int 0), by kernel_rfl⟩
  | 3, 1, _, _ => fun _ _ _ _ _ _ _ _ _ _ _ _ _ _ _ _ _ _ => ⟨.int 4, .sh (.int 1), by kernel_rfl⟩
  | 3, 2, _, _ => fun _ _ _ _ _ _ _ _ _ _ _ _ _ _ _ _ _ _ => ⟨.int 10, .sh (.int 2), by kernel_rfl⟩
  | 3, 3, _, _ => fun _ _ _ _ _ _ _ _ _ _ _ _ _ _ _ _ _ _ => ⟨.int 20, .sh (.int 3), by kernel_rfl⟩
  | x + 4, _, h, _ => absurd h (by omega)
  | _, x + 4, _, h => absurd h (by omega)
theorem q13_3 : ∀ (a b c : Nat), a < 4 → b < 4 → c < 4 → Q13 (n := n) [.int a, .int b, .int c]
  | 0, 0, 0, _, _, _ => fun _ _ _ _ _ _ _ _ _ _ _ _ _ _ _ _ _ _ => ⟨.int 1, .sh (.int 0), by kernel_rfl⟩
  | 0, 0, 1, _, _, _ => fun _ _ _ _ _ _ _ _ _ _ _ _ _ _ _ _ _ _ => ⟨.int 1, .sh (.int 1), by kernel_rfl⟩
  | 0, 0, 2, _, _, _ => fun _ _ _ _ _ _ _ _ _ _ _ _ _ _ _ _ _ _ => ⟨.int 1, .sh (.int 2), by kernel_rfl⟩
  | 0, 0, 3, _, _, _ => fun _ _ _ _ _ _ _ _ _ _ _ _ _ _ _ _ _ _ => ⟨.int 1, .sh (.int 3), by kernel_rfl⟩
  | 0, 1, 0, _, _, _ => fun _ _ _ _ _ _ _ _ _ _ _ _ _ _ _ _ _ _ => ⟨.int 1, .sh (.int 0), by kernel_rfl⟩
  | 0, 1, 1, _, _, _ => fun _ _ _ _ _ _ _ _ _ _ _ _ _ _ _ _ _ _ => ⟨.int 2, .sh (.int 1), by kernel_rfl⟩
  | 0, 1, 2, _, _, _ => fun _ _ _ _ _ _ _ _ _ _ _ _ _ _ _ _ _ _ => ⟨.int 3, .sh (.int 2), by kernel_rfl⟩
  | 0, 1, 3, _, _, _ => fun _ _ _ _ _ _ _ _ _ _ _ _ _ _ _ _ _ _ => ⟨.int 4, .sh (.int 3), by kernel_rfl⟩
  | 0, 2, 0, _, _, _ => fun _ _ _ _ _ _ _ _ _ _ _ _ _ _ _ _ _ _ => ⟨.int 1, .sh (.int 0), by kernel_rfl⟩
  | 0, 2, 1, _, _, _ => fun _ _ _ _ _ _ _ _ _ _ _ _ _ _ _ _ _ _ => ⟨.int 3, .sh (.int 1), by kernel_rfl⟩
  | 0, 2, 2, _, _, _ => fun _ _ _ _ _ _ _ _ _ _ _ _ _ _ _ _ _ _ => ⟨.int 6, .sh (.int 2), by kernel_rfl⟩
  | 0, 2, 3, _, _, _ => fun _ _ _ _ _ _ _ _ _ _ _ _ _ _ _ _ _ _ => ⟨.int 10, .sh (.int 3), by kernel_rfl⟩
  | 0, 3, 0, _, _, _ => fun _ _ _ _ _ _ _ _ _ _ _ _ _ _ _ _ _ _ => ⟨.int 1, .sh (.int 0), by kernel_rfl⟩
  | 0, 3, 1, _, _, _ => fun _ _ _ _ _ _ _ _ _ _ _ _ _ _ _ _ _ _ => ⟨.int 4, .sh (.int 1), by kernel_rfl⟩
  | 0, 3, 2, _, _, _ => fun _ _ _ _ _ _ _ _ _ _ _ _ _ _ _ _ _ _ => ⟨.int 10, .sh (.int 2), by kernel_rfl⟩
  | 0, 3, 3, _, _, _ => fun _ _ _ _ _ _ _ _ _ _ _ _ _ _ _ _ _ _ => ⟨.int 20, .sh (.int 3), by kernel_rfl⟩
  | 1, 0, 0, _, _, _ => fun _ _ _ _ _ _ _ _ _ _ _ _ _ _ _ _ _ _ => ⟨.int 1, .sh (.int 0), by kernel_rfl⟩
  | 1, 0, 1, _, _, _ => fun _ _ _ _ _ _ _ _ _ _ _ _ _ _ _ _ _ _ => ⟨.int 2, .sh (.int 1), by kernel_rfl⟩
  | 1, 0, 2, _, _, _ => fun _ _ _ _ _ _ _ _ _ _ _ _ _ _ _ _ _ _ => ⟨.int 3, .sh (.int 2), by kernel_rfl⟩
  | 1, 0, 3, _, _, _ => fun _ _ _ _ _ _ _ _ _ _ _ _ _ _ _ _ _ _ => ⟨.int 4, .sh (.int 3), by kernel_rfl⟩
  | 1, 1, 0, _, _, _ => fun _ _ _ _ _ _ _ _ _ _ _ _ _ _ _ _ _ _ => ⟨.int 2, .sh (.int 0), by kernel_rfl⟩
  | 1, 1, 1, _, _, _ => fun _ _ _ _ _ _ _ _ _ _ _ _ _ _ _ _ _ _ => ⟨.int 6, .sh (.int 1), by kernel_rfl⟩
  | 1, 1, 2, _, _, _ => fun _ _ _ _ _ _ _ _ _ _ _ _ _ _ _ _ _ _ => ⟨.int 12, .sh (.int 2), by kernel_rfl⟩
  | 1, 1, 3, _, _, _ => fun _ _ _ _ _ _ _ _ _ _ _ _ _ _ _ _ _ _ => ⟨.int 20, .sh (.int 3), by kernel_rfl⟩
  | 1, 2, 0, _, _, _ => fun _ _ _ _ _ _ _ _ _ _ _ _ _ _ _ _ _ _ => ⟨.int 3, .sh (.int 0), by kernel_rfl⟩
  | 1, 2, 1, _, _, _ => fun _ _ _ _ _ _ _ _ _ _ _ _ _ _ _ _ _ _ => ⟨.int 12, .sh (.int 1), by kernel_rfl⟩
  | 1, 2, 2, _, _, _ => fun _ _ _ _ _ _ _ _ _ _ _ _ _ _ _ _ _ _ => ⟨.int 30, .sh (.int 2), by kernel_rfl⟩
  | 1, 2, 3, _, _, _ => fun _ _ _ _ _ _ _ _ _ _ _ _ _ _ _ _ _ _ => ⟨.int 60, .sh (.int 3), by kernel_rfl⟩
  | 1, 3, 0, _, _, _ => fun _ _ _ _ _ _ _ _ _ _ _ _ _ _ _ _ _ _ => ⟨.int 4, .sh (.int 0), by kernel_rfl⟩
  | 1, 3, 1, _, _, _ => fun _ _ _ _ _ _ _ _ _ _ _ _ _ _ _ _ _ _ => ⟨.int 20, .sh (.int 1), by kernel_rfl⟩
  | 1, 3, 2, _, _, _ => fun _ _ _ _ _ _ _ _ _ _ _ _ _ _ _ _ _ _ => ⟨.int 60, .sh (.int 2), by kernel_rfl⟩
  | 1, 3, 3, _, _, _ => fun _ _ _ _ _ _ _ _ _ _ _ _ _ _ _ _ _ _ => ⟨.int 140, .sh (.int 3), by kernel_rfl⟩
  | 2, 0, 0, _, _, _ => fun _ _ _ _ _ _ _ _ _ _ _ _ _ _ _ _ _ _ => ⟨.int 1, .sh (.int 0), by kernel_rfl⟩
  | 2, 0, 1, _, _, _ => fun _ _ _ _ _ _ _ _ _ _ _ _ _ _ _ _ _ _ => ⟨.int 3, .sh (.int 1), by kernel_rfl⟩
  | 2, 0, 2, _, _, _ => fun _ _ _ _ _ _ _ _ _ _ _ _ _ _ _ _ _ _ => ⟨.int 6, .sh (.int 2), by kernel_rfl⟩
  | 2, 0, 3, _, _, _ => fun _ _ _ _ _ _ _ _ _ _ _ _ _ _ _ _ _ _ => ⟨.int 10, .sh (.int 3), by kernel_rfl⟩
  | 2, 1, 0, _, _, _ => fun _ _ _ _ _ _ _ _ _ _ _ _ _ _ _ _ _ _ => ⟨.int 3, .sh (.int 0), by kernel_rfl⟩
  | 2, 1, 1, _, _, _ => fun _ _ _ _ _ _ _ _ _ _ _ _ _ _ _ _ _ _ => ⟨.int 12, .sh (.int 1), by kernel_rfl⟩
  | 2, 1, 2, _, _, _ => fun _ _ _ _ _ _ _ _ _ _ _ _ _ _ _ _ _ _ => ⟨.int 30, .sh (.int 2), by kernel_rfl⟩
  | 2, 1, 3, _, _, _ => fun _ _ _ _ _ _ _ _ _ _ _ _ _ _ _ _ _ _ => ⟨.int 60, .sh (.int 3), by kernel_rfl⟩
  | 2, 2, 0, _, _, _ => fun _ _ _ _ _ _ _ _ _ _ _ _ _ _ _ _ _ _ => ⟨.int 6, .sh (.int 0), by kernel_rfl⟩
  | 2, 2, 1, _, _, _ => fun _ _ _ _ _ _ _ _ _ _ _ _ _ _ _ _ _ _ => ⟨.int 30, .sh (.int 1), by kernel_rfl⟩
  | 2, 2, 2, _, _, _ => fun _ _ _ _ _ _ _ _ _ _ _ _ _ _ _ _ _ _ => ⟨.int 90, .sh (.int 2), by kernel_rfl⟩
  | 2, 2, 3, _, _, _ => fun _ _ _ _ _ _ _ _ _ _ _ _ _ _ _ _ _ _ => ⟨.int 210, .sh (.int 3), by kernel_rfl⟩
  | 2, 3, 0, _, _, _ => fun _ _ _ _ _ _ _ _ _ _ _ _ _ _ _ _ _ _ => ⟨.int 10, .sh (.int 0), by kernel_rfl⟩
  | 2, 3, 1, _, _, _ => fun _ _ _ _ _ _ _ _ _ _ _ _ _ _ _ _ _ _ => ⟨.int 60, .sh (.int 1), by kernel_rfl⟩
  | 2, 3, 2, _, _, _ => fun _ _ _ _ _ _ _ _ _ _ _ _ _ _ _ _ _ _ => ⟨.int 210, .sh (.int 2), by kernel_rfl⟩
  | 2, 3, 3, _, _, _ => fun _ _ _ _ _ _ _ _ _ _ _ _ _ _ _ _ _ _ => ⟨.int 560, .sh (.int 3), by kernel_rfl⟩
  | 3, 0, 0, _, _, _ => fun _ _ _ _ _ _ _ _ _ _ _ _ _ _ _ _ _ _ => ⟨.int 1, .sh (.int 0), by kernel_rfl⟩
  | 3, 0, 1, _, _, _ => fun _ _ _ _ _ _ _ _ _ _ _ _ _ _ _ _ _ _ => ⟨.int 4, .sh (.int 1), by kernel_rfl⟩
  | 3, 0, 2, _, _, _ => fun _ _ _ _ _ _ _ _ _ _ _ _ _ _ _ _ _ _ => ⟨.int 10, .sh (.int 2), by kernel_rfl⟩
  | 3, 0, 3, _, _, _ => fun _ _ _ _ _ _ _ _ _ _ _ _ _ _ _ _ _ _ => ⟨.int 20, .sh (.int 3), by kernel_rfl⟩
  | 3, 1, 0, _, _, _ => fun _ _ _ _ _ _ _ _ _ _ _ _ _ _ _ _ _ _ => ⟨.int 4, .sh (.int 0), by kernel_rfl⟩
  | 3, 1, 1, _, _, _ => fun _ _ _ _ _ _ _ _ _ _ _ _ _ _ _ _ _ _ => ⟨.int 20, .sh (.int 1), by kernel_rfl⟩
  | 3, 1, 2, _, _, _ => fun _ _ _ _ _ _ _ _ _ _ _ _ _ _ _ _ _ _ => ⟨.int 60, .sh (.int 2), by kernel_rfl⟩
  | 3, 1, 3, _, _, _ => fun _ _ _ _ _ _ _ _ _ _ _ _ _ _ _ _ _ _ => ⟨.int 140, .sh (.int 3), by kernel_rfl⟩
  | 3, 2, 0, _, _, _ => fun _ _ _ _ _ _ _ _ _ _ _ _ _ _ _ _ _ _ => ⟨.int 10, .sh (.int 0), by kernel_rfl⟩
  | 3, 2, 1, _, _, _ => fun _ _ _ _ _ _ _ _ _ _ _ _ _ _ _ _ _ _ => ⟨.int 60, .sh (.int 1), by kernel_rfl⟩
  | 3, 2, 2, _, _, _ => fun _ _ _ _ _ _ _ _ _ _ _ _ _ _ _ _ _ _ => ⟨.int 210, .sh (.int 2), by kernel_rfl⟩
  | 3, 2, 3, _, _, _ => fun _ _ _ _ _ _ _ _ _ _ _ _ _ _ _ _ _ _ => ⟨.int 560, .sh (.int 3), by kernel_rfl⟩
  | 3, 3, 0, _, _, _ => fun _ _ _ _ _ _ _ _ _ _ _ _ _ _ _ _ _ _ => ⟨.int 20, .sh (.int 0), by kernel_rfl⟩
  | 3, 3, 1, _, _, _ => fun _ _ _ _ _ _ _ _ _ _ _ _ _ _ _ _ _ _ => ⟨.int 140, .sh (.int 1), by kernel_rfl⟩
  | 3, 3, 2, _, _, _ => fun _ _ _ _ _ _ _ _ _ _ _ _ _ _ _ _ _ _ => ⟨.int 560, .sh (.int 2), by kernel_rfl⟩
  | 3, 3, 3, _, _, _ => fun _ _ _ _ _ _ _ _ _ _ _ _ _ _ _ _ _ _ => ⟨.int 1680, .sh (.int 3), by kernel_rfl⟩
  | x + 4, _, _, h, _, _ => absurd h (by omega)
  | _, x + 4, _, _, h, _ => absurd h (by omega)
  | _, _, x + 4, _, _, h => absurd h (by omega)
theorem q13 (ys : List D) (hl : ys.length < 4) (h : ∀ y ∈ ys, ∃ v : Nat, v < 4 ∧ y = .int v) : Q13 (n := n) ys := by
  match ys, hl with
  | [], _ => exact q13_0
  | [x], _ =>
    obtain ⟨a, ha, rfl⟩ := h x (by simp)
    exact q13_1 a ha
  | [x, y], _ =>
    obtain ⟨a, ha, rfl⟩ := h x (by simp)
    obtain ⟨b, hb, rfl⟩ := h y (by simp)
    exact q13_2 a b ha hb
  | [x, y, z], _ =>
    obtain ⟨a, ha, rfl⟩ := h x (by simp)
    obtain ⟨b, hb, rfl⟩ := h y (by simp)
    obtain ⟨c, hc, rfl⟩ := h z (by simp)
    exact q13_3 a b c ha hb hc
  | _ :: _ :: _ :: _ :: _, hl => exact absurd hl (by simp)
/-! ### eulerian by orders -/
def pmD : Nat → List D
  | 0 => [.tup []]
  | 1 => [.tup [.int 0]]
  | 2 => [.tup [.int 0, .int 1], .tup [.int 1, .int 0]]
  | 3 => [.tup [.int 0, .int 1, .int 2], .tup [.int 0, .int 2, .int 1], .tup [.int 1, .int 0, .int 2], .tup [.int 1, .int 2, .int 0], .tup [.int 2, .int 0, .int 1], .tup [.int 2, .int 1, .int 0]]
  | 4 => [.tup [.int 0, .int 1, .int 2, .int 3], .tup [.int 0, .int 1, .int 3, .int 2], .tup [.int 0, .int 2, .int 1, .int 3], .tup [.int 0, .int 2, .int 3, .int 1], .tup [.int 0, .int 3, .int 1, .int 2], .tup [.int 0, .int 3, .int 2, .int 1], .tup [.int 1, .int 0, .int 2, .int 3], .tup [.int 1, .int 0, .int 3, .int 2], .tup [.int 1, .int 2, .int 0, .int 3], .tup [.int 1, .int 2, .int 3, .int 0], .tup [.int 1, .int 3, .int 0, .int 2], .tup [.int 1, .int 3, .int 2, .int 0], .tup [.int 2, .int 0, .int 1, .int 3], .tup [.int 2, .int 0, .int 3, .int 1], .tup [.int 2, .int 1, .int 0, .int 3], .tup [.int 2, .int 1, .int 3, .int 0], .tup [.int 2, .int 3, .int 0, .int 1], .tup [.int 2, .int 3, .int 1, .int 0], .tup [.int 3, .int 0, .int 1, .int 2], .tup [.int 3, .int 0, .int 2, .int 1], .tup [.int 3, .int 1, .int 0, .int 2], .tup [.int 3, .int 1, .int 2, .int 0], .tup [.int 3, .int 2, .int 0, .int 1], .tup [.int 3, .int 2, .int 1, .int 0]]
  | 5 => [.tup [.int 0, .int 1, .int 2, .int 3, .int 4], .tup [.int 0, .int 1, .int 2, .int 4, .int 3], .tup [.int 0, .int 1, .int 3, .int 2, .int 4], .tup [.int 0, .int 1, .int 3, .int 4, .int 2], .tup [.int 0, .int 1, .int 4, .int 2, .int 3], .tup [.int 0, .int 1, .int 4, .int 3, .int 2], .tup [.int 0, .int 2, .int 1, .int 3, .int 4], .tup [.int 0, .int 2, .int 1, .int 4, .int 3], .tup [.int 0, .int 2, .int 3, .int 1, .int 4], .tup [.int 0, .int 2, .int 3, .int 4, .int 1], .tup [.int 0, .int 2, .int 4, .int 1, .int 3], .tup [.int 0, .int 2, .int 4, .int 3, .int 1], .tup [.int 0, .int 3, .int 1, .int 2, .int 4], .tup [.int 0, .int 3, .int 1, .int 4, .int 2], .tup [.int 0, .int 3, .int 2, .int 1, .int 4], .tup [.int 0, .int 3, .int 2, .int 4, .int 1], .tup [.int 0, .int 3, .int 4, .int 1, .int 2], .tup [.int 0, .int 3, .int 4, .int 2, .int 1], .tup [.int 0, .int 4, .int 1, .int 2, .int 3], .tup [.int 0, .int 4, .int 1, .int 3, .int 2], .tup [.int 0, .int 4, .int 2, .int 1, .int 3], .tup [.int 0, .int 4, .int 2, .int 3, .int 1], .tup [.int 0, .int 4, .int 3, .int 1, .int 2], .tup [.int 0, .int 4, .int 3, .int 2, .int 1], .tup [.int 1, .int 0, .int 2, .int 3, .int 4], .tup [.int 1, .int 0, .int 2, .int 4, .int 3], .tup [.int 1, .int 0, .int 3, .int 2, .int 4], .tup [.int 1, .int 0, .int 3, .int 4, .int 2], .tup [.int 1, .int 0, .int 4, .int 2, .int 3], .tup [.int 1, .int 0, .int 4, .int 3, .int 2], .tup [.int 1, .int 2, .int 0, .int 3, .int 4], .tup [.int 1, .int 2, .int 0, .int 4, .int 3], .tup [.int 1, .int 2, .int 3, .int 0, .int 4], .tup [.int 1, .int 2, .int 3, .int 4, .int 0], .tup [.int 1, .int 2, .int 4, .int 0, .int 3], .tup [.int 1, .int 2, .int 4, .int 3, .int 0], .tup [.int 1, .int 3, .int 0, .int 2, .int 4], .tup [.int 1, .int 3, .int 0, .int 4, .int 2], .tup [.int 1, .int 3, .int 2, .int 0, .int 4], .tup [.int 1, .int 3, .int 2, .int 4, .int 0], .tup [.int 1, .int 3, .int 4, .int 0, .int 2], .tup [.int 1, .int 3, .int 4, .int 2, .int 0], .tup [.int 1, .int 4, .int 0, .int 2, .int 3], .tup [.int 1, .int 4, .int 0, .int 3, .int 2], .tup [.int 1, .int 4, .int 2, .int 0, .int 3], .tup [.int 1, .int 4, .int 2, .int 3, .int 0], .tup [.int 1, .int 4, .int 3, .int 0, .int 2], .tup [.int 1, .int 4, .int 3, .int 2, .int 0], .tup [.int 2, .int 0, .int 1, .int 3, .int 4], .tup [.int 2, .int 0, .int 1, .int 4, .int 3], .tup [.int 2, .int 0, .int 3, .int 1, .int 4], .tup [.int 2, .int 0, .int 3, .int 4, .int 1], .tup [.int 2, .int 0, .int 4, .int 1, .int 3], .tup [.int 2, .int 0, .int 4, .int 3, .int 1], .tup [.int 2, .int 1, .int 0, .int 3, .int 4], .tup [.int 2, .int 1, .int 0, .int 4, .int 3], .tup [.int 2, .int 1, .int 3, .int 0, .int 4], .tup [.int 2, .int 1, .int 3, .int 4, .int 0], .tup [.int 2, .int 1, .int 4, .int 0, .int 3], .tup [.int 2, .int 1, .int 4, .int 3, .int 0], .tup [.int 2, .int 3, .int 0, .int 1, .int 4], .tup [.int 2, .int 3, .int 0, .int 4, .int 1], .tup [.int 2, .int 3, .int 1, .int 0, .int 4], .tup [.int 2, .int 3, .int 1, .int 4, .int 0], .tup [.int 2, .int 3, .int 4, .int 0, .int 1], .tup [.int 2, .int 3, .int 4, .int 1, .int 0], .tup [.int 2, .int 4, .int 0, .int 1, .int 3], .tup [.int 2, .int 4, .int 0, .int 3, .int 1], .tup [.int 2, .int 4, .int 1, .int 0, .int 3], .tup [.int 2, .int 4, .int 1, .int 3, .int 0], .tup [.int 2, .int 4, .int 3, .int 0, .int 1], .tup [.int 2, .int 4, .int 3, .int 1, .int 0], .tup [.int 3, .int 0, .int 1, .int 2, .int 4], .tup [.int 3, .int 0, .int 1, .int 4, .int 2], .tup [.int 3, .int 0, .int 2, .int 1, .int 4], .tup [.int 3, .int 0, .int 2, .int 4, .int 1], .tup [.int 3, .int 0, .int 4, .int 1, .int 2], .tup [.int 3, .int 0, .int 4, .int 2, .int 1], .tup [.int 3, .int 1, .int 0, .int 2, .int 4], .tup [.int 3, .int 1, .int 0, .int 4, .int 2], .tup [.int 3, .int 1, .int 2, .int 0, .int 4], .tup [.int 3, .int 1, .int 2, .int 4, .int 0], .tup [.int 3, .int 1, .int 4, .int 0, .int 2], .tup [.int 3, .int 1, .int 4, .int 2, .int 0], .tup [.int 3, .int 2, .int 0, .int 1, .int 4], .tup [.int 3, .int 2, .int 0, .int 4, .int 1], .tup [.int 3, .int 2, .int 1, .int 0, .int 4], .tup [.int 3, .int 2, .int 1, .int 4, .int 0], .tup [.int 3, .int 2, .int 4, .int 0, .int 1], .tup [.int 3, .int 2, .int 4, .int 1, .int 0], .tup [.int 3, .int 4, .int 0, .int 1, .int 2], .tup [.int 3, .int 4, .int 0, .int 2, .int 1], .tup [.int 3, .int 4, .int 1, .int 0, .int 2], .tup [.int 3, .int 4, .int 1, .int 2, .int 0], .tup [.int 3, .int 4, .int 2, .int 0, .int 1], .tup [.int 3, .int 4, .int 2, .int 1, .int 0], .tup [.int 4, .int 0, .int 1, .int 2, .int 3], .tup [.int 4, .int 0, .int 1, .int 3, .int 2], .tup [.int 4, .int 0, .int 2, .int 1, .int 3], .tup [.int 4, .int 0, .int 2, .int 3, .int 1], .tup [.int 4, .int 0, .int 3, .int 1, .int 2], .tup [.int 4, .int 0, .int 3, .int 2, .int 1], .tup [.int 4, .int 1, .int 0, .int 2, .int 3], .tup [.int 4, .int 1, .int 0, .int 3, .int 2], .tup [.int 4, .int 1, .int 2, .int 0, .int 3], .tup [.int 4, .int 1, .int 2, .int 3, .int 0], .tup [.int 4, .int 1, .int 3, .int 0, .int 2], .tup [.int 4, .int 1, .int 3, .int 2, .int 0], .tup [.int 4, .int 2, .int 0, .int 1, .int 3], .tup [.int 4, .int 2, .int 0, .int 3, .int 1], .tup [.int 4, .int 2, .int 1, .int 0, .int 3], .tup [.int 4, .int 2, .int 1, .int 3, .int 0], .tup [.int 4, .int 2, .int 3, .int 0, .int 1], .tup [.int 4, .int 2, .int 3, .int 1, .int 0], .tup [.int 4, .int 3, .int 0, .int 1, .int 2], .tup [.int 4, .int 3, .int 0, .int 2, .int 1], .tup [.int 4, .int 3, .int 1, .int 0, .int 2], .tup [.int 4, .int 3, .int 1, .int 2, .int 0], .tup [.int 4, .int 3, .int 2, .int 0, .int 1], .tup [.int 4, .int 3, .int 2, .int 1, .int 0]]
  | _ => []
def cntD : Nat → List D
  | 0 => [.int 1]
  | 1 => [.int 1, .int 0]
  | 2 => [.int 1, .int 1, .int 0]
  | 3 => [.int 1, .int 4, .int 1, .int 0]
  | 4 => [.int 1, .int 11, .int 11, .int 1, .int 0]
  | 5 => [.int 1, .int 26, .int 66, .int 26, .int 1, .int 0]
  | _ => []
theorem s18_ok {c0 c1 c2 c3 c4 c5 c6 c7 c8 c9 c10 c11 c12 c13 c14 c15 c16 c17 c18 : Cell} {t : En} : ∀ v : Nat, v < 6 → exSs P (fnEv P 100 (n + 20)) 100 (.cons f27_s18 (.cons f27_s19 (.cons f27_s20 .nil))) (c0 :: c1 :: c2 :: c3 :: c4 :: c5 :: c6 :: c7 :: c8 :: c9 :: c10 :: c11 :: c12 :: c13 :: c14 :: c15 :: c16 :: c17 :: c18 :: .sh (.int v) :: .un :: .un :: .un :: .un :: t) = .ok (.nx, c0 :: c1 :: c2 :: c3 :: c4 :: c5 :: c6 :: c7 :: c8 :: c9 :: c10 :: c11 :: c12 :: c13 :: c14 :: c15 :: c16 :: c17 :: c18 :: .sh (.int v) :: .ow (pmD v) :: .ow (cntD v) :: .un :: .un :: t)
  | 0, _ => by kernel_rfl
  | 1, _ => by kernel_rfl
  | 2, _ => by kernel_rfl
  | 3, _ => by kernel_rfl
  | 4, _ => by kernel_rfl
  | 5, _ => by kernel_rfl
  | v + 6, h => absurd h (by omega)
/-! ### eulerian by sums -/
def eulL : Nat → List Int
  | 1 => [1]
  | 2 => [1, 1]
  | 3 => [1, 4, 1]
  | 4 => [1, 11, 11, 1]
  | 5 => [1, 26, 66, 26, 1]
  | 6 => [1, 57, 302, 302, 57, 1]
  | 7 => [1, 120, 1191, 2416, 1191, 120, 1]
  | 8 => [1, 247, 4293, 15619, 15619, 4293, 247, 1]
  | 9 => [1, 502, 14608, 88234, 156190, 88234, 14608, 502, 1]
  | 10 => [1, 1013, 47840, 455192, 1310354, 1310354, 455192, 47840, 1013, 1]
  | 11 => [1, 2036, 152637, 2203488, 9738114, 15724248, 9738114, 2203488, 152637, 2036, 1]
  | 12 => [1, 4083, 478271, 10187685, 66318474, 162512286, 162512286, 66318474, 10187685, 478271, 4083, 1]
  | 13 => [1, 8178, 1479726, 45533450, 423281535, 1505621508, 2275172004, 1505621508, 423281535, 45533450, 1479726, 8178, 1]
  | 14 => [1, 16369, 4537314, 198410786, 2571742175, 12843262863, 27971176092, 27971176092, 12843262863, 2571742175, 198410786, 4537314, 16369, 1]
  | 15 => [1, 32752, 13824739, 848090912, 15041229521, 102776998928, 311387598411, 447538817472, 311387598411, 102776998928, 15041229521, 848090912, 13824739, 32752, 1]
  | 16 => [1, 65519, 41932745, 3572085255, 85383238549, 782115518299, 3207483178157, 6382798925475, 6382798925475, 3207483178157, 782115518299, 85383238549, 3572085255, 41932745, 65519, 1]
  | 17 => [1, 131054, 126781020, 14875399450, 473353301060, 5717291972382, 31055652948388, 83137223185370, 114890380658550, 83137223185370, 31055652948388, 5717291972382, 473353301060, 14875399450, 126781020, 131054, 1]
  | 18 => [1, 262125, 382439924, 61403313100, 2575022097600, 40457344748072, 285997074307300, 1006709967915228, 1865385657780650, 1865385657780650, 1006709967915228, 285997074307300, 40457344748072, 2575022097600, 61403313100, 382439924, 262125, 1]
  | 19 => [1, 524268, 1151775897, 251732291184, 13796160184500, 278794377854832, 2527925001876036, 11485644635009424, 27862280567093358, 37307713155613000, 27862280567093358, 11485644635009424, 2527925001876036, 278794377854832, 13796160184500, 251732291184, 1151775897, 524268, 1]
  | 20 => [1, 1048555, 3464764515, 1026509354985, 73008517581444, 1879708669896492, 21598596303099900, 124748182104463860, 388588260723953310, 679562217794156938, 679562217794156938, 388588260723953310, 124748182104463860, 21598596303099900, 1879708669896492, 73008517581444, 1026509354985, 3464764515, 1048555, 1]
  | 21 => [1, 2097130, 10414216090, 4168403181210, 382493246941965, 12446388300682056, 179385804170146680, 1300365805079109480, 5119020713873609970, 11458681306629009100, 14950368791471452636, 11458681306629009100, 5119020713873609970, 1300365805079109480, 179385804170146680, 12446388300682056, 382493246941965, 4168403181210, 10414216090, 2097130, 1]
  | 22 => [1, 4194281, 31284590870, 16871482830550, 1987497491971605, 81180715002105741, 1454842842001939656, 13093713503185076040, 64276307695970022450, 181134082346647020610, 301958232385734088196, 301958232385734088196, 181134082346647020610, 64276307695970022450, 13093713503185076040, 1454842842001939656, 81180715002105741, 1987497491971605, 16871482830550, 31284590870, 4194281, 1]
  | 23 => [1, 8388584, 93941852511, 68111623139600, 10258045633638475, 522859244868123336, 11563972049049375189, 128027193497511642816, 774892471811506342650, 2711209131210050520400, 5676283626749486238086, 7246997577257618116704, 5676283626749486238086, 2711209131210050520400, 774892471811506342650, 128027193497511642816, 11563972049049375189, 522859244868123336, 10258045633638475, 68111623139600, 93941852511, 8388584, 1]
  | 24 => [1, 16777191, 282010106381, 274419271461131, 52652460630984375, 3332058336247871041, 90359270750971846371, 1220805072813932520741, 9022467342263743368906, 38735478389273100343750, 100396047731185055904546, 160755658074834738495566, 160755658074834738495566, 100396047731185055904546, 38735478389273100343750, 9022467342263743368906, 1220805072813932520741, 90359270750971846371, 3332058336247871041, 52652460630984375, 274419271461131, 282010106381, 16777191, 1]
  | 25 => [1, 33554406, 846416194536, 1103881308184906, 269025107855605626, 21045399230106913746, 695824003645512474376, 11392907456028953400606, 101955892318210543172751, 531714261368950897339996, 1685388700882132120106256, 3334612565134607644610436, 4179647109945703200884716, 3334612565134607644610436, 1685388700882132120106256, 531714261368950897339996, 101955892318210543172751, 11392907456028953400606, 695824003645512474376, 21045399230106913746, 269025107855605626, 1103881308184906, 846416194536, 33554406, 1]
  | 26 => [1, 67108837, 2540053889352, 4434992805213952, 1369410928058096062, 131921922645609200622, 5291676010120725595552, 104363915717496364217992, 1122675365072416049765667, 7050392783099088207336727, 27046703891606667678608752, 65296181294847273536919072, 101019988341178648636047412, 101019988341178648636047412, 65296181294847273536919072, 27046703891606667678608752, 7050392783099088207336727, 1122675365072416049765667, 104363915717496364217992, 5291676010120725595552, 131921922645609200622, 1369410928058096062, 4434992805213952, 2540053889352, 67108837, 1]
  | 27 => [1, 134217700, 7621839388981, 17800932514200256, 6949059474810401206, 821658576290933317096, 39812092446402872381926, 940744845942385425654976, 12086992684284175368032851, 90712084402294370969149276, 417370420120357843989420631, 1216301437803873965300768896, 2292702567858031535322402436, 2828559673553002161809327536, 2292702567858031535322402436, 1216301437803873965300768896, 417370420120357843989420631, 90712084402294370969149276, 12086992684284175368032851, 940744845942385425654976, 39812092446402872381926, 821658576290933317096, 6949059474810401206, 17800932514200256, 7621839388981, 134217700, 1]
  | 28 => [1, 268435427, 22869007827143, 71394276041525549, 35172519754392812174, 5089779825666239130314, 296761135803220639649594, 8362012708913543725260254, 127597831077405286825395179, 1136773705024343041684116929, 6223892140565234961328313909, 21690914395692570931429377479, 49265956387016393404003534004, 73990373947612503295166622044, 73990373947612503295166622044, 49265956387016393404003534004, 21690914395692570931429377479, 6223892140565234961328313909, 1136773705024343041684116929, 127597831077405286825395179, 8362012708913543725260254, 296761135803220639649594, 5089779825666239130314, 35172519754392812174, 71394276041525549, 22869007827143, 268435427, 1]
  | 29 => [1, 536870882, 68614271237958, 286171698369607914, 177647455673002199595, 31382819428102862274060, 2194392886612867977544380, 73424846658979203874373100, 1323982746583831999659021945, 13919693671791536153349072870, 90061513941680102366609674650, 372321031278485080481062180110, 1009202977757986820086345359195, 1824120537458837340596389252680, 2219711218428375098854998661320, 1824120537458837340596389252680, 1009202977757986820086345359195, 372321031278485080481062180110, 90061513941680102366609674650, 13919693671791536153349072870, 1323982746583831999659021945, 73424846658979203874373100, 2194392886612867977544380, 31382819428102862274060, 177647455673002199595, 286171698369607914, 68614271237958, 536870882, 1]
  | 30 => [1, 1073741793, 205857846098570, 1146539378801856522, 895677742522620803739, 192738102960442228634235, 16113937872564544537388100, 637869809663929594478505540, 13531191345752030482167405705, 167000574396175833526330189545, 1269070526794311849099687878550, 6179021140233742910738329979670, 19821417273866560109781608911515, 42694138146309498709817320643835, 62481596875767023932367207962680, 62481596875767023932367207962680, 42694138146309498709817320643835, 19821417273866560109781608911515, 6179021140233742910738329979670, 1269070526794311849099687878550, 167000574396175833526330189545, 13531191345752030482167405705, 637869809663929594478505540, 16113937872564544537388100, 192738102960442228634235, 895677742522620803739, 1146539378801856522, 205857846098570, 1073741793, 1]
  | _ => []
def eulS (a k : D) : Nat → En
  | 0 => []
  | 1 => [.sh a, .sh k, .ow ((eulL 1).map D.int), .un, .un, .un, .un]
  | j + 2 => [.sh a, .sh k, .ow ((eulL (j + 2)).map D.int), .sh (.int ((j + 2 : Nat) : Int)), .ow ((eulL (j + 1)).map D.int ++ [.int 0]), .ow (.int 0 :: (eulL (j + 1)).map D.int), .un]
theorem eul_step {cf : CF} {w : Nat} {a k : D} : ∀ j : Nat, 1 ≤ j → j < 30 → forF P cf w (.v 3) f8_b0 (.int ((j + 1 : Nat) : Int)) (eulS a k j) = .ok (.nx, eulS a k (j + 1))
  | 0, h, _ => absurd h (by omega)
  | 1, _, _ => by kernel_rfl
  | 2, _, _ => by kernel_rfl
  | 3, _, _ => by kernel_rfl
  | 4, _, _ => by kernel_rfl
  | 5, _, _ => by kernel_rfl
  | 6, _, _ => by kernel_rfl
  | 7, _, _ => by kernel_rfl
  | 8, _, _ => by kernel_rfl
  | 9, _, _ => by kernel_rfl
  | 10, _, _ => by kernel_rfl
  | 11, _, _ => by kernel_rfl
  | 12, _, _ => by kernel_rfl
  | 13, _, _ => by kernel_rfl
  | 14, _, _ => by kernel_rfl
  | 15, _, _ => by kernel_rfl
  | 16, _, _ => by kernel_rfl
  | 17, _, _ => by kernel_rfl
  | 18, _, _ => by kernel_rfl
  | 19, _, _ => by kernel_rfl
  | 20, _, _ => by kernel_rfl
  | 21, _, _ => by kernel_rfl
  | 22, _, _ => by kernel_rfl
  | 23, _, _ => by kernel_rfl
  | 24, _, _ => by kernel_rfl
  | 25, _, _ => by kernel_rfl
  | 26, _, _ => by kernel_rfl
  | 27, _, _ => by kernel_rfl
  | 28, _, _ => by kernel_rfl
  | 29, _, _ => by kernel_rfl
  | j + 30, _, h => absurd h (by omega)
theorem prod_ok {n : Nat} : ∀ k : Nat, k < 32 → ∃ d, fnEv P 100 (n + 1) 23 .no [.int k] = .ok (.sh (.int d), []) ∧ (2 ≤ k → k < 31 → (eulL k).sum = d)
  | 0, _ => ⟨1, by kernel_rfl, by decide +kernel⟩
  | 1, _ => ⟨1, by kernel_rfl, by decide +kernel⟩
  | 2, _ => ⟨2, by kernel_rfl, by decide +kernel⟩
  | 3, _ => ⟨6, by kernel_rfl, by decide +kernel⟩
  | 4, _ => ⟨24, by kernel_rfl, by decide +kernel⟩
  | 5, _ => ⟨120, by kernel_rfl, by decide +kernel⟩
  | 6, _ => ⟨720, by kernel_rfl, by decide +kernel⟩
  | 7, _ => ⟨5040, by kernel_rfl, by decide +kernel⟩
  | 8, _ => ⟨40320, by kernel_rfl, by decide +kernel⟩
  | 9, _ => ⟨362880, by kernel_rfl, by decide +kernel⟩
  | 10, _ => ⟨3628800, by kernel_rfl, by decide +kernel⟩
  | 11, _ => ⟨39916800, by kernel_rfl, by decide +kernel⟩
  | 12, _ => ⟨479001600, by kernel_rfl, by decide +kernel⟩
  | 13, _ => ⟨6227020800, by kernel_rfl, by decide +kernel⟩
  | 14, _ => ⟨87178291200, by kernel_rfl, by decide +kernel⟩
  | 15, _ => ⟨1307674368000, by kernel_rfl, by decide +kernel⟩
  | 16, _ => ⟨20922789888000, by kernel_rfl, by decide +kernel⟩
  | 17, _ => ⟨355687428096000, by kernel_rfl, by decide +kernel⟩
  | 18, _ => ⟨6402373705728000, by kernel_rfl, by decide +kernel⟩
  | 19, _ => ⟨121645100408832000, by kernel_rfl, by decide +kernel⟩
  | 20, _ => ⟨2432902008176640000, by kernel_rfl, by decide +kernel⟩
  | 21, _ => ⟨51090942171709440000, by kernel_rfl, by decide +kernel⟩
  | 22, _ => ⟨1124000727777607680000, by kernel_rfl, by decide +kernel⟩
  | 23, _ => ⟨25852016738884976640000, by kernel_rfl, by decide +kernel⟩
  | 24, _ => ⟨620448401733239439360000, by kernel_rfl, by decide +kernel⟩
  | 25, _ => ⟨15511210043330985984000000, by kernel_rfl, by decide +kernel⟩
  | 26, _ => ⟨403291461126605635584000000, by kernel_rfl, by decide +kernel⟩
  | 27, _ => ⟨10888869450418352160768000000, by kernel_rfl, by decide +kernel⟩
  | 28, _ => ⟨304888344611713860501504000000, by kernel_rfl, by decide +kernel⟩
  | 29, _ => ⟨8841761993739701954543616000000, by kernel_rfl, by decide +kernel⟩
  | 30, _ => ⟨265252859812191058636308480000000, by kernel_rfl, by decide +kernel⟩
  | 31, _ => ⟨8222838654177922817725562880000000, by kernel_rfl, by decide +kernel⟩
  | k + 32, h => absurd h (by omega)
theorem eul_sym : ∀ k : Nat, k < 31 → 2 ≤ k → (eulL k).length = k ∧ ∀ s, s < k → (eulL k).getD s 0 = (eulL k).getD (k - 1 - s) 0
  | 0, _, h => by first | exact absurd h (by omega) | decide +kernel
  | 1, _, h => by first | exact absurd h (by omega) | decide +kernel
  | 2, _, h => by first | exact absurd h (by omega) | decide +kernel
  | 3, _, h => by first | exact absurd h (by omega) | decide +kernel
  | 4, _, h => by first | exact absurd h (by omega) | decide +kernel
  | 5, _, h => by first | exact absurd h (by omega) | decide +kernel
  | 6, _, h => by first | exact absurd h (by omega) | decide +kernel
  | 7, _, h => by first | exact absurd h (by omega) | decide +kernel
  | 8, _, h => by first | exact absurd h (by omega) | decide +kernel
  | 9, _, h => by first | exact absurd h (by omega) | decide +kernel
  | 10, _, h => by first | exact absurd h (by omega) | decide +kernel
  | 11, _, h => by first | exact absurd h (by omega) | decide +kernel
  | 12, _, h => by first | exact absurd h (by omega) | decide +kernel
  | 13, _, h => by first | exact absurd h (by omega) | decide +kernel
  | 14, _, h => by first | exact absurd h (by omega) | decide +kernel
  | 15, _, h => by first | exact absurd h (by omega) | decide +kernel
  | 16, _, h => by first | exact absurd h (by omega) | decide +kernel
  | 17, _, h => by first | exact absurd h (by omega) | decide +kernel
  | 18, _, h => by first | exact absurd h (by omega) | decide +kernel
  | 19, _, h => by first | exact absurd h (by omega) | decide +kernel
  | 20, _, h => by first | exact absurd h (by omega) | decide +kernel
  | 21, _, h => by first | exact absurd h (by omega) | decide +kernel
  | 22, _, h => by first | exact absurd h (by omega) | decide +kernel
  | 23, _, h => by first | exact absurd h (by omega) | decide +kernel
  | 24, _, h => by first | exact absurd h (by omega) | decide +kernel
  | 25, _, h => by first | exact absurd h (by omega) | decide +kernel
  | 26, _, h => by first | exact absurd h (by omega) | decide +kernel
  | 27, _, h => by first | exact absurd h (by omega) | decide +kernel
  | 28, _, h => by first | exact absurd h (by omega) | decide +kernel
  | 29, _, h => by first | exact absurd h (by omega) | decide +kernel
  | 30, _, h => by first | exact absurd h (by omega) | decide +kernel
  | k + 31, h, _ => absurd h (by omega)
theorem eulerian_ok {v s : Nat} (h2 : 2 ≤ v) (h3 : v < 31) (hs : s < v) : fnEv P 100 (n + 4) 8 .no [.int v, .int s] = .ok (.sh (.int ((eulL v).getD s 0)), []) := by
  obtain ⟨l1, l2⟩ := eul_sym v h3 h2
  obtain ⟨j, rfl⟩ : ∃ j, v = j + 2 := ⟨v - 2, by omega⟩
  obtain ⟨σ', e, rfl⟩ := for_rng (f := forF P (fnEv P 100 (n + 3)) 100 (.v 3) f8_b0) (lo := 2) (m := j + 1) (fun i σ => σ = eulS (.int ((j + 2 : Nat) : Int)) (.int s) (i + 1)) rfl (by
    rintro i _ hi rfl
    refine ⟨_, ?_, rfl⟩
    have := eul_step (cf := fnEv P 100 (n + 3)) (w := 100) (a := .int ((j + 2 : Nat) : Int)) (k := .int s) (i + 1) (by omega) (by omega)
    rw [show (2 : Int) + (i : Int) = ((i + 1 + 1 : Nat) : Int) by omega]
    exact this)
  have r := rngA_2 (lo := 2) (hi := ((j + 2 : Nat) : Int) + 1) (k := j + 1) (by omega) (by omega) (by omega)
  have q5 := atI_nat (ds := (eulL (j + 2)).map D.int) (k := s) (by rw [List.length_map, l1]; exact hs)
  have q6 : ((eulL (j + 2)).map D.int).getD s .non = .int ((eulL (j + 2)).getD s 0) := by
    rw [List.getD_eq_getElem?_getD, List.getElem?_map, List.getD_eq_getElem?_getD, List.getElem?_eq_getElem (by rw [l1]; exact hs)]
    rfl
  rw [q6] at q5
  have q1 : ¬ ((j + 2 : Nat) : Int) = 0 := by omega
  have q2 : (0 : Int) ≤ s := by omega
  have q3 : (s : Int) < ((j + 2 : Nat) : Int) := by omega
  have q7 : (0 : Int) ≤ ((j + 2 : Nat) : Int) := by omega
  have q8 : ((j + 2 : Nat) : Int) ≤ 30 := by omega
  have e2 : fnEv P 100 (n + 2) 1 .no [.int ((j + 2 : Nat) : Int), .int 0, .int 30] = .ok (.sh (.bl (decide (0 ≤ ((j + 2 : Nat) : Int)) && decide (((j + 2 : Nat) : Int) ≤ 30))), []) := is_count (n := n) (.int ((j + 2 : Nat) : Int)) nofun nofun 0 30
  refine fn_no (f := f8) (σ' := eulS (.int ((j + 2 : Nat) : Int)) (.int s) (j + 2)) rfl rfl ?_
  refine seq_nx (σ' := [.sh (.int ((j + 2 : Nat) : Int)), .sh (.int s), .un, .un, .un, .un, .un]) ?_ (seq_nx (σ' := eulS (.int ((j + 2 : Nat) : Int)) (.int s) 1) ?_ (seq_nx (for_rng_run (σ1 := eulS (.int ((j + 2 : Nat) : Int)) (.int s) 1) ?_ r e) ?_))
  · clear e r
    generalize ((j + 2 : Nat) : Int) = z at q1 q3 q7 q8 e2 ⊢
    have e1 := fnEv_succ (P := P) (w := 100) (n := n + 2) (k := 2) (fa := .no) (args := [.int z, .int 0, .int 30]) (f := f2) rfl
    have e3 : fnEv P 100 (n + 3) 2 .no [.int z, .int 0, .int 30] = .ok (.sh .non, []) := by
      rw [e1]
      simp [runF, f2, nArgs, st0, e2, q7, q8, fin]
    simp [e3]
    rfl
  · simp [eulS]; rfl
  · simp [eulS, binD]
  · show exSs _ _ _ _ (eulS (.int ((j + 2 : Nat) : Int)) (.int s) (j + 2)) = _
    clear e r
    simp only [eulS]
    generalize ((j + 2 : Nat) : Int) = z at q1 q3 q7 q8 e2 ⊢
    simp [q1, q2, q3, q5, cmpD, ordD, -List.getD_eq_getElem?_getD]

end
end K00
set_option Elab.async false
set_option linter.all false
set_option maxRecDepth 100000
set_option maxHeartbeats 4000000
namespace K00
open PySem L2 PV
section
variable {n : Nat}
/-! ### drawn lists in slot 12 -/
def E12 (c0 c2 c3 c4 c5 c6 c7 c8 c9 c10 c11 : Cell) (t : En) (ds : List D) (c : Cell) : En := c0 :: .ow ds :: c2 :: c3 :: c4 :: c5 :: c6 :: c7 :: c8 :: c9 :: c10 :: c11 :: c :: t
theorem draw12 {c0 c2 c3 c4 c5 c6 c7 c8 c9 c10 c11 c12 : Cell} {t : En} {m : Int} {e : Ex} {I : D → Prop} (hm : 0 < m) (hm2 : m < 9000) (hc : asg c12 = true)
    (he : ∀ ds x, StOk ds → ∃ d ds', ev P (fnEv P 100 (n + 1)) e (E12 c0 c2 c3 c4 c5 c6 c7 c8 c9 c10 c11 t ds (.sh x)) = .ok (.sh d, E12 c0 c2 c3 c4 c5 c6 c7 c8 c9 c10 c11 t ds' (.sh x)) ∧ I d ∧ StOk ds')
    {ds : List D} (hs : StOk ds) : ∃ ys ds', ev P (fnEv P 100 (n + 1)) (.lc (.rng (.cons (.callio 15 1 (.cons (.con (.int m)) .nil)) .nil)) (.v 12) e) (E12 c0 c2 c3 c4 c5 c6 c7 c8 c9 c10 c11 t ds c12) = .ok (.ow ys, E12 c0 c2 c3 c4 c5 c6 c7 c8 c9 c10 c11 t ds' c12) ∧ ys.length < m.toNat ∧ (∀ y ∈ ys, I y) ∧ StOk ds' := by
  obtain ⟨v, d1, e1, v0, vm, g1⟩ := take_k (n := n) hs m hm (by have := small_log (i := m) (k := 14) (by omega) (by decide); omega)
  obtain ⟨ys, ds', c', e2, l, i, g⟩ := draw_lc (P := P) (cf := fnEv P 100 (n + 1)) (t := 12) (e := e) (E := E12 c0 c2 c3 c4 c5 c6 c7 c8 c9 c10 c11 t) (I := I) (fun _ _ => rfl) (fun _ _ => rfl) he ((List.range v.toNat).map fun (i : Nat) => D.int i) [] d1 c12 g1 (by simp; omega)
  refine ⟨ys, ds', ?_, by rw [l]; simp; omega, i, g⟩
  have r := rngA_1 (k := v.toNat) (by omega)
  rw [show ((v.toNat : Nat) : Int) = v by omega] at r
  have e0 : evs P (fnEv P 100 (n + 1)) (.cons (.callio 15 1 (.cons (.con (.int m)) .nil)) .nil) (E12 c0 c2 c3 c4 c5 c6 c7 c8 c9 c10 c11 t ds c12) = .ok ([.int v], E12 c0 c2 c3 c4 c5 c6 c7 c8 c9 c10 c11 t d1 c12) := by
    simp [E12, e1]
  rw [ev_lc, src_rng, e0, bnd_ok, r, lcR_ok]
  have q : noLk (Tgt.v 12).slots (([] : List Nat).foldr lock (E12 c0 c2 c3 c4 c5 c6 c7 c8 c9 c10 c11 t d1 c12)) = true := by
    cases c12 <;> first | rfl | cases hc
  rw [if_pos q]
  show bnd (unexc (lcL (lcE P (fnEv P 100 (n + 1)) (.v 12) e) _ [] (E12 c0 c2 c3 c4 c5 c6 c7 c8 c9 c10 c11 t d1 c12))) _ = _
  rw [e2]
  rfl
theorem s9_ok {c0 c2 c3 c4 c5 c6 c7 c8 c9 c10 c11 c12 c13 c14 : Cell} {t : En} {ds : List D} (hs : StOk ds) (h13 : asg c13 = true) (h14 : asg c14 = true) :
    ∃ (v m : Nat) (ds' : List D), v < 12 ∧ m < 14 ∧ StOk ds' ∧ exS P (fnEv P 100 (n + 1)) 100 f27_s9 (c0 :: .ow ds :: c2 :: c3 :: c4 :: c5 :: c6 :: c7 :: c8 :: c9 :: c10 :: c11 :: c12 :: c13 :: c14 :: t) = .ok (.nx, c0 :: .ow ds' :: c2 :: c3 :: c4 :: c5 :: c6 :: c7 :: c8 :: c9 :: c10 :: c11 :: c12 :: .sh (.int v) :: .sh (.int ((m : Int) - 1)) :: t) := by
  obtain ⟨v1, d1, e1, _, _, g1⟩ := take_k (n := n) hs 12 (by decide) (by decide)
  obtain ⟨v2, d2, e2, _, _, g2⟩ := take_k (n := n) g1 14 (by decide) (by decide)
  refine ⟨v1.toNat, v2.toNat, d2, by omega, by omega, g2, ?_⟩
  have q1 : ((v1.toNat : Nat) : Int) = v1 := by omega
  have q2 : ((v2.toNat : Nat) : Int) = v2 := by omega
  rw [q1, q2]
  simp [f27_s9, e1, e2, binD, h13, h14]
theorem s13_ok {c0 c2 c3 c4 c5 c6 c7 c8 c9 c10 c11 c12 c13 c14 c15 c16 c17 : Cell} {t : En} {ds : List D} (hs : StOk ds) (hc : asg c12 = true) :
    ∃ ys ds', ys.length < 4 ∧ (∀ y ∈ ys, ∃ v : Nat, v < 4 ∧ y = .int v) ∧ StOk ds' ∧ exS P (fnEv P 100 (n + 1)) 100 f27_s13 (E12 c0 c2 c3 c4 c5 c6 c7 c8 c9 c10 c11 (c13 :: c14 :: c15 :: c16 :: c17 :: .un :: t) ds c12) = .ok (.nx, E12 c0 c2 c3 c4 c5 c6 c7 c8 c9 c10 c11 (c13 :: c14 :: c15 :: c16 :: c17 :: .sh (.tup ys) :: t) ds' c12) := by
  obtain ⟨ys, ds', e, l, i, g⟩ := draw12 (n := n) (c0 := c0) (c2 := c2) (c3 := c3) (c4 := c4) (c5 := c5) (c6 := c6) (c7 := c7) (c8 := c8) (c9 := c9) (c10 := c10) (c11 := c11) (c12 := c12) (t := c13 :: c14 :: c15 :: c16 :: c17 :: .un :: t) (m := 4) (e := f27_e1) (I := fun y => ∃ v : Nat, v < 4 ∧ y = .int v) (by decide) (by decide) hc (by
    intro ds x hs
    obtain ⟨v1, d1, e1, _, _, g1⟩ := take_k (n := n) hs 4 (by decide) (by decide)
    refine ⟨.int v1, d1, ?_, ⟨v1.toNat, by omega, by congr 1; omega⟩, g1⟩
    simp [E12, f27_e1, e1]) hs
  refine ⟨ys, ds', l, i, g, ?_⟩
  simp [f27_s13, e, bifD, -ev_lc]
  simp [E12]
theorem s17_ok {c0 c2 c3 c4 c5 c6 c7 c8 c9 c10 c11 c12 c13 c14 c15 c16 c17 c18 : Cell} {t : En} {ds : List D} (hs : StOk ds) :
    ∃ (v : Nat) (ds' : List D), v < 6 ∧ StOk ds' ∧ exS P (fnEv P 100 (n + 1)) 100 f27_s17 (c0 :: .ow ds :: c2 :: c3 :: c4 :: c5 :: c6 :: c7 :: c8 :: c9 :: c10 :: c11 :: c12 :: c13 :: c14 :: c15 :: c16 :: c17 :: c18 :: .un :: t) = .ok (.nx, c0 :: .ow ds' :: c2 :: c3 :: c4 :: c5 :: c6 :: c7 :: c8 :: c9 :: c10 :: c11 :: c12 :: c13 :: c14 :: c15 :: c16 :: c17 :: c18 :: .sh (.int v) :: t) := by
  obtain ⟨v1, d1, e1, _, _, g1⟩ := take_k (n := n) hs 6 (by decide) (by decide)
  refine ⟨v1.toNat, d1, by omega, g1, ?_⟩
  have q1 : ((v1.toNat : Nat) : Int) = v1 := by omega
  rw [q1]
  simp [f27_s17, e1]
theorem s21_ok {c0 c2 c3 c4 c5 c6 c7 c8 c9 c10 c11 c12 c13 c14 c15 c16 c17 c18 c19 c20 c21 c22 c23 : Cell} {t : En} {ds : List D} (hs : StOk ds) :
    ∃ (v : Nat) (ds' : List D), 7 ≤ v ∧ v < 31 ∧ StOk ds' ∧ exS P (fnEv P 100 (n + 1)) 100 f27_s21 (c0 :: .ow ds :: c2 :: c3 :: c4 :: c5 :: c6 :: c7 :: c8 :: c9 :: c10 :: c11 :: c12 :: c13 :: c14 :: c15 :: c16 :: c17 :: c18 :: c19 :: c20 :: c21 :: c22 :: c23 :: .un :: t) = .ok (.nx, c0 :: .ow ds' :: c2 :: c3 :: c4 :: c5 :: c6 :: c7 :: c8 :: c9 :: c10 :: c11 :: c12 :: c13 :: c14 :: c15 :: c16 :: c17 :: c18 :: c19 :: c20 :: c21 :: c22 :: c23 :: .sh (.int v) :: t) := by
  obtain ⟨v1, d1, e1, _, _, g1⟩ := take_k (n := n) hs 24 (by decide) (by decide)
  refine ⟨(7 + v1).toNat, d1, by omega, by omega, g1, ?_⟩
  have q1 : (((7 + v1).toNat : Nat) : Int) = 7 + v1 := by omega
  rw [q1]
  simp [f27_s21, e1, binD]
/-! ### eulerian by sums -/
def E23 (c0 c1 c2 c3 c4 c5 c6 c7 c8 c9 c10 c11 c12 c13 c14 c15 c16 c17 c18 c19 c20 c21 c22 : Cell) (v : Nat) (t : En) (c : Cell) : En := c0 :: c1 :: c2 :: c3 :: c4 :: c5 :: c6 :: c7 :: c8 :: c9 :: c10 :: c11 :: c12 :: c13 :: c14 :: c15 :: c16 :: c17 :: c18 :: c19 :: c20 :: c21 :: c22 :: c :: .sh (.int v) :: t
/-- a comprehension over range(k) in a slot, whose item is told -/
theorem lc_tab {P : Prg} {cf : CF} {t : Nat} {e : Ex} {E : Cell → En} {g : Nat → D} {k : Nat} (hw : ∀ c, wipeE (E c) [t] = E .un) (hs : ∀ x, setc t (.sh x) (E .un) = .ok (E (.sh x)))
    (he : ∀ i, i < k → ev P cf e (E (.sh (.int i))) = .ok (.sh (g i), E (.sh (.int i)))) (hk : k < 16000000) (c : Cell) :
    ∃ c', lcL (lcE P cf (.v t) e) ((List.range k).map fun (i : Nat) => D.int i) [] (E c) = .ok ((List.range k).map g, E c') := by
  have := lc_rng (f := lcE P cf (.v t) e) (lo := 0) (m := k) (fun i acc σ => acc = (List.range i).map g ∧ ∃ c, σ = E c) (σ := E c) ⟨rfl, c, rfl⟩ (by
    rintro i acc _ hi ⟨rfl, c, rfl⟩
    refine ⟨(List.range (i + 1)).map g, E (.sh (.int i)), ?_, rfl, _, rfl⟩
    unfold lcE lcF
    rw [show (Tgt.v t).slots = [t] from rfl, hw, setT_v, hs, Int.zero_add]
    show addL _ (bnd (ev P cf e (E (.sh (.int i)))) fun v σ => esc v σ) = _
    rw [he i hi]
    show (if ((List.range i).map g).length < 16000000 then R.ok (((List.range i).map g) ++ [g i], E (.sh (.int i))) else .stuck) = _
    rw [if_pos (by simp; omega), List.range_succ, List.map_append]
    rfl)
  simp only [Int.zero_add] at this
  obtain ⟨acc', σ', e1, rfl, c', rfl⟩ := this
  exact ⟨c', e1⟩
theorem lc_run {P : Prg} {cf : CF} {t : Nat} {e : Ex} {E : Cell → En} {c : Cell} {es : Exs} {ds xs ys : List D} (h : evs P cf es (E c) = .ok (ds, E c)) (hr : rngA ds = some xs) (hn : noLk [t] (E c) = true) (hb : ∀ c', back (E c) [t] (E c') = E c) (e1 : ∃ c', lcL (lcE P cf (.v t) e) xs [] (E c) = .ok (ys, E c')) :
    ev P cf (.lc (.rng es) (.v t) e) (E c) = .ok (.ow ys, E c) := by
  obtain ⟨c', e1⟩ := e1
  rw [ev_lc, src_rng, h, bnd_ok, hr, lcR_ok]
  show (if noLk [t] (E c) = true then bnd (unexc (lcL (lcE P cf (.v t) e) xs [] (E c))) fun acc σ2 => .ok (Vl.ow acc, back (E c) [t] σ2) else .stuck) = _
  rw [if_pos hn, e1]
  show R.ok (Vl.ow ys, back (E c) [t] (E c')) = _
  rw [hb]
theorem eul_sum {v : Nat} (h2 : 2 ≤ v) (h3 : v < 31) : intsD ((List.range v).map fun s => D.int ((eulL v).getD s 0)) = some (eulL v) := by
  have l := (eul_sym v h3 h2).1
  have e : (List.range v).map (fun s => D.int ((eulL v).getD s 0)) = (eulL v).map D.int := by
    apply List.ext_getElem (by simp [l])
    intro i h1 h2
    simp only [List.getElem_map, List.getElem_range]
    rw [List.length_map] at h2
    rw [List.getD_eq_getElem?_getD, List.getElem?_eq_getElem h2]
    rfl
  rw [e]
  generalize eulL v = l
  induction l with
  | nil => rfl
  | cons a l i => rw [List.map_cons, intsD, i]; rfl
theorem any_false : ∀ v : Nat, boolsD ((List.range v).map fun _ => D.bl false) = some (List.replicate v false) := by
  intro v
  have e : (List.range v).map (fun _ => D.bl false) = (List.replicate v false).map D.bl := by
    apply List.ext_getElem (by simp)
    intro i h1 h2
    simp
  rw [e]
  generalize List.replicate v false = l
  induction l with
  | nil => rfl
  | cons a l i => rw [List.map_cons, boolsD, i]; rfl
theorem s22_ok {c0 c1 c2 c3 c4 c5 c6 c7 c8 c9 c10 c11 c12 c13 c14 c15 c16 c17 c18 c19 c20 c21 c22 : Cell} {t : En} {v : Nat} (h2 : 7 ≤ v) (h3 : v < 31) :
    exS P (fnEv P 100 (n + 4)) 100 f27_s22 (E23 c0 c1 c2 c3 c4 c5 c6 c7 c8 c9 c10 c11 c12 c13 c14 c15 c16 c17 c18 c19 c20 c21 c22 v t .un) = .ok (.nx, E23 c0 c1 c2 c3 c4 c5 c6 c7 c8 c9 c10 c11 c12 c13 c14 c15 c16 c17 c18 c19 c20 c21 c22 v t .un) := by
  have r := rngA_1 (k := v) (by omega)
  have a1 := lc_run (P := P) (cf := fnEv P 100 (n + 4)) (t := 23) (e := f27_e7) (E := E23 c0 c1 c2 c3 c4 c5 c6 c7 c8 c9 c10 c11 c12 c13 c14 c15 c16 c17 c18 c19 c20 c21 c22 v t) (c := .un) (es := .cons (.var 24) .nil) (by simp [E23]) r rfl (fun _ => rfl)
    (lc_tab (g := fun s => D.int ((eulL v).getD s 0)) (fun _ => rfl) (fun _ => rfl) (fun i hi => by
      have e1 := eulerian_ok (n := n) (v := v) (s := i) (by omega) (by omega) hi
      simp [E23, f27_e7, e1, -List.getD_eq_getElem?_getD]) (by omega) .un)
  have a2 := lc_run (P := P) (cf := fnEv P 100 (n + 4)) (t := 23) (e := f27_e6) (E := E23 c0 c1 c2 c3 c4 c5 c6 c7 c8 c9 c10 c11 c12 c13 c14 c15 c16 c17 c18 c19 c20 c21 c22 v t) (c := .un) (es := .cons (.var 24) .nil) (by simp [E23]) r rfl (fun _ => rfl)
    (lc_tab (g := fun _ => D.bl false) (fun _ => rfl) (fun _ => rfl) (fun i hi => by
      have e1 := eulerian_ok (n := n) (v := v) (s := i) (by omega) (by omega) hi
      have e2 := eulerian_ok (n := n) (v := v) (s := v - 1 - i) (by omega) (by omega) (by omega)
      rw [← (eul_sym v h3 (by omega)).2 i hi, show ((v - 1 - i : Nat) : Int) = (v : Int) - 1 - i by omega] at e2
      simp [E23, f27_e6, e1, e2, binD, cmpD, -List.getD_eq_getElem?_getD]) (by omega) .un)
  obtain ⟨d, e4, e5⟩ := prod_ok (n := n + 3) v (by omega)
  have e6 := e5 (by omega) h3
  have e7 := eul_sum (v := v) (by omega) h3
  have e8 := any_false v
  have ev24 : ev P (fnEv P 100 (n + 4)) (.var 24) (E23 c0 c1 c2 c3 c4 c5 c6 c7 c8 c9 c10 c11 c12 c13 c14 c15 c16 c17 c18 c19 c20 c21 c22 v t .un) = .ok (.sh (.int v), E23 c0 c1 c2 c3 c4 c5 c6 c7 c8 c9 c10 c11 c12 c13 c14 c15 c16 c17 c18 c19 c20 c21 c22 v t .un) := by simp [E23]
  simp [f27_s22, a1, a2, ev24, e4, e6, e7, e8, bifD, cmpD, -ev_lc, -ev_var, -List.getD_eq_getElem?_getD]
end
end K00
set_option Elab.async false
set_option linter.all false
set_option maxRecDepth 100000
set_option maxHeartbeats 4000000
namespace PV
open PySem L2
/-! ## comprehensions with a test -/
theorem lcf_tab {P : Prg} {cf : CF} {t : Nat} {ce e : Ex} {E : Cell → En} {b : D → Bool} {g : D → D} (hw : ∀ c, wipeE (E c) [t] = E .un) (hs : ∀ x, setc t (.sh x) (E .un) = .ok (E (.sh x))) : ∀ (xs : List D) (acc : List D) (c : Cell),
    (∀ x ∈ xs, ev P cf ce (E (.sh x)) = .ok (.sh (.bl (b x)), E (.sh x)) ∧ ev P cf e (E (.sh x)) = .ok (.sh (g x), E (.sh x))) → acc.length + xs.length < 16000000 →
    ∃ c', lcL (lcC P cf (.v t) ce e) xs acc (E c) = .ok (acc ++ (xs.filter b).map g, E c')
  | [], acc, c, h, hl => ⟨c, by simp [lcL]⟩
  | x :: xs, acc, c, h, hl => by
    rw [List.length_cons] at hl
    obtain ⟨h1, h2⟩ := h x (List.mem_cons_self ..)
    have e1 : lcC P cf (.v t) ce e x acc (E c) = .ok (acc ++ (if b x then [g x] else []), E (.sh x)) := by
      unfold lcC lcF
      rw [show (Tgt.v t).slots = [t] from rfl, hw, setT_v, hs]
      show bnd (bnd (ev P cf ce (E (.sh x))) fun v σ => toB v σ) _ = _
      rw [h1]
      show (match b x with
        | true => addL acc (bnd (ev P cf e (E (.sh x))) fun v σ => esc v σ)
        | false => .ok (acc, E (.sh x))) = _
      cases b x
      · simp
      · rw [h2]
        show (if acc.length < 16000000 then R.ok (acc ++ [g x], E (.sh x)) else .stuck) = _
        rw [if_pos (by omega)]
        rfl
    obtain ⟨c', e2⟩ := lcf_tab hw hs xs (acc ++ (if b x then [g x] else [])) (.sh x) (fun y hy => h y (List.mem_cons_of_mem _ hy)) (by split <;> simp <;> omega)
    refine ⟨c', ?_⟩
    simp only [lcL, e1, bnd_ok]
    rw [e2, List.append_assoc]
    congr 2
    cases hb : b x <;> simp [hb]
theorem lcf_tab2 {P : Prg} {cf : CF} {t u : Nat} {ce e : Ex} {E : Cell → Cell → En} {b : D → D → Bool} {g : D → D → D} (hw : ∀ c d, wipeE (E c d) [t, u] = E .un .un) (hs : ∀ x y, setAll [t, u] [x, y] (E .un .un) = .ok (E (.sh x) (.sh y))) : ∀ (xs : List (D × D)) (acc : List D) (c d : Cell),
    (∀ p ∈ xs, ev P cf ce (E (.sh p.1) (.sh p.2)) = .ok (.sh (.bl (b p.1 p.2)), E (.sh p.1) (.sh p.2)) ∧ ev P cf e (E (.sh p.1) (.sh p.2)) = .ok (.sh (g p.1 p.2), E (.sh p.1) (.sh p.2))) → acc.length + xs.length < 16000000 →
    ∃ c' d', lcL (lcC P cf (.tp [t, u]) ce e) (xs.map fun p => .tup [p.1, p.2]) acc (E c d) = .ok (acc ++ (xs.filter fun p => b p.1 p.2).map (fun p => g p.1 p.2), E c' d')
  | [], acc, c, d, h, hl => ⟨c, d, by simp [lcL]⟩
  | (x, y) :: xs, acc, c, d, h, hl => by
    rw [List.length_cons] at hl
    obtain ⟨h1, h2⟩ := h (x, y) (List.mem_cons_self ..)
    have e1 : lcC P cf (.tp [t, u]) ce e (.tup [x, y]) acc (E c d) = .ok (acc ++ (if b x y then [g x y] else []), E (.sh x) (.sh y)) := by
      unfold lcC lcF
      rw [show (Tgt.tp [t, u]).slots = [t, u] from rfl, hw, setT_tp, hs]
      show bnd (bnd (ev P cf ce (E (.sh x) (.sh y))) fun v σ => toB v σ) _ = _
      rw [h1]
      show (match b x y with
        | true => addL acc (bnd (ev P cf e (E (.sh x) (.sh y))) fun v σ => esc v σ)
        | false => .ok (acc, E (.sh x) (.sh y))) = _
      cases b x y
      · simp
      · rw [h2]
        show (if acc.length < 16000000 then R.ok (acc ++ [g x y], E (.sh x) (.sh y)) else .stuck) = _
        rw [if_pos (by omega)]
        rfl
    obtain ⟨c', d', e2⟩ := lcf_tab2 hw hs xs (acc ++ (if b x y then [g x y] else [])) (.sh x) (.sh y) (fun y hy => h y (List.mem_cons_of_mem _ hy)) (by split <;> simp <;> omega)
    refine ⟨c', d', ?_⟩
    simp only [List.map_cons, lcL, e1, bnd_ok]
    rw [e2, List.append_assoc]
    congr 2
    cases hb : b x y <;> simp [hb]
theorem zipD_eq : ∀ (xs ys : List D), zipD xs ys = (xs.zip ys).map fun p => .tup [p.1, p.2]
  | [], ys => by cases ys <;> rfl
  | x :: xs, [] => rfl
  | x :: xs, y :: ys => by rw [zipD, List.zip_cons_cons, List.map_cons, zipD_eq xs ys]
theorem rngA_2' {lo hi : Int} (h1 : -1000000 < lo) (h2 : lo < 1000000000) (h3 : -1000000 < hi) (h4 : hi < 1000000000) : rngA [.int lo, .int hi] = some ((List.range (hi - lo).toNat).map fun (i : Nat) => D.int (lo + i)) := by
  show rngD lo hi 1 = _
  unfold rngD
  rw [if_pos ⟨h1, h2, h3, h4⟩, if_pos rfl]
end PV
namespace K00
open PySem L2 PV
section
variable {n : Nat}
theorem s23_ok {c0 c2 c3 c4 c5 c6 c7 c8 c9 c10 c11 c12 c13 c14 c15 c16 c17 c18 c19 c20 c21 c22 c23 c24 : Cell} {t : En} {ds : List D} (hs : StOk ds) :
    ∃ (v m : Nat) (ds' : List D), v < 7 ∧ m < 5 ∧ StOk ds' ∧ exS P (fnEv P 100 (n + 1)) 100 f27_s23 (c0 :: .ow ds :: c2 :: c3 :: c4 :: c5 :: c6 :: c7 :: c8 :: c9 :: c10 :: c11 :: c12 :: c13 :: c14 :: c15 :: c16 :: c17 :: c18 :: c19 :: c20 :: c21 :: c22 :: c23 :: c24 :: .un :: .un :: t) = .ok (.nx, c0 :: .ow ds' :: c2 :: c3 :: c4 :: c5 :: c6 :: c7 :: c8 :: c9 :: c10 :: c11 :: c12 :: c13 :: c14 :: c15 :: c16 :: c17 :: c18 :: c19 :: c20 :: c21 :: c22 :: c23 :: c24 :: .sh (.int v) :: .sh (.int m) :: t) := by
  obtain ⟨v1, d1, e1, _, _, g1⟩ := take_k (n := n) hs 7 (by decide) (by decide)
  obtain ⟨v2, d2, e2, _, _, g2⟩ := take_k (n := n) g1 5 (by decide) (by decide)
  refine ⟨v1.toNat, v2.toNat, d2, by omega, by omega, g2, ?_⟩
  have q1 : ((v1.toNat : Nat) : Int) = v1 := by omega
  have q2 : ((v2.toNat : Nat) : Int) = v2 := by omega
  rw [q1, q2]
  simp [f27_s23, e1, e2]
def E24 (c0 c1 c2 c3 c4 c5 c6 c7 c8 c9 c10 c11 c12 c13 c14 c15 c16 c17 c18 c19 c20 c21 c23 c24 : Cell) (v m : Nat) (t : En) : En := c0 :: c1 :: c2 :: c3 :: c4 :: c5 :: c6 :: c7 :: c8 :: c9 :: c10 :: c11 :: c12 :: c13 :: c14 :: c15 :: c16 :: c17 :: c18 :: c19 :: c20 :: c21 :: .un :: c23 :: c24 :: .sh (.int v) :: .sh (.int m) :: t
theorem s24_ok {c0 c1 c2 c3 c4 c5 c6 c7 c8 c9 c10 c11 c12 c13 c14 c15 c16 c17 c18 c19 c20 c21 c23 c24 : Cell} {t : En} : ∀ (v m : Nat), v < 7 → m < 5 → exS P (fnEv P 100 (n + 20)) 100 f27_s24 (E24 c0 c1 c2 c3 c4 c5 c6 c7 c8 c9 c10 c11 c12 c13 c14 c15 c16 c17 c18 c19 c20 c21 c23 c24 v m t) = .ok (.nx, E24 c0 c1 c2 c3 c4 c5 c6 c7 c8 c9 c10 c11 c12 c13 c14 c15 c16 c17 c18 c19 c20 c21 c23 c24 v m t)
  | 0, 0, _, _ => by kernel_rfl
  | 0, 1, _, _ => by kernel_rfl
  | 0, 2, _, _ => by kernel_rfl
  | 0, 3, _, _ => by kernel_rfl
  | 0, 4, _, _ => by kernel_rfl
  | 1, 0, _, _ => by kernel_rfl
  | 1, 1, _, _ => by kernel_rfl
  | 1, 2, _, _ => by kernel_rfl
  | 1, 3, _, _ => by kernel_rfl
  | 1, 4, _, _ => by kernel_rfl
  | 2, 0, _, _ => by kernel_rfl
  | 2, 1, _, _ => by kernel_rfl
  | 2, 2, _, _ => by kernel_rfl
  | 2, 3, _, _ => by kernel_rfl
  | 2, 4, _, _ => by kernel_rfl
  | 3, 0, _, _ => by kernel_rfl
  | 3, 1, _, _ => by kernel_rfl
  | 3, 2, _, _ => by kernel_rfl
  | 3, 3, _, _ => by kernel_rfl
  | 3, 4, _, _ => by kernel_rfl
  | 4, 0, _, _ => by kernel_rfl
  | 4, 1, _, _ => by kernel_rfl
  | 4, 2, _, _ => by kernel_rfl
  | 4, 3, _, _ => by kernel_rfl
  | 4, 4, _, _ => by kernel_rfl
  | 5, 0, _, _ => by kernel_rfl
  | 5, 1, _, _ => by kernel_rfl
  | 5, 2, _, _ => by kernel_rfl
  | 5, 3, _, _ => by kernel_rfl
  | 5, 4, _, _ => by kernel_rfl
  | 6, 0, _, _ => by kernel_rfl
  | 6, 1, _, _ => by kernel_rfl
  | 6, 2, _, _ => by kernel_rfl
  | 6, 3, _, _ => by kernel_rfl
  | 6, 4, _, _ => by kernel_rfl
  | v + 7, _, h, _ => absurd h (by omega)
  | _, m + 5, _, h => absurd h (by omega)
theorem s25_ok {c0 c1 c2 c3 c4 c5 c6 c7 c8 c9 c10 c11 c12 c13 c14 c15 c16 c17 c18 c19 c20 c21 c23 c24 : Cell} {v : Nat} {t : En} : ∀ (m : Nat), m < 5 → exSs P (fnEv P 100 (n + 20)) 100 (.cons f27_s25 (.cons f27_s26 .nil)) (E24 c0 c1 c2 c3 c4 c5 c6 c7 c8 c9 c10 c11 c12 c13 c14 c15 c16 c17 c18 c19 c20 c21 c23 c24 v m t) = .ok (.nx, E24 c0 c1 c2 c3 c4 c5 c6 c7 c8 c9 c10 c11 c12 c13 c14 c15 c16 c17 c18 c19 c20 c21 c23 c24 v m t)
  | 0, _ => by kernel_rfl
  | 1, _ => by kernel_rfl
  | 2, _ => by kernel_rfl
  | 3, _ => by kernel_rfl
  | 4, _ => by kernel_rfl
  | m + 5, h => absurd h (by omega)
/-! ### ascending -/
def ltI : D → D → Bool
  | .int i, .int j => decide (i < j)
  | _, _ => false
def isI (d : D) : Prop := ∃ i, d = .int i
theorem asc_ok {a : D} {xs : List D} (ha : items a = some xs) (hx : ∀ x ∈ xs, isI x) (hl : xs.length ≤ 100) : fnEv P 100 (n + 1) 12 .no [a] = .ok (.sh (.tup (sortL ltI xs)), []) :=
  sort_ev (f := f12) rfl rfl rfl rfl (S := isI) (by rintro _ _ ⟨i, rfl⟩ ⟨j, rfl⟩; rfl) (by decide) ha hx hl
theorem line_ok {a : D} {xs : List D} (ha : items a = some xs) (hx : ∀ x ∈ xs, isI x) (hl : xs.length ≤ 100) : fnEv P 100 (n + 1) 24 .no [a] = .ok (.sh (.tup (sortL ltI xs)), []) :=
  sort_ev (f := f24) rfl rfl rfl rfl (S := isI) (by rintro _ _ ⟨i, rfl⟩ ⟨j, rfl⟩; rfl) (by decide) ha hx hl
theorem all_true : ∀ v : Nat, boolsD ((List.range v).map fun _ => D.bl true) = some (List.replicate v true) := by
  intro v
  have e : (List.range v).map (fun _ => D.bl true) = (List.replicate v true).map D.bl := by
    apply List.ext_getElem (by simp)
    intro i h1 h2
    simp
  rw [e]
  generalize List.replicate v true = l
  induction l with
  | nil => rfl
  | cons a l i => rw [List.map_cons, boolsD, i]; rfl
theorem same_tup {xs : List D} (hx : ∀ x ∈ xs, isI x) (hl : xs.length < 10000000) : fnEv P 100 (n + 3) 18 .no [.tup xs, .tup xs] = .ok (.sh (.bl true), []) := by
  have a := lc_run (P := P) (cf := fnEv P 100 (n + 2)) (t := 2) (e := f18_e0) (E := fun c => [.sh (.tup xs), .sh (.tup xs), c]) (c := .un) (es := .cons (.bif .len (.cons (.var 1) .nil)) .nil) (by simp [bifD]) (rngA_1 (k := xs.length) (by omega)) rfl (fun _ => rfl)
    (lc_tab (E := fun c => [.sh (.tup xs), .sh (.tup xs), c]) (g := fun _ => D.bl true) (fun _ => rfl) (fun _ => rfl) (fun i hi => by
      obtain ⟨z, hz⟩ := hx (xs.getD i .non) (by rw [List.getD_eq_getElem?_getD, List.getElem?_eq_getElem hi]; exact List.getElem_mem _)
      have e1 := atI_nat (ds := xs) (k := i) hi
      rw [hz] at e1
      have e2 := same_int (n := n) z z
      simp [f18_e0, e1, e2]) (by omega) .un)
  have e := all_true xs.length
  refine fn_no (f := f18) (σ' := [.sh (.tup xs), .sh (.tup xs), .un]) rfl rfl ?_

  simp [f18, isiD, isi1, bifD, cmpD, a, e, -ev_lc]
end
end K00
set_option Elab.async false
set_option linter.all false
set_option maxRecDepth 100000
set_option maxHeartbeats 4000000
namespace K00
open PySem L2 PV
section
variable {n : Nat}
theorem s27_ok {c0 c2 c3 c4 c5 c6 c7 c8 c9 c10 c11 c12 c13 c14 c15 c16 c17 c18 c19 c20 c21 c22 c23 c24 c25 c26 : Cell} {t : En} {ds : List D} (hs : StOk ds) (hc : asg c12 = true) :
    ∃ ys ds', ys.length < 8 ∧ (∀ y ∈ ys, isI y) ∧ StOk ds' ∧ exS P (fnEv P 100 (n + 1)) 100 f27_s27 (E12 c0 c2 c3 c4 c5 c6 c7 c8 c9 c10 c11 (c13 :: c14 :: c15 :: c16 :: c17 :: c18 :: c19 :: c20 :: c21 :: c22 :: c23 :: c24 :: c25 :: c26 :: .un :: t) ds c12) = .ok (.nx, E12 c0 c2 c3 c4 c5 c6 c7 c8 c9 c10 c11 (c13 :: c14 :: c15 :: c16 :: c17 :: c18 :: c19 :: c20 :: c21 :: c22 :: c23 :: c24 :: c25 :: c26 :: .ow ys :: t) ds' c12) := by
  obtain ⟨ys, ds', e, l, i, g⟩ := draw12 (n := n) (c0 := c0) (c2 := c2) (c3 := c3) (c4 := c4) (c5 := c5) (c6 := c6) (c7 := c7) (c8 := c8) (c9 := c9) (c10 := c10) (c11 := c11) (c12 := c12) (t := c13 :: c14 :: c15 :: c16 :: c17 :: c18 :: c19 :: c20 :: c21 :: c22 :: c23 :: c24 :: c25 :: c26 :: .un :: t) (m := 8) (e := f27_e10) (I := isI) (by decide) (by decide) hc (by
    intro ds x hs
    obtain ⟨v1, d1, e1, _, _, g1⟩ := take_k (n := n) hs 9 (by decide) (by decide)
    refine ⟨.int (v1 - 4), d1, ?_, ⟨_, rfl⟩, g1⟩
    simp [E12, f27_e10, e1, binD]) hs
  refine ⟨ys, ds', l, i, g, ?_⟩
  simp [f27_s27, e, bifD, -ev_lc]
  simp [E12]
theorem s28_ok {c0 c1 c2 c3 c4 c5 c6 c7 c8 c9 c10 c11 c12 c13 c14 c15 c16 c17 c18 c19 c20 c21 c22 c23 c24 c25 c26 : Cell} {ys : List D} {t : En} (hl : ys.length < 8) (hy : ∀ y ∈ ys, isI y) :
    exS P (fnEv P 100 (n + 3)) 100 f27_s28 (c0 :: c1 :: c2 :: c3 :: c4 :: c5 :: c6 :: c7 :: c8 :: c9 :: c10 :: c11 :: c12 :: c13 :: c14 :: c15 :: c16 :: c17 :: c18 :: c19 :: c20 :: c21 :: c22 :: c23 :: c24 :: c25 :: c26 :: .ow ys :: t) = .ok (.nx, c0 :: c1 :: c2 :: c3 :: c4 :: c5 :: c6 :: c7 :: c8 :: c9 :: c10 :: c11 :: c12 :: c13 :: c14 :: c15 :: c16 :: c17 :: c18 :: c19 :: c20 :: c21 :: c22 :: c23 :: c24 :: c25 :: c26 :: .sh (.lst ys) :: t) := by
  have e1 := asc_ok (n := n + 2) (a := .lst ys) rfl hy (by omega)
  have e2 := line_ok (n := n + 2) (a := .lst ys) rfl hy (by omega)
  have e3 := asc_ok (n := n + 2) (a := .tup ys) rfl hy (by omega)
  have e4 := same_tup (n := n) (xs := sortL ltI ys) (fun x hx => hy x (mem_sortL hx)) (by rw [sortL_length]; omega)
  generalize sortL ltI ys = z at *
  simp [f27_s28, e1, e2, e3, e4, bifD]
theorem s29_ok {c0 c2 c3 c4 c5 c6 c7 c8 c9 c10 c11 c12 c13 c14 c15 c16 c17 c18 c19 c20 c21 c22 c23 c24 c25 c26 c27 : Cell} {t : En} {ds : List D} (hs : StOk ds) (hc : asg c12 = true) :
    ∃ (ss : List Int) (ds' : List D), ss.length < 8 ∧ StOk ds' ∧ exS P (fnEv P 100 (n + 1)) 100 f27_s29 (E12 c0 c2 c3 c4 c5 c6 c7 c8 c9 c10 c11 (c13 :: c14 :: c15 :: c16 :: c17 :: c18 :: c19 :: c20 :: c21 :: c22 :: c23 :: c24 :: c25 :: c26 :: c27 :: .un :: t) ds c12) = .ok (.nx, E12 c0 c2 c3 c4 c5 c6 c7 c8 c9 c10 c11 (c13 :: c14 :: c15 :: c16 :: c17 :: c18 :: c19 :: c20 :: c21 :: c22 :: c23 :: c24 :: c25 :: c26 :: c27 :: .ow (ss.map D.int) :: t) ds' c12) := by
  obtain ⟨ys, ds', e, l, i, g⟩ := draw12 (n := n) (c0 := c0) (c2 := c2) (c3 := c3) (c4 := c4) (c5 := c5) (c6 := c6) (c7 := c7) (c8 := c8) (c9 := c9) (c10 := c10) (c11 := c11) (c12 := c12) (t := c13 :: c14 :: c15 :: c16 :: c17 :: c18 :: c19 :: c20 :: c21 :: c22 :: c23 :: c24 :: c25 :: c26 :: c27 :: .un :: t) (m := 8) (e := f27_e11) (I := isI) (by decide) (by decide) hc (by
    intro ds x hs
    obtain ⟨v1, d1, e1, _, _, g1⟩ := take_k (n := n) hs 3 (by decide) (by decide)
    refine ⟨.int (v1 - 1), d1, ?_, ⟨_, rfl⟩, g1⟩
    simp [E12, f27_e11, e1, binD]) hs
  obtain ⟨ss, rfl⟩ : ∃ ss : List Int, ys = ss.map D.int := by
    clear e l
    induction ys with
    | nil => exact ⟨[], rfl⟩
    | cons y ys ih =>
      obtain ⟨z, rfl⟩ := i y (List.mem_cons_self ..)
      obtain ⟨ss, rfl⟩ := ih (fun x hx => i x (List.mem_cons_of_mem _ hx))
      exact ⟨z :: ss, rfl⟩
  refine ⟨ss, ds', by simpa using l, g, ?_⟩
  simp [f27_s29, e, bifD, -ev_lc]
  simp [E12]
/-! ### signs -/
def nz (ss : List Int) : List Int := ss.filter fun s => decide (s ≠ 0)
def nzB : D → Bool
  | .int s => decide (s ≠ 0)
  | _ => false
theorem nz_map (ss : List Int) : ((ss.map D.int).filter nzB).map (fun d => d) = (nz ss).map D.int := by
  rw [List.map_id', List.filter_map]
  rfl
theorem nz_le (ss : List Int) : (nz ss).length ≤ ss.length := List.length_filter_le _ _
def neB (a b : D) : Bool := match a, b with
  | .int i, .int j => decide (i ≠ j)
  | _, _ => false
/-- the number of changes -/
def chg (L : List Int) : Nat := ((List.range (L.length - 1)).filter fun i => decide (L.getD i 0 ≠ L.getD (i + 1) 0)).length
theorem zip_range (L : List Int) : (L.map D.int).zip ((L.drop 1).map D.int) = (List.range (L.length - 1)).map fun i => (D.int (L.getD i 0), D.int (L.getD (i + 1) 0)) := by
  apply List.ext_getElem
  · simp
  · intro i h1 h2
    simp only [List.length_map, List.length_range] at h2
    simp only [List.getElem_zip, List.getElem_map, List.getElem_drop, List.getElem_range, List.getD_eq_getElem?_getD]
    rw [List.getElem?_eq_getElem (by omega), List.getElem?_eq_getElem (by omega)]
    simp only [Option.getD_some]
    congr 3
    omega
theorem sign_changes_ok {ss : List Int} (hl : ss.length < 1000000) : fnEv P 100 (n + 1) 13 .no [.lst (ss.map D.int)] = .ok (.sh (.int (chg (nz ss))), []) := by
  obtain ⟨c', e1⟩ := lcf_tab (P := P) (cf := fnEv P 100 n) (t := 2) (ce := f13_e0) (e := f13_e1) (E := fun c => [.sh (.lst (ss.map D.int)), .un, c, .un, .un]) (b := nzB) (g := fun d => d) (fun _ => rfl) (fun _ => rfl) (ss.map D.int) [] .un (by
    intro x hx
    obtain ⟨z, _, rfl⟩ := List.mem_map.mp hx
    refine ⟨?_, by simp [f13_e1]⟩
    simp [f13_e0, cmpD, nzB]) (by simp; omega)
  rw [nz_map, List.nil_append] at e1
  have l := nz_le ss
  generalize nz ss = L at *
  obtain ⟨c3, c4, e2⟩ := lcf_tab2 (P := P) (cf := fnEv P 100 n) (t := 3) (u := 4) (ce := f13_e2) (e := f13_e3) (E := fun c d => [.sh (.lst (ss.map D.int)), .lk (L.map D.int), .un, c, d]) (b := neB) (g := fun _ _ => .int 1) (fun _ _ => rfl) (fun _ _ => rfl) ((List.range (L.length - 1)).map fun i => (D.int (L.getD i 0), D.int (L.getD (i + 1) 0))) [] .un .un (by
    intro p hp
    obtain ⟨i, _, rfl⟩ := List.mem_map.mp hp
    refine ⟨?_, by simp [f13_e3]⟩
    simp [f13_e2, cmpD, neB]) (by simp; omega)
  rw [← zip_range, ← zipD_eq, List.nil_append] at e2
  have ec : cutD (L.map D.int) (some 1) none = (L.drop 1).map D.int := by
    unfold cutD
    have h1 : HT.sIx (L.map D.int).length 0 (some 1) = min 1 L.length := by simp [HT.sIx]
    have h2 : HT.sIx (L.map D.int).length (L.map D.int).length none = L.length := by simp [HT.sIx]
    rw [h1, h2, ← List.map_drop]
    rcases Nat.lt_or_ge 0 L.length with h | h
    · rw [Nat.min_eq_left (by omega), List.take_of_length_le (by simp)]
    · have : L = [] := List.length_eq_zero_iff.mp (by omega)
      subst this
      rfl
  have el : ((((List.range (L.length - 1)).map fun i => (D.int (L.getD i 0), D.int (L.getD (i + 1) 0))).filter fun p => neB p.1 p.2).map fun _ => D.int 1).length = chg L := by
    rw [List.length_map, List.filter_map, List.length_map]
    rfl
  rw [← zip_range] at el
  generalize hz : List.map (fun p => D.int 1) (List.filter (fun p => neB p.1 p.2) ((L.map D.int).zip ((L.drop 1).map D.int))) = z at *
  refine fn_no (f := f13) (σ' := [.sh (.lst (ss.map D.int)), .ow (L.map D.int), .un, .un, .un]) rfl rfl ?_
  show exSs P (fnEv P 100 n) 100 _ [.sh (.lst (ss.map D.int)), .un, .un, .un, .un] = _
  simp only [List.drop_one, List.map_tail] at e2 ec
  refine seq_nx (σ' := [.sh (.lst (ss.map D.int)), .ow (L.map D.int), .un, .un, .un]) ?_ ?_
  · simp [e1, Tgt.slots, back]
  · simp [slcD, ec, Tgt.slots, e2, back, bifD]
    exact_mod_cast el
end
end K00
set_option Elab.async false
set_option linter.all false
set_option maxRecDepth 100000
set_option maxHeartbeats 4000000
namespace PV
open PySem L2
section
variable {P : Prg} {cf : CF} {w : Nat}
theorem seq1 {a : Sm} {r : Sms} {σ σ' : En} {q : R (Fl × En)} (h : exSs P cf w (.cons a .nil) σ = .ok (.nx, σ')) (h2 : exSs P cf w r σ' = q) : exSs P cf w (.cons a r) σ = q := by
  rw [exSs_cons] at h ⊢
  cases e : exS P cf w a σ with
  | ok p =>
    obtain ⟨f, τ⟩ := p
    rw [e] at h
    cases f with
    | nx =>
      rw [bnd_ok] at h ⊢
      rw [exSs_nil] at h
      cases h
      exact h2
    | rt v => cases h
  | exc x => rw [e] at h; cases h
  | stuck => rw [e] at h; cases h
theorem seq_pull {a : Sm} {r r' : Sms} {σ σ' : En} {q : R (Fl × En)} (h : exSs P cf w (.cons a r) σ = .ok (.nx, σ')) (h2 : ∀ τ, exSs P cf w r τ = .ok (.nx, σ') → exSs P cf w r' τ = q) : exSs P cf w (.cons a r') σ = q := by
  rw [exSs_cons] at h ⊢
  cases e : exS P cf w a σ with
  | ok p =>
    obtain ⟨f, τ⟩ := p
    rw [e] at h
    cases f with
    | nx =>
      rw [bnd_ok] at h ⊢
      exact h2 τ h
    | rt v => cases h
  | exc x => rw [e] at h; cases h
  | stuck => rw [e] at h; cases h
theorem seq2 {a b : Sm} {r : Sms} {σ σ' : En} {q : R (Fl × En)} (h : exSs P cf w (.cons a (.cons b .nil)) σ = .ok (.nx, σ')) (h2 : exSs P cf w r σ' = q) : exSs P cf w (.cons a (.cons b r)) σ = q := seq_pull h fun _ e => seq1 e h2
theorem seq3 {a b c : Sm} {r : Sms} {σ σ' : En} {q : R (Fl × En)} (h : exSs P cf w (.cons a (.cons b (.cons c .nil))) σ = .ok (.nx, σ')) (h2 : exSs P cf w r σ' = q) : exSs P cf w (.cons a (.cons b (.cons c r))) σ = q := seq_pull h fun _ e => seq2 e h2
end
end PV
namespace K00
open PySem L2 PV
section
variable {n : Nat}

theorem s30_ok {c0 c1 c2 c3 c4 c5 c6 c7 c8 c9 c10 c11 c12 c13 c14 c15 c16 c17 c18 c19 c20 c21 c22 : Cell} {c24 c25 c26 c27 : Cell} {ss : List Int} {t : En} (hl : ss.length < 8) :
    exS P (fnEv P 100 (n + 1)) 100 f27_s30 (c0 :: c1 :: c2 :: c3 :: c4 :: c5 :: c6 :: c7 :: c8 :: c9 :: c10 :: c11 :: c12 :: c13 :: c14 :: c15 :: c16 :: c17 :: c18 :: c19 :: c20 :: c21 :: c22 :: .un :: c24 :: c25 :: c26 :: c27 :: .ow (ss.map D.int) :: .un :: t) = .ok (.nx, c0 :: c1 :: c2 :: c3 :: c4 :: c5 :: c6 :: c7 :: c8 :: c9 :: c10 :: c11 :: c12 :: c13 :: c14 :: c15 :: c16 :: c17 :: c18 :: c19 :: c20 :: c21 :: c22 :: .un :: c24 :: c25 :: c26 :: c27 :: .ow (ss.map D.int) :: .ow ((nz ss).map D.int) :: t) := by
  obtain ⟨c', e1⟩ := lcf_tab (P := P) (cf := fnEv P 100 (n + 1)) (t := 23) (ce := f27_e12) (e := f27_e13) (E := fun c => c0 :: c1 :: c2 :: c3 :: c4 :: c5 :: c6 :: c7 :: c8 :: c9 :: c10 :: c11 :: c12 :: c13 :: c14 :: c15 :: c16 :: c17 :: c18 :: c19 :: c20 :: c21 :: c22 :: c :: c24 :: c25 :: c26 :: c27 :: .lk (ss.map D.int) :: .un :: t) (b := nzB) (g := fun d => d) (fun _ => rfl) (fun _ => rfl) (ss.map D.int) [] .un (by
    intro x hx
    obtain ⟨z, _, rfl⟩ := List.mem_map.mp hx
    refine ⟨?_, by simp [f27_e13]⟩
    simp [f27_e12, cmpD, nzB]) (by simp; omega)
  rw [nz_map, List.nil_append] at e1
  generalize nz ss = L at *
  simp [f27_s30, e1, Tgt.slots, back]
def chB (L : List Int) : D → Bool
  | .int s => decide (L.getD s.toNat 0 ≠ L.getD (s - 1).toNat 0)
  | _ => false
theorem ch_len (L : List Int) : ((((List.range (L.length - 1)).map fun (i : Nat) => D.int (1 + i)).filter (chB L)).map fun _ => D.int 1).length = chg L := by
  rw [List.length_map, List.filter_map, List.length_map]
  unfold chg
  refine congrArg List.length (List.filter_congr fun i _ => ?_)
  have q1 : ((1 : Int) + (i : Int)).toNat = i + 1 := by omega
  have q2 : ((1 : Int) + (i : Int) - 1).toNat = i := by omega
  have : chB L (.int (1 + (i : Int))) = decide (L.getD ((1 : Int) + (i : Int)).toNat 0 ≠ L.getD ((1 : Int) + (i : Int) - 1).toNat 0) := rfl
  rw [Function.comp_apply, this, q1, q2]
  exact decide_eq_decide.mpr ne_comm
theorem s31_ok {c0 c1 c2 c3 c4 c5 c6 c7 c8 c9 c10 c11 c12 c13 c14 c15 c16 c17 c18 c19 c20 c21 c22 : Cell} {c24 c25 c26 c27 : Cell} {ss : List Int} {t : En} (hl : ss.length < 8) :
    exS P (fnEv P 100 (n + 3)) 100 f27_s31 (c0 :: c1 :: c2 :: c3 :: c4 :: c5 :: c6 :: c7 :: c8 :: c9 :: c10 :: c11 :: c12 :: c13 :: c14 :: c15 :: c16 :: c17 :: c18 :: c19 :: c20 :: c21 :: c22 :: .un :: c24 :: c25 :: c26 :: c27 :: .ow (ss.map D.int) :: .ow ((nz ss).map D.int) :: t) = .ok (.nx, c0 :: c1 :: c2 :: c3 :: c4 :: c5 :: c6 :: c7 :: c8 :: c9 :: c10 :: c11 :: c12 :: c13 :: c14 :: c15 :: c16 :: c17 :: c18 :: c19 :: c20 :: c21 :: c22 :: .un :: c24 :: c25 :: c26 :: c27 :: .sh (.lst (ss.map D.int)) :: .ow ((nz ss).map D.int) :: t) := by
  have l := nz_le ss
  have e0 := sign_changes_ok (n := n + 2) (ss := ss) (by omega)
  generalize nz ss = L at *
  have r := rngA_2' (lo := 1) (hi := (L.length : Int)) (by decide) (by decide) (by omega) (by omega)
  have hr : ((L.length : Int) - 1).toNat = L.length - 1 := by omega
  rw [hr] at r
  obtain ⟨c', e1⟩ := lcf_tab (P := P) (cf := fnEv P 100 (n + 3)) (t := 23) (ce := f27_e14) (e := f27_e15) (E := fun c => c0 :: c1 :: c2 :: c3 :: c4 :: c5 :: c6 :: c7 :: c8 :: c9 :: c10 :: c11 :: c12 :: c13 :: c14 :: c15 :: c16 :: c17 :: c18 :: c19 :: c20 :: c21 :: c22 :: c :: c24 :: c25 :: c26 :: c27 :: .sh (.lst (ss.map D.int)) :: .ow (L.map D.int) :: t) (b := chB L) (g := fun _ => .int 1) (fun _ => rfl) (fun _ => rfl) ((List.range (L.length - 1)).map fun (i : Nat) => D.int (1 + i)) [] .un (by
    intro x hx
    obtain ⟨i, hi, rfl⟩ := List.mem_map.mp hx
    have hi := List.mem_range.mp hi
    refine ⟨?_, by simp [f27_e15]⟩
    have a1 := atI_nat (ds := L.map D.int) (k := i + 1) (by simp; omega)
    have a2 := atI_nat (ds := L.map D.int) (k := i) (by simp; omega)
    have g1 : (L.map D.int).getD (i + 1) .non = .int (L.getD (i + 1) 0) := by simp; rw [List.getElem?_eq_getElem (by omega)]; rfl
    have g2 : (L.map D.int).getD i .non = .int (L.getD i 0) := by simp; rw [List.getElem?_eq_getElem (by omega)]; rfl
    rw [g1] at a1
    rw [g2] at a2
    have q1 : (1 : Int) + (i : Int) = ((i + 1 : Nat) : Int) := by omega
    have q2 : ((i + 1 : Nat) : Int) - 1 = (i : Int) := by omega
    have q3 : chB L (.int ((i + 1 : Nat) : Int)) = decide (L.getD (i + 1) 0 ≠ L.getD i 0) := by
      show decide (L.getD ((i + 1 : Nat) : Int).toNat 0 ≠ L.getD (((i + 1 : Nat) : Int) - 1).toNat 0) = _
      rw [q2]
      rfl
    rw [q1, q3]
    generalize ((i + 1 : Nat) : Int) = z at *
    simp [f27_e14, cmpD, binD, a1, a2, q2, -List.getD_eq_getElem?_getD]) (by simp; omega)
  rw [List.nil_append] at e1
  have el := ch_len L
  generalize hz : (((List.range (L.length - 1)).map fun (i : Nat) => D.int (1 + i)).filter (chB L)).map (fun _ => D.int 1) = z at *
  have e2 := same_int (n := n + 1) (chg L) z.length
  rw [el] at e2
  simp [f27_s31, e0, e1, r, Tgt.slots, back, bifD, el, e2, -List.getD_eq_getElem?_getD]
theorem s32_ok {c0 c1 c2 c3 c4 c5 c6 c7 c8 c9 c10 c11 c12 c13 c14 c15 c16 c17 c18 c19 c20 c21 c22 c23 c24 c25 c26 c27 c28 c29 : Cell} : exSs P (fnEv P 100 (n + 10)) 100 (.cons f27_s32 .nil) (c0 :: c1 :: c2 :: c3 :: c4 :: c5 :: c6 :: c7 :: c8 :: c9 :: c10 :: c11 :: c12 :: c13 :: c14 :: c15 :: c16 :: c17 :: c18 :: c19 :: c20 :: c21 :: c22 :: c23 :: c24 :: c25 :: c26 :: c27 :: c28 :: c29 :: .un :: []) = .ok (.rt (.sh (.bl true)), c0 :: c1 :: c2 :: c3 :: c4 :: c5 :: c6 :: c7 :: c8 :: c9 :: c10 :: c11 :: c12 :: c13 :: c14 :: c15 :: c16 :: c17 :: c18 :: c19 :: c20 :: c21 :: c22 :: c23 :: c24 :: c25 :: c26 :: c27 :: c28 :: c29 :: .un :: []) := by kernel_rfl
theorem s0_ok {ns : List Int} (h : ns.length ≤ 63) (hb : ∀ z ∈ ns, z.natAbs.log2 ≤ 1048576) {t : En} : ∃ ds : List D, StOk ds ∧ exS P (fnEv P 100 (n + 1)) 100 f27_s0 (.sh (.ro (ns.map D.int)) :: .un :: t) = .ok (.nx, .sh (.ro (ns.map D.int)) :: .ow ds :: t) := by
  obtain ⟨ds, e, g⟩ := state_ev (P := P) (w := 100) (n := n) (k := 14) (f := f14) rfl rfl rfl rfl h hb
  refine ⟨ds, g, ?_⟩
  simp [f27_s0, e]
end
theorem law (ns : List Int) (h : ns.length ≤ 63) (hb : ∀ z ∈ ns, z.natAbs.log2 ≤ 1048576) : ∃ w, fnEv P w 25 27 .no [.ro (ns.map D.int)] = .ok (.sh (.bl true), []) := by
  refine ⟨100, ?_⟩
  obtain ⟨d0, g0, e0⟩ := s0_ok (n := 23) h hb (t := .un :: .un :: .un :: .un :: .un :: .un :: .un :: .un :: .un :: .un :: .un :: .un :: .un :: .un :: .un :: .un :: .un :: .un :: .un :: .un :: .un :: .un :: .un :: .un :: .un :: .un :: .un :: .un :: .un :: [])
  obtain ⟨lo, hi, d1, g1, e1⟩ := s1_ok (n := 22) (c0 := .sh (.ro (ns.map D.int))) (c2 := .un) (c3 := .un) (t := .un :: .un :: .un :: .un :: .un :: .un :: .un :: .un :: .un :: .un :: .un :: .un :: .un :: .un :: .un :: .un :: .un :: .un :: .un :: .un :: .un :: .un :: .un :: .un :: .un :: .un :: .un :: []) rfl rfl g0
  obtain ⟨d4, d5, e2⟩ := s2_ok (n := 22) (c0 := .sh (.ro (ns.map D.int))) (c1 := .ow d1) (c4 := .un) (c5 := .un) (lo := lo) (hi := hi) (t := .un :: .un :: .un :: .un :: .un :: .un :: .un :: .un :: .un :: .un :: .un :: .un :: .un :: .un :: .un :: .un :: .un :: .un :: .un :: .un :: .un :: .un :: .un :: .un :: .un :: []) rfl rfl
  obtain ⟨a, b, k, d3, ha, hb, hk, g3, e3⟩ := s3_ok (n := 22) (c0 := .sh (.ro (ns.map D.int))) (c2 := .sh (.int lo)) (c3 := .sh (.int hi)) (c4 := .sh d4) (c5 := .sh d5) (c6 := .un) (c7 := .un) (c8 := .un) (t := .un :: .un :: .un :: .un :: .un :: .un :: .un :: .un :: .un :: .un :: .un :: .un :: .un :: .un :: .un :: .un :: .un :: .un :: .un :: .un :: .un :: .un :: []) rfl rfl rfl g1
  have e4 : exS P (fnEv P 100 24) 100 f27_s4 (.sh (.ro (ns.map D.int)) :: .ow d3 :: .sh (.int lo) :: .sh (.int hi) :: .sh d4 :: .sh d5 :: .sh (.int a) :: .sh (.int b) :: .sh (.int k) :: .un :: .un :: .un :: .un :: .un :: .un :: .un :: .un :: .un :: .un :: .un :: .un :: .un :: .un :: .un :: .un :: .un :: .un :: .un :: .un :: .un :: .un :: []) = .ok (.nx, .sh (.ro (ns.map D.int)) :: .ow d3 :: .sh (.int lo) :: .sh (.int hi) :: .sh d4 :: .sh d5 :: .sh (.int a) :: .sh (.int b) :: .sh (.int k) :: .sh (.int 0) :: .un :: .un :: .un :: .un :: .un :: .un :: .un :: .un :: .un :: .un :: .un :: .un :: .un :: .un :: .un :: .un :: .un :: .un :: .un :: .un :: .un :: []) := by simp [f27_s4]
  obtain ⟨c10, h10, e5⟩ := s5_ok (n := 22) (c0 := .sh (.ro (ns.map D.int))) (c1 := .ow d3) (c2 := .sh (.int lo)) (c3 := .sh (.int hi)) (c4 := .sh d4) (c5 := .sh d5) (c8 := .sh (.int k)) (c10 := .un) (t := .un :: .un :: .un :: .un :: .un :: .un :: .un :: .un :: .un :: .un :: .un :: .un :: .un :: .un :: .un :: .un :: .un :: .un :: .un :: .un :: []) rfl ha hb
  have e6 : exS P (fnEv P 100 24) 100 f27_s6 (.sh (.ro (ns.map D.int)) :: .ow d3 :: .sh (.int lo) :: .sh (.int hi) :: .sh d4 :: .sh d5 :: .sh (.int a) :: .sh (.int b) :: .sh (.int k) :: .sh (.int (Int.gcd a b)) :: c10 :: .un :: .un :: .un :: .un :: .un :: .un :: .un :: .un :: .un :: .un :: .un :: .un :: .un :: .un :: .un :: .un :: .un :: .un :: .un :: .un :: []) = .ok (.nx, .sh (.ro (ns.map D.int)) :: .ow d3 :: .sh (.int lo) :: .sh (.int hi) :: .sh d4 :: .sh d5 :: .sh (.int a) :: .sh (.int b) :: .sh (.int k) :: .sh (.int (Int.gcd a b)) :: c10 :: .sh (.int 1) :: .un :: .un :: .un :: .un :: .un :: .un :: .un :: .un :: .un :: .un :: .un :: .un :: .un :: .un :: .un :: .un :: .un :: .un :: .un :: []) := by simp [f27_s6]
  obtain ⟨c12, h12, e7⟩ := s7_ok (n := 22) (c0 := .sh (.ro (ns.map D.int))) (c1 := .ow d3) (c2 := .sh (.int lo)) (c3 := .sh (.int hi)) (c4 := .sh d4) (c5 := .sh d5) (c7 := .sh (.int b)) (c9 := .sh (.int (Int.gcd a b))) (c10 := c10) (c12 := .un) (t := .un :: .un :: .un :: .un :: .un :: .un :: .un :: .un :: .un :: .un :: .un :: .un :: .un :: .un :: .un :: .un :: .un :: .un :: []) rfl ha (show k < 100 by omega)
  have e8 := s8_ok (n := 22) (c0 := .sh (.ro (ns.map D.int))) (c1 := .ow d3) (c2 := .sh (.int lo)) (c3 := .sh (.int hi)) (c4 := .sh d4) (c5 := .sh d5) (c10 := c10) (t := c12 :: .un :: .un :: .un :: .un :: .un :: .un :: .un :: .un :: .un :: .un :: .un :: .un :: .un :: .un :: .un :: .un :: .un :: .un :: []) ha hb (show k < 100 by omega)
  obtain ⟨c0, hc0⟩ : ∃ c, c = Cell.sh (.ro (ns.map D.int)) := ⟨_, rfl⟩
  obtain ⟨c2, hc2⟩ : ∃ c, c = Cell.sh (.int lo) := ⟨_, rfl⟩
  obtain ⟨c3, hc3⟩ : ∃ c, c = Cell.sh (.int hi) := ⟨_, rfl⟩
  obtain ⟨c4, hc4⟩ : ∃ c, c = Cell.sh d4 := ⟨_, rfl⟩
  obtain ⟨c6, hc6⟩ : ∃ c, c = Cell.sh (.int a) := ⟨_, rfl⟩
  obtain ⟨c7, hc7⟩ : ∃ c, c = Cell.sh (.int b) := ⟨_, rfl⟩
  obtain ⟨c8, hc8⟩ : ∃ c, c = Cell.sh (.int k) := ⟨_, rfl⟩
  obtain ⟨c9, hc9⟩ : ∃ c, c = Cell.sh (.int (Int.gcd a b)) := ⟨_, rfl⟩
  obtain ⟨c11, hc11⟩ : ∃ c, c = Cell.sh (.int (a ^ k)) := ⟨_, rfl⟩
  obtain ⟨v, m, d9, hv, hm, g9, e9⟩ := s9_ok (n := 23) (c0 := c0) (c2 := c2) (c3 := c3) (c4 := c4) (c5 := .sh d5) (c6 := c6) (c7 := c7) (c8 := c8) (c9 := c9) (c10 := c10) (c11 := c11) (c12 := c12) (c13 := .un) (c14 := .un) (t := .un :: .un :: .un :: .un :: .un :: .un :: .un :: .un :: .un :: .un :: .un :: .un :: .un :: .un :: .un :: .un :: []) g3 rfl rfl
  obtain ⟨c12b, h12b, e11⟩ := s11_ok (n := 20) (c0 := c0) (c1 := .ow d9) (c2 := c2) (c3 := c3) (c4 := c4) (c5 := .sh d5) (c6 := c6) (c7 := c7) (c8 := c8) (c9 := c9) (c10 := c10) (c11 := c11) (c12 := c12) (c14 := .sh (.int ((m : Int) - 1))) (t := .un :: .un :: .un :: .un :: .un :: .un :: .un :: .un :: .un :: .un :: .un :: .un :: .un :: []) h12 v hv
  have e12 := s12_ok (n := 20) (c0 := c0) (c1 := .ow d9) (c2 := c2) (c3 := c3) (c4 := c4) (c5 := .sh d5) (c6 := c6) (c7 := c7) (c8 := c8) (c9 := c9) (c10 := c10) (c11 := c11) (c12 := c12b) (t := .un :: .un :: .un :: .un :: .un :: .un :: .un :: .un :: .un :: .un :: .un :: .un :: .un :: []) v m hv hm
  obtain ⟨c13, hc13⟩ : ∃ c, c = Cell.sh (.int v) := ⟨_, rfl⟩
  obtain ⟨c14, hc14⟩ : ∃ c, c = Cell.sh (.int ((m : Int) - 1)) := ⟨_, rfl⟩
  obtain ⟨c15, hc15⟩ : ∃ c, c = Cell.ow (rowD v) := ⟨_, rfl⟩
  obtain ⟨ys, d13, hl13, hy13, g13, e13⟩ := s13_ok (n := 23) (c0 := c0) (c2 := c2) (c3 := c3) (c4 := c4) (c5 := .sh d5) (c6 := c6) (c7 := c7) (c8 := c8) (c9 := c9) (c10 := c10) (c11 := c11) (c12 := c12b) (c13 := c13) (c14 := c14) (c15 := c15) (c16 := .un) (c17 := .un) (t := .un :: .un :: .un :: .un :: .un :: .un :: .un :: .un :: .un :: .un :: .un :: .un :: []) g9 h12b
  obtain ⟨d5b, c16, e16⟩ := q13 (n := 18) ys hl13 hy13 c0 (.ow d13) c2 c3 c4 c6 c7 c8 c9 c10 c11 c12b c13 c14 c15 .un d5 (.un :: .un :: .un :: .un :: .un :: .un :: .un :: .un :: .un :: .un :: .un :: .un :: [])
  obtain ⟨c18, hc18⟩ : ∃ c, c = Cell.sh (.tup ys) := ⟨_, rfl⟩
  obtain ⟨c5, hc5⟩ : ∃ c, c = Cell.sh d5b := ⟨_, rfl⟩
  obtain ⟨x, d17, hx, g17, e17⟩ := s17_ok (n := 23) (c0 := c0) (c2 := c2) (c3 := c3) (c4 := c4) (c5 := c5) (c6 := c6) (c7 := c7) (c8 := c8) (c9 := c9) (c10 := c10) (c11 := c11) (c12 := c12b) (c13 := c13) (c14 := c14) (c15 := c15) (c16 := c16) (c17 := .un) (c18 := c18) (t := .un :: .un :: .un :: .un :: .un :: .un :: .un :: .un :: .un :: .un :: .un :: []) g13
  have e18 := s18_ok (n := 4) (c0 := c0) (c1 := .ow d17) (c2 := c2) (c3 := c3) (c4 := c4) (c5 := c5) (c6 := c6) (c7 := c7) (c8 := c8) (c9 := c9) (c10 := c10) (c11 := c11) (c12 := c12b) (c13 := c13) (c14 := c14) (c15 := c15) (c16 := c16) (c17 := .un) (c18 := c18) (t := .un :: .un :: .un :: .un :: .un :: .un :: .un :: []) x hx
  obtain ⟨c19, hc19⟩ : ∃ c, c = Cell.sh (.int x) := ⟨_, rfl⟩
  obtain ⟨c20, hc20⟩ : ∃ c, c = Cell.ow (pmD x) := ⟨_, rfl⟩
  obtain ⟨c21, hc21⟩ : ∃ c, c = Cell.ow (cntD x) := ⟨_, rfl⟩
  obtain ⟨y, d21, hy, hy2, g21, e21⟩ := s21_ok (n := 23) (c0 := c0) (c2 := c2) (c3 := c3) (c4 := c4) (c5 := c5) (c6 := c6) (c7 := c7) (c8 := c8) (c9 := c9) (c10 := c10) (c11 := c11) (c12 := c12b) (c13 := c13) (c14 := c14) (c15 := c15) (c16 := c16) (c17 := .un) (c18 := c18) (c19 := c19) (c20 := c20) (c21 := c21) (c22 := .un) (c23 := .un) (t := .un :: .un :: .un :: .un :: .un :: .un :: []) g17
  have e22 := s22_ok (n := 20) (c0 := c0) (c1 := .ow d21) (c2 := c2) (c3 := c3) (c4 := c4) (c5 := c5) (c6 := c6) (c7 := c7) (c8 := c8) (c9 := c9) (c10 := c10) (c11 := c11) (c12 := c12b) (c13 := c13) (c14 := c14) (c15 := c15) (c16 := c16) (c17 := .un) (c18 := c18) (c19 := c19) (c20 := c20) (c21 := c21) (c22 := .un) (t := .un :: .un :: .un :: .un :: .un :: .un :: []) hy hy2
  obtain ⟨c24, hc24⟩ : ∃ c, c = Cell.sh (.int y) := ⟨_, rfl⟩
  obtain ⟨p, q, d23, hp, hq, g23, e23⟩ := s23_ok (n := 23) (c0 := c0) (c2 := c2) (c3 := c3) (c4 := c4) (c5 := c5) (c6 := c6) (c7 := c7) (c8 := c8) (c9 := c9) (c10 := c10) (c11 := c11) (c12 := c12b) (c13 := c13) (c14 := c14) (c15 := c15) (c16 := c16) (c17 := .un) (c18 := c18) (c19 := c19) (c20 := c20) (c21 := c21) (c22 := .un) (c23 := .un) (c24 := c24) (t := .un :: .un :: .un :: .un :: []) g21
  have e24 := s24_ok (n := 4) (c0 := c0) (c1 := .ow d23) (c2 := c2) (c3 := c3) (c4 := c4) (c5 := c5) (c6 := c6) (c7 := c7) (c8 := c8) (c9 := c9) (c10 := c10) (c11 := c11) (c12 := c12b) (c13 := c13) (c14 := c14) (c15 := c15) (c16 := c16) (c17 := .un) (c18 := c18) (c19 := c19) (c20 := c20) (c21 := c21) (c23 := .un) (c24 := c24) (t := .un :: .un :: .un :: .un :: []) p q hp hq
  have e25 := s25_ok (n := 4) (c0 := c0) (c1 := .ow d23) (c2 := c2) (c3 := c3) (c4 := c4) (c5 := c5) (c6 := c6) (c7 := c7) (c8 := c8) (c9 := c9) (c10 := c10) (c11 := c11) (c12 := c12b) (c13 := c13) (c14 := c14) (c15 := c15) (c16 := c16) (c17 := .un) (c18 := c18) (c19 := c19) (c20 := c20) (c21 := c21) (c23 := .un) (c24 := c24) (v := p) (t := .un :: .un :: .un :: .un :: []) q hq
  obtain ⟨c25, hc25⟩ : ∃ c, c = Cell.sh (.int p) := ⟨_, rfl⟩
  obtain ⟨c26, hc26⟩ : ∃ c, c = Cell.sh (.int q) := ⟨_, rfl⟩
  obtain ⟨zs, d27, hl27, hy27, g27, e27⟩ := s27_ok (n := 23) (c0 := c0) (c2 := c2) (c3 := c3) (c4 := c4) (c5 := c5) (c6 := c6) (c7 := c7) (c8 := c8) (c9 := c9) (c10 := c10) (c11 := c11) (c12 := c12b) (c13 := c13) (c14 := c14) (c15 := c15) (c16 := c16) (c17 := .un) (c18 := c18) (c19 := c19) (c20 := c20) (c21 := c21) (c22 := .un) (c23 := .un) (c24 := c24) (c25 := c25) (c26 := c26) (t := .un :: .un :: .un :: []) g23 h12b
  have e28 := s28_ok (n := 21) (c0 := c0) (c1 := .ow d27) (c2 := c2) (c3 := c3) (c4 := c4) (c5 := c5) (c6 := c6) (c7 := c7) (c8 := c8) (c9 := c9) (c10 := c10) (c11 := c11) (c12 := c12b) (c13 := c13) (c14 := c14) (c15 := c15) (c16 := c16) (c17 := .un) (c18 := c18) (c19 := c19) (c20 := c20) (c21 := c21) (c22 := .un) (c23 := .un) (c24 := c24) (c25 := c25) (c26 := c26) (t := .un :: .un :: .un :: []) hl27 hy27
  obtain ⟨ss, d29, hl29, g29, e29⟩ := s29_ok (n := 23) (c0 := c0) (c2 := c2) (c3 := c3) (c4 := c4) (c5 := c5) (c6 := c6) (c7 := c7) (c8 := c8) (c9 := c9) (c10 := c10) (c11 := c11) (c12 := c12b) (c13 := c13) (c14 := c14) (c15 := c15) (c16 := c16) (c17 := .un) (c18 := c18) (c19 := c19) (c20 := c20) (c21 := c21) (c22 := .un) (c23 := .un) (c24 := c24) (c25 := c25) (c26 := c26) (c27 := .sh (.lst zs)) (t := .un :: .un :: []) g27 h12b
  have e30 := s30_ok (n := 23) (c0 := c0) (c1 := .ow d29) (c2 := c2) (c3 := c3) (c4 := c4) (c5 := c5) (c6 := c6) (c7 := c7) (c8 := c8) (c9 := c9) (c10 := c10) (c11 := c11) (c12 := c12b) (c13 := c13) (c14 := c14) (c15 := c15) (c16 := c16) (c17 := .un) (c18 := c18) (c19 := c19) (c20 := c20) (c21 := c21) (c22 := .un) (c24 := c24) (c25 := c25) (c26 := c26) (c27 := .sh (.lst zs)) (t := .un :: []) hl29
  have e31 := s31_ok (n := 21) (c0 := c0) (c1 := .ow d29) (c2 := c2) (c3 := c3) (c4 := c4) (c5 := c5) (c6 := c6) (c7 := c7) (c8 := c8) (c9 := c9) (c10 := c10) (c11 := c11) (c12 := c12b) (c13 := c13) (c14 := c14) (c15 := c15) (c16 := c16) (c17 := .un) (c18 := c18) (c19 := c19) (c20 := c20) (c21 := c21) (c22 := .un) (c24 := c24) (c25 := c25) (c26 := c26) (c27 := .sh (.lst zs)) (t := .un :: []) hl29
  have e32 := s32_ok (n := 14) (c0 := c0) (c1 := .ow d29) (c2 := c2) (c3 := c3) (c4 := c4) (c5 := c5) (c6 := c6) (c7 := c7) (c8 := c8) (c9 := c9) (c10 := c10) (c11 := c11) (c12 := c12b) (c13 := c13) (c14 := c14) (c15 := c15) (c16 := c16) (c17 := .un) (c18 := c18) (c19 := c19) (c20 := c20) (c21 := c21) (c22 := .un) (c23 := .un) (c24 := c24) (c25 := c25) (c26 := c26) (c27 := .sh (.lst zs)) (c28 := .sh (.lst (ss.map D.int))) (c29 := .ow ((nz ss).map D.int))
  subst hc0 hc2 hc3 hc4 hc6 hc7 hc8 hc9 hc11 hc13 hc14 hc15 hc18 hc5 hc19 hc20 hc21 hc24 hc25 hc26
  refine fn_no (f := f27) rfl rfl (seq_nx e0 (seq_nx e1 (seq_nx e2 (seq_nx e3 (seq_nx e4 (seq_nx e5 (seq_nx e6 (seq_nx e7 (seq_nx e8 (seq_nx e9 (seq2 e11 (seq_nx e12 (seq_nx e13 (seq3 e16 (seq_nx e17 (seq3 e18 (seq_nx e21 (seq_nx e22 (seq_nx e23 (seq_nx e24 (seq2 e25 (seq_nx e27 (seq_nx e28 (seq_nx e29 (seq_nx e30 (seq_nx e31 e32))))))))))))))))))))))))))
end K00
set_option Elab.async false
set_option linter.all false
set_option maxRecDepth 100000
set_option maxHeartbeats 0
namespace K00
open PySem PySem.Spec PyProof.Rows L2 PV
def top (i : Nat) : Stmt := PySem.Challenge.pw_splineroads_k00_whole_integers.main.body.getD i (.Pass ⟨0, 0, 0, 0⟩)
def d0 : He.DefD := ⟨("is_integer", none), "is_integer", "is_integer", defArgs (top 5), defBody (top 5), defScope (top 5), [], []⟩
def d1 : He.DefD := ⟨("is_count", none), "is_count", "is_count", defArgs (top 6), defBody (top 6), defScope (top 6), [], []⟩
def d2 : He.DefD := ⟨("check_count", none), "check_count", "check_count", defArgs (top 7), defBody (top 7), defScope (top 7), [], []⟩
def d3 : He.DefD := ⟨("common", none), "common", "common", defArgs (top 8), defBody (top 8), defScope (top 8), [], []⟩
def d4 : He.DefD := ⟨("factorial", none), "factorial", "factorial", defArgs (top 9), defBody (top 9), defScope (top 9), [], []⟩
def d5 : He.DefD := ⟨("binomial", none), "binomial", "binomial", defArgs (top 10), defBody (top 10), defScope (top 10), [], []⟩
def d6 : He.DefD := ⟨("power", none), "power", "power", defArgs (top 11), defBody (top 11), defScope (top 11), [], []⟩
def d7 : He.DefD := ⟨("sign_power", none), "sign_power", "sign_power", defArgs (top 12), defBody (top 12), defScope (top 12), [], []⟩
def d8 : He.DefD := ⟨("eulerian", none), "eulerian", "eulerian", defArgs (top 13), defBody (top 13), defScope (top 13), [], []⟩
def d9 : He.DefD := ⟨("choices", none), "choices", "choices", defArgs (top 14), defBody (top 14), defScope (top 14), [], []⟩
def d10 : He.DefD := ⟨("parts_of", none), "parts_of", "parts_of", defArgs (top 15), defBody (top 15), defScope (top 15), [], []⟩
def d11 : He.DefD := ⟨("multinomial", none), "multinomial", "multinomial", defArgs (top 16), defBody (top 16), defScope (top 16), [], []⟩
def d12 : He.DefD := ⟨("ascending", none), "ascending", "ascending", defArgs (top 17), defBody (top 17), defScope (top 17), [], []⟩
def d13 : He.DefD := ⟨("sign_changes", none), "sign_changes", "sign_changes", defArgs (top 18), defBody (top 18), defScope (top 18), [], []⟩
def d14 : He.DefD := ⟨("_law_state", none), "_law_state", "_law_state", defArgs (top 20), defBody (top 20), defScope (top 20), [], []⟩
def d15 : He.DefD := ⟨("_law_take", none), "_law_take", "_law_take", defArgs (top 21), defBody (top 21), defScope (top 21), [], []⟩
def d16 : He.DefD := ⟨("_law_says", none), "_law_says", "_law_says", defArgs (top 22), defBody (top 22), defScope (top 22), [], []⟩
def d17 : He.DefD := ⟨("_law_is_whole", none), "_law_is_whole", "_law_is_whole", defArgs (top 23), defBody (top 23), defScope (top 23), [], []⟩
def d18 : He.DefD := ⟨("_law_same", none), "_law_same", "_law_same", defArgs (top 24), defBody (top 24), defScope (top 24), [], []⟩
def d19 : He.DefD := ⟨("_law_result", none), "_law_result", "_law_result", defArgs (top 25), defBody (top 25), defScope (top 25), [], []⟩
def d20 : He.DefD := ⟨("_law_place_sets", none), "_law_place_sets", "_law_place_sets", defArgs (top 26), defBody (top 26), defScope (top 26), [], []⟩
def d21 : He.DefD := ⟨("_law_sign_of", none), "_law_sign_of", "_law_sign_of", defArgs (top 27), defBody (top 27), defScope (top 27), [], []⟩
def d22 : He.DefD := ⟨("_law_all_orders", none), "_law_all_orders", "_law_all_orders", defArgs (top 28), defBody (top 28), defScope (top 28), [], []⟩
def d23 : He.DefD := ⟨("_law_product_up_to", none), "_law_product_up_to", "_law_product_up_to", defArgs (top 29), defBody (top 29), defScope (top 29), [], []⟩
def d24 : He.DefD := ⟨("_law_in_line", none), "_law_in_line", "_law_in_line", defArgs (top 30), defBody (top 30), defScope (top 30), [], []⟩
def d25 : He.DefD := ⟨("_law_ascents", none), "_law_ascents", "_law_ascents", defArgs (top 31), defBody (top 31), defScope (top 31), [], []⟩
def d26 : He.DefD := ⟨("_law_all_parts", none), "_law_all_parts", "_law_all_parts", defArgs (top 32), defBody (top 32), defScope (top 32), [], []⟩
def d27 : He.DefD := ⟨("law", none), "law", "law", defArgs (top 33), defBody (top 33), defScope (top 33), [], []⟩
def fn : List He.DefD := [d0, d1, d2, d3, d4, d5, d6, d7, d8, d9, d10, d11, d12, d13, d14, d15, d16, d17, d18, d19, d20, d21, d22, d23, d24, d25, d26, d27]
theorem r0 : Row P frs f0 d0 := ⟨fun _ => rfl, rfl, rfl, by decide +kernel, by decide +kernel, fun _ _ _ _ _ _ _ us hl => match us, hl with | [_], _ => rfl, fun h => absurd rfl h⟩
theorem r1 : Row P frs f1 d1 := ⟨fun _ => rfl, rfl, rfl, by decide +kernel, by decide +kernel, fun _ _ _ _ _ _ _ us hl => match us, hl with | [_, _, _], _ => rfl, fun h => absurd rfl h⟩
theorem r2 : Row P frs f2 d2 := ⟨fun _ => rfl, rfl, rfl, by decide +kernel, by decide +kernel, fun _ _ _ _ _ _ _ us hl => match us, hl with | [_, _, _], _ => rfl, fun h => absurd rfl h⟩
theorem r3 : Row P frs f3 d3 := ⟨fun _ => rfl, rfl, rfl, by decide +kernel, by decide +kernel, fun _ _ _ _ _ _ _ us hl => match us, hl with | [_, _], _ => rfl, fun h => absurd rfl h⟩
theorem r4 : Row P frs f4 d4 := ⟨fun _ => rfl, rfl, rfl, by decide +kernel, by decide +kernel, fun _ _ _ _ _ _ _ us hl => match us, hl with | [_], _ => rfl, fun h => absurd rfl h⟩
theorem r5 : Row P frs f5 d5 := ⟨fun _ => rfl, rfl, rfl, by decide +kernel, by decide +kernel, fun _ _ _ _ _ _ _ us hl => match us, hl with | [_, _], _ => rfl, fun h => absurd rfl h⟩
theorem r6 : Row P frs f6 d6 := ⟨fun _ => rfl, rfl, rfl, by decide +kernel, by decide +kernel, fun _ _ _ _ _ _ _ us hl => match us, hl with | [_, _], _ => rfl, fun h => absurd rfl h⟩
theorem r7 : Row P frs f7 d7 := ⟨fun _ => rfl, rfl, rfl, by decide +kernel, by decide +kernel, fun _ _ _ _ _ _ _ us hl => match us, hl with | [_], _ => rfl, fun h => absurd rfl h⟩
theorem r8 : Row P frs f8 d8 := ⟨fun _ => rfl, rfl, rfl, by decide +kernel, by decide +kernel, fun _ _ _ _ _ _ _ us hl => match us, hl with | [_, _], _ => rfl, fun h => absurd rfl h⟩
theorem r9 : Row P frs f9 d9 := ⟨fun _ => rfl, rfl, rfl, by decide +kernel, by decide +kernel, fun _ _ _ _ _ _ _ us hl => match us, hl with | [_, _], _ => rfl, fun h => absurd rfl h⟩
theorem r10 : Row P frs f10 d10 := ⟨fun _ => rfl, rfl, rfl, by decide +kernel, by decide +kernel, fun _ _ _ _ _ _ _ us hl => match us, hl with | [_, _], _ => rfl, fun h => absurd rfl h⟩
theorem r11 : Row P frs f11 d11 := ⟨fun _ => rfl, rfl, rfl, by decide +kernel, by decide +kernel, fun _ _ _ _ _ _ _ us hl => match us, hl with | [_], _ => rfl, fun h => absurd rfl h⟩
theorem r12 : Row P frs f12 d12 := ⟨fun _ => rfl, rfl, rfl, by decide +kernel, by decide +kernel, fun _ _ _ _ _ _ _ us hl => match us, hl with | [_], _ => rfl, fun h => absurd rfl h⟩
theorem r13 : Row P frs f13 d13 := ⟨fun _ => rfl, rfl, rfl, by decide +kernel, by decide +kernel, fun _ _ _ _ _ _ _ us hl => match us, hl with | [_], _ => rfl, fun h => absurd rfl h⟩
theorem r14 : Row P frs f14 d14 := ⟨fun _ => rfl, rfl, rfl, by decide +kernel, by decide +kernel, fun _ _ _ _ _ _ _ us hl => match us, hl with | [_], _ => rfl, fun h => absurd rfl h⟩
theorem r15 : Row P frs f15 d15 := ⟨fun _ => rfl, rfl, rfl, by decide +kernel, by decide +kernel, fun _ _ _ _ _ _ _ us hl => match us, hl with | [_, _], _ => rfl, fun h => absurd rfl h⟩
theorem r16 : Row P frs f16 d16 := ⟨fun _ => rfl, rfl, rfl, by decide +kernel, by decide +kernel, fun _ _ _ _ _ _ _ us hl => match us, hl with | [_, _], _ => rfl, fun h => absurd rfl h⟩
theorem r17 : Row P frs f17 d17 := ⟨fun _ => rfl, rfl, rfl, by decide +kernel, by decide +kernel, fun _ _ _ _ _ _ _ us hl => match us, hl with | [_], _ => rfl, fun h => absurd rfl h⟩
theorem r18 : Row P frs f18 d18 := ⟨fun _ => rfl, rfl, rfl, by decide +kernel, by decide +kernel, fun _ _ _ _ _ _ _ us hl => match us, hl with | [_, _], _ => rfl, fun h => absurd rfl h⟩
theorem r19 : Row P frs f19 d19 := ⟨fun _ => rfl, rfl, rfl, by decide +kernel, by decide +kernel, fun _ _ _ _ _ _ _ us hl => match us, hl with | [_, _], _ => rfl, fun h => absurd rfl h⟩
theorem r20 : Row P frs f20 d20 := ⟨fun _ => rfl, rfl, rfl, by decide +kernel, by decide +kernel, fun _ _ _ _ _ _ _ us hl => match us, hl with | [_], _ => rfl, fun h => absurd rfl h⟩
theorem r21 : Row P frs f21 d21 := ⟨fun _ => rfl, rfl, rfl, by decide +kernel, by decide +kernel, fun _ _ _ _ _ _ _ us hl => match us, hl with | [_], _ => rfl, fun h => absurd rfl h⟩
theorem r22 : Row P frs f22 d22 := ⟨fun _ => rfl, rfl, rfl, by decide +kernel, by decide +kernel, fun _ _ _ _ _ _ _ us hl => match us, hl with | [_], _ => rfl, fun h => absurd rfl h⟩
theorem r23 : Row P frs f23 d23 := ⟨fun _ => rfl, rfl, rfl, by decide +kernel, by decide +kernel, fun _ _ _ _ _ _ _ us hl => match us, hl with | [_], _ => rfl, fun h => absurd rfl h⟩
theorem r24 : Row P frs f24 d24 := ⟨fun _ => rfl, rfl, rfl, by decide +kernel, by decide +kernel, fun _ _ _ _ _ _ _ us hl => match us, hl with | [_], _ => rfl, fun h => absurd rfl h⟩
theorem r25 : Row P frs f25 d25 := ⟨fun _ => rfl, rfl, rfl, by decide +kernel, by decide +kernel, fun _ _ _ _ _ _ _ us hl => match us, hl with | [_], _ => rfl, fun h => absurd rfl h⟩
theorem r26 : Row P frs f26 d26 := ⟨fun _ => rfl, rfl, rfl, by decide +kernel, by decide +kernel, fun _ _ _ _ _ _ _ us hl => match us, hl with | [_, _], _ => rfl, fun h => absurd rfl h⟩
theorem r27 : Row P frs f27 d27 := ⟨fun _ => rfl, rfl, rfl, by decide +kernel, by decide +kernel, fun _ _ _ _ _ _ _ us hl => match us, hl with | [_], _ => rfl, fun h => absurd rfl h⟩
theorem rows : Rows P frs fn := ⟨rfl, (fun k f d h1 h2 => match k, h1, h2 with
  | 0, h1, h2 => by obtain rfl := Option.some.inj (show some f0 = some f from h1); obtain rfl := Option.some.inj (show some d0 = some d from h2); exact r0
  | 1, h1, h2 => by obtain rfl := Option.some.inj (show some f1 = some f from h1); obtain rfl := Option.some.inj (show some d1 = some d from h2); exact r1
  | 2, h1, h2 => by obtain rfl := Option.some.inj (show some f2 = some f from h1); obtain rfl := Option.some.inj (show some d2 = some d from h2); exact r2
  | 3, h1, h2 => by obtain rfl := Option.some.inj (show some f3 = some f from h1); obtain rfl := Option.some.inj (show some d3 = some d from h2); exact r3
  | 4, h1, h2 => by obtain rfl := Option.some.inj (show some f4 = some f from h1); obtain rfl := Option.some.inj (show some d4 = some d from h2); exact r4
  | 5, h1, h2 => by obtain rfl := Option.some.inj (show some f5 = some f from h1); obtain rfl := Option.some.inj (show some d5 = some d from h2); exact r5
  | 6, h1, h2 => by obtain rfl := Option.some.inj (show some f6 = some f from h1); obtain rfl := Option.some.inj (show some d6 = some d from h2); exact r6
  | 7, h1, h2 => by obtain rfl := Option.some.inj (show some f7 = some f from h1); obtain rfl := Option.some.inj (show some d7 = some d from h2); exact r7
  | 8, h1, h2 => by obtain rfl := Option.some.inj (show some f8 = some f from h1); obtain rfl := Option.some.inj (show some d8 = some d from h2); exact r8
  | 9, h1, h2 => by obtain rfl := Option.some.inj (show some f9 = some f from h1); obtain rfl := Option.some.inj (show some d9 = some d from h2); exact r9
  | 10, h1, h2 => by obtain rfl := Option.some.inj (show some f10 = some f from h1); obtain rfl := Option.some.inj (show some d10 = some d from h2); exact r10
  | 11, h1, h2 => by obtain rfl := Option.some.inj (show some f11 = some f from h1); obtain rfl := Option.some.inj (show some d11 = some d from h2); exact r11
  | 12, h1, h2 => by obtain rfl := Option.some.inj (show some f12 = some f from h1); obtain rfl := Option.some.inj (show some d12 = some d from h2); exact r12
  | 13, h1, h2 => by obtain rfl := Option.some.inj (show some f13 = some f from h1); obtain rfl := Option.some.inj (show some d13 = some d from h2); exact r13
  | 14, h1, h2 => by obtain rfl := Option.some.inj (show some f14 = some f from h1); obtain rfl := Option.some.inj (show some d14 = some d from h2); exact r14
  | 15, h1, h2 => by obtain rfl := Option.some.inj (show some f15 = some f from h1); obtain rfl := Option.some.inj (show some d15 = some d from h2); exact r15
  | 16, h1, h2 => by obtain rfl := Option.some.inj (show some f16 = some f from h1); obtain rfl := Option.some.inj (show some d16 = some d from h2); exact r16
  | 17, h1, h2 => by obtain rfl := Option.some.inj (show some f17 = some f from h1); obtain rfl := Option.some.inj (show some d17 = some d from h2); exact r17
  | 18, h1, h2 => by obtain rfl := Option.some.inj (show some f18 = some f from h1); obtain rfl := Option.some.inj (show some d18 = some d from h2); exact r18
  | 19, h1, h2 => by obtain rfl := Option.some.inj (show some f19 = some f from h1); obtain rfl := Option.some.inj (show some d19 = some d from h2); exact r19
  | 20, h1, h2 => by obtain rfl := Option.some.inj (show some f20 = some f from h1); obtain rfl := Option.some.inj (show some d20 = some d from h2); exact r20
  | 21, h1, h2 => by obtain rfl := Option.some.inj (show some f21 = some f from h1); obtain rfl := Option.some.inj (show some d21 = some d from h2); exact r21
  | 22, h1, h2 => by obtain rfl := Option.some.inj (show some f22 = some f from h1); obtain rfl := Option.some.inj (show some d22 = some d from h2); exact r22
  | 23, h1, h2 => by obtain rfl := Option.some.inj (show some f23 = some f from h1); obtain rfl := Option.some.inj (show some d23 = some d from h2); exact r23
  | 24, h1, h2 => by obtain rfl := Option.some.inj (show some f24 = some f from h1); obtain rfl := Option.some.inj (show some d24 = some d from h2); exact r24
  | 25, h1, h2 => by obtain rfl := Option.some.inj (show some f25 = some f from h1); obtain rfl := Option.some.inj (show some d25 = some d from h2); exact r25
  | 26, h1, h2 => by obtain rfl := Option.some.inj (show some f26 = some f from h1); obtain rfl := Option.some.inj (show some d26 = some d from h2); exact r26
  | 27, h1, h2 => by obtain rfl := Option.some.inj (show some f27 = some f from h1); obtain rfl := Option.some.inj (show some d27 = some d from h2); exact r27
  | k + 28, h1, _ => by cases (show (none : Option FnI) = some f from h1)), by decide +kernel⟩
def loose : List Str := ["Fault", "Malformed", "Refused", "is_integer", "is_count", "check_count", "common", "factorial", "binomial", "power", "sign_power", "eulerian", "choices", "parts_of", "multinomial", "ascending", "sign_changes", "_law_state", "_law_take", "_law_says", "_law_is_whole", "_law_same", "_law_result", "_law_place_sets", "_law_sign_of", "_law_all_orders", "_law_product_up_to", "_law_in_line", "_law_ascents", "_law_all_parts"]
abbrev Rr : PySem.W.OpenRow := PySem.W.OpenLaw.row PySem.Challenge.rw_splineroads_k00_whole_integers
abbrev hk : PySem.W.Hook := hookX 4 (faOf P frs) fn (xOf P)
def ob (s : PySem.W.SharedT) : AlX := obsXG 4 (faOf P frs) fn (xOf P) (HandSHeadRun.getT s)
theorem ob_eq (s : PySem.W.SharedT) : ob s = hk.obs s.abs := obsXG_eq (HandSHeadRun.getT_eq s)
theorem run (w : World) : HandSHeadRun.RunEq Rr (PySem.W.view Rr.prog [33]) hk ob 3000 loose w := by
  intro os
  kernel_rfl
end K00
open PySem PySem.W PySem.Calls PyProof.Rows
theorem PySem.Challenge.cw_splineroads_k00_whole_integers_holds : PySem.Challenge.rw_splineroads_k00_whole_integers.Holds := by
  w_on; o_law
  refine HandSHeadRun.head_any (r := OpenLaw.row PySem.Challenge.rw_splineroads_k00_whole_integers) (q := view (OpenLaw.row PySem.Challenge.rw_splineroads_k00_whole_integers).prog [33]) (H := K00.hk) (ob := K00.ob) (M := 3000) (loose := K00.loose) (d := HandSHeadRun.topDef (OpenLaw.row PySem.Challenge.rw_splineroads_k00_whole_integers).prog 33) (kwd := []) K00.ob_eq
    (by kernel_rfl) (fun s => by kernel_rfl) K00.run (by kernel_rfl) (by kernel_rfl) (by kernel_rfl) (by rfl) (by first | assumption | decide +kernel) (by decide +kernel) ⟨rfl, rfl, rfl, rfl, rfl, by decide +kernel⟩ ?hw ?hc
  case hw => w_witness2
  case hc =>
    refine PV.walk_ofEB (CX := L2.CX0) (x := ("script" : PySem.Str)) (n := 63) (k := 225) rfl (by decide) rfl ⟨rfl, by decide, by decide⟩ (fun w mg fa h hs hN hfa => PV.hF_of (n := 25) (m := 4) (lk := 27) (most := 63) (prog := (PySem.Challenge.rw_splineroads_k00_whole_integers).prog) K00.rows rfl rfl rfl rfl rfl rfl rfl K00.law w mg fa h hs hN hfa) ?hCX
    case hCX => exact fun _ _ _ _ z => z
