import PyProof.Rows.All
import HandS.ForMost
import HandS.Exc
import HandS.ExcOwn
import HandS.Defaults
import HandS.TupMul
import HandS.Wide
import HandS.TupAny
import HandS.Style
import HandS.IsInst
import HandS.Text
import HandS.ExcInit
import HandS.ClsMeth
import HandS.ExcField
import HandS.CallLocal
import HandS.Comp
import HandS.Iter
import HandS.Zip
import KE.GoesZip
import KE.GoesEnum
import HandS.More
import HandS.TryMany
import HandS.List
import HandS.Deep
import HandS.Conv
import HandS.OwnEq
import HandS.DeepEq
import PyProof.NeKinds
import HandS.EndBits
import HandS.HeadHook1
import HandS.HeadHook2
import KE.KStateDown
import HandS.Head0
import HandS.Head1
import HandS.Head2
import HandS.HeadEnd
import PySem.Challenge.RW_splineroads_k21_whole_knots
set_option Elab.async false
set_option linter.all false
set_option maxRecDepth 100000
namespace PV
open PySem L2

/-! ## values, results -/
inductive D where
  | non | bl (b : Bool) | int (i : Int) | str (s : Str) | tup (ds : List D) | lst (ds : List D)
  | obj (c : Nat) (ds : List D) | fn (k : Nat) | dic | ro (ds : List D)

structure Exn where
  c : Nat
  arg : Option D

inductive R (α : Type) where
  | ok (a : α) | exc (x : Exn) | stuck

inductive Cell where
  | un | sh (d : D) | ow (ds : List D) | lk (ds : List D) | io (ds : List D) | bld (c : Nat) (ds : List D)
abbrev En := List Cell
/-- a list or an instance that was handed in -/
def Cell.tag : Cell → Option (Option Nat)
  | .io _ => some none
  | .bld c _ => some (some c)
  | _ => none
inductive Vl where
  | sh (d : D) | ow (ds : List D) | sl (i : Nat)
inductive Vr where
  | sh (d : D) | ow (ds : List D)
inductive FArg where
  | no | io (ds : List D) | bld (c : Nat)

def R.map {α β : Type} (f : α → β) : R α → R β
  | .ok a => .ok (f a)
  | .exc x => .exc x
  | .stuck => .stuck
def R.bind {α β : Type} (m : R α) (f : α → R β) : R β := match m with
  | .ok a => f a
  | .exc x => .exc x
  | .stuck => .stuck
@[simp] theorem R.bind_ok {α β : Type} (a : α) (f : α → R β) : (R.ok a).bind f = f a := rfl
@[simp] theorem R.bind_exc {α β : Type} (x : Exn) (f : α → R β) : (R.exc x).bind f = .exc x := rfl
@[simp] theorem R.bind_stuck {α β : Type} (f : α → R β) : (R.stuck).bind f = .stuck := rfl
def bnd {α β : Type} (m : R (α × En)) (f : α → En → R (β × En)) : R (β × En) := match m with
  | .ok (a, σ) => f a σ
  | .exc x => .exc x
  | .stuck => .stuck
@[simp] theorem bnd_ok {α β : Type} (a : α) (σ : En) (f : α → En → R (β × En)) : bnd (.ok (a, σ)) f = f a σ := rfl
@[simp] theorem bnd_exc {α β : Type} (x : Exn) (f : α → En → R (β × En)) : bnd (.exc x) f = .exc x := rfl
@[simp] theorem bnd_stuck {α β : Type} (f : α → En → R (β × En)) : bnd .stuck f = .stuck := rfl

/-! ## the text -/
inductive BOp where
  | add | sub | mul | fdiv | mod
  deriving DecidableEq
inductive COp where
  | lt | le | gt | ge | eq | ne | mem | nmem
  deriving DecidableEq
inductive TyK where
  | int | bool | str | tup | lst | own (c : Nat)
  deriving DecidableEq
inductive Bif where
  | len | abs | int | tup | lst | max2 | min2 | sum | all | any
  deriving DecidableEq
inductive Tgt where
  | v (i : Nat) | tp (is : List Nat)
def Tgt.slots : Tgt → List Nat
  | .v i => [i]
  | .tp is => is

mutual
inductive Ex where
  | var (i : Nat) | con (d : D) | gcon (x : Str) (i : Int) | gfn (k : Nat)
  | bin (o : BOp) (a b : Ex) | neg (a : Ex) | not (a : Ex)
  | cmp (o : COp) (a b : Ex) | isN (a : Ex) | notN (a : Ex) | chain (o p : COp) (a b c : Ex)
  | and (a b : Ex) | or (a b : Ex) | ite (c a b : Ex)
  | tup (es : Exs) | lst (es : Exs)
  | ix (a i : Ex) | slc (a : Ex) (lo hi : Exo) | rev (a : Ex)
  | fld (a : Ex) (f : Str)
  | call (k : Nat) (es : Exs) | callio (k i : Nat) (es : Exs) | callv (i : Nat) (es : Exs)
  | mk (c : Nat) (es : Exs) (dv : List D)
  | meth (c : Nat) (a : Ex) (m : Str) (es : Exs)
  | bif (b : Bif) (es : Exs) | trng1 (l : Bool) (a : Ex) | trng2 (l : Bool) (a b : Ex)
  | isi (a : Ex) (t : TyK) | isi2 (a : Ex) (t u : TyK)
  | lc (s : Src) (t : Tgt) (e : Ex) | lcf (s : Src) (t : Tgt) (c e : Ex)
  | lc2 (s : Src) (t : Nat) (s' : Src) (t' : Nat) (e : Ex)
inductive Exs where
  | nil | cons (e : Ex) (es : Exs)
inductive Exo where
  | none | some (e : Ex)
inductive Src where
  | seq (e : Ex) | rng (es : Exs) | zip (es : Exs) | enum (es : Exs)
end
mutual
inductive Sm where
  | asg (t : Tgt) (e : Ex) | par2 (i j : Nat) (a b : Ex) | par (is : List Nat) (es : Exs)
  | setix (i : Nat) (ix e : Ex) | setix2 (i : Nat) (ix : Ex) (j : Nat) (jx : Ex) (a b : Ex)
  | setfld (f : Str) (e : Ex)
  | app (i : Nat) (e : Ex) | ins (i : Nat) (k e : Ex) | ext (i : Nat) (e : Ex) | rem (i : Nat) (e : Ex)
  | ex (e : Ex) | ifs (c : Ex) (a b : Sms) | whl (c : Ex) (b : Sms) | for (t : Tgt) (s : Src) (b : Sms)
  | ret (e : Ex) | retN | raise (c : Nat) | raise1 (c : Nat) (e : Ex) | tryS (b : Sms) (hs : Hds) | pass
inductive Sms where
  | nil | cons (s : Sm) (r : Sms)
/-- except clauses: a suite that looks at no name; `as n: return s, n.f` -/
inductive Hds where
  | nil | con (c : Nat) (b : Sms) (r : Hds) | fld (c : Nat) (i : Nat) (s : Str) (r : Hds)
end

structure FnI where
  name : Str
  top : Bool
  N : List Str
  ps : List Str
  dv : List Int
  body : Sms
structure ClsI where
  name : Str
  flds : List Str
  init : Nat
  meths : List (Str × Nat)
structure ExcI where
  name : Str
  fld : Option Str
structure Prg where
  fns : List FnI
  cls : List ClsI
  exs : List ExcI
  cons : List (Str × Int)

/-! ## cells -/
def esc (v : Vl) (σ : En) : R (D × En) := match v with
  | .sh d => .ok (d, σ)
  | .ow ds => .ok (.lst ds, σ)
  | .sl i => match σ[i]? with
    | some (.ow ds) => .ok (.lst ds, σ.set i (.sh (.lst ds)))
    | some (.lk ds) => .ok (.lst ds, σ.set i (.sh (.lst ds)))
    | some (.sh d) => .ok (d, σ)
    | _ => .stuck
def alias_ (v : Vl) (σ : En) : R (Vl × En) := match v with
  | .sl i => (esc (.sl i) σ).map fun p => (.sh p.1, p.2)
  | v => .ok (v, σ)
def hold (v : Vl) : Vl := match v with
  | .ow ds => .sh (.lst ds)
  | v => v
def peek (v : Vl) (σ : En) : R D := match v with
  | .sh d => .ok d
  | .ow ds => .ok (.lst ds)
  | .sl i => match σ[i]? with
    | some (.ow ds) => .ok (.lst ds)
    | some (.lk ds) => .ok (.lst ds)
    | some (.io ds) => .ok (.lst ds)
    | some (.sh d) => .ok d
    | _ => .stuck
def vr (v : Vr) : Vl := match v with
  | .sh d => .sh d
  | .ow ds => .ow ds
def vrD (v : Vr) : D := match v with
  | .sh d => d
  | .ow ds => .lst ds
def getv (i : Nat) (σ : En) : R Vl := match σ[i]? with
  | some (.sh d) => .ok (.sh d)
  | some (.ow _) => .ok (.sl i)
  | some (.lk _) => .ok (.sl i)
  | some (.io _) => .ok (.sl i)
  | _ => .stuck
def setc (i : Nat) (c : Cell) (σ : En) : R En := match σ[i]? with
  | some .un => .ok (σ.set i c)
  | some (.sh _) => .ok (σ.set i c)
  | some (.ow _) => .ok (σ.set i c)
  | _ => .stuck
def setv (i : Nat) (v : Vl) (σ : En) : R En := match v with
  | .sh d => setc i (.sh d) σ
  | .ow ds => setc i (.ow ds) σ
  | .sl _ => .stuck
def setAll : List Nat → List D → En → R En
  | [], [], σ => .ok σ
  | i :: is, d :: ds, σ => (setc i (.sh d) σ).bind (setAll is ds)
  | _, _, _ => .stuck
def setT (t : Tgt) (d : D) (σ : En) : R En := match t with
  | .v i => setc i (.sh d) σ
  | .tp is => match d with
    | .tup ds => setAll is ds σ
    | _ => .stuck
def lock (i : Nat) (σ : En) : En := match σ[i]? with
  | some (.ow ds) => σ.set i (.lk ds)
  | _ => σ
def unlock (i : Nat) (σ : En) : En := match σ[i]? with
  | some (.lk ds) => σ.set i (.ow ds)
  | _ => σ
def wipeE (σ : En) : List Nat → En
  | [] => σ
  | v :: vs => (wipeE σ vs).set v .un
def back (σ0 : En) : List Nat → En → En
  | [], σ => σ
  | v :: vs, σ => (back σ0 vs σ).set v (σ0[v]?.getD .un)
/-- the slots that a walked value locks -/
def lks (v : Vl) (σ : En) : List Nat := match v with
  | .sl i => match σ[i]? with
    | some (.ow _) => [i]
    | _ => []
  | _ => []
/-- nothing walks a list that was handed in to be changed -/
def wOk (v : Vl) (σ : En) : Bool := match v with
  | .sl i => match σ[i]? with
    | some (.io _) => false
    | _ => true
  | _ => true
def noLk (is : List Nat) (σ : En) : Bool := is.all fun i => match σ[i]? with
  | some (.lk _) => false
  | _ => true

/-! ## plain operations -/
def sizeOk (n : Nat) : Bool := decide (n ≤ 16000000)
def ixD (n : Nat) (i : Int) : Option Nat := ixN n i
abbrev CF := Nat → FArg → List D → R (Vr × List D)

/-! plain data -/
mutual
def toPD : D → Option PyData
  | .non => some .none
  | .bl b => some (.bool b)
  | .int i => some (.int i)
  | .str s => some (.str s)
  | .tup ds => (toPDs ds).map PyData.tuple
  | .lst ds => (toPDs ds).map PyData.list
  | .obj _ _ => none
  | .fn _ => none
  | .dic => none
  | .ro _ => none
def toPDs : List D → Option (List PyData)
  | [] => some []
  | d :: ds => match toPD d, toPDs ds with
    | some p, some ps => some (p :: ps)
    | _, _ => none
end
section
variable (P : Prg) (cf : CF)
def clsM (c : Nat) (m : Str) : Option Nat := match P.cls[c]? with
  | some C => C.meths.lookup m
  | none => none
def clsF (c : Nat) : List Str := match P.cls[c]? with
  | some C => C.flds
  | none => []
/-- an own method called by an operation: what it hands back is shared -/
def callM (c : Nat) (m : Str) (args : List D) : R D := match clsM P c m with
  | some k => (cf k .no args).bind fun p => .ok (vrD p.1)
  | none => .stuck
/-- what an own operator may be asked beside its own instance -/
def rOk (c : Nat) : D → Bool
  | .obj c' _ => decide (c' = c)
  | .lst _ => false
  | .fn _ => false
  | .dic => false
  | .ro _ => false
  | _ => true
mutual
/-- may the two be the same object -/
def sameD : D → D → Bool
  | .non, .non => true
  | .bl a, .bl b => a == b
  | .int a, .int b => decide (a = b)
  | .str a, .str b => decide (a = b)
  | .tup a, .tup b => sameDs a b
  | .lst a, .lst b => sameDs a b
  | .obj c a, .obj c' b => decide (c = c') && sameDs a b
  | .non, _ => false
  | .bl _, _ => false
  | .int _, _ => false
  | .str _, _ => false
  | .tup _, .lst _ => false
  | .tup _, .obj _ _ => false
  | .lst _, .tup _ => false
  | .lst _, .obj _ _ => false
  | .obj _ _, .tup _ => false
  | .obj _ _, .lst _ => false
  | _, .non => false
  | _, .bl _ => false
  | _, .int _ => false
  | _, .str _ => false
  | _, _ => true
def sameDs : List D → List D → Bool
  | [], [] => true
  | a :: r, b :: q => sameD a b && sameDs r q
  | _, _ => false
end
def toBD (d : D) : R Bool := match d with
  | .bl b => .ok b
  | _ => .stuck
def eqChk (x y : D) (r : R Bool) : R Bool := match r with
  | .ok b => if sameD x y = true ∧ b = false then .stuck else .ok b
  | _ => .stuck
def eqL (f : D → D → R Bool) : List D → List D → R Bool
  | [], [] => .ok true
  | x :: xs, y :: ys => match f x y with
    | .ok true => eqL f xs ys
    | .ok false => .ok false
    | _ => .stuck
  | _, _ => .ok false
def plainEq (x y : D) : Option (R Bool) := match toPD x, toPD y with
  | some p, some q => some (if SeqAt.shaped p = true ∧ SeqAt.shaped q = true then .ok (PyData.eqv p q) else .stuck)
  | _, _ => none
/-- own == -/
def eqObj (c : Nat) (a : List D) (y : D) : R Bool := if rOk c y = true then (callM P cf c "__eq__" [.obj c a, y]).bind toBD else .stuck
/-- == -/
def eqN : Nat → D → D → R Bool
  | 0, x, y => match plainEq x y with
    | some r => r
    | none => .stuck
  | n + 1, x, y => match plainEq x y with
    | some r => r
    | none => eqChk x y (match x, y with
      | .obj c a, y => eqObj P cf c a y
      | .tup xs, .tup ys => eqL (eqN n) xs ys
      | .lst xs, .lst ys => if xs.length = ys.length then eqL (eqN n) xs ys else .ok false
      | _, _ => .stuck)
def eqT (x y : D) : R Bool := eqN P cf 6 x y
def memL (f : D → D → R Bool) (x : D) : List D → R Bool
  | [] => .ok false
  | y :: ys => match f y x with
    | .ok true => .ok true
    | .ok false => memL f x ys
    | _ => .stuck
def plainMem (x y : D) : Option (R Bool) := match toPD x, toPD y with
  | some p, some (.list ds) => some (if SeqAt.shaped p = true ∧ SeqAt.shaped (.list ds) = true then .ok (ds.any fun z => PyData.eqv z p) else .stuck)
  | _, _ => none
def notLst : D → Bool
  | .lst _ => false
  | _ => true
/-- x in y -/
def memT (x y : D) : R Bool := match plainMem x y with
  | some r => r
  | none => if notLst x = true then (match y with
    | .tup ys => memL (eqN P cf 5) x ys
    | .lst ys => memL (eqN P cf 5) x ys
    | _ => .stuck) else .stuck
def intsD : List D → Option (List Int)
  | [] => some []
  | .int i :: r => (intsD r).map (i :: ·)
  | _ :: _ => none
def boolsD : List D → Option (List Bool)
  | [] => some []
  | .bl b :: r => (boolsD r).map (b :: ·)
  | _ :: _ => none
def own2 (c : Nat) (m : Str) (x y : D) : R Vr := if rOk c y = true then (callM P cf c m [x, y]).bind fun d => .ok (.sh d) else .stuck
def binD (o : BOp) (x y : D) : R Vr := match o with
  | .add => match x, y with
    | .int i, .int j => .ok (.sh (.int (i + j)))
    | .str i, .str j => if i.length + j.length ≤ 16000000 then .ok (.sh (.str (i ++ j))) else .stuck
    | .tup i, .tup j => if i.length + j.length ≤ 16000000 then .ok (.sh (.tup (i ++ j))) else .stuck
    | .lst i, .lst j => if i.length + j.length ≤ 16000000 then .ok (.ow (i ++ j)) else .stuck
    | .obj c i, y => own2 P cf c "__add__" (.obj c i) y
    | _, _ => .stuck
  | .sub => match x, y with
    | .int i, .int j => .ok (.sh (.int (i - j)))
    | .obj c i, y => own2 P cf c "__sub__" (.obj c i) y
    | _, _ => .stuck
  | .mul => match x, y with
    | .int i, .int j => if i.natAbs.log2 + j.natAbs.log2 < 100000000 then .ok (.sh (.int (i * j))) else .stuck
    | .tup i, .int j => if i.length ≤ 1000 ∧ -1000000 < j ∧ j ≤ 1000 then .ok (.sh (.tup (List.replicate j.toNat i).flatten)) else .stuck
    | .lst i, .int j => if i.length * j.toNat ≤ 16000000 ∧ j < 1000000 ∧ -1000000 < j then .ok (.ow (List.replicate j.toNat i).flatten) else .stuck
    | .obj c i, y => own2 P cf c "__mul__" (.obj c i) y
    | _, _ => .stuck
  | .fdiv => match x, y with
    | .int i, .int j => if 0 < j ∧ j.natAbs.log2 < 9000 then .ok (.sh (.int (i / j))) else .stuck
    | _, _ => .stuck
  | .mod => match x, y with
    | .int i, .int j => if 0 < j then .ok (.sh (.int (i % j))) else .stuck
    | _, _ => .stuck
def negD (x : D) : R D := match x with
  | .int i => .ok (.int (-i))
  | .obj c i => callM P cf c "__neg__" [.obj c i]
  | _ => .stuck
def ordD (m : Str) (f : Int → Int → Bool) (g : Str → Str → Bool) (x y : D) : R Bool := match x, y with
  | .int i, .int j => .ok (f i j)
  | .str i, .str j => .ok (g i j)
  | .obj c i, y => if rOk c y = true then (callM P cf c m [.obj c i, y]).bind toBD else .stuck
  | _, _ => .stuck
def cmpD (o : COp) (x y : D) : R Bool := match o with
  | .lt => match x, y with
    | .tup a, .tup b => match intsD a, intsD b with
      | some a, some b => .ok (HT.lexLt a b)
      | _, _ => .stuck
    | x, y => ordD P cf "__lt__" (fun i j => decide (i < j)) (fun i j => decide (i.cps.toList < j.cps.toList)) x y
  | .le => ordD P cf "__le__" (fun i j => decide (i ≤ j)) (fun i j => !decide (j.cps.toList < i.cps.toList)) x y
  | .gt => match x, y with
    | .int i, .int j => .ok (decide (j < i))
    | _, _ => .stuck
  | .ge => match x, y with
    | .int i, .int j => .ok (decide (j ≤ i))
    | _, _ => .stuck
  | .eq => eqT P cf x y
  | .ne => (eqT P cf x y).map (!·)
  | .mem => memT P cf x y
  | .nmem => (memT P cf x y).map (!·)
end
def items : D → Option (List D)
  | .lst ds => some ds
  | .tup ds => some ds
  | _ => none
def ixOf (x i : D) : R D := match items x, i with
  | some ds, .int i => match atI ds i with
    | some d => .ok d
    | none => .stuck
  | _, _ => .stuck
def cutD (xs : List D) (lo hi : Option Int) : List D := (xs.drop (HT.sIx xs.length 0 lo)).take (HT.sIx xs.length xs.length hi - HT.sIx xs.length 0 lo)
def slcD (x : D) (lo hi : Option Int) : R Vr := match x with
  | .ro ds => .ok (.ow (cutD ds lo hi))
  | .lst ds => .ok (.ow (cutD ds lo hi))
  | .tup ds => .ok (.sh (.tup (cutD ds lo hi)))
  | _ => .stuck
def revD (x : D) : R Vr := match x with
  | .lst ds => .ok (.ow ds.reverse)
  | .tup ds => .ok (.sh (.tup ds.reverse))
  | _ => .stuck
def isNon : D → Bool
  | .non => true
  | _ => false
def isi1 (t : TyK) (d : D) : Bool := match t, d with
  | .int, .int _ => true
  | .int, .bl _ => true
  | .bool, .bl _ => true
  | .str, .str _ => true
  | .tup, .tup _ => true
  | .lst, .lst _ => true
  | .own c, .obj c' _ => c == c'
  | _, _ => false
def isiD (t : TyK) (d : D) : R Bool := match d with
  | .fn _ => .stuck
  | .ro _ => .stuck
  | d => .ok (isi1 t d)
def bifD (b : Bif) (ds : List D) : R Vr := match b with
  | .len => (match ds with
    | [.lst xs] => .ok (.sh (.int xs.length))
    | [.tup xs] => .ok (.sh (.int xs.length))
    | [.str s] => if s.length ≤ 16000000 then .ok (.sh (.int s.length)) else .stuck
    | _ => .stuck)
  | .abs => (match ds with
    | [.int i] => .ok (.sh (.int (if i < 0 then -i else i)))
    | _ => .stuck)
  | .int => (match ds with
    | [.int i] => .ok (.sh (.int i))
    | [.bl b] => .ok (.sh (.int (if b then 1 else 0)))
    | _ => .stuck)
  | .tup => (match ds with
    | [.lst xs] => .ok (.sh (.tup xs))
    | [.tup xs] => .ok (.sh (.tup xs))
    | _ => .stuck)
  | .lst => (match ds with
    | [.lst xs] => .ok (.ow xs)
    | [.tup xs] => .ok (.ow xs)
    | _ => .stuck)
  | .max2 => (match ds with
    | [.int i, .int j] => .ok (.sh (.int (if j > i then j else i)))
    | _ => .stuck)
  | .min2 => (match ds with
    | [.int i, .int j] => .ok (.sh (.int (if j < i then j else i)))
    | _ => .stuck)
  | .sum => (match ds with
    | [.lst xs] => (match intsD xs with
        | some ns => .ok (.sh (.int ns.sum))
        | none => .stuck)
    | [.tup xs] => (match intsD xs with
        | some ns => .ok (.sh (.int ns.sum))
        | none => .stuck)
    | _ => .stuck)
  | .all => (match ds with
    | [.lst xs] => (match boolsD xs with
        | some bs => .ok (.sh (.bl (bs.all id)))
        | none => .stuck)
    | _ => .stuck)
  | .any => (match ds with
    | [.lst xs] => (match boolsD xs with
        | some bs => .ok (.sh (.bl (bs.any id)))
        | none => .stuck)
    | _ => .stuck)
def rngD (lo hi c : Int) : Option (List D) :=
  if -1000000 < lo ∧ lo < 1000000000 ∧ -1000000 < hi ∧ hi < 1000000000 then
    if c = 1 then some ((List.range (hi - lo).toNat).map fun (i : Nat) => D.int (lo + i))
    else if c = -1 then some ((List.range (lo - hi).toNat).map fun (i : Nat) => D.int (lo + (i : Int) * (-1))) else none
  else none
/-- list(range(..)), tuple(range(..)) -/
def rgR (l : Bool) (lo hi : Int) : R Vr := if -1000000 < lo ∧ lo < 1000000000 ∧ -1000000 < hi ∧ hi < 1000000000 ∧ (hi - lo).toNat ≤ 1000000 then
  (match l with
  | true => .ok (.ow ((List.range (hi - lo).toNat).map fun (i : Nat) => D.int (lo + (i : Int))))
  | false => .ok (.sh (.tup ((List.range (hi - lo).toNat).map fun (i : Nat) => D.int (lo + (i : Int)))))) else .stuck
def rngA (ds : List D) : Option (List D) := match ds with
  | [.int n] => rngD 0 n 1
  | [.int n, .int m] => rngD n m 1
  | [.int n, .int m, .int k] => rngD n m k
  | _ => none
def enumD : Nat → List D → List D
  | _, [] => []
  | i, d :: ds => .tup [.int i, d] :: enumD (i + 1) ds
def zipD : List D → List D → List D
  | x :: xs, y :: ys => .tup [x, y] :: zipD xs ys
  | _, _ => []

/-! ## loops -/
def lcL (f : D → List D → En → R (List D × En)) : List D → List D → En → R (List D × En)
  | [], acc, σ => .ok (acc, σ)
  | d :: ds, acc, σ => bnd (f d acc σ) fun acc' σ' => lcL f ds acc' σ'
def addL (acc : List D) (p : R (D × En)) : R (List D × En) := bnd p fun y σ => if acc.length < 16000000 then .ok (acc ++ [y], σ) else .stuck
inductive Fl where
  | nx | rt (v : Vr)
def forL (f : D → En → R (Fl × En)) : List D → En → R (Fl × En)
  | [], σ => .ok (.nx, σ)
  | d :: ds, σ => bnd (f d σ) fun r σ' => match r with
    | .nx => forL f ds σ'
    | .rt v => .ok (.rt v, σ')
def whlL (c : En → R (Bool × En)) (f : En → R (Fl × En)) : Nat → En → R (Fl × En)
  | 0, _ => .stuck
  | n + 1, σ => bnd (c σ) fun b σ' => match b with
    | false => .ok (.nx, σ')
    | true => bnd (f σ') fun r σ'' => match r with
      | .nx => whlL c f n σ''
      | .rt v => .ok (.rt v, σ'')
def unexc {α : Type} : R α → R α
  | .exc _ => .stuck
  | m => m
def pk (v : Vl) (σ : En) : R (D × En) := (peek v σ).map fun d => (d, σ)
def mkD (c n : Nat) (p : Vr × List D) : R Vl := match p.1 with
  | .sh .non => if p.2.length = n then .ok (.sh (.obj c p.2)) else .stuck
  | _ => .stuck
def toB (v : Vl) (σ : En) : R (Bool × En) := match v with
  | .sh (.bl b) => .ok (b, σ)
  | _ => .stuck
def pks : List Vl → En → R (List D × En)
  | [], σ => .ok ([], σ)
  | v :: vs, σ => bnd (pk v σ) fun d σ => bnd (pks vs σ) fun ds σ => .ok (d :: ds, σ)
def toI (v : Vl) (σ : En) : R (Option Int × En) := match v with
  | .sh (.int i) => .ok (some i, σ)
  | _ => .stuck
def lift {α : Type} (m : R α) (σ : En) : R (α × En) := m.map fun a => (a, σ)

/-- one turn of a comprehension -/
def lcF (vs : List Nat) (t : Tgt) (mc : En → R (Bool × En)) (me : En → R (Vl × En)) : D → List D → En → R (List D × En) := fun d acc σ => bnd (lift (setT t d (wipeE σ vs)) σ) fun σ' _ => bnd (mc σ') fun b σ => match b with
  | true => addL acc (bnd (me σ) fun v σ => esc v σ)
  | false => .ok (acc, σ)
/-- one turn of the outer clause of two -/
def lc2F (vs : List Nat) (t t' : Nat) (ms : En → R ((List D × List Nat) × En)) (me : En → R (Vl × En)) : D → List D → En → R (List D × En) := fun d acc σ => bnd (lift (setT (.v t) d (wipeE σ vs)) σ) fun σ' _ => bnd (ms σ') fun q σ1 => if noLk [t'] (q.2.foldr lock σ1) = true then
  bnd (lcL (lcF [t'] (.v t') (fun σ => .ok (true, σ)) me) q.1 acc (q.2.foldr lock σ1)) fun ys σ2 => .ok (ys, q.2.foldr unlock σ2) else .stuck
def lcM (ms : En → R ((List D × List Nat) × En)) (vs : List Nat) (f : D → List D → En → R (List D × En)) : En → R (Vl × En) := fun σ => bnd (ms σ) fun p σ1 => if noLk vs (p.2.foldr lock σ1) = true then
  bnd (unexc (lcL f p.1 [] (p.2.foldr lock σ1))) fun acc σ2 => .ok (.ow acc, p.2.foldr unlock (back (p.2.foldr lock σ1) vs σ2)) else .stuck
section
variable (P : Prg) (cf : CF)
mutual
def ev : Ex → En → R (Vl × En)
  | .var i, σ => (getv i σ).map fun v => (v, σ)
  | .con d, σ => .ok (.sh d, σ)
  | .gcon _ i, σ => .ok (.sh (.int i), σ)
  | .gfn k, σ => .ok (.sh (.fn k), σ)
  | .bin o a b, σ => bnd (ev a σ) fun va σ => bnd (ev b σ) fun vb σ => bnd (pk (hold va) σ) fun x σ => bnd (pk (hold vb) σ) fun y σ => lift ((binD P cf o x y).map vr) σ
  | .neg a, σ => bnd (ev a σ) fun va σ => bnd (pk va σ) fun x σ => lift ((negD P cf x).map Vl.sh) σ
  | .not a, σ => bnd (ev a σ) fun va σ => bnd (toB va σ) fun b σ => .ok (.sh (.bl (!b)), σ)
  | .cmp o a b, σ => bnd (ev a σ) fun va σ => bnd (ev b σ) fun vb σ => bnd (pk (hold va) σ) fun x σ => bnd (pk (hold vb) σ) fun y σ => lift ((cmpD P cf o x y).map fun b => Vl.sh (.bl b)) σ
  | .isN a, σ => bnd (ev a σ) fun va σ => bnd (pk va σ) fun x σ => .ok (.sh (.bl (isNon x)), σ)
  | .notN a, σ => bnd (ev a σ) fun va σ => bnd (pk va σ) fun x σ => .ok (.sh (.bl (!isNon x)), σ)
  | .chain o p a b c, σ => bnd (ev a σ) fun va σ => bnd (ev b σ) fun vb σ => bnd (pk (hold va) σ) fun x σ => bnd (pk (hold vb) σ) fun y σ => bnd (lift (cmpD P cf o x y) σ) fun r σ => match r with
    | true => bnd (ev c σ) fun vc σ => bnd (pk (hold vb) σ) fun y σ => bnd (pk (hold vc) σ) fun z σ => lift ((cmpD P cf p y z).map fun b => Vl.sh (.bl b)) σ
    | false => .ok (.sh (.bl false), σ)
  | .and a b, σ => bnd (ev a σ) fun va σ => bnd (toB va σ) fun r σ => match r with
    | true => ev b σ
    | false => .ok (.sh (.bl false), σ)
  | .or a b, σ => bnd (ev a σ) fun va σ => bnd (toB va σ) fun r σ => match r with
    | true => .ok (.sh (.bl true), σ)
    | false => ev b σ
  | .ite c a b, σ => bnd (ev c σ) fun vc σ => bnd (toB vc σ) fun r σ => match r with
    | true => ev a σ
    | false => ev b σ
  | .tup es, σ => bnd (evs es σ) fun ds σ => .ok (.sh (.tup ds), σ)
  | .lst es, σ => bnd (evs es σ) fun ds σ => .ok (.ow ds, σ)
  | .ix a i, σ => bnd (ev a σ) fun va σ => bnd (ev i σ) fun vi σ => bnd (pk (hold va) σ) fun x σ => bnd (pk (hold vi) σ) fun y σ => lift ((ixOf x y).map Vl.sh) σ
  | .slc a lo hi, σ => bnd (ev a σ) fun va σ => bnd (evo lo σ) fun l σ => bnd (evo hi σ) fun h σ => bnd (pk (hold va) σ) fun x σ => lift ((slcD x l h).map vr) σ
  | .rev a, σ => bnd (ev a σ) fun va σ => bnd (pk (hold va) σ) fun x σ => lift ((revD x).map vr) σ
  | .fld a f, σ => bnd (ev a σ) fun va σ => bnd (pk (hold va) σ) fun x σ => match x with
    | .obj c ds => (match ((clsF P c).zip ds).lookup f with
      | some d => .ok (.sh d, σ)
      | none => .stuck)
    | _ => .stuck
  | .call k es, σ => bnd (evs es σ) fun ds σ => lift ((cf k .no ds).map fun p => vr p.1) σ
  | .callio k i es, σ => bnd ((getv i σ).map fun v => (v, σ)) fun _ σ => bnd (evs es σ) fun ds σ => match σ[i]? with
    | some (.ow xs) => (match cf k (.io xs) ds with
      | .ok (.sh d, xs') => .ok (.sh d, σ.set i (.ow xs'))
      | .ok (.ow ys, xs') => .ok (.ow ys, σ.set i (.ow xs'))
      | .exc _ => .stuck
      | .stuck => .stuck)
    | some (.io xs) => (match cf k (.io xs) ds with
      | .ok (.sh d, xs') => .ok (.sh d, σ.set i (.io xs'))
      | .ok (.ow ys, xs') => .ok (.ow ys, σ.set i (.io xs'))
      | .exc _ => .stuck
      | .stuck => .stuck)
    | _ => .stuck
  | .callv i es, σ => match σ[i]? with
    | some (.sh (.fn k)) => (match P.fns[k]? with
      | some f => bnd (evs es σ) fun ds σ => if ds.length = f.ps.length then lift ((cf k .no ds).map fun p => vr p.1) σ else .stuck
      | none => .stuck)
    | _ => .stuck
  | .mk c es dv, σ => bnd (evs es σ) fun ds σ => match P.cls[c]? with
    | some C => lift ((cf C.init (.bld c) (ds ++ dv)).bind fun p => mkD c C.flds.length p) σ
    | none => .stuck
  | .meth c a m es, σ => bnd (ev a σ) fun va σ => bnd (pk (hold va) σ) fun x σ => match x with
    | .obj c' xs => if c' = c then (match clsM P c m with
      | some k => bnd (evs es σ) fun ds σ => lift ((cf k .no (.obj c xs :: ds)).map fun p => vr p.1) σ
      | none => .stuck) else .stuck
    | _ => .stuck
  | .bif b es, σ => bnd (evp es σ) fun vs σ => bnd (pks vs σ) fun ds σ => lift ((bifD b ds).map vr) σ
  | .trng1 l a, σ => bnd (ev a σ) fun v σ => bnd (toI v σ) fun n σ => lift ((rgR l 0 (n.getD 0)).map vr) σ
  | .trng2 l a b, σ => bnd (ev a σ) fun v σ => bnd (toI v σ) fun n σ => bnd (ev b σ) fun v σ => bnd (toI v σ) fun m σ => lift ((rgR l (n.getD 0) (m.getD 0)).map vr) σ
  | .isi a t, σ => bnd (ev a σ) fun va σ => bnd (pk (hold va) σ) fun x σ => lift ((isiD t x).map fun b => Vl.sh (.bl b)) σ
  | .isi2 a t u, σ => bnd (ev a σ) fun va σ => bnd (pk (hold va) σ) fun x σ => lift ((isiD t x).bind fun a => (isiD u x).map fun b => Vl.sh (.bl (a || b))) σ
  | .lc s t e, σ => lcM (fun σ => src s σ) t.slots (lcF t.slots t (fun σ => .ok (true, σ)) fun σ => ev e σ) σ
  | .lcf s t c e, σ => lcM (fun σ => src s σ) t.slots (lcF t.slots t (fun σ => bnd (ev c σ) fun v σ => toB v σ) fun σ => ev e σ) σ
  | .lc2 s t s' t' e, σ => lcM (fun σ => src s σ) [t, t'] (lc2F [t, t'] t t' (fun σ => src s' σ) fun σ => ev e σ) σ
/-- arguments that go away -/
def evs : Exs → En → R (List D × En)
  | .nil, σ => .ok ([], σ)
  | .cons e es, σ => bnd (ev e σ) fun v σ => bnd (esc v σ) fun d σ => bnd (evs es σ) fun ds σ => .ok (d :: ds, σ)
/-- arguments that are looked at -/
def evp : Exs → En → R (List Vl × En)
  | .nil, σ => .ok ([], σ)
  | .cons e es, σ => bnd (ev e σ) fun v σ => bnd (evp es σ) fun vs σ => .ok (hold v :: vs, σ)
def evo : Exo → En → R (Option Int × En)
  | .none, σ => .ok (none, σ)
  | .some e, σ => bnd (ev e σ) fun v σ => toI v σ
def src : Src → En → R ((List D × List Nat) × En)
  | .seq e, σ => bnd (ev e σ) fun v σ => bnd (pk (hold v) σ) fun x σ => match items x with
    | some ds => if wOk v σ = true then .ok ((ds, lks v σ), σ) else .stuck
    | none => .stuck
  | .rng es, σ => bnd (evs es σ) fun ds σ => match rngA ds with
    | some xs => .ok ((xs, []), σ)
    | none => .stuck
  | .zip es, σ => bnd (evp es σ) fun vs σ => bnd (pks vs σ) fun ds σ => match vs, ds with
    | [va, vb], [x, y] => (match items x, items y with
      | some xs, some ys => if wOk va σ = true ∧ wOk vb σ = true then .ok ((zipD xs ys, lks va σ ++ lks vb σ), σ) else .stuck
      | _, _ => .stuck)
    | _, _ => .stuck
  | .enum es, σ => bnd (evp es σ) fun vs σ => bnd (pks vs σ) fun ds σ => match vs, ds with
    | [va], [x] => (match items x with
      | some xs => if wOk va σ = true then .ok ((enumD 0 xs, lks va σ), σ) else .stuck
      | _ => .stuck)
    | _, _ => .stuck
end
end

/-! ## statements -/
def isL (i : Nat) (σ : En) : Bool := match σ[i]? with
  | some (.ow _) => true
  | some (.io _) => true
  | _ => false
/-- the list of a slot is changed in place -/
def updL (i : Nat) (f : List D → Option (List D)) (σ : En) : R En := match σ[i]? with
  | some (.ow ds) => (match f ds with
    | some ds' => .ok (σ.set i (.ow ds'))
    | none => .stuck)
  | some (.io ds) => (match f ds with
    | some ds' => .ok (σ.set i (.io ds'))
    | none => .stuck)
  | _ => .stuck
def appF (y : D) (ds : List D) : Option (List D) := if ds.length < 16000000 then some (ds ++ [y]) else none
def insF (k : Int) (y : D) (ds : List D) : Option (List D) := if ds.length < 16000000 ∧ 0 ≤ k ∧ k ≤ ds.length then some (ds.take k.toNat ++ [y] ++ ds.drop k.toNat) else none
def extF (xs : List D) (ds : List D) : Option (List D) := if ds.length + xs.length ≤ 16000000 then some (ds ++ xs) else none
def setF (k : Int) (y : D) (ds : List D) : Option (List D) := (ixN ds.length k).map fun j => ds.set j y
/-- an exception with one number or text -/
def raiseD {α : Type} (c : Nat) (ds : List D) : R α := match ds with
  | [.int i] => .exc ⟨c, some (.int i)⟩
  | [.str i] => .exc ⟨c, some (.str i)⟩
  | _ => .stuck
def nxR (r : R En) : R (Fl × En) := r.map fun σ => (.nx, σ)
def hasB (f : Str) (fs : List Str) : Bool := fs.any fun g => decide (g = f)
section
variable (P : Prg) (cf : CF) (w : Nat)
mutual
def exS : Sm → En → R (Fl × En)
  | .asg t e, σ => bnd (ev P cf e σ) fun v σ => match t with
    | .v i => bnd (alias_ v σ) fun v σ => nxR (setv i v σ)
    | .tp is => bnd (pk (hold v) σ) fun d σ => nxR (setT (.tp is) d σ)
  | .par2 i j a b, σ => bnd (ev P cf a σ) fun va σ => bnd (alias_ va σ) fun va σ => bnd (ev P cf b σ) fun vb σ => bnd (alias_ vb σ) fun vb σ =>
      if i ≠ j then nxR ((setv i va σ).bind (setv j vb)) else .stuck
  | .par is es, σ => bnd (evs P cf es σ) fun ds σ => nxR (setAll is ds σ)
  | .setix i ix e, σ => bnd (bnd (ev P cf e σ) fun v σ => esc v σ) fun y σ => if isL i σ = true then bnd (bnd (ev P cf ix σ) fun v σ => toI v σ) fun k σ => nxR (updL i (setF (k.getD 0) y) σ) else .stuck
  | .setix2 i ix j jx a b, σ => .stuck
  | .setfld f e, σ => bnd (bnd (ev P cf e σ) fun v σ => esc v σ) fun y σ => match σ[(0 : Nat)]? with
    | some (.bld c fs) => if (clsF P c)[fs.length]? = some f ∧ hasB f ((clsF P c).take fs.length) = false ∧ fs.length < 1000 then .ok (.nx, σ.set 0 (.bld c (fs ++ [y]))) else .stuck
    | _ => .stuck
  | .app i e, σ => if isL i σ = true then bnd (bnd (ev P cf e σ) fun v σ => esc v σ) fun y σ => nxR (updL i (appF y) σ) else .stuck
  | .ins i k e, σ => if isL i σ = true then bnd (bnd (ev P cf k σ) fun v σ => toI v σ) fun n σ => bnd (bnd (ev P cf e σ) fun v σ => esc v σ) fun y σ => nxR (updL i (insF (n.getD 0) y) σ) else .stuck
  | .ext i e, σ => if isL i σ = true then bnd (ev P cf e σ) fun v σ => bnd (pk (hold v) σ) fun y σ => match y with
    | .lst xs => nxR (updL i (extF xs) σ)
    | _ => .stuck else .stuck
  | .rem .., _ => .stuck
  | .ex e, σ => bnd (ev P cf e σ) fun _ σ => .ok (.nx, σ)
  | .ifs c a b, σ => bnd (ev P cf c σ) fun v σ => bnd (toB v σ) fun r σ => match r with
    | true => exSs a σ
    | false => exSs b σ
  | .whl c b, σ => whlL (fun σ => bnd (ev P cf c σ) fun v σ => toB v σ) (fun σ => exSs b σ) w σ
  | .for t s b, σ => bnd (src P cf s σ) fun p σ1 =>
      bnd (forL (fun d σ => bnd (lift (setT t d σ) σ) fun σ' _ => exSs b σ') p.1 (p.2.foldr lock σ1)) fun r σ2 => .ok (r, p.2.foldr unlock σ2)
  | .ret e, σ => bnd (ev P cf e σ) fun v σ => match v with
    | .sh d => .ok (.rt (.sh d), σ)
    | .ow ds => .ok (.rt (.ow ds), σ)
    | .sl i => match σ[i]? with
      | some (.ow ds) => .ok (.rt (.ow ds), σ.set i .un)
      | some (.sh d) => .ok (.rt (.sh d), σ)
      | _ => .stuck
  | .retN, σ => .ok (.rt (.sh .non), σ)
  | .raise c, _ => .exc ⟨c, none⟩
  | .raise1 c e, σ => bnd (evs P cf (.cons e .nil) σ) fun ds _ => raiseD c ds
  | .tryS b hs, σ => match exSs b σ with
    | .ok r => .ok r
    | .exc x => exH hs x σ
    | .stuck => .stuck
  | .pass, σ => .ok (.nx, σ)
def exSs : Sms → En → R (Fl × En)
  | .nil, σ => .ok (.nx, σ)
  | .cons s r, σ => bnd (exS s σ) fun f σ => match f with
    | .nx => exSs r σ
    | .rt v => .ok (.rt v, σ)
def exH : Hds → Exn → En → R (Fl × En)
  | .nil, x, _ => .exc x
  | .con c b r, x, σ => if c = x.c then (match exSs b (σ.map fun _ => .un) with
    | .ok (.rt (.sh d), _) => .ok (.rt (.sh d), [])
    | _ => .stuck) else exH r x σ
  | .fld c _ s r, x, σ => if c = x.c then (match x.arg with
    | some a => .ok (.rt (.sh (.tup [.str s, a])), [])
    | none => .stuck) else exH r x σ
end
end

/-! ## functions -/
def st0 (fa : FArg) (N : Nat) (args : List D) : En := match fa with
  | .no => args.map .sh ++ List.replicate (N - args.length) .un
  | .io ds => .io ds :: args.map .sh ++ List.replicate (N - (args.length + 1)) .un
  | .bld c => .bld c [] :: args.map .sh ++ List.replicate (N - (args.length + 1)) .un
def nArgs (fa : FArg) (args : List D) : Nat := match fa with
  | .no => args.length
  | _ => args.length + 1
def fin (fa : FArg) (v : Vr) (σ : En) : R (Vr × List D) := match fa with
  | .no => .ok (v, [])
  | .io _ => match σ[(0 : Nat)]? with
    | some (.io ds) => .ok (v, ds)
    | _ => .stuck
  | .bld _ => match σ[(0 : Nat)]?, v with
    | some (.bld _ ds), .sh .non => .ok (.sh .non, ds)
    | _, _ => .stuck
def runF (P : Prg) (cf : CF) (w : Nat) (f : FnI) (fa : FArg) (args : List D) : R (Vr × List D) :=
  if nArgs fa args = f.ps.length then (match exSs P cf w f.body (st0 fa f.N.length args) with
    | .ok (.nx, σ) => fin fa (.sh .non) σ
    | .ok (.rt v, σ) => fin fa v σ
    | .exc x => .exc x
    | .stuck => .stuck) else .stuck
/-- what the k-th function does, n calls deep at most -/
def fnEv (P : Prg) (w : Nat) : Nat → CF
  | 0 => fun _ _ _ => .stuck
  | n + 1 => fun k fa args => match P.fns[k]? with
    | some f => runF P (fnEv P w n) w f fa args
    | none => .stuck
end PV
set_option Elab.async false
set_option linter.all false
set_option maxRecDepth 100000
namespace PV
open PySem PySem.Spec PyProof.Rows L2

abbrev Sg := List (Option V)
structure Gb where
  P : Prg
  K : PySem.W.Frag
  fn : Nat → Addr
  cls : Nat → Addr
  exc : Nat → Addr
  exf : Nat → Str

/-! ## data at addresses -/
mutual
def Rep (G : Gb) (F : Hp) : D → V → Prop
  | .non, v => v = .non
  | .bl b, v => v = .bl b
  | .int i, v => v = .int i
  | .str s, v => v = .str s
  | .tup ds, v => ∃ a vs, v = .ref a ∧ SqT G.K F a vs ∧ Reps G F ds vs
  | .lst ds, v => ∃ a vs, v = .ref a ∧ F a = some (.lst vs) ∧ Reps G F ds vs
  | .ro ds, v => ∃ a vs, v = .ref a ∧ SqL G.K F a vs ∧ Reps G F ds vs
  | .obj c ds, v => ∃ a dx vs, v = .ref a ∧ F a = some (.ins (G.cls c) dx ((clsF G.P c).zip vs)) ∧ (∃ C, G.P.cls[c]? = some C) ∧ vs.length = (clsF G.P c).length ∧ Reps G F ds vs
  | .fn k, v => v = .ref (G.fn k)
  | .dic, v => ∃ a kvs, v = .ref a ∧ F a = some (.dK kvs)
def Reps (G : Gb) (F : Hp) : List D → List V → Prop
  | [], vs => vs = []
  | d :: ds, vs => ∃ v r, vs = v :: r ∧ Rep G F d v ∧ Reps G F ds r
end
theorem sqT_same {K : PySem.W.Frag} {H H' : Hp} {a : Addr} {xs : List V} (e : Same H H') (h : SqT K H a xs) : SqT K H' a xs := by
  rcases h with (h | ⟨o, h⟩) | h
  · exact .inl (.inl (e _ _ h))
  · exact .inl (.inr ⟨o, e _ _ h⟩)
  · exact .inr h
section
variable {G : Gb} {F F' H H' : Hp}
mutual
theorem Rep.mono (e : Same F F') : ∀ {d : D} {v : V}, Rep G F d v → Rep G F' d v
  | .non, v, h => by simpa only [Rep] using h
  | .bl b, v, h => by simpa only [Rep] using h
  | .int i, v, h => by simpa only [Rep] using h
  | .str s, v, h => by simpa only [Rep] using h
  | .fn k, v, h => by simpa only [Rep] using h
  | .tup ds, v, h => by
    simp only [Rep] at h ⊢
    obtain ⟨a, vs, h1, h2, h3⟩ := h
    exact ⟨a, vs, h1, sqT_same e h2, Reps.mono e h3⟩
  | .lst ds, v, h => by
    simp only [Rep] at h ⊢
    obtain ⟨a, vs, h1, h2, h3⟩ := h
    exact ⟨a, vs, h1, e _ _ h2, Reps.mono e h3⟩
  | .ro ds, v, h => by
    simp only [Rep] at h ⊢
    obtain ⟨a, vs, h1, h2, h3⟩ := h
    exact ⟨a, vs, h1, e.seq h2, Reps.mono e h3⟩
  | .obj c ds, v, h => by
    simp only [Rep] at h ⊢
    obtain ⟨a, dx, vs, h1, h2, h0, h3, h4⟩ := h
    exact ⟨a, dx, vs, h1, e _ _ h2, h0, h3, Reps.mono e h4⟩
  | .dic, v, h => by
    simp only [Rep] at h ⊢
    obtain ⟨a, kvs, h1, h2⟩ := h
    exact ⟨a, kvs, h1, e _ _ h2⟩
theorem Reps.mono (e : Same F F') : ∀ {ds : List D} {vs : List V}, Reps G F ds vs → Reps G F' ds vs
  | [], vs, h => by simpa only [Reps] using h
  | d :: ds, vs, h => by
    simp only [Reps] at h ⊢
    obtain ⟨v, r, h1, h2, h3⟩ := h
    exact ⟨v, r, h1, Rep.mono e h2, Reps.mono e h3⟩
end
theorem Reps.nil : Reps G F [] [] := by simp only [Reps]
theorem Reps.cons {d : D} {ds : List D} {v : V} {vs : List V} (h : Rep G F d v) (r : Reps G F ds vs) : Reps G F (d :: ds) (v :: vs) := by
  simp only [Reps]
  exact ⟨v, vs, rfl, h, r⟩
theorem Reps.length : ∀ {ds : List D} {vs : List V}, Reps G F ds vs → vs.length = ds.length
  | [], vs, h => by simp only [Reps] at h; subst h; rfl
  | d :: ds, vs, h => by
    simp only [Reps] at h
    obtain ⟨v, r, rfl, _, h3⟩ := h
    simp [Reps.length h3]
theorem Reps.get : ∀ {ds : List D} {vs : List V} {i : Nat} {d : D}, Reps G F ds vs → ds[i]? = some d → ∃ v, vs[i]? = some v ∧ Rep G F d v
  | [], _, _, _, _, e => by simp at e
  | d :: ds, vs, 0, x, h, e => by
    simp only [Reps] at h
    obtain ⟨v, r, rfl, h2, h3⟩ := h
    simp at e
    subst e
    exact ⟨v, rfl, h2⟩
  | d :: ds, vs, i + 1, x, h, e => by
    simp only [Reps] at h
    obtain ⟨v, r, rfl, h2, h3⟩ := h
    simpa using Reps.get (i := i) h3 (by simpa using e)
theorem Reps.get' : ∀ {ds : List D} {vs : List V} {i : Nat} {v : V}, Reps G F ds vs → vs[i]? = some v → ∃ d, ds[i]? = some d ∧ Rep G F d v
  | [], vs, _, _, h, e => by simp only [Reps] at h; subst h; simp at e
  | d :: ds, vs, 0, x, h, e => by
    simp only [Reps] at h
    obtain ⟨v, r, rfl, h2, h3⟩ := h
    simp at e
    subst e
    exact ⟨d, rfl, h2⟩
  | d :: ds, vs, i + 1, x, h, e => by
    simp only [Reps] at h
    obtain ⟨v, r, rfl, h2, h3⟩ := h
    simpa using Reps.get' (i := i) h3 (by simpa using e)
theorem Reps.append : ∀ {ds es : List D} {vs ws : List V}, Reps G F ds vs → Reps G F es ws → Reps G F (ds ++ es) (vs ++ ws)
  | [], es, vs, ws, h, k => by simp only [Reps] at h; subst h; simpa using k
  | d :: ds, es, vs, ws, h, k => by
    simp only [Reps] at h
    obtain ⟨v, r, rfl, h2, h3⟩ := h
    exact .cons h2 (Reps.append h3 k)
theorem Reps.take : ∀ {ds : List D} {vs : List V} (n : Nat), Reps G F ds vs → Reps G F (ds.take n) (vs.take n)
  | ds, vs, 0, h => by simpa using Reps.nil
  | [], vs, n + 1, h => by simp only [Reps] at h; subst h; simpa using Reps.nil
  | d :: ds, vs, n + 1, h => by
    simp only [Reps] at h
    obtain ⟨v, r, rfl, h2, h3⟩ := h
    exact .cons h2 (Reps.take n h3)
theorem Reps.drop : ∀ {ds : List D} {vs : List V} (n : Nat), Reps G F ds vs → Reps G F (ds.drop n) (vs.drop n)
  | ds, vs, 0, h => by simpa using h
  | [], vs, n + 1, h => by simp only [Reps] at h; subst h; simpa using Reps.nil
  | d :: ds, vs, n + 1, h => by
    simp only [Reps] at h
    obtain ⟨v, r, rfl, h2, h3⟩ := h
    exact Reps.drop n h3
theorem Reps.set {d : D} {v : V} (r : Rep G F d v) : ∀ {ds : List D} {vs : List V} (n : Nat), Reps G F ds vs → Reps G F (ds.set n d) (vs.set n v)
  | [], vs, n, h => by simp only [Reps] at h; subst h; simpa using Reps.nil
  | e :: ds, vs, 0, h => by
    simp only [Reps] at h
    obtain ⟨w, q, rfl, h2, h3⟩ := h
    exact .cons r h3
  | e :: ds, vs, n + 1, h => by
    simp only [Reps] at h
    obtain ⟨w, q, rfl, h2, h3⟩ := h
    exact .cons h2 (Reps.set r n h3)
theorem Reps.reverse : ∀ {ds : List D} {vs : List V}, Reps G F ds vs → Reps G F ds.reverse vs.reverse
  | [], vs, h => by simp only [Reps] at h; subst h; simpa using Reps.nil
  | d :: ds, vs, h => by
    simp only [Reps] at h
    obtain ⟨v, r, rfl, h2, h3⟩ := h
    simp only [List.reverse_cons]
    exact (Reps.reverse h3).append (.cons h2 .nil)
theorem Reps.rep {ds : List D} {vs : List V} (h : Reps G F ds vs) : ∀ n : Nat, Reps G F (List.replicate n ds).flatten (List.replicate n vs).flatten
  | 0 => by simpa using Reps.nil
  | n + 1 => by
    simp only [List.replicate_succ, List.flatten_cons]
    exact h.append (Reps.rep h n)
theorem Reps.ints : ∀ {ds : List D} {vs : List V} {ns : List Int}, Reps G F ds vs → intsD ds = some ns → vs = ns.map V.int
  | [], vs, ns, h, e => by
    simp only [Reps] at h
    simp [intsD] at e
    subst h e
    rfl
  | .int i :: ds, vs, ns, h, e => by
    simp only [Reps, Rep] at h
    obtain ⟨v, r, rfl, rfl, h3⟩ := h
    simp only [intsD, Option.map_eq_some_iff] at e
    obtain ⟨ms, e1, rfl⟩ := e
    simp [Reps.ints h3 e1]
  | .non :: _, _, _, _, e | .bl _ :: _, _, _, _, e | .str _ :: _, _, _, _, e | .tup _ :: _, _, _, _, e | .lst _ :: _, _, _, _, e | .obj _ _ :: _, _, _, _, e | .fn _ :: _, _, _, _, e | .dic :: _, _, _, _, e | .ro _ :: _, _, _, _, e => by simp [intsD] at e
theorem Reps.bools : ∀ {ds : List D} {vs : List V} {ns : List Bool}, Reps G F ds vs → boolsD ds = some ns → vs = ns.map V.bl
  | [], vs, ns, h, e => by
    simp only [Reps] at h
    simp [boolsD] at e
    subst h e
    rfl
  | .bl i :: ds, vs, ns, h, e => by
    simp only [Reps, Rep] at h
    obtain ⟨v, r, rfl, rfl, h3⟩ := h
    simp only [boolsD, Option.map_eq_some_iff] at e
    obtain ⟨ms, e1, rfl⟩ := e
    simp [Reps.bools h3 e1]
  | .non :: _, _, _, _, e | .int _ :: _, _, _, _, e | .str _ :: _, _, _, _, e | .tup _ :: _, _, _, _, e | .lst _ :: _, _, _, _, e | .obj _ _ :: _, _, _, _, e | .fn _ :: _, _, _, _, e | .dic :: _, _, _, _, e | .ro _ :: _, _, _, _, e => by simp [boolsD] at e

/-! ## an owned list -/
def LstAt (G : Gb) (F H : Hp) (ds : List D) (a : Addr) : Prop := ∃ vs, H a = some (.lst vs) ∧ F a = none ∧ Reps G F ds vs
def BldAt (G : Gb) (F H : Hp) (c : Nat) (ds : List D) (a : Addr) : Prop :=
  ∃ dx vs, H a = some (.ins (G.cls c) dx ((clsF G.P c).zip vs)) ∧ vs.length ≤ (clsF G.P c).length ∧ F a = none ∧ Reps G F ds vs
def Cell.own : Cell → Bool
  | .un => false
  | .sh _ => false
  | _ => true
def CellOk (G : Gb) (F H : Hp) (s : Option (Option V)) : Cell → Prop
  | .un => True
  | .sh d => ∃ v, s = some (some v) ∧ Rep G F d v
  | .ow ds => ∃ a, s = some (some (.ref a)) ∧ LstAt G F H ds a
  | .lk ds => ∃ a, s = some (some (.ref a)) ∧ LstAt G F H ds a
  | .io ds => ∃ a, s = some (some (.ref a)) ∧ LstAt G F H ds a
  | .bld c ds => ∃ a, s = some (some (.ref a)) ∧ BldAt G F H c ds a
/-- a configuration: what is frozen, the slots, the heap, the cells -/
structure Cf where
  F : Hp
  σ : Sg
  H : Hp
  e : En
def Cf.W (c : Cf) (a : Addr) : Prop := ∃ (i : Nat) (x : Cell), c.e[i]? = some x ∧ x.own = true ∧ c.σ[i]? = some (some (.ref a))
structure Sim (G : Gb) (c : Cf) : Prop where
  len : c.e.length = c.σ.length
  sub : Same c.F c.H
  cell : ∀ (i : Nat) (x : Cell), c.e[i]? = some x → CellOk G c.F c.H c.σ[i]? x
  inj : ∀ (i j : Nat) (x y : Cell) (a : Addr), c.e[i]? = some x → c.e[j]? = some y → x.own = true → y.own = true → c.σ[i]? = some (some (.ref a)) → c.σ[j]? = some (some (.ref a)) → i = j
structure Step (G : Gb) (c d : Cf) : Prop where
  f : Same c.F d.F
  frame : ∀ b o, c.H b = some o → ¬ c.W b → d.H b = some o
  new : ∀ b, c.F b = none → d.F b ≠ none → c.H b = none ∨ c.W b
  dom : ∀ b, c.H b ≠ none → d.H b ≠ none
  w : ∀ b, d.W b → c.W b ∨ c.H b = none
  lk : ∀ (i : Nat) (ds : List D) (v : V), c.e[i]? = some (.lk ds) → c.σ[i]? = some (some v) → (d.e[i]? = some (.lk ds) ∧ d.σ[i]? = some (some v)) ∨ Rep G d.F (.lst ds) v
  io : ∀ (i : Nat) (x : Cell) (t : Option Nat), d.e[i]? = some x → x.tag = some t → ∃ y : Cell, c.e[i]? = some y ∧ y.tag = some t ∧ d.σ[i]? = c.σ[i]?
theorem Step.rfl' {c : Cf} : Step G c c := ⟨fun _ _ h => h, fun _ _ h _ => h, fun _ h h' => absurd h h', fun _ h => h, fun _ h => .inl h, fun _ _ _ h k => .inl ⟨h, k⟩, fun _ x _ h k => ⟨x, h, k, rfl⟩⟩
theorem Step.trans {a b c : Cf} (s : Step G a b) (t : Step G b c) : Step G a c where
  f := s.f.trans t.f
  frame := fun x o h n => t.frame x o (s.frame x o h n) fun w => (s.w x w).elim n fun z => by rw [h] at z; cases z
  new := fun x h h' => by
    by_cases q : b.F x = none
    · rcases t.new x q h' with z | z
      · left
        cases r : a.H x with
        | none => rfl
        | some o => exact absurd z (s.dom x (by rw [r]; simp))
      · rcases s.w x z with z | z
        · exact .inr z
        · exact .inl z
    · exact s.new x h q
  dom := fun x h => t.dom x (s.dom x h)
  w := fun x h => by
    rcases t.w x h with z | z
    · exact s.w x z
    · right
      cases r : a.H x with
      | none => rfl
      | some o => exact absurd z (s.dom x (by rw [r]; simp))
  lk := fun i ds v h k => by
    rcases s.lk i ds v h k with ⟨q1, q2⟩ | q
    · exact t.lk i ds v q1 q2
    · exact .inr (Rep.mono t.f q)
  io := fun i x tg h k => by
    obtain ⟨y, h1, h2, h3⟩ := t.io i x tg h k
    obtain ⟨z, k1, k2, k3⟩ := s.io i y tg h1 h2
    exact ⟨z, k1, k2, h3.trans k3⟩
/-- a value: shared data; a new list of nobody's; what the slot i holds -/
def VRel (G : Gb) (H0 : Hp) (c : Cf) (v : V) : Vl → Prop
  | .sh d => Rep G c.F d v
  | .ow ds => ∃ a, v = .ref a ∧ LstAt G c.F c.H ds a ∧ ¬ c.W a ∧ H0 a = none
  | .sl i => c.σ[i]? = some (some v)
theorem VRel.step {H0 : Hp} {c d : Cf} {v : V} {x : Vl} (s : Step G c d) (e : d.σ = c.σ) (h : VRel G H0 c v x) : VRel G H0 d v x := by
  cases x with
  | sh y => exact Rep.mono s.f h
  | ow ds =>
    obtain ⟨a, h1, ⟨vs, h2, h3, h4⟩, h5, h6⟩ := h
    have hn : c.H a ≠ none := by rw [h2]; simp
    refine ⟨a, h1, ⟨vs, s.frame _ _ h2 h5, ?_, h4.mono s.f⟩, fun w => (s.w a w).elim h5 hn, h6⟩
    cases q : d.F a with
    | none => rfl
    | some o => exact ((s.new a h3 (by rw [q]; simp)).elim hn h5).elim
  | sl i =>
    show d.σ[i]? = _
    rw [e]
    exact h
theorem VRel.imp {H0 H1 : Hp} {c : Cf} {v : V} {x : Vl} (k : ∀ a, H1 a = none → H0 a = none) (h : VRel G H1 c v x) : VRel G H0 c v x := by
  cases x with
  | ow ds =>
    obtain ⟨a, h1, h2, h5, h6⟩ := h
    exact ⟨a, h1, h2, h5, k a h6⟩
  | _ => exact h
theorem Step.back {c d : Cf} (s : Step G c d) : ∀ a, d.H a = none → c.H a = none := fun a h => by
  cases q : c.H a with
  | none => rfl
  | some o => exact absurd h (s.dom a (by rw [q]; simp))

/-! ## steps of the heap alone -/
structure StepV (F H F' H' : Hp) : Prop where
  f : Same F F'
  sub : Same F' H'
  h : Same H H'
  new : ∀ b, F b = none → F' b ≠ none → H b = none
theorem StepV.rfl' (h : Same F H) : StepV F H F H := ⟨fun _ _ h => h, h, fun _ _ h => h, fun _ h h' => absurd h h'⟩
theorem StepV.step {σ : Sg} {e : En} (s : StepV F H F' H') : Step G ⟨F, σ, H, e⟩ ⟨F', σ, H', e⟩ where
  f := s.f
  frame := fun b o h _ => s.h b o h
  new := fun b h h' => .inl (s.new b h h')
  dom := fun b h => by
    show H' b ≠ none
    have h : H b ≠ none := h
    cases q : H b with
    | none => exact absurd q h
    | some o => rw [s.h b o q]; simp
  w := fun b h => .inl h
  lk := fun _ _ _ h k => .inl ⟨h, k⟩
  io := fun _ x _ h k => ⟨x, h, k, rfl⟩
theorem StepV.sim {σ : Sg} {e : En} (s : StepV F H F' H') (S : Sim G ⟨F, σ, H, e⟩) : Sim G ⟨F', σ, H', e⟩ where
  len := S.len
  sub := s.sub
  cell := fun i x h => by
    have k := S.cell i x h
    have la : ∀ ds a, LstAt G F H ds a → LstAt G F' H' ds a := fun ds a ⟨vs, h1, h2, h3⟩ => by
      refine ⟨vs, s.h _ _ h1, ?_, h3.mono s.f⟩
      cases q : F' a with
      | none => rfl
      | some o =>
        have z := s.new a h2 (by rw [q]; simp)
        rw [h1] at z; cases z
    cases x with
    | un => trivial
    | sh d =>
      obtain ⟨v, h1, h2⟩ := k
      exact ⟨v, h1, Rep.mono s.f h2⟩
    | ow ds =>
      obtain ⟨a, h1, h2⟩ := k
      exact ⟨a, h1, la _ _ h2⟩
    | lk ds =>
      obtain ⟨a, h1, h2⟩ := k
      exact ⟨a, h1, la _ _ h2⟩
    | io ds =>
      obtain ⟨a, h1, h2⟩ := k
      exact ⟨a, h1, la _ _ h2⟩
    | bld c ds =>
      obtain ⟨a, h1, dx, vs, h2, h3, h4, h5⟩ := k
      refine ⟨a, h1, dx, vs, s.h _ _ h2, h3, ?_, h5.mono s.f⟩
      show F' a = none
      cases q : F' a with
      | none => rfl
      | some o =>
        have z := s.new a h4 (by rw [q]; simp)
        have h2 : H a = _ := h2
        rw [h2] at z; cases z
  inj := S.inj
theorem Sim.wh {c : Cf} (S : Sim G c) {a : Addr} (w : c.W a) : c.H a ≠ none ∧ c.F a = none := by
  obtain ⟨i, x, h1, h2, h3⟩ := w
  have k := S.cell i x h1
  cases x with
  | un => cases h2
  | sh d => cases h2
  | ow ds =>
    obtain ⟨b, e, vs, q1, q2, _⟩ := k
    rw [h3] at e; cases e
    exact ⟨by rw [q1]; simp, q2⟩
  | lk ds =>
    obtain ⟨b, e, vs, q1, q2, _⟩ := k
    rw [h3] at e; cases e
    exact ⟨by rw [q1]; simp, q2⟩
  | io ds =>
    obtain ⟨b, e, vs, q1, q2, _⟩ := k
    rw [h3] at e; cases e
    exact ⟨by rw [q1]; simp, q2⟩
  | bld c ds =>
    obtain ⟨b, e, dx, vs, q1, _, q2, _⟩ := k
    rw [h3] at e; cases e
    exact ⟨by rw [q1]; simp, q2⟩
/-- a new shared object -/
theorem StepV.new1 {p : Addr} {o : HO} (S : Same F H) (hp : H p = none) : StepV F H (upd F p o) (upd H p o) where
  f := fun b u h => by
    have : b ≠ p := fun z => by rw [z] at h; rw [S p u h] at hp; cases hp
    rw [upd_ne this]; exact h
  sub := fun b u h => by
    by_cases z : b = p
    · subst z; rw [upd_same] at h ⊢; exact h
    · rw [upd_ne z] at h ⊢; exact S b u h
  h := fun b u h => by
    have : b ≠ p := fun z => by rw [z, hp] at h; cases h
    rw [upd_ne this]; exact h
  new := fun b h h' => by
    by_cases z : b = p
    · rw [z]; exact hp
    · rw [upd_ne z] at h'; exact absurd h h'
/-- a new list of nobody's -/
theorem StepV.new0 {p : Addr} {o : HO} (S : Same F H) (hp : H p = none) : StepV F H F (upd H p o) where
  f := fun _ _ h => h
  sub := fun b u h => by
    have q := S b u h
    have : b ≠ p := fun z => by rw [z, hp] at q; cases q
    rw [upd_ne this]; exact q
  h := fun b u h => by
    have : b ≠ p := fun z => by rw [z, hp] at h; cases h
    rw [upd_ne this]; exact h
  new := fun b h h' => absurd h h'
theorem StepV.trans {F2 H2 : Hp} (s : StepV F H F' H') (t : StepV F' H' F2 H2) : StepV F H F2 H2 where
  f := s.f.trans t.f
  sub := t.sub
  h := s.h.trans t.h
  new := fun b h h' => by
    by_cases q : F' b = none
    · exact s.h.free (t.new b q h')
    · exact s.new b h q
/-- a list of nobody's is frozen -/
theorem StepV.freeze {p : Addr} {vs : List V} (S : Same F H) (hp : H p = some (.lst vs)) : Same (upd F p (.lst vs)) H := fun b u h => by
  by_cases z : b = p
  · subst z; rw [upd_same] at h; rw [← h]; exact hp
  · rw [upd_ne z] at h; exact S b u h
end
end PV
set_option Elab.async false
set_option linter.all false
set_option maxRecDepth 100000
namespace PV
open PySem PySem.Spec PyProof.Rows L2
/-! ## what is wanted -/
theorem upd_none {F : Hp} {a b : Addr} {o : HO} (h : b ≠ a) (q : F b = none) : upd F a o b = none := by rw [upd_ne h]; exact q
def flat : D → V → Prop
  | .int i, v => v = .int i
  | .str s, v => v = .str s
  | _, _ => False
structure XAt (G : Gb) (x : Exn) (cls : Value) (d : Option Addr) (H : Hp) : Prop where
  ex : ∃ E, G.P.exs[x.c]? = some E
  cls : cls = .ref (G.exc x.c)
  arg : ∀ a, x.arg = some a → ∃ dd v, d = some dd ∧ H dd = some (.xd [(G.exf x.c, v)]) ∧ flat a v
def VrRel (G : Gb) (H F' H' : Hp) (v : V) : Vr → Prop
  | .sh d => Rep G F' d v
  | .ow ds => ∃ a, v = .ref a ∧ LstAt G F' H' ds a ∧ H a = none
def PostE (G : Gb) (W : XK) (c : Cf) (Q : VK) : R (Vl × En) → Prop
  | .ok (vl, e') => ∀ v F' H', Step G c ⟨F', c.σ, H', e'⟩ → Sim G ⟨F', c.σ, H', e'⟩ → VRel G c.H ⟨F', c.σ, H', e'⟩ v vl → Q v H'
  | .exc x => ∀ cls d H', (∀ b o, c.H b = some o → ¬ c.W b → H' b = some o) → XAt G x cls d H' → W cls d H'
  | .stuck => False
def PostV (G : Gb) (W : XK) (F H : Hp) (Q : VK) : R Vr → Prop
  | .ok r => ∀ v F' H', StepV F H F' H' → VrRel G H F' H' v r → Q v H'
  | .exc x => ∀ cls d H', Same H H' → XAt G x cls d H' → W cls d H'
  | .stuck => False
def tE (G : Gb) (W : XK) (m : En → R (Vl × En)) : TE := fun σ H Q => ∃ F e, Sim G ⟨F, σ, H, e⟩ ∧ PostE G W ⟨F, σ, H, e⟩ Q (m e)
/-- a value that is looked at -/
def Rd2 (G : Gb) (F H : Hp) (d : D) (v : V) : Prop := Rep G F d v ∨ ∃ ds a, d = .lst ds ∧ v = .ref a ∧ LstAt G F H ds a

section
variable {G : Gb} {W : XK} {c c1 : Cf} {Q Q' : VK} {F F' H H' : Hp}
theorem PostE.next {r : R (Vl × En)} (h : PostE G W c Q r) (s : Step G c c1) (e : c1.σ = c.σ) : PostE G W c1 Q r := by
  cases r with
  | ok p =>
    obtain ⟨vl, e'⟩ := p
    intro v F' H' st S r
    rw [e] at st S r
    exact h v F' H' (s.trans st) S (r.imp s.back)
  | exc x =>
    intro cls d H' fr xa
    exact h cls d H' (fun b o hb hw => fr b o (s.frame b o hb hw) fun w => (s.w b w).elim hw fun z => by rw [hb] at z; cases z) xa
  | stuck => exact h
theorem PostE.bind {m : R (Vl × En)} {k : Vl → En → R (Vl × En)} (h : PostE G W c Q (bnd m k))
    (hk : ∀ vl e' v F' H', Step G c ⟨F', c.σ, H', e'⟩ → Sim G ⟨F', c.σ, H', e'⟩ → VRel G c.H ⟨F', c.σ, H', e'⟩ v vl → PostE G W c Q (k vl e') → Q' v H') : PostE G W c Q' m := by
  cases m with
  | ok p =>
    obtain ⟨vl, e'⟩ := p
    intro v F' H' st S r
    exact hk vl e' v F' H' st S r h
  | exc x => exact h
  | stuck => exact h
/-- what a value step gives -/
theorem PostE.lift {m : R Vr} (S : Sim G c) (h : PostE G W c Q (lift (m.map vr) c.e)) : PostV G W c.F c.H Q m := by
  cases m with
  | ok r =>
    intro v F' H' st hv
    refine h v F' H' st.step (st.sim S) ?_
    cases r with
    | sh d => exact hv
    | ow ds =>
      obtain ⟨a, h1, h2, h3⟩ := hv
      refine ⟨a, h1, h2, fun w => ?_, h3⟩
      have w : c.W a := w
      exact (S.wh w).1 h3
  | exc x => exact fun cls d H' s xa => h cls d H' (fun b o hb _ => s b o hb) xa
  | stuck => exact h
theorem PostV.sh {m : R D} (h : PostV G W F H Q (m.map Vr.sh)) : match m with
    | .ok d => ∀ v F' H', StepV F H F' H' → Rep G F' d v → Q v H'
    | .exc x => ∀ cls d H', Same H H' → XAt G x cls d H' → W cls d H'
    | .stuck => False := by
  cases m <;> exact h
theorem lift_sh {m : R D} {e : En} : lift (m.map Vl.sh) e = PV.lift ((m.map Vr.sh).map vr) e := by
  cases m <;> rfl
theorem lift_bl {m : R Bool} {e : En} : lift (m.map fun b => Vl.sh (.bl b)) e = PV.lift ((m.map fun b => Vr.sh (.bl b)).map vr) e := by
  cases m <;> rfl
theorem PostE.sh {d : D} {v : V} (S : Sim G c) (r : Rep G c.F d v) (h : PostE G W c Q (.ok (.sh d, c.e))) : Q v c.H := h v c.F c.H Step.rfl' S r
theorem Sim.freeze {e : En} {σ : Sg} {a : Addr} {vs : List V} (S : Sim G ⟨F, σ, H, e⟩) (h1 : H a = some (.lst vs)) (h2 : F a = none) (h3 : ¬ Cf.W ⟨F, σ, H, e⟩ a) : Sim G ⟨upd F a (.lst vs), σ, H, e⟩ where
  len := S.len
  sub := StepV.freeze S.sub h1
  cell := fun i x h => by
    have k := S.cell i x h
    have sm : Same F (upd F a (.lst vs)) := fun b u hb => by
      have : b ≠ a := fun z => by rw [z, h2] at hb; cases hb
      rw [upd_ne this]; exact hb
    have la : ∀ ds b, x.own = true → σ[i]? = some (some (.ref b)) → LstAt G F H ds b → LstAt G (upd F a (.lst vs)) H ds b := fun ds b ho hs ⟨ws, q1, q2, q3⟩ => by
      have : b ≠ a := fun z => h3 ⟨i, x, h, ho, by rw [← z]; exact hs⟩
      exact ⟨ws, q1, by rw [upd_ne this]; exact q2, q3.mono sm⟩
    cases x with
    | un => trivial
    | sh d =>
      obtain ⟨v, q1, q2⟩ := k
      exact ⟨v, q1, Rep.mono sm q2⟩
    | ow ds =>
      obtain ⟨b, q1, q2⟩ := k
      exact ⟨b, q1, la _ _ rfl q1 q2⟩
    | lk ds =>
      obtain ⟨b, q1, q2⟩ := k
      exact ⟨b, q1, la _ _ rfl q1 q2⟩
    | io ds =>
      obtain ⟨b, q1, q2⟩ := k
      exact ⟨b, q1, la _ _ rfl q1 q2⟩
    | bld c ds =>
      obtain ⟨b, q1, dx, ws, q2, q3, q4, q5⟩ := k
      have : b ≠ a := fun z => h3 ⟨i, _, h, rfl, by rw [← z]; exact q1⟩
      refine ⟨b, q1, dx, ws, q2, q3, ?_, q5.mono sm⟩
      show upd F a (.lst vs) b = none
      rw [upd_ne this]; exact q4
  inj := S.inj
theorem Step.freeze {e : En} {σ : Sg} {a : Addr} {vs : List V} {H0 : Hp} (h1 : H a = some (.lst vs)) (h2 : F a = none) (h0 : H0 a = none) {c0 : Cf} (s : Step G c0 ⟨F, σ, H, e⟩) (e0 : c0.H = H0) : Step G c0 ⟨upd F a (.lst vs), σ, H, e⟩ where
  f := fun b u hb => by
    have hb' : F b = some u := s.f b u hb
    have : b ≠ a := fun z => by rw [z, h2] at hb'; cases hb'
    show upd F a (.lst vs) b = some u
    rw [upd_ne this]; exact hb'
  frame := s.frame
  new := fun b h h' => by
    by_cases z : b = a
    · left; rw [e0, z]; exact h0
    · refine s.new b h ?_
      have h' : upd F a (.lst vs) b ≠ none := h'
      rw [upd_ne z] at h'; exact h'
  dom := s.dom
  w := s.w
  lk := fun i ds v h k => by
    rcases s.lk i ds v h k with q | q
    · exact .inl q
    · refine .inr (Rep.mono (fun b u hb => ?_) q)
      have hb : F b = some u := hb
      have : b ≠ a := fun z => by rw [z, h2] at hb; cases hb
      show upd F a (.lst vs) b = some u
      rw [upd_ne this]; exact hb
  io := s.io
/-- a temporary is kept while others are reckoned: it is frozen -/
theorem hold_ok {e : En} {σ : Sg} {v : V} {vl : Vl} {c0 : Cf} (st : Step G c0 ⟨F, σ, H, e⟩) (S : Sim G ⟨F, σ, H, e⟩) (r : VRel G c0.H ⟨F, σ, H, e⟩ v vl) :
    ∃ F', Step G c0 ⟨F', σ, H, e⟩ ∧ Sim G ⟨F', σ, H, e⟩ ∧ VRel G c0.H ⟨F', σ, H, e⟩ v (hold vl) := by
  cases vl with
  | sh d => exact ⟨F, st, S, r⟩
  | sl i => exact ⟨F, st, S, r⟩
  | ow ds =>
    obtain ⟨a, rfl, ⟨vs, q1, q2, q3⟩, q4, q5⟩ := r
    refine ⟨upd F a (.lst vs), Step.freeze q1 q2 q5 st rfl, S.freeze q1 q2 q4, ?_⟩
    have sm : Same F (upd F a (.lst vs)) := fun b u hb => by
      have : b ≠ a := fun z => by
        have q2 : F a = none := q2
        rw [z, q2] at hb; cases hb
      rw [upd_ne this]; exact hb
    show Rep G (upd F a (.lst vs)) (.lst ds) (.ref a)
    simp only [Rep]
    exact ⟨a, vs, rfl, upd_same, q3.mono sm⟩
/-- a held value is looked at -/
theorem pk_ok {e : En} {σ : Sg} {v : V} {vl : Vl} {H0 : Hp} {α : Type} {k : D → En → R (α × En)} {Post : R (α × En) → Prop} (hs : ¬ Post .stuck) (S : Sim G ⟨F, σ, H, e⟩) (r : VRel G H0 ⟨F, σ, H, e⟩ v vl) (h : Post (bnd (pk vl e) k)) :
    ∃ d, Rd2 G F H d v ∧ Post (k d e) := by
  cases vl with
  | sh d => exact ⟨d, .inl r, h⟩
  | ow ds =>
    obtain ⟨a, rfl, q, _⟩ := r
    exact ⟨.lst ds, .inr ⟨ds, a, rfl, rfl, q⟩, h⟩
  | sl i =>
    have r : σ[i]? = some (some v) := r
    unfold pk peek at h
    cases hx : e[i]? with
    | none => simp only [hx] at h; exact (hs h).elim
    | some x =>
      have k0 := S.cell i x hx
      cases x with
      | un => simp only [hx] at h; exact (hs h).elim
      | bld c ds => simp only [hx] at h; exact (hs h).elim
      | sh d =>
        simp only [hx] at h
        obtain ⟨v', q1, q2⟩ := k0
        have q1 : σ[i]? = some (some v') := q1
        rw [r] at q1; cases q1
        exact ⟨d, .inl q2, h⟩
      | ow ds =>
        simp only [hx] at h
        obtain ⟨a, q1, q2⟩ := k0
        have q1 : σ[i]? = some (some (.ref a)) := q1
        rw [r] at q1; cases q1
        exact ⟨.lst ds, .inr ⟨ds, a, rfl, rfl, q2⟩, h⟩
      | lk ds =>
        simp only [hx] at h
        obtain ⟨a, q1, q2⟩ := k0
        have q1 : σ[i]? = some (some (.ref a)) := q1
        rw [r] at q1; cases q1
        exact ⟨.lst ds, .inr ⟨ds, a, rfl, rfl, q2⟩, h⟩
      | io ds =>
        simp only [hx] at h
        obtain ⟨a, q1, q2⟩ := k0
        have q1 : σ[i]? = some (some (.ref a)) := q1
        rw [r] at q1; cases q1
        exact ⟨.lst ds, .inr ⟨ds, a, rfl, rfl, q2⟩, h⟩
theorem PostE.no (h : PostE G W c Q .stuck) : False := h
/-- a held value stays -/
theorem hold_mono {e e' : En} {σ : Sg} {v : V} {vl : Vl} {H0 H1 : Hp} (sm : Same F F') (h : VRel G H0 ⟨F, σ, H, e⟩ v (hold vl)) : VRel G H1 ⟨F', σ, H', e'⟩ v (hold vl) := by
  cases vl with
  | sh d => exact Rep.mono sm h
  | sl i => exact h
  | ow ds => exact Rep.mono sm h
/-- a value goes away: it is shared from here on -/
theorem esc_ok {e : En} {σ : Sg} {v : V} {vl : Vl} {c0 : Cf} {α : Type} {k : D → En → R (α × En)} {Post : R (α × En) → Prop} (hs : ¬ Post .stuck) (st : Step G c0 ⟨F, σ, H, e⟩) (S : Sim G ⟨F, σ, H, e⟩) (r : VRel G c0.H ⟨F, σ, H, e⟩ v vl) (h : Post (bnd (esc vl e) k)) :
    ∃ d F' e', Step G c0 ⟨F', σ, H, e'⟩ ∧ Same F F' ∧ Sim G ⟨F', σ, H, e'⟩ ∧ Rep G F' d v ∧ Post (k d e') := by
  have slot : ∀ i ds a, vl = .sl i → (e[i]? = some (.ow ds) ∨ e[i]? = some (.lk ds)) → σ[i]? = some (some (.ref a)) → LstAt G F H ds a → Post (k (.lst ds) (e.set i (.sh (.lst ds)))) →
      ∃ d F' e', Step G c0 ⟨F', σ, H, e'⟩ ∧ Same F F' ∧ Sim G ⟨F', σ, H, e'⟩ ∧ Rep G F' d v ∧ Post (k d e') := by
    intro i ds a ev hx hσ ⟨vs, q1, q2, q3⟩ hp
    subst ev
    have r : σ[i]? = some (some v) := r
    rw [hσ] at r; cases r
    have hx0 := hx
    obtain ⟨x, hx, ho⟩ : ∃ x : Cell, e[i]? = some x ∧ x.own = true := by
      rcases hx with z | z
      · exact ⟨_, z, rfl⟩
      · exact ⟨_, z, rfl⟩
    have sm : Same F (upd F a (.lst vs)) := fun b u hb => by
      have : b ≠ a := fun z => by rw [z, q2] at hb; cases hb
      rw [upd_ne this]; exact hb
    have rp : Rep G (upd F a (.lst vs)) (.lst ds) (.ref a) := by
      simp only [Rep]
      exact ⟨a, vs, rfl, upd_same, q3.mono sm⟩
    have hi : i < e.length := (List.getElem?_eq_some_iff.mp hx).1
    have get : ∀ j, j ≠ i → (e.set i (.sh (.lst ds)))[j]? = e[j]? := fun j hj => List.getElem?_set_ne (Ne.symm hj)
    have wa : Cf.W ⟨F, σ, H, e⟩ a := ⟨i, x, hx, ho, hσ⟩
    refine ⟨.lst ds, upd F a (.lst vs), e.set i (.sh (.lst ds)), ?_, sm, ?_, rp, hp⟩
    · refine st.trans ⟨sm, fun b o hb _ => hb, fun b hb hb' => ?_, fun b hb => hb, fun b hb => ?_, fun j es v hj hv => ?_, fun j y tg hy ht => ?_⟩
      · right
        by_cases z : b = a
        · rw [z]; exact wa
        · have hb' : upd F a (.lst vs) b ≠ none := hb'
          rw [upd_ne z] at hb'; exact absurd hb hb'
      · obtain ⟨j, y, h1, h2, h3⟩ := hb
        left
        by_cases z : j = i
        · subst z
          have h1 : (e.set j (.sh (.lst ds)))[j]? = some y := h1
          rw [List.getElem?_set_self hi] at h1
          cases h1; cases h2
        · exact ⟨j, y, by rw [← get j z]; exact h1, h2, h3⟩
      · by_cases z : j = i
        · right
          subst z
          have hj : e[j]? = some (.lk es) := hj
          have hv : σ[j]? = some (some v) := hv
          rw [hσ] at hv; cases hv
          rcases hx0 with q | q
          · rw [hj] at q; cases q
          · rw [hj] at q; cases q; exact rp
        · left
          exact ⟨by rw [show (Cf.mk (upd F a (.lst vs)) σ H (e.set i (.sh (.lst ds)))).e[j]? = (e.set i (.sh (.lst ds)))[j]? from rfl, get j z]; exact hj, hv⟩
      · have hy : (e.set i (.sh (.lst ds)))[j]? = some y := hy
        by_cases z : j = i
        · subst z
          rw [List.getElem?_set_self hi] at hy
          cases hy; cases ht
        · rw [get j z] at hy
          exact ⟨y, hy, ht, rfl⟩
    · refine ⟨by simpa using S.len, StepV.freeze S.sub q1, fun j y hy => ?_, fun j1 j2 y1 y2 b h1 h2 o1 o2 s1 s2 => ?_⟩
      · by_cases z : j = i
        · subst z
          have hy : (e.set j (.sh (.lst ds)))[j]? = some y := hy
          rw [List.getElem?_set_self hi] at hy
          cases hy
          exact ⟨_, hσ, rp⟩
        · have hy : (e.set i (.sh (.lst ds)))[j]? = some y := hy
          rw [get j z] at hy
          have k0 := S.cell j y hy
          have la : ∀ (b : Addr), y.own = true → σ[j]? = some (some (.ref b)) → b ≠ a := fun b hy' hb ee => z (S.inj j i y x a hy hx hy' ho (by rw [← ee]; exact hb) hσ)
          cases y with
          | un => trivial
          | sh d =>
            obtain ⟨u, z1, z2⟩ := k0
            exact ⟨u, z1, Rep.mono sm z2⟩
          | ow es =>
            obtain ⟨b, z1, ws, z2, z3, z4⟩ := k0
            exact ⟨b, z1, ws, z2, upd_none (la b rfl z1) z3, z4.mono sm⟩
          | lk es =>
            obtain ⟨b, z1, ws, z2, z3, z4⟩ := k0
            exact ⟨b, z1, ws, z2, upd_none (la b rfl z1) z3, z4.mono sm⟩
          | io es =>
            obtain ⟨b, z1, ws, z2, z3, z4⟩ := k0
            exact ⟨b, z1, ws, z2, upd_none (la b rfl z1) z3, z4.mono sm⟩
          | bld c es =>
            obtain ⟨b, z1, dx, ws, z2, z3, z4, z5⟩ := k0
            exact ⟨b, z1, dx, ws, z2, z3, by
              show upd F a (.lst vs) b = none
              rw [upd_ne (la b rfl z1)]; exact z4, z5.mono sm⟩
      · have n1 : j1 ≠ i := fun z => by
          subst z
          have h1 : (e.set j1 (.sh (.lst ds)))[j1]? = some y1 := h1
          rw [List.getElem?_set_self hi] at h1
          cases h1; cases o1
        have n2 : j2 ≠ i := fun z => by
          subst z
          have h2 : (e.set j2 (.sh (.lst ds)))[j2]? = some y2 := h2
          rw [List.getElem?_set_self hi] at h2
          cases h2; cases o2
        exact S.inj j1 j2 y1 y2 b (by rw [← get j1 n1]; exact h1) (by rw [← get j2 n2]; exact h2) o1 o2 s1 s2
  cases vl with
  | sh d => exact ⟨d, F, e, st, fun _ _ h => h, S, r, h⟩
  | ow ds =>
    obtain ⟨a, rfl, ⟨vs, q1, q2, q3⟩, q4, q5⟩ := r
    have sm : Same F (upd F a (.lst vs)) := fun b u hb => by
      have : b ≠ a := fun z => by
        have q2 : F a = none := q2
        rw [z, q2] at hb; cases hb
      rw [upd_ne this]; exact hb
    refine ⟨.lst ds, upd F a (.lst vs), e, Step.freeze q1 q2 q5 st rfl, sm, S.freeze q1 q2 q4, ?_, h⟩
    simp only [Rep]
    exact ⟨a, vs, rfl, upd_same, q3.mono sm⟩
  | sl i =>
    have r : σ[i]? = some (some v) := r
    unfold esc at h
    cases hx : e[i]? with
    | none => simp only [hx] at h; exact (hs h).elim
    | some x =>
      have k0 := S.cell i x hx
      cases x with
      | un => simp only [hx] at h; exact (hs h).elim
      | bld c ds => simp only [hx] at h; exact (hs h).elim
      | io ds => simp only [hx] at h; exact (hs h).elim
      | sh d =>
        simp only [hx] at h
        obtain ⟨v', q1, q2⟩ := k0
        have q1 : σ[i]? = some (some v') := q1
        rw [r] at q1; cases q1
        exact ⟨d, F, e, st, fun _ _ h => h, S, q2, h⟩
      | ow ds =>
        simp only [hx] at h
        obtain ⟨a, q1, q2⟩ := k0
        exact slot i ds a rfl (.inl hx) q1 q2 h
      | lk ds =>
        simp only [hx] at h
        obtain ⟨a, q1, q2⟩ := k0
        exact slot i ds a rfl (.inr hx) q1 q2 h
end
end PV
set_option Elab.async false
set_option linter.all false
set_option maxRecDepth 100000
set_option maxHeartbeats 4000000
namespace PV
open PySem PySem.Spec PyProof.Rows L2
/-! ## tuple * int: the same tuple, the empty one -/
theorem tupMul_same (a : Addr) (its : Array Value) (m : Nat) (od : Option Addr) (os : Array (Option Value)) (j : Int) (w : Tok) (k0 : (decide (j < -(2 ^ 63)) || decide (j ≥ 2 ^ 63)) = false) (k1 : (its.isEmpty || j == 1) = true) :
    Meets (Builtin.«tuple.__mul__» ⟨[.ref a, .int j w], []⟩) (fun _ R s => s.heap.get? a = some { cls := .type "tuple", dict := od, data := .seq its m, slots := os } ∧ R (.ok (.ret (Value.ref a))) s) :=
  .of_wp fun prog w A R s q => by
    obtain ⟨hp, g, d, tk, os⟩ := s
    obtain ⟨hl, q⟩ := q
    have f1 := AutoSeq1.idx_int
    wp_walk using wpAny_loadPart' hl
    repeat (first
      | (refine wpAny_ite_false (decide_eq_false (by rw [k0]; exact Bool.false_ne_true)) ?_; wp_walk using wpAny_loadPart' hl)
      | (refine wpAny_ite_true (decide_eq_true (by rw [k1])) ?_; wp_walk using wpAny_loadPart' hl)
      | (refine wpAny_ite_true (by rw [k1]; rfl) ?_; wp_walk using wpAny_loadPart' hl))
    exact ⟨_, rfl, q⟩
theorem tupMul_none (a : Addr) (its : Array Value) (m : Nat) (od : Option Addr) (os : Array (Option Value)) (j : Int) (w : Tok) (k0 : (decide (j < -(2 ^ 63)) || decide (j ≥ 2 ^ 63)) = false) (k1 : (its.isEmpty || j == 1) = false) (k2 : (decide (j ≤ 0) || its.isEmpty) = true) :
    Meets (Builtin.«tuple.__mul__» ⟨[.ref a, .int j w], []⟩) (fun _ R s => s.heap.get? a = some { cls := .type "tuple", dict := od, data := .seq its m, slots := os } ∧
      R (.ok (.ret (Value.ref s.heap.objs.size))) { s with heap := s.heap.push { cls := Value.type "tuple", data := Data.seq #[] }, toks := s.toks }) :=
  .of_wp fun prog w A R s q => by
    obtain ⟨hp, g, d, tk, os⟩ := s
    obtain ⟨hl, q⟩ := q
    have f1 := AutoSeq1.idx_int
    have hsz : (#[] : Array Value).size ≤ sizeLine := by decide
    wp_walk using wpAny_loadPart' hl
    repeat (first
      | (refine wpAny_ite_false (decide_eq_false (by rw [k0]; exact Bool.false_ne_true)) ?_; wp_walk using wpAny_loadPart' hl)
      | (refine wpAny_ite_false (decide_eq_false (by rw [k1]; exact Bool.false_ne_true)) ?_; wp_walk using wpAny_loadPart' hl)
      | (refine wpAny_ite_true (decide_eq_true (by rw [k2])) ?_; wp_walk using wpAny_loadPart' hl)
      | (refine wpAny_ite_false (decide_eq_false (Nat.not_lt.mpr hsz)) ?_; wp_walk using wpAny_loadPart' hl))
    exact ⟨_, rfl, q⟩
def rMulT (K : PySem.W.Frag) : R2 := fun x y H Q => ∃ l k xs, x = .ref l ∧ y = .int k ∧ SqT K H l xs ∧ -1000000 < k ∧ k < 1000000 ∧ ((k = 1 ∨ xs = []) ∧ Q (.ref l) H ∨ k ≤ 0 ∧ xs ≠ [] ∧ ∀ p, H p = none → Q (.ref p) (upd H p (.tup [])))
section
variable {X : Cx}
theorem op_mulT : OpR X (binaryOp .Mult) (rMulT X.K) := by
  intro pins s σ H x y v u Q I rx ry q
  obtain ⟨a, j, xs, rfl, rfl, hT, j1, j2, q⟩ := q
  cases rx
  obtain ⟨w, rfl⟩ := ry
  obtain ⟨its, r, ⟨⟨cls, dd, data, sl⟩, ho, hc, n, hd⟩, hs⟩ := I.tuple hT
  simp only at hc hd
  subst hc hd
  have hle : its.length = xs.length := r.length.symm
  have k0 : (decide (j < -(2 ^ 63)) || decide (j ≥ 2 ^ 63)) = false := by
    rw [decide_eq_false (by omega), decide_eq_false (by omega)] <;> rfl
  refine wpAny_binaryOp_repeat_ref (T := "tuple") (U := "int") (by decide) ⟨_, ho, rfl⟩ (fun s' => typeIs_int s' j w) noFill_tuple_mul F.fills_int_mul F.slot_int_rmul repeat_tuple F.slot_int_index.lookup
    (call_meets F.slot_int_rmul (typeIs_int s j w) F.entry_int_rmul (F.args_int_rmul_2 _ _) (int_rmul_tuple j w a its.toArray n dd sl) ⟨ho, rfl, ⟨_, ho, rfl⟩, ?_⟩)
  rcases q with ⟨hj, q⟩ | ⟨hj, hne, q⟩
  · have k1 : (its.toArray.isEmpty || j == 1) = true := by
      rcases hj with rfl | rfl
      · simp
      · have : its = [] := List.eq_nil_of_length_eq_zero hle
        subst this
        rfl
    exact call_meets F.slot_tuple_mul ⟨_, ho, rfl⟩ F.entry_tuple_mul (F.args_tuple_mul_2 _ _) (tupMul_same a its.toArray n dd sl j w k0 k1) ⟨ho, .ref a, H, I, rfl, q⟩
  · have hi : its.toArray.isEmpty = false := by
      cases its with
      | nil => exact absurd (List.eq_nil_of_length_eq_zero hle.symm) hne
      | cons x y => rfl
    have k1 : (its.toArray.isEmpty || j == 1) = false := by
      rw [hi, Bool.false_or]
      exact beq_eq_false_iff_ne.mpr (by omega)
    have k2 : (decide (j ≤ 0) || its.toArray.isEmpty) = true := by
      rw [decide_eq_true hj]; rfl
    refine call_meets F.slot_tuple_mul ⟨_, ho, rfl⟩ F.entry_tuple_mul (F.args_tuple_mul_2 _ _) (tupMul_none a its.toArray n dd sl j w k0 k1 k2) ⟨ho, ?_⟩
    refine ⟨.ref s.heap.objs.size, _, I.laid (t' := s.toks) (o := .tup []) (fun b ob q => Heap.get?_push_of_some _ q) (Nat.le_refl _) ?_, rfl, q _ (I.hok.fresh (Nat.le_refl _))⟩
    exact ⟨by decide, _, .nil, IsTup.new _ _⟩
end
end PV
set_option Elab.async false
set_option linter.all false
set_option maxRecDepth 100000
namespace PV
open PySem PySem.Spec PyProof.Rows L2
theorem line16 {n : Nat} (h : n ≤ 16000000) : n ≤ sizeLine := Nat.le_trans h (by decide)
theorem line16' {n : Nat} (h : n < 16000000) : n < sizeLine := Nat.lt_of_lt_of_le h (by decide)
section
variable {G : Gb} {W : XK} {F H : Hp} {Q : VK}
def r2D (G : Gb) (W : XK) (m : D → D → R Vr) : R2 := fun x y H Q => ∃ F a b, Same F H ∧ Rd2 G F H a x ∧ Rd2 G F H b y ∧ PostV G W F H Q (m a b)
theorem PostV.now {d : D} {v : V} (S : Same F H) (h : PostV G W F H Q (.ok (.sh d))) (r : Rep G F d v) : Q v H := h v F H (StepV.rfl' S) r
theorem Rd2.int {i : Int} {v : V} (h : Rd2 G F H (.int i) v) : v = .int i := by
  rcases h with h | ⟨_, _, e, _⟩
  · simpa only [Rep] using h
  · cases e
theorem Rd2.str {i : Str} {v : V} (h : Rd2 G F H (.str i) v) : v = .str i := by
  rcases h with h | ⟨_, _, e, _⟩
  · simpa only [Rep] using h
  · cases e
theorem Rd2.bl {i : Bool} {v : V} (h : Rd2 G F H (.bl i) v) : v = .bl i := by
  rcases h with h | ⟨_, _, e, _⟩
  · simpa only [Rep] using h
  · cases e
theorem Rd2.non {v : V} (h : Rd2 G F H .non v) : v = .non := by
  rcases h with h | ⟨_, _, e, _⟩
  · simpa only [Rep] using h
  · cases e
theorem Rd2.tup {ds : List D} {v : V} (S : Same F H) (h : Rd2 G F H (.tup ds) v) : ∃ a vs, v = .ref a ∧ SqT G.K H a vs ∧ SqT G.K F a vs ∧ Reps G F ds vs := by
  rcases h with h | ⟨_, _, e, _⟩
  · simp only [Rep] at h
    obtain ⟨a, vs, h1, h2, h3⟩ := h
    exact ⟨a, vs, h1, sqT_same S h2, h2, h3⟩
  · cases e
theorem Rd2.ro {ds : List D} {v : V} (S : Same F H) (h : Rd2 G F H (.ro ds) v) : ∃ a vs, v = .ref a ∧ SqL G.K H a vs ∧ Reps G F ds vs := by
  rcases h with h | ⟨_, _, e, _⟩
  · simp only [Rep] at h
    obtain ⟨a, vs, h1, h2, h3⟩ := h
    exact ⟨a, vs, h1, S.seq h2, h3⟩
  · cases e
theorem Rd2.lst {ds : List D} {v : V} (S : Same F H) (h : Rd2 G F H (.lst ds) v) : ∃ a vs, v = .ref a ∧ H a = some (.lst vs) ∧ Reps G F ds vs := by
  rcases h with h | ⟨es, a, e, h1, vs, h2, _, h3⟩
  · simp only [Rep] at h
    obtain ⟨a, vs, h1, h2, h3⟩ := h
    exact ⟨a, vs, h1, S _ _ h2, h3⟩
  · cases e
    exact ⟨a, vs, h1, h2, h3⟩
theorem Rd2.obj {c : Nat} {ds : List D} {v : V} (h : Rd2 G F H (.obj c ds) v) : Rep G F (.obj c ds) v := by
  rcases h with h | ⟨_, _, e, _⟩
  · exact h
  · cases e
theorem Rep.rd {d : D} {v : V} (h : Rep G F d v) : Rd2 G F H d v := .inl h
/-- a new tuple -/
theorem PostV.tup {ds : List D} {vs : List V} {p : Addr} (S : Same F H) (hp : H p = none) (r : Reps G F ds vs) (h : PostV G W F H Q (.ok (.sh (.tup ds)))) : Q (.ref p) (upd H p (.tup vs)) := by
  have st : StepV F H (upd F p (.tup vs)) (upd H p (.tup vs)) := StepV.new1 S hp
  refine h (.ref p) _ _ st ?_
  show Rep G _ (.tup ds) (.ref p)
  simp only [Rep]
  exact ⟨p, vs, rfl, .inl (.inl upd_same), r.mono st.f⟩
/-- a new list of nobody's -/
theorem PostV.lst {ds : List D} {vs : List V} {p : Addr} (S : Same F H) (hp : H p = none) (r : Reps G F ds vs) (h : PostV G W F H Q (.ok (.ow ds))) : Q (.ref p) (upd H p (.lst vs)) := by
  have st : StepV F H F (upd H p (.lst vs)) := StepV.new0 S hp
  exact h (.ref p) _ _ st ⟨p, rfl, ⟨vs, upd_same, S.free hp, r⟩, hp⟩
theorem Rep.ofT {a : Addr} {ds : List D} {vs : List V} (h : SqT G.K F a vs) (r : Reps G F ds vs) : Rep G F (.tup ds) (.ref a) := by
  simp only [Rep]
  exact ⟨a, vs, rfl, h, r⟩
end
section
variable {G : Gb} {W : XK} {X : Cx} {cf : CF}
/-- what the own classes add to an operation -/
def OwnOp (G : Gb) (W : XK) (X : Cx) (f : Value → Value → Sem Value) (m : D → D → R Vr) : Prop :=
  OpR X f (fun x y H Q => ∃ F c i b, Same F H ∧ Rep G F (.obj c i) x ∧ Rd2 G F H b y ∧ PostV G W F H Q (m (.obj c i) b))
/-- == where not all is plain -/
def OwnEq (G : Gb) (W : XK) (X : Cx) (f : Value → Value → Sem Value) (m : D → D → R Vr) : Prop :=
  OpR X f (fun x y H Q => ∃ F a b, Same F H ∧ Rd2 G F H a x ∧ Rd2 G F H b y ∧ plainEq a b = none ∧ PostV G W F H Q (m a b))
theorem opr_add (hK : X.K = G.K) (own : OwnOp G W X (binaryOp .Add) (binD G.P cf .add)) : OpR X (binaryOp .Add) (r2D G W (binD G.P cf .add)) := by
  intro pins s σ H x y v u Q I rx ry ⟨F, a, b, S, ha, hb, h⟩
  cases a with
  | obj c i => exact own pins s σ H x y v u Q I rx ry ⟨F, c, i, b, S, ha.obj, hb, h⟩
  | int i =>
    cases b with
    | int j => exact op_add pins s σ H x y v u Q I rx ry ⟨i, j, ha.int, hb.int, h.now S (by simp only [Rep])⟩
    | _ => exact False.elim h
  | str i =>
    cases b with
    | str j =>
      simp only [binD] at h
      split at h
      · rename_i hl
        exact op_add_str pins s σ H x y v u Q I rx ry ⟨i, j, ha.str, hb.str, line16 hl, h.now S (by simp only [Rep])⟩
      · exact False.elim h
    | _ => exact False.elim h
  | tup i =>
    cases b with
    | tup j =>
      simp only [binD] at h
      split at h
      · rename_i hl
        obtain ⟨p, vs, rfl, h1, h1', r1⟩ := ha.tup S
        obtain ⟨q, ws, rfl, h2, h2', r2⟩ := hb.tup S
        refine op_catA pins s σ H _ _ v u Q I rx ry ⟨p, q, vs, ws, rfl, rfl, by rw [hK]; exact h1, by rw [hK]; exact h2, line16 (by rw [r1.length, r2.length]; exact hl), fun e => ?_, fun _ e => ?_, fun _ _ t ht => PostV.tup S ht (r1.append r2) h⟩
        · refine h.now S (.ofT h2' ?_)
          have := r1.length
          subst e
          have e2 : i = [] := List.eq_nil_of_length_eq_zero (by simpa using this.symm)
          subst e2
          simpa using r2
        · refine h.now S (.ofT h1' ?_)
          have := r2.length
          subst e
          have e2 : j = [] := List.eq_nil_of_length_eq_zero (by simpa using this.symm)
          subst e2
          simpa using r1
      · exact False.elim h
    | _ => exact False.elim h
  | lst i =>
    cases b with
    | lst j =>
      simp only [binD] at h
      split at h
      · rename_i hl
        obtain ⟨p, vs, rfl, h1, r1⟩ := ha.lst S
        obtain ⟨q, ws, rfl, h2, r2⟩ := hb.lst S
        exact op_cat pins s σ H _ _ v u Q I rx ry ⟨p, q, vs, ws, rfl, rfl, h1, h2, line16 (by rw [r1.length, r2.length]; exact hl), fun t ht => PostV.lst S ht (r1.append r2) h⟩
      · exact False.elim h
    | _ => exact False.elim h
  | _ => exact False.elim h

theorem opr_sub (own : OwnOp G W X (binaryOp .Sub) (binD G.P cf .sub)) : OpR X (binaryOp .Sub) (r2D G W (binD G.P cf .sub)) := by
  intro pins s σ H x y v u Q I rx ry ⟨F, a, b, S, ha, hb, h⟩
  cases a with
  | obj c i => exact own pins s σ H x y v u Q I rx ry ⟨F, c, i, b, S, ha.obj, hb, h⟩
  | int i =>
    cases b with
    | int j => exact op_sub pins s σ H x y v u Q I rx ry ⟨i, j, ha.int, hb.int, h.now S (by simp only [Rep])⟩
    | _ => exact False.elim h
  | _ => exact False.elim h
theorem mulOk_big {i j : Int} (h : i.natAbs.log2 + j.natAbs.log2 < 100000000) : IntMulOk i j := by
  have b : ∀ x : Int, Builtin.Int.intBits x ≤ x.natAbs.log2 + 1 := fun x => by
    unfold Builtin.Int.intBits
    split <;> omega
  exact IntMulOk.of_le (b i) (b j) (by omega)
theorem op_mulB : OpR X (binaryOp .Mult) (rI (fun i j => i.natAbs.log2 + j.natAbs.log2 < 100000000) fun i j => .int (i * j)) := opI fun _ _ _ _ _ _ _ hc q => mul_int q (mulOk_big hc)
theorem opr_mul (own : OwnOp G W X (binaryOp .Mult) (binD G.P cf .mul)) (hK : X.K = G.K) : OpR X (binaryOp .Mult) (r2D G W (binD G.P cf .mul)) := by
  intro pins s σ H x y v u Q I rx ry ⟨F, a, b, S, ha, hb, h⟩
  cases a with
  | obj c i => exact own pins s σ H x y v u Q I rx ry ⟨F, c, i, b, S, ha.obj, hb, h⟩
  | int i =>
    cases b with
    | int j =>
      simp only [binD] at h
      split at h
      · rename_i hl
        exact op_mulB pins s σ H x y v u Q I rx ry ⟨i, j, ha.int, hb.int, hl, h.now S (by simp only [Rep])⟩
      · exact False.elim h
    | _ => exact False.elim h
  | tup i =>
    cases b with
    | int j =>
      simp only [binD] at h
      split at h
      · rename_i hl
        obtain ⟨p, vs, rfl, h1, h1', r1⟩ := ha.tup S
        obtain ⟨g1, g2, g3⟩ := hl
        have hT : SqT X.K H p vs := by rw [hK]; exact h1
        have ll := r1.length
        by_cases hn : i = []
        · subst hn
          have hv : vs = [] := List.eq_nil_of_length_eq_zero ll
          rw [show (List.replicate j.toNat ([] : List D)).flatten = [] by simp] at h
          exact op_mulT pins s σ H _ y v u Q I rx ry ⟨p, j, vs, rfl, hb.int, hT, g2, by omega, .inl ⟨.inr hv, h.now S (by simp only [Rep]; exact ⟨p, vs, rfl, h1', r1⟩)⟩⟩
        · have hv : vs ≠ [] := fun e => by
            rw [e] at ll
            exact hn (List.eq_nil_of_length_eq_zero ll.symm)
          by_cases h2 : 2 ≤ j
          · exact op_repT pins s σ H _ y v u Q I rx ry ⟨p, j, vs, rfl, hb.int, hT, hv, h2, by omega, by rw [ll]; exact g1, fun t ht => PostV.tup S ht (r1.rep _) h⟩
          · by_cases h3 : j = 1
            · subst h3
              rw [show (List.replicate (1 : Int).toNat i).flatten = i by simp] at h
              exact op_mulT pins s σ H _ y v u Q I rx ry ⟨p, 1, vs, rfl, hb.int, hT, g2, by omega, .inl ⟨.inl rfl, h.now S (by simp only [Rep]; exact ⟨p, vs, rfl, h1', r1⟩)⟩⟩
            · rw [show j.toNat = 0 by omega] at h
              exact op_mulT pins s σ H _ y v u Q I rx ry ⟨p, j, vs, rfl, hb.int, hT, g2, by omega, .inr ⟨by omega, hv, fun t ht => PostV.tup S ht .nil h⟩⟩
      · exact False.elim h
    | _ => exact False.elim h
  | lst i =>
    cases b with
    | int j =>
      simp only [binD] at h
      split at h
      · rename_i hl
        obtain ⟨p, vs, rfl, h1, r1⟩ := ha.lst S
        exact op_rep pins s σ H _ _ v u Q I rx ry ⟨p, j, vs, rfl, hb.int, h1, by omega, by omega, line16 (by rw [r1.length]; exact hl.1), fun t ht => PostV.lst S ht (r1.rep _) h⟩
      · exact False.elim h
    | _ => exact False.elim h
  | _ => exact False.elim h
theorem opr_fdiv : OpR X (binaryOp .FloorDiv) (r2D G W (binD G.P cf .fdiv)) := by
  intro pins s σ H x y v u Q I rx ry ⟨F, a, b, S, ha, hb, h⟩
  cases a with
  | int i =>
    cases b with
    | int j =>
      simp only [binD] at h
      split at h
      · rename_i hl
        exact op_fdivW pins s σ H x y v u Q I rx ry ⟨i, j, ha.int, hb.int, hl, h.now S (by simp only [Rep])⟩
      · exact False.elim h
    | _ => exact False.elim h
  | _ => exact False.elim h
theorem opr_mod : OpR X (binaryOp .Mod) (r2D G W (binD G.P cf .mod)) := by
  intro pins s σ H x y v u Q I rx ry ⟨F, a, b, S, ha, hb, h⟩
  cases a with
  | int i =>
    cases b with
    | int j =>
      simp only [binD] at h
      split at h
      · rename_i hl
        exact op_mod pins s σ H x y v u Q I rx ry ⟨i, j, ha.int, hb.int, hl, h.now S (by simp only [Rep])⟩
      · exact False.elim h
    | _ => exact False.elim h
  | _ => exact False.elim h
def OwnUn (G : Gb) (W : XK) (X : Cx) (f : Value → Sem Value) (m : D → R Vr) : Prop :=
  UnR X f (fun x H Q => ∃ F c i, Same F H ∧ Rep G F (.obj c i) x ∧ PostV G W F H Q (m (.obj c i)))
theorem unr_neg (own : OwnUn G W X (unaryOp .USub) (fun x => (negD G.P cf x).map Vr.sh)) : UnR X (unaryOp .USub) (fun x H Q => ∃ F a, Same F H ∧ Rd2 G F H a x ∧ PostV G W F H Q ((negD G.P cf a).map Vr.sh)) := by
  intro pins s σ H x v Q I rx ⟨F, a, S, ha, h⟩
  cases a with
  | obj c i => exact own pins s σ H x v Q I rx ⟨F, c, i, S, ha.obj, h⟩
  | int i => exact un_neg pins s σ H x v Q I rx ⟨i, ha.int, PostV.now (d := .int (-i)) S h (by simp only [Rep])⟩
  | _ => exact False.elim h
/-! ### comparisons -/
abbrev blR (m : D → D → R Bool) : D → D → R Vr := fun a b => (m a b).map fun b => Vr.sh (.bl b)
theorem PostV.bl {F H : Hp} {Q : VK} {b : Bool} (S : Same F H) (h : PostV G W F H Q (.ok (.sh (.bl b)))) : Q (.bl b) H := h.now S (by simp only [Rep])
theorem opr_lt (hK : X.K = G.K) (hu : X.A.units < cLine) (own : OwnOp G W X (compareOp .Lt) (blR (cmpD G.P cf .lt))) : OpR X (compareOp .Lt) (r2D G W (blR (cmpD G.P cf .lt))) := by
  intro pins s σ H x y v u Q I rx ry ⟨F, a, b, S, ha, hb, h⟩
  cases a with
  | obj c i => exact own pins s σ H x y v u Q I rx ry ⟨F, c, i, b, S, ha.obj, hb, h⟩
  | int i =>
    cases b with
    | int j => exact op_lt pins s σ H x y v u Q I rx ry ⟨i, j, ha.int, hb.int, PostV.bl S h⟩
    | _ => exact False.elim h
  | str i =>
    cases b with
    | str j => exact op_lt_str pins s σ H x y v u Q I rx ry ⟨i, j, ha.str, hb.str, PostV.bl S h⟩
    | _ => exact False.elim h
  | tup i =>
    cases b with
    | tup j =>
      simp only [blR, cmpD] at h
      split at h
      · rename_i ns ms e1 e2
        obtain ⟨p, vs, rfl, h1, h1', r1⟩ := ha.tup S
        obtain ⟨q, ws, rfl, h2, h2', r2⟩ := hb.tup S
        have z1 := r1.ints e1
        have z2 := r2.ints e2
        subst z1 z2
        exact op_ltT hu pins s σ H _ _ v u Q I rx ry ⟨p, q, ns, ms, rfl, rfl, by rw [hK]; exact h1, by rw [hK]; exact h2, PostV.bl S h⟩
      · exact False.elim h
    | _ => exact False.elim h
  | _ => exact False.elim h
theorem opr_le (own : OwnOp G W X (compareOp .LtE) (blR (cmpD G.P cf .le))) : OpR X (compareOp .LtE) (r2D G W (blR (cmpD G.P cf .le))) := by
  intro pins s σ H x y v u Q I rx ry ⟨F, a, b, S, ha, hb, h⟩
  cases a with
  | obj c i => exact own pins s σ H x y v u Q I rx ry ⟨F, c, i, b, S, ha.obj, hb, h⟩
  | int i =>
    cases b with
    | int j => exact op_le pins s σ H x y v u Q I rx ry ⟨i, j, ha.int, hb.int, PostV.bl S h⟩
    | _ => exact False.elim h
  | str i =>
    cases b with
    | str j => exact op_le_str pins s σ H x y v u Q I rx ry ⟨i, j, ha.str, hb.str, PostV.bl S h⟩
    | _ => exact False.elim h
  | _ => exact False.elim h
theorem opr_gt : OpR X (compareOp .Gt) (r2D G W (blR (cmpD G.P cf .gt))) := by
  intro pins s σ H x y v u Q I rx ry ⟨F, a, b, S, ha, hb, h⟩
  cases a with
  | int i =>
    cases b with
    | int j => exact op_gt pins s σ H x y v u Q I rx ry ⟨i, j, ha.int, hb.int, PostV.bl S h⟩
    | _ => exact False.elim h
  | _ => exact False.elim h
theorem opr_ge : OpR X (compareOp .GtE) (r2D G W (blR (cmpD G.P cf .ge))) := by
  intro pins s σ H x y v u Q I rx ry ⟨F, a, b, S, ha, hb, h⟩
  cases a with
  | int i =>
    cases b with
    | int j => exact op_ge pins s σ H x y v u Q I rx ry ⟨i, j, ha.int, hb.int, PostV.bl S h⟩
    | _ => exact False.elim h
  | _ => exact False.elim h
/-! ### items, slices -/
theorem atI_rep {F : Hp} {ds : List D} {vs : List V} {i : Int} {d : D} (r : Reps G F ds vs) (h : atI ds i = some d) : ∃ v, atI vs i = some v ∧ Rep G F d v := by
  unfold atI at h ⊢
  rw [r.length]
  cases e : ixN ds.length i with
  | none => rw [e] at h; cases h
  | some j =>
    rw [e] at h
    exact r.get h
theorem ixr (hK : X.K = G.K) : IxR X (fun x y H Q => ∃ F a b, Same F H ∧ Rd2 G F H a x ∧ Rd2 G F H b y ∧ PostV G W F H Q ((ixOf a b).map Vr.sh)) := by
  intro value slice pins s σ H x y v u Q I rx ry ⟨F, a, b, S, ha, hb, h⟩ hs
  cases b with
  | int i =>
    cases a with
    | lst ds =>
      obtain ⟨p, vs, rfl, h1, r1⟩ := ha.lst S
      simp only [ixOf, items] at h
      split at h
      · rename_i d e
        obtain ⟨z, e1, e2⟩ := atI_rep r1 e
        exact ix_list value slice pins s σ H _ _ v u Q I rx ry ⟨p, vs, i, z, rfl, hb.int, .inl (.inl h1), e1, PostV.now S h e2⟩ hs
      · exact False.elim h
    | tup ds =>
      obtain ⟨p, vs, rfl, h1, _, r1⟩ := ha.tup S
      simp only [ixOf, items] at h
      split at h
      · rename_i d e
        obtain ⟨z, e1, e2⟩ := atI_rep r1 e
        exact ix_tup value slice pins s σ H _ _ v u Q I rx ry ⟨p, vs, i, z, rfl, hb.int, by rw [hK]; exact h1, e1, PostV.now S h e2⟩ hs
      · exact False.elim h
    | _ => exact False.elim h
  | _ =>
    simp only [ixOf] at h
    split at h
    · simp_all
    · exact False.elim h
theorem Reps.cut {F : Hp} {ds : List D} {vs : List V} (r : Reps G F ds vs) (lo hi : Option Int) : Reps G F (cutD ds lo hi) (cutV vs lo hi) := by
  unfold cutD cutV
  rw [r.length]
  exact (r.drop _).take _
theorem slr (hK : X.K = G.K) : SlR X (fun x lo hi H Q => ∃ F a, Same F H ∧ Rd2 G F H a x ∧ PostV G W F H Q (slcD a lo hi)) := by
  intro pins s σ H x v vl vu lo hi sl Q I rx hs pl pu ⟨F, a, S, ha, h⟩
  cases a with
  | lst ds =>
    obtain ⟨p, vs, rfl, h1, r1⟩ := ha.lst S
    exact sl_list pins s σ H _ v vl vu lo hi sl Q I rx hs pl pu ⟨p, vs, rfl, .inl (.inl h1), fun t ht => PostV.lst S ht (r1.cut lo hi) h⟩
  | ro ds =>
    obtain ⟨p, vs, rfl, h1, r1⟩ := ha.ro S
    exact sl_list pins s σ H _ v vl vu lo hi sl Q I rx hs pl pu ⟨p, vs, rfl, by rw [hK]; exact h1, fun t ht => PostV.lst S ht (r1.cut lo hi) h⟩
  | tup ds =>
    obtain ⟨p, vs, rfl, h1, h1', r1⟩ := ha.tup S
    refine sl_tupA pins s σ H _ v vl vu lo hi sl Q I rx hs pl pu ⟨p, vs, rfl, by rw [hK]; exact h1, fun e => ?_, fun _ t ht => PostV.tup S ht (r1.cut lo hi) h⟩
    have e2 : cutD ds lo hi = ds := by
      unfold cutD
      rw [← r1.length, e.1, e.2, r1.length]
      simp
    simp only [slcD, e2] at h
    exact PostV.now S h (.ofT h1' r1)
  | _ => exact False.elim h
end
end PV
set_option Elab.async false
set_option linter.all false
set_option maxRecDepth 100000
namespace PV
open PySem PySem.Spec PyProof.Rows L2
def Rd2s (G : Gb) (F H : Hp) : List D → List V → Prop
  | [], vs => vs = []
  | d :: ds, vs => ∃ v r, vs = v :: r ∧ Rd2 G F H d v ∧ Rd2s G F H ds r
section
variable {G : Gb} {W : XK} {X : Cx} {cf : CF} {F H : Hp}
theorem Rd2s.one {d : D} {vs : List V} (h : Rd2s G F H [d] vs) : ∃ v, vs = [v] ∧ Rd2 G F H d v := by
  obtain ⟨v, r, rfl, h1, h2⟩ := h
  have h2 : r = [] := h2
  subst h2
  exact ⟨v, rfl, h1⟩
theorem Rd2s.two {d e : D} {vs : List V} (h : Rd2s G F H [d, e] vs) : ∃ v u, vs = [v, u] ∧ Rd2 G F H d v ∧ Rd2 G F H e u := by
  obtain ⟨v, r, rfl, h1, h2⟩ := h
  obtain ⟨u, rfl, h3⟩ := Rd2s.one h2
  exact ⟨v, u, rfl, h1, h3⟩
def bifR (G : Gb) (W : XK) (b : Bif) : List V → Hp → VK → Prop := fun vs H Q => ∃ F ds, Same F H ∧ Rd2s G F H ds vs ∧ PostV G W F H Q (bifD b ds)
theorem Rd2.seq (hK : X.K = G.K) {ds : List D} {v : V} (S : Same F H) (h : Rd2 G F H (.lst ds) v ∨ Rd2 G F H (.tup ds) v) : ∃ a vs, v = .ref a ∧ (SqL X.K H a vs ∨ SqT X.K H a vs) ∧ Reps G F ds vs := by
  rcases h with h | h
  · obtain ⟨p, vs, rfl, h1, r1⟩ := h.lst S
    exact ⟨p, vs, rfl, .inl (.inl (.inl h1)), r1⟩
  · obtain ⟨p, vs, rfl, h1, _, r1⟩ := h.tup S
    exact ⟨p, vs, rfl, .inr (by rw [hK]; exact h1), r1⟩
theorem PostV.int {Q : VK} {i : Int} (S : Same F H) (h : PostV G W F H Q (.ok (.sh (.int i)))) : Q (.int i) H := h.now S (by simp only [Rep])
theorem cr_len (hK : X.K = G.K) : CallR X (.builtin "len") (bifR G W .len) := by
  intro pins s σ H vs us Q I r ⟨F, ds, S, rd, h⟩
  simp only [bifD] at h
  split at h
  · obtain ⟨v, rfl, h1⟩ := rd.one
    obtain ⟨a, ws, rfl, h2, r1⟩ := Rd2.seq hK S (.inl h1)
    exact call_len pins s σ H _ us Q I r ⟨_, ws.length, rfl, h2.imp (fun z => ⟨ws, z, rfl⟩) (fun z => ⟨ws, z, rfl⟩), PostV.int S (by rw [r1.length]; exact h)⟩
  · obtain ⟨v, rfl, h1⟩ := rd.one
    obtain ⟨a, ws, rfl, h2, r1⟩ := Rd2.seq hK S (.inr h1)
    exact call_len pins s σ H _ us Q I r ⟨_, ws.length, rfl, h2.imp (fun z => ⟨ws, z, rfl⟩) (fun z => ⟨ws, z, rfl⟩), PostV.int S (by rw [r1.length]; exact h)⟩
  · obtain ⟨v, rfl, h1⟩ := rd.one
    split at h
    · rename_i hl
      have e := h1.str
      subst e
      exact call_len pins s σ H _ us Q I r ⟨_, _, rfl, ⟨line16 hl, rfl⟩, PostV.int S h⟩
    · exact False.elim h
  · exact False.elim h
theorem cr_abs : CallR X (.builtin "abs") (bifR G W .abs) := by
  intro pins s σ H vs us Q I r ⟨F, ds, S, rd, h⟩
  simp only [bifD] at h
  split at h
  · obtain ⟨v, rfl, h1⟩ := rd.one
    have e := h1.int
    subst e
    exact call_abs pins s σ H _ us Q I r ⟨_, rfl, PostV.int S h⟩
  · exact False.elim h
theorem cr_int : CallR X (.type "int") (bifR G W .int) := by
  intro pins s σ H vs us Q I r ⟨F, ds, S, rd, h⟩
  simp only [bifD] at h
  split at h
  · obtain ⟨v, rfl, h1⟩ := rd.one
    have e := h1.int
    subst e
    exact call_int1 pins s σ H _ us Q I r (.inl ⟨_, rfl, PostV.int S h⟩)
  · obtain ⟨v, rfl, h1⟩ := rd.one
    have e := h1.bl
    subst e
    exact call_int1 pins s σ H _ us Q I r (.inr ⟨_, rfl, PostV.int S h⟩)
  · exact False.elim h
theorem cr_tup (hK : X.K = G.K) : CallR X (.type "tuple") (bifR G W .tup) := by
  intro pins s σ H vs us Q I r ⟨F, ds, S, rd, h⟩
  simp only [bifD] at h
  split at h
  · obtain ⟨v, rfl, h1⟩ := rd.one
    obtain ⟨a, ws, rfl, h2, r1⟩ := h1.lst S
    exact call_tuple_of pins s σ H _ us Q I r ⟨a, ws, rfl, .inl ⟨.inl (.inl h2), fun p hp => PostV.tup S hp r1 h⟩⟩
  · obtain ⟨v, rfl, h1⟩ := rd.one
    obtain ⟨a, ws, rfl, h2, h3, r1⟩ := h1.tup S
    exact call_tuple_of pins s σ H _ us Q I r ⟨a, ws, rfl, .inr ⟨by rw [hK]; exact h2, PostV.now S h (.ofT h3 r1)⟩⟩
  · exact False.elim h
theorem cr_lst (hK : X.K = G.K) : CallR X (.type "list") (bifR G W .lst) := by
  intro pins s σ H vs us Q I r ⟨F, ds, S, rd, h⟩
  simp only [bifD] at h
  split at h
  · obtain ⟨v, rfl, h1⟩ := rd.one
    obtain ⟨a, ws, rfl, h2, r1⟩ := Rd2.seq hK S (.inl h1)
    exact call_list_of pins s σ H _ us Q I r ⟨a, ws, rfl, h2, fun p hp => PostV.lst S hp r1 h⟩
  · obtain ⟨v, rfl, h1⟩ := rd.one
    obtain ⟨a, ws, rfl, h2, r1⟩ := Rd2.seq hK S (.inr h1)
    exact call_list_of pins s σ H _ us Q I r ⟨a, ws, rfl, h2, fun p hp => PostV.lst S hp r1 h⟩
  · exact False.elim h
theorem cr_max2 (hc : X.calm = true) : CallR X (.builtin "max") (bifR G W .max2) := by
  intro pins s σ H vs us Q I r ⟨F, ds, S, rd, h⟩
  simp only [bifD] at h
  split at h
  · obtain ⟨v, u, rfl, h1, h2⟩ := rd.two
    have e := h1.int
    have e2 := h2.int
    subst e e2
    exact call_max2 hc pins s σ H _ us Q I r ⟨_, _, rfl, PostV.int S h⟩
  · exact False.elim h
theorem cr_min2 (hc : X.calm = true) : CallR X (.builtin "min") (bifR G W .min2) := by
  intro pins s σ H vs us Q I r ⟨F, ds, S, rd, h⟩
  simp only [bifD] at h
  split at h
  · obtain ⟨v, u, rfl, h1, h2⟩ := rd.two
    have e := h1.int
    have e2 := h2.int
    subst e e2
    exact call_min2 hc pins s σ H _ us Q I r ⟨_, _, rfl, PostV.int S h⟩
  · exact False.elim h
/-- sum of a tuple of ints -/
theorem sum_tup {prog : Program} {w : World} {A : Around} {E : Value → Shared → Prop} {s : Shared} {l : Addr} {its : List Value} {ns : List Int} {Q : Value → Shared → Prop} (hh : A.handled = none) (hl : s.heap.IsTuple l its.toArray) (hi : IntsAre its ns)
    (h : ∀ h' tk t', (∀ b o, s.heap.get? b = some o → h'.get? b = some o) → Q (.int ns.sum t') { s with heap := h', toks := tk }) : wpAny (model prog w) A (call (.builtin "sum") [.ref l]) Q E s := by
  obtain ⟨xs, e⟩ := hi.allInts.items
  have hn : numsOf (intItems xs).toList = ns := by rw [← e]; exact hi.numsOf
  rw [nums_intItems] at hn
  rw [e] at hl
  have hlt : l < s.heap.objs.size := by obtain ⟨_, e, _⟩ := hl; exact Heap.lt_size e
  refine call_sum_walkG (wpAny_pyIter_tuple hl ?_)
  refine ⟨_, _, _, _, _, _, numAt xs, rfl, Walks.tuple (A := A.in1) hh s.heap.objs.size l (Nat.ne_of_lt hlt) (intItems xs), ⟨⟨_, Heap.get?_push_size _ rfl, rfl, rfl⟩, ?_⟩, fun b hb => ?_, (fun _ _ => intItems_at), fun h' tk t' hk => ?_⟩
  · obtain ⟨o, e1, e2⟩ := hl
    exact ⟨o, Heap.get?_push_of_some _ e1, e2⟩
  · rw [Heap.size_push]
    rcases List.mem_cons.mp hb with rfl | hb
    · exact Nat.lt_succ_self _
    · rw [List.mem_singleton.mp hb]
      exact Nat.lt_succ_of_lt hlt
  · have := h h' tk t' fun b o e => hk b o (fun hm => by
      rw [List.mem_singleton] at hm
      exact absurd (hm ▸ Heap.lt_size e) (Nat.lt_irrefl _)) (Heap.get?_push_of_some _ e)
    rw [preSum_eq, List.take_of_length_le (by simp [intItems]), hn]
    exact this
theorem cr_sumD (hc : X.calm = true) (hK : X.K = G.K) : CallR X (.builtin "sum") (bifR G W .sum) := by
  intro pins s σ H vs us Q I r ⟨F, ds, S, rd, h⟩
  simp only [bifD] at h
  split at h
  · obtain ⟨v, rfl, h1⟩ := rd.one
    split at h
    · rename_i ns e
      obtain ⟨a, ws, rfl, h2, r1⟩ := h1.lst S
      have z := r1.ints e
      subst z
      exact cr_sum hc pins s σ H _ us Q I r ⟨a, ns, rfl, .inl (.inl h2), PostV.int S h⟩
    · exact False.elim h
  · obtain ⟨v, rfl, h1⟩ := rd.one
    split at h
    · rename_i ns e
      obtain ⟨a, ws, rfl, h2, _, r1⟩ := h1.tup S
      have z := r1.ints e
      subst z
      obtain ⟨its, rv, hl, _⟩ := I.tuple (by rw [hK]; exact h2)
      rw [Vals.ref1 r]
      exact sum_tup (I.ok.hd hc) hl rv.ints fun h' tk t' hk => ⟨.int _, H, I.kept hk, ⟨_, rfl⟩, PostV.int S h⟩
    · exact False.elim h
  · exact False.elim h
theorem cr_allD (hc : X.calm = true) : CallR X (.builtin "all") (bifR G W .all) := by
  intro pins s σ H vs us Q I r ⟨F, ds, S, rd, h⟩
  simp only [bifD] at h
  split at h
  · obtain ⟨v, rfl, h1⟩ := rd.one
    split at h
    · rename_i ns e
      obtain ⟨a, ws, rfl, h2, r1⟩ := h1.lst S
      have z := r1.bools e
      subst z
      exact cr_all hc pins s σ H _ us Q I r ⟨a, ns, rfl, .inl (.inl h2), PostV.bl S h⟩
    · exact False.elim h
  · exact False.elim h
theorem cr_anyD (hc : X.calm = true) : CallR X (.builtin "any") (bifR G W .any) := by
  intro pins s σ H vs us Q I r ⟨F, ds, S, rd, h⟩
  simp only [bifD] at h
  split at h
  · obtain ⟨v, rfl, h1⟩ := rd.one
    split at h
    · rename_i ns e
      obtain ⟨a, ws, rfl, h2, r1⟩ := h1.lst S
      have z := r1.bools e
      subst z
      exact cr_any hc pins s σ H _ us Q I r ⟨a, ns, rfl, .inl (.inl h2), PostV.bl S h⟩
    · exact False.elim h
  · exact False.elim h
end
end PV
set_option Elab.async false
set_option linter.all false
set_option maxRecDepth 100000
namespace PV
open PySem PySem.Spec PyProof.Rows L2
theorem PE.imp {X : Cx} {e : Expr} {t t' : TE} (h : PE X e t) (k : ∀ σ H Q, t' σ H Q → t σ H Q) : PE X e t' := ⟨fun pins s σ H Q I q => h.run pins s σ H Q I (k σ H Q q)⟩
theorem PT.imp {X : Cx} {e : Expr} {t t' : TT} (h : PT X e t) (k : ∀ σ H Q, t' σ H Q → t σ H Q) : PT X e t' := ⟨fun pins s σ H Q I q => h.run pins s σ H Q I (k σ H Q q)⟩
theorem PW.imp {X : Cx} {e : Expr} {t t' : TT} (h : PW X e t) (k : ∀ σ H Q, t' σ H Q → t σ H Q) : PW X e t' := ⟨fun wh pins s σ H Q I q => h.run wh pins s σ H Q I (k σ H Q q)⟩
theorem PA.imp {X : Cx} {e : List Expr} {t t' : TA} (h : PA X e t) (k : ∀ σ H Q, t' σ H Q → t σ H Q) : PA X e t' := ⟨fun pos pins s σ H Q I q => h.run pos pins s σ H Q I (k σ H Q q)⟩
theorem PO.imp {X : Cx} {e : Option Expr} {t t' : TO} (h : PO X e t) (k : ∀ σ H Q, t' σ H Q → t σ H Q) : PO X e t' := ⟨fun pins s σ H Q I q => h.run pins s σ H Q I (k σ H Q q)⟩
/-- tests -/
def PostT (G : Gb) (W : XK) (c : Cf) (Q : Bool → Hp → Prop) : R (Bool × En) → Prop
  | .ok (b, e') => ∀ F' H', Step G c ⟨F', c.σ, H', e'⟩ → Sim G ⟨F', c.σ, H', e'⟩ → Q b H'
  | .exc x => ∀ cls d H', (∀ b o, c.H b = some o → ¬ c.W b → H' b = some o) → XAt G x cls d H' → W cls d H'
  | .stuck => False
def tT (G : Gb) (W : XK) (m : En → R (Bool × En)) : TT := fun σ H Q => ∃ F e, Sim G ⟨F, σ, H, e⟩ ∧ PostT G W ⟨F, σ, H, e⟩ Q (m e)
/-- values of an argument list: they go away -/
def PostA (G : Gb) (W : XK) (c : Cf) (Q : List V → Hp → Prop) : R (List D × En) → Prop
  | .ok (ds, e') => ∀ vs F' H', Step G c ⟨F', c.σ, H', e'⟩ → Sim G ⟨F', c.σ, H', e'⟩ → Reps G F' ds vs → Q vs H'
  | .exc x => ∀ cls d H', (∀ b o, c.H b = some o → ¬ c.W b → H' b = some o) → XAt G x cls d H' → W cls d H'
  | .stuck => False
def tA (G : Gb) (W : XK) (m : En → R (List D × En)) : TA := fun σ H Q => ∃ F e, Sim G ⟨F, σ, H, e⟩ ∧ PostA G W ⟨F, σ, H, e⟩ Q (m e)
/-- .. that are looked at -/
def VRels (G : Gb) (H0 : Hp) (c : Cf) : List V → List Vl → Prop
  | vs, [] => vs = []
  | vs, l :: ls => ∃ v r, vs = v :: r ∧ VRel G H0 c v (hold l) ∧ hold l = l ∧ VRels G H0 c r ls
def PostP (G : Gb) (W : XK) (c : Cf) (Q : List V → Hp → Prop) : R (List Vl × En) → Prop
  | .ok (ls, e') => ∀ vs F' H', Step G c ⟨F', c.σ, H', e'⟩ → Sim G ⟨F', c.σ, H', e'⟩ → VRels G c.H ⟨F', c.σ, H', e'⟩ vs ls → Q vs H'
  | .exc x => ∀ cls d H', (∀ b o, c.H b = some o → ¬ c.W b → H' b = some o) → XAt G x cls d H' → W cls d H'
  | .stuck => False
def tP (G : Gb) (W : XK) (m : En → R (List Vl × En)) : TA := fun σ H Q => ∃ F e, Sim G ⟨F, σ, H, e⟩ ∧ PostP G W ⟨F, σ, H, e⟩ Q (m e)

section
variable {G : Gb} {W : XK} {X : Cx} {c c1 : Cf} {F F' H H' : Hp}
/-! ### going on -/
theorem PostE.mk {Q : VK} {α : Type} {r : R (α × En)} {Post : R (α × En) → Prop} (m : R (Vl × En)) (k : Vl → En → R (α × En)) (hx : ∀ x, Post (.exc x) → ∀ cls d H', (∀ b o, c.H b = some o → ¬ c.W b → H' b = some o) → XAt G x cls d H' → W cls d H') (hs : ¬ Post .stuck)
    (h : Post (bnd m k)) (hk : ∀ vl e' v F' H', Step G c ⟨F', c.σ, H', e'⟩ → Sim G ⟨F', c.σ, H', e'⟩ → VRel G c.H ⟨F', c.σ, H', e'⟩ v vl → Post (k vl e') → Q v H') : PostE G W c Q m := by
  cases m with
  | ok p =>
    obtain ⟨vl, e'⟩ := p
    intro v F' H' st S r
    exact hk vl e' v F' H' st S r h
  | exc x => exact hx x h
  | stuck => exact (hs h).elim
theorem PostT.next {Q : Bool → Hp → Prop} {r : R (Bool × En)} (h : PostT G W c Q r) (s : Step G c c1) (e : c1.σ = c.σ) : PostT G W c1 Q r := by
  cases r with
  | ok p =>
    obtain ⟨vl, e'⟩ := p
    intro F' H' st S
    rw [e] at st S
    exact h F' H' (s.trans st) S
  | exc x =>
    intro cls d H' fr xa
    exact h cls d H' (fun b o hb hw => fr b o (s.frame b o hb hw) fun w => (s.w b w).elim hw fun z => by rw [hb] at z; cases z) xa
  | stuck => exact h
theorem PostA.next {Q : List V → Hp → Prop} {r : R (List D × En)} (h : PostA G W c Q r) (s : Step G c c1) (e : c1.σ = c.σ) : PostA G W c1 Q r := by
  cases r with
  | ok p =>
    obtain ⟨vl, e'⟩ := p
    intro vs F' H' st S
    rw [e] at st S
    exact h vs F' H' (s.trans st) S
  | exc x =>
    intro cls d H' fr xa
    exact h cls d H' (fun b o hb hw => fr b o (s.frame b o hb hw) fun w => (s.w b w).elim hw fun z => by rw [hb] at z; cases z) xa
  | stuck => exact h
theorem VRels.imp {H0 H1 : Hp} {vs : List V} (k : ∀ a, H1 a = none → H0 a = none) : ∀ {vs : List V} {ls : List Vl}, VRels G H1 c vs ls → VRels G H0 c vs ls
  | vs, [], h => h
  | vs, l :: ls, h => by
    obtain ⟨v, r, e, h1, h2, h3⟩ := h
    exact ⟨v, r, e, h1.imp k, h2, VRels.imp (vs := vs) k h3⟩
theorem VRels.mono {H0 H1 : Hp} {e e' : En} {σ : Sg} (sm : Same F F') : ∀ {vs : List V} {ls : List Vl}, VRels G H0 ⟨F, σ, H, e⟩ vs ls → VRels G H1 ⟨F', σ, H', e'⟩ vs ls
  | vs, [], h => h
  | vs, l :: ls, h => by
    obtain ⟨v, r, e, h1, h2, h3⟩ := h
    exact ⟨v, r, e, hold_mono sm h1, h2, VRels.mono sm h3⟩
theorem PostP.next {Q : List V → Hp → Prop} {r : R (List Vl × En)} (h : PostP G W c Q r) (s : Step G c c1) (e : c1.σ = c.σ) : PostP G W c1 Q r := by
  cases r with
  | ok p =>
    obtain ⟨vl, e'⟩ := p
    intro vs F' H' st S z
    rw [e] at st S z
    exact h vs F' H' (s.trans st) S (VRels.imp (vs := vs) s.back z)
  | exc x =>
    intro cls d H' fr xa
    exact h cls d H' (fun b o hb hw => fr b o (s.frame b o hb hw) fun w => (s.w b w).elim hw fun z => by rw [hb] at z; cases z) xa
  | stuck => exact h
/-! ### names, constants -/
theorem gE_con {e : Expr} {d : D} {v : V} (h : PE X e (tC v)) (r : ∀ F, Rep G F d v) : PE X e (tE G W fun σ => .ok (.sh d, σ)) :=
  PE.imp h fun σ H Q ⟨F, e, S, q⟩ => q v F H Step.rfl' S (r F)
theorem gE_var {x : Str} {i : Nat} {pos : Pos} (hN : X.N[i]? = some x) (hv : Vis X.env.scope x) (hd : (x == ("__debug__" : Str)) = false) (hcd : (x == ("__classdict__" : Str)) = false) :
    PE X (.Name x pos) (tE G W fun σ => (getv i σ).map fun v => (v, σ)) := by
  refine PE.imp (pe_var (i := i) hN hv hd hcd) fun σ H Q ⟨F, e, S, q⟩ => ?_
  unfold getv at q
  dsimp only at q
  cases hx : e[i]? with
  | none => rw [hx] at q; exact q.elim
  | some x =>
    have k := S.cell i x hx
    rw [hx] at q
    cases x with
    | un => exact q.elim
    | bld c ds => exact q.elim
    | sh d =>
      obtain ⟨v, q1, q2⟩ := k
      exact ⟨v, q1, q v F H Step.rfl' S q2⟩
    | ow ds =>
      obtain ⟨a, q1, q2⟩ := k
      exact ⟨_, q1, q _ F H Step.rfl' S q1⟩
    | lk ds =>
      obtain ⟨a, q1, q2⟩ := k
      exact ⟨_, q1, q _ F H Step.rfl' S q1⟩
    | io ds =>
      obtain ⟨a, q1, q2⟩ := k
      exact ⟨_, q1, q _ F H Step.rfl' S q1⟩
/-! ### operators -/
/-- two operands, both looked at when both are there -/
theorem two {ma mb : En → R (Vl × En)} {α : Type} {k : D → D → En → R (α × En)} {Post : Cf → R (α × En) → Prop} {σ : Sg} {e : En} {R : V → V → Hp → Prop}
    (hx : ∀ c x, Post c (.exc x) → ∀ cls d H', (∀ b o, c.H b = some o → ¬ c.W b → H' b = some o) → XAt G x cls d H' → W cls d H') (hs : ∀ c, ¬ Post c .stuck)
    (hn : ∀ {c c1 : Cf} {r}, Post c r → Step G c c1 → c1.σ = c.σ → Post c1 r)
    (S : Sim G ⟨F, σ, H, e⟩) (h : Post ⟨F, σ, H, e⟩ (bnd (ma e) fun va σ => bnd (mb σ) fun vb σ => bnd (pk (hold va) σ) fun x σ => bnd (pk (hold vb) σ) fun y σ => k x y σ))
    (hk : ∀ F' H' e' x y v u, Step G ⟨F, σ, H, e⟩ ⟨F', σ, H', e'⟩ → Sim G ⟨F', σ, H', e'⟩ → Rd2 G F' H' x v → Rd2 G F' H' y u → Post ⟨F', σ, H', e'⟩ (k x y e') → R v u H') :
    tE G W ma σ H (fun v H1 => tE G W mb σ H1 (fun u H2 => R v u H2)) := by
  refine ⟨F, e, S, PostE.mk (r := .stuck) (Post := Post _) _ _ (hx _) (hs _) h fun va e1 v F1 H1 st1 S1 r1 h1 => ?_⟩
  obtain ⟨F1', st1', S1', r1'⟩ := hold_ok st1 S1 r1
  have h1' := hn h1 st1' rfl
  refine ⟨F1', e1, S1', PostE.mk (r := .stuck) (Post := Post _) _ _ (hx _) (hs _) h1' fun vb e2 u F2 H2 st2 S2 r2 h2 => ?_⟩
  obtain ⟨F2', st2', S2', r2'⟩ := hold_ok st2 S2 r2
  have h2' := hn h2 st2' rfl
  obtain ⟨x, rx, h3⟩ := pk_ok (Post := Post _) (hs _) S2' (hold_mono (H1 := H1) st2'.f r1') h2'
  obtain ⟨y, ry, h4⟩ := pk_ok (Post := Post _) (hs _) S2' r2' h3
  exact hk F2' H2 e2 x y v u (st1'.trans st2') S2' rx ry h4
theorem PostE.hx {Q : VK} : ∀ (c : Cf) x, PostE G W c Q (.exc x) → ∀ cls d H', (∀ b o, c.H b = some o → ¬ c.W b → H' b = some o) → XAt G x cls d H' → W cls d H' := fun _ _ h => h
theorem PostT.hx {Q : Bool → Hp → Prop} : ∀ (c : Cf) x, PostT G W c Q (.exc x) → ∀ cls d H', (∀ b o, c.H b = some o → ¬ c.W b → H' b = some o) → XAt G x cls d H' → W cls d H' := fun _ _ h => h
theorem gE_bin {a b : Expr} {op : Operator} {pos : Pos} {ma mb : En → R (Vl × En)} {m : D → D → R Vr} (ho : OpR X (binaryOp op) (r2D G W m)) (ha : PE X a (tE G W ma)) (hb : PE X b (tE G W mb)) :
    PE X (.BinOp a op b pos) (tE G W fun σ => bnd (ma σ) fun va σ => bnd (mb σ) fun vb σ => bnd (pk (hold va) σ) fun x σ => bnd (pk (hold vb) σ) fun y σ => lift ((m x y).map vr) σ) := by
  refine PE.imp (pe_op ho ha hb) fun σ H Q ⟨F, e, S, h⟩ => ?_
  exact two (Post := fun c r => PostE G W c Q r) PostE.hx (fun _ z => z) (fun h s e => PostE.next h s e) S h fun F' H' e' x y v u st S' rx ry h' => ⟨F', x, y, S'.sub, rx, ry, PostE.lift S' h'⟩
theorem lift_blv {m : R Bool} {e : En} : lift (m.map fun b => Vl.sh (.bl b)) e = PV.lift (R.map vr (m.map fun b => Vr.sh (.bl b))) e := by
  cases m <;> rfl
theorem cmpI {op : CmpOp} {ma mb : En → R (Vl × En)} {m : D → D → R Bool} {σ : Sg} {Q : VK}
    (h : tE G W (fun σ => bnd (ma σ) fun va σ => bnd (mb σ) fun vb σ => bnd (pk (hold va) σ) fun x σ => bnd (pk (hold vb) σ) fun y σ => lift ((m x y).map fun b => Vl.sh (.bl b)) σ) σ H Q) :
    tOp (r2D G W (blR m)) (tE G W ma) (tE G W mb) σ H Q := by
  obtain ⟨F, e, S, h⟩ := h
  exact two (Post := fun c r => PostE G W c Q r) PostE.hx (fun _ z => z) (fun h s e => PostE.next h s e) S h fun F' H' e' x y v u st S' rx ry h' => ⟨F', x, y, S'.sub, rx, ry, PostE.lift S' (by rw [lift_blv] at h'; exact h')⟩
theorem gE_cmp {a b : Expr} {op : CmpOp} {pos : Pos} {ma mb : En → R (Vl × En)} {m : D → D → R Bool} (hm : behindInMarks op b = false) (ho : OpR X (compareOp op) (r2D G W (blR m))) (ha : PE X a (tE G W ma)) (hb : PE X b (tE G W mb)) :
    PE X (.Compare a [op] [b] pos) (tE G W fun σ => bnd (ma σ) fun va σ => bnd (mb σ) fun vb σ => bnd (pk (hold va) σ) fun x σ => bnd (pk (hold vb) σ) fun y σ => lift ((m x y).map fun b => Vl.sh (.bl b)) σ) :=
  PE.imp (pe_cmpR ho ha hb hm) fun σ H Q h => cmpI (op := op) h
/-- a test off a value's reading -/
theorem tstI {t : TE} {m : En → R (Vl × En)} {σ : Sg} {Q : Bool → Hp → Prop} (hi : ∀ Q, tE G W m σ H Q → t σ H Q) (h : tT G W (fun σ => bnd (m σ) fun v σ => toB v σ) σ H Q) : t σ H fun x H' => ∃ k, x = .bl k ∧ Q k H' := by
  refine hi _ ?_
  obtain ⟨F, e, S, h⟩ := h
  refine ⟨F, e, S, PostE.mk (r := .stuck) (Post := PostT G W _ Q) _ _ (PostT.hx _) (fun z => z) h fun vl e1 v F1 H1 st1 S1 r1 h1 => ?_⟩
  cases vl with
  | sh d =>
    cases d with
    | bl b =>
      have r1 : Rep G F1 (.bl b) v := r1
      simp only [Rep] at r1
      exact ⟨b, r1, h1 F1 H1 st1 S1⟩
    | _ => exact False.elim h1
  | ow ds => exact False.elim h1
  | sl i => exact False.elim h1
theorem gT_cmp {a b : Expr} {op : CmpOp} {pos : Pos} {ma mb : En → R (Vl × En)} {m : D → D → R Bool} (hm : behindInMarks op b = false) (ho : OpR X (compareOp op) (r2D G W (blR m))) (ha : PE X a (tE G W ma)) (hb : PE X b (tE G W mb)) :
    PT X (.Compare a [op] [b] pos) (tT G W fun σ => bnd (bnd (ma σ) fun va σ => bnd (mb σ) fun vb σ => bnd (pk (hold va) σ) fun x σ => bnd (pk (hold vb) σ) fun y σ => lift ((m x y).map fun b => Vl.sh (.bl b)) σ) fun v σ => toB v σ) :=
  PT.imp (pt_cmpR ho ha hb hm) fun σ H Q h => tstI (t := tOp (r2D G W (blR m)) (tE G W ma) (tE G W mb)) (fun Q h => cmpI (op := op) h) h
theorem gT_val {e : Expr} {m : En → R (Vl × En)} (h : PE X e (tE G W m)) (he : ∀ whole, isTrue e X.env whole = (do let v ← whole; standAt e.pos; holding [v] (truthy v))) : PT X e (tT G W fun σ => bnd (m σ) fun v σ => toB v σ) :=
  PT.imp (pt_val h he) fun σ H Q h => tstI (t := tE G W m) (fun Q h => h) h
end
end PV
set_option Elab.async false
set_option linter.all false
set_option maxRecDepth 100000
namespace PV
open PySem PySem.Spec PyProof.Rows L2
section
variable {G : Gb} {W : XK} {X : Cx} {F F' H H' : Hp}
/-- one operand, looked at -/
theorem oneI {ma : En → R (Vl × En)} {α : Type} {k : D → En → R (α × En)} {Post : Cf → R (α × En) → Prop} {σ : Sg} {e : En} {R : V → Hp → Prop}
    (hx : ∀ c x, Post c (.exc x) → ∀ cls d H', (∀ b o, c.H b = some o → ¬ c.W b → H' b = some o) → XAt G x cls d H' → W cls d H') (hs : ∀ c, ¬ Post c .stuck)
    (hn : ∀ {c c1 : Cf} {r}, Post c r → Step G c c1 → c1.σ = c.σ → Post c1 r)
    (S : Sim G ⟨F, σ, H, e⟩) (h : Post ⟨F, σ, H, e⟩ (bnd (ma e) fun va σ => bnd (pk (hold va) σ) fun x σ => k x σ))
    (hk : ∀ F' H' e' x v, Step G ⟨F, σ, H, e⟩ ⟨F', σ, H', e'⟩ → Sim G ⟨F', σ, H', e'⟩ → Rd2 G F' H' x v → Post ⟨F', σ, H', e'⟩ (k x e') → R v H') :
    tE G W ma σ H R := by
  refine ⟨F, e, S, PostE.mk (r := .stuck) (Post := Post _) _ _ (hx _) (hs _) h fun va e1 v F1 H1 st1 S1 r1 h1 => ?_⟩
  obtain ⟨F1', st1', S1', r1'⟩ := hold_ok st1 S1 r1
  have h1' := hn h1 st1' rfl
  obtain ⟨x, rx, h3⟩ := pk_ok (Post := Post _) (hs _) S1' r1' h1'
  exact hk F1' H1 e1 x v st1' S1' rx h3
theorem pk_hold {α : Type} {v : Vl} {σ : En} {k : D → En → R (α × En)} : bnd (pk (hold v) σ) k = bnd (pk v σ) k := by
  cases v <;> rfl
theorem gE_neg {a : Expr} {pos : Pos} {ma : En → R (Vl × En)} {m : D → R D} (ho : UnR X (unaryOp .USub) (fun x H Q => ∃ F a, Same F H ∧ Rd2 G F H a x ∧ PostV G W F H Q ((m a).map Vr.sh))) (ha : PE X a (tE G W ma)) :
    PE X (.UnaryOp .USub a pos) (tE G W fun σ => bnd (ma σ) fun va σ => bnd (pk va σ) fun x σ => lift ((m x).map Vl.sh) σ) := by
  refine PE.imp (pe_un ho ha) fun σ H Q ⟨F, e, S, h⟩ => ?_
  refine oneI (Post := fun c r => PostE G W c Q r) PostE.hx (fun _ z => z) (fun h s e => PostE.next h s e) S (by simp only [pk_hold]; exact h) fun F' H' e' x v st S' rx h' => ⟨F', x, S'.sub, rx, PostE.lift S' (by rw [lift_sh] at h'; exact h')⟩
/-- a value that must be a truth value -/
theorem blI {ma : En → R (Vl × En)} {α : Type} {k : Bool → En → R (α × En)} {Post : Cf → R (α × En) → Prop} {σ : Sg} {e : En} {R : V → Hp → Prop}
    (hx : ∀ c x, Post c (.exc x) → ∀ cls d H', (∀ b o, c.H b = some o → ¬ c.W b → H' b = some o) → XAt G x cls d H' → W cls d H') (hs : ∀ c, ¬ Post c .stuck)
    (hn : ∀ {c c1 : Cf} {r}, Post c r → Step G c c1 → c1.σ = c.σ → Post c1 r)
    (S : Sim G ⟨F, σ, H, e⟩) (h : Post ⟨F, σ, H, e⟩ (bnd (ma e) fun va σ => bnd (toB va σ) fun b σ => k b σ))
    (hk : ∀ F' H' e' b, Step G ⟨F, σ, H, e⟩ ⟨F', σ, H', e'⟩ → Sim G ⟨F', σ, H', e'⟩ → Post ⟨F', σ, H', e'⟩ (k b e') → R (.bl b) H') :
    tE G W ma σ H R := by
  refine ⟨F, e, S, PostE.mk (r := .stuck) (Post := Post _) _ _ (hx _) (hs _) h fun va e1 v F1 H1 st1 S1 r1 h1 => ?_⟩
  cases va with
  | sh d =>
    cases d with
    | bl b =>
      have r1 : Rep G F1 (.bl b) v := r1
      simp only [Rep] at r1
      subst r1
      exact hk F1 H1 e1 b st1 S1 (hn h1 st1 rfl)
    | _ => exact (hs _ h1).elim
  | ow ds => exact (hs _ h1).elim
  | sl i => exact (hs _ h1).elim
/-- .. an int -/
theorem intI {ma : En → R (Vl × En)} {α : Type} {k : Option Int → En → R (α × En)} {Post : Cf → R (α × En) → Prop} {σ : Sg} {e : En} {R : V → Hp → Prop}
    (hx : ∀ c x, Post c (.exc x) → ∀ cls d H', (∀ b o, c.H b = some o → ¬ c.W b → H' b = some o) → XAt G x cls d H' → W cls d H') (hs : ∀ c, ¬ Post c .stuck)
    (hn : ∀ {c c1 : Cf} {r}, Post c r → Step G c c1 → c1.σ = c.σ → Post c1 r)
    (S : Sim G ⟨F, σ, H, e⟩) (h : Post ⟨F, σ, H, e⟩ (bnd (ma e) fun va σ => bnd (toI va σ) fun b σ => k b σ))
    (hk : ∀ F' H' e' i, Step G ⟨F, σ, H, e⟩ ⟨F', σ, H', e'⟩ → Sim G ⟨F', σ, H', e'⟩ → Post ⟨F', σ, H', e'⟩ (k (some i) e') → R (.int i) H') :
    tE G W ma σ H R := by
  refine ⟨F, e, S, PostE.mk (r := .stuck) (Post := Post _) _ _ (hx _) (hs _) h fun va e1 v F1 H1 st1 S1 r1 h1 => ?_⟩
  cases va with
  | sh d =>
    cases d with
    | int b =>
      have r1 : Rep G F1 (.int b) v := r1
      simp only [Rep] at r1
      subst r1
      exact hk F1 H1 e1 b st1 S1 (hn h1 st1 rfl)
    | _ => exact (hs _ h1).elim
  | ow ds => exact (hs _ h1).elim
  | sl i => exact (hs _ h1).elim
theorem PostE.bl {c : Cf} {b : Bool} {Q : VK} (S : Sim G c) (h : PostE G W c Q (.ok (.sh (.bl b), c.e))) : Q (.bl b) c.H := h.sh S (by simp only [Rep])
theorem gE_not {a : Expr} {pos : Pos} {ma : En → R (Vl × En)} (ha : PE X a (tE G W ma)) :
    PE X (.UnaryOp .Not a pos) (tE G W fun σ => bnd (ma σ) fun va σ => bnd (toB va σ) fun b σ => .ok (.sh (.bl (!b)), σ)) := by
  refine PE.imp (pe_not ha) fun σ H Q ⟨F, e, S, h⟩ => ?_
  exact blI (Post := fun c r => PostE G W c Q r) PostE.hx (fun _ z => z) (fun h s e => PostE.next h s e) S h fun F' H' e' b st S' h' => ⟨b, rfl, PostE.bl S' h'⟩
theorem PostT.now {c : Cf} {b : Bool} {Q : Bool → Hp → Prop} (S : Sim G c) (h : PostT G W c Q (.ok (b, c.e))) : Q b c.H := h c.F c.H Step.rfl' S
/-- tests one after another -/
theorem PostT.bind {c : Cf} {m : R (Bool × En)} {α : Type} {k : Bool → En → R (α × En)} {Post : R (α × En) → Prop} {Q' : Bool → Hp → Prop} (hx : ∀ x, Post (.exc x) → ∀ cls d H', (∀ b o, c.H b = some o → ¬ c.W b → H' b = some o) → XAt G x cls d H' → W cls d H') (hs : ¬ Post .stuck) (h : Post (bnd m k))
    (hk : ∀ b e' F' H', Step G c ⟨F', c.σ, H', e'⟩ → Sim G ⟨F', c.σ, H', e'⟩ → Post (k b e') → Q' b H') : PostT G W c Q' m := by
  cases m with
  | ok p =>
    obtain ⟨b, e'⟩ := p
    intro F' H' st S
    exact hk b e' F' H' st S h
  | exc x => exact hx x h
  | stuck => exact (hs h).elim
theorem gT_not {a : Expr} {pos : Pos} {ma : En → R (Bool × En)} (ha : PT X a (tT G W ma)) : PT X (.UnaryOp .Not a pos) (tT G W fun σ => bnd (ma σ) fun b σ => .ok (!b, σ)) := by
  refine PT.imp (pt_not ha) fun σ H Q ⟨F, e, S, h⟩ => ?_
  exact ⟨F, e, S, PostT.bind (Post := PostT G W _ Q) (PostT.hx _) (fun z => z) h fun b e' F' H' st S' h' => h' F' H' st S'⟩
theorem gE_isN {a : Expr} {pos j pos'} {ma : En → R (Vl × En)} (ha : PE X a (tE G W ma)) :
    PE X (.Compare a [.Is] [.Constant .none j pos'] pos) (tE G W fun σ => bnd (ma σ) fun va σ => bnd (pk va σ) fun x σ => .ok (.sh (.bl (isNon x)), σ)) := by
  refine PE.imp (pe_cmp (pc_isN ha) (nobehind _ (by decide) (by decide))) fun σ H Q ⟨F, e, S, h⟩ => ?_
  refine oneI (Post := fun c r => PostE G W c Q r) PostE.hx (fun _ z => z) (fun h s e => PostE.next h s e) S (by simp only [pk_hold]; exact h) fun F' H' e' x v st S' rx h' => ?_
  have e : decide (v = .non) = (isNon x) := by
    rcases rx with r | ⟨ds, a, rfl, rfl, _⟩
    · cases x <;> simp only [Rep] at r
      all_goals first
        | (subst r; rfl)
        | (obtain ⟨_, _, rfl, _⟩ := r; rfl)
        | (obtain ⟨_, _, _, rfl, _⟩ := r; rfl)
    · rfl
  rw [e]
  exact PostE.bl S' h'
theorem gE_notN {a : Expr} {pos j pos'} {ma : En → R (Vl × En)} (ha : PE X a (tE G W ma)) :
    PE X (.Compare a [.IsNot] [.Constant .none j pos'] pos) (tE G W fun σ => bnd (ma σ) fun va σ => bnd (pk va σ) fun x σ => .ok (.sh (.bl (!isNon x)), σ)) := by
  refine PE.imp (pe_cmp (pc_notN ha) (nobehind _ (by decide) (by decide))) fun σ H Q ⟨F, e, S, h⟩ => ?_
  refine oneI (Post := fun c r => PostE G W c Q r) PostE.hx (fun _ z => z) (fun h s e => PostE.next h s e) S (by simp only [pk_hold]; exact h) fun F' H' e' x v st S' rx h' => ?_
  have e : (!decide (v = .non)) = (!isNon x) := by
    rcases rx with r | ⟨ds, a, rfl, rfl, _⟩
    · cases x <;> simp only [Rep] at r
      all_goals first
        | (subst r; rfl)
        | (obtain ⟨_, _, rfl, _⟩ := r; rfl)
        | (obtain ⟨_, _, _, rfl, _⟩ := r; rfl)
    · rfl
  rw [e]
  exact PostE.bl S' h'
theorem gE_andV {a b : Expr} {rest : List Expr} {pos : Pos} {ma mb : En → R (Vl × En)} (ha : PE X a (tE G W ma)) (hb : PE X (.BoolOp .And (b :: rest) pos) (tE G W mb)) :
    PE X (.BoolOp .And (a :: b :: rest) pos) (tE G W fun σ => bnd (ma σ) fun va σ => bnd (toB va σ) fun r σ => match r with
      | true => mb σ
      | false => .ok (.sh (.bl false), σ)) := by
  refine PE.imp (pe_and ha hb) fun σ H Q ⟨F, e, S, h⟩ => ?_
  refine blI (Post := fun c r => PostE G W c Q r) PostE.hx (fun _ z => z) (fun h s e => PostE.next h s e) S h fun F' H' e' r st S' h' => ⟨r, rfl, ?_⟩
  cases r with
  | true => exact ⟨F', e', S', h'⟩
  | false => exact PostE.bl S' h'
theorem gE_orV {a b : Expr} {rest : List Expr} {pos : Pos} {ma mb : En → R (Vl × En)} (ha : PE X a (tE G W ma)) (hb : PE X (.BoolOp .Or (b :: rest) pos) (tE G W mb)) :
    PE X (.BoolOp .Or (a :: b :: rest) pos) (tE G W fun σ => bnd (ma σ) fun va σ => bnd (toB va σ) fun r σ => match r with
      | true => .ok (.sh (.bl true), σ)
      | false => mb σ) := by
  refine PE.imp (pe_or ha hb) fun σ H Q ⟨F, e, S, h⟩ => ?_
  refine blI (Post := fun c r => PostE G W c Q r) PostE.hx (fun _ z => z) (fun h s e => PostE.next h s e) S h fun F' H' e' r st S' h' => ⟨r, rfl, ?_⟩
  cases r with
  | true => exact PostE.bl S' h'
  | false => exact ⟨F', e', S', h'⟩
theorem gW_and {a b : Expr} {rest : List Expr} {pos : Pos} {ma mb : En → R (Bool × En)} (ha : PT X a (tT G W ma)) (hb : PW X (.BoolOp .And (b :: rest) pos) (tT G W mb)) :
    PW X (.BoolOp .And (a :: b :: rest) pos) (tT G W fun σ => bnd (ma σ) fun r σ => match r with
      | true => mb σ
      | false => .ok (false, σ)) := by
  refine PW.imp (pw_and ha hb) fun σ H Q ⟨F, e, S, h⟩ => ?_
  refine ⟨F, e, S, PostT.bind (Post := PostT G W _ Q) (PostT.hx _) (fun z => z) h fun r e' F' H' st S' h' => ?_⟩
  cases r with
  | true => exact ⟨F', e', S', PostT.next h' st rfl⟩
  | false => exact h' F' H' st S'
theorem gW_or {a b : Expr} {rest : List Expr} {pos : Pos} {ma mb : En → R (Bool × En)} (ha : PT X a (tT G W ma)) (hb : PW X (.BoolOp .Or (b :: rest) pos) (tT G W mb)) :
    PW X (.BoolOp .Or (a :: b :: rest) pos) (tT G W fun σ => bnd (ma σ) fun r σ => match r with
      | true => .ok (true, σ)
      | false => mb σ) := by
  refine PW.imp (pw_or ha hb) fun σ H Q ⟨F, e, S, h⟩ => ?_
  refine ⟨F, e, S, PostT.bind (Post := PostT G W _ Q) (PostT.hx _) (fun z => z) h fun r e' F' H' st S' h' => ?_⟩
  cases r with
  | true => exact h' F' H' st S'
  | false => exact ⟨F', e', S', PostT.next h' st rfl⟩
theorem gE_ite {c a b : Expr} {pos : Pos} {mc : En → R (Bool × En)} {ma mb : En → R (Vl × En)} (hc : PT X c (tT G W mc)) (ha : PE X a (tE G W ma)) (hb : PE X b (tE G W mb)) :
    PE X (.IfExp c a b pos) (tE G W fun σ => bnd (mc σ) fun r σ => match r with
      | true => ma σ
      | false => mb σ) := by
  refine PE.imp (pe_ifExp hc ha hb) fun σ H Q ⟨F, e, S, h⟩ => ?_
  refine ⟨F, e, S, PostT.bind (Post := PostE G W _ Q) (PostE.hx _) (fun z => z) h fun r e' F' H' st S' h' => ?_⟩
  cases r with
  | true => exact ⟨F', e', S', PostE.next h' st rfl⟩
  | false => exact ⟨F', e', S', PostE.next h' st rfl⟩
/-! ### argument lists -/
theorem PostA.hx {Q : List V → Hp → Prop} : ∀ (c : Cf) x, PostA G W c Q (.exc x) → ∀ cls d H', (∀ b o, c.H b = some o → ¬ c.W b → H' b = some o) → XAt G x cls d H' → W cls d H' := fun _ _ h => h
theorem PostP.hx {Q : List V → Hp → Prop} : ∀ (c : Cf) x, PostP G W c Q (.exc x) → ∀ cls d H', (∀ b o, c.H b = some o → ¬ c.W b → H' b = some o) → XAt G x cls d H' → W cls d H' := fun _ _ h => h
theorem PostA.bind {c : Cf} {m : R (List D × En)} {α : Type} {k : List D → En → R (α × En)} {Post : R (α × En) → Prop} {Q' : List V → Hp → Prop} (hx : ∀ x, Post (.exc x) → ∀ cls d H', (∀ b o, c.H b = some o → ¬ c.W b → H' b = some o) → XAt G x cls d H' → W cls d H') (hs : ¬ Post .stuck) (h : Post (bnd m k))
    (hk : ∀ ds e' vs F' H', Step G c ⟨F', c.σ, H', e'⟩ → Sim G ⟨F', c.σ, H', e'⟩ → Reps G F' ds vs → Post (k ds e') → Q' vs H') : PostA G W c Q' m := by
  cases m with
  | ok p =>
    obtain ⟨b, e'⟩ := p
    intro vs F' H' st S r
    exact hk b e' vs F' H' st S r h
  | exc x => exact hx x h
  | stuck => exact (hs h).elim
theorem PostP.bind {c : Cf} {m : R (List Vl × En)} {α : Type} {k : List Vl → En → R (α × En)} {Post : R (α × En) → Prop} {Q' : List V → Hp → Prop} (hx : ∀ x, Post (.exc x) → ∀ cls d H', (∀ b o, c.H b = some o → ¬ c.W b → H' b = some o) → XAt G x cls d H' → W cls d H') (hs : ¬ Post .stuck) (h : Post (bnd m k))
    (hk : ∀ ds e' vs F' H', Step G c ⟨F', c.σ, H', e'⟩ → Sim G ⟨F', c.σ, H', e'⟩ → VRels G c.H ⟨F', c.σ, H', e'⟩ vs ds → Post (k ds e') → Q' vs H') : PostP G W c Q' m := by
  cases m with
  | ok p =>
    obtain ⟨b, e'⟩ := p
    intro vs F' H' st S r
    exact hk b e' vs F' H' st S r h
  | exc x => exact hx x h
  | stuck => exact (hs h).elim
theorem gA_nil : PA X [] (tA G W fun σ => .ok ([], σ)) := PA.imp pa_nil fun σ H Q ⟨F, e, S, h⟩ => h [] F H Step.rfl' S Reps.nil
theorem gA_cons {e : Expr} {es : List Expr} {m : En → R (Vl × En)} {ms : En → R (List D × En)} (he : PE X e (tE G W m)) (hes : PA X es (tA G W ms)) (hs : starEach (e :: es) X.env = (false, eval e X.env) :: starEach es X.env) :
    PA X (e :: es) (tA G W fun σ => bnd (m σ) fun v σ => bnd (esc v σ) fun d σ => bnd (ms σ) fun ds σ => .ok (d :: ds, σ)) := by
  refine PA.imp (pa_cons he hes hs) fun σ H Q ⟨F, e, S, h⟩ => ?_
  refine ⟨F, e, S, PostE.mk (r := .stuck) (Post := PostA G W _ Q) _ _ (PostA.hx _) (fun z => z) h fun vl e1 v F1 H1 st1 S1 r1 h1 => ?_⟩
  obtain ⟨d, F2, e2, st2, sm2, S2, rp, h2⟩ := esc_ok (Post := PostA G W _ Q) (fun z => z) st1 S1 r1 h1
  refine ⟨F2, e2, S2, PostA.bind (Post := PostA G W _ Q) (PostA.hx _) (fun z => z) (PostA.next h2 st2 rfl) fun ds e3 vs F3 H3 st3 S3 r3 h3 => ?_⟩
  exact h3 (v :: vs) F3 H3 st3 S3 (.cons (Rep.mono st3.f rp) r3)
theorem gP_nil : PA X [] (tP G W fun σ => .ok ([], σ)) := PA.imp pa_nil fun σ H Q ⟨F, e, S, h⟩ => h [] F H Step.rfl' S rfl
theorem hold_hold (v : Vl) : hold (hold v) = hold v := by cases v <;> rfl
theorem gP_cons {e : Expr} {es : List Expr} {m : En → R (Vl × En)} {ms : En → R (List Vl × En)} (he : PE X e (tE G W m)) (hes : PA X es (tP G W ms)) (hs : starEach (e :: es) X.env = (false, eval e X.env) :: starEach es X.env) :
    PA X (e :: es) (tP G W fun σ => bnd (m σ) fun v σ => bnd (ms σ) fun vs σ => .ok (hold v :: vs, σ)) := by
  refine PA.imp (pa_cons he hes hs) fun σ H Q ⟨F, e, S, h⟩ => ?_
  refine ⟨F, e, S, PostE.mk (r := .stuck) (Post := PostP G W _ Q) _ _ (PostP.hx _) (fun z => z) h fun vl e1 v F1 H1 st1 S1 r1 h1 => ?_⟩
  obtain ⟨F2, st2, S2, r2⟩ := hold_ok st1 S1 r1
  refine ⟨F2, e1, S2, PostP.bind (Post := PostP G W _ Q) (PostP.hx _) (fun z => z) (PostP.next h1 st2 rfl) fun ds e3 vs F3 H3 st3 S3 r3 h3 => ?_⟩
  refine h3 (v :: vs) F3 H3 st3 S3 ⟨v, vs, rfl, ?_, hold_hold _, r3⟩
  rw [hold_hold]
  exact hold_mono st3.f r2
/-! ### displays, items -/
theorem gE_tup {es : List Expr} {k : Nat} {pos : Pos} {ms : En → R (List D × En)} (h : PA X es (tA G W ms)) (hl : ∀ σ ds σ', ms σ = .ok (ds, σ') → ds.length ≤ 16000000) : PE X (.Tuple es k pos) (tE G W fun σ => bnd (ms σ) fun ds σ => .ok (.sh (.tup ds), σ)) := by
  refine PE.imp (pe_tup h) fun σ H Q ⟨F, e, S, h⟩ => ?_
  refine ⟨F, e, S, ?_⟩
  cases hm : ms e with
  | ok p =>
    obtain ⟨ds, e1⟩ := p
    simp only [hm] at h
    intro vs F1 H1 st1 S1 r1
    refine ⟨line16 (by rw [r1.length]; exact hl _ _ _ hm), fun p hp => ?_⟩
    have st : StepV F1 H1 (upd F1 p (.tup vs)) (upd H1 p (.tup vs)) := StepV.new1 S1.sub hp
    refine h (.ref p) _ _ (st1.trans st.step) (st.sim S1) ?_
    show Rep G _ (.tup ds) (.ref p)
    simp only [Rep]
    exact ⟨p, vs, rfl, .inl (.inl upd_same), r1.mono st.f⟩
  | exc x => simp only [hm] at h; exact h
  | stuck => simp only [hm] at h; exact h
theorem gE_lst {es : List Expr} {pos : Pos} {ms : En → R (List D × En)} (h : PA X es (tA G W ms)) (hl : ∀ σ ds σ', ms σ = .ok (ds, σ') → ds.length ≤ 16000000) : PE X (.List es pos) (tE G W fun σ => bnd (ms σ) fun ds σ => .ok (.ow ds, σ)) := by
  refine PE.imp (pe_lst h) fun σ H Q ⟨F, e, S, h⟩ => ?_
  refine ⟨F, e, S, ?_⟩
  cases hm : ms e with
  | ok p =>
    obtain ⟨ds, e1⟩ := p
    simp only [hm] at h
    intro vs F1 H1 st1 S1 r1
    refine ⟨line16 (by rw [r1.length]; exact hl _ _ _ hm), fun p hp => ?_⟩
    have st : StepV F1 H1 F1 (upd H1 p (.lst vs)) := StepV.new0 S1.sub hp
    refine h (.ref p) _ _ (st1.trans st.step) (st.sim S1) ⟨p, rfl, ⟨vs, upd_same, S1.sub.free hp, r1⟩, fun w => ?_, st1.back p hp⟩
    have w : Cf.W ⟨F1, σ, H1, e1⟩ p := w
    exact (S1.wh w).1 hp
  | exc x => simp only [hm] at h; exact h
  | stuck => simp only [hm] at h; exact h
theorem gE_ix {a b : Expr} {pos : Pos} {ma mb : En → R (Vl × En)} (hK : X.K = G.K) (hs : PlainIx b) (ha : PE X a (tE G W ma)) (hb : PE X b (tE G W mb)) :
    PE X (.Subscript a b pos) (tE G W fun σ => bnd (ma σ) fun va σ => bnd (mb σ) fun vb σ => bnd (pk (hold va) σ) fun x σ => bnd (pk (hold vb) σ) fun y σ => lift ((ixOf x y).map Vl.sh) σ) := by
  refine PE.imp (pe_ix (ixr (W := W) hK) ha hb hs) fun σ H Q ⟨F, e, S, h⟩ => ?_
  exact two (Post := fun c r => PostE G W c Q r) PostE.hx (fun _ z => z) (fun h s e => PostE.next h s e) S h fun F' H' e' x y v u st S' rx ry h' => ⟨F', x, y, S'.sub, rx, ry, PostE.lift S' (by rw [lift_sh] at h'; exact h')⟩
end
end PV
set_option Elab.async false
set_option linter.all false
set_option maxRecDepth 100000
set_option maxHeartbeats 4000000
namespace PV
open PySem PySem.Spec PyProof.Rows L2 ClX
/-! ## exceptions with an __init__ of their own: B.__init__(self, ..); self.f = p -/
/-- what the class B, named in __init__, must be -/
structure BaseOk (K : PySem.W.Frag) (B : Addr) : Prop where
  rd : CRead K B (.type "type")
  at_ : PySem.W.findCls K (.ref B) (.type "type") "__init__" = some (.val (.builtin "ValueError.__init__"))
section
variable {X : Cx} {e : Expr} {es : List Expr} {ta : TA} {p1 p2 pos : Pos} {x : Str} {B : Addr}
theorem pe_binit {pl : Sem Bool} (hg : Gl X x) (hm : X.mg x = some (.ref B)) (hd : (x == ("__debug__" : Str)) = false) (T : BaseOk X.K B) (ha : PA X (e :: es) ta)
    (hc : eval (.Call (.Attribute (.Name x p1) "__init__" p2) (e :: es) [] pos) X.env = (do
      let ov ← eval (.Name x p1) X.env
      standAt p2.atName
      let (f, first) ← holding [ov] (getMethod ov "__init__" pl)
      callWith pos f first (backTo pos (starEach (e :: es) X.env)) (backToKw pos (keywordEach [] X.env))))
    (he : starEach (e :: es) X.env = (false, eval e X.env) :: starEach es X.env) (hpl : (backTo pos (starEach es X.env)).any (·.1) = false) :
    PE X (.Call (.Attribute (.Name x p1) "__init__" p2) (e :: es) [] pos) (tVeI X.K ta) := by
  refine ⟨fun pins s σ H Q I h => ?_⟩
  refine PySem.W.methodCall_KW (ld_glob I hg hm ?_ hd) hc
  refine PySem.W.method_cls I.kIn T.rd.ga (PySem.W.cls_value I.kIn T.rd.rd T.at_ (by decide +kernel) ?_)
  show wpAny _ _ (callWith pos (Value.builtin "ValueError.__init__") [] (backTo pos (starEach (e :: es) X.env)) []) _ _ _
  refine PyProof.Rows.callWith_method1 (thn (ha.run pos pins _ σ H _ (I.tok _) h) fun us s1 ⟨vs, H1, I1, r1, a, C, ws, ev, hl, T, ea, q⟩ => ?_) he hpl
  subst ev
  cases r1 with
  | @cons _ u0 _ ur ra rw' =>
    obtain rfl : u0 = Value.ref a := ra
    have hlen : ur.length ≤ sizeLine := by
      rw [← Paired.length rw', sizeLine_eq]
      omega
    exact oinit_ok T I1 ea hlen fun s' J => ⟨.non, H1, J, rfl, q⟩
end
/-- what such an __init__ promises -/
def spI (K : PySem.W.Frag) (f : Str) : Sp := fun vs H Q _ => ∃ (a C : Addr) (y : V), vs = [.ref a, y] ∧ OexC K C ∧ PySem.W.findIn K (.ref C) f = some none ∧ H a = some (exo a C none) ∧
  ∀ dx, H dx = none → dx ≠ a → Q .non (upd (upd H dx (exd dx [(f, y)])) a (exo a C (some dx)))
def oexB (K : PySem.W.Frag) (C : Addr) : Bool := (match K.lookup C with
  | some ⟨.type "type", _, .cls cd, sl⟩ => (match cd.mro, sl.toList with
    | .ref C' :: bm, [_, _, _, _, some (.builtin n), _] => C' == C && n == "ValueError.__new__" && !cd.hasDel && cd.hasDict && PySem.HandSPX.refsVE bm
    | _, _ => false)
  | _ => false) && (decide (PySem.W.findIn K (.ref C) "__setattr__" = some (some (.builtin "object.__setattr__"))) && (decide (PySem.W.subIn K (.ref C) (.type "BaseException") = some true) && (decide (PySem.W.typeIn K (.ref C) = some (.type "type")) && PySem.W.keepIn K (.ref C))))
theorem oexB_ok {K : PySem.W.Frag} {C : Addr} (h : oexB K C = true) : OexC K C := by
  unfold oexB at h
  simp only [Bool.and_eq_true, decide_eq_true_eq] at h
  obtain ⟨q, h2, h3, h4, h5⟩ := h
  refine ⟨?_, h2, h3, h4, h5⟩
  split at q
  · rename_i dd cd sl ho
    split at q
    · rename_i C' bm k0 k1 k2 k3 n k5 hm hs
      simp only [Bool.and_eq_true, beq_iff_eq, Bool.not_eq_true'] at q
      obtain ⟨⟨⟨⟨rfl, rfl⟩, hdel⟩, hdi⟩, ht⟩ := q
      obtain ⟨nm, bs, mro, ns, qn, hd, sn, sub, ab, col, del⟩ := cd
      dsimp only at hm hdel hdi
      subst hm hdel hdi
      have hsl : sl = #[k0, k1, k2, k3, some (.builtin "ValueError.__new__"), k5] := by
        obtain ⟨l⟩ := sl
        simp only at hs
        rw [hs]
      subst hsl
      exact ⟨nm, qn, ns, bs, bm, sn, sub, ab, col, dd, k0, k1, k2, k3, k5, ho, ht⟩
    · cases q
  · cases q
def baseB (K : PySem.W.Frag) (B : Addr) : Bool := PySem.W.readsIn K B (.type "type") && (decide (PySem.W.specialIn K (.ref B) "__getattribute__" = some (some (.builtin "type.__getattribute__"))) && (match PySem.W.findCls K (.ref B) (.type "type") "__init__" with
  | some (.val (.builtin n)) => n == "ValueError.__init__"
  | _ => false))
theorem baseB_ok {K : PySem.W.Frag} {B : Addr} (h : baseB K B = true) : BaseOk K B := by
  unfold baseB at h
  simp only [Bool.and_eq_true, decide_eq_true_eq] at h
  obtain ⟨h1, h2, h3⟩ := h
  refine ⟨⟨h1, h2⟩, ?_⟩
  split at h3
  · rename_i n e
    rw [e, beq_iff_eq.mp h3]
  · cases h3
end PV
set_option Elab.async false
set_option linter.all false
set_option maxRecDepth 100000
namespace PV
open PySem PySem.Spec PyProof.Rows L2
/-! ## what a def promises -/
def faW (fa : FArg) (vs : List V) (b : Addr) : Prop := match fa with
  | .no => False
  | _ => ∃ r, vs = .ref b :: r
def FaPre (G : Gb) (fa : FArg) (vs : List V) (F H : Hp) (args : List D) : Prop := match fa with
  | .no => Reps G F args vs
  | .io ds => ∃ a r, vs = .ref a :: r ∧ LstAt G F H ds a ∧ Reps G F args r
  | .bld c => ∃ a r, vs = .ref a :: r ∧ BldAt G F H c [] a ∧ Reps G F args r
def FaPost (G : Gb) (fa : FArg) (vs : List V) (F H : Hp) (xs : List D) : Prop := match fa with
  | .no => True
  | .io _ => ∃ a r, vs = .ref a :: r ∧ LstAt G F H xs a
  | .bld c => ∃ a r, vs = .ref a :: r ∧ BldAt G F H c xs a
def PostF (G : Gb) (fa : FArg) (vs : List V) (F H : Hp) (Q : VK) (E : XK) : R (Vr × List D) → Prop
  | .ok (r, xs) => ∀ v F' H', Same F F' → Same F' H' → (∀ b o, H b = some o → ¬ faW fa vs b → H' b = some o) → (∀ b, F b = none → F' b ≠ none → H b = none) → (∀ b, H b ≠ none → H' b ≠ none) →
      FaPost G fa vs F' H' xs → VrRel G H F' H' v r → Q v H'
  | .exc x => ∀ cls d H', (∀ b o, H b = some o → ¬ faW fa vs b → H' b = some o) → XAt G x cls d H' → E cls d H'
  | .stuck => False
def spD (G : Gb) (cf : CF) (k : Nat) : Sp := fun vs H Q E => ∃ f, G.P.fns[k]? = some f ∧ vs.length = f.ps.length ∧ ∃ F fa args, Same F H ∧ FaPre G fa vs F H args ∧ PostF G fa vs F H Q E (cf k fa args)

/-- the methods of operators, with the numbers of their parameters -/
def opArs : List (Str × Nat) := [("__add__", 2), ("__sub__", 2), ("__mul__", 2), ("__eq__", 2), ("__lt__", 2), ("__le__", 2), ("__neg__", 1), ("__str__", 1)]
structure ClsOk (G : Gb) (mg : Str → Option Value) (c : Nat) (C : ClsI) : Prop where
  gl : mg C.name = some (.ref (G.cls c))
  cl : Cls G.K (G.cls c)
  no : ∀ f ∈ C.flds, NoAttr G.K (G.cls c) f
  mkr : Mk G.K (G.cls c) (G.fn C.init)
  me : ∀ m k, C.meths.lookup m = some k → Meth G.K (G.cls c) m (G.fn k)
  mf : ∀ m k, C.meths.lookup m = some k → m ∉ C.flds
  ha : PySem.W.findIn G.K (.ref (G.cls c)) "__class__" = some (some (.builtin "object.__class__"))
  hn : PySem.W.specialIn G.K (.builtin "object.__class__") "__get__" = some (some (.builtin "getset_descriptor.__get__"))
  htk : PySem.W.takesIn G.K (.builtin "object.__class__") = some true
  hm : PySem.W.mroIn G.K (G.cls c) (.type "object") = some true
  sf : PySem.W.selfFirst G.K (G.cls c) = true
  rn : ∀ nm ∈ ["add", "sub", "mul"], PySem.W.findIn G.K (.ref (G.cls c)) (PySem.dunderR nm) = some none
  ne : PySem.W.findIn G.K (.ref (G.cls c)) "__ne__" = some (some (.builtin "object.__ne__"))
  ar : ∀ p ∈ opArs, ∀ k, C.meths.lookup p.1 = some k → ∃ f, G.P.fns[k]? = some f ∧ f.ps.length = p.2
  kO : ∀ t ∈ ["int", "bool", "str", "tuple", "list"], PySem.W.kitOne G.K (.ref (G.cls c)) (.type t) = some false
  kT : ∀ t ∈ ["NoneType", "int", "bool", "str", "tuple", "list", "dict"], PySem.W.kitOne G.K (.type t) (.ref (G.cls c)) = some false
  kS : ∀ c' C', G.P.cls[c']? = some C' → PySem.W.kitOne G.K (.ref (G.cls c)) (.ref (G.cls c')) = some (c' == c)
abbrev mroVE : List Value := [.type "ValueError", .type "Exception", .type "BaseException", .type "object"]
structure ExcOk (G : Gb) (mg : Str → Option Value) (c : Nat) (E : ExcI) : Prop where
  gl : mg E.name = some (.ref (G.exc c))
  kp : PySem.W.keepIn G.K (.ref (G.exc c)) = true
  exm : ∀ c' E', G.P.exs[c']? = some E' → PySem.W.exmOne G.K (.ref (G.exc c')) (.ref (G.exc c)) = some (decide (c = c'))
  sub : PySem.W.subIn G.K (.ref (G.exc c)) (.type "BaseException") = some true
  ty : PySem.W.typeIn G.K (.ref (G.exc c)) = some (.type "type")
  own : E.fld = none → PySem.W.excIn G.K (G.exc c) mroVE "ValueError.__new__" = true
  xf : ∀ f, E.fld = some f → G.exf c = f ∧ xfB G.K (G.exc c) = true ∧ PySem.W.findIn G.K (.ref (G.exc c)) f = some none
structure Facts (G : Gb) (cf : CF) (lv : Nat) (prog : Program) (w : World) (mg : Str → Option Value) (base : Heap) : Prop where
  fn : ∀ k f, G.P.fns[k]? = some f → ∃ fd, FnOk prog w G.K mg base (L2.CX prog w) lv (G.fn k) fd f.ps (spD G cf k) ∧ PySem.W.keepIn G.K (.ref (G.fn k)) = true ∧ Binds G.K fd f.ps [] ∧ (f.dv ≠ [] → ∃ ds, Vals (f.dv.map V.int) ds ∧ Binds G.K fd f.ps ds)
  gl : ∀ k f, G.P.fns[k]? = some f → f.top = true → mg f.name = some (.ref (G.fn k))
  cls : ∀ c C, G.P.cls[c]? = some C → ClsOk G mg c C
  exs : ∀ c E, G.P.exs[c]? = some E → ExcOk G mg c E
  con : ∀ x i, G.P.cons.lookup x = some i → ∃ t, mg x = some (.int i t)
  ini : ∀ c E f, G.P.exs[c]? = some E → E.fld = some f → ∃ fI fd ps, OexC G.K (G.exc c) ∧ PySem.W.findIn G.K (.ref (G.exc c)) "__init__" = some (some (.ref fI)) ∧ PySem.W.typeIn G.K (.ref fI) = some (.type "function") ∧ Binds G.K fd ps [] ∧ FnOk prog w G.K mg base (L2.CX prog w) 1 fI fd ps (spI G.K f)
/-- a place in the code where the evaluator may walk -/
structure Gd (G : Gb) (W : XK) (cf : CF) (lv : Nat) (X : Cx) : Prop where
  kK : X.K = G.K
  calm : X.calm = true
  nd : X.N.Nodup
  room : Room (lv + 8) X.A
  tk : Takes X (fun c d _ H => W c d H)
  fa : Facts G cf lv X.prog X.w X.mg X.base
section
variable {G : Gb} {W : XK} {X : Cx} {cf : CF} {lv : Nat} {F F' H H' : Hp}
theorem Gd.fn (g : Gd G W cf lv X) {k : Nat} {f : FnI} (h : G.P.fns[k]? = some f) : ∃ fd, FnOk X.prog X.w X.K X.mg X.base (L2.CX X.prog X.w) lv (G.fn k) fd f.ps (spD G cf k) ∧ PySem.W.keepIn X.K (.ref (G.fn k)) = true ∧ Binds X.K fd f.ps [] ∧ (f.dv ≠ [] → ∃ ds, Vals (f.dv.map V.int) ds ∧ Binds X.K fd f.ps ds) := by
  have := g.fa.fn k f h
  rw [← g.kK] at this
  exact this
theorem Gd.pass (g : Gd G W cf lv X) : Passes (L2.CX X.prog X.w) X W := passes_call g.tk fun _ _ _ _ h => h
/-- a call's end, of a def that changes nothing that stood -/
theorem PostF.ofE {vs : List V} {σ : Sg} {e : En} {Q : VK} {m : R (Vr × List D)} (S : Sim G ⟨F, σ, H, e⟩) (h : PostE G W ⟨F, σ, H, e⟩ Q (lift (m.map fun p => vr p.1) e)) : PostF G .no vs F H Q W m := by
  cases m with
  | ok p =>
    obtain ⟨r, xs⟩ := p
    intro v F' H' s1 s2 fr nw dm _ hr
    have st : StepV F H F' H' := ⟨s1, s2, fun b o hb => fr b o hb (fun z => z), nw⟩
    refine h v F' H' st.step (st.sim S) ?_
    cases r with
    | sh d => exact hr
    | ow ds =>
      obtain ⟨a, h1, h2, h3⟩ := hr
      refine ⟨a, h1, h2, fun w => ?_, h3⟩
      have w : Cf.W ⟨F, σ, H, e⟩ a := w
      exact (S.wh w).1 h3
  | exc x => exact fun cls d H' s xa => h cls d H' (fun b o hb _ => s b o hb fun z => z) xa
  | stuck => exact h
theorem gE_call {x : Str} {k : Nat} {f : FnI} {p pos : Pos} {e : Expr} {es : List Expr} {ms : En → R (List D × En)} (g : Gd G W cf lv X) (hf : G.P.fns[k]? = some f) (ht : f.top = true) (hx : f.name = x) (hl : (e :: es).length = f.ps.length)
    (hln : ∀ σ ds σ', ms σ = .ok (ds, σ') → ds.length = (e :: es).length) (hg : Gl X x) (ha : PA X (e :: es) (tA G W ms)) (hdb : (x == ("__debug__" : Str)) = false) (he : starEach (e :: es) X.env = (false, eval e X.env) :: starEach es X.env) (hpl : (backTo pos (starEach es X.env)).any (·.1) = false) :
    PE X (.Call (.Name x p) (e :: es) [] pos) (tE G W fun σ => bnd (ms σ) fun ds σ => lift ((cf k .no ds).map fun p => vr p.1) σ) := by
  obtain ⟨fd, hF, hk, hb, _⟩ := g.fn hf
  have hm : X.mg x = some (.ref (G.fn k)) := by rw [← hx]; exact g.fa.gl k f hf ht
  refine PE.imp (pe_call hF (g.room.mono (by omega)) hg hm hk hb .nil g.pass ha hdb he hpl) fun σ H Q ⟨F, e0, S, h⟩ => ?_
  refine ⟨F, e0, S, ?_⟩
  cases hm : ms e0 with
  | ok p =>
    obtain ⟨ds, e1⟩ := p
    simp only [hm] at h
    intro vs F1 H1 st1 S1 r1
    have h1 := PostE.next h st1 rfl
    rw [List.append_nil]
    exact ⟨f, hf, by rw [r1.length, hln _ _ _ hm, hl], F1, .no, ds, S1.sub, r1, PostF.ofE S1 h1⟩
  | exc x => simp only [hm] at h; exact h
  | stuck => simp only [hm] at h; exact h
end
end PV
set_option Elab.async false
set_option linter.all false
set_option maxRecDepth 100000
namespace PV
open PySem PySem.Spec PyProof.Rows L2
section
variable {G : Gb} {W : XK} {X : Cx} {cf : CF} {lv : Nat} {F F' H H' : Hp}
theorem gE_callv {x : Str} {i : Nat} {p pos : Pos} {e : Expr} {es : List Expr} {ms : En → R (List D × En)} (g : Gd G W cf lv X) (hN : X.N[i]? = some x) (hv : Vis X.env.scope x)
    (ha : PA X (e :: es) (tA G W ms)) (hdb : (x == ("__debug__" : Str)) = false) (hcd : (x == ("__classdict__" : Str)) = false) (he : starEach (e :: es) X.env = (false, eval e X.env) :: starEach es X.env) (hpl : (backTo pos (starEach es X.env)).any (·.1) = false) :
    PE X (.Call (.Name x p) (e :: es) [] pos) (tE G W fun σ => match σ[i]? with
      | some (.sh (.fn k)) => (match G.P.fns[k]? with
        | some f => bnd (ms σ) fun ds σ => if ds.length = f.ps.length then lift ((cf k .no ds).map fun p => vr p.1) σ else .stuck
        | none => .stuck)
      | _ => .stuck) := by
  refine ⟨fun pins s σ H Q I ⟨F, e0, S, h⟩ => ?_⟩
  dsimp only at h
  split at h
  · rename_i k hk
    split at h
    · rename_i f hf
      obtain ⟨fd, hF, hkp, hb, _⟩ := g.fn hf
      obtain ⟨v, q1, q2⟩ := S.cell i _ hk
      have q2 : v = .ref (G.fn k) := by simpa only [Rep] using q2
      subst q2
      refine (pe_callL (i := i) (f := G.fn k) hF (g.room.mono (by omega)) hN hv hkp hb .nil g.pass ha hdb hcd he hpl).run pins s σ H Q I ⟨q1, ?_⟩
      refine ⟨F, e0, S, ?_⟩
      cases hm : ms e0 with
      | ok p =>
        obtain ⟨ds, e1⟩ := p
        simp only [hm] at h
        intro vs F1 H1 st1 S1 r1
        rw [bnd_ok] at h
        split at h
        · rename_i hl
          have h1 := PostE.next h st1 rfl
          rw [List.append_nil]
          exact ⟨f, hf, by rw [r1.length, hl], F1, .no, ds, S1.sub, r1, PostF.ofE S1 h1⟩
        · exact h.elim
      | exc x => simp only [hm] at h; exact h
      | stuck => simp only [hm] at h; exact h
    · exact h.elim
  · exact h.elim
/-- the list that a slot holds is changed by a call -/
theorem Sim.ioEnd {σ : Sg} {e : En} {i : Nat} {x x' : Cell} {a : Addr} (S : Sim G ⟨F, σ, H, e⟩) (hx : e[i]? = some x) (hlk : ∀ ds, x ≠ .lk ds) (ho : x.own = true) (ho' : x'.own = true) (htg : x'.tag = x.tag) (hσ : σ[i]? = some (some (.ref a)))
    (s1 : Same F F') (s2 : Same F' H') (fr : ∀ b o, H b = some o → b ≠ a → H' b = some o) (nw : ∀ b, F b = none → F' b ≠ none → H b = none) (dm : ∀ b, H b ≠ none → H' b ≠ none) (hc : CellOk G F' H' σ[i]? x') :
    Step G ⟨F, σ, H, e⟩ ⟨F', σ, H', e.set i x'⟩ ∧ Sim G ⟨F', σ, H', e.set i x'⟩ := by
  have hi : i < e.length := (List.getElem?_eq_some_iff.mp hx).1
  have get : ∀ j, j ≠ i → (e.set i x')[j]? = e[j]? := fun j hj => List.getElem?_set_ne (Ne.symm hj)
  have wa : Cf.W ⟨F, σ, H, e⟩ a := ⟨i, x, hx, ho, hσ⟩
  refine ⟨⟨s1, fun b o hb hw => fr b o hb fun z => hw (by rw [z]; exact wa), fun b h h' => .inl (nw b h h'), dm, fun b hb => ?_, fun j ds v hj hv => ?_, fun j y tg hj ht => ?_⟩, ⟨by simpa using S.len, s2, fun j y hy => ?_, fun j1 j2 y1 y2 b h1 h2 o1 o2 t1 t2 => ?_⟩⟩
  · obtain ⟨j, y, h1, h2, h3⟩ := hb
    left
    by_cases z : j = i
    · subst z
      exact ⟨j, x, hx, ho, h3⟩
    · exact ⟨j, y, by rw [← get j z]; exact h1, h2, h3⟩
  · left
    have z : j ≠ i := fun z => by
      subst z
      have hj : e[j]? = some (.lk ds) := hj
      rw [hx] at hj
      cases hj
      exact hlk _ rfl
    exact ⟨by rw [show (Cf.mk F' σ H' (e.set i x')).e[j]? = (e.set i x')[j]? from rfl, get j z]; exact hj, hv⟩
  · have hj : (e.set i x')[j]? = some y := hj
    by_cases z : j = i
    · subst z
      rw [List.getElem?_set_self hi] at hj
      cases hj
      exact ⟨x, hx, by rw [← htg]; exact ht, rfl⟩
    · rw [get j z] at hj
      exact ⟨y, hj, ht, rfl⟩
  · by_cases z : j = i
    · subst z
      have hy : (e.set j x')[j]? = some y := hy
      rw [List.getElem?_set_self hi] at hy
      cases hy
      exact hc
    · have hy : (e.set i x')[j]? = some y := hy
      rw [get j z] at hy
      have k0 := S.cell j y hy
      have la : ∀ (b : Addr), y.own = true → σ[j]? = some (some (.ref b)) → b ≠ a := fun b hy' hb ee => z (S.inj j i y x a hy hx hy' ho (by rw [← ee]; exact hb) hσ)
      have nf : ∀ b, F b = none → H b ≠ none → F' b = none := fun b q1 q2 => by
        cases q : F' b with
        | none => rfl
        | some o => exact absurd (nw b q1 (by rw [q]; simp)) q2
      cases y with
      | un => trivial
      | sh d =>
        obtain ⟨u, z1, z2⟩ := k0
        exact ⟨u, z1, Rep.mono s1 z2⟩
      | ow es =>
        obtain ⟨b, z1, ws, z2, z3, z4⟩ := k0
        exact ⟨b, z1, ws, fr b _ z2 (la b rfl z1), nf b z3 (by have z2 : H b = _ := z2; rw [z2]; simp), z4.mono s1⟩
      | lk es =>
        obtain ⟨b, z1, ws, z2, z3, z4⟩ := k0
        exact ⟨b, z1, ws, fr b _ z2 (la b rfl z1), nf b z3 (by have z2 : H b = _ := z2; rw [z2]; simp), z4.mono s1⟩
      | io es =>
        obtain ⟨b, z1, ws, z2, z3, z4⟩ := k0
        exact ⟨b, z1, ws, fr b _ z2 (la b rfl z1), nf b z3 (by have z2 : H b = _ := z2; rw [z2]; simp), z4.mono s1⟩
      | bld c es =>
        obtain ⟨b, z1, dx, ws, z2, z3, z4, z5⟩ := k0
        exact ⟨b, z1, dx, ws, fr b _ z2 (la b rfl z1), z3, nf b z4 (by have z2 : H b = _ := z2; rw [z2]; simp), z5.mono s1⟩
  · have own : ∀ (j : Nat) (y : Cell), (e.set i x')[j]? = some y → y.own = true → ∃ y' : Cell, e[j]? = some y' ∧ y'.own = true := fun j y hy hoy => by
      by_cases z : j = i
      · subst z; exact ⟨x, hx, ho⟩
      · rw [get j z] at hy; exact ⟨y, hy, hoy⟩
    obtain ⟨y1', k1, k2⟩ := own j1 y1 h1 o1
    obtain ⟨y2', k3, k4⟩ := own j2 y2 h2 o2
    exact S.inj j1 j2 y1' y2' b k1 k3 k2 k4 t1 t2
theorem gE_callio {x y : Str} {k i : Nat} {f : FnI} {p py pos : Pos} {es : List Expr} {ms : En → R (List D × En)} (g : Gd G W cf lv X) (hf : G.P.fns[k]? = some f) (ht : f.top = true) (hx : f.name = x) (hl : es.length + 1 = f.ps.length)
    (hln : ∀ σ ds σ', ms σ = .ok (ds, σ') → ds.length = es.length) (hg : Gl X x) (hN : X.N[i]? = some y) (hv : Vis X.env.scope y) (hd : (y == ("__debug__" : Str)) = false) (hcd : (y == ("__classdict__" : Str)) = false)
    (ha : PA X es (tA G W ms)) (hdb : (x == ("__debug__" : Str)) = false) (he : starEach (.Name y py :: es) X.env = (false, eval (.Name y py) X.env) :: starEach es X.env) (hpl : (backTo pos (starEach es X.env)).any (·.1) = false) :
    PE X (.Call (.Name x p) (.Name y py :: es) [] pos) (tE G W fun σ => bnd ((getv i σ).map fun v => (v, σ)) fun _ σ => bnd (ms σ) fun ds σ => match σ[i]? with
    | some (.ow xs) => (match cf k (.io xs) ds with
      | .ok (.sh d, xs') => .ok (.sh d, σ.set i (.ow xs'))
      | .ok (.ow ys, xs') => .ok (.ow ys, σ.set i (.ow xs'))
      | .exc _ => .stuck
      | .stuck => .stuck)
    | some (.io xs) => (match cf k (.io xs) ds with
      | .ok (.sh d, xs') => .ok (.sh d, σ.set i (.io xs'))
      | .ok (.ow ys, xs') => .ok (.ow ys, σ.set i (.io xs'))
      | .exc _ => .stuck
      | .stuck => .stuck)
    | _ => .stuck) := by
  obtain ⟨fd, hF, hk, hb, _⟩ := g.fn hf
  have hm : X.mg x = some (.ref (G.fn k)) := by rw [← hx]; exact g.fa.gl k f hf ht
  refine PE.imp (pe_call hF (g.room.mono (by omega)) hg hm hk hb .nil g.pass (pa_cons (pe_var (i := i) hN hv hd hcd) ha he) hdb he hpl) fun σ H Q ⟨F, e0, S, h⟩ => ?_
  show tVar i σ H (fun x H1 => tA G W ms σ H1 fun xs H2 => spD G cf k ((x :: xs) ++ []) H2 Q W)
  have hv0 : ∃ v, σ[i]? = some (some v) := by
    unfold getv at h
    dsimp only at h
    cases hx : e0[i]? with
    | none => rw [hx] at h; exact h.elim
    | some x =>
      have k := S.cell i x hx
      rw [hx] at h
      cases x with
      | un => exact h.elim
      | bld c ds => exact h.elim
      | sh d => obtain ⟨v, q1, q2⟩ := k; exact ⟨v, q1⟩
      | ow ds => obtain ⟨v, q1, q2⟩ := k; exact ⟨_, q1⟩
      | lk ds => obtain ⟨v, q1, q2⟩ := k; exact ⟨_, q1⟩
      | io ds => obtain ⟨v, q1, q2⟩ := k; exact ⟨_, q1⟩
  have h : PostE G W ⟨F, σ, H, e0⟩ Q (bnd (ms e0) fun ds σ => match σ[i]? with
    | some (.ow xs) => (match cf k (.io xs) ds with
      | .ok (.sh d, xs') => .ok (.sh d, σ.set i (.ow xs'))
      | .ok (.ow ys, xs') => .ok (.ow ys, σ.set i (.ow xs'))
      | .exc _ => .stuck
      | .stuck => .stuck)
    | some (.io xs) => (match cf k (.io xs) ds with
      | .ok (.sh d, xs') => .ok (.sh d, σ.set i (.io xs'))
      | .ok (.ow ys, xs') => .ok (.ow ys, σ.set i (.io xs'))
      | .exc _ => .stuck
      | .stuck => .stuck)
    | _ => .stuck) := by
    cases hg : getv i e0 with
    | ok v => simp only [hg] at h; exact h
    | exc x => unfold getv at hg; split at hg <;> cases hg
    | stuck => simp only [hg] at h; exact h.elim
  cases hm : ms e0 with
  | ok p =>
    obtain ⟨ds, e1⟩ := p
    simp only [hm] at h
    -- what the slot holds then; the slot's value does not change
    have key : ∀ (mk : List D → Cell), (∀ xs ds, mk xs ≠ .lk ds) → (∀ xs, (mk xs).own = true) → (∀ xs ys, (mk xs).tag = (mk ys).tag) → (∀ F H s xs, CellOk G F H s (mk xs) ↔ ∃ a, s = some (some (.ref a)) ∧ LstAt G F H xs a) → ∀ xs, e1[i]? = some (mk xs) →
        PostE G W ⟨F, σ, H, e0⟩ Q (match cf k (.io xs) ds with
          | .ok (.sh d, xs') => .ok (.sh d, e1.set i (mk xs'))
          | .ok (.ow ys, xs') => .ok (.ow ys, e1.set i (mk xs'))
          | .exc _ => .stuck
          | .stuck => .stuck) → (∃ v, σ[i]? = some (some v)) → tVar i σ H (fun x H1 => tA G W ms σ H1 fun xs H2 => spD G cf k ((x :: xs) ++ []) H2 Q W) := by
      intro mk hnl ho htg hc xs hi hp ⟨v, hv⟩
      refine ⟨v, hv, F, e0, S, ?_⟩
      rw [hm]
      intro vs F1 H1 st1 S1 r1
      obtain ⟨a, q1, q2⟩ := (hc _ _ _ _).mp (S1.cell i _ hi)
      have q1 : σ[i]? = some (some (.ref a)) := q1
      rw [hv] at q1; cases q1
      have hp1 := PostE.next hp st1 rfl
      rw [List.append_nil]
      refine ⟨f, hf, by rw [List.length_cons, r1.length, hln _ _ _ hm, hl], F1, .io xs, ds, S1.sub, ⟨a, vs, rfl, q2, r1⟩, ?_⟩
      cases hr : cf k (.io xs) ds with
      | ok p =>
        obtain ⟨r, xs'⟩ := p
        rw [hr] at hp1
        intro u F' H' s1 s2 fr nw dm fp vrr
        obtain ⟨a', r', ea, fp⟩ := fp
        cases ea
        obtain ⟨st, S2⟩ := S1.ioEnd (x' := mk xs') hi (hnl _) (ho _) (ho _) (htg _ _) hv s1 s2 (fun b o hb hne => fr b o hb fun ⟨r', z⟩ => by cases z; exact hne rfl) nw dm ((hc _ _ _ _).mpr ⟨a, hv, fp⟩)
        cases r with
        | sh d => exact hp1 u F' H' st S2 vrr
        | ow ys =>
          refine hp1 u F' H' st S2 ?_
          obtain ⟨b, t1, t2, e3⟩ := vrr
          refine ⟨b, t1, t2, fun w => ?_, e3⟩
          rcases st.w b w with z | z
          · exact (S1.wh z).1 e3
          · obtain ⟨j, y, w1, w2, w3⟩ := w
            have w3 : σ[j]? = some (some (.ref b)) := w3
            have own : ∃ y' : Cell, e1[j]? = some y' ∧ y'.own = true := by
              by_cases zz : j = i
              · subst zz; exact ⟨_, hi, ho _⟩
              · have w1 : (List.set _ i (mk xs'))[j]? = some y := w1
                rw [List.getElem?_set_ne (Ne.symm zz)] at w1
                exact ⟨y, w1, w2⟩
            obtain ⟨y', w4, w5⟩ := own
            exact (S1.wh ⟨j, y', w4, w5, w3⟩).1 e3
      | exc x => rw [hr] at hp1; exact hp1.elim
      | stuck => rw [hr] at hp1; exact hp1.elim
    rw [bnd_ok] at h
    split at h
    · rename_i xs hi
      exact key .ow (fun _ _ z => by cases z) (fun _ => rfl) (fun _ _ => rfl) (fun _ _ _ _ => Iff.rfl) xs hi h hv0
    · rename_i xs hi
      exact key .io (fun _ _ z => by cases z) (fun _ => rfl) (fun _ _ => rfl) (fun _ _ _ _ => Iff.rfl) xs hi h hv0
    · exact h.elim
  | exc x =>
    simp only [hm] at h
    obtain ⟨v, hv⟩ := hv0
    refine ⟨v, hv, F, e0, S, ?_⟩
    rw [hm]
    exact h
  | stuck => simp only [hm] at h; exact h.elim
end
end PV
set_option Elab.async false
set_option linter.all false
set_option maxRecDepth 100000
namespace PV
open PySem PySem.Spec PyProof.Rows L2
section
variable {G : Gb} {W : XK} {X : Cx} {cf : CF} {lv : Nat} {F F' H H' : Hp}
/-! ## a new instance -/
theorem gE_mk {x : Str} {c : Nat} {C : ClsI} {f : FnI} {dv : List Int} {p pos : Pos} {e : Expr} {es : List Expr} {ms : En → R (List D × En)} (g : Gd G W cf lv X) (hC : G.P.cls[c]? = some C) (hf : G.P.fns[C.init]? = some f) (hx : C.name = x)
    (hl : (e :: es).length + dv.length + 1 = f.ps.length) (hdv : dv = [] ∨ dv = f.dv)
    (hln : ∀ σ ds σ', ms σ = .ok (ds, σ') → ds.length = (e :: es).length) (hg : Gl X x) (ha : PA X (e :: es) (tA G W ms)) (hdb : (x == ("__debug__" : Str)) = false) (he : starEach (e :: es) X.env = (false, eval e X.env) :: starEach es X.env) (hpl : (backTo pos (starEach es X.env)).any (·.1) = false) :
    PE X (.Call (.Name x p) (e :: es) [] pos) (tE G W fun σ => bnd (ms σ) fun ds σ => match G.P.cls[c]? with
      | some C => lift ((cf C.init (.bld c) (ds ++ dv.map D.int)).bind fun p => mkD c C.flds.length p) σ
      | none => .stuck) := by
  obtain ⟨fd, hF, hk, hb0, hb1⟩ := g.fn hf
  have ck := g.fa.cls c C hC
  have hm : X.mg x = some (.ref (G.cls c)) := by rw [← hx]; exact ck.gl
  have hb : ∃ ds, Vals (dv.map V.int) ds ∧ Binds X.K fd f.ps ds := by
    by_cases z : dv = []
    · subst z; exact ⟨[], .nil, hb0⟩
    · rcases hdv with q | q
      · exact absurd q z
      · subst q; exact hb1 z
  obtain ⟨dsv, hvd, hb⟩ := hb
  have repD : ∀ F, Reps G F (dv.map D.int) (dv.map V.int) := fun F => by
    clear hdv hl hvd
    induction dv with
    | nil => exact Reps.nil
    | cons a r ih => exact .cons (by simp only [Rep]) ih
  have mk' : Mk X.K (G.cls c) (G.fn C.init) := by rw [g.kK]; exact ck.mkr
  refine PE.imp (pe_make mk' hF (g.room.mono (by omega)) hg hm hb hvd g.pass ha hdb he hpl) fun σ H Q ⟨F, e0, S, h⟩ => ?_
  refine ⟨F, e0, S, ?_⟩
  cases hm : ms e0 with
  | exc x => simp only [hm] at h; exact h
  | stuck => simp only [hm] at h; exact h
  | ok p =>
    obtain ⟨ds, e1⟩ := p
    simp only [hm, hC] at h
    intro vs F1 H1 st1 S1 r1
    have h1 := PostE.next h st1 rfl
    rw [bnd_ok] at h1
    intro y dx ny ndx nex
    have S2 : Same F1 (upd (upd H1 dx (.own y)) y (.ins (G.cls c) dx [])) := fun b o hb => by
      have q := S1.sub b o hb
      have n1 : b ≠ y := fun z => by
        have q : H1 b = some o := q
        rw [z, ny] at q; cases q
      have n2 : b ≠ dx := fun z => by
        have q : H1 b = some o := q
        rw [z, ndx] at q; cases q
      rw [upd_ne n1, upd_ne n2]; exact q
    refine ⟨f, hf, ?_, F1, .bld c, ds ++ dv.map D.int, S2, ⟨y, _, rfl, ⟨dx, [], ?_, Nat.zero_le _, ?_, Reps.nil⟩, r1.append (repD F1)⟩, ?_⟩
    · rw [List.length_cons, List.length_append, r1.length, hln _ _ _ hm, List.length_map, ← hl]
    · rw [upd_same]; simp
    · exact S1.sub.free ny
    · cases hr : cf C.init (.bld c) (ds ++ dv.map D.int) with
      | exc z =>
        rw [hr] at h1
        intro cls d H' fr xa
        refine h1 cls d H' (fun b o hb hw => fr b o ?_ ?_) xa
        · have hb : H1 b = some o := hb
          rw [upd_ne (fun z => by rw [z, ny] at hb; cases hb), upd_ne (fun z => by rw [z, ndx] at hb; cases hb)]
          exact hb
        · rintro ⟨r, z⟩
          cases z
          have hb : H1 y = some o := hb
          rw [ny] at hb; cases hb
      | stuck => rw [hr] at h1; exact h1.elim
      | ok p =>
        obtain ⟨r, xs⟩ := p
        rw [hr] at h1
        rw [R.bind_ok] at h1
        unfold mkD at h1
        dsimp only at h1
        split at h1
        · split at h1
          · rename_i hxl
            intro v F' H' s1 s2 fr nw dm fp vrr
            obtain ⟨a, r', ea, dx', vs', q1, q2, q3, q4⟩ := fp
            cases ea
            have vn : v = .non := by
              have vrr : Rep G F' .non v := vrr
              simpa only [Rep] using vrr
            refine ⟨vn, ?_⟩
            have keep : ∀ b o, H1 b = some o → H' b = some o := fun b o hb => by
              refine fr b o ?_ ?_
              · rw [upd_ne (fun z => by rw [z, ny] at hb; cases hb), upd_ne (fun z => by rw [z, ndx] at hb; cases hb)]
                exact hb
              · rintro ⟨r, z⟩
                cases z
                rw [ny] at hb; cases hb
            have sm : Same F' (upd F' y (.ins (G.cls c) dx' ((clsF G.P c).zip vs'))) := fun b u hb => by
              have : b ≠ y := fun z => by rw [z, q3] at hb; cases hb
              rw [upd_ne this]; exact hb
            have st : StepV F1 H1 (upd F' y (.ins (G.cls c) dx' ((clsF G.P c).zip vs'))) H' := by
              refine ⟨s1.trans sm, fun b u hb => ?_, keep, fun b hb hb' => ?_⟩
              · by_cases z : b = y
                · subst z; rw [upd_same] at hb; rw [← hb]; exact q1
                · rw [upd_ne z] at hb; exact s2 b u hb
              · by_cases z : b = y
                · subst z; exact ny
                · rw [upd_ne z] at hb'
                  have := nw b hb hb'
                  by_cases z2 : b = dx
                  · subst z2; exact ndx
                  · rw [upd_ne z, upd_ne z2] at this; exact this
            refine h1 (.ref y) _ _ st.step (st.sim S1) ?_
            show Rep G _ (.obj c xs) (.ref y)
            simp only [Rep]
            have hcf : clsF G.P c = C.flds := by unfold clsF; rw [hC]
            exact ⟨y, dx', vs', rfl, upd_same, ⟨C, hC⟩, by rw [q4.length, hcf]; exact hxl, q4.mono sm⟩
          · exact h1.elim
        · exact h1.elim
/-! ## methods -/
def noSuper : Expr → Bool
  | .Call _ [] _ _ => false
  | _ => true
theorem attrBase {o : Expr} {m : Str} {env : PySem.Env} {whole : Sem Value} (h : noSuper o = true) : attributeBase o m env whole = whole := by
  unfold attributeBase
  cases o <;> try rfl
  rename_i f args kws pos
  cases args with
  | nil => cases h
  | cons a r => cases f <;> rfl
theorem mcallForm {o : Expr} {m : Str} {apos pos : Pos} {env : PySem.Env} {ov : Value} {n : Nat} {args : List (Bool × Sem Value)} {kws : List (Option Str × Sem Value)} (hf : methodCallForm n args kws = true) (hl : (apos.endLine == pos.line) = true) :
    methodCall o m apos pos env ov n args kws = (do
      let (f, first) ← holding [ov] (getMethod ov m (do return (← importBound o env).getD true))
      callWith pos f first args kws) := by
  have e1 : calleeOf (methodCallForm n args kws) o env ov m = getMethod ov m (do return (← importBound o env).getD true) := by
    rw [hf] <;> rfl
  have e2 : methodCallPos (methodCallForm n args kws) o env apos pos = pure pos := by
    unfold methodCallPos
    exact if_pos (by rw [hl, Bool.or_true])
  unfold methodCall
  rw [e1, e2]
  first
    | rfl
    | simp only [pure_bind]
theorem lookup_zip {c : Nat} {vs : List V} {m : Str} : ∀ {fs : List Str} {vs : List V}, m ∉ fs → (fs.zip vs).lookup m = none
  | [], vs, _ => by simp
  | f :: fs, [], _ => by simp
  | f :: fs, v :: vs, h => by
    simp only [List.mem_cons, not_or] at h
    rw [List.zip_cons_cons, List.lookup_cons]
    have : (m == f) = false := by simpa using h.1
    rw [this]
    exact lookup_zip (c := c) (vs := vs) h.2
/-- the reading of a method call -/
theorem methI {c : Nat} {C : ClsI} {m : Str} {k : Nat} {f : FnI} {ma : En → R (Vl × En)} {ms : En → R (List D × En)} {n : Nat} {σ : Sg} {Q : VK} (g : Gd G W cf lv X) (hC : G.P.cls[c]? = some C) (hme : C.meths.lookup m = some k) (hf : G.P.fns[k]? = some f) (hl : n + 1 = f.ps.length)
    (hln : ∀ σ ds σ', ms σ = .ok (ds, σ') → ds.length = n)
    (h : tE G W (fun σ => bnd (ma σ) fun va σ => bnd (pk (hold va) σ) fun x σ => match x with
      | .obj c' xs => if c' = c then (match clsM G.P c m with
        | some k => bnd (ms σ) fun ds σ => lift ((cf k .no (.obj c xs :: ds)).map fun p => vr p.1) σ
        | none => .stuck) else .stuck
      | _ => .stuck) σ H Q) : tMeth (G.cls c) m (spD G cf k) [] W (tE G W ma) (tA G W ms) σ H Q := by
  obtain ⟨F, e, S, h⟩ := h
  have ck := g.fa.cls c C hC
  have hcm : clsM G.P c m = some k := by unfold clsM; rw [hC]; exact hme
  refine oneI (Post := fun c r => PostE G W c Q r) PostE.hx (fun _ z => z) (fun h s e => PostE.next h s e) S h fun F1 H1 e1 x v st S1 rx h1 => ?_
  cases x with
  | obj c' xs =>
    dsimp only at h1
    split at h1
    · rename_i ec
      subst ec
      rw [hcm] at h1
      have rp := rx.obj
      have rp2 := rp
      simp only [Rep] at rp2
      obtain ⟨a, dx, vs, rfl, q1, _, q2, q3⟩ := rp2
      refine ⟨a, dx, _, rfl, S1.sub _ _ q1, lookup_zip (c := c') (vs := vs) (by
        have := ck.mf m k hme
        unfold clsF
        rw [hC]
        exact this), F1, e1, S1, ?_⟩
      cases hm : ms e1 with
      | exc z => simp only [hm] at h1; exact h1
      | stuck => simp only [hm] at h1; exact h1
      | ok p =>
        obtain ⟨ds, e2⟩ := p
        simp only [hm] at h1
        intro ws F2 H2 st2 S2 r2
        have h2 := PostE.next h1 st2 rfl
        rw [List.append_nil]
        exact ⟨f, hf, by rw [List.length_cons, r2.length, hln _ _ _ hm, hl], F2, .no, .obj c' xs :: ds, S2.sub, .cons (Rep.mono st2.f rp) r2, PostF.ofE S2 h2⟩
    · exact h1.elim
  | _ => exact h1.elim
theorem gE_meth {c : Nat} {C : ClsI} {m : Str} {k : Nat} {f : FnI} {o e : Expr} {es : List Expr} {apos pos : Pos} {ma : En → R (Vl × En)} {ms : En → R (List D × En)} (g : Gd G W cf lv X) (hC : G.P.cls[c]? = some C) (hme : C.meths.lookup m = some k) (hf : G.P.fns[k]? = some f) (hl : (e :: es).length + 1 = f.ps.length)
    (hln : ∀ σ ds σ', ms σ = .ok (ds, σ') → ds.length = (e :: es).length) (ho : PE X o (tE G W ma)) (ha : PA X (e :: es) (tA G W ms)) (hs : noSuper o = true)
    (hfm : methodCallForm ((e :: es).length + 0) (backTo pos (starEach (e :: es) X.env)) (backToKw pos (keywordEach [] X.env)) = true) (hln' : (apos.endLine == pos.line) = true)
    (he : starEach (e :: es) X.env = (false, eval e X.env) :: starEach es X.env) (hpl : (backTo pos (starEach es X.env)).any (·.1) = false) :
    PE X (.Call (.Attribute o m apos) (e :: es) [] pos) (tE G W fun σ => bnd (ma σ) fun va σ => bnd (pk (hold va) σ) fun x σ => match x with
      | .obj c' xs => if c' = c then (match clsM G.P c m with
        | some k => bnd (ms σ) fun ds σ => lift ((cf k .no (.obj c xs :: ds)).map fun p => vr p.1) σ
        | none => .stuck) else .stuck
      | _ => .stuck) := by
  obtain ⟨fd, hF, hk, hb, _⟩ := g.fn hf
  have ck := g.fa.cls c C hC
  have cl : Cls X.K (G.cls c) := by rw [g.kK]; exact ck.cl
  have me : Meth X.K (G.cls c) m (G.fn k) := by rw [g.kK]; exact ck.me m k hme
  refine PE.imp (pe_meth (pl := do return (← importBound o X.env).getD true) ho cl me hF (g.room.mono (by omega)) hb .nil g.pass ha he hpl ?_) fun σ H Q h => methI g hC hme hf hl hln h
  show (do
    let ov ← attributeBase o m X.env (eval o X.env)
    standAt apos.atName
    methodCall o m apos pos X.env ov ((e :: es).length + ([] : List Keyword).length) (backTo pos (starEach (e :: es) X.env)) (backToKw pos (keywordEach [] X.env))) = _
  rw [attrBase hs]
  have e1 : ∀ ov, methodCall o m apos pos X.env ov ((e :: es).length + ([] : List Keyword).length) (backTo pos (starEach (e :: es) X.env)) (backToKw pos (keywordEach [] X.env)) = _ := fun ov => mcallForm hfm hln'
  simp only [e1]
theorem gE_meth0 {c : Nat} {C : ClsI} {m : Str} {k : Nat} {f : FnI} {o : Expr} {apos pos : Pos} {ma : En → R (Vl × En)} (g : Gd G W cf lv X) (hC : G.P.cls[c]? = some C) (hme : C.meths.lookup m = some k) (hf : G.P.fns[k]? = some f) (hl : 1 = f.ps.length)
    (ho : PE X o (tE G W ma)) (hs : noSuper o = true)
    (hfm : methodCallForm (0 + 0) (backTo pos (starEach [] X.env)) (backToKw pos (keywordEach [] X.env)) = true) (hln' : (apos.endLine == pos.line) = true) :
    PE X (.Call (.Attribute o m apos) [] [] pos) (tE G W fun σ => bnd (ma σ) fun va σ => bnd (pk (hold va) σ) fun x σ => match x with
      | .obj c' xs => if c' = c then (match clsM G.P c m with
        | some k => bnd (.ok ([], σ)) fun ds σ => lift ((cf k .no (.obj c xs :: ds)).map fun p => vr p.1) σ
        | none => .stuck) else .stuck
      | _ => .stuck) := by
  obtain ⟨fd, hF, hk, hb, _⟩ := g.fn hf
  have ck := g.fa.cls c C hC
  have cl : Cls X.K (G.cls c) := by rw [g.kK]; exact ck.cl
  have me : Meth X.K (G.cls c) m (G.fn k) := by rw [g.kK]; exact ck.me m k hme
  refine PE.imp (pe_meth0 (pl := do return (← importBound o X.env).getD true) ho cl me hF (g.room.mono (by omega)) hb .nil g.pass ?_) fun σ H Q h => ?_
  · show (do
      let ov ← attributeBase o m X.env (eval o X.env)
      standAt apos.atName
      methodCall o m apos pos X.env ov (([] : List Expr).length + ([] : List Keyword).length) (backTo pos (starEach [] X.env)) (backToKw pos (keywordEach [] X.env))) = _
    rw [attrBase hs]
    have e1 : ∀ ov, methodCall o m apos pos X.env ov (([] : List Expr).length + ([] : List Keyword).length) (backTo pos (starEach [] X.env)) (backToKw pos (keywordEach [] X.env)) = _ := fun ov => mcallForm hfm hln'
    simp only [e1]
  · have z := methI (n := 0) (ms := fun σ => .ok ([], σ)) g hC hme hf (by simpa using hl) (fun σ ds σ' e => by cases e; rfl) h
    unfold tMeth at z ⊢
    obtain ⟨F, e0, S, p⟩ := z
    refine ⟨F, e0, S, ?_⟩
    cases hm : ma e0 with
    | exc x => rw [hm] at p; exact p
    | stuck => rw [hm] at p; exact p
    | ok q =>
      obtain ⟨vl, e1⟩ := q
      rw [hm] at p
      intro v F1 H1 st1 S1 r1
      obtain ⟨a, dx, fs, e2, e3, e4, F2, e5, S2, p2⟩ := p v F1 H1 st1 S1 r1
      exact ⟨a, dx, fs, e2, e3, e4, p2 [] F2 H1 Step.rfl' S2 Reps.nil⟩
/-! ## fields, slices -/
theorem gE_fld {o : Expr} {f : Str} {pos : Pos} {ma : En → R (Vl × En)} (g : Gd G W cf lv X) (ho : PE X o (tE G W ma)) (hs : noSuper o = true) :
    PE X (.Attribute o f pos) (tE G W fun σ => bnd (ma σ) fun va σ => bnd (pk (hold va) σ) fun x σ => match x with
      | .obj c ds => (match ((clsF G.P c).zip ds).lookup f with
        | some d => .ok (.sh d, σ)
        | none => .stuck)
      | _ => .stuck) := by
  refine PE.imp (pe_fld ho (attrBase hs)) fun σ H Q ⟨F, e, S, h⟩ => ?_
  refine oneI (Post := fun c r => PostE G W c Q r) PostE.hx (fun _ z => z) (fun h s e => PostE.next h s e) S h fun F1 H1 e1 x v st S1 rx h1 => ?_
  cases x with
  | obj c ds =>
    have rp := rx.obj
    simp only [Rep] at rp
    obtain ⟨a, dx, vs, rfl, q1, ⟨C, hC⟩, q2, q3⟩ := rp
    dsimp only at h1
    split at h1
    · rename_i d hd
      have hfl : ∀ {fs : List Str} {ds : List D} {vs : List V}, Reps G F1 ds vs → (fs.zip ds).lookup f = some d → ∃ v, (fs.zip vs).lookup f = some v ∧ Rep G F1 d v ∧ f ∈ fs := by
        intro fs
        induction fs with
        | nil => intro ds vs _ h; simp at h
        | cons y fs ih =>
          intro ds vs r h
          cases ds with
          | nil => simp at h
          | cons d0 ds =>
            simp only [Reps] at r
            obtain ⟨v0, r0, rfl, r1, r2⟩ := r
            rw [List.zip_cons_cons, List.lookup_cons] at h ⊢
            cases e : (f == y) with
            | true =>
              rw [e] at h
              cases h
              exact ⟨v0, rfl, r1, by rw [eq_of_beq e]; exact List.mem_cons_self⟩
            | false =>
              rw [e] at h
              obtain ⟨u, h1, h2, h3⟩ := ih r2 h
              exact ⟨u, h1, h2, List.mem_cons_of_mem _ h3⟩
      obtain ⟨u, e1, e2, e3⟩ := hfl q3 hd
      have ck := g.fa.cls c C hC
      have e3' : f ∈ C.flds := by unfold clsF at e3; rw [hC] at e3; exact e3
      exact ⟨a, G.cls c, dx, _, u, rfl, S1.sub _ _ q1, by rw [g.kK]; exact ck.cl, by rw [g.kK]; exact ck.no f e3', e1, PostE.sh S1 e2 h1⟩
    · exact h1.elim
  | _ => exact h1.elim
def PostO (G : Gb) (W : XK) (c : Cf) (Q : Option Int → Hp → Prop) : R (Option Int × En) → Prop
  | .ok (b, e') => ∀ F' H', Step G c ⟨F', c.σ, H', e'⟩ → Sim G ⟨F', c.σ, H', e'⟩ → Q b H'
  | .exc x => ∀ cls d H', (∀ b o, c.H b = some o → ¬ c.W b → H' b = some o) → XAt G x cls d H' → W cls d H'
  | .stuck => False
def tO (G : Gb) (W : XK) (m : En → R (Option Int × En)) : TO := fun σ H Q => ∃ F e, Sim G ⟨F, σ, H, e⟩ ∧ PostO G W ⟨F, σ, H, e⟩ Q (m e)
theorem PostO.hx {Q : Option Int → Hp → Prop} : ∀ (c : Cf) x, PostO G W c Q (.exc x) → ∀ cls d H', (∀ b o, c.H b = some o → ¬ c.W b → H' b = some o) → XAt G x cls d H' → W cls d H' := fun _ _ h => h
theorem PostO.next {c c1 : Cf} {Q : Option Int → Hp → Prop} {r : R (Option Int × En)} (h : PostO G W c Q r) (s : Step G c c1) (e : c1.σ = c.σ) : PostO G W c1 Q r := by
  cases r with
  | ok p =>
    obtain ⟨vl, e'⟩ := p
    intro F' H' st S
    rw [e] at st S
    exact h F' H' (s.trans st) S
  | exc x =>
    intro cls d H' fr xa
    exact h cls d H' (fun b o hb hw => fr b o (s.frame b o hb hw) fun w => (s.w b w).elim hw fun z => by rw [hb] at z; cases z) xa
  | stuck => exact h
theorem PostO.bind {c : Cf} {m : R (Option Int × En)} {α : Type} {k : Option Int → En → R (α × En)} {Post : R (α × En) → Prop} {Q' : Option Int → Hp → Prop} (hx : ∀ x, Post (.exc x) → ∀ cls d H', (∀ b o, c.H b = some o → ¬ c.W b → H' b = some o) → XAt G x cls d H' → W cls d H') (hs : ¬ Post .stuck) (h : Post (bnd m k))
    (hk : ∀ b e' F' H', Step G c ⟨F', c.σ, H', e'⟩ → Sim G ⟨F', c.σ, H', e'⟩ → Post (k b e') → Q' b H') : PostO G W c Q' m := by
  cases m with
  | ok p =>
    obtain ⟨b, e'⟩ := p
    intro F' H' st S
    exact hk b e' F' H' st S h
  | exc x => exact hx x h
  | stuck => exact (hs h).elim
theorem gO_none : PO X none (tO G W fun σ => .ok (none, σ)) := PO.imp po_none fun σ H Q ⟨F, e, S, h⟩ => h F H Step.rfl' S
theorem gO_some {a : Expr} {ma : En → R (Vl × En)} (ha : PE X a (tE G W ma)) : PO X (some a) (tO G W fun σ => bnd (ma σ) fun v σ => toI v σ) := by
  refine PO.imp (po_some ha) fun σ H Q ⟨F, e, S, h⟩ => ?_
  refine ⟨F, e, S, PostE.mk (r := .stuck) (Post := PostO G W _ Q) _ _ (PostO.hx _) (fun z => z) h fun va e1 v F1 H1 st1 S1 r1 h1 => ?_⟩
  cases va with
  | sh d =>
    cases d with
    | int b =>
      have r1 : Rep G F1 (.int b) v := r1
      simp only [Rep] at r1
      exact ⟨b, r1, h1 F1 H1 st1 S1⟩
    | _ => exact h1.elim
  | ow ds => exact h1.elim
  | sl i => exact h1.elim
theorem gE_slc {a : Expr} {lo hi : Option Expr} {p2 pos : Pos} {ma : En → R (Vl × En)} {ml mh : En → R (Option Int × En)} (g : Gd G W cf lv X) (ha : PE X a (tE G W ma)) (hl : PO X lo (tO G W ml)) (hh : PO X hi (tO G W mh)) :
    PE X (.Subscript a (.Slice lo hi none p2) pos) (tE G W fun σ => bnd (ma σ) fun va σ => bnd (ml σ) fun l σ => bnd (mh σ) fun h σ => bnd (pk (hold va) σ) fun x σ => lift ((slcD x l h).map vr) σ) := by
  refine PE.imp (pe_slice (slr (W := W) g.kK) ha hl hh) fun σ H Q ⟨F, e, S, h⟩ => ?_
  refine ⟨F, e, S, PostE.mk (r := .stuck) (Post := PostE G W _ Q) _ _ (PostE.hx _) (fun z => z) h fun va e1 v F1 H1 st1 S1 r1 h1 => ?_⟩
  obtain ⟨F1', st1', S1', r1'⟩ := hold_ok st1 S1 r1
  have h1' := PostE.next h1 st1' rfl
  refine ⟨F1', e1, S1', PostO.bind (Post := PostE G W _ Q) (PostE.hx _) (fun z => z) h1' fun l e2 F2 H2 st2 S2 h2 => ?_⟩
  refine ⟨F2, e2, S2, PostO.bind (Post := PostE G W _ Q) (PostE.hx _) (fun z => z) (PostE.next h2 st2 rfl) fun u e3 F3 H3 st3 S3 h3 => ?_⟩
  have h3' := PostE.next h3 st3 rfl
  obtain ⟨x, rx, h4⟩ := pk_ok (Post := PostE G W ⟨F3, σ, H3, e3⟩ Q) (fun z => z) S3 (hold_mono (H1 := H1) (st2.f.trans st3.f) r1') h3'
  exact ⟨F3, x, S3.sub, rx, PostE.lift S3 h4⟩
end
end PV
set_option Elab.async false
set_option linter.all false
set_option maxRecDepth 100000
namespace PV
open PySem PySem.Spec PyProof.Rows L2
section
variable {G : Gb} {W : XK} {X : Cx} {cf : CF} {lv : Nat} {F F' H H' : Hp}
theorem chainI {op op' : CmpOp} {ma mb mc : En → R (Vl × En)} {m m' : D → D → R Bool} {σ : Sg} {Q : VK}
    (h : tE G W (fun σ => bnd (ma σ) fun va σ => bnd (mb σ) fun vb σ => bnd (pk (hold va) σ) fun x σ => bnd (pk (hold vb) σ) fun y σ => bnd (lift (m x y) σ) fun r σ => match r with
      | true => bnd (mc σ) fun vc σ => bnd (pk (hold vb) σ) fun y σ => bnd (pk (hold vc) σ) fun z σ => lift ((m' y z).map fun b => Vl.sh (.bl b)) σ
      | false => .ok (.sh (.bl false), σ)) σ H Q) :
    tChain (r2D G W (blR m)) (r2D G W (blR m')) (tE G W ma) (tE G W mb) (tE G W mc) σ H Q := by
  obtain ⟨F, e, S, h⟩ := h
  refine ⟨F, e, S, PostE.mk (r := .stuck) (Post := PostE G W _ Q) _ _ (PostE.hx _) (fun z => z) h fun va e1 v F1 H1 st1 S1 r1 h1 => ?_⟩
  obtain ⟨F1', st1', S1', r1'⟩ := hold_ok st1 S1 r1
  refine ⟨F1', e1, S1', PostE.mk (r := .stuck) (Post := PostE G W _ Q) _ _ (PostE.hx _) (fun z => z) (PostE.next h1 st1' rfl) fun vb e2 u F2 H2 st2 S2 r2 h2 => ?_⟩
  obtain ⟨F2', st2', S2', r2'⟩ := hold_ok st2 S2 r2
  have h2' := PostE.next h2 st2' rfl
  obtain ⟨x, rx, h3⟩ := pk_ok (Post := PostE G W ⟨F2', σ, H2, e2⟩ Q) (fun z => z) S2' (hold_mono (H1 := H1) st2'.f r1') h2'
  obtain ⟨y, ry, h4⟩ := pk_ok (Post := PostE G W ⟨F2', σ, H2, e2⟩ Q) (fun z => z) S2' r2' h3
  refine ⟨F2', x, y, S2'.sub, rx, ry, ?_⟩
  unfold blR
  cases hm : m x y with
  | exc z => rw [hm] at h4; exact fun cls d H' s xa => h4 cls d H' (fun b o hb _ => s b o hb) xa
  | stuck => rw [hm] at h4; exact h4.elim
  | ok b =>
    rw [hm] at h4
    intro z F3 H3 sv rz
    have rz : Rep G F3 (.bl b) z := rz
    simp only [Rep] at rz
    subst rz
    refine ⟨b, rfl, ?_⟩
    have S3 := sv.sim S2'
    have h5 := PostE.next h4 sv.step rfl
    cases b with
    | false => exact PostE.bl S3 h5
    | true =>
      refine ⟨F3, e2, S3, PostE.mk (r := .stuck) (Post := PostE G W _ Q) _ _ (PostE.hx _) (fun z => z) h5 fun vc e4 t F4 H4 st4 S4 r4 h6 => ?_⟩
      obtain ⟨F4', st4', S4', r4'⟩ := hold_ok st4 S4 r4
      have h6' := PostE.next h6 st4' rfl
      obtain ⟨y', ry', h7⟩ := pk_ok (Post := PostE G W ⟨F4', σ, H4, e4⟩ Q) (fun z => z) S4' (hold_mono (H1 := H1) (sv.f.trans st4'.f) r2') h6'
      obtain ⟨z, rz, h8⟩ := pk_ok (Post := PostE G W ⟨F4', σ, H4, e4⟩ Q) (fun z => z) S4' r4' h7
      exact ⟨F4', y', z, S4'.sub, ry', rz, PostE.lift S4' (by rw [lift_blv] at h8; exact h8)⟩
theorem gE_chain {a b c : Expr} {op op' : CmpOp} {pos : Pos} {ma mb mc : En → R (Vl × En)} {m m' : D → D → R Bool} (hm : lastMarks [op, op'] [b, c] = false) (ho : OpR X (compareOp op) (r2D G W (blR m))) (ho' : OpR X (compareOp op') (r2D G W (blR m'))) (ha : PE X a (tE G W ma)) (hb : PE X b (tE G W mb)) (hc : PE X c (tE G W mc)) :
    PE X (.Compare a [op, op'] [b, c] pos) (tE G W fun σ => bnd (ma σ) fun va σ => bnd (mb σ) fun vb σ => bnd (pk (hold va) σ) fun x σ => bnd (pk (hold vb) σ) fun y σ => bnd (lift (m x y) σ) fun r σ => match r with
      | true => bnd (mc σ) fun vc σ => bnd (pk (hold vb) σ) fun y σ => bnd (pk (hold vc) σ) fun z σ => lift ((m' y z).map fun b => Vl.sh (.bl b)) σ
      | false => .ok (.sh (.bl false), σ)) :=
  PE.imp (pe_chain ho ho' ha hb hc hm) fun σ H Q h => chainI (op := op) (op' := op') h
theorem gT_chain {a b c : Expr} {op op' : CmpOp} {pos : Pos} {ma mb mc : En → R (Vl × En)} {m m' : D → D → R Bool} (hm : lastMarks [op, op'] [b, c] = false) (ho : OpR X (compareOp op) (r2D G W (blR m))) (ho' : OpR X (compareOp op') (r2D G W (blR m'))) (ha : PE X a (tE G W ma)) (hb : PE X b (tE G W mb)) (hc : PE X c (tE G W mc)) :
    PT X (.Compare a [op, op'] [b, c] pos) (tT G W fun σ => bnd (bnd (ma σ) fun va σ => bnd (mb σ) fun vb σ => bnd (pk (hold va) σ) fun x σ => bnd (pk (hold vb) σ) fun y σ => bnd (lift (m x y) σ) fun r σ => match r with
      | true => bnd (mc σ) fun vc σ => bnd (pk (hold vb) σ) fun y σ => bnd (pk (hold vc) σ) fun z σ => lift ((m' y z).map fun b => Vl.sh (.bl b)) σ
      | false => .ok (.sh (.bl false), σ)) fun v σ => toB v σ) :=
  PT.imp (pt_chain ho ho' ha hb hc hm) fun σ H Q h => tstI (t := tChain (r2D G W (blR m)) (r2D G W (blR m')) (tE G W ma) (tE G W mb) (tE G W mc)) (fun Q h => chainI (op := op) (op' := op') h) h
/-! ## built-in functions -/
theorem pks_ok {σ : Sg} {H0 : Hp} {α : Type} {Post : R (α × En) → Prop} {e : En} (hs : ¬ Post .stuck) (S : Sim G ⟨F, σ, H, e⟩) : ∀ {ls : List Vl} {vs : List V} {k : List D → En → R (α × En)}, VRels G H0 ⟨F, σ, H, e⟩ vs ls → Post (bnd (pks ls e) k) →
    ∃ ds, Rd2s G F H ds vs ∧ Post (k ds e)
  | [], vs, k, r, h => by
    have r : vs = [] := r
    subst r
    exact ⟨[], rfl, h⟩
  | l :: ls, vs, k, r, h => by
    obtain ⟨v, us, rfl, r1, hl, r2⟩ := r
    have h : Post (bnd (bnd (pk l e) fun d σ => bnd (pks ls σ) fun ds σ => .ok (d :: ds, σ)) k) := h
    rw [hl] at r1
    have h2 : Post (bnd (pk l e) fun d σ => bnd (bnd (pks ls σ) fun ds σ => .ok (d :: ds, σ)) k) := by
      cases hp : pk l e with
      | ok p => rw [hp] at h; exact h
      | exc x => rw [hp] at h; exact h
      | stuck => rw [hp] at h; exact h
    obtain ⟨d, rd, h3⟩ := pk_ok (Post := Post) hs S r1 h2
    have h4 : Post (bnd (pks ls e) fun ds σ => k (d :: ds) σ) := by
      cases hp : pks ls e with
      | ok p => rw [hp] at h3; exact h3
      | exc x => rw [hp] at h3; exact h3
      | stuck => rw [hp] at h3; exact h3
    obtain ⟨ds, rds, h5⟩ := pks_ok hs S r2 h4
    exact ⟨d :: ds, ⟨v, us, rfl, rd, rds⟩, h5⟩
theorem bifI {b : Bif} {ms : En → R (List Vl × En)} {σ : Sg} {Q : VK} (h : tE G W (fun σ => bnd (ms σ) fun vs σ => bnd (pks vs σ) fun ds σ => lift ((bifD b ds).map vr) σ) σ H Q) : tCB (bifR G W b) (tP G W ms) σ H Q := by
  obtain ⟨F, e, S, h⟩ := h
  refine ⟨F, e, S, PostP.bind (Post := PostE G W _ Q) (PostE.hx _) (fun z => z) h fun ls e1 vs F1 H1 st1 S1 r1 h1 => ?_⟩
  obtain ⟨ds, rd, h2⟩ := pks_ok (Post := PostE G W ⟨F1, σ, H1, e1⟩ Q) (fun z => z) S1 r1 (PostE.next h1 st1 rfl)
  exact ⟨F1, ds, S1.sub, rd, PostE.lift S1 h2⟩
def bifN : Bif → Str
  | .len => "len" | .abs => "abs" | .int => "int" | .tup => "tuple" | .lst => "list" | .max2 => "max" | .min2 => "min" | .sum => "sum" | .all => "all" | .any => "any"
theorem gE_bif {b : Bif} {p pos : Pos} {e : Expr} {es : List Expr} {ms : En → R (List Vl × En)} (g : Gd G W cf lv X) (hg : Gl X (bifN b)) (hm : X.mg (bifN b) = none) (ha : PA X (e :: es) (tP G W ms))
    (he : starEach (e :: es) X.env = (false, eval e X.env) :: starEach es X.env) (hpl : (backTo pos (starEach es X.env)).any (·.1) = false) :
    PE X (.Call (.Name (bifN b) p) (e :: es) [] pos) (tE G W fun σ => bnd (ms σ) fun vs σ => bnd (pks vs σ) fun ds σ => lift ((bifD b ds).map vr) σ) := by
  cases b with
  | len => exact PE.imp (pe_callB (cr_len (W := W) g.kK) hg hm (by decide +kernel) ha (by decide) (by decide) he hpl) fun σ H Q h => bifI h
  | abs => exact PE.imp (pe_callB (cr_abs (G := G) (W := W)) hg hm (by decide +kernel) ha (by decide) (by decide) he hpl) fun σ H Q h => bifI h
  | int => exact PE.imp (pe_callTy (cr_int (G := G) (W := W)) hg hm (by decide +kernel) ha (by decide) (by decide) he hpl) fun σ H Q h => bifI h
  | tup => exact PE.imp (pe_callTy (cr_tup (W := W) g.kK) hg hm (by decide +kernel) ha (by decide) (by decide) he hpl) fun σ H Q h => bifI h
  | lst => exact PE.imp (pe_callTy (cr_lst (W := W) g.kK) hg hm (by decide +kernel) ha (by decide) (by decide) he hpl) fun σ H Q h => bifI h
  | max2 => exact PE.imp (pe_callB (cr_max2 (G := G) (W := W) g.calm) hg hm (by decide +kernel) ha (by decide) (by decide) he hpl) fun σ H Q h => bifI h
  | min2 => exact PE.imp (pe_callB (cr_min2 (G := G) (W := W) g.calm) hg hm (by decide +kernel) ha (by decide) (by decide) he hpl) fun σ H Q h => bifI h
  | sum => exact PE.imp (pe_callB (cr_sumD (W := W) g.calm g.kK) hg hm (by decide +kernel) ha (by decide) (by decide) he hpl) fun σ H Q h => bifI h
  | all => exact PE.imp (pe_callB (cr_allD (G := G) (W := W) g.calm) hg hm (by decide +kernel) ha (by decide) (by decide) he hpl) fun σ H Q h => bifI h
  | any => exact PE.imp (pe_callB (cr_anyD (G := G) (W := W) g.calm) hg hm (by decide +kernel) ha (by decide) (by decide) he hpl) fun σ H Q h => bifI h
/-! ## isinstance -/
def tyN : TyK → String
  | .int => "int" | .bool => "bool" | .str => "str" | .tup => "tuple" | .lst => "list" | .own _ => ""
def tyVal (G : Gb) : D → Value
  | .non => .type "NoneType" | .bl _ => .type "bool" | .int _ => .type "int" | .str _ => .type "str" | .tup _ => .type "tuple" | .lst _ => .type "list" | .obj c _ => .ref (G.cls c) | .dic => .type "dict"
  | _ => .none
/-- a value's type, for isinstance -/
theorem tyX {d : D} {v : V} (g : Gd G W cf lv X) (S : Same F H) (r : Rd2 G F H d v) (h1 : ∀ k, d ≠ .fn k) (h2 : ∀ k, d ≠ .ro k) :
    ∃ t, TyX X.K H v t ∧ t = tyVal G d := by
  cases d with
  | non => have e := r.non; subst e; exact ⟨_, .base .non, rfl⟩
  | bl b => have e := r.bl; subst e; exact ⟨_, .base (.bl b), rfl⟩
  | int i => have e := r.int; subst e; exact ⟨_, .base (.int i), rfl⟩
  | str z => have e := r.str; subst e; exact ⟨_, .base (.str z), rfl⟩
  | tup ds =>
    obtain ⟨a, vs, rfl, q, _, _⟩ := r.tup S
    refine ⟨.type "tuple", ?_, rfl⟩
    rcases q with (q | ⟨o, q⟩) | ⟨o, its, n, q1, q2, _⟩
    · exact .base (.tup q)
    · exact .fTuple q
    · exact .kTuple (by rw [g.kK]; exact q1) q2
  | lst ds =>
    obtain ⟨a, vs, rfl, q, _⟩ := r.lst S
    exact ⟨.type "list", .base (.lst q), rfl⟩
  | obj c ds =>
    have rp := r.obj
    simp only [Rep] at rp
    obtain ⟨a, dx, vs, rfl, q1, ⟨C, hC⟩, q2, q3⟩ := rp
    have ck := g.fa.cls c C hC
    refine ⟨.ref (G.cls c), ?_, rfl⟩
    have := g.kK
    exact .base (.ins (S _ _ q1) (by rw [this]; exact ck.cl) (by rw [this]; exact ck.ha) (by rw [this]; exact ck.hn) (by rw [this]; exact ck.htk) (by rw [this]; exact ck.hm))
  | dic =>
    rcases r with r | ⟨_, _, e, _⟩
    · simp only [Rep] at r
      obtain ⟨a, kvs, rfl, q⟩ := r
      exact ⟨.type "dict", .base (.dK (S _ _ q)), rfl⟩
    · cases e
  | fn k => exact absurd rfl (h1 k)
  | ro k => exact absurd rfl (h2 k)
def TyOk (G : Gb) : TyK → Prop
  | .own c => ∃ C, G.P.cls[c]? = some C
  | _ => True
def tyU (G : Gb) : TyK → Value
  | .own c => .ref (G.cls c)
  | t => .type (tyN t)
/-- what isinstance says -/
theorem kit_ok {d : D} {v : V} {t : TyK} (g : Gd G W cf lv X) (ht : TyOk G t) (S : Same F H) (r : Rd2 G F H d v) {b : Bool} (h : isiD t d = .ok b) :
    TyX X.K H v (tyVal G d) ∧ PySem.W.kitOne X.K (tyVal G d) (tyU G t) = some b := by
  have h1 : ∀ k, d ≠ .fn k := fun k z => by subst z; cases h
  have h2 : ∀ k, d ≠ .ro k := fun k z => by subst z; cases h
  obtain ⟨tt, ty, e⟩ := tyX g S r h1 h2
  have hb : b = isi1 t d := by
    unfold isiD at h
    split at h <;> cases h
    rfl
  subst hb
  subst e
  refine ⟨ty, ?_⟩
  rw [g.kK]
  cases t with
  | own c =>
    obtain ⟨C, hc⟩ := ht
    have ck := g.fa.cls c C hc
    cases d with
    | obj c' ds =>
      have rp := r.obj
      simp only [Rep] at rp
      obtain ⟨_, _, _, _, _, ⟨C', hC'⟩, _⟩ := rp
      exact (g.fa.cls c' C' hC').kS c C hc
    | fn k => exact absurd rfl (h1 k)
    | ro k => exact absurd rfl (h2 k)
    | non => exact ck.kT _ (by simp)
    | bl b => exact ck.kT _ (by simp)
    | int b => exact ck.kT _ (by simp)
    | str b => exact ck.kT _ (by simp)
    | tup b => exact ck.kT _ (by simp)
    | lst b => exact ck.kT _ (by simp)
    | dic => exact ck.kT _ (by simp)
  | _ =>
    cases d with
    | obj c' ds =>
      have rp := r.obj
      simp only [Rep] at rp
      obtain ⟨_, _, _, _, _, ⟨C', hC'⟩, _⟩ := rp
      exact (g.fa.cls c' C' hC').kO _ (by simp [tyN])
    | fn k => exact absurd rfl (h1 k)
    | ro k => exact absurd rfl (h2 k)
    | _ => first | exact kit_ty (r := true) (by decide +kernel) | exact kit_ty (r := false) (by decide +kernel)
/-- the class that isinstance is asked for -/
def PTy (X : Cx) (G : Gb) (e : Expr) (t : TyK) : Prop := TyOk G t ∧ ∃ c : V, PE X e (tC c) ∧ ClsV c (tyU G t)
theorem pty_ty {t : TyK} {pos : Pos} (hn : ∀ c, t ≠ .own c) (hg : Gl X (Str.ofString (tyN t))) (hm : X.mg (Str.ofString (tyN t)) = none) : PTy X G (.Name (Str.ofString (tyN t)) pos) t := by
  cases t with
  | own c => exact absurd rfl (hn c)
  | int => exact ⟨trivial, .ty "int", pe_bltn hg hm (by decide +kernel) rfl (by decide) (by decide), .ty _⟩
  | bool => exact ⟨trivial, .ty "bool", pe_bltn hg hm (by decide +kernel) rfl (by decide) (by decide), .ty _⟩
  | str => exact ⟨trivial, .ty "str", pe_bltn hg hm (by decide +kernel) rfl (by decide) (by decide), .ty _⟩
  | tup => exact ⟨trivial, .ty "tuple", pe_bltn hg hm (by decide +kernel) rfl (by decide) (by decide), .ty _⟩
  | lst => exact ⟨trivial, .ty "list", pe_bltn hg hm (by decide +kernel) rfl (by decide) (by decide), .ty _⟩
theorem pty_own {c : Nat} {C : ClsI} {pos : Pos} (g : Gd G W cf lv X) (hC : G.P.cls[c]? = some C) (hg : Gl X C.name) (hd : (C.name == ("__debug__" : Str)) = false) : PTy X G (.Name C.name pos) (.own c) :=
  ⟨⟨C, hC⟩, .ref (G.cls c), pe_glob hg (g.fa.cls c C hC).gl rfl hd, .own _⟩
theorem gE_isi {a tex : Expr} {t : TyK} {p pos : Pos} {ma : En → R (Vl × En)} (g : Gd G W cf lv X) (hg : Gl X "isinstance") (hm : X.mg "isinstance" = none) (ha : PE X a (tE G W ma)) (hty : PTy X G tex t)
    (he : starEach [a, tex] X.env = (false, eval a X.env) :: starEach [tex] X.env) (he2 : starEach [tex] X.env = (false, eval tex X.env) :: starEach [] X.env) (hpl : (backTo pos (starEach [tex] X.env)).any (·.1) = false) :
    PE X (.Call (.Name "isinstance" p) [a, tex] [] pos) (tE G W fun σ => bnd (ma σ) fun va σ => bnd (pk (hold va) σ) fun x σ => lift ((isiD t x).map fun b => Vl.sh (.bl b)) σ) := by
  obtain ⟨ht, c, hc, hcv⟩ := hty
  refine PE.imp (pe_callB call_isi hg hm (by decide +kernel) (pa_cons ha (pa_cons hc pa_nil he2) he) (by decide) (by decide) he hpl) fun σ H Q ⟨F, e, S, h⟩ => ?_
  refine oneI (Post := fun c r => PostE G W c Q r) PostE.hx (fun _ z => z) (fun h s e => PostE.next h s e) S h fun F1 H1 e1 x v st S1 rx h1 => ?_
  cases hi : isiD t x with
  | exc z => unfold isiD at hi; split at hi <;> cases hi
  | stuck => rw [hi] at h1; exact h1.elim
  | ok b =>
    rw [hi] at h1
    obtain ⟨ty, hk⟩ := kit_ok g ht S1.sub rx hi
    exact ⟨v, c, tyVal G x, tyU G t, b, rfl, hcv, ty, hk, PostE.bl S1 h1⟩
theorem gE_isi2 {a te ue : Expr} {t u : TyK} {n : Nat} {p tpos pos : Pos} {ma : En → R (Vl × En)} (g : Gd G W cf lv X) (hg : Gl X "isinstance") (hm : X.mg "isinstance" = none) (ha : PE X a (tE G W ma)) (hty : PTy X G te t) (huy : PTy X G ue u)
    (he : starEach [a, .Tuple [te, ue] n tpos] X.env = (false, eval a X.env) :: starEach [.Tuple [te, ue] n tpos] X.env) (he2 : starEach [.Tuple [te, ue] n tpos] X.env = (false, eval (.Tuple [te, ue] n tpos) X.env) :: starEach [] X.env) (hpl : (backTo pos (starEach [.Tuple [te, ue] n tpos] X.env)).any (·.1) = false)
    (h3 : starEach [te, ue] X.env = (false, eval te X.env) :: starEach [ue] X.env) (h4 : starEach [ue] X.env = (false, eval ue X.env) :: starEach [] X.env) :
    PE X (.Call (.Name "isinstance" p) [a, .Tuple [te, ue] n tpos] [] pos) (tE G W fun σ => bnd (ma σ) fun va σ => bnd (pk (hold va) σ) fun x σ => lift ((isiD t x).bind fun a => (isiD u x).map fun b => Vl.sh (.bl (a || b))) σ) := by
  obtain ⟨ht, c, hc, hcv⟩ := hty
  obtain ⟨hu, d, hd, hdv⟩ := huy
  refine PE.imp (pe_callB call_isiT hg hm (by decide +kernel) (pa_cons ha (pa_cons (pe_tup (pa_cons hc (pa_cons hd pa_nil h4) h3)) pa_nil he2) he) (by decide) (by decide) he hpl) fun σ H Q ⟨F, e, S, h⟩ => ?_
  refine oneI (Post := fun c r => PostE G W c Q r) PostE.hx (fun _ z => z) (fun h s e => PostE.next h s e) S h fun F1 H1 e1 x v st S1 rx h1 => ?_
  cases hi : isiD t x with
  | exc z => unfold isiD at hi; split at hi <;> cases hi
  | stuck => rw [hi] at h1; exact h1.elim
  | ok b =>
    rw [hi, R.bind_ok] at h1
    cases hj : isiD u x with
    | exc z => unfold isiD at hj; split at hj <;> cases hj
    | stuck => rw [hj] at h1; exact h1.elim
    | ok b2 =>
      rw [hj] at h1
      refine ⟨by show 2 ≤ sizeLine; decide, fun q hq => ?_⟩
      have sv : StepV F1 H1 F1 (upd H1 q (.tup [c, d])) := StepV.new0 S1.sub hq
      have S2 := sv.sim S1
      have rx2 : Rd2 G F1 (upd H1 q (.tup [c, d])) x v := by
        rcases rx with z | ⟨ds, a, e1, e2, vs, e3, e4⟩
        · exact .inl z
        · exact .inr ⟨ds, a, e1, e2, vs, sv.h _ _ e3, e4⟩
      obtain ⟨ty, hk⟩ := kit_ok g ht S2.sub rx2 hi
      obtain ⟨_, hk2⟩ := kit_ok g hu S2.sub rx2 hj
      refine ⟨v, q, [c, d], tyVal G x, [tyU G t, tyU G u], b || b2, rfl, upd_same, .cons hcv (.cons hdv .nil), ty, ?_, PostE.bl S2 (PostE.next h1 sv.step rfl)⟩
      refine kitAny_cons hk (fun e => ?_) (fun e => by rw [e]; rfl)
      subst e
      refine kitAny_cons hk2 (fun e => ?_) (fun e => by rw [e]; rfl)
      subst e
      exact kitAny_nil
end
end PV
set_option Elab.async false
set_option linter.all false
set_option maxRecDepth 100000
namespace PV
open PySem PySem.Spec PyProof.Rows L2
section
variable {G : Gb} {W : XK} {F F' H H' : Hp} {σ : Sg} {e e' : En}
/-! ## cells by place -/
theorem CellOk.at {x : Cell} {s : Option (Option V)} (h : CellOk G F H s x) (ho : x.own = true) : ∃ a, s = some (some (.ref a)) ∧ H a ≠ none ∧ F a = none := by
  cases x with
  | un => cases ho
  | sh d => cases ho
  | ow ds => obtain ⟨a, q1, vs, q2, q3, _⟩ := h; exact ⟨a, q1, by rw [q2]; simp, q3⟩
  | lk ds => obtain ⟨a, q1, vs, q2, q3, _⟩ := h; exact ⟨a, q1, by rw [q2]; simp, q3⟩
  | io ds => obtain ⟨a, q1, vs, q2, q3, _⟩ := h; exact ⟨a, q1, by rw [q2]; simp, q3⟩
  | bld c ds => obtain ⟨a, q1, dx, vs, q2, _, q3, _⟩ := h; exact ⟨a, q1, by rw [q2]; simp, q3⟩
/-- a cell stays when its own object stays -/
theorem CellOk.stay {x : Cell} {s : Option (Option V)} (h : CellOk G F H s x) (sm : Same F F') (k : x.own = true → ∀ a, s = some (some (.ref a)) → (∀ o, H a = some o → H' a = some o) ∧ (F a = none → F' a = none)) : CellOk G F' H' s x := by
  cases x with
  | un => trivial
  | sh d => obtain ⟨v, q1, q2⟩ := h; exact ⟨v, q1, Rep.mono sm q2⟩
  | ow ds => obtain ⟨a, q1, vs, q2, q3, q4⟩ := h; obtain ⟨k1, k2⟩ := k rfl a q1; exact ⟨a, q1, vs, k1 _ q2, k2 q3, q4.mono sm⟩
  | lk ds => obtain ⟨a, q1, vs, q2, q3, q4⟩ := h; obtain ⟨k1, k2⟩ := k rfl a q1; exact ⟨a, q1, vs, k1 _ q2, k2 q3, q4.mono sm⟩
  | io ds => obtain ⟨a, q1, vs, q2, q3, q4⟩ := h; obtain ⟨k1, k2⟩ := k rfl a q1; exact ⟨a, q1, vs, k1 _ q2, k2 q3, q4.mono sm⟩
  | bld c ds => obtain ⟨a, q1, dx, vs, q2, q0, q3, q4⟩ := h; obtain ⟨k1, k2⟩ := k rfl a q1; exact ⟨a, q1, dx, vs, k1 _ q2, q0, k2 q3, q4.mono sm⟩
/-- the general way to a new configuration: the same heap; each slot's cell is told -/
theorem Sim.slots {σ' : Sg} (S : Sim G ⟨F, σ, H, e⟩) (hl : e'.length = σ'.length)
    (h : ∀ (i : Nat) (x : Cell), e'[i]? = some x → CellOk G F H σ'[i]? x)
    (hi : ∀ (i j : Nat) (x y : Cell) (a : Addr), e'[i]? = some x → e'[j]? = some y → x.own = true → y.own = true → σ'[i]? = some (some (.ref a)) → σ'[j]? = some (some (.ref a)) → i = j) : Sim G ⟨F, σ', H, e'⟩ := ⟨hl, S.sub, h, hi⟩
theorem setc_eq {i : Nat} {c : Cell} {e e' : En} (h : setc i c e = .ok e') : e' = e.set i c ∧ ∃ x, e[i]? = some x ∧ (∀ ds, x ≠ .lk ds) ∧ (∀ ds, x ≠ .io ds) ∧ ∀ k ds, x ≠ .bld k ds := by
  unfold setc at h
  cases hx : e[i]? with
  | none => simp only [hx] at h; cases h
  | some x =>
    simp only [hx] at h
    cases x <;> first | (cases h; exact ⟨rfl, _, rfl, by simp, by simp, by simp⟩) | cases h
/-- a slot is stored: its new cell holds what the value says -/
theorem Sim.setc {i : Nat} {c : Cell} {v : V} (S : Sim G ⟨F, σ, H, e⟩) (h : setc i c e = .ok e') (hc : CellOk G F H (some (some v)) c) (hw : c.own = true → ∀ a, v = .ref a → ¬ Cf.W ⟨F, σ, H, e⟩ a) :
    Sim G ⟨F, σ.set i (some v), H, e'⟩ := by
  obtain ⟨rfl, x, hx, _⟩ := setc_eq h
  have hi : i < e.length := (List.getElem?_eq_some_iff.mp hx).1
  have hi' : i < σ.length := by have := S.len; exact this ▸ hi
  have g1 : ∀ j, j ≠ i → (e.set i c)[j]? = e[j]? := fun j hj => List.getElem?_set_ne (Ne.symm hj)
  have g2 : ∀ j, j ≠ i → (σ.set i (some v))[j]? = σ[j]? := fun j hj => List.getElem?_set_ne (Ne.symm hj)
  refine S.slots (by simpa using S.len) (fun j y hy => ?_) fun j1 j2 y1 y2 a h1 h2 o1 o2 t1 t2 => ?_
  · by_cases z : j = i
    · subst z
      rw [List.getElem?_set_self hi] at hy
      rw [List.getElem?_set_self hi']
      cases hy
      exact hc
    · rw [g1 j z] at hy
      rw [g2 j z]
      exact S.cell j y hy
  · have no : ∀ j y, j ≠ i → (e.set i c)[j]? = some y → y.own = true → (σ.set i (some v))[j]? = some (some (.ref a)) → c.own = true → v = .ref a → False := fun j y z hy ho hs hc hv =>
      hw hc a hv ⟨j, y, by rw [← g1 j z]; exact hy, ho, by rw [← g2 j z]; exact hs⟩
    by_cases z1 : j1 = i
    · by_cases z2 : j2 = i
      · rw [z1, z2]
      · exfalso
        subst z1
        rw [List.getElem?_set_self hi] at h1
        rw [List.getElem?_set_self hi'] at t1
        cases h1
        cases t1
        exact no j2 y2 z2 h2 o2 t2 o1 rfl
    · by_cases z2 : j2 = i
      · exfalso
        subst z2
        rw [List.getElem?_set_self hi] at h2
        rw [List.getElem?_set_self hi'] at t2
        cases h2
        cases t2
        exact no j1 y1 z1 h1 o1 t1 o2 rfl
      · rw [g1 j1 z1] at h1
        rw [g1 j2 z2] at h2
        rw [g2 j1 z1] at t1
        rw [g2 j2 z2] at t2
        exact S.inj j1 j2 y1 y2 a h1 h2 o1 o2 t1 t2
theorem Step.setc {c0 : Cf} {i : Nat} {c : Cell} {v : V} (st : Step G c0 ⟨F, σ, H, e⟩) (h : setc i c e = .ok e') (hl : e.length = σ.length) (ht : c.tag = none) (hw : c.own = true → ∀ a, v = .ref a → c0.H a = none) : Step G c0 ⟨F, σ.set i (some v), H, e'⟩ := by
  obtain ⟨rfl, x, hx, hnl, _⟩ := setc_eq h
  have hi : i < e.length := (List.getElem?_eq_some_iff.mp hx).1
  have hi' : i < σ.length := hl ▸ hi
  have g1 : ∀ j, j ≠ i → (e.set i c)[j]? = e[j]? := fun j hj => List.getElem?_set_ne (Ne.symm hj)
  have g2 : ∀ j, j ≠ i → (σ.set i (some v))[j]? = σ[j]? := fun j hj => List.getElem?_set_ne (Ne.symm hj)
  refine ⟨st.f, st.frame, st.new, st.dom, fun b hb => ?_, fun j ds u hj hu => ?_, fun j y tg hj hy => ?_⟩
  · obtain ⟨j, y, h1, h2, h3⟩ := hb
    have h1 : (e.set i c)[j]? = some y := h1
    have h3 : (σ.set i (some v))[j]? = some (some (.ref b)) := h3
    by_cases z : j = i
    · subst z
      rw [List.getElem?_set_self hi] at h1
      rw [List.getElem?_set_self hi'] at h3
      cases h1
      cases h3
      exact .inr (hw h2 b rfl)
    · rw [g1 j z] at h1
      rw [g2 j z] at h3
      exact st.w b ⟨j, y, h1, h2, h3⟩
  · rcases st.lk j ds u hj hu with ⟨q1, q2⟩ | q
    · left
      have q1 : e[j]? = some (.lk ds) := q1
      have z : j ≠ i := fun z => by
        subst z
        rw [hx] at q1
        cases q1
        exact hnl _ rfl
      exact ⟨by show (e.set i c)[j]? = _; rw [g1 j z]; exact q1, by show (σ.set i (some v))[j]? = _; rw [g2 j z]; exact q2⟩
    · exact .inr q
  · have hj : (e.set i c)[j]? = some y := hj
    by_cases z : j = i
    · subst z
      rw [List.getElem?_set_self hi] at hj
      cases hj
      rw [ht] at hy; cases hy
    · rw [g1 j z] at hj
      show ∃ y, _ ∧ _ ∧ (σ.set i (some v))[j]? = _
      rw [g2 j z]
      exact st.io j y tg hj hy
/-! ## locks -/
theorem lock_ne {i j : Nat} (z : j ≠ i) : (lock i e)[j]? = e[j]? := by
  unfold lock
  split
  · exact List.getElem?_set_ne (Ne.symm z)
  · rfl
theorem lock_get {i j : Nat} : (lock i e)[j]? = match e[j]? with
    | some (.ow ds) => if j = i then some (.lk ds) else some (.ow ds)
    | x => x := by
  by_cases z : j = i
  · subst z
    unfold lock
    cases hx : e[j]? with
    | none => simp [hx]
    | some x =>
      have hi : j < e.length := (List.getElem?_eq_some_iff.mp hx).1
      cases x <;> simp [hx, List.getElem?_set_self hi]
  · rw [lock_ne z]
    cases hx : e[j]? with
    | none => rfl
    | some x => cases x <;> simp [z]
theorem lock_len {i : Nat} : (lock i e).length = e.length := by
  unfold lock
  split <;> simp
theorem unlock_ne {i j : Nat} (z : j ≠ i) : (unlock i e)[j]? = e[j]? := by
  unfold unlock
  split
  · exact List.getElem?_set_ne (Ne.symm z)
  · rfl
theorem unlock_get {i j : Nat} : (unlock i e)[j]? = match e[j]? with
    | some (.lk ds) => if j = i then some (.ow ds) else some (.lk ds)
    | x => x := by
  by_cases z : j = i
  · subst z
    unfold unlock
    cases hx : e[j]? with
    | none => simp [hx]
    | some x =>
      have hi : j < e.length := (List.getElem?_eq_some_iff.mp hx).1
      cases x <;> simp [hx, List.getElem?_set_self hi]
  · rw [unlock_ne z]
    cases hx : e[j]? with
    | none => rfl
    | some x => cases x <;> simp [z]
theorem unlock_len {i : Nat} : (unlock i e).length = e.length := by
  unfold unlock
  split <;> simp
/-- the cells are the same but for locks -/
theorem lock_cell {i j : Nat} {y : Cell} (h : (lock i e)[j]? = some y) : ∃ x, e[j]? = some x ∧ (x = y ∨ ∃ ds, x = .ow ds ∧ y = .lk ds) := by
  rw [lock_get] at h
  split at h
  · rename_i ds hx
    split at h
    · cases h; exact ⟨_, hx, .inr ⟨_, rfl, rfl⟩⟩
    · cases h; exact ⟨_, hx, .inl rfl⟩
  · exact ⟨y, h, .inl rfl⟩
theorem unlock_cell {i j : Nat} {y : Cell} (h : (unlock i e)[j]? = some y) : ∃ x, e[j]? = some x ∧ (x = y ∨ ∃ ds, j = i ∧ x = .lk ds ∧ y = .ow ds) := by
  rw [unlock_get] at h
  split at h
  · rename_i ds hx
    split at h
    · rename_i z; cases h; exact ⟨_, hx, .inr ⟨_, z, rfl, rfl⟩⟩
    · cases h; exact ⟨_, hx, .inl rfl⟩
  · exact ⟨y, h, .inl rfl⟩
theorem Sim.lock {i : Nat} (S : Sim G ⟨F, σ, H, e⟩) : Sim G ⟨F, σ, H, lock i e⟩ := by
  refine S.slots (by rw [lock_len]; exact S.len) (fun j y hy => ?_) fun j1 j2 y1 y2 a h1 h2 o1 o2 t1 t2 => ?_
  · obtain ⟨x, hx, z | ⟨ds, z1, z2⟩⟩ := lock_cell hy
    · subst z; exact S.cell j x hx
    · subst z1 z2
      have k : CellOk G F H σ[j]? (.ow ds) := S.cell j _ hx
      exact k
  · obtain ⟨x1, hx1, z1⟩ := lock_cell h1
    obtain ⟨x2, hx2, z2⟩ := lock_cell h2
    refine S.inj j1 j2 x1 x2 a hx1 hx2 ?_ ?_ t1 t2
    · rcases z1 with z | ⟨ds, z, _⟩
      · rw [z]; exact o1
      · rw [z]; rfl
    · rcases z2 with z | ⟨ds, z, _⟩
      · rw [z]; exact o2
      · rw [z]; rfl
theorem Step.lock {c0 : Cf} {i : Nat} (st : Step G c0 ⟨F, σ, H, e⟩) : Step G c0 ⟨F, σ, H, PV.lock i e⟩ := by
  refine ⟨st.f, st.frame, st.new, st.dom, fun b hb => ?_, fun j ds u hj hu => ?_, fun j y tg hj hy => ?_⟩
  · obtain ⟨j, y, h1, h2, h3⟩ := hb
    obtain ⟨x, hx, z⟩ := lock_cell (show (PV.lock i e)[j]? = some y from h1)
    refine st.w b ⟨j, x, hx, ?_, h3⟩
    rcases z with z | ⟨ds, z, _⟩
    · rw [z]; exact h2
    · rw [z]; rfl
  · rcases st.lk j ds u hj hu with ⟨q1, q2⟩ | q
    · left
      have q1 : e[j]? = some (.lk ds) := q1
      exact ⟨by show (PV.lock i e)[j]? = _; rw [lock_get, q1], q2⟩
    · exact .inr q
  · obtain ⟨x, hx, z⟩ := lock_cell (show (PV.lock i e)[j]? = some y from hj)
    rcases z with z | ⟨ds, _, z⟩
    · subst z; exact st.io j x tg hx hy
    · subst z; cases hy
theorem Sim.unlock {i : Nat} (S : Sim G ⟨F, σ, H, e⟩) : Sim G ⟨F, σ, H, PV.unlock i e⟩ := by
  refine S.slots (by rw [unlock_len]; exact S.len) (fun j y hy => ?_) fun j1 j2 y1 y2 a h1 h2 o1 o2 t1 t2 => ?_
  · obtain ⟨x, hx, z | ⟨ds, _, z1, z2⟩⟩ := unlock_cell hy
    · subst z; exact S.cell j x hx
    · subst z1 z2
      have k : CellOk G F H σ[j]? (.lk ds) := S.cell j _ hx
      exact k
  · obtain ⟨x1, hx1, z1⟩ := unlock_cell h1
    obtain ⟨x2, hx2, z2⟩ := unlock_cell h2
    refine S.inj j1 j2 x1 x2 a hx1 hx2 ?_ ?_ t1 t2
    · rcases z1 with z | ⟨ds, _, z, _⟩
      · rw [z]; exact o1
      · rw [z]; rfl
    · rcases z2 with z | ⟨ds, _, z, _⟩
      · rw [z]; exact o2
      · rw [z]; rfl
/-- a lock that this walk laid (the slot was not locked before) is taken off -/
theorem Step.unlock {c0 : Cf} {i : Nat} (st : Step G c0 ⟨F, σ, H, e⟩) (hn : ∀ ds, c0.e[i]? ≠ some (.lk ds)) : Step G c0 ⟨F, σ, H, PV.unlock i e⟩ := by
  refine ⟨st.f, st.frame, st.new, st.dom, fun b hb => ?_, fun j ds u hj hu => ?_, fun j y tg hj hy => ?_⟩
  · obtain ⟨j, y, h1, h2, h3⟩ := hb
    obtain ⟨x, hx, z⟩ := unlock_cell (show (PV.unlock i e)[j]? = some y from h1)
    refine st.w b ⟨j, x, hx, ?_, h3⟩
    rcases z with z | ⟨ds, _, z, _⟩
    · rw [z]; exact h2
    · rw [z]; rfl
  · rcases st.lk j ds u hj hu with ⟨q1, q2⟩ | q
    · left
      have q1 : e[j]? = some (.lk ds) := q1
      have z : j ≠ i := fun z => hn ds (by rw [← z]; exact hj)
      exact ⟨by show (PV.unlock i e)[j]? = _; rw [unlock_get, q1]; simp [z], q2⟩
    · exact .inr q
  · obtain ⟨x, hx, z⟩ := unlock_cell (show (PV.unlock i e)[j]? = some y from hj)
    rcases z with z | ⟨ds, _, _, z⟩
    · subst z; exact st.io j x tg hx hy
    · subst z; cases hy
theorem Sim.locks {ls : List Nat} (S : Sim G ⟨F, σ, H, e⟩) : Sim G ⟨F, σ, H, ls.foldr PV.lock e⟩ := by
  induction ls with
  | nil => exact S
  | cons i r ih => exact ih.lock
theorem Step.locks {c0 : Cf} {ls : List Nat} (st : Step G c0 ⟨F, σ, H, e⟩) : Step G c0 ⟨F, σ, H, ls.foldr PV.lock e⟩ := by
  induction ls with
  | nil => exact st
  | cons i r ih => exact ih.lock
theorem Sim.unlocks {ls : List Nat} (S : Sim G ⟨F, σ, H, e⟩) : Sim G ⟨F, σ, H, ls.foldr PV.unlock e⟩ := by
  induction ls with
  | nil => exact S
  | cons i r ih => exact ih.unlock
theorem Step.unlocks {c0 : Cf} {ls : List Nat} (st : Step G c0 ⟨F, σ, H, e⟩) (hn : ∀ i ∈ ls, ∀ ds, c0.e[i]? ≠ some (.lk ds)) : Step G c0 ⟨F, σ, H, ls.foldr PV.unlock e⟩ := by
  induction ls with
  | nil => exact st
  | cons i r ih => exact (ih fun j hj => hn j (List.mem_cons_of_mem _ hj)).unlock (hn i List.mem_cons_self)
theorem W.unlocks {ls : List Nat} {a : Addr} (h : Cf.W ⟨F, σ, H, ls.foldr PV.unlock e⟩ a) : Cf.W ⟨F, σ, H, e⟩ a := by
  induction ls with
  | nil => exact h
  | cons i r ih =>
    obtain ⟨j, y, h1, h2, h3⟩ := h
    obtain ⟨x, hx, z⟩ := unlock_cell (show (PV.unlock i (r.foldr PV.unlock e))[j]? = some y from h1)
    refine ih ⟨j, x, hx, ?_, h3⟩
    rcases z with z | ⟨ds, _, z, _⟩
    · rw [z]; exact h2
    · rw [z]; rfl
end
end PV
set_option Elab.async false
set_option linter.all false
set_option maxRecDepth 100000
namespace PV
open PySem PySem.Spec PyProof.Rows L2
section
variable {G : Gb} {W : XK} {F F' H H' : Hp} {σ σ' : Sg} {e e' : En}
/-! ## own names are wiped, and laid back -/
theorem wipe_get {vs : List Nat} {j : Nat} : (wipe σ vs)[j]? = if j ∈ vs then σ[j]?.map fun _ => none else σ[j]? := by
  induction vs with
  | nil => simp [wipe]
  | cons v vs ih =>
    unfold wipe
    by_cases z : v = j
    · subst z
      by_cases hv : v < σ.length
      · rw [List.getElem?_set_self (by rw [wipe_length]; exact hv)]
        simp [List.getElem?_eq_getElem hv]
      · rw [List.getElem?_eq_none (by rw [List.length_set, wipe_length]; omega)]
        simp [List.getElem?_eq_none (show σ.length ≤ v by omega)]
    · rw [List.getElem?_set_ne z, ih]
      have : j ∈ v :: vs ↔ j ∈ vs := by simp [Ne.symm z]
      simp only [this]
theorem wipeE_len {vs : List Nat} : (wipeE e vs).length = e.length := by
  induction vs with
  | nil => rfl
  | cons v vs ih => unfold wipeE; rw [List.length_set, ih]
theorem wipeE_get {vs : List Nat} {j : Nat} : (wipeE e vs)[j]? = if j ∈ vs then e[j]?.map fun _ => .un else e[j]? := by
  induction vs with
  | nil => simp [wipeE]
  | cons v vs ih =>
    unfold wipeE
    by_cases z : v = j
    · subst z
      by_cases hv : v < e.length
      · rw [List.getElem?_set_self (by rw [wipeE_len]; exact hv)]
        simp [List.getElem?_eq_getElem hv]
      · rw [List.getElem?_eq_none (by rw [List.length_set, wipeE_len]; omega)]
        simp [List.getElem?_eq_none (show e.length ≤ v by omega)]
    · rw [List.getElem?_set_ne z, ih]
      have : j ∈ v :: vs ↔ j ∈ vs := by simp [Ne.symm z]
      simp only [this]
theorem back_len {e0 : En} {vs : List Nat} : (back e0 vs e).length = e.length := by
  induction vs with
  | nil => rfl
  | cons v vs ih => unfold back; rw [List.length_set, ih]
theorem back_get {e0 : En} {vs : List Nat} {j : Nat} (hl : e0.length = e.length) : (back e0 vs e)[j]? = if j ∈ vs then e0[j]? else e[j]? := by
  induction vs with
  | nil => simp [back]
  | cons v vs ih =>
    unfold back
    by_cases z : v = j
    · subst z
      by_cases hv : v < e.length
      · rw [List.getElem?_set_self (by rw [back_len]; exact hv)]
        simp [List.getElem?_eq_getElem (hl ▸ hv : v < e0.length)]
      · rw [List.getElem?_eq_none (by rw [List.length_set, back_len]; omega)]
        simp [List.getElem?_eq_none (show e0.length ≤ v by omega)]
    · rw [List.getElem?_set_ne z, ih]
      have : j ∈ v :: vs ↔ j ∈ vs := by simp [Ne.symm z]
      simp only [this]
theorem wipe_wipe {vs : List Nat} (hl : σ'.length = σ.length) (h : ∀ j, j ∉ vs → σ'[j]? = σ[j]?) : wipe σ' vs = wipe σ vs := by
  apply List.ext_getElem?
  intro j
  rw [wipe_get, wipe_get]
  by_cases hj : j ∈ vs
  · rw [if_pos hj, if_pos hj]
    by_cases q : j < σ.length
    · rw [List.getElem?_eq_getElem q, List.getElem?_eq_getElem (hl ▸ q)]; rfl
    · rw [List.getElem?_eq_none (by omega), List.getElem?_eq_none (by omega)]
  · rw [if_neg hj, if_neg hj]; exact h j hj
theorem wipeE_cell {vs : List Nat} {j : Nat} {y : Cell} (h : (wipeE e vs)[j]? = some y) (ho : y ≠ .un) : j ∉ vs ∧ e[j]? = some y := by
  rw [wipeE_get] at h
  split at h
  · rw [Option.map_eq_some_iff] at h
    obtain ⟨_, _, z⟩ := h
    exact absurd z.symm ho
  · rename_i z; exact ⟨z, h⟩
theorem Sim.wipe {vs : List Nat} (S : Sim G ⟨F, σ, H, e⟩) : Sim G ⟨F, wipe σ vs, H, wipeE e vs⟩ := by
  refine S.slots (by rw [wipeE_len, wipe_length]; exact S.len) (fun j y hy => ?_) fun j1 j2 y1 y2 a h1 h2 o1 o2 t1 t2 => ?_
  · by_cases hu : y = .un
    · subst hu; trivial
    · obtain ⟨hj, hy⟩ := wipeE_cell hy hu
      rw [wipe_get, if_neg hj]
      exact S.cell j y hy
  · obtain ⟨k1, h1⟩ := wipeE_cell h1 (fun z => by subst z; cases o1)
    obtain ⟨k2, h2⟩ := wipeE_cell h2 (fun z => by subst z; cases o2)
    rw [wipe_get, if_neg k1] at t1
    rw [wipe_get, if_neg k2] at t2
    exact S.inj j1 j2 y1 y2 a h1 h2 o1 o2 t1 t2
theorem Step.wipe {c0 : Cf} {vs : List Nat} (st : Step G c0 ⟨F, σ, H, e⟩) (hn : ∀ i ∈ vs, ∀ ds, c0.e[i]? ≠ some (.lk ds)) : Step G c0 ⟨F, L2.wipe σ vs, H, wipeE e vs⟩ := by
  refine ⟨st.f, st.frame, st.new, st.dom, fun b hb => ?_, fun j ds u hj hu => ?_, fun j y tg hj hy => ?_⟩
  · obtain ⟨j, y, h1, h2, h3⟩ := hb
    obtain ⟨k1, h1⟩ := wipeE_cell h1 (fun z => by subst z; cases h2)
    have h3 : (L2.wipe σ vs)[j]? = some (some (.ref b)) := h3
    rw [wipe_get, if_neg k1] at h3
    exact st.w b ⟨j, y, h1, h2, h3⟩
  · have hv : j ∉ vs := fun z => hn j z ds hj
    rcases st.lk j ds u hj hu with ⟨q1, q2⟩ | q
    · left
      exact ⟨by show (wipeE e vs)[j]? = _; rw [wipeE_get, if_neg hv]; exact q1, by show (L2.wipe σ vs)[j]? = _; rw [wipe_get, if_neg hv]; exact q2⟩
    · exact .inr q
  · obtain ⟨k1, h1⟩ := wipeE_cell hj (fun z => by subst z; cases hy)
    obtain ⟨x, h2, h3, h4⟩ := st.io j y tg h1 hy
    exact ⟨x, h2, h3, by show (L2.wipe σ vs)[j]? = _; rw [wipe_get, if_neg k1]; exact h4⟩
theorem noLk_ne {vs : List Nat} (h : noLk vs e = true) : ∀ i ∈ vs, ∀ ds, e[i]? ≠ some (.lk ds) := fun i hi ds z => by
  have q := (List.all_eq_true.mp h) i hi
  rw [z] at q
  cases q
/-- the block is over: its own slots are what they were -/
theorem restore {vs : List Nat} (S : Sim G ⟨F, σ, H, e⟩) (hn : ∀ i ∈ vs, ∀ ds, e[i]? ≠ some (.lk ds)) (st : Step G ⟨F, L2.wipe σ vs, H, wipeE e vs⟩ ⟨F', L2.wipe σ vs, H', wipeE e' vs⟩) (S' : Sim G ⟨F', L2.wipe σ vs, H', wipeE e' vs⟩) :
    Step G ⟨F, σ, H, e⟩ ⟨F', σ, H', PV.back e vs e'⟩ ∧ Sim G ⟨F', σ, H', PV.back e vs e'⟩ ∧ ∀ b, Cf.W ⟨F', σ, H', PV.back e vs e'⟩ b → Cf.W ⟨F', L2.wipe σ vs, H', wipeE e' vs⟩ b ∨ H b ≠ none := by
  have hl : e.length = e'.length := by
    have l1 : e.length = σ.length := S.len
    have l2 : (wipeE e' vs).length = (L2.wipe σ vs).length := S'.len
    rw [wipeE_len, wipe_length] at l2
    exact l1.trans l2.symm
  have out : ∀ j y, (PV.back e vs e')[j]? = some y → (j ∈ vs ∧ e[j]? = some y) ∨ (j ∉ vs ∧ e'[j]? = some y ∧ (wipeE e' vs)[j]? = some y) := fun j y h => by
    rw [back_get hl] at h
    by_cases z : j ∈ vs
    · rw [if_pos z] at h; exact .inl ⟨z, h⟩
    · rw [if_neg z] at h; exact .inr ⟨z, h, by rw [wipeE_get, if_neg z]; exact h⟩
  -- an own slot's object is nobody's in the block
  have apart : ∀ j y a, j ∈ vs → e[j]? = some y → y.own = true → σ[j]? = some (some (.ref a)) → ¬ Cf.W ⟨F, L2.wipe σ vs, H, wipeE e vs⟩ a := fun j y a hj hy ho hs ⟨i, x, h1, h2, h3⟩ => by
    obtain ⟨k1, h1⟩ := wipeE_cell h1 (fun z => by subst z; cases h2)
    have h3 : (L2.wipe σ vs)[i]? = some (some (.ref a)) := h3
    rw [wipe_get, if_neg k1] at h3
    exact k1 (S.inj i j x y a h1 hy h2 ho h3 hs ▸ hj)
  have sub : ∀ b, Cf.W ⟨F, L2.wipe σ vs, H, wipeE e vs⟩ b → Cf.W ⟨F, σ, H, e⟩ b := fun b ⟨i, x, h1, h2, h3⟩ => by
    obtain ⟨k1, h1⟩ := wipeE_cell h1 (fun z => by subst z; cases h2)
    have h3 : (L2.wipe σ vs)[i]? = some (some (.ref b)) := h3
    rw [wipe_get, if_neg k1] at h3
    exact ⟨i, x, h1, h2, h3⟩
  have apart' : ∀ j y a, j ∈ vs → e[j]? = some y → y.own = true → σ[j]? = some (some (.ref a)) → H a ≠ none ∧ F a = none ∧ ¬ Cf.W ⟨F', L2.wipe σ vs, H', wipeE e' vs⟩ a := fun j y a hj hy ho hs => by
    obtain ⟨b, q1, q2, q3⟩ := (S.cell j y hy).at ho
    have q1 : σ[j]? = some (some (.ref b)) := q1
    rw [hs] at q1; cases q1
    exact ⟨q2, q3, fun w => (st.w a w).elim (apart j y a hj hy ho hs) q2⟩
  refine ⟨⟨st.f, fun b o hb hw => st.frame b o hb fun z => hw (sub b z), fun b h h' => (st.new b h h').imp id (sub b), st.dom, fun b hb => ?_, fun j ds u hj hu => ?_, fun j y tg hj hy => ?_⟩, ⟨?_, S'.sub, fun j y hy => ?_, fun j1 j2 y1 y2 a h1 h2 o1 o2 t1 t2 => ?_⟩, fun b hb => ?_⟩
  · obtain ⟨j, y, h1, h2, h3⟩ := hb
    rcases out j y h1 with ⟨z, h1⟩ | ⟨z, h1, h1'⟩
    · exact .inl ⟨j, y, h1, h2, h3⟩
    · exact (st.w b ⟨j, y, h1', h2, by show (L2.wipe σ vs)[j]? = _; rw [wipe_get, if_neg z]; exact h3⟩).imp (sub b) id
  · have hv : j ∉ vs := fun z => hn j z ds hj
    rcases st.lk j ds u (by show (wipeE e vs)[j]? = _; rw [wipeE_get, if_neg hv]; exact hj) (by show (L2.wipe σ vs)[j]? = _; rw [wipe_get, if_neg hv]; exact hu) with ⟨q1, q2⟩ | q
    · left
      have q1 : (wipeE e' vs)[j]? = some (.lk ds) := q1
      rw [wipeE_get, if_neg hv] at q1
      exact ⟨by show (PV.back e vs e')[j]? = _; rw [back_get hl, if_neg hv]; exact q1, hu⟩
    · exact .inr q
  · rcases out j y hj with ⟨z, h1⟩ | ⟨z, h1, h1'⟩
    · exact ⟨y, h1, hy, rfl⟩
    · obtain ⟨x, k1, k2, k3⟩ := st.io j y tg h1' hy
      obtain ⟨_, k1⟩ := wipeE_cell k1 (fun z => by subst z; cases k2)
      exact ⟨x, k1, k2, rfl⟩
  · rw [show (Cf.mk F' σ H' (PV.back e vs e')).e.length = (PV.back e vs e').length from rfl, back_len, ← hl]; exact S.len
  · rcases out j y hy with ⟨z, h1⟩ | ⟨z, h1, h1'⟩
    · refine (S.cell j y h1).stay st.f fun ho a hs => ?_
      obtain ⟨q1, q2, q3⟩ := apart' j y a z h1 ho hs
      refine ⟨fun o ho' => st.frame a o ho' (apart j y a z h1 ho hs), fun hf => ?_⟩
      show F' a = none
      cases q : F' a with
      | none => rfl
      | some o => exact ((st.new a q2 (by show F' a ≠ none; rw [q]; simp)).elim q1 (apart j y a z h1 ho hs)).elim
    · have k := S'.cell j y h1'
      rw [show (Cf.mk F' (L2.wipe σ vs) H' (wipeE e' vs)).σ[j]? = (L2.wipe σ vs)[j]? from rfl, wipe_get, if_neg z] at k
      exact k
  · have t1 : σ[j1]? = some (some (.ref a)) := t1
    have t2 : σ[j2]? = some (some (.ref a)) := t2
    have inW : ∀ j y, j ∉ vs → (wipeE e' vs)[j]? = some y → y.own = true → σ[j]? = some (some (.ref a)) → Cf.W ⟨F', L2.wipe σ vs, H', wipeE e' vs⟩ a := fun j y z h ho t => ⟨j, y, h, ho, by show (L2.wipe σ vs)[j]? = _; rw [wipe_get, if_neg z]; exact t⟩
    rcases out j1 y1 h1 with ⟨z1, g1⟩ | ⟨z1, g1, g1'⟩
    · rcases out j2 y2 h2 with ⟨z2, g2⟩ | ⟨z2, g2, g2'⟩
      · exact S.inj j1 j2 y1 y2 a g1 g2 o1 o2 t1 t2
      · exact ((apart' j1 y1 a z1 g1 o1 t1).2.2 (inW j2 y2 z2 g2' o2 t2)).elim
    · rcases out j2 y2 h2 with ⟨z2, g2⟩ | ⟨z2, g2, g2'⟩
      · exact ((apart' j2 y2 a z2 g2 o2 t2).2.2 (inW j1 y1 z1 g1' o1 t1)).elim
      · refine S'.inj j1 j2 y1 y2 a g1' g2' o1 o2 ?_ ?_
        · show (L2.wipe σ vs)[j1]? = _; rw [wipe_get, if_neg z1]; exact t1
        · show (L2.wipe σ vs)[j2]? = _; rw [wipe_get, if_neg z2]; exact t2
  · obtain ⟨j, y, h1, h2, h3⟩ := hb
    rcases out j y h1 with ⟨z, h1⟩ | ⟨z, h1, h1'⟩
    · exact .inr (apart' j y b z h1 h2 h3).1
    · exact .inl ⟨j, y, h1', h2, by show (L2.wipe σ vs)[j]? = _; rw [wipe_get, if_neg z]; exact h3⟩
end
end PV
set_option Elab.async false
set_option linter.all false
set_option maxRecDepth 100000
namespace PV
open PySem PySem.Spec PyProof.Rows L2
/-! ## lists and tuples alike, walked alone, in pairs, with their places -/
def SqK (K : PySem.W.Frag) (b : Bool) (H : Hp) (a : Addr) (xs : List V) : Prop := match b with
  | true => SqL K H a xs
  | false => SqT K H a xs
def itO (b : Bool) (a : Addr) : Obj := match b with
  | true => { cls := .type "list_iterator", data := .fields #[.ref a, .int 0 0] }
  | false => { cls := .type "tuple_iterator", data := .fields #[.ref a, .int 0 0] }
def IsIt (b : Bool) (h : Heap) (it a : Addr) (i : Nat) : Prop := match b with
  | true => h.IsListIter it a i
  | false => h.IsTupleIter it a i
def IsSq (b : Bool) (h : Heap) (a : Addr) (its : Array Value) : Prop := match b with
  | true => h.IsList a its
  | false => h.IsTuple a its
theorem drawsK {prog : Program} {w : World} {A : Around} (hh : A.handled = none) (b : Bool) (it a : Addr) (hne : a ≠ it) (items : Array Value) :
    Draws prog w A it [it, a] items.size (fun i v => items[i]? = some v) (fun i h => IsIt b h it a i ∧ IsSq b h a items) := by
  cases b
  · exact Draws.tuple hh it a hne items
  · exact Draws.list hh it a hne items
theorem beginsK (b : Bool) (a : Addr) (items : Array Value) : Begins (.ref a) (itO b a) fun h => IsSq b h a items := by
  cases b
  · exact begins_tuple a items
  · exact begins_list a items
theorem IsIt.new {b : Bool} {h : Heap} {it a : Addr} (e : h.get? it = some (itO b a)) : IsIt b h it a 0 := by
  cases b
  · exact ⟨_, e, rfl, rfl⟩
  · exact ⟨_, e, rfl, rfl⟩
theorem IsIt.at {b : Bool} {h h' : Heap} {it a : Addr} {i : Nat} (st : IsIt b h it a i) (k : ∀ o, h.get? it = some o → h'.get? it = some o) : IsIt b h' it a i := by
  cases b
  · have st : h.IsTupleIter it a i := st
    exact st.at k
  · have st : h.IsListIter it a i := st
    exact st.at k
theorem IsIt.ob {b : Bool} {h : Heap} {it a : Addr} {i : Nat} (st : IsIt b h it a i) : ∃ o, h.get? it = some o ∧ ∀ v, o.data ≠ .cell v := by
  cases b
  · obtain ⟨o, e, _, d⟩ := (show h.IsTupleIter it a i from st)
    exact ⟨o, e, fun v z => by rw [d] at z; cases z⟩
  · obtain ⟨o, e, _, d⟩ := (show h.IsListIter it a i from st)
    exact ⟨o, e, fun v z => by rw [d] at z; cases z⟩
section
variable {X : Cx} {pins : List (Addr × Obj)} {σ : L2.St} {H : Hp} {s : Shared}
theorem seqK {b : Bool} {a : Addr} {xs : List V} (I : Inv X pins σ H s) (h : SqK X.K b H a xs) : ∃ its, Vals xs its ∧ IsSq b s.heap a its.toArray ∧ a < s.heap.objs.size := by
  cases b
  · obtain ⟨its, rv, p, _⟩ := I.tuple h
    obtain ⟨o, ho, _⟩ := id p
    exact ⟨its, rv, p, Heap.lt_size ho⟩
  · obtain ⟨its, rv, p, _⟩ := I.list h
    exact ⟨its, rv, p.isList, p.lt⟩
theorem seqK_inj {b : Bool} {a : Addr} {xs ys : List V} (I : Inv X pins σ H s) (h : SqK X.K b H a xs) (h' : SqK X.K b H a ys) : xs = ys := by
  cases b
  · exact I.tuple_inj h h'
  · exact I.list_inj h h'
end
/-- two, the items in new pairs -/
def ItzK (K : PySem.W.Frag) (p q : Bool) (a b : Addr) : It :=
  ⟨fun i H => ∃ (xs ys : List V) (x y : V), SqK K p H a xs ∧ SqK K q H b ys ∧ xs[i]? = some x ∧ ys[i]? = some y,
    fun i H v H' => ∃ T x y, v = .ref T ∧ H T = none ∧ H' = upd H T (.tup [x, y]) ∧ (∀ xs, SqK K p H a xs → xs[i]? = some x) ∧ ∀ ys, SqK K q H b ys → ys[i]? = some y,
    fun i H => ∃ xs ys : List V, SqK K p H a xs ∧ SqK K q H b ys ∧ i ≤ xs.length ∧ i ≤ ys.length ∧ (i = xs.length ∨ i = ys.length)⟩
theorem turn_zipK {P : Program} {w : World} {K : PySem.W.Frag} {elts : List Expr} {kk : Nat} {tpos : Pos} {p q : Bool} {a b z TI TO i1 i2 : Addr} (D : ZipSep2 z TI TO i1 i2 [i1, a] [i2, b]) :
    Turn P w K (.Tuple elts kk tpos) (ItzK K p q a b) [z, TI, TO, i1, i2] z (fun i h => IsZip h z TI TO .none ∧ IsTupOf2 h TI (.ref i1) (.ref i2) ∧ (∃ x y, IsTupOf2 h TO x y) ∧ IsIt p h i1 a i ∧ IsIt q h i2 b i) where
  mem := by simp
  obj := fun i h st c hc => by
    obtain ⟨hz, hTI, ⟨x, y, hTO⟩, h1, h2⟩ := st
    have e' : c = z ∨ c = TI ∨ c = TO ∨ c = i1 ∨ c = i2 := by simpa using hc
    rcases e' with r | r | r | r | r
    · rw [r]; exact ⟨_, hz, fun v r => nomatch r⟩
    · rw [r]; exact ⟨_, hTI, fun v r => nomatch r⟩
    · rw [r]; exact ⟨_, hTO, fun v r => nomatch r⟩
    · rw [r]; exact h1.ob
    · rw [r]; exact h2.ob
  keep := fun i h h' st k => by
    obtain ⟨hz, hTI, ⟨x, y, hTO⟩, h1, h2⟩ := st
    exact ⟨k z (by simp) _ hz, k TI (by simp) _ hTI, ⟨x, y, k TO (by simp) _ hTO⟩, h1.at fun o q => k i1 (by simp) o q, h2.at fun o q => k i2 (by simp) o q⟩
  item := by
    intro X hP hw hK hc i pins s σ H E I hf st hg
    subst hP hw hK
    obtain ⟨hz, hTI, ⟨x0, y0, hTO⟩, h1, h2⟩ := st
    obtain ⟨xs, ys, x, y, hqx, hqy, hx, hy⟩ := hg
    obtain ⟨its, rv, p1, l1⟩ := seqK I hqx
    obtain ⟨its2, rv2, p2, l2⟩ := seqK I hqy
    obtain ⟨u, hu, ru⟩ := rv.get hx
    obtain ⟨u2, hu2, ru2⟩ := rv2.get hy
    have hzl : z < s.heap.objs.size := Heap.lt_size hz
    have hd : X.A.in1.handled = none := I.ok.hd hc
    have n1 : a ≠ i1 := fun e => D.sep1_2 (by
      exfalso
      rw [e] at p1
      obtain ⟨o, ho, hdat⟩ := h1.ob
      cases p
      · obtain ⟨o1, e1, _, d1⟩ := (show s.heap.IsTupleIter i1 a i from h1)
        obtain ⟨o2, e2, _, n, d2⟩ := (show s.heap.IsTuple i1 its.toArray from p1)
        rw [e1] at e2; cases e2; rw [d1] at d2; cases d2
      · obtain ⟨o1, e1, _, d1⟩ := (show s.heap.IsListIter i1 a i from h1)
        obtain ⟨o2, e2, _, n, d2⟩ := (show s.heap.IsList i1 its.toArray from p1)
        rw [e1] at e2; cases e2; rw [d1] at d2; cases d2)
    have n2 : b ≠ i2 := fun e => by
      rw [e] at p2
      cases q
      · obtain ⟨o1, e1, _, d1⟩ := (show s.heap.IsTupleIter i2 b i from h2)
        obtain ⟨o2, e2, _, n, d2⟩ := (show s.heap.IsTuple i2 its2.toArray from p2)
        rw [e1] at e2; cases e2; rw [d1] at d2; cases d2
      · obtain ⟨o1, e1, _, d1⟩ := (show s.heap.IsListIter i2 b i from h2)
        obtain ⟨o2, e2, _, n, d2⟩ := (show s.heap.IsList i2 its2.toArray from p2)
        rw [e1] at e2; cases e2; rw [d1] at d2; cases d2
    have lt1 : i < its.toArray.size := (Array.getElem?_eq_some_iff.mp (show its.toArray[i]? = some u by simpa using hu)).1
    have lt2 : i < its2.toArray.size := (Array.getElem?_eq_some_iff.mp (show its2.toArray[i]? = some u2 by simpa using hu2)).1
    refine wpAny_pyNext_zipD2_item D (drawsK hd p i1 a n1 its.toArray) (drawsK hd q i2 b n2 its2.toArray) hz hTI hTO ⟨h1, p1⟩ ⟨h2, p2⟩ lt1 lt2 fun x1 x2 h' tk hx1 hx2 z' TO' st1 st2 hT hsz hk => ?_
    have ex1 : x1 = u := by
      have e1 : its.toArray[i]? = some u := by simpa using hu
      rw [e1] at hx1; cases hx1; rfl
    have ex2 : x2 = u2 := by
      have e1 : its2.toArray[i]? = some u2 := by simpa using hu2
      rw [e1] at hx2; cases hx2; rfl
    subst ex1 ex2
    refine ⟨_, rfl, wpAny_letOwnedTupleGo_zip (s := { s with heap := h', toks := tk }) z' fun h'' z'' sb => ?_⟩
    have hT2 : h''.get? s.heap.objs.size = some { cls := .type "tuple", data := .seq #[x1, x2] } := (sb.2 _ (Nat.ne_of_gt hzl)).trans hT
    have new : ObjOk X.prog X.w (upd H s.heap.objs.size (.tup [x, y])) h'' s.heap.objs.size (.tup [x, y]) :=
      ⟨by show 2 ≤ sizeLine; decide, [x1, x2], .cons ru (.cons ru2 .nil), ⟨_, hT2, rfl, _, rfl⟩⟩
    have I1 : Inv X pins σ (upd H s.heap.objs.size (.tup [x, y])) { s with heap := h'', toks := tk } :=
      I.turnedNew (t' := tk) (ch := [z, TI, TO, i1, i2]) (fun c o hb q => (sb.2 c (fun q' => hb (by simp [q']))).trans (hk c o (fun q' => hb (by simp [q'])) (fun q' => hb (by simp [q'])) (fun q' => hb (by simp [q'])) (fun q' => hb (by simp [q'])) q)) hf (Nat.le_refl _) new
    refine ⟨.ref s.heap.objs.size, _, I1, rfl, ⟨_, x, y, rfl, I.hok.fresh (Nat.le_refl _), rfl, fun l hl => by rw [seqK_inj I hl hqx]; exact hx, fun l hl => by rw [seqK_inj I hl hqy]; exact hy⟩, ⟨z'', ?_, ⟨x1, x2, ?_⟩, ?_, ?_⟩, fun c hcm => ?_⟩
    · exact (sb.2 _ D.TIz).trans (hk _ _ D.TIz D.TITO D.TIi1 D.TIi2 hTI)
    · exact (sb.2 _ D.TOz).trans TO'
    · exact st1.1.at fun o q => (sb.2 _ D.zi1.symm).trans q
    · exact st2.1.at fun o q => (sb.2 _ D.zi2.symm).trans q
    · have hlt : c < s.heap.objs.size := by
        have e' : c = z ∨ c = TI ∨ c = TO ∨ c = i1 ∨ c = i2 := by simpa using hcm
        rcases e' with q | q | q | q | q
        · rw [q]; exact hzl
        · rw [q]; exact Heap.lt_size hTI
        · rw [q]; exact Heap.lt_size hTO
        · rw [q]; obtain ⟨_, e1, _⟩ := h1.ob; exact Heap.lt_size e1
        · rw [q]; obtain ⟨_, e2, _⟩ := h2.ob; exact Heap.lt_size e2
      rw [upd_ne (Nat.ne_of_lt hlt)]
      exact (hf c hcm).1
  done := by
    intro X hP hw hK hc i pins s σ H E I hf st hg
    subst hP hw hK
    obtain ⟨hz, hTI, ⟨x0, y0, hTO⟩, h1, h2⟩ := st
    obtain ⟨xs, ys, hqx, hqy, le1, le2, hend⟩ := hg
    obtain ⟨its, rv, p1, l1⟩ := seqK I hqx
    obtain ⟨its2, rv2, p2, l2⟩ := seqK I hqy
    have hd : X.A.in1.handled = none := I.ok.hd hc
    have e1 := rv.length
    have e2 := rv2.length
    have n1 : a ≠ i1 := fun e => by
      rw [e] at p1
      cases p
      · obtain ⟨o1, e1, _, d1⟩ := (show s.heap.IsTupleIter i1 a i from h1)
        obtain ⟨o2, e2, _, n, d2⟩ := (show s.heap.IsTuple i1 its.toArray from p1)
        rw [e1] at e2; cases e2; rw [d1] at d2; cases d2
      · obtain ⟨o1, e1, _, d1⟩ := (show s.heap.IsListIter i1 a i from h1)
        obtain ⟨o2, e2, _, n, d2⟩ := (show s.heap.IsList i1 its.toArray from p1)
        rw [e1] at e2; cases e2; rw [d1] at d2; cases d2
    have n2 : b ≠ i2 := fun e => by
      rw [e] at p2
      cases q
      · obtain ⟨o1, e1, _, d1⟩ := (show s.heap.IsTupleIter i2 b i from h2)
        obtain ⟨o2, e2, _, n, d2⟩ := (show s.heap.IsTuple i2 its2.toArray from p2)
        rw [e1] at e2; cases e2; rw [d1] at d2; cases d2
      · obtain ⟨o1, e1, _, d1⟩ := (show s.heap.IsListIter i2 b i from h2)
        obtain ⟨o2, e2, _, n, d2⟩ := (show s.heap.IsList i2 its2.toArray from p2)
        rw [e1] at e2; cases e2; rw [d1] at d2; cases d2
    exact wpAny_pyNext_zipD2_end D (drawsK hd p i1 a n1 its.toArray) (drawsK hd q i2 b n2 its2.toArray) hz hTI hTO ⟨h1, p1⟩ ⟨h2, p2⟩ (by simp; omega) (by simp; omega) (by simp; omega) fun h' tk hk => ⟨rfl, I.turnedL (t' := tk) (ch := [z, TI, TO, i1, i2]) (fun c o hb q =>
      hk c o (fun q' => hb (by simp [q'])) (fun q' => hb (by simp [q'])) (fun q' => hb (by simp [q'])) (fun q' => hb (by simp [q'])) q) hf⟩
  self := fun A i s Q E st h => wpAny_pyIter_zip st.1 h
/-- one, each item with its place -/
def IteK (K : PySem.W.Frag) (p : Bool) (a : Addr) : It :=
  ⟨fun i H => ∃ (xs : List V) (x : V), SqK K p H a xs ∧ xs[i]? = some x, fun i H v H' => ∃ T x, v = .ref T ∧ H T = none ∧ H' = upd H T (.tup [.int (i : Nat), x]) ∧ ∀ xs, SqK K p H a xs → xs[i]? = some x, fun i H => ∃ xs : List V, SqK K p H a xs ∧ i = xs.length⟩
theorem turn_enumK {P : Program} {w : World} {K : PySem.W.Frag} {elts : List Expr} {kk : Nat} {tpos : Pos} {p : Bool} (a e it : Addr) (hea : e ≠ a) (hia : a ≠ it) :
    Turn P w K (.Tuple elts kk tpos) (IteK K p a) [e, it] e (fun i h => (∃ old, IsEnum h e it ((i : Nat) : Int) old) ∧ IsIt p h it a i ∧ e ≠ it) where
  mem := by simp
  obj := fun i h st b hb => by
    obtain ⟨⟨old, he⟩, h1, _⟩ := st
    have e' : b = e ∨ b = it := by simpa using hb
    rcases e' with z | z
    · rw [z]; exact ⟨_, he, fun v q => nomatch q⟩
    · rw [z]; exact h1.ob
  keep := fun i h h' st k => let ⟨⟨old, he⟩, hi, hne⟩ := st; ⟨⟨old, k e (by simp) _ he⟩, hi.at fun o q => k it (by simp) o q, hne⟩
  item := by
    intro X hP hw hK hc i pins s σ H E I hf st hg
    subst hP hw hK
    obtain ⟨⟨old, he⟩, hit, hne⟩ := st
    obtain ⟨xs, x, hq, hx⟩ := hg
    obtain ⟨its, rv, p1, l1⟩ := seqK I hq
    obtain ⟨u, hu, ru⟩ := rv.get hx
    have hel : e < s.heap.objs.size := Heap.lt_size he
    have hil : it < s.heap.objs.size := by obtain ⟨_, q, _⟩ := hit.ob; exact Heap.lt_size q
    have hd : X.A.in1.handled = none := I.ok.hd hc
    have lt1 : i < its.toArray.size := (Array.getElem?_eq_some_iff.mp (show its.toArray[i]? = some u by simpa using hu)).1
    refine wpAny_pyNext_enum_itemD (drawsK hd p it a hia its.toArray) he ⟨hit, p1⟩ lt1 hne (by simp [hne, hea]) fun x1 h' tk hx1 ho st1 hT hsz hk => ?_
    have ex1 : x1 = u := by
      have e1 : its.toArray[i]? = some u := by simpa using hu
      rw [e1] at hx1; cases hx1; rfl
    subst ex1
    refine ⟨_, rfl, wpAny_letOwnedTupleGo_enum (s := { s with heap := h', toks := tk + 1 }) ho fun h'' he' sb => ?_⟩
    have hT2 : h''.get? s.heap.objs.size = some { cls := .type "tuple", data := .seq #[.int i tk, x1] } := (sb.2 _ (Nat.ne_of_gt hel)).trans hT
    have new : ObjOk X.prog X.w (upd H s.heap.objs.size (.tup [.int (i : Nat), x])) h'' s.heap.objs.size (.tup [.int (i : Nat), x]) :=
      ⟨by show 2 ≤ sizeLine; decide, [.int i tk, x1], .cons ⟨_, rfl⟩ (.cons ru .nil), ⟨_, hT2, rfl, _, rfl⟩⟩
    have I1 : Inv X pins σ (upd H s.heap.objs.size (.tup [.int (i : Nat), x])) { s with heap := h'', toks := tk + 1 } :=
      I.turnedNew (ch := [e, it]) (fun b ob hb q => (sb.2 b (fun z => hb (by simp [z]))).trans (hk b ob (fun z => hb (by simp [z])) (fun z => hb (by simp [z])) q)) hf (Nat.le_refl _) new
    refine ⟨.ref s.heap.objs.size, _, I1, rfl, ⟨_, x, rfl, I.hok.fresh (Nat.le_refl _), rfl, fun ys hy => by rw [seqK_inj I hy hq]; exact hx⟩, ⟨⟨x1, ?_⟩, st1.1.at fun o q => (sb.2 it (Ne.symm hne)).trans q, hne⟩, fun b hb => ?_⟩
    · have e1 : ((i + 1 : Nat) : Int) = (i : Int) + 1 := by omega
      rw [e1]; exact he'
    · have hb' : b < s.heap.objs.size := by
        have e' : b = e ∨ b = it := by simpa using hb
        rcases e' with z | z
        · rw [z]; exact hel
        · rw [z]; exact hil
      rw [upd_ne (Nat.ne_of_lt hb')]
      exact (hf b hb).1
  done := by
    intro X hP hw hK hc i pins s σ H E I hf st hg
    subst hP hw hK
    obtain ⟨⟨old, he⟩, hit, hne⟩ := st
    obtain ⟨xs, hq, hx⟩ := hg
    obtain ⟨its, rv, p1, l1⟩ := seqK I hq
    obtain ⟨f0, f1, f2, f3, f4, f5⟩ := hf it (by simp)
    have hl := rv.length
    have hd : X.A.in1.handled = none := I.ok.hd hc
    have e1 : i = its.toArray.size := by simp; omega
    subst e1
    exact wpAny_pyNext_enum_endD (drawsK hd p it a hia its.toArray) he ⟨hit, p1⟩ fun h' eb => ⟨rfl, I.turned (t' := s.toks) (fun b o hb q => eb b o hb q) f0 f1 f3 f4 f5⟩
  self := fun A i s Q E st h => let ⟨⟨_, he⟩, _⟩ := st; wpAny_pyIter_enum he h
/-! ### enumerate of a list or a tuple is made -/
theorem meets_enumerate_newB {v1 : Value} {o1 : Obj} {H1 : Heap → Prop} (B1 : Begins v1 o1 H1) :
    Meets (Builtin.«enumerate.__new__» ⟨[.type "enumerate", v1], []⟩) (fun _ R s => H1 s.heap ∧
      R (.ok (.ret (.ref (s.heap.objs.size + 1)))) { s with heap := (s.heap.push o1).push { cls := .type "enumerate", data := .fields #[.none, .bool false, .ref s.heap.objs.size, rawInt 0, .none, .none] } }) :=
  .of_wp fun prog w A R s h => by
    obtain ⟨hp, g, d, tk, os⟩ := s
    obtain ⟨h1, h⟩ := h
    have hsub := sub_enumerate
    have q1 : ∀ {A' : Around} {E : Value → Shared → Prop} {Q : Value → Shared → Prop}, Q (.ref hp.objs.size) ⟨(hp.push o1), g, d, tk, os⟩ → wpAny (model prog w) A' (pyIter v1) Q E ⟨hp, g, d, tk, os⟩ :=
      fun q => B1.iter prog w _ _ ⟨hp, g, d, tk, os⟩ _ (B1.keeps _ _ h1 fun b o' e => e) q
    have hz : (hp.push o1).objs.size = hp.objs.size + 1 := Heap.size_push ..
    wp_walk
    refine wpAny_stack_any fun st => wpAny_pure ?_
    split
    · rename_i c _ _ _ _ _
      cases (c == Value.type "enumerate")
      · wp_walk using q1
        exact ⟨_, rfl, by rw [hz]; exact h⟩
      · wp_walk using q1
        exact ⟨_, rfl, by rw [hz]; exact h⟩
    · wp_walk using q1
      exact ⟨_, rfl, by rw [hz]; exact h⟩
section
variable {prog : Program} {w : World} {A : Around} {E : Value → Shared → Prop} {s : Shared}
theorem call_enumerateB {v1 : Value} {o1 : Obj} {H1 : Heap → Prop} {Q : Value → Shared → Prop} (B1 : Begins v1 o1 H1) (h1 : H1 s.heap)
    (h : ∀ h', IsEnum h' (s.heap.objs.size + 1) s.heap.objs.size 0 .none → h'.get? s.heap.objs.size = some o1 → h'.objs.size = s.heap.objs.size + 2 →
      (∀ b o, s.heap.get? b = some o → h'.get? b = some o) → Q (.ref (s.heap.objs.size + 1)) { s with heap := h' }) :
    wpAny (model prog w) A (call (.type "enumerate") [v1]) Q E s := by
  refine callType_new F.called_enumerate (by decide) (F.typeCall_enumerate_1 _) (F.newCall_enumerate_1 _) (fun obj => F.args_object_init_2 obj _) F.entry_enumerate_new
    (meets_enumerate_newB B1) ⟨h1, ?_⟩
  have hz : (s.heap.push o1).objs.size = s.heap.objs.size + 1 := Heap.size_push ..
  have he : IsEnum ((s.heap.push o1).push
      { cls := .type "enumerate", data := .fields #[.none, .bool false, .ref s.heap.objs.size, rawInt 0, .none, .none] }) (s.heap.objs.size + 1) s.heap.objs.size 0 .none := by
    have := Heap.get?_push_size (s.heap.push o1)
      (o := { cls := .type "enumerate", data := .fields #[.none, .bool false, .ref s.heap.objs.size, rawInt 0, .none, .none] }) rfl
    rw [hz] at this; exact this
  refine ⟨⟨_, he, rfl⟩, h _ he (Heap.get?_push_of_some _ (Heap.get?_push_size _ B1.free)) (by rw [Heap.size_push, hz]) fun b o x => Heap.get?_push_of_some _ (Heap.get?_push_of_some _ x)⟩
end
theorem zipSep (n : Nat) (a b : Nat) (la : a < n) (lb : b < n) : ZipSep2 (n + 4) (n + 2) (n + 3) n (n + 1) [n, a] [n + 1, b] := by
  have k1 : ∀ x y : Nat, x ∉ [y, a] ↔ x ≠ y ∧ x ≠ a := by simp
  have k2 : ∀ x y : Nat, x ∉ [y, b] ↔ x ≠ y ∧ x ≠ b := by simp
  exact ⟨show n + 2 ≠ n + 4 by omega, show n + 3 ≠ n + 4 by omega, show n + 2 ≠ n + 3 by omega, show n + 2 ≠ n by omega, List.mem_cons_self, (k1 _ _).mpr (by omega), (k1 _ _).mpr (by omega), show n + 2 ≠ n + 1 by omega, List.mem_cons_self, (k2 _ _).mpr (by omega), (k2 _ _).mpr (by omega), (k2 _ _).mpr (by omega), (k1 _ _).mpr (by omega)⟩
/-! ### the readings -/
def iSeqK (K : PySem.W.Frag) (tl : TE) : TI := fun σ H R => tl σ H fun x H1 => ∃ a, x = .ref a ∧ ((∃ xs, SqL K H1 a xs) ∧ R (Itl K a) H1 ∨ (∃ xs, SqT K H1 a xs) ∧ R (Itt K a) H1)
def iZipK (K : PySem.W.Frag) (ta : TA) : TI := fun σ H R => ta σ H fun vs H1 => ∃ p q a b xs ys, vs = [.ref a, .ref b] ∧ SqK K p H1 a xs ∧ SqK K q H1 b ys ∧ R (ItzK K p q a b) H1
def iEnumK (K : PySem.W.Frag) (ta : TA) : TI := fun σ H R => ta σ H fun vs H1 => ∃ p a xs, vs = [.ref a] ∧ SqK K p H1 a xs ∧ R (IteK K p a) H1
section
variable {X : Cx} {tg : Expr}
theorem pi_seqK {l : Expr} {tl : TE} (hl : PE X l tl) : PI X tg l (iSeqK X.K tl) := by
  refine ⟨fun pins s σ H R I h => ?_⟩
  refine thn (hl.run pins s σ H _ I h) fun v s1 ⟨x, H1, I1, r1, q1⟩ => ?_
  obtain ⟨a, e, q1⟩ := q1
  subst e
  cases r1
  rcases q1 with ⟨⟨xs, hq⟩, q⟩ | ⟨⟨xs, hq⟩, q⟩
  · obtain ⟨its, rv, p, hz⟩ := I1.list hq
    refine wpAny_pyIter_list p.isList ?_
    refine ⟨s1.heap.objs.size, [s1.heap.objs.size], _, _, H1, rfl, I1.kept (t' := s1.toks) fun b o e => Heap.get?_push_of_some _ e, turn_list a _, ⟨_, Heap.get?_push_size _ rfl, rfl, rfl⟩, fun b hb => ?_, q⟩
    have e : b = s1.heap.objs.size := by simpa using hb
    subst e
    exact I1.fpOk (Nat.le_refl _) (I1.hok.fresh (Nat.le_refl _))
  · obtain ⟨its, rv, p, hz⟩ := I1.tuple hq
    refine wpAny_pyIter_tuple (show s1.heap.IsTuple a its.toArray from p) ?_
    refine ⟨s1.heap.objs.size, [s1.heap.objs.size], _, _, H1, rfl, I1.kept (t' := s1.toks) fun b o e => Heap.get?_push_of_some _ e, turn_tuple a _, ⟨_, Heap.get?_push_size _ rfl, rfl, rfl⟩, fun b hb => ?_, q⟩
    have e : b = s1.heap.objs.size := by simpa using hb
    subst e
    exact I1.fpOk (Nat.le_refl _) (I1.hok.fresh (Nat.le_refl _))
theorem pi_zipK {e e2 : Expr} {ta : TA} {p pos tpos : Pos} {elts : List Expr} {kk : Nat} (hg : Gl X "zip") (hm : X.mg "zip" = none) (ha : PA X [e, e2] ta)
    (hs : starEach [e, e2] X.env = (false, eval e X.env) :: starEach [e2] X.env := by rfl) (hpl : (backTo pos (starEach [e2] X.env)).any (·.1) = false := by rfl) :
    PI X (.Tuple elts kk tpos) (.Call (.Name "zip" p) [e, e2] [] pos) (iZipK X.K ta) := by
  refine ⟨fun pins s σ H R I h => ?_⟩
  refine Call_ (ld_blt I hg hm PyProof.Rows.boot_zip (PyProof.Rows.callWith_type1 (thn (ha.run pos pins s σ H _ I h) fun us s1 ⟨vs, H1, I1, r1, q1⟩ => ?_) hs hpl))
  obtain ⟨p, q, a, b, xs, ys, ex, hqx, hqy, q1⟩ := q1
  subst ex
  cases r1 with
  | cons r rr =>
    cases rr with
    | cons r' rr =>
      cases rr
      cases r
      cases r'
      obtain ⟨its, rv, p1, la⟩ := seqK I1 hqx
      obtain ⟨its2, rv2, p2, lb⟩ := seqK I1 hqy
      refine zip_begins2 (beginsK p a its.toArray) (beginsK q b its2.toArray) p1 p2 fun h' hz hTI hTO h1 h2 hsz hk => wpAny_pyIter_zip hz ?_
      have I2 : Inv X pins σ H1 { s1 with heap := h' } := I1.kept (t' := s1.toks) hk
      have D : ZipSep2 (s1.heap.objs.size + 4) (s1.heap.objs.size + 2) (s1.heap.objs.size + 3) s1.heap.objs.size (s1.heap.objs.size + 1) [s1.heap.objs.size, a] [s1.heap.objs.size + 1, b] := zipSep _ a b la lb
      refine ⟨s1.heap.objs.size + 4, [s1.heap.objs.size + 4, s1.heap.objs.size + 2, s1.heap.objs.size + 3, s1.heap.objs.size, s1.heap.objs.size + 1], _, _, H1, rfl, I2, turn_zipK D, ⟨hz, hTI, ⟨_, _, hTO⟩, IsIt.new h1, IsIt.new h2⟩, fun c hcm => ?_, q1⟩
      have e' : c = s1.heap.objs.size + 4 ∨ c = s1.heap.objs.size + 2 ∨ c = s1.heap.objs.size + 3 ∨ c = s1.heap.objs.size ∨ c = s1.heap.objs.size + 1 := by simpa using hcm
      have hle : s1.heap.objs.size ≤ c := by
        rcases e' with z | z | z | z | z
        · rw [z]; exact Nat.le_add_right _ _
        · rw [z]; exact Nat.le_add_right _ _
        · rw [z]; exact Nat.le_add_right _ _
        · rw [z]; exact Nat.le_refl _
        · rw [z]; exact Nat.le_add_right _ _
      exact I1.fpOk hle (I1.hok.fresh hle)
theorem pi_enumK {e : Expr} {ta : TA} {p pos tpos : Pos} {elts : List Expr} {kk : Nat} (hg : Gl X "enumerate") (hm : X.mg "enumerate" = none) (ha : PA X [e] ta) (hs : starEach [e] X.env = [(false, eval e X.env)] := by rfl) :
    PI X (.Tuple elts kk tpos) (.Call (.Name "enumerate" p) [e] [] pos) (iEnumK X.K ta) := by
  refine ⟨fun pins s σ H R I h => ?_⟩
  refine Call_ (ld_blt I hg hm boot_enumerate (PyProof.Rows.callWith_type1 (thn (ha.run pos pins s σ H _ I h) fun us s1 ⟨vs, H1, I1, r1, q1⟩ => ?_) hs rfl))
  obtain ⟨p, a, xs, ex, hq, q⟩ := q1
  subst ex
  cases r1 with
  | cons r rr =>
    cases rr
    cases r
    obtain ⟨its, rv, p1, la⟩ := seqK I1 hq
    refine call_enumerateB (beginsK p a its.toArray) p1 fun h' he hit hsz hk => wpAny_pyIter_enum he ?_
    have I2 : Inv X pins σ H1 { s1 with heap := h' } := I1.kept (t' := s1.toks) hk
    have la' : a < s1.heap.objs.size := la
    refine ⟨s1.heap.objs.size + 1, [s1.heap.objs.size + 1, s1.heap.objs.size], _, _, H1, rfl, I2, turn_enumK a (s1.heap.objs.size + 1) s1.heap.objs.size (Nat.ne_of_gt (Nat.lt_succ_of_lt la)) (Nat.ne_of_lt la), ⟨⟨.none, he⟩, IsIt.new hit, Nat.succ_ne_self _⟩, fun b hb => ?_, q⟩
    have e' : b = s1.heap.objs.size + 1 ∨ b = s1.heap.objs.size := by simpa using hb
    have hle : s1.heap.objs.size ≤ b := by
      rcases e' with z | z
      · rw [z]; exact Nat.le_add_right _ _
      · rw [z]; exact Nat.le_refl _
    exact I1.fpOk hle (I1.hok.fresh hle)
end
end PV
set_option Elab.async false
set_option linter.all false
set_option maxRecDepth 100000
namespace PV
open PySem PySem.Spec PyProof.Rows L2
theorem PI.imp {X : Cx} {tg e : Expr} {t t' : TI} (h : PI X tg e t) (k : ∀ σ H R, t' σ H R → t σ H R) : PI X tg e t' := ⟨fun pins s σ H R I q => h.run pins s σ H R I (k σ H R q)⟩
/-- what is walked stays: shared data, or a locked slot's list -/
def SrcAt (G : Gb) (c : Cf) (d : D) (v : V) : Prop := Rep G c.F d v ∨ ∃ (i : Nat) (ds : List D), d = .lst ds ∧ c.e[i]? = some (Cell.lk ds) ∧ c.σ[i]? = some (some v)
structure ItOk (G : Gb) (J : It) (Keep : Cf → Prop) (ds : List D) : Prop where
  mono : ∀ c c', Same c.F c'.F → (∀ (i : Nat) (ds : List D) (v : V), c.e[i]? = some (Cell.lk ds) → c.σ[i]? = some (some v) → (c'.e[i]? = some (Cell.lk ds) ∧ c'.σ[i]? = some (some v)) ∨ Rep G c'.F (.lst ds) v) → Keep c → Keep c'
  go : ∀ c i, Sim G c → Keep c → i < ds.length → J.go i c.H
  yld : ∀ c i x H', Sim G c → Keep c → i < ds.length → J.yld i c.H x H' → ∃ d F', ds[i]? = some d ∧ StepV c.F c.H F' H' ∧ Rep G F' d x
  stop : ∀ c, Sim G c → Keep c → J.stop ds.length c.H
def PostI (G : Gb) (W : XK) (c : Cf) (R : It → Hp → Prop) : PV.R ((List D × List Nat) × En) → Prop
  | .ok ((ds, ls), e') => ∀ J Keep F' H', Step G c ⟨F', c.σ, H', e'⟩ → Sim G ⟨F', c.σ, H', e'⟩ → (∀ i ∈ ls, ∀ ds, e'[i]? ≠ some (.lk ds)) → ItOk G J Keep ds → Keep ⟨F', c.σ, H', ls.foldr PV.lock e'⟩ → R J H'
  | .exc x => ∀ cls d H', (∀ b o, c.H b = some o → ¬ c.W b → H' b = some o) → XAt G x cls d H' → W cls d H'
  | .stuck => False
def tI (G : Gb) (W : XK) (m : En → PV.R ((List D × List Nat) × En)) : TI := fun σ H R => ∃ F e, Sim G ⟨F, σ, H, e⟩ ∧ PostI G W ⟨F, σ, H, e⟩ R (m e)
section
variable {G : Gb} {W : XK} {X : Cx} {cf : CF} {lv : Nat} {c c1 : Cf} {F F' H H' : Hp} {σ : Sg} {e : En} {R : It → Hp → Prop}
theorem PostI.hx : ∀ (c : Cf) x, PostI G W c R (.exc x) → ∀ cls d H', (∀ b o, c.H b = some o → ¬ c.W b → H' b = some o) → XAt G x cls d H' → W cls d H' := fun _ _ h => h
theorem PostI.next {r : PV.R ((List D × List Nat) × En)} (h : PostI G W c R r) (s : Step G c c1) (e : c1.σ = c.σ) : PostI G W c1 R r := by
  cases r with
  | ok p =>
    obtain ⟨⟨ds, ls⟩, e'⟩ := p
    intro J Keep F' H' st S hn it k
    rw [e] at st S k
    exact h J Keep F' H' (s.trans st) S hn it k
  | exc x =>
    intro cls d H' fr xa
    exact h cls d H' (fun b o hb hw => fr b o (s.frame b o hb hw) fun w => (s.w b w).elim hw fun z => by rw [hb] at z; cases z) xa
  | stuck => exact h
theorem SrcAt.step {d : D} {v : V} (h : SrcAt G c d v) (sf : Same c.F c1.F) (sl : ∀ (i : Nat) (ds : List D) (v : V), c.e[i]? = some (Cell.lk ds) → c.σ[i]? = some (some v) → (c1.e[i]? = some (Cell.lk ds) ∧ c1.σ[i]? = some (some v)) ∨ Rep G c1.F (.lst ds) v) : SrcAt G c1 d v := by
  rcases h with h | ⟨i, ds, rfl, h1, h2⟩
  · exact .inl (Rep.mono sf h)
  · rcases sl i ds v h1 h2 with ⟨k1, k2⟩ | k
    · exact .inr ⟨i, ds, rfl, k1, k2⟩
    · exact .inl k
def kd : D → Bool
  | .lst _ => true
  | _ => false
theorem SrcAt.sq {d : D} {v : V} {xs : List D} (h : SrcAt G c d v) (S : Sim G c) (hi : items d = some xs) : ∃ a vs, v = .ref a ∧ SqK G.K (kd d) c.H a vs ∧ Reps G c.F xs vs := by
  cases d <;> simp only [items] at hi <;> cases hi
  · rcases h with h | ⟨i, ds, z, _⟩
    · simp only [Rep] at h
      obtain ⟨a, vs, h1, h2, h3⟩ := h
      exact ⟨a, vs, h1, sqT_same S.sub h2, h3⟩
    · cases z
  · rcases h with h | ⟨i, ds, z, h1, h2⟩
    · simp only [Rep] at h
      obtain ⟨a, vs, h1, h2, h3⟩ := h
      exact ⟨a, vs, h1, .inl (.inl (S.sub _ _ h2)), h3⟩
    · cases z
      obtain ⟨a, q1, vs, q2, q3, q4⟩ := S.cell i _ h1
      rw [h2] at q1
      cases q1
      exact ⟨a, vs, rfl, .inl (.inl q2), q4⟩
theorem locks_get {ls : List Nat} {j : Nat} : (ls.foldr PV.lock e)[j]? = match e[j]? with
    | some (.ow ds) => if j ∈ ls then some (.lk ds) else some (.ow ds)
    | x => x := by
  induction ls with
  | nil =>
    show e[j]? = _
    cases hx : e[j]? with
    | none => rfl
    | some x => cases x <;> simp
  | cons i r ih =>
    rw [List.foldr_cons, lock_get, ih]
    cases e[j]? with
    | none => rfl
    | some x =>
      cases x <;> simp only []
      by_cases z : j ∈ r
      · simp [z]
      · by_cases z' : j = i
        · subst z'; simp [z]
        · simp [z, z']
/-- a looked-at value is a source -/
theorem srcAt_of {vl : Vl} {v : V} {d : D} {ls : List Nat} {H0 : Hp} (S : Sim G ⟨F, σ, H, e⟩) (hh : hold vl = vl) (r : VRel G H0 ⟨F, σ, H, e⟩ v vl) (hp : peek vl e = .ok d) (hw : wOk vl e = true) (hl : ∀ i ∈ lks vl e, i ∈ ls) : SrcAt G ⟨F, σ, H, ls.foldr PV.lock e⟩ d v := by
  cases vl with
  | sh d' => cases hp; exact Or.inl r
  | ow ds => cases hh
  | sl i =>
    have r : σ[i]? = some (some v) := r
    unfold peek at hp
    unfold wOk at hw
    unfold lks at hl
    dsimp only at hp hw hl
    cases hx : e[i]? with
    | none => rw [hx] at hp; cases hp
    | some x =>
      have k := S.cell i x hx
      rw [hx] at hp hw hl
      cases x with
      | un => cases hp
      | bld c ds => cases hp
      | io ds => cases hw
      | sh d' =>
        cases hp
        obtain ⟨u, k1, k2⟩ := k
        have k1 : σ[i]? = some (some u) := k1
        rw [r] at k1; cases k1
        exact Or.inl k2
      | ow ds =>
        cases hp
        refine Or.inr ⟨i, ds, rfl, ?_, r⟩
        show (ls.foldr PV.lock e)[i]? = _
        rw [locks_get, hx]
        simp [hl i (by simp)]
      | lk ds =>
        cases hp
        refine Or.inr ⟨i, ds, rfl, ?_, r⟩
        show (ls.foldr PV.lock e)[i]? = _
        rw [locks_get, hx]
theorem lks_not {vl : Vl} : ∀ i ∈ lks vl e, ∀ ds, e[i]? ≠ some (.lk ds) := fun i hi ds hx => by
  unfold lks at hi
  cases vl with
  | sl j =>
    simp only at hi
    split at hi
    · rename_i xs hj
      have z : i = j := by simpa using hi
      subst z
      rw [hx] at hj; cases hj
    · cases hi
  | _ => cases hi
theorem lks_hold {vl : Vl} : lks (hold vl) e = lks vl e := by cases vl <;> rfl
theorem wOk_hold {vl : Vl} : wOk (hold vl) e = wOk vl e := by cases vl <;> rfl
theorem pkE {α : Type} {vl : Vl} {k : D → En → PV.R (α × En)} {Post : PV.R (α × En) → Prop} (hs : ¬ Post .stuck) (h : Post (bnd (pk vl e) k)) : ∃ d, peek vl e = .ok d ∧ Post (k d e) := by
  unfold pk at h
  cases hp : peek vl e with
  | ok d => rw [hp] at h; exact ⟨d, rfl, h⟩
  | exc x =>
    unfold peek at hp
    split at hp
    · cases hp
    · cases hp
    · split at hp <;> cases hp
  | stuck => rw [hp] at h; exact (hs h).elim
theorem Reps.getI {ds : List D} {vs : List V} {i : Nat} (r : Reps G F ds vs) (h : i < ds.length) : ∃ d v, ds[i]? = some d ∧ vs[i]? = some v ∧ Rep G F d v := by
  have e : ds[i]? = some ds[i] := List.getElem?_eq_getElem h
  obtain ⟨v, k1, k2⟩ := r.get e
  exact ⟨_, v, e, k1, k2⟩
/-! ### iterators -/
theorem itOk_seq {d : D} {a : Addr} {xs : List D} (hi : items d = some xs) : ItOk G (match kd d with
    | true => Itl G.K a
    | false => Itt G.K a) (fun c => SrcAt G c d (.ref a)) xs where
  mono := fun c c' sf sl k => k.step sf sl
  go := fun c i S k h => by
    obtain ⟨a', vs, ea, q, r⟩ := k.sq S hi
    cases ea
    obtain ⟨x, v, _, hv, _⟩ := r.getI h
    cases hk : kd d <;> rw [hk] at q <;> exact ⟨vs, v, q, hv⟩
  yld := fun c i x H' S k h y => by
    obtain ⟨a', vs, ea, q, r⟩ := k.sq S hi
    cases ea
    obtain ⟨dx, v, hd, hv, rv⟩ := r.getI h
    cases hk : kd d <;> rw [hk] at q y
    · obtain ⟨rfl, y⟩ := y
      rw [y vs q] at hv; cases hv
      exact ⟨dx, c.F, hd, .rfl' S.sub, rv⟩
    · obtain ⟨rfl, y⟩ := y
      rw [y vs q] at hv; cases hv
      exact ⟨dx, c.F, hd, .rfl' S.sub, rv⟩
  stop := fun c S k => by
    obtain ⟨a', vs, ea, q, r⟩ := k.sq S hi
    cases ea
    have hl := r.length
    cases hk : kd d <;> rw [hk] at q <;> exact ⟨vs, q, by omega⟩
theorem new_pair {dx dy : D} {x y : V} {T : Addr} (S : Sim G c) (hT : c.H T = none) (rx : Rep G c.F dx x) (ry : Rep G c.F dy y) : ∃ F', StepV c.F c.H F' (upd c.H T (.tup [x, y])) ∧ Rep G F' (.tup [dx, dy]) (.ref T) := by
  have st := StepV.new1 (o := .tup [x, y]) S.sub hT
  refine ⟨_, st, ?_⟩
  simp only [Rep]
  exact ⟨T, [x, y], rfl, .inl (.inl upd_same), .cons (rx.mono st.f) (.cons (ry.mono st.f) .nil)⟩
theorem enumD_get : ∀ (n : Nat) (ds : List D) (i : Nat), (enumD n ds)[i]? = ds[i]?.map fun d => .tup [.int ((n + i : Nat) : Int), d]
  | n, [], i => by simp [enumD]
  | n, d :: ds, 0 => by simp [enumD]
  | n, d :: ds, i + 1 => by
    simp only [enumD, List.getElem?_cons_succ]
    rw [enumD_get (n + 1) ds i]
    have : n + 1 + i = n + (i + 1) := by omega
    rw [this]
theorem enumD_len : ∀ (n : Nat) (ds : List D), (enumD n ds).length = ds.length
  | n, [] => rfl
  | n, d :: ds => by simp [enumD, enumD_len (n + 1) ds]
theorem zipD_len : ∀ (xs ys : List D), (zipD xs ys).length = min xs.length ys.length
  | [], ys => by simp [zipD]
  | x :: xs, [] => by simp [zipD]
  | x :: xs, y :: ys => by simp [zipD, zipD_len xs ys]
theorem zipD_get : ∀ (xs ys : List D) (i : Nat) (x y : D), xs[i]? = some x → ys[i]? = some y → (zipD xs ys)[i]? = some (.tup [x, y])
  | [], ys, i, x, y, h, _ => by simp at h
  | x :: xs, [], i, _, _, _, h => by simp at h
  | x :: xs, y :: ys, 0, a, b, h, k => by simp at h k; simp [zipD, h, k]
  | x :: xs, y :: ys, i + 1, a, b, h, k => by
    simp only [List.getElem?_cons_succ] at h k
    simp [zipD, zipD_get xs ys i a b h k]
theorem itOk_enum {d : D} {a : Addr} {xs : List D} (hi : items d = some xs) : ItOk G (IteK G.K (kd d) a) (fun c => SrcAt G c d (.ref a)) (enumD 0 xs) where
  mono := fun c c' sf sl k => k.step sf sl
  go := fun c i S k h => by
    obtain ⟨a', vs, ea, q, r⟩ := k.sq S hi
    cases ea
    rw [enumD_len] at h
    obtain ⟨x, v, _, hv, _⟩ := r.getI h
    exact ⟨vs, v, q, hv⟩
  yld := fun c i x H' S k h y => by
    obtain ⟨a', vs, ea, q, r⟩ := k.sq S hi
    cases ea
    rw [enumD_len] at h
    obtain ⟨dx, v, hd, hv, rv⟩ := r.getI h
    obtain ⟨T, u, rfl, hT, rfl, y⟩ := y
    rw [y vs q] at hv; cases hv
    have ri : Rep G c.F (.int (i : Nat)) (.int (i : Nat)) := by simp only [Rep]
    obtain ⟨F', st, rp⟩ := new_pair S hT ri rv
    exact ⟨_, F', by rw [enumD_get, hd]; simp, st, rp⟩
  stop := fun c S k => by
    obtain ⟨a', vs, ea, q, r⟩ := k.sq S hi
    cases ea
    have hl := r.length
    rw [enumD_len]
    exact ⟨vs, q, hl.symm⟩
theorem itOk_zip {d d' : D} {a b : Addr} {xs ys : List D} (hi : items d = some xs) (hj : items d' = some ys) : ItOk G (ItzK G.K (kd d) (kd d') a b) (fun c => SrcAt G c d (.ref a) ∧ SrcAt G c d' (.ref b)) (zipD xs ys) where
  mono := fun c c' sf sl k => ⟨k.1.step sf sl, k.2.step sf sl⟩
  go := fun c i S k h => by
    obtain ⟨a', vs, ea, q, r⟩ := k.1.sq S hi
    obtain ⟨b', us, eb, q', r'⟩ := k.2.sq S hj
    cases ea
    cases eb
    rw [zipD_len] at h
    obtain ⟨x, v, _, hv, _⟩ := r.getI (i := i) (by omega)
    obtain ⟨x', v', _, hv', _⟩ := r'.getI (i := i) (by omega)
    exact ⟨vs, us, v, v', q, q', hv, hv'⟩
  yld := fun c i x H' S k h y => by
    obtain ⟨a', vs, ea, q, r⟩ := k.1.sq S hi
    obtain ⟨b', us, eb, q', r'⟩ := k.2.sq S hj
    cases ea
    cases eb
    rw [zipD_len] at h
    obtain ⟨dx, v, hd, hv, rv⟩ := r.getI (i := i) (by omega)
    obtain ⟨dy, v', hd', hv', rv'⟩ := r'.getI (i := i) (by omega)
    obtain ⟨T, u, u', rfl, hT, rfl, y1, y2⟩ := y
    rw [y1 vs q] at hv; cases hv
    rw [y2 us q'] at hv'; cases hv'
    obtain ⟨F', st, rp⟩ := new_pair S hT rv rv'
    exact ⟨_, F', zipD_get xs ys i _ _ hd hd', st, rp⟩
  stop := fun c S k => by
    obtain ⟨a', vs, ea, q, r⟩ := k.1.sq S hi
    obtain ⟨b', us, eb, q', r'⟩ := k.2.sq S hj
    cases ea
    cases eb
    have hl := r.length
    have hl' := r'.length
    rw [zipD_len]
    exact ⟨vs, us, q, q', by omega, by omega, by omega⟩
theorem itOk_rng {lo : Int} {n : Nat} : ItOk G (Itr lo n) (fun _ => True) ((List.range n).map fun (i : Nat) => D.int (lo + i)) where
  mono := fun _ _ _ _ _ => trivial
  go := fun c i S _ h => by
    have h : i < n := by simpa using h
    exact h
  yld := fun c i x H' S _ h y => by
    obtain ⟨rfl, rfl⟩ := y
    simp at h
    exact ⟨.int (lo + i), c.F, by simp [h], .rfl' S.sub, by simp only [Rep]⟩
  stop := fun c S _ => by simp; exact Nat.le_refl _
theorem itOk_rngC {lo k : Int} {n : Nat} : ItOk G (Itc lo k n) (fun _ => True) ((List.range n).map fun (i : Nat) => D.int (lo + (i : Int) * k)) where
  mono := fun _ _ _ _ _ => trivial
  go := fun c i S _ h => by
    have h : i < n := by simpa using h
    exact h
  yld := fun c i x H' S _ h y => by
    obtain ⟨rfl, rfl⟩ := y
    simp at h
    exact ⟨.int (lo + i * k), c.F, by simp [h], .rfl' S.sub, by simp only [Rep]⟩
  stop := fun c S _ => by simp; exact Nat.le_refl _
/-! ### the rules -/
theorem gI_seq {tg l : Expr} {m : En → PV.R (Vl × En)} (hK : X.K = G.K) (hl : PE X l (tE G W m)) : PI X tg l (tI G W fun σ => bnd (m σ) fun v σ => bnd (pk (hold v) σ) fun x σ => match items x with
    | some ds => if wOk v σ = true then .ok ((ds, lks v σ), σ) else .stuck
    | none => .stuck) := by
  refine PI.imp (pi_seqK hl) fun σ H R ⟨F, e, S, h⟩ => ?_
  refine ⟨F, e, S, PostE.mk (r := .stuck) (Post := PostI G W _ R) _ _ (PostI.hx _) (fun z => z) h fun vl e1 v F1 H1 st1 S1 r1 h1 => ?_⟩
  obtain ⟨F2, st2, S2, r2⟩ := hold_ok st1 S1 r1
  have h2 := h1.next st2 rfl
  obtain ⟨d, hp, h3⟩ := pkE (Post := PostI G W _ R) (fun z => z) h2
  cases hi : items d with
  | none => simp only [hi] at h3; exact h3.elim
  | some xs =>
    simp only [hi] at h3
    by_cases hw : wOk vl e1 = true
    · rw [if_pos hw] at h3
      have sa : SrcAt G ⟨F2, σ, H1, (lks vl e1).foldr PV.lock e1⟩ d v := srcAt_of S2 (by cases vl <;> rfl) r2 hp (by rw [wOk_hold]; exact hw) (by rw [lks_hold]; exact fun _ h => h)
      obtain ⟨a, vs, rfl, q, rp⟩ := sa.sq S2.locks hi
      have q := q
      rw [← hK] at q
      have fin := h3 _ _ F2 H1 Step.rfl' S2 lks_not (itOk_seq hi) sa
      refine ⟨a, rfl, ?_⟩
      cases hk : kd d <;> rw [hk] at q fin
      · exact .inr ⟨⟨vs, q⟩, by rw [hK]; exact fin⟩
      · exact .inl ⟨⟨vs, q⟩, by rw [hK]; exact fin⟩
    · rw [if_neg hw] at h3; exact h3.elim
theorem VRels.one {vs : List V} {l : Vl} {H0 : Hp} (h : VRels G H0 c vs [l]) : ∃ v, vs = [v] ∧ VRel G H0 c v l ∧ hold l = l := by
  obtain ⟨v, r, rfl, h1, h2, h3⟩ := h
  have h3 : r = [] := h3
  subst h3
  rw [h2] at h1
  exact ⟨v, rfl, h1, h2⟩
theorem VRels.two {vs : List V} {l l' : Vl} {H0 : Hp} (h : VRels G H0 c vs [l, l']) : ∃ v v', vs = [v, v'] ∧ (VRel G H0 c v l ∧ hold l = l) ∧ VRel G H0 c v' l' ∧ hold l' = l' := by
  obtain ⟨v, r, rfl, h1, h2, h3⟩ := h
  obtain ⟨v', rfl, k1, k2⟩ := VRels.one (vs := r) h3
  rw [h2] at h1
  exact ⟨v, v', rfl, ⟨h1, h2⟩, k1, k2⟩
theorem peek_noexc {l : Vl} {e : En} : ∀ x, peek l e ≠ .exc x := fun x hp => by
  unfold peek at hp
  split at hp
  · cases hp
  · cases hp
  · split at hp <;> cases hp
theorem pks_noexc : ∀ (ls : List Vl) (e : En) (x : Exn), pks ls e ≠ .exc x
  | [], e, x, z => by cases z
  | l :: ls, e, x, z => by
    simp only [pks, pk] at z
    cases hp : peek l e with
    | ok d =>
      rw [hp] at z
      simp only [PV.R.map, bnd_ok] at z
      cases hr : pks ls e with
      | ok q => rw [hr] at z; cases q; cases z
      | exc y => exact pks_noexc ls e y hr
      | stuck => rw [hr] at z; cases z
    | exc y => exact peek_noexc y hp
    | stuck => rw [hp] at z; cases z
theorem gI_enum {e : Expr} {p pos tpos : Pos} {elts : List Expr} {kk : Nat} {ms : En → PV.R (List Vl × En)} (hK : X.K = G.K) (hg : Gl X "enumerate") (hm : X.mg "enumerate" = none) (ha : PA X [e] (tP G W ms)) (hs : starEach [e] X.env = [(false, eval e X.env)]) :
    PI X (.Tuple elts kk tpos) (.Call (.Name "enumerate" p) [e] [] pos) (tI G W fun σ => bnd (ms σ) fun vs σ => bnd (pks vs σ) fun ds σ => match vs, ds with
    | [va], [x] => (match items x with
      | some xs => if wOk va σ = true then .ok ((enumD 0 xs, lks va σ), σ) else .stuck
      | _ => .stuck)
    | _, _ => .stuck) := by
  refine PI.imp (pi_enumK hg hm ha hs) fun σ H R ⟨F, e, S, h⟩ => ?_
  refine ⟨F, e, S, PostP.bind (Post := PostI G W _ R) (PostI.hx _) (fun z => z) h fun ls e1 vs F1 H1 st1 S1 r1 h1 => ?_⟩
  have h1 := h1.next st1 rfl
  match ls, r1, h1 with
  | [], _, h1 => exact h1.elim
  | [va], r1, h1 =>
    obtain ⟨v, rfl, r2, hh⟩ := r1.one
    obtain ⟨d, hp, h3⟩ := pkE (Post := PostI G W _ R) (k := fun d σ => bnd (bnd (pks [] σ) fun ds σ => .ok (d :: ds, σ)) fun ds σ => match [va], ds with
      | [va], [x] => (match items x with
        | some xs => if wOk va σ = true then .ok ((enumD 0 xs, lks va σ), σ) else .stuck
        | _ => .stuck)
      | _, _ => .stuck) (fun z => z) (by
        have h1 := h1
        simp only [pks] at h1 ⊢
        cases hq : pk va e1 with
        | ok p => rw [hq] at h1; exact h1
        | exc x => rw [hq] at h1; exact h1
        | stuck => rw [hq] at h1; exact h1)
    simp only [pks, bnd_ok] at h3
    cases hi : items d with
    | none => simp only [hi] at h3; exact h3.elim
    | some xs =>
      simp only [hi] at h3
      by_cases hw : wOk va e1 = true
      · rw [if_pos hw] at h3
        have sa : SrcAt G ⟨F1, σ, H1, (lks va e1).foldr PV.lock e1⟩ d v := srcAt_of S1 hh r2 hp hw fun _ h => h
        obtain ⟨a, vs, rfl, q, rp⟩ := sa.sq S1.locks hi
        have q := q
        rw [← hK] at q
        have fin := h3 _ _ F1 H1 Step.rfl' S1 lks_not (itOk_enum hi) sa
        exact ⟨_, a, vs, rfl, q, by rw [hK]; exact fin⟩
      · rw [if_neg hw] at h3; exact h3.elim
  | va :: vb :: ls, r1, h1 =>
    exfalso
    cases hq : pks (va :: vb :: ls) e1 with
    | ok p => rw [hq] at h1; exact h1
    | exc x =>
      exact pks_noexc _ _ _ hq
    | stuck => rw [hq] at h1; exact h1
theorem gI_zip {e e2 : Expr} {p pos tpos : Pos} {elts : List Expr} {kk : Nat} {ms : En → PV.R (List Vl × En)} (hK : X.K = G.K) (hg : Gl X "zip") (hm : X.mg "zip" = none) (ha : PA X [e, e2] (tP G W ms)) (hs : starEach [e, e2] X.env = (false, eval e X.env) :: starEach [e2] X.env) (hpl : (backTo pos (starEach [e2] X.env)).any (·.1) = false) :
    PI X (.Tuple elts kk tpos) (.Call (.Name "zip" p) [e, e2] [] pos) (tI G W fun σ => bnd (ms σ) fun vs σ => bnd (pks vs σ) fun ds σ => match vs, ds with
    | [va, vb], [x, y] => (match items x, items y with
      | some xs, some ys => if wOk va σ = true ∧ wOk vb σ = true then .ok ((zipD xs ys, lks va σ ++ lks vb σ), σ) else .stuck
      | _, _ => .stuck)
    | _, _ => .stuck) := by
  refine PI.imp (pi_zipK hg hm ha hs hpl) fun σ H R ⟨F, e, S, h⟩ => ?_
  refine ⟨F, e, S, PostP.bind (Post := PostI G W _ R) (PostI.hx _) (fun z => z) h fun ls e1 vs F1 H1 st1 S1 r1 h1 => ?_⟩
  have h1 := h1.next st1 rfl
  have nope : (∀ va vb, ls ≠ [va, vb]) → False := fun hne => by
    cases hq : pks ls e1 with
    | ok p =>
      rw [hq] at h1
      obtain ⟨ds, e2⟩ := p
      rw [bnd_ok] at h1
      match ls, ds, hne, h1 with
      | [], _, _, h1 => exact h1
      | [_], _, _, h1 => exact h1
      | va :: vb :: [], _, hne, _ => exact hne va vb rfl
      | _ :: _ :: _ :: _, _, _, h1 => exact h1
    | exc x => exact pks_noexc _ _ _ hq
    | stuck => rw [hq] at h1; exact h1
  match ls, r1, h1, nope with
  | [], _, _, nope => exact (nope (by simp)).elim
  | [_], _, _, nope => exact (nope (by simp)).elim
  | _ :: _ :: _ :: _, _, _, nope => exact (nope (by simp)).elim
  | [va, vb], r1, h1, _ =>
    obtain ⟨v, v', rfl, ⟨r2, hh⟩, r3, hh'⟩ := r1.two
    have h2 : ∃ d d', peek va e1 = .ok d ∧ peek vb e1 = .ok d' := by
      cases hp : peek va e1 with
      | ok d =>
        cases hp' : peek vb e1 with
        | ok d' => exact ⟨d, d', rfl, rfl⟩
        | exc y => exact (peek_noexc y hp').elim
        | stuck => simp [pks, pk, hp, hp', PV.R.map] at h1; exact h1.elim
      | exc y => exact (peek_noexc y hp).elim
      | stuck => simp [pks, pk, hp, PV.R.map] at h1; exact h1.elim
    obtain ⟨d, d', hp, hp'⟩ := h2
    simp only [pks, pk, hp, hp', PV.R.map, bnd_ok] at h1
    cases hi : items d with
    | none => simp only [hi] at h1; exact h1.elim
    | some xs =>
      cases hj : items d' with
      | none => simp only [hi, hj] at h1; exact h1.elim
      | some ys =>
        simp only [hi, hj] at h1
        by_cases hw : wOk va e1 = true ∧ wOk vb e1 = true
        · rw [if_pos hw] at h1
          have sa : SrcAt G ⟨F1, σ, H1, (lks va e1 ++ lks vb e1).foldr PV.lock e1⟩ d v := srcAt_of S1 hh r2 hp hw.1 fun _ h => List.mem_append_left _ h
          have sb : SrcAt G ⟨F1, σ, H1, (lks va e1 ++ lks vb e1).foldr PV.lock e1⟩ d' v' := srcAt_of S1 hh' r3 hp' hw.2 fun _ h => List.mem_append_right _ h
          obtain ⟨a, vs, rfl, q, rp⟩ := sa.sq S1.locks hi
          obtain ⟨b, us, rfl, q', rp'⟩ := sb.sq S1.locks hj
          have q := q
          rw [← hK] at q
          have q' := q'
          rw [← hK] at q'
          have fin := h1 _ _ F1 H1 Step.rfl' S1 (fun i hi => (List.mem_append.mp hi).elim (lks_not i) (lks_not i)) (itOk_zip hi hj) ⟨sa, sb⟩
          exact ⟨_, _, a, b, vs, us, rfl, q, q', by rw [hK]; exact fin⟩
        · rw [if_neg hw] at h1; exact h1.elim
/-! ### ranges -/
theorem rngD_inv {lo hi c : Int} {ds : List D} (h : rngD lo hi c = some ds) : (-1000000 < lo ∧ lo < 1000000000 ∧ -1000000 < hi ∧ hi < 1000000000) ∧
    (c = 1 ∧ ds = ((List.range (hi - lo).toNat).map fun (i : Nat) => D.int (lo + i)) ∨ c = -1 ∧ ds = ((List.range (lo - hi).toNat).map fun (i : Nat) => D.int (lo + (i : Int) * (-1)))) := by
  unfold rngD at h
  split at h
  · rename_i hb
    refine ⟨hb, ?_⟩
    split at h
    · rename_i hc; cases h; exact .inl ⟨hc, rfl⟩
    · split at h
      · rename_i hc; cases h; exact .inr ⟨hc, rfl⟩
      · cases h
  · cases h
theorem Reps.int1 {n : Int} {vs : List V} (r : Reps G F [.int n] vs) : vs = [.int n] := by
  simp only [Reps, Rep] at r
  obtain ⟨v, _, rfl, rfl, rfl⟩ := r
  rfl
theorem Reps.int2 {n m : Int} {vs : List V} (r : Reps G F [.int n, .int m] vs) : vs = [.int n, .int m] := by
  simp only [Reps, Rep] at r
  obtain ⟨v, _, rfl, rfl, v', _, rfl, rfl, rfl⟩ := r
  rfl
theorem Reps.int3 {n m k : Int} {vs : List V} (r : Reps G F [.int n, .int m, .int k] vs) : vs = [.int n, .int m, .int k] := by
  simp only [Reps, Rep] at r
  obtain ⟨v, _, rfl, rfl, v', _, rfl, rfl, v'', _, rfl, rfl, rfl⟩ := r
  rfl
theorem PostA.inv {ms : PV.R (List D × En)} {n : Nat} {k : List D → En → PV.R ((List D × List Nat) × En)} {c : Cf} {Q : List V → Hp → Prop} (hl : ∀ ds σ', ms = .ok (ds, σ') → ds.length = n) (h : PostI G W c R (bnd ms k))
    (hk : ∀ ds e' vs F' H', ds.length = n → Step G c ⟨F', c.σ, H', e'⟩ → Sim G ⟨F', c.σ, H', e'⟩ → Reps G F' ds vs → PostI G W c R (k ds e') → Q vs H') : PostA G W c Q ms := by
  cases ms with
  | ok p =>
    obtain ⟨ds, e'⟩ := p
    intro vs F' H' st S r
    exact hk ds e' vs F' H' (hl ds e' rfl) st S r h
  | exc x => exact h
  | stuck => exact h
theorem gI_rng {es : List Expr} {p pos : Pos} {tg : Expr} {ms : En → PV.R (List D × En)} (hln : ∀ σ ds σ', ms σ = .ok (ds, σ') → ds.length = es.length) (hg : Gl X "range") (hm : X.mg "range" = none) (ha : PA X es (tA G W ms)) (hs : ∀ a l, a ∈ es → starEach (a :: l) X.env = (false, eval a X.env) :: starEach l X.env) (hpl : ∀ l : List Expr, (∀ a ∈ l, a ∈ es) → (backTo pos (starEach l X.env)).any (·.1) = false)
    (hne : es.length = 1 ∨ es.length = 2 ∨ es.length = 3) :
    PI X tg (.Call (.Name "range" p) es [] pos) (tI G W fun σ => bnd (ms σ) fun ds σ => match rngA ds with
    | some xs => .ok ((xs, []), σ)
    | none => .stuck) := by
  match es, hne with
  | [a], _ =>
    refine PI.imp (pi_range1 hg hm ha (hs a [] (by simp))) fun σ H R ⟨F, e, S, h⟩ => ?_
    refine ⟨F, e, S, PostA.inv (n := 1) (hln e) h fun ds e1 vs F1 H1 hl st1 S1 r1 h1 => ?_⟩
    have h1 := h1.next st1 rfl
    match ds, hl with
    | [d], _ =>
      cases d with
      | int n =>
        simp only [rngA] at h1
        cases hr : rngD 0 n 1 with
        | none => rw [hr] at h1; exact h1.elim
        | some xs =>
          rw [hr] at h1
          obtain ⟨hb, ⟨_, rfl⟩ | ⟨hc, _⟩⟩ := rngD_inv hr
          · refine ⟨n, r1.int1, by omega, by omega, ?_⟩
            have fin := h1 _ _ F1 H1 Step.rfl' S1 (by simp) (itOk_rng (n := (n - 0).toNat)) trivial
            simpa using fin
          · cases hc
      | _ => exact h1.elim
  | [a, b], _ =>
    refine PI.imp (pi_range2 hg hm ha (by rw [hs a _ (by simp), hs b _ (by simp)]; rfl) (by rw [hs b _ (by simp)]; rfl)) fun σ H R ⟨F, e, S, h⟩ => ?_
    refine ⟨F, e, S, PostA.inv (n := 2) (hln e) h fun ds e1 vs F1 H1 hl st1 S1 r1 h1 => ?_⟩
    have h1 := h1.next st1 rfl
    match ds, hl with
    | [d, d'], _ =>
      cases d with
      | int n =>
        cases d' with
        | int m =>
          simp only [rngA] at h1
          cases hr : rngD n m 1 with
          | none => rw [hr] at h1; exact h1.elim
          | some xs =>
            rw [hr] at h1
            obtain ⟨hb, ⟨_, rfl⟩ | ⟨hc, _⟩⟩ := rngD_inv hr
            · exact ⟨n, m, r1.int2, by omega, h1 _ _ F1 H1 Step.rfl' S1 (by simp) (itOk_rng (n := (m - n).toNat)) trivial⟩
            · cases hc
        | _ => exact h1.elim
      | _ => exact h1.elim
  | [a, b, c], _ =>
    refine PI.imp (pi_range3 hg hm ha (hs _ _ (by simp)) (hpl [b, c] (by simp))) fun σ H R ⟨F, e, S, h⟩ => ?_
    refine ⟨F, e, S, PostA.inv (n := 3) (hln e) h fun ds e1 vs F1 H1 hl st1 S1 r1 h1 => ?_⟩
    have h1 := h1.next st1 rfl
    match ds, hl with
    | [d, d', d''], _ =>
      cases d with
      | int n =>
        cases d' with
        | int m =>
          cases d'' with
          | int k =>
            simp only [rngA] at h1
            cases hr : rngD n m k with
            | none => rw [hr] at h1; exact h1.elim
            | some xs =>
              rw [hr] at h1
              obtain ⟨hb, ⟨rfl, rfl⟩ | ⟨rfl, rfl⟩⟩ := rngD_inv hr
              · refine ⟨n, m, 1, (m - n).toNat, r1.int3, ⟨by decide, by decide, small_one (by omega) (by omega) (by omega) (by omega), by rw [rangeSize_one]; split <;> omega⟩, ?_⟩
                exact h1 _ _ F1 H1 Step.rfl' S1 (by simp) (by
                  have := itOk_rngC (G := G) (lo := n) (k := 1) (n := (m - n).toNat)
                  simpa using this) trivial
              · exact ⟨n, m, -1, (n - m).toNat, r1.int3, RgC.neg (by omega) (by omega) (by omega) (by omega), h1 _ _ F1 H1 Step.rfl' S1 (by simp) itOk_rngC trivial⟩
          | _ => exact h1.elim
        | _ => exact h1.elim
      | _ => exact h1.elim
end
end PV
set_option Elab.async false
set_option linter.all false
set_option maxRecDepth 100000
namespace PV
open PySem PySem.Spec PyProof.Rows L2
/-! ## targets -/
def gNames : List Nat → TGs
  | [] => gNil
  | i :: is => gCons (gName i) (gNames is)
def gTg (K : PySem.W.Frag) (t : Tgt) : TG := match t with
  | .v i => gName i
  | .tp is => gTup K is.length (gNames is)
section
variable {G : Gb} {W : XK} {X : Cx} {cf : CF} {lv : Nat} {c c1 : Cf} {F F' H H' : Hp} {σ : Sg} {e e' : En}
theorem setc_noexc {i : Nat} {c : Cell} {e : En} : ∀ x, setc i c e ≠ .exc x := fun x h => by
  unfold setc at h
  split at h <;> cases h
theorem setAll_noexc : ∀ (is : List Nat) (ds : List D) (e : En) x, setAll is ds e ≠ .exc x
  | [], [], e, x, h => by cases h
  | [], _ :: _, e, x, h => by cases h
  | _ :: _, [], e, x, h => by cases h
  | i :: is, d :: ds, e, x, h => by
    simp only [setAll] at h
    cases hc : setc i (.sh d) e with
    | ok e' => rw [hc] at h; exact setAll_noexc is ds e' x h
    | exc y => exact setc_noexc y hc
    | stuck => rw [hc] at h; cases h
theorem setT_noexc {t : Tgt} {d : D} {e : En} : ∀ x, setT t d e ≠ .exc x := fun x h => by
  cases t with
  | v i => exact setc_noexc x h
  | tp is =>
    cases d with
    | tup ds => exact setAll_noexc is ds e x h
    | _ => cases h
theorem namesI {Q : L2.St → Hp → Prop} : ∀ {is : List Nat} {ds : List D} {vs : List V} {σ : Sg} {e e' : En}, Sim G ⟨F, σ, H, e⟩ → Reps G F ds vs → setAll is ds e = .ok e' →
    (∀ σ', Sim G ⟨F, σ', H, e'⟩ → (∀ c0, Step G c0 ⟨F, σ, H, e⟩ → Step G c0 ⟨F, σ', H, e'⟩) → σ'.length = σ.length → (∀ j, j ∉ is → σ'[j]? = σ[j]?) → Q σ' H) → gNames is vs σ H Q ∧ vs.length = is.length
  | [], [], vs, σ, e, e', S, r, h, k => by
    simp only [Reps] at r
    subst r
    cases h
    exact ⟨⟨rfl, k σ S (fun _ s => s) rfl fun _ _ => rfl⟩, rfl⟩
  | [], _ :: _, _, _, _, _, _, _, h, _ => by cases h
  | _ :: _, [], _, _, _, _, _, _, h, _ => by cases h
  | i :: is, d :: ds, vs, σ, e, e', S, r, h, k => by
    simp only [Reps] at r
    obtain ⟨v, vr, rfl, r1, r2⟩ := r
    simp only [setAll] at h
    cases hc : setc i (.sh d) e with
    | ok e1 =>
      rw [hc] at h
      have S1 : Sim G ⟨F, σ.set i (some v), H, e1⟩ := S.setc hc ⟨v, rfl, r1⟩ (fun z => by cases z)
      obtain ⟨k1, k2⟩ := namesI (Q := Q) S1 r2 h fun σ' S' st hl ho => k σ' S' (fun c0 s => st c0 (s.setc hc S.len rfl (fun z => by cases z))) (by rw [hl, List.length_set]) fun j hj => by
        simp only [List.mem_cons, not_or] at hj
        rw [ho j hj.2, List.getElem?_set_ne (Ne.symm hj.1)]
      exact ⟨⟨v, vr, rfl, k1⟩, by simp [k2]⟩
    | exc y => rw [hc] at h; cases h
    | stuck => rw [hc] at h; cases h
theorem tgI {t : Tgt} {d : D} {x : V} {Q : L2.St → Hp → Prop} (S : Sim G ⟨F, σ, H, e⟩) (r : Rep G F d x) (h : setT t d e = .ok e')
    (k : ∀ σ', Sim G ⟨F, σ', H, e'⟩ → (∀ c0, Step G c0 ⟨F, σ, H, e⟩ → Step G c0 ⟨F, σ', H, e'⟩) → σ'.length = σ.length → (∀ j, j ∉ t.slots → σ'[j]? = σ[j]?) → Q σ' H) : gTg G.K t x σ H Q := by
  cases t with
  | v i =>
    exact k _ (S.setc h ⟨x, rfl, r⟩ fun z => by cases z) (fun c0 s => s.setc h S.len rfl fun z => by cases z) (by rw [List.length_set]) fun j hj => List.getElem?_set_ne (fun z => hj (by simp [Tgt.slots, z]))
  | tp is =>
    cases d with
    | tup ds =>
      simp only [Rep] at r
      obtain ⟨a, vs, rfl, r1, r2⟩ := r
      obtain ⟨k1, k2⟩ := namesI S r2 h k
      exact ⟨a, vs, rfl, sqT_same S.sub r1, k2, k1⟩
    | _ => cases h
theorem pgs_names {X : Cx} : ∀ {is : List Nat} {es : List Expr}, (∃ xs : List (Nat × Expr), is = xs.map (·.1) ∧ es = xs.map (·.2) ∧ ∀ p ∈ xs, PG X p.2 (gName p.1) ∧ ∀ r, (assignEach (p.2 :: r) X.env).map (·.2) = assign p.2 X.env :: (assignEach r X.env).map (·.2)) → PGs X es (gNames is)
  | is, es, ⟨xs, e1, e2, h⟩ => by
    subst e1 e2
    induction xs with
    | nil => exact pgs_nil
    | cons p xs ih =>
      obtain ⟨h1, h2⟩ := h p List.mem_cons_self
      exact pgs_cons h1 (ih fun q hq => h q (List.mem_cons_of_mem _ hq)) (h2 _)
/-! ## an unowned list grows -/
theorem Step.grow {c0 : Cf} {D : Addr} {o : HO} (st : Step G c0 ⟨F, σ, H, e⟩) (h0 : c0.H D = none) : Step G c0 ⟨F, σ, upd H D o, e⟩ where
  f := st.f
  frame := fun b u hb hw => by
    have : b ≠ D := fun z => by rw [z, h0] at hb; cases hb
    show upd H D o b = some u
    rw [upd_ne this]; exact st.frame b u hb hw
  new := st.new
  dom := fun b hb => by
    show upd H D o b ≠ none
    by_cases z : b = D
    · rw [z, upd_same]; simp
    · rw [upd_ne z]; exact st.dom b hb
  w := st.w
  lk := st.lk
  io := st.io
theorem Sim.grow {D : Addr} {o : HO} (S : Sim G ⟨F, σ, H, e⟩) (hf : F D = none) (hw : ¬ Cf.W ⟨F, σ, H, e⟩ D) : Sim G ⟨F, σ, upd H D o, e⟩ where
  len := S.len
  sub := fun b u hb => by
    have hb : F b = some u := hb
    have : b ≠ D := fun z => by rw [z, hf] at hb; cases hb
    show upd H D o b = some u
    rw [upd_ne this]; exact S.sub b u hb
  cell := fun i x hx => (S.cell i x hx).stay (fun _ _ h => h) fun ho a hs => ⟨fun u hu => by
    have : a ≠ D := fun z => hw ⟨i, x, hx, ho, by rw [← z]; exact hs⟩
    show upd H D o a = some u
    rw [upd_ne this]; exact hu, fun h => h⟩
  inj := S.inj
theorem ow_step {H0 : Hp} {D : Addr} {acc : List PV.D} (st : Step G c c1) (h : VRel G H0 c (.ref D) (.ow acc)) : VRel G H0 c1 (.ref D) (.ow acc) := by
  obtain ⟨a, h1, ⟨vs, h2, h3, h4⟩, h5, h6⟩ := h
  have hn : c.H a ≠ none := by rw [h2]; simp
  refine ⟨a, h1, ⟨vs, st.frame _ _ h2 h5, ?_, h4.mono st.f⟩, fun w => (st.w a w).elim h5 hn, h6⟩
  cases q : c1.F a with
  | none => rfl
  | some o => exact ((st.new a h3 (by rw [q]; simp)).elim hn h5).elim
theorem W.wipe {vs : List Nat} {b : Addr} (h : Cf.W ⟨F, L2.wipe σ vs, H, wipeE e vs⟩ b) : Cf.W ⟨F, σ, H, e⟩ b := by
  obtain ⟨i, x, h1, h2, h3⟩ := h
  obtain ⟨k1, h1⟩ := wipeE_cell h1 (fun z => by subst z; cases h2)
  have h3 : (L2.wipe σ vs)[i]? = some (some (.ref b)) := h3
  rw [wipe_get, if_neg k1] at h3
  exact ⟨i, x, h1, h2, h3⟩
theorem ow_wipe {H0 : Hp} {vs : List Nat} {D : Addr} {acc : List PV.D} (h : VRel G H0 ⟨F, σ, H, e⟩ (.ref D) (.ow acc)) : VRel G H0 ⟨F, L2.wipe σ vs, H, wipeE e vs⟩ (.ref D) (.ow acc) := by
  obtain ⟨a, h1, h2, h5, h6⟩ := h
  exact ⟨a, h1, h2, fun w => h5 (W.wipe w), h6⟩
/-! ## comprehensions -/
def nW : XK := fun _ _ _ => False
/-- what a loop's results are to be -/
structure PLok (PL : R (List D × En) → Prop) : Prop where
  exc : ∀ x, ¬ PL (.exc x)
  stuck : ¬ PL .stuck
/-- the part of a step that keeps what is walked -/
structure StepK (G : Gb) (c d : Cf) : Prop where
  f : Same c.F d.F
  lk : ∀ (i : Nat) (ds : List D) (v : V), c.e[i]? = some (.lk ds) → c.σ[i]? = some (some v) → (d.e[i]? = some (.lk ds) ∧ d.σ[i]? = some (some v)) ∨ Rep G d.F (.lst ds) v
theorem Step.k (s : Step G c c1) : StepK G c c1 := ⟨s.f, s.lk⟩
theorem StepK.trans {a b c : Cf} (s : StepK G a b) (t : StepK G b c) : StepK G a c := ⟨s.f.trans t.f, fun i ds v h k => by
  rcases s.lk i ds v h k with ⟨q1, q2⟩ | q
  · exact t.lk i ds v q1 q2
  · exact .inr (Rep.mono t.f q)⟩
theorem StepK.heap {c0 : Cf} (s : StepK G c0 ⟨F, σ, H, e⟩) : StepK G c0 ⟨F, σ, H', e⟩ := ⟨s.f, s.lk⟩
theorem StepK.wipe {c0 : Cf} {vs : List Nat} (st : StepK G c0 ⟨F, σ, H, e⟩) (hn : ∀ i ∈ vs, ∀ ds, c0.e[i]? ≠ some (.lk ds)) : StepK G c0 ⟨F, L2.wipe σ vs, H, wipeE e vs⟩ := ⟨st.f, fun j ds u hj hu => by
  have hv : j ∉ vs := fun z => hn j z ds hj
  rcases st.lk j ds u hj hu with ⟨q1, q2⟩ | q
  · left
    exact ⟨by show (wipeE e vs)[j]? = _; rw [wipeE_get, if_neg hv]; exact q1, by show (L2.wipe σ vs)[j]? = _; rw [wipe_get, if_neg hv]; exact q2⟩
  · exact .inr q⟩
/-- the invariant: the block's slots are wiped; c0: ahead of the new list; ck: where the walk began -/
def LcW (G : Gb) (c0 ck : Cf) (σw : Sg) (vs : List Nat) (Da : Addr) (f : D → List D → En → R (List D × En)) (PL : R (List D × En) → Prop) (ds : List D) (i m : Nat) (H : Hp) : Prop :=
  m = ds.length - i ∧ i ≤ ds.length ∧ ∃ F e acc, Step G c0 ⟨F, σw, H, wipeE e vs⟩ ∧ StepK G ck ⟨F, σw, H, wipeE e vs⟩ ∧ Sim G ⟨F, σw, H, wipeE e vs⟩ ∧ VRel G c0.H ⟨F, σw, H, wipeE e vs⟩ (.ref Da) (.ow acc) ∧ PL (lcL f (ds.drop i) acc e)
theorem bnd_ex {α β : Type} {m : R (α × En)} {k : α → En → R (β × En)} {Post : R (β × En) → Prop} (he : ∀ x, ¬ Post (.exc x)) (hs : ¬ Post .stuck) (h : Post (bnd m k)) : ∃ a e, m = .ok (a, e) ∧ Post (k a e) := by
  cases m with
  | ok p => exact ⟨p.1, p.2, rfl, h⟩
  | exc x => exact (he x h).elim
  | stuck => exact (hs h).elim
/-- one turn of a comprehension: from what is yielded to the next turn -/
theorem lc_turn {c0 ck : Cf} {σw : Sg} {vs : List Nat} {t : Tgt} {mc : En → R (Bool × En)} {me : En → R (Vl × En)} {Da : Addr} {d : D} {x : V} {acc : List D} {PL : R (List D × En) → Prop} (hp : PLok PL) {k : List D → En → R (List D × En)} {Nx : Hp → Prop}
    (hvs : ∀ j ∈ t.slots, j ∈ vs) (hσ : L2.wipe σw vs = σw) (hn : ∀ i ∈ vs, ∀ ds, c0.e[i]? ≠ some (Cell.lk ds)) (hnk : ∀ i ∈ vs, ∀ ds, ck.e[i]? ≠ some (Cell.lk ds))
    (st : Step G c0 ⟨F, σw, H, wipeE e vs⟩) (sk : StepK G ck ⟨F, σw, H, wipeE e vs⟩) (S : Sim G ⟨F, σw, H, wipeE e vs⟩) (hD : VRel G c0.H ⟨F, σw, H, wipeE e vs⟩ (.ref Da) (.ow acc)) (rx : Rep G F d x)
    (h : PL (bnd (lcF vs t mc me d acc e) k))
    (hN : ∀ F' H' e' acc', Step G c0 ⟨F', σw, H', wipeE e' vs⟩ → StepK G ck ⟨F', σw, H', wipeE e' vs⟩ → Sim G ⟨F', σw, H', wipeE e' vs⟩ → VRel G c0.H ⟨F', σw, H', wipeE e' vs⟩ (.ref Da) (.ow acc') → PL (k acc' e') → Nx H') :
    gTg G.K t x σw H fun σ2 H2 => L2.wipe σ2 vs = σw ∧ tT G nW mc σ2 H2 fun b H3 =>
      if b = true then tE G nW me σ2 H3 fun y H4 => ∃ acc, H4 Da = some (.lst acc) ∧ acc.length < sizeLine ∧ Nx (upd H4 Da (.lst (acc ++ [y]))) else Nx H3 := by
  unfold lcF at h
  cases hset : setT t d (wipeE e vs) with
  | ok e1 =>
    rw [hset] at h
    refine tgI S rx hset fun σ2 S2 st2 hl2 ho2 => ⟨?_, ?_⟩
    · rw [← hσ]
      exact wipe_wipe hl2 fun j hj => ho2 j fun z => hj (hvs j z)
    have hw2 : L2.wipe σ2 vs = σw := by
      rw [← hσ]
      exact wipe_wipe hl2 fun j hj => ho2 j fun z => hj (hvs j z)
    have h : PL (bnd (bnd (mc e1) fun b σ => match b with
      | true => addL acc (bnd (me σ) fun v σ => esc v σ)
      | false => .ok (acc, σ)) k) := h
    have st2' := st2 _ st
    have sk2' := sk.trans (st2 _ Step.rfl').k
    have D2 : VRel G c0.H ⟨F, σ2, H, e1⟩ (.ref Da) (.ow acc) := ow_step (st2 _ Step.rfl') hD
    cases hmc : mc e1 with
    | exc y => rw [hmc] at h; exact (hp.exc y h).elim
    | stuck => rw [hmc] at h; exact (hp.stuck h).elim
    | ok p =>
      obtain ⟨b, e3⟩ := p
      rw [hmc] at h
      refine ⟨F, e1, S2, ?_⟩
      rw [hmc]
      intro F3 H3 st3 S3
      have st3' := st2'.trans st3
      have sk3' := sk2'.trans st3.k
      have D3 := ow_step st3 D2
      cases b with
      | false =>
        rw [if_neg Bool.false_ne_true]
        have h : PL (k acc e3) := h
        have w := st3'.wipe hn
        have wk := sk3'.wipe hnk
        rw [hw2] at w wk
        have Sw := S3.wipe (vs := vs)
        rw [hw2] at Sw
        have Dw := ow_wipe (vs := vs) D3
        rw [hw2] at Dw
        exact hN F3 H3 e3 acc w wk Sw Dw h
      | true =>
        rw [if_pos rfl]
        have h : PL (bnd (addL acc (bnd (me e3) fun v σ => esc v σ)) k) := h
        unfold addL at h
        refine ⟨F3, e3, S3, ?_⟩
        cases hme : me e3 with
        | exc y => rw [hme] at h; exact (hp.exc y h).elim
        | stuck => rw [hme] at h; exact (hp.stuck h).elim
        | ok p =>
          obtain ⟨vl, e4⟩ := p
          rw [hme] at h
          intro v F4 H4 st4 S4 r4
          obtain ⟨dy, F5, e5, st5, sm5, S5, rp, h5⟩ := esc_ok (Post := fun r => PL (bnd (bnd r fun y σ => if acc.length < 16000000 then .ok (acc ++ [y], σ) else .stuck) k)) (k := fun y σ => .ok (y, σ)) hp.stuck st4 S4 r4 (by
            cases hq : esc vl e4 with
            | ok q => rw [bnd_ok, hq] at h; exact h
            | exc y => rw [bnd_ok, hq] at h; exact (hp.exc y h).elim
            | stuck => rw [bnd_ok, hq] at h; exact (hp.stuck h).elim)
          rw [bnd_ok] at h5
          by_cases hl : acc.length < 16000000
          · rw [if_pos hl] at h5
            have h5 : PL (k (acc ++ [dy]) e5) := h5
            have D5 := ow_step st5 D3
            obtain ⟨a, ea, ⟨us, q1, q2, q3⟩, q4, q5⟩ := D5
            cases ea
            have q1 : H4 Da = some (.lst us) := q1
            have q2 : F5 Da = none := q2
            refine ⟨us, q1, by rw [q3.length]; exact Nat.lt_of_lt_of_le hl (by decide), ?_⟩
            have st6 := ((st3'.trans st5).grow (o := .lst (us ++ [v])) q5).wipe hn
            have S6 := (S5.grow (o := .lst (us ++ [v])) q2 q4).wipe (vs := vs)
            have sk6 := ((sk3'.trans st5.k).heap (H' := upd H4 Da (.lst (us ++ [v])))).wipe hnk
            rw [hw2] at st6 S6 sk6
            refine hN F5 _ e5 (acc ++ [dy]) st6 sk6 S6 ⟨Da, rfl, ⟨us ++ [v], upd_same, q2, q3.append (.cons rp .nil)⟩, fun w => ?_, q5⟩ h5
            refine q4 ?_
            rw [← hw2] at w
            exact W.wipe w
          · rw [if_neg hl] at h5; exact (hp.stuck h5).elim
  | exc y => exact (setT_noexc y hset).elim
  | stuck => rw [hset] at h; exact (hp.stuck h).elim
/-- the loop of a comprehension, from its first turn -/
theorem lc_loop {c0 ck : Cf} {σw : Sg} {vs : List Nat} {t : Tgt} {mc : En → R (Bool × En)} {me : En → R (Vl × En)} {Da : Addr} {ds : List D} {J : It} {Keep : Cf → Prop} {PL : R (List D × En) → Prop} (hp : PLok PL) (it : ItOk G J Keep ds) (hk : Keep ck)
    (hvs : ∀ j ∈ t.slots, j ∈ vs) (hσ : L2.wipe σw vs = σw) (hn : ∀ i ∈ vs, ∀ ds, c0.e[i]? ≠ some (Cell.lk ds)) (hnk : ∀ i ∈ vs, ∀ ds, ck.e[i]? ≠ some (Cell.lk ds)) {Q : Hp → Prop}
    (hQ : ∀ F e acc H, Step G c0 ⟨F, σw, H, wipeE e vs⟩ → StepK G ck ⟨F, σw, H, wipeE e vs⟩ → Sim G ⟨F, σw, H, wipeE e vs⟩ → VRel G c0.H ⟨F, σw, H, wipeE e vs⟩ (.ref Da) (.ow acc) → PL (.ok (acc, e)) → Q H) :
    ∀ i m H, LcW G c0 ck σw vs Da (lcF vs t mc me) PL ds i m H → (J.stop i H ∧ Q H) ∨ (J.go i H ∧ ∃ Nx : Hp → Prop, (∀ H', Nx H' → ∃ m', m' < m ∧ LcW G c0 ck σw vs Da (lcF vs t mc me) PL ds (i + 1) m' H') ∧ ∀ x H', J.yld i H x H' → gTg G.K t x σw H' fun σ2 H2 => L2.wipe σ2 vs = σw ∧ tT G nW mc σ2 H2 fun b H3 =>
      if b = true then tE G nW me σ2 H3 fun y H4 => ∃ acc, H4 Da = some (.lst acc) ∧ acc.length < sizeLine ∧ Nx (upd H4 Da (.lst (acc ++ [y]))) else Nx H3) := by
  rintro i m H ⟨rfl, hi, F, e, acc, st, sk, S, hD, h⟩
  by_cases hlt : i < ds.length
  · refine .inr ⟨it.go ⟨F, σw, H, wipeE e vs⟩ i S (it.mono _ _ sk.f sk.lk hk) hlt, LcW G c0 ck σw vs Da (lcF vs t mc me) PL ds (i + 1) (ds.length - (i + 1)), fun H' w => ⟨_, by omega, w⟩, fun x H' y => ?_⟩
    obtain ⟨d, F', hd, sv, rx⟩ := it.yld ⟨F, σw, H, wipeE e vs⟩ i x H' S (it.mono _ _ sk.f sk.lk hk) hlt y
    have ed : ds.drop i = d :: ds.drop (i + 1) := by
      rw [List.drop_eq_getElem_cons hlt]
      rw [List.getElem?_eq_getElem hlt] at hd
      cases hd; rfl
    rw [ed] at h
    have st' := st.trans (sv.step (σ := σw) (e := wipeE e vs))
    have sk' := sk.trans (sv.step (σ := σw) (e := wipeE e vs)).k
    exact lc_turn hp hvs hσ hn hnk st' sk' (sv.sim S) (ow_step sv.step hD) rx h fun F2 H2 e2 acc2 st2 sk2 S2 D2 h2 => ⟨rfl, by omega, F2, e2, acc2, st2, sk2, S2, D2, h2⟩
  · have e : i = ds.length := by omega
    subst e
    have h : PL (.ok (acc, e)) := by
      rw [List.drop_length] at h
      exact h
    exact .inl ⟨it.stop ⟨F, σw, H, wipeE e vs⟩ S (it.mono _ _ sk.f sk.lk hk), hQ F e acc H st sk S hD h⟩
end
end PV
set_option Elab.async false
set_option linter.all false
set_option maxRecDepth 100000
namespace PV
open PySem PySem.Spec PyProof.Rows L2
section
variable {G : Gb} {W : XK} {X : Cx} {cf : CF} {lv : Nat} {c c1 : Cf} {F F' H H' : Hp} {σ : Sg} {e e' : En}
theorem wipe_twice {vs : List Nat} : L2.wipe (L2.wipe σ vs) vs = L2.wipe σ vs := wipe_wipe (wipe_length _ _) fun j hj => by rw [wipe_get, if_neg hj]
theorem PostI.of {Post : R (Vl × En) → Prop} {m : R ((List D × List Nat) × En)} {k : List D × List Nat → En → R (Vl × En)} {R : It → Hp → Prop} (hx : ∀ x, Post (.exc x) → ∀ cls d H', (∀ b o, c.H b = some o → ¬ c.W b → H' b = some o) → XAt G x cls d H' → W cls d H') (hs : ¬ Post .stuck) (h : Post (bnd m k))
    (hk : ∀ ds ls e' J Keep F' H', Step G c ⟨F', c.σ, H', e'⟩ → Sim G ⟨F', c.σ, H', e'⟩ → (∀ i ∈ ls, ∀ ds, e'[i]? ≠ some (Cell.lk ds)) → ItOk G J Keep ds → Keep ⟨F', c.σ, H', ls.foldr PV.lock e'⟩ → Post (k (ds, ls) e') → R J H') : PostI G W c R m := by
  cases m with
  | ok p =>
    obtain ⟨⟨ds, ls⟩, e'⟩ := p
    intro J Keep F' H' st S hn it kk
    exact hk ds ls e' J Keep F' H' st S hn it kk h
  | exc x => exact hx x h
  | stuck => exact (hs h).elim
/-- the end of a comprehension: its block goes, its locks come off -/
theorem lc_end {vs ls : List Nat} {Da : Addr} {acc : List D} {Q : VK} {F1 H1 F2 H2 : Hp} {e1 e2 : En} (S1 : Sim G ⟨F1, σ, H1, e1⟩) (hn1 : ∀ i ∈ ls, ∀ ds, e1[i]? ≠ some (Cell.lk ds)) (hn : ∀ i ∈ vs, ∀ ds, (ls.foldr PV.lock e1)[i]? ≠ some (Cell.lk ds))
    (st : Step G ⟨F1, L2.wipe σ vs, H1, wipeE (ls.foldr PV.lock e1) vs⟩ ⟨F2, L2.wipe σ vs, H2, wipeE e2 vs⟩) (S : Sim G ⟨F2, L2.wipe σ vs, H2, wipeE e2 vs⟩) (hD : VRel G H1 ⟨F2, L2.wipe σ vs, H2, wipeE e2 vs⟩ (.ref Da) (.ow acc))
    (h : PostE G W ⟨F1, σ, H1, e1⟩ Q (.ok (.ow acc, ls.foldr unlock (back (ls.foldr PV.lock e1) vs e2)))) : Q (.ref Da) H2 := by
  obtain ⟨r1, r2, r3⟩ := restore S1.locks hn st S
  obtain ⟨a, ea, hL, hw, h0⟩ := hD
  cases ea
  refine h (.ref Da) F2 H2 ?_ ?_ ?_
  · have := (Step.locks (ls := ls) (c0 := ⟨F1, σ, H1, e1⟩) Step.rfl').trans r1
    exact this.unlocks hn1
  · exact r2.unlocks
  · refine ⟨Da, rfl, hL, fun w => ?_, h0⟩
    rcases r3 Da (PV.W.unlocks w) with z | z
    · exact hw z
    · exact z h0
theorem lcI {t : Tgt} {ms : En → R ((List D × List Nat) × En)} {mc : En → R (Bool × En)} {me : En → R (Vl × En)} {Q : VK} (h : tE G W (lcM ms t.slots (lcF t.slots t mc me)) σ H Q) : tLc (tI G W ms) (gTg G.K t) (tT G nW mc) (tE G nW me) t.slots σ H Q := by
  obtain ⟨F, e, S, h⟩ := h
  refine ⟨F, e, S, PostI.of (Post := PostE G W _ Q) (PostE.hx _) (fun z => z) h fun ds ls e1 J Keep F1 H1 st1 S1 hn1 it kk h1 => ?_⟩
  intro Da hDa
  have h1 := PostE.next h1 st1 rfl
  by_cases hl : noLk t.slots (ls.foldr PV.lock e1) = true
  · simp only [hl, if_true] at h1
    have hn := noLk_ne hl
    have SL : Sim G ⟨F1, σ, H1, ls.foldr PV.lock e1⟩ := S1.locks
    have kw : Keep ⟨F1, L2.wipe σ t.slots, H1, wipeE (ls.foldr PV.lock e1) t.slots⟩ := (fun s : Step G _ _ => it.mono _ _ s.f s.lk kk) (Step.wipe Step.rfl' hn)
    have Sw : Sim G ⟨F1, L2.wipe σ t.slots, H1, wipeE (ls.foldr PV.lock e1) t.slots⟩ := SL.wipe
    have fD : F1 Da = none := by
      cases q : F1 Da with
      | none => rfl
      | some o => have z : H1 Da = some o := S1.sub Da o q; rw [hDa] at z; cases z
    have wD : ¬ Cf.W ⟨F1, L2.wipe σ t.slots, H1, wipeE (ls.foldr PV.lock e1) t.slots⟩ Da := fun w => (Sw.wh w).1 hDa
    have hnw : ∀ i ∈ t.slots, ∀ ds, (wipeE (ls.foldr PV.lock e1) t.slots)[i]? ≠ some (Cell.lk ds) := fun i hi ds hx => by
      obtain ⟨z, _⟩ := wipeE_cell hx (fun z => by cases z)
      exact z hi
    refine ⟨LcW G ⟨F1, L2.wipe σ t.slots, H1, wipeE (ls.foldr PV.lock e1) t.slots⟩ ⟨F1, L2.wipe σ t.slots, H1, wipeE (ls.foldr PV.lock e1) t.slots⟩ (L2.wipe σ t.slots) t.slots Da (lcF t.slots t mc me) (fun r => PostE G W ⟨F1, σ, H1, e1⟩ Q (bnd (unexc r) fun acc σ2 => .ok (.ow acc, ls.foldr unlock (back (ls.foldr PV.lock e1) t.slots σ2)))) ds,
      ⟨ds.length, by simp, Nat.zero_le _, F1, ls.foldr PV.lock e1, [], Step.grow Step.rfl' hDa, (Step.k Step.rfl').heap, Sw.grow fD wD, ⟨Da, rfl, ⟨[], upd_same, fD, .nil⟩, wD, hDa⟩, h1⟩, ?_⟩
    exact lc_loop ⟨fun x z => z, fun z => z⟩ it kw (fun j hj => hj) wipe_twice hnw hnw fun F2 e2 acc H2 st _ S hD h2 => lc_end S1 hn1 hn st S hD h2
  · simp only [hl] at h1
    exact h1.elim
theorem gE_lcG {elt tg iter : Expr} {ifs : List Expr} {scope : Scope} {own : List (Str × Nat)} {pos : Pos} {t : Tgt} {ms : En → R ((List D × List Nat) × En)} {mc : En → R (Bool × En)} {me : En → R (Vl × En)} (hc : X.calm = true) (hN : X.N.Nodup) (hi : PI X tg iter (tI G W ms)) (ok : BlkOk X.N X.env.scope scope own) (ho : own.map (·.2) = t.slots)
    (hg : ∀ (s : Shared) (H : Hp) (C : Addr) (cl : List (Str × Addr)) (fp : List Addr), PG (X.blk s H scope (compEnvC scope cl C X.env) fp) tg (gTg G.K t)) (ht : ∀ (s : Shared) (H : Hp) (C : Addr) (cl : List (Str × Addr)) (fp : List Addr), PTs (X.blk s H scope (compEnvC scope cl C X.env) fp) ifs (tT G nW mc))
    (he : ∀ (s : Shared) (H : Hp) (C : Addr) (cl : List (Str × Addr)) (fp : List Addr), PE (X.blk s H scope (compEnvC scope cl C X.env) fp) elt (tE G nW me)) (hs : ∀ x, foldedSetIterable iter X.env x = pure x) :
    PE X (.ListComp elt [⟨tg, iter, ifs, 0⟩] scope pos) (tE G W (lcM ms t.slots (lcF t.slots t mc me))) := by
  have p := pe_lc hc hN hi ok hg ht he hs (pos := pos)
  rw [ho] at p
  exact PE.imp p fun σ H Q h => lcI h
/-- name = [..] -/
theorem gS_setLc {i : Nat} {y : Str} {py : Pos} {elt tg iter : Expr} {ifs : List Expr} {scope : Scope} {own : List (Str × Nat)} {pos spos : Pos} {t : Tgt} {ms : En → R ((List D × List Nat) × En)} {mc : En → R (Bool × En)} {me : En → R (Vl × En)} (hc : X.calm = true) (hN : X.N.Nodup) (hy : X.N[i]? = some y) (hyl : X.env.scope.names.lookup y = some .local)
    (hsw : swapsWith (.ListComp elt [⟨tg, iter, ifs, 0⟩] scope pos) (some (.Name y py)) spos.line X.env = pure true) (hi : PI X tg iter (tI G W ms)) (ok : BlkOk X.N X.env.scope scope own) (ho : own.map (·.2) = t.slots)
    (hg : ∀ (s : Shared) (H : Hp) (C : Addr) (cl : List (Str × Addr)) (fp : List Addr), PG (X.blk s H scope (compEnvC scope cl C X.env) fp) tg (gTg G.K t)) (ht : ∀ (s : Shared) (H : Hp) (C : Addr) (cl : List (Str × Addr)) (fp : List Addr), PTs (X.blk s H scope (compEnvC scope cl C X.env) fp) ifs (tT G nW mc))
    (he : ∀ (s : Shared) (H : Hp) (C : Addr) (cl : List (Str × Addr)) (fp : List Addr), PE (X.blk s H scope (compEnvC scope cl C X.env) fp) elt (tE G nW me)) (hs : ∀ x, foldedSetIterable iter X.env x = pure x) :
    PS X (.Assign [.Name y py] (.ListComp elt [⟨tg, iter, ifs, 0⟩] scope pos) spos) (tAsg (tE G W (lcM ms t.slots (lcF t.slots t mc me))) (gName i)) := by
  have p := ps_setLc hc hN hy hyl hsw hi ok hg ht he hs
  rw [ho] at p
  exact ⟨fun pins s σ H D I h => p.run pins s σ H D I (lcI h)⟩
/-- no test -/
theorem gTs_nil : PTs X [] (tT G W fun σ => .ok (true, σ)) := ⟨fun pins s σ H Q I h => pts_nil.run pins s σ H Q I (by
  obtain ⟨F, e, S, h⟩ := h
  exact h F H Step.rfl' S)⟩
end
end PV
set_option Elab.async false
set_option linter.all false
set_option maxRecDepth 100000
namespace PV
open PySem PySem.Spec PyProof.Rows L2
section
variable {G : Gb} {W : XK} {X : Cx} {cf : CF} {lv : Nat} {c c1 : Cf} {F F' H H' : Hp} {σ : Sg} {e e' : En}
/-! ## locks that come off inside a block -/
theorem unlocks_get {ls : List Nat} {j : Nat} : (ls.foldr PV.unlock e)[j]? = match e[j]? with
    | some (.lk ds) => if j ∈ ls then some (.ow ds) else some (.lk ds)
    | x => x := by
  induction ls with
  | nil =>
    show e[j]? = _
    cases hx : e[j]? with
    | none => rfl
    | some x => cases x <;> simp
  | cons i r ih =>
    rw [List.foldr_cons, unlock_get, ih]
    cases e[j]? with
    | none => rfl
    | some x =>
      cases x <;> simp only []
      by_cases z : j ∈ r
      · simp [z]
      · by_cases z' : j = i
        · subst z'; simp [z]
        · simp [z, z']
theorem wipeE_unlocks {vs ls : List Nat} : wipeE (ls.foldr PV.unlock e) vs = ls.foldr PV.unlock (wipeE e vs) := by
  apply List.ext_getElem?
  intro j
  rw [wipeE_get, unlocks_get, unlocks_get, wipeE_get]
  by_cases hj : j ∈ vs
  · simp only [hj, if_true]
    cases e[j]? with
    | none => rfl
    | some x => cases x <;> simp only [Option.map_some] <;> split <;> rfl
  · simp only [hj, if_false]
theorem wipe_sub {us vs : List Nat} (h : ∀ j ∈ us, j ∈ vs) : L2.wipe (L2.wipe σ us) vs = L2.wipe σ vs := by
  apply List.ext_getElem?
  intro j
  rw [wipe_get, wipe_get, wipe_get]
  by_cases hj : j ∈ us
  · simp only [hj, h j hj, if_true]
    cases σ[j]? <;> rfl
  · simp only [hj, if_false]
theorem wipeE_sub {us vs : List Nat} (h : ∀ j ∈ us, j ∈ vs) : wipeE (wipeE e us) vs = wipeE e vs := by
  apply List.ext_getElem?
  intro j
  rw [wipeE_get, wipeE_get, wipeE_get]
  by_cases hj : j ∈ us
  · simp only [hj, h j hj, if_true]
    cases e[j]? <;> rfl
  · simp only [hj, if_false]
theorem unlocks_lk {c0 cm : Cf} {ls : List Nat} (s0 : StepK G c0 cm) (hn : ∀ i ∈ ls, ∀ ds, cm.e[i]? ≠ some (Cell.lk ds)) (sm : Same cm.F F) (st : StepK G c0 ⟨F, σ, H, e⟩) : StepK G c0 ⟨F, σ, H, ls.foldr PV.unlock e⟩ := ⟨st.f, fun j ds u hj hu => by
  rcases st.lk j ds u hj hu with ⟨q1, q2⟩ | q
  · by_cases z : j ∈ ls
    · rcases s0.lk j ds u hj hu with ⟨k1, k2⟩ | k
      · exact (hn j z ds k1).elim
      · exact .inr (Rep.mono sm k)
    · left
      have q1 : e[j]? = some (.lk ds) := q1
      exact ⟨by show (ls.foldr PV.unlock e)[j]? = _; rw [unlocks_get, q1]; simp [z], q2⟩
  · exact .inr q⟩
theorem Step.unlocks2 {c0 cm : Cf} {ls : List Nat} (s0 : Step G c0 cm) (hn : ∀ i ∈ ls, ∀ ds, cm.e[i]? ≠ some (Cell.lk ds)) (sm : Same cm.F F) (st : Step G c0 ⟨F, σ, H, e⟩) : Step G c0 ⟨F, σ, H, ls.foldr PV.unlock e⟩ := by
  refine ⟨st.f, st.frame, st.new, st.dom, fun b hb => st.w b (PV.W.unlocks hb), (unlocks_lk s0.k hn sm st.k).lk, fun j y tg hj hy => ?_⟩
  have hj : (ls.foldr PV.unlock e)[j]? = some y := hj
  rw [unlocks_get] at hj
  split at hj
  · split at hj
    · cases hj; cases hy
    · cases hj; cases hy
  · exact st.io j y tg hj hy
theorem ow_unlocks {H0 : Hp} {ls : List Nat} {D : Addr} {acc : List PV.D} (h : VRel G H0 ⟨F, σ, H, e⟩ (.ref D) (.ow acc)) : VRel G H0 ⟨F, σ, H, ls.foldr PV.unlock e⟩ (.ref D) (.ow acc) := by
  obtain ⟨a, h1, h2, h5, h6⟩ := h
  exact ⟨a, h1, h2, fun w => h5 (PV.W.unlocks w), h6⟩
theorem tgV {i : Nat} {d : D} {x : V} {Q : L2.St → Hp → Prop} (S : Sim G ⟨F, σ, H, e⟩) (r : Rep G F d x) (h : setT (.v i) d e = .ok e')
    (k : ∀ σ', Sim G ⟨F, σ', H, e'⟩ → (∀ c0, Step G c0 ⟨F, σ, H, e⟩ → Step G c0 ⟨F, σ', H, e'⟩) → σ'.length = σ.length → (∀ j, j ∉ (Tgt.v i).slots → σ'[j]? = σ[j]?) → Q σ' H) : gName i x σ H Q := tgI (t := .v i) S r h k
theorem yesI {A B : Hp → Prop} (h : A H) : tYes σ H fun b H3 => if b = true then A H3 else B H3 := by
  show (if true = true then A H else B H)
  rw [if_pos rfl]
  exact h
/-- the outer clause's turn -/
theorem lc2_turn {c0 ck : Cf} {σw : Sg} {vs : List Nat} {t t' : Nat} {ms : En → R ((List D × List Nat) × En)} {me : En → R (Vl × En)} {Da : Addr} {d : D} {x : V} {acc : List D} {PL : R (List D × En) → Prop} (hp : PLok PL) {k : List D → En → R (List D × En)} {Nx : Hp → Prop}
    (ht : t ∈ vs) (ht' : t' ∈ vs) (hσ : L2.wipe σw vs = σw) (hn : ∀ i ∈ vs, ∀ ds, c0.e[i]? ≠ some (Cell.lk ds)) (hnk : ∀ i ∈ vs, ∀ ds, ck.e[i]? ≠ some (Cell.lk ds))
    (st : Step G c0 ⟨F, σw, H, wipeE e vs⟩) (sk : StepK G ck ⟨F, σw, H, wipeE e vs⟩) (S : Sim G ⟨F, σw, H, wipeE e vs⟩) (hD : VRel G c0.H ⟨F, σw, H, wipeE e vs⟩ (.ref Da) (.ow acc)) (rx : Rep G F d x)
    (h : PL (bnd (lc2F vs t t' ms me d acc e) k))
    (hN : ∀ F' H' e' acc', Step G c0 ⟨F', σw, H', wipeE e' vs⟩ → StepK G ck ⟨F', σw, H', wipeE e' vs⟩ → Sim G ⟨F', σw, H', wipeE e' vs⟩ → VRel G c0.H ⟨F', σw, H', wipeE e' vs⟩ (.ref Da) (.ow acc') → PL (k acc' e') → Nx H') :
    gName t x σw H fun σ2 H2 => L2.wipe σ2 vs = σw ∧ tYes σ2 H2 fun b H3 =>
      if b = true then tI G nW ms σ2 H3 fun J1 H4 => ∃ W1 : Nat → Nat → Hp → Prop, (∃ m, W1 0 m H4) ∧ ∀ j k H, W1 j k H →
        (J1.stop j H ∧ Nx H) ∨ (J1.go j H ∧ ∃ Nx1 : Hp → Prop, (∀ H', Nx1 H' → ∃ k', k' < k ∧ W1 (j + 1) k' H') ∧ ∀ x H', J1.yld j H x H' → gName t' x (L2.wipe σ2 [t']) H' fun σ3 H5 => L2.wipe σ3 [t'] = L2.wipe σ2 [t'] ∧ tYes σ3 H5 fun b H6 =>
          if b = true then tE G nW me σ3 H6 fun y H7 => ∃ acc, H7 Da = some (.lst acc) ∧ acc.length < sizeLine ∧ Nx1 (upd H7 Da (.lst (acc ++ [y]))) else Nx1 H6)
      else Nx H3 := by
  unfold lc2F at h
  cases hset : setT (.v t) d (wipeE e vs) with
  | exc y => exact (setT_noexc y hset).elim
  | stuck => rw [hset] at h; exact (hp.stuck h).elim
  | ok e1 =>
    rw [hset] at h
    refine tgV S rx hset fun σ2 S2 st2 hl2 ho2 => ?_
    have hw2 : L2.wipe σ2 vs = σw := by
      rw [← hσ]
      exact wipe_wipe hl2 fun j hj => ho2 j fun z => hj (by simp only [Tgt.slots, List.mem_singleton] at z; rw [z]; exact ht)
    refine ⟨hw2, yesI ?_⟩
    have st2' := st2 _ st
    have sk2' := sk.trans (st2 _ Step.rfl').k
    have D2 : VRel G c0.H ⟨F, σ2, H, e1⟩ (.ref Da) (.ow acc) := ow_step (st2 _ Step.rfl') hD
    refine ⟨F, e1, S2, ?_⟩
    cases hms : ms e1 with
    | exc y =>
      have h : PL (bnd (bnd (ms e1) _) k) := h
      rw [hms] at h; exact (hp.exc y h).elim
    | stuck =>
      have h : PL (bnd (bnd (ms e1) _) k) := h
      rw [hms] at h; exact (hp.stuck h).elim
    | ok p =>
      obtain ⟨⟨ds, ls⟩, e3⟩ := p
      have h : PL (bnd (bnd (ms e1) fun q σ1 => if noLk [t'] (q.2.foldr lock σ1) = true then
        bnd (lcL (lcF [t'] (.v t') (fun σ => .ok (true, σ)) me) q.1 acc (q.2.foldr lock σ1)) fun ys σ2 => .ok (ys, q.2.foldr unlock σ2) else .stuck) k) := h
      rw [hms] at h
      rw [bnd_ok] at h
      intro J Keep F3 H3 st3 S3 hn3 it kk
      by_cases hl : noLk [t'] (ls.foldr PV.lock e3) = true
      · simp only [hl, if_true] at h
        have hnl := noLk_ne hl
        have sub : ∀ j ∈ [t'], j ∈ vs := fun j hj => by simp only [List.mem_singleton] at hj; rw [hj]; exact ht'
        have stL : Step G ⟨F, σ2, H, e1⟩ ⟨F3, σ2, H3, ls.foldr PV.lock e3⟩ := Step.locks st3
        have st4 : Step G c0 ⟨F3, L2.wipe σ2 [t'], H3, wipeE (ls.foldr PV.lock e3) [t']⟩ := (st2'.trans stL).wipe fun i hi => hn i (sub i hi)
        have S4 : Sim G ⟨F3, L2.wipe σ2 [t'], H3, wipeE (ls.foldr PV.lock e3) [t']⟩ := S3.locks.wipe
        have D4 : VRel G c0.H ⟨F3, L2.wipe σ2 [t'], H3, wipeE (ls.foldr PV.lock e3) [t']⟩ (.ref Da) (.ow acc) := ow_wipe (ow_step stL D2)
        have kw : Keep ⟨F3, L2.wipe σ2 [t'], H3, wipeE (ls.foldr PV.lock e3) [t']⟩ := (fun s : Step G _ _ => it.mono _ _ s.f s.lk kk) (Step.wipe Step.rfl' hnl)
        have hnw : ∀ i ∈ [t'], ∀ ds, (wipeE (ls.foldr PV.lock e3) [t'])[i]? ≠ some (Cell.lk ds) := fun i hi ds hx => by
          obtain ⟨z, _⟩ := wipeE_cell hx (fun z => by cases z)
          exact z hi
        refine ⟨LcW G c0 ⟨F3, L2.wipe σ2 [t'], H3, wipeE (ls.foldr PV.lock e3) [t']⟩ (L2.wipe σ2 [t']) [t'] Da (lcF [t'] (.v t') (fun σ => .ok (true, σ)) me) (fun r => PL (bnd (bnd r fun ys σ2 => .ok (ys, ls.foldr unlock σ2)) k)) ds,
          ⟨ds.length, by simp, Nat.zero_le _, F3, ls.foldr PV.lock e3, acc, st4, Step.rfl'.k, S4, D4, h⟩, ?_⟩
        have loop := lc_loop (G := G) (c0 := c0) (ck := ⟨F3, L2.wipe σ2 [t'], H3, wipeE (ls.foldr PV.lock e3) [t']⟩) (σw := L2.wipe σ2 [t']) (vs := [t']) (t := .v t') (mc := fun σ => .ok (true, σ)) (me := me) (Da := Da) (PL := fun r => PL (bnd (bnd r fun ys σ2 => .ok (ys, ls.foldr unlock σ2)) k)) (Q := Nx)
          ⟨hp.exc, hp.stuck⟩ it kw (fun j hj => hj) wipe_twice (fun i hi => hn i (sub i hi)) hnw fun F5 e5 acc5 H5 st5 sk5 S5 D5 h5 => by
            have h5 : PL (k acc5 (ls.foldr unlock e5)) := h5
            have st6 := st5.wipe hn
            have S6 := S5.wipe (vs := vs)
            have D6 := ow_wipe (vs := vs) D5
            have sm3 : Same F3 F5 := sk5.f
            have sk6 : StepK G ck ⟨F5, L2.wipe (L2.wipe σ2 [t']) vs, H5, wipeE (wipeE e5 [t']) vs⟩ := (((sk2'.trans stL.k).wipe fun i hi => hnk i (sub i hi)).trans sk5).wipe hnk
            rw [wipe_sub sub, hw2, wipeE_sub sub] at st6 S6 D6 sk6
            refine hN F5 H5 (ls.foldr unlock e5) acc5 ?_ ?_ ?_ ?_ h5
            · rw [wipeE_unlocks]
              exact Step.unlocks2 (cm := ⟨F3, σ2, H3, e3⟩) (st2'.trans st3) hn3 sm3 st6
            · rw [wipeE_unlocks]
              exact unlocks_lk (cm := ⟨F3, σ2, H3, e3⟩) (sk2'.trans st3.k) hn3 sm3 sk6
            · rw [wipeE_unlocks]
              exact S6.unlocks
            · rw [wipeE_unlocks]
              exact ow_unlocks D6
        rintro j m H6 w6
        rcases loop j m H6 w6 with z | ⟨z1, Nx1, z2, z3⟩
        · exact .inl z
        · refine .inr ⟨z1, Nx1, z2, fun x H' y => ?_⟩
          have q := z3 x H' y
          refine ⟨q.1, yesI ?_⟩
          obtain ⟨F7, e7, S7, q7⟩ := q.2
          have q8 := q7 F7 _ Step.rfl' S7
          simp only [if_true] at q8
          exact q8
      · simp only [hl] at h
        exact (hp.stuck h).elim
theorem lc2_loop {cw : Cf} {vs : List Nat} {t t' : Nat} {ms : En → R ((List D × List Nat) × En)} {me : En → R (Vl × En)} {Da : Addr} {ds : List D} {J : It} {Keep : Cf → Prop} {PL : R (List D × En) → Prop} (hp : PLok PL) (it : ItOk G J Keep ds) (hk : Keep cw)
    (ht : t ∈ vs) (ht' : t' ∈ vs) (hσ : L2.wipe cw.σ vs = cw.σ) (hn : ∀ i ∈ vs, ∀ ds, cw.e[i]? ≠ some (Cell.lk ds)) {Q : Hp → Prop}
    (hQ : ∀ F e acc H, Step G cw ⟨F, cw.σ, H, wipeE e vs⟩ → Sim G ⟨F, cw.σ, H, wipeE e vs⟩ → VRel G cw.H ⟨F, cw.σ, H, wipeE e vs⟩ (.ref Da) (.ow acc) → PL (.ok (acc, e)) → Q H) :
    ∀ i m H, LcW G cw cw cw.σ vs Da (lc2F vs t t' ms me) PL ds i m H → (J.stop i H ∧ Q H) ∨ (J.go i H ∧ ∃ Nx : Hp → Prop, (∀ H', Nx H' → ∃ m', m' < m ∧ LcW G cw cw cw.σ vs Da (lc2F vs t t' ms me) PL ds (i + 1) m' H') ∧ ∀ x H', J.yld i H x H' → gName t x cw.σ H' fun σ2 H2 => L2.wipe σ2 vs = cw.σ ∧ tYes σ2 H2 fun b H3 =>
      if b = true then tI G nW ms σ2 H3 fun J1 H4 => ∃ W1 : Nat → Nat → Hp → Prop, (∃ m, W1 0 m H4) ∧ ∀ j k H, W1 j k H →
        (J1.stop j H ∧ Nx H) ∨ (J1.go j H ∧ ∃ Nx1 : Hp → Prop, (∀ H', Nx1 H' → ∃ k', k' < k ∧ W1 (j + 1) k' H') ∧ ∀ x H', J1.yld j H x H' → gName t' x (L2.wipe σ2 [t']) H' fun σ3 H5 => L2.wipe σ3 [t'] = L2.wipe σ2 [t'] ∧ tYes σ3 H5 fun b H6 =>
          if b = true then tE G nW me σ3 H6 fun y H7 => ∃ acc, H7 Da = some (.lst acc) ∧ acc.length < sizeLine ∧ Nx1 (upd H7 Da (.lst (acc ++ [y]))) else Nx1 H6)
      else Nx H3) := by
  rintro i m H ⟨rfl, hi, F, e, acc, st, sk, S, hD, h⟩
  by_cases hlt : i < ds.length
  · refine .inr ⟨it.go ⟨F, cw.σ, H, wipeE e vs⟩ i S (it.mono _ _ sk.f sk.lk hk) hlt, LcW G cw cw cw.σ vs Da (lc2F vs t t' ms me) PL ds (i + 1) (ds.length - (i + 1)), fun H' w => ⟨_, by omega, w⟩, fun x H' y => ?_⟩
    obtain ⟨d, F', hd, sv, rx⟩ := it.yld ⟨F, cw.σ, H, wipeE e vs⟩ i x H' S (it.mono _ _ sk.f sk.lk hk) hlt y
    have ed : ds.drop i = d :: ds.drop (i + 1) := by
      rw [List.drop_eq_getElem_cons hlt]
      rw [List.getElem?_eq_getElem hlt] at hd
      cases hd; rfl
    rw [ed] at h
    have st' := st.trans (sv.step (σ := cw.σ) (e := wipeE e vs))
    have sk' := sk.trans (sv.step (σ := cw.σ) (e := wipeE e vs)).k
    exact lc2_turn hp ht ht' hσ hn hn st' sk' (sv.sim S) (ow_step sv.step hD) rx h fun F2 H2 e2 acc2 st2 sk2 S2 D2 h2 => ⟨rfl, by omega, F2, e2, acc2, st2, sk2, S2, D2, h2⟩
  · have e : i = ds.length := by omega
    subst e
    have h : PL (.ok (acc, e)) := by
      rw [List.drop_length] at h
      exact h
    exact .inl ⟨it.stop ⟨F, cw.σ, H, wipeE e vs⟩ S (it.mono _ _ sk.f sk.lk hk), hQ F e acc H st S hD h⟩
theorem lc2I {t t' : Nat} {ms ms' : En → R ((List D × List Nat) × En)} {me : En → R (Vl × En)} {Q : VK} (h : tE G W (lcM ms [t, t'] (lc2F [t, t'] t t' ms' me)) σ H Q) : tLc2 (tI G W ms) (gName t) tYes (tI G nW ms') (gName t') tYes (tE G nW me) [t, t'] [t'] σ H Q := by
  obtain ⟨F, e, S, h⟩ := h
  refine ⟨F, e, S, PostI.of (Post := PostE G W _ Q) (PostE.hx _) (fun z => z) h fun ds ls e1 J Keep F1 H1 st1 S1 hn1 it kk h1 => ?_⟩
  intro Da hDa
  have h1 := PostE.next h1 st1 rfl
  by_cases hl : noLk [t, t'] (ls.foldr PV.lock e1) = true
  · simp only [hl, if_true] at h1
    have hn := noLk_ne hl
    have SL : Sim G ⟨F1, σ, H1, ls.foldr PV.lock e1⟩ := S1.locks
    have kw : Keep ⟨F1, L2.wipe σ [t, t'], H1, wipeE (ls.foldr PV.lock e1) [t, t']⟩ := (fun s : Step G _ _ => it.mono _ _ s.f s.lk kk) (Step.wipe Step.rfl' hn)
    have Sw : Sim G ⟨F1, L2.wipe σ [t, t'], H1, wipeE (ls.foldr PV.lock e1) [t, t']⟩ := SL.wipe
    have fD : F1 Da = none := by
      cases q : F1 Da with
      | none => rfl
      | some o => have z : H1 Da = some o := S1.sub Da o q; rw [hDa] at z; cases z
    have wD : ¬ Cf.W ⟨F1, L2.wipe σ [t, t'], H1, wipeE (ls.foldr PV.lock e1) [t, t']⟩ Da := fun w => (Sw.wh w).1 hDa
    have hnw : ∀ i ∈ [t, t'], ∀ ds, (wipeE (ls.foldr PV.lock e1) [t, t'])[i]? ≠ some (Cell.lk ds) := fun i hi ds hx => by
      obtain ⟨z, _⟩ := wipeE_cell hx (fun z => by cases z)
      exact z hi
    refine ⟨LcW G ⟨F1, L2.wipe σ [t, t'], H1, wipeE (ls.foldr PV.lock e1) [t, t']⟩ ⟨F1, L2.wipe σ [t, t'], H1, wipeE (ls.foldr PV.lock e1) [t, t']⟩ (L2.wipe σ [t, t']) [t, t'] Da (lc2F [t, t'] t t' ms' me) (fun r => PostE G W ⟨F1, σ, H1, e1⟩ Q (bnd (unexc r) fun acc σ2 => .ok (.ow acc, ls.foldr unlock (back (ls.foldr PV.lock e1) [t, t'] σ2)))) ds,
      ⟨ds.length, by simp, Nat.zero_le _, F1, ls.foldr PV.lock e1, [], Step.grow Step.rfl' hDa, (Step.k Step.rfl').heap, Sw.grow fD wD, ⟨Da, rfl, ⟨[], upd_same, fD, .nil⟩, wD, hDa⟩, h1⟩, ?_⟩
    exact lc2_loop (cw := ⟨F1, L2.wipe σ [t, t'], H1, wipeE (ls.foldr PV.lock e1) [t, t']⟩) ⟨fun x z => z, fun z => z⟩ it kw (by simp) (by simp) wipe_twice hnw fun F2 e2 acc H2 st S hD h2 => lc_end S1 hn1 hn st S hD h2
  · simp only [hl] at h1
    exact h1.elim
theorem gE_lc2 {elt tg iter tg1 iter1 : Expr} {scope : Scope} {own : List (Str × Nat)} {pos : Pos} {t t' : Nat} {ms ms' : En → R ((List D × List Nat) × En)} {me : En → R (Vl × En)} (hc : X.calm = true) (hN : X.N.Nodup) (hi : PI X tg iter (tI G W ms)) (ok : BlkOk X.N X.env.scope scope own) (ho : own.map (·.2) = [t, t'])
    (hg : ∀ (s : Shared) (H : Hp) (C : Addr) (cl : List (Str × Addr)) (fp : List Addr), PG (X.blk s H scope (compEnvC scope cl C X.env) fp) tg (gName t))
    (hi1 : ∀ (s : Shared) (H : Hp) (C : Addr) (cl : List (Str × Addr)) (fp : List Addr), PI (X.blk s H scope (compEnvC scope cl C X.env) fp) tg1 iter1 (tI G nW ms'))
    (hg1 : ∀ (s : Shared) (H : Hp) (C : Addr) (cl : List (Str × Addr)) (fp : List Addr), PG (X.blk s H scope (compEnvC scope cl C X.env) fp) tg1 (gName t'))
    (he : ∀ (s : Shared) (H : Hp) (C : Addr) (cl : List (Str × Addr)) (fp : List Addr), PE (X.blk s H scope (compEnvC scope cl C X.env) fp) elt (tE G nW me)) (hs : ∀ x, foldedSetIterable iter X.env x = pure x) (hs1 : ∀ env x, foldedSetIterable iter1 env x = pure x) :
    PE X (.ListComp elt [⟨tg, iter, [], 0⟩, ⟨tg1, iter1, [], 0⟩] scope pos) (tE G W (lcM ms [t, t'] (lc2F [t, t'] t t' ms' me))) := by
  have p := pe_lc2 (vs1 := [t']) hc hN hi ok (by rw [ho]; simp) hg (fun _ _ _ _ _ => pts_nil) hi1 hg1 (fun _ _ _ _ _ => pts_nil) he hs hs1 (pos := pos)
  rw [ho] at p
  exact PE.imp p fun σ H Q h => lc2I h
end
end PV
set_option Elab.async false
set_option linter.all false
set_option maxRecDepth 100000
namespace PV
open PySem PySem.Spec PyProof.Rows L2
/-! ## statements -/
def VrS (G : Gb) (c : Cf) (F' H' : Hp) (e' : En) (v : V) : Vr → Prop
  | .sh d => Rep G F' d v
  | .ow ds => ∃ a, v = .ref a ∧ LstAt G F' H' ds a ∧ (c.H a = none ∨ c.W a) ∧ ∀ (i : Nat) (x : Cell), e'[i]? = some x → x.tag ≠ none → c.σ[i]? ≠ some (some (.ref a))
def TagOk (G : Gb) (c : Cf) (F' H' : Hp) (e' : En) : Prop := ∀ (i : Nat) (x : Cell) (t : Option Nat), e'[i]? = some x → x.tag = some t → (∃ y : Cell, c.e[i]? = some y ∧ y.tag = some t) ∧ CellOk G F' H' c.σ[i]? x
def PostS (G : Gb) (W : XK) (c : Cf) (D : Ends) : R (Fl × En) → Prop
  | .ok (.nx, e') => ∀ σ' F' H', Step G c ⟨F', σ', H', e'⟩ → Sim G ⟨F', σ', H', e'⟩ → D.nx σ' H'
  | .ok (.rt r, e') => ∀ v F' H', Same c.F F' → Same F' H' → (∀ b o, c.H b = some o → ¬ c.W b → H' b = some o) → (∀ b, c.F b = none → F' b ≠ none → c.H b = none ∨ c.W b) → TagOk G c F' H' e' → VrS G c F' H' e' v r → D.rt v H'
  | .exc x => ∀ cls d H', (∀ b o, c.H b = some o → ¬ c.W b → H' b = some o) → XAt G x cls d H' → W cls d H'
  | .stuck => False
def tS (G : Gb) (W : XK) (m : En → R (Fl × En)) : TS := fun D σ H => ∃ F e, Sim G ⟨F, σ, H, e⟩ ∧ PostS G W ⟨F, σ, H, e⟩ D (m e)
theorem PS.imp {X : Cx} {st : Stmt} {t t' : TS} (h : PS X st t) (k : ∀ D σ H, t' D σ H → t D σ H) : PS X st t' := ⟨fun pins s σ H D I q => h.run pins s σ H D I (k D σ H q)⟩
theorem PSs.imp {X : Cx} {st : List Stmt} {t t' : TS} (h : PSs X st t) (k : ∀ D σ H, t' D σ H → t D σ H) : PSs X st t' := ⟨fun pins s σ H D I q => h.run pins s σ H D I (k D σ H q)⟩
theorem bnd_assoc {α β γ : Type} {m : R (α × En)} {f : α → En → R (β × En)} {g : β → En → R (γ × En)} : bnd (bnd m f) g = bnd m fun a σ => bnd (f a σ) g := by
  cases m <;> rfl
section
variable {G : Gb} {W : XK} {X : Cx} {cf : CF} {lv : Nat} {c c1 : Cf} {F F' H H' : Hp} {σ : Sg} {e e' : En} {D : Ends}
theorem PostS.hx : ∀ (c : Cf) x, PostS G W c D (.exc x) → ∀ cls d H', (∀ b o, c.H b = some o → ¬ c.W b → H' b = some o) → XAt G x cls d H' → W cls d H' := fun _ _ h => h
theorem PostS.next {r : R (Fl × En)} (h : PostS G W c D r) (s : Step G c c1) : PostS G W c1 D r := by
  cases r with
  | ok p =>
    obtain ⟨f, e'⟩ := p
    cases f with
    | nx => exact fun σ' F' H' st S => h σ' F' H' (s.trans st) S
    | rt r =>
      intro v F' H' f1 f2 fr nw tg vr
      have wb : ∀ a, c1.W a → c.H a = none ∨ c.W a := fun a w => (s.w a w).symm
      refine h v F' H' (s.f.trans f1) f2 (fun b o hb hw => fr b o (s.frame b o hb hw) fun w => (s.w b w).elim hw fun z => by rw [hb] at z; cases z) (fun b hb hb' => ?_) (fun i x t hx ht => ?_) ?_
      · by_cases q : c1.F b = none
        · rcases nw b q hb' with z | z
          · exact .inl (s.back b z)
          · exact wb b z
        · exact s.new b hb q
      · obtain ⟨⟨y, h1, h2⟩, h3⟩ := tg i x t hx ht
        obtain ⟨z, k1, k2, k3⟩ := s.io i y t h1 h2
        exact ⟨⟨z, k1, k2⟩, by rw [← k3]; exact h3⟩
      · cases r with
        | sh d => exact vr
        | ow ds =>
          obtain ⟨a, h1, h2, h3, h4⟩ := vr
          refine ⟨a, h1, h2, ?_, fun i x hx ht => ?_⟩
          · rcases h3 with z | z
            · exact .inl (s.back a z)
            · exact wb a z
          · have k := h4 i x hx ht
            cases hq : x.tag with
            | none => exact (ht hq).elim
            | some t =>
              obtain ⟨⟨y, q1, q2⟩, _⟩ := tg i x t hx hq
              obtain ⟨z, k1, k2, k3⟩ := s.io i y t q1 q2
              rw [← k3]; exact k
  | exc x =>
    intro cls d H' fr xa
    exact h cls d H' (fun b o hb hw => fr b o (s.frame b o hb hw) fun w => (s.w b w).elim hw fun z => by rw [hb] at z; cases z) xa
  | stuck => exact h
/-- the end of a path -/
theorem PostS.now {σ' : Sg} (h : PostS G W c D (.ok (.nx, e))) (st : Step G c ⟨F', σ', H', e⟩) (S : Sim G ⟨F', σ', H', e⟩) : D.nx σ' H' := h σ' F' H' st S
theorem nxR_ok {r : R En} (h : PostS G W c D (nxR r)) : ∃ e', r = .ok e' ∧ PostS G W c D (.ok (.nx, e')) ∨ ∃ x, r = .exc x := by
  cases r with
  | ok e' => exact ⟨e', .inl ⟨rfl, h⟩⟩
  | exc x => exact ⟨[], .inr ⟨x, rfl⟩⟩
  | stuck => exact h.elim
/-! ### one after another -/
theorem gSs_nil : PSs X [] (tS G W fun σ => .ok (.nx, σ)) := PSs.imp pss_nil fun D σ H ⟨F, e, S, h⟩ => h σ F H Step.rfl' S
theorem PostS.bind {m : R (Fl × En)} {k : Fl → En → R (Fl × En)} {D' : Ends} (hr : D'.rt = D.rt) (h : PostS G W c D (bnd m k)) (hrt : ∀ r e, k (.rt r) e = .ok (.rt r, e))
    (hk : ∀ σ' F' H' e', Step G c ⟨F', σ', H', e'⟩ → Sim G ⟨F', σ', H', e'⟩ → PostS G W c D (k .nx e') → D'.nx σ' H') : PostS G W c D' m := by
  cases m with
  | ok p =>
    obtain ⟨f, e'⟩ := p
    cases f with
    | nx => exact fun σ' F' H' st S => hk σ' F' H' e' st S h
    | rt r =>
      intro v F' H' f1 f2 fr nw tg vr
      rw [hr]
      have h : PostS G W c D (k (.rt r) e') := h
      rw [hrt] at h
      exact h v F' H' f1 f2 fr nw tg vr
  | exc x => exact h
  | stuck => exact h
def thenS (ms : En → R (Fl × En)) : Fl → En → R (Fl × En) := fun f σ => match f with
  | .nx => ms σ
  | .rt v => .ok (.rt v, σ)
theorem gSs_cons {st : Stmt} {rest : List Stmt} {m ms : En → R (Fl × En)} (h1 : PS X st (tS G W m)) (h2 : PSs X rest (tS G W ms)) : PSs X (st :: rest) (tS G W fun σ => bnd (m σ) fun f σ => match f with
    | .nx => ms σ
    | .rt v => .ok (.rt v, σ)) := by
  refine PSs.imp (pss_cons h1 h2) fun D σ H ⟨F, e, S, h⟩ => ?_
  exact ⟨F, e, S, PostS.bind (D := D) (k := thenS ms) rfl h (fun _ _ => rfl) fun σ' F' H' e' st S' h' => ⟨F', e', S', PostS.next (r := ms e') h' st⟩⟩
theorem gS_pass {pos : Pos} : PS X (.Pass pos) (tS G W fun σ => .ok (.nx, σ)) := PS.imp ps_pass fun D σ H ⟨F, e, S, h⟩ => h σ F H Step.rfl' S
theorem gS_doc {x j pos pos'} : PS X (.Expr (.Constant (.str x) j pos) pos') (tS G W fun σ => .ok (.nx, σ)) := PS.imp ps_doc fun D σ H ⟨F, e, S, h⟩ => h σ F H Step.rfl' S
theorem gS_if {cnd : Expr} {p q : List Stmt} {pos : Pos} {mc : En → R (Vl × En)} {ma mb : En → R (Fl × En)} (hc : PT X cnd (tT G W fun σ => bnd (mc σ) fun v σ => toB v σ)) (ha : PSs X p (tS G W ma)) (hb : PSs X q (tS G W mb)) : PS X (.If cnd p q pos) (tS G W fun σ => bnd (mc σ) fun v σ => bnd (toB v σ) fun r σ => match r with
    | true => ma σ
    | false => mb σ) := by
  refine PS.imp (ps_if hc ha hb) fun D σ H ⟨F, e, S, h⟩ => ?_
  replace h : PostS G W ⟨F, σ, H, e⟩ D (bnd (bnd (mc e) fun v σ => toB v σ) fun r σ => match r with
    | true => ma σ
    | false => mb σ) := by rw [bnd_assoc]; exact h
  refine ⟨F, e, S, PostT.bind (Post := PostS G W _ D) (PostS.hx _) (fun z => z) h fun b e' F' H' st S' h' => ?_⟩
  cases b with
  | true => rw [if_pos rfl]; exact ⟨F', e', S', h'.next st⟩
  | false => rw [if_neg Bool.false_ne_true]; exact ⟨F', e', S', h'.next st⟩
/-! ### readings of values -/
theorem escI {m : En → R (Vl × En)} {k : PV.D → En → R (Fl × En)} {R : V → Hp → Prop} (S : Sim G ⟨F, σ, H, e⟩) (h : PostS G W ⟨F, σ, H, e⟩ D (bnd (bnd (m e) fun v σ => esc v σ) k))
    (hk : ∀ F' H' e' d v, Step G ⟨F, σ, H, e⟩ ⟨F', σ, H', e'⟩ → Sim G ⟨F', σ, H', e'⟩ → Rep G F' d v → PostS G W ⟨F', σ, H', e'⟩ D (k d e') → R v H') : tE G W m σ H R := by
  rw [bnd_assoc] at h
  refine ⟨F, e, S, PostE.mk (r := .stuck) (Post := PostS G W _ D) _ _ (PostS.hx _) (fun z => z) h fun vl e1 v F1 H1 st1 S1 r1 h1 => ?_⟩
  obtain ⟨d, F2, e2, st2, sm2, S2, rp, h2⟩ := esc_ok (Post := PostS G W ⟨F, σ, H, e⟩ D) (fun z => z) st1 S1 r1 h1
  exact hk F2 H1 e2 d v st2 S2 rp (h2.next st2)
theorem intS {m : En → R (Vl × En)} {k : Option Int → En → R (Fl × En)} {R : V → Hp → Prop} (S : Sim G ⟨F, σ, H, e⟩) (h : PostS G W ⟨F, σ, H, e⟩ D (bnd (bnd (m e) fun v σ => toI v σ) k))
    (hk : ∀ F' H' e' i, Step G ⟨F, σ, H, e⟩ ⟨F', σ, H', e'⟩ → Sim G ⟨F', σ, H', e'⟩ → PostS G W ⟨F', σ, H', e'⟩ D (k (some i) e') → R (.int i) H') : tE G W m σ H R := by
  rw [bnd_assoc] at h
  exact intI (Post := fun c r => PostS G W c D r) PostS.hx (fun _ z => z) (fun h s _ => PostS.next h s) S h hk
/-! ### names are stored -/
theorem setv_I {v : V} {vl : Vl} {i : Nat} {c0 : Cf} (st : Step G c0 ⟨F, σ, H, e⟩) (S : Sim G ⟨F, σ, H, e⟩) (r : VRel G c0.H ⟨F, σ, H, e⟩ v vl) (h : setv i vl e = .ok e') : Step G c0 ⟨F, σ.set i (some v), H, e'⟩ ∧ Sim G ⟨F, σ.set i (some v), H, e'⟩ := by
  cases vl with
  | sh d => exact ⟨st.setc h S.len rfl fun z => (by cases z), S.setc h ⟨v, rfl, r⟩ fun z => (by cases z)⟩
  | ow ds =>
    obtain ⟨a, rfl, hl, hw, h0⟩ := r
    exact ⟨st.setc h S.len rfl fun _ b hb => by cases hb; exact h0, S.setc h ⟨a, rfl, hl⟩ fun _ b hb => by cases hb; exact hw⟩
  | sl j => cases h
theorem setv_noexc {i : Nat} {v : Vl} {e : En} : ∀ x, setv i v e ≠ .exc x := fun x h => by
  cases v with
  | sh d => exact setc_noexc x h
  | ow ds => exact setc_noexc x h
  | sl j => cases h
/-- a value to be stored: a slot's list is shared from here on -/
theorem alias_I {v : V} {vl : Vl} {c0 : Cf} {α : Type} {k : Vl → En → R (α × En)} {Post : R (α × En) → Prop} (hs : ¬ Post .stuck) (st : Step G c0 ⟨F, σ, H, e⟩) (S : Sim G ⟨F, σ, H, e⟩) (r : VRel G c0.H ⟨F, σ, H, e⟩ v vl) (h : Post (bnd (alias_ vl e) k)) :
    ∃ vl' F' e', Step G c0 ⟨F', σ, H, e'⟩ ∧ Sim G ⟨F', σ, H, e'⟩ ∧ VRel G c0.H ⟨F', σ, H, e'⟩ v vl' ∧ Post (k vl' e') ∧ Same F F' := by
  cases vl with
  | sh d => exact ⟨.sh d, F, e, st, S, r, h, fun _ _ h => h⟩
  | ow ds => exact ⟨.ow ds, F, e, st, S, r, h, fun _ _ h => h⟩
  | sl i =>
    have h : Post (bnd (bnd (esc (.sl i) e) fun d σ => .ok (d, σ)) fun d σ => k (.sh d) σ) := by
      have ea : alias_ (.sl i) e = (esc (.sl i) e).map fun p => (.sh p.1, p.2) := rfl
      rw [ea] at h
      cases hq : esc (.sl i) e with
      | ok p => rw [hq] at h; exact h
      | exc x => rw [hq] at h; exact h
      | stuck => rw [hq] at h; exact h
    rw [bnd_assoc] at h
    obtain ⟨d, F', e', st', sm, S', rp, h'⟩ := esc_ok hs st S r h
    exact ⟨.sh d, F', e', st', S', rp, h', sm⟩
theorem setI {i : Nat} {m : En → R (Vl × En)} (h : tS G W (fun σ => bnd (m σ) fun v σ => bnd (alias_ v σ) fun v σ => nxR (setv i v σ)) D σ H) : tAsg (tE G W m) (gName i) D σ H := by
  obtain ⟨F, e, S, h⟩ := h
  refine ⟨F, e, S, PostE.mk (r := .stuck) (Post := PostS G W _ D) _ _ (PostS.hx _) (fun z => z) h fun vl e1 v F1 H1 st1 S1 r1 h1 => ?_⟩
  obtain ⟨vl', F2, e2, st2, S2, r2, h2, _⟩ := alias_I (Post := PostS G W _ D) (fun z => z) st1 S1 r1 h1
  cases hq : setv i vl' e2 with
  | ok e3 =>
    rw [hq] at h2
    obtain ⟨st3, S3⟩ := setv_I st2 S2 r2 hq
    exact h2.now st3 S3
  | exc x => exact (setv_noexc x hq).elim
  | stuck => rw [hq] at h2; exact h2.elim
theorem gS_set {i : Nat} {x : Str} {ex : Expr} {m : En → R (Vl × En)} {pos pos' : Pos} (hN : X.N.Nodup) (hi : X.N[i]? = some x) (hx : Loc X.env.scope x) (he : PE X ex (tE G W m)) (hs : swapsWith ex (some (.Name x pos')) pos.line X.env = pure false) (hf : X.fn x = true ∨ X.env.scope.names.lookup x = some .local) :
    PS X (.Assign [.Name x pos'] ex pos) (tS G W fun σ => bnd (m σ) fun v σ => bnd (alias_ v σ) fun v σ => nxR (setv i v σ)) := PS.imp (ps_set hN hi hx he hs hf) fun D σ H h => setI h
theorem gS_setLc' {i : Nat} {y : Str} {py : Pos} {ex : Expr} {spos : Pos} {m : En → R (Vl × En)} (h : PS X (.Assign [.Name y py] ex spos) (tAsg (tE G W m) (gName i))) : PS X (.Assign [.Name y py] ex spos) (tS G W fun σ => bnd (m σ) fun v σ => bnd (alias_ v σ) fun v σ => nxR (setv i v σ)) := PS.imp h fun D σ H h => setI h
/-- a, b, .. = a tuple -/
theorem gS_setT {is : List Nat} {tg ex : Expr} {m : En → R (Vl × En)} {pos : Pos} (he : PE X ex (tE G W m)) (hg : PG X tg (gTg G.K (.tp is))) (hs : swapsWithSole [tg] ex pos.line X.env = pure false) (hw : swappedStores [tg] ex X.env = pure none) (h1 : (assignEach [tg] X.env).map (·.2) = [assign tg X.env]) :
    PS X (.Assign [tg] ex pos) (tS G W fun σ => bnd (m σ) fun v σ => bnd (pk (hold v) σ) fun d σ => nxR (setT (.tp is) d σ)) := by
  refine PS.imp (ps_asg he hg hs hw h1) fun D σ H ⟨F, e, S, h⟩ => ?_
  refine oneI (Post := fun c r => PostS G W c D r) PostS.hx (fun _ z => z) (fun h s _ => PostS.next h s) S h fun F' H' e' d v st S' rx h' => ?_
  cases hq : setT (.tp is) d e' with
  | ok e3 =>
    rw [hq] at h'
    rcases rx with rx | ⟨ds, a, rfl, rfl, _⟩
    · exact tgI S' rx hq fun σ' S3 st3 _ _ => PostS.now h' (st3 _ Step.rfl') S3
    · cases hq
  | exc x => exact (setT_noexc x hq).elim
  | stuck => rw [hq] at h'; exact h'.elim
theorem gS_par2 {i j : Nat} {x y : Str} {a b : Expr} {ma mb : En → R (Vl × En)} {px py pt pos : Pos} {kt k2 pt2} (hc : X.calm = true) (hN : X.N.Nodup) (hi : X.N[i]? = some x) (hj : X.N[j]? = some y) (hij : i ≠ j)
    (hx : X.env.scope.names.lookup x = some .local) (hy : X.env.scope.names.lookup y = some .local) (ha : PE X a (tE G W ma)) (hb : PE X b (tE G W mb)) (he : starEach [a, b] X.env = (false, eval a X.env) :: starEach [b] X.env) (he2 : starEach [b] X.env = (false, eval b X.env) :: starEach [] X.env)
    (hw : swappedStores [.Tuple [.Name x px, .Name y py] kt pt] (.Tuple [a, b] k2 pt2) X.env = pure (some [x, y])) (hs : swapsWithSole [.Tuple [.Name x px, .Name y py] kt pt] (.Tuple [a, b] k2 pt2) pos.line X.env = pure false) :
    PS X (.Assign [.Tuple [.Name x px, .Name y py] kt pt] (.Tuple [a, b] k2 pt2) pos) (tS G W fun σ => bnd (ma σ) fun va σ => bnd (alias_ va σ) fun va σ => bnd (mb σ) fun vb σ => bnd (alias_ vb σ) fun vb σ =>
      if i ≠ j then nxR ((setv i va σ).bind (setv j vb)) else .stuck) := by
  refine PS.imp (ps_par hc hN hi hj hij hx hy (pa_cons ha (pa_cons hb pa_nil he2) he) hw hs) fun D σ H ⟨F, e, S, h⟩ => ?_
  refine ⟨F, e, S, PostE.mk (r := .stuck) (Post := PostS G W _ D) _ _ (PostS.hx _) (fun z => z) h fun va e1 v F1 H1 st1 S1 r1 h1 => ?_⟩
  obtain ⟨va', F2, e2, st2, S2, r2, h2, _⟩ := alias_I (Post := PostS G W _ D) (fun z => z) st1 S1 r1 h1
  refine ⟨F2, e2, S2, PostE.mk (r := .stuck) (Post := PostS G W ⟨F, σ, H, e⟩ D) _ _ (fun x hP => PostS.next (r := .exc x) hP st2) (fun z => z) h2 fun vb e3 u F3 H3 st3 S3 r3 h3 => ?_⟩
  obtain ⟨vb', F4, e4, st4, S4, r4, h4, _⟩ := alias_I (Post := PostS G W ⟨F, σ, H, e⟩ D) (fun z => z) st3 S3 r3 h3
  rw [if_pos hij] at h4
  have r2' : VRel G H ⟨F4, σ, H3, e4⟩ v va' := VRel.step st4 rfl r2
  show ∃ v' w', [v, u] = [v', w'] ∧ _
  refine ⟨v, u, rfl, ?_⟩
  have st5 := st2.trans st4
  cases hq : setv i va' e4 with
  | ok e5 =>
    rw [hq] at h4
    obtain ⟨st6, S6⟩ := setv_I (c0 := ⟨F, σ, H, e⟩) st5 S4 r2' hq
    have h4 : PostS G W ⟨F, σ, H, e⟩ D (nxR (setv j vb' e5)) := h4
    cases hq2 : setv j vb' e5 with
    | ok e6 =>
      rw [hq2] at h4
      have r4' : VRel G H ⟨F4, σ.set i (some v), H3, e5⟩ u vb' := by
        cases vb' with
        | sh d => exact r4
        | sl j => cases hq2
        | ow ds =>
          obtain ⟨a, ea, hl, hw, h0⟩ := r4
          refine ⟨a, ea, hl, fun w => ?_, st2.back a h0⟩
          obtain ⟨j', x', w1, w2, w3⟩ := w
          have w1 : e5[j']? = some x' := w1
          have w3 : (σ.set i (some v))[j']? = some (some (.ref a)) := w3
          have eqc : ∃ cc : Cell, e5 = e4.set i cc ∧ (cc.own = true → ∃ ws, va' = .ow ws) := by
            cases va' with
            | sh d => exact ⟨_, (setc_eq hq).1, fun z => by cases z⟩
            | ow ws => exact ⟨_, (setc_eq hq).1, fun _ => ⟨ws, rfl⟩⟩
            | sl _ => cases hq
          obtain ⟨cc, e5e, hcc⟩ := eqc
          by_cases z : j' = i
          · subst z
            have hl4 : j' < e4.length := by
              have q := (List.getElem?_eq_some_iff.mp w1).1
              rw [e5e] at q; simpa using q
            have hl5 : j' < σ.length := by
              have q := S4.len
              exact (show e4.length = σ.length from q) ▸ hl4
            rw [e5e, List.getElem?_set_self hl4] at w1
            rw [List.getElem?_set_self hl5] at w3
            cases w1
            cases w3
            obtain ⟨ws, rfl⟩ := hcc w2
            obtain ⟨b, eb, ⟨vs, k1, _⟩, _⟩ := r2
            cases eb
            have h0 : H1 a = none := h0
            have k1 : H1 a = some (.lst vs) := k1
            rw [h0] at k1; cases k1
          · rw [e5e, List.getElem?_set_ne (Ne.symm z)] at w1
            rw [List.getElem?_set_ne (Ne.symm z)] at w3
            exact hw ⟨j', x', w1, w2, w3⟩
      obtain ⟨st7, S7⟩ := setv_I (c0 := ⟨F, σ, H, e⟩) st6 S6 r4' hq2
      exact PostS.now h4 st7 S7
    | exc x => exact (setv_noexc x hq2).elim
    | stuck => rw [hq2] at h4; exact h4.elim
  | exc x => exact (setv_noexc x hq).elim
  | stuck => rw [hq] at h4; exact h4.elim
theorem gS_expr {ex : Expr} {m : En → R (Vl × En)} {pos : Pos} (he : PE X ex (tE G W m)) (hs : swapsWith ex none pos.line X.env = pure false) : PS X (.Expr ex pos) (tS G W fun σ => bnd (m σ) fun _ σ => .ok (.nx, σ)) := by
  refine PS.imp (ps_expr he hs) fun D σ H ⟨F, e, S, h⟩ => ?_
  exact ⟨F, e, S, PostE.mk (r := .stuck) (Post := PostS G W _ D) _ _ (PostS.hx _) (fun z => z) h fun vl e1 v F1 H1 st1 S1 r1 h1 => PostS.now h1 st1 S1⟩
/-! ### lists changed in place -/
theorem ixN_lt {n : Nat} {k : Int} {j : Nat} (h : ixN n k = some j) : j < n := by
  unfold ixN at h
  split at h
  · split at h
    · cases h; omega
    · cases h
  · split at h
    · cases h; omega
    · cases h
theorem isL_at {i : Nat} (S : Sim G ⟨F, σ, H, e⟩) (h : isL i e = true) : ∃ a vs, σ[i]? = some (some (.ref a)) ∧ H a = some (.lst vs) := by
  unfold isL at h
  split at h
  · rename_i ds hx
    obtain ⟨a, k1, vs, k2, _⟩ := S.cell i _ hx
    exact ⟨a, vs, k1, k2⟩
  · rename_i ds hx
    obtain ⟨a, k1, vs, k2, _⟩ := S.cell i _ hx
    exact ⟨a, vs, k1, k2⟩
  · cases h
theorem updI {i : Nat} {f : List PV.D → Option (List PV.D)} (S : Sim G ⟨F, σ, H, e⟩) (h : updL i f e = .ok e') : ∃ a vs ds ds', σ[i]? = some (some (.ref a)) ∧ H a = some (.lst vs) ∧ Reps G F ds vs ∧ f ds = some ds' ∧
    ∀ vs', Reps G F ds' vs' → Step G ⟨F, σ, H, e⟩ ⟨F, σ, upd H a (.lst vs'), e'⟩ ∧ Sim G ⟨F, σ, upd H a (.lst vs'), e'⟩ := by
  have key : ∀ (mk : List PV.D → Cell), (∀ xs ds, mk xs ≠ .lk ds) → (∀ xs, (mk xs).own = true) → (∀ xs ys, (mk xs).tag = (mk ys).tag) → (∀ F H s xs, CellOk G F H s (mk xs) ↔ ∃ a, s = some (some (.ref a)) ∧ LstAt G F H xs a) → ∀ ds ds', e[i]? = some (mk ds) → f ds = some ds' → e' = e.set i (mk ds') →
      ∃ a vs ds ds', σ[i]? = some (some (.ref a)) ∧ H a = some (.lst vs) ∧ Reps G F ds vs ∧ f ds = some ds' ∧ ∀ vs', Reps G F ds' vs' → Step G ⟨F, σ, H, e⟩ ⟨F, σ, upd H a (.lst vs'), e'⟩ ∧ Sim G ⟨F, σ, upd H a (.lst vs'), e'⟩ := by
    intro mk hnl ho htg hc ds ds' hx hf he
    obtain ⟨a, k1, vs, k2, k3, k4⟩ := (hc _ _ _ _).mp (S.cell i _ hx)
    have k1 : σ[i]? = some (some (.ref a)) := k1
    refine ⟨a, vs, ds, ds', k1, k2, k4, hf, fun vs' r => ?_⟩
    subst he
    exact S.ioEnd (x' := mk ds') hx (hnl _) (ho _) (ho _) (htg _ _) k1 (fun _ _ h => h) (fun b u hb => by
      have : b ≠ a := fun z => by
        have k3 : F a = none := k3
        rw [z, k3] at hb; cases hb
      rw [upd_ne this]; exact S.sub b u hb) (fun b o hb hne => by rw [upd_ne hne]; exact hb) (fun b h h' => absurd h h') (fun b hb => by
      by_cases z : b = a
      · rw [z, upd_same]; simp
      · rw [upd_ne z]; exact hb) ((hc _ _ _ _).mpr ⟨a, k1, vs', upd_same, k3, r⟩)
  unfold updL at h
  split at h
  · rename_i ds hx
    cases hf : f ds with
    | none => rw [hf] at h; cases h
    | some ds' =>
      rw [hf] at h
      cases h
      exact key .ow (fun _ _ z => by cases z) (fun _ => rfl) (fun _ _ => rfl) (fun _ _ _ _ => Iff.rfl) ds ds' hx hf rfl
  · rename_i ds hx
    cases hf : f ds with
    | none => rw [hf] at h; cases h
    | some ds' =>
      rw [hf] at h
      cases h
      exact key .io (fun _ _ z => by cases z) (fun _ => rfl) (fun _ _ => rfl) (fun _ _ _ _ => Iff.rfl) ds ds' hx hf rfl
  · cases h
theorem updL_noexc {i : Nat} {f : List PV.D → Option (List PV.D)} {e : En} : ∀ x, updL i f e ≠ .exc x := fun x h => by
  unfold updL at h
  split at h
  · split at h <;> cases h
  · split at h <;> cases h
  · cases h
theorem gS_setix {i : Nat} {y : Str} {ex ix : Expr} {m mi : En → R (Vl × En)} {pos py ps : Pos} (hN : X.N[i]? = some y) (hv : Vis X.env.scope y) (hd : (y == ("__debug__" : Str)) = false) (hcd : (y == ("__classdict__" : Str)) = false) (he : PE X ex (tE G W m)) (hi : PE X ix (tE G W mi))
    (ha : ∀ v, assign (.Subscript (.Name y py) ix ps) X.env v = (do
      let ov ← holding [v] (eval (.Name y py) X.env)
      let iv ← holding [v, ov] (eval ix X.env)
      standAt ps
      holding [v, ov, iv] (setItem ov iv v)
      release [v, ov, iv] [])) (hs : swapsWithSole [.Subscript (.Name y py) ix ps] ex pos.line X.env = pure false) (hw : swappedStores [.Subscript (.Name y py) ix ps] ex X.env = pure none) (h1 : (assignEach [.Subscript (.Name y py) ix ps] X.env).map (·.2) = [assign (.Subscript (.Name y py) ix ps) X.env]) :
    PS X (.Assign [.Subscript (.Name y py) ix ps] ex pos) (tS G W fun σ => bnd (bnd (m σ) fun v σ => esc v σ) fun y σ => if isL i σ = true then bnd (bnd (mi σ) fun v σ => toI v σ) fun k σ => nxR (updL i (setF (k.getD 0) y) σ) else .stuck) := by
  refine PS.imp (ps_asg he (pg_sub (pe_var (i := i) hN hv hd hcd) hi set_list ha) hs hw h1) fun D σ H ⟨F, e, S, h⟩ => ?_
  refine escI (k := fun y σ => if isL i σ = true then bnd (bnd (mi σ) fun v σ => toI v σ) fun k σ => nxR (updL i (setF (k.getD 0) y) σ) else .stuck) S h fun F1 H1 e1 d v st1 S1 r1 h1 => ?_
  by_cases hl : isL i e1 = true
  · rw [if_pos hl] at h1
    obtain ⟨a, vs, k1, k2⟩ := isL_at S1 hl
    refine ⟨_, k1, ?_⟩
    refine intS S1 h1 fun F2 H2 e2 n st2 S2 h2 => ?_
    cases hq : updL i (setF ((some n).getD 0) d) e2 with
    | ok e3 =>
      rw [hq] at h2
      obtain ⟨a', vs', ds, ds', q1, q2, q3, q4, q5⟩ := updI S2 hq
      rw [k1] at q1
      cases q1
      unfold setF at q4
      rw [Option.map_eq_some_iff] at q4
      obtain ⟨j, q6, q7⟩ := q4
      subst q7
      obtain ⟨st3, S3⟩ := q5 (vs'.set j v) (q3.set (r1.mono st2.f) j)
      exact ⟨a, vs', n, j, rfl, rfl, q2, by rw [q3.length]; exact q6, PostS.now h2 st3 S3⟩
    | exc x => exact (updL_noexc x hq).elim
    | stuck => rw [hq] at h2; exact h2.elim
  · rw [if_neg hl] at h1; exact h1.elim
end
end PV
set_option Elab.async false
set_option linter.all false
set_option maxRecDepth 100000
namespace PV
open PySem PySem.Spec PyProof.Rows L2
section
variable {G : Gb} {W : XK} {X : Cx} {cf : CF} {lv : Nat} {c c1 : Cf} {F F' H H' : Hp} {σ : Sg} {e e' : En} {D : Ends}
theorem tyL {H : Hp} {a : Addr} {vs : List V} {K : PySem.W.Frag} (h : H a = some (.lst vs)) : tyV K "list" (.ref a) H := .inl ⟨rfl, vs, .inl (.inl h)⟩
def hfewOk (es : List Expr) (env : PySem.Env) (pos : Pos) : Prop := ((backTo pos (starEach es env)).all (fun x => !x.1) && (backToKw pos (keywordEach [] env)).all (fun x => x.1.isSome)
      && decide (es.length + ([] : List Keyword).length + (if ([] : List Keyword).isEmpty then 0 else 1) < 30)) = true
theorem gS_app {i : Nat} {y : Str} {ex : Expr} {m : En → R (Vl × En)} {pos py ap cp : Pos} (hN : X.N[i]? = some y) (hv : Vis X.env.scope y) (hd : (y == ("__debug__" : Str)) = false) (hcd : (y == ("__classdict__" : Str)) = false) (he : PE X ex (tE G W m))
    (hfew : hfewOk [ex] X.env cp) (hline : (ap.endLine == cp.line) = true) (hs : starEach [ex] X.env = (false, eval ex X.env) :: starEach [] X.env) (hsw : swapsWith (.Call (.Attribute (.Name y py) "append" ap) [ex] [] cp) none pos.line X.env = pure false) :
    PS X (.Expr (.Call (.Attribute (.Name y py) "append" ap) [ex] [] cp) pos) (tS G W fun σ => if isL i σ = true then bnd (bnd (m σ) fun v σ => esc v σ) fun y σ => nxR (updL i (appF y) σ) else .stuck) := by
  refine PS.imp (ps_expr (pe_bm F.plainAttrs_list F.slot_list_append rfl mt_append (pe_var (i := i) hN hv hd hcd) (pa_cons he pa_nil hs) (attrBase rfl) hfew hline hs rfl) hsw) fun D σ H ⟨F, e, S, h⟩ => ?_
  by_cases hl : isL i e = true
  · simp only [hl, if_true] at h
    obtain ⟨a, vs, k1, k2⟩ := isL_at S hl
    refine ⟨_, k1, tyL k2, ?_⟩
    refine escI (k := fun y σ => nxR (updL i (appF y) σ)) S h fun F1 H1 e1 d v st1 S1 r1 h1 => ?_
    show ∃ l xs y, _
    cases hq : updL i (appF d) e1 with
    | ok e3 =>
      simp only [hq] at h1
      obtain ⟨a', vs', ds, ds', q1, q2, q3, q4, q5⟩ := updI S1 hq
      rw [k1] at q1
      cases q1
      unfold appF at q4
      split at q4
      · rename_i hlt
        cases q4
        obtain ⟨st3, S3⟩ := q5 (vs' ++ [v]) (q3.append (.cons r1 .nil))
        exact ⟨a, vs', v, rfl, rfl, q2, by rw [q3.length]; exact line16' hlt, PostS.now h1 st3 S3⟩
      · cases q4
    | exc x => exact (updL_noexc x hq).elim
    | stuck => simp only [hq] at h1; exact h1.elim
  · simp only [hl] at h; exact h.elim
theorem gS_ins {i : Nat} {y : Str} {ek ex : Expr} {mk m : En → R (Vl × En)} {pos py ap cp : Pos} (hN : X.N[i]? = some y) (hv : Vis X.env.scope y) (hd : (y == ("__debug__" : Str)) = false) (hcd : (y == ("__classdict__" : Str)) = false) (hk : PE X ek (tE G W mk)) (he : PE X ex (tE G W m))
    (hfew : hfewOk [ek, ex] X.env cp) (hline : (ap.endLine == cp.line) = true) (hs : starEach [ek, ex] X.env = (false, eval ek X.env) :: starEach [ex] X.env) (hs2 : starEach [ex] X.env = (false, eval ex X.env) :: starEach [] X.env) (hpl : (backTo cp (starEach [ex] X.env)).any (·.1) = false) (hsw : swapsWith (.Call (.Attribute (.Name y py) "insert" ap) [ek, ex] [] cp) none pos.line X.env = pure false) :
    PS X (.Expr (.Call (.Attribute (.Name y py) "insert" ap) [ek, ex] [] cp) pos) (tS G W fun σ => if isL i σ = true then bnd (bnd (mk σ) fun v σ => toI v σ) fun n σ => bnd (bnd (m σ) fun v σ => esc v σ) fun y σ => nxR (updL i (insF (n.getD 0) y) σ) else .stuck) := by
  refine PS.imp (ps_expr (pe_bm F.plainAttrs_list F.slot_list_insert rfl mt_insert (pe_var (i := i) hN hv hd hcd) (pa_cons hk (pa_cons he pa_nil hs2) hs) (attrBase rfl) hfew hline hs hpl) hsw) fun D σ H ⟨F, e, S, h⟩ => ?_
  by_cases hl : isL i e = true
  · simp only [hl, if_true] at h
    obtain ⟨a, vs, k1, k2⟩ := isL_at S hl
    refine ⟨_, k1, tyL k2, ?_⟩
    refine intS (k := fun n σ => bnd (bnd (m σ) fun v σ => esc v σ) fun y σ => nxR (updL i (insF (n.getD 0) y) σ)) S h fun F0 H0 e0 n st0 S0 h0 => ?_
    refine escI (k := fun y σ => nxR (updL i (insF n y) σ)) S0 h0 fun F1 H1 e1 d v st1 S1 r1 h1 => ?_
    show ∃ l xs y, _
    cases hq : updL i (insF n d) e1 with
    | ok e3 =>
      simp only [hq] at h1
      obtain ⟨a', vs', ds, ds', q1, q2, q3, q4, q5⟩ := updI S1 hq
      rw [k1] at q1
      cases q1
      unfold insF at q4
      split at q4
      · rename_i hlt
        cases q4
        obtain ⟨st3, S3⟩ := q5 (vs'.take n.toNat ++ [v] ++ vs'.drop n.toNat) (((q3.take _).append (.cons r1 .nil)).append (q3.drop _))
        exact ⟨a, vs', n, v, rfl, rfl, q2, by rw [q3.length]; exact line16' hlt.1, hlt.2.1, by omega, PostS.now h1 st3 S3⟩
      · cases q4
    | exc x => exact (updL_noexc x hq).elim
    | stuck => simp only [hq] at h1; exact h1.elim
  · simp only [hl] at h; exact h.elim
theorem gS_ext {i : Nat} {y : Str} {ex : Expr} {m : En → R (Vl × En)} {pos py ap cp : Pos} (hN : X.N[i]? = some y) (hv : Vis X.env.scope y) (hd : (y == ("__debug__" : Str)) = false) (hcd : (y == ("__classdict__" : Str)) = false) (he : PE X ex (tE G W m))
    (hfew : hfewOk [ex] X.env cp) (hline : (ap.endLine == cp.line) = true) (hs : starEach [ex] X.env = (false, eval ex X.env) :: starEach [] X.env) (hsw : swapsWith (.Call (.Attribute (.Name y py) "extend" ap) [ex] [] cp) none pos.line X.env = pure false) :
    PS X (.Expr (.Call (.Attribute (.Name y py) "extend" ap) [ex] [] cp) pos) (tS G W fun σ => if isL i σ = true then bnd (m σ) fun v σ => bnd (pk (hold v) σ) fun y σ => match y with
      | .lst xs => nxR (updL i (extF xs) σ)
      | _ => .stuck else .stuck) := by
  refine PS.imp (ps_expr (pe_bm F.plainAttrs_list F.slot_list_extend rfl mt_extend (pe_var (i := i) hN hv hd hcd) (pa_cons he pa_nil hs) (attrBase rfl) hfew hline hs rfl) hsw) fun D σ H ⟨F, e, S, h⟩ => ?_
  by_cases hl : isL i e = true
  · simp only [hl, if_true] at h
    obtain ⟨a, vs, k1, k2⟩ := isL_at S hl
    refine ⟨_, k1, tyL k2, ?_⟩
    refine oneI (Post := fun c r => PostS G W c D r) (k := fun y σ => match y with
      | .lst xs => nxR (updL i (extF xs) σ)
      | _ => .stuck) PostS.hx (fun _ z => z) (fun h s _ => PostS.next h s) S h fun F1 H1 e1 d v st1 S1 rx h1 => ?_
    show ∃ l b xs zs, _
    cases d with
    | lst xs =>
      dsimp only at h1
      cases hq : updL i (extF xs) e1 with
      | ok e3 =>
        simp only [hq] at h1
        obtain ⟨a', vs', ds, ds', q1, q2, q3, q4, q5⟩ := updI S1 hq
        rw [k1] at q1
        cases q1
        unfold extF at q4
        split at q4
        · rename_i hlt
          cases q4
          obtain ⟨b, us, rfl, p1, p2⟩ : ∃ b us, v = .ref b ∧ H1 b = some (.lst us) ∧ Reps G F1 xs us := by
            rcases rx with rx | ⟨ds', b, z, rfl, us, p1, _, p2⟩
            · simp only [Rep] at rx
              obtain ⟨b, us, rfl, p1, p2⟩ := rx
              exact ⟨b, us, rfl, S1.sub b _ p1, p2⟩
            · cases z
              exact ⟨b, us, rfl, p1, p2⟩
          obtain ⟨st3, S3⟩ := q5 (vs' ++ us) (q3.append p2)
          exact ⟨a, b, vs', us, rfl, rfl, q2, p1, by rw [q3.length, p2.length]; exact line16 hlt, PostS.now h1 st3 S3⟩
        · cases q4
      | exc x => exact (updL_noexc x hq).elim
      | stuck => simp only [hq] at h1; exact h1.elim
    | _ => exact h1.elim
  · simp only [hl] at h; exact h.elim
/-! ### fields of a new instance -/
theorem hasB_no {f : Str} {fs : List Str} (h : hasB f fs = false) : f ∉ fs := fun hm => by
  unfold hasB at h
  rw [List.any_eq_false] at h
  exact h f hm (by simp)
theorem putF_zip {f : Str} {v : V} : ∀ {fs : List Str} {vs : List V}, fs[vs.length]? = some f → f ∉ fs.take vs.length → putF f v (fs.zip vs) = fs.zip (vs ++ [v])
  | [], vs, h, _ => by simp at h
  | g :: fs, [], h, _ => by
    simp only [List.length_nil, List.getElem?_cons_zero, Option.some.injEq] at h
    subst h
    simp [putF]
  | g :: fs, u :: vs, h, hn => by
    simp only [List.length_cons, List.getElem?_cons_succ] at h
    simp only [List.length_cons, List.take_succ_cons, List.mem_cons, not_or] at hn
    simp only [List.zip_cons_cons, List.cons_append, putF]
    rw [if_neg (Ne.symm hn.1), putF_zip h hn.2]
theorem gS_setfld {f y : Str} {ex : Expr} {m : En → R (Vl × En)} {pos py pa : Pos} (g : Gd G W cf lv X) (hN : X.N[(0 : Nat)]? = some y) (hv : Vis X.env.scope y) (hd : (y == ("__debug__" : Str)) = false) (hcd : (y == ("__classdict__" : Str)) = false) (he : PE X ex (tE G W m)) (hsw : swapsWith ex (some (.Attribute (.Name y py) f pa)) pos.line X.env = pure false) :
    PS X (.Assign [.Attribute (.Name y py) f pa] ex pos) (tS G W fun σ => bnd (bnd (m σ) fun v σ => esc v σ) fun y σ => match σ[(0 : Nat)]? with
    | some (.bld c fs) => if (clsF G.P c)[fs.length]? = some f ∧ hasB f ((clsF G.P c).take fs.length) = false ∧ fs.length < 1000 then .ok (.nx, σ.set 0 (.bld c (fs ++ [y]))) else .stuck
    | _ => .stuck) := by
  refine PS.imp (ps_fld (pe_var (i := 0) hN hv hd hcd) he hsw) fun D σ H ⟨F, e, S, h⟩ => ?_
  refine escI (k := fun y σ => match σ[(0 : Nat)]? with
    | some (.bld c fs) => if (clsF G.P c)[fs.length]? = some f ∧ hasB f ((clsF G.P c).take fs.length) = false ∧ fs.length < 1000 then .ok (.nx, σ.set 0 (.bld c (fs ++ [y]))) else .stuck
    | _ => .stuck) S h fun F1 H1 e1 d v st1 S1 r1 h1 => ?_
  split at h1
  · rename_i c fs hx
    split at h1
    · rename_i hcnd
      obtain ⟨hc1, hc2, hc3⟩ := hcnd
      obtain ⟨a, k1, dx, vs, k2, k3, k4, k5⟩ := S1.cell 0 _ hx
      have k1 : σ[(0 : Nat)]? = some (some (.ref a)) := k1
      have k2 : H1 a = _ := k2
      have k4 : F1 a = none := k4
      have hl := k5.length
      have hC : ∃ C, G.P.cls[c]? = some C ∧ clsF G.P c = C.flds := by
        unfold clsF at hc1 ⊢
        cases hq : G.P.cls[c]? with
        | none => rw [hq] at hc1; simp at hc1
        | some C => exact ⟨C, rfl, rfl⟩
      obtain ⟨C, hC1, hC2⟩ := hC
      have ck := g.fa.cls c C hC1
      rw [← hl] at hc1 hc2
      have pz := putF_zip (v := v) hc1 (hasB_no hc2)
      have hlt : vs.length < (clsF G.P c).length := (List.getElem?_eq_some_iff.mp hc1).1
      refine ⟨_, k1, a, G.cls c, dx, _, rfl, k2, by rw [g.kK]; exact ck.cl, by rw [g.kK]; exact ck.no f (by rw [← hC2]; exact List.mem_of_getElem? hc1), ?_, ?_⟩
      · rw [List.length_zip]; omega
      · rw [pz]
        obtain ⟨st3, S3⟩ := S1.ioEnd (x' := .bld c (fs ++ [d])) (F' := F1) (H' := upd H1 a (.ins (G.cls c) dx ((clsF G.P c).zip (vs ++ [v])))) hx (fun _ z => by cases z) rfl rfl rfl k1 (fun _ _ h => h) (fun b u hb => by
          have hb : F1 b = some u := hb
          have : b ≠ a := fun z => by rw [z, k4] at hb; cases hb
          rw [upd_ne this]; exact S1.sub b u hb) (fun b o hb hne => by rw [upd_ne hne]; exact hb) (fun b h h' => absurd h h') (fun b hb => by
          by_cases z : b = a
          · rw [z, upd_same]; simp
          · rw [upd_ne z]; exact hb) ⟨a, k1, dx, vs ++ [v], upd_same, by simp; omega, k4, k5.append (.cons r1 .nil)⟩
        exact PostS.now h1 st3 S3
    · exact h1.elim
  · exact h1.elim
/-! ### return -/
theorem tag_own {x : Cell} {t : Option Nat} (h : x.tag = some t) : x.own = true := by cases x <;> first | rfl | cases h
theorem Step.tagOk {c0 : Cf} (st : Step G c0 ⟨F, σ, H, e⟩) (S : Sim G ⟨F, σ, H, e⟩) (he : ∀ (i : Nat) (x : Cell), e'[i]? = some x → x.tag ≠ none → e[i]? = some x) : TagOk G c0 F H e' := fun i x t hx ht => by
  have hx' := he i x hx (by rw [ht]; simp)
  obtain ⟨y, k1, k2, k3⟩ := st.io i x t hx' ht
  have k := S.cell i x hx'
  rw [k3] at k
  exact ⟨⟨y, k1, k2⟩, k⟩
theorem PostS.ret {c0 : Cf} {v : V} {r : Vr} (h : PostS G W c0 D (.ok (.rt r, e'))) (st : Step G c0 ⟨F, σ, H, e⟩) (S : Sim G ⟨F, σ, H, e⟩) (he : ∀ (i : Nat) (x : Cell), e'[i]? = some x → x.tag ≠ none → e[i]? = some x) (hv : VrS G c0 F H e' v r) : D.rt v H :=
  h v F H st.f S.sub st.frame st.new (st.tagOk S he) hv
theorem gS_ret {ex : Expr} {m : En → R (Vl × En)} {pos : Pos} (he : PE X ex (tE G W m)) : PS X (.Return (some ex) pos) (tS G W fun σ => bnd (m σ) fun v σ => match v with
    | .sh d => .ok (.rt (.sh d), σ)
    | .ow ds => .ok (.rt (.ow ds), σ)
    | .sl i => match σ[i]? with
      | some (.ow ds) => .ok (.rt (.ow ds), σ.set i .un)
      | some (.sh d) => .ok (.rt (.sh d), σ)
      | _ => .stuck) := by
  refine PS.imp (ps_ret he) fun D σ H ⟨F, e, S, h⟩ => ?_
  refine ⟨F, e, S, PostE.mk (r := .stuck) (Post := PostS G W _ D) _ _ (PostS.hx _) (fun z => z) h fun vl e1 v F1 H1 st1 S1 r1 h1 => ?_⟩
  cases vl with
  | sh d => exact PostS.ret h1 st1 S1 (fun _ _ h _ => h) r1
  | ow ds =>
    obtain ⟨a, k1, k2, k3, k4⟩ := r1
    refine PostS.ret h1 st1 S1 (fun _ _ h _ => h) ⟨a, k1, k2, .inl k4, fun i x hx ht hs => ?_⟩
    cases hq : x.tag with
    | none => exact ht hq
    | some t =>
      obtain ⟨y, q1, q2, q3⟩ := st1.io i x t hx hq
      exact k3 ⟨i, x, hx, tag_own hq, by rw [q3]; exact hs⟩
  | sl i =>
    have r1 : σ[i]? = some (some v) := r1
    dsimp only at h1
    split at h1
    · rename_i ds hx
      obtain ⟨a, k1, k2⟩ := S1.cell i _ hx
      have k1 : σ[i]? = some (some (.ref a)) := k1
      rw [r1] at k1
      cases k1
      have hi : i < e1.length := (List.getElem?_eq_some_iff.mp hx).1
      have hset : ∀ (j : Nat) (x : Cell), (e1.set i .un)[j]? = some x → x.tag ≠ none → j ≠ i ∧ e1[j]? = some x := fun j x hj ht => by
        by_cases z : j = i
        · subst z
          rw [List.getElem?_set_self hi] at hj
          cases hj
          exact (ht rfl).elim
        · rw [List.getElem?_set_ne (Ne.symm z)] at hj
          exact ⟨z, hj⟩
      refine PostS.ret h1 st1 S1 (fun j x hj ht => (hset j x hj ht).2) ⟨a, rfl, k2, ?_, fun j x hj ht hs => ?_⟩
      · exact (st1.w a ⟨i, _, hx, rfl, r1⟩).symm
      · obtain ⟨hne, hj'⟩ := hset j x hj ht
        cases hq : x.tag with
        | none => exact ht hq
        | some t =>
          obtain ⟨y, q1, q2, q3⟩ := st1.io j x t hj' hq
          exact hne (S1.inj j i x _ a hj' hx (tag_own hq) rfl (by rw [q3]; exact hs) r1)
    · rename_i d hx
      obtain ⟨u, k1, k2⟩ := S1.cell i _ hx
      have k1 : σ[i]? = some (some u) := k1
      rw [r1] at k1
      cases k1
      exact PostS.ret h1 st1 S1 (fun _ _ h _ => h) k2
    · exact h1.elim
theorem gS_retN {pos : Pos} : PS X (.Return none pos) (tS G W fun σ => .ok (.rt (.sh .non), σ)) :=
  PS.imp ps_retN fun D σ H ⟨F, e, S, h⟩ => PostS.ret h Step.rfl' S (fun _ _ h _ => h) (by simp only [VrS, Rep])
end
end PV
set_option Elab.async false
set_option linter.all false
set_option maxRecDepth 100000
namespace PV
open PySem PySem.Spec PyProof.Rows L2
section
variable {G : Gb} {W : XK} {X : Cx} {cf : CF} {lv : Nat} {c c1 : Cf} {F F' H H' : Hp} {σ : Sg} {e e' : En} {D : Ends}
theorem PostS.bindP {Post : R (Fl × En) → Prop} {m : R (Fl × En)} {k : Fl → En → R (Fl × En)} {D' : Ends} (h : Post (bnd m k)) (hrt : ∀ r e', Post (k (.rt r) e') → PostS G W c D' (.ok (.rt r, e'))) (hexc : ∀ x, Post (.exc x) → PostS G W c D' (.exc x)) (hst : ¬ Post .stuck)
    (hk : ∀ σ' F' H' e', Step G c ⟨F', σ', H', e'⟩ → Sim G ⟨F', σ', H', e'⟩ → Post (k .nx e') → D'.nx σ' H') : PostS G W c D' m := by
  cases m with
  | ok p =>
    obtain ⟨f, e'⟩ := p
    cases f with
    | nx => exact fun σ' F' H' st S => hk σ' F' H' e' st S h
    | rt r => exact hrt r e' h
  | exc x => exact hexc x h
  | stuck => exact (hst h).elim
/-! ### while -/
theorem gS_whl {cnd : Expr} {body : List Stmt} {pos : Pos} {mc : En → R (Bool × En)} {mb : En → R (Fl × En)} {w : Nat} (hp : PassesOwn (model X.prog X.w) X.A X.env X.xe) (hc : PT X cnd (tT G W mc)) (hb : PSs X body (tS G W mb)) : PS X (.While cnd body [] pos) (tS G W (whlL mc mb w)) := by
  refine PS.imp (ps_while hp hc hb) fun D σ H ⟨F0, e0, S0, h0⟩ => ?_
  refine ⟨fun m σ' H' => ∃ F e, Step G ⟨F0, σ, H, e0⟩ ⟨F, σ', H', e⟩ ∧ Sim G ⟨F, σ', H', e⟩ ∧ PostS G W ⟨F0, σ, H, e0⟩ D (whlL mc mb m e), ⟨w, F0, e0, Step.rfl', S0, h0⟩, ?_⟩
  rintro m σ1 H1 ⟨F1, e1, st1, S1, h1⟩
  cases m with
  | zero => exact h1.elim
  | succ n =>
    refine ⟨F1, e1, S1, PostT.bind (Post := PostS G W ⟨F0, σ, H, e0⟩ D) (k := fun b σ' => match b with
      | false => .ok (.nx, σ')
      | true => bnd (mb σ') fun r σ'' => match r with
        | .nx => whlL mc mb n σ''
        | .rt v => .ok (.rt v, σ'')) (fun x hP => PostS.next (r := .exc x) hP st1) (fun z => z) h1 fun b e2 F2 H2 st2 S2 h2 => ?_⟩
    cases b with
    | false =>
      rw [if_neg Bool.false_ne_true]
      exact PostS.now h2 (st1.trans st2) S2
    | true =>
      rw [if_pos rfl]
      refine ⟨fun σ' H' => ∃ F e, Step G ⟨F0, σ, H, e0⟩ ⟨F, σ', H', e⟩ ∧ Sim G ⟨F, σ', H', e⟩ ∧ PostS G W ⟨F0, σ, H, e0⟩ D (whlL mc mb n e), fun σ' H' z => ⟨n, Nat.lt_succ_self n, z⟩, ?_⟩
      refine ⟨F2, e2, S2, PostS.bindP (Post := PostS G W ⟨F0, σ, H, e0⟩ D) (k := thenS (whlL mc mb n)) h2 (fun r e' q => ?_) (fun x q => PostS.next (r := .exc x) q (st1.trans st2)) (fun z => z) fun σ' F' H' e' st S' q => ⟨F', e', (st1.trans st2).trans st, S', q⟩⟩
      have q := PostS.next (r := .ok (.rt r, e')) q (st1.trans st2)
      exact q
/-! ### for -/
theorem unlocks_tag {ls : List Nat} {i : Nat} {x : Cell} (h : (ls.foldr PV.unlock e)[i]? = some x) (ht : x.tag ≠ none) : e[i]? = some x := by
  rw [unlocks_get] at h
  split at h
  · split at h
    · cases h; exact (ht rfl).elim
    · cases h; exact (ht rfl).elim
  · exact h
theorem PostS.unl {ls : List Nat} {r : Vr} (h : PostS G W c D (.ok (.rt r, ls.foldr PV.unlock e))) : PostS G W c D (.ok (.rt r, e)) := by
  intro v F' H' f1 f2 fr nw tg vr
  refine h v F' H' f1 f2 fr nw (fun i x t hx ht => tg i x t (unlocks_tag hx (by rw [ht]; simp)) ht) ?_
  cases r with
  | sh d => exact vr
  | ow ds =>
    obtain ⟨a, k1, k2, k3, k4⟩ := vr
    exact ⟨a, k1, k2, k3, fun i x hx ht => k4 i x (unlocks_tag hx ht) ht⟩
theorem gS_for {tg iter : Expr} {body : List Stmt} {pos : Pos} {t : Tgt} {ms : En → R ((List PV.D × List Nat) × En)} {mb : En → R (Fl × En)} (hp : PassesOwn (model X.prog X.w) X.A X.env X.xe) (hc : X.calm = true) (hi : PI X tg iter (tI G W ms)) (hg : PG X tg (gTg G.K t)) (hb : PSs X body (tS G W mb))
    (hs : ∀ x, foldedSetIterable iter X.env x = pure x) : PS X (.For tg iter body [] pos) (tS G W fun σ => bnd (ms σ) fun p σ1 =>
      bnd (forL (fun d σ => bnd (lift (setT t d σ) σ) fun σ' _ => mb σ') p.1 (p.2.foldr lock σ1)) fun r σ2 => .ok (r, p.2.foldr unlock σ2)) := by
  refine PS.imp (ps_for hp hc hi hg hb hs) fun D σ H ⟨F0, e0, S0, h0⟩ => ?_
  have PIof : ∀ {R : It → Hp → Prop}, (∀ (ds : List PV.D) (ls : List Nat) (e' : En) J Keep F' H', Step G ⟨F0, σ, H, e0⟩ ⟨F', σ, H', e'⟩ → Sim G ⟨F', σ, H', e'⟩ → (∀ i ∈ ls, ∀ ds, e'[i]? ≠ some (Cell.lk ds)) → ItOk G J Keep ds → Keep ⟨F', σ, H', ls.foldr PV.lock e'⟩ →
      PostS G W ⟨F0, σ, H, e0⟩ D (bnd (forL (fun d σ => bnd (lift (setT t d σ) σ) fun σ' _ => mb σ') ds (ls.foldr lock e')) fun r σ2 => .ok (r, ls.foldr unlock σ2)) → R J H') → tI G W ms σ H R := fun {R} k => by
    refine ⟨F0, e0, S0, ?_⟩
    cases hm : ms e0 with
    | ok p =>
      obtain ⟨⟨ds, ls⟩, e'⟩ := p
      intro J Keep F' H' st S hn it kk
      have h0 := h0
      simp only [hm, bnd_ok] at h0
      exact k ds ls e' J Keep F' H' st S hn it kk h0
    | exc x => simp only [hm, bnd_exc] at h0; exact h0
    | stuck => simp only [hm, bnd_stuck] at h0; exact h0.elim
  refine PIof fun ds ls e1 J Keep F1 H1 st1 S1 hn1 it kk h1 => ?_
  have h1 := h1.next st1
  -- what a loop's result is to be
  refine ⟨fun i m σ' H' => m = ds.length - i ∧ i ≤ ds.length ∧ ∃ F e, Step G ⟨F1, σ, H1, e1⟩ ⟨F, σ', H', e⟩ ∧ StepK G ⟨F1, σ, H1, ls.foldr PV.lock e1⟩ ⟨F, σ', H', e⟩ ∧ Sim G ⟨F, σ', H', e⟩ ∧
    PostS G W ⟨F1, σ, H1, e1⟩ D (bnd (forL (fun d σ => bnd (lift (setT t d σ) σ) fun σ' _ => mb σ') (ds.drop i) e) fun r σ2 => .ok (r, ls.foldr unlock σ2)),
    ⟨ds.length, by simp, Nat.zero_le _, F1, ls.foldr PV.lock e1, Step.locks Step.rfl', Step.rfl'.k, S1.locks, h1⟩, ?_⟩
  rintro i m σ' H' ⟨rfl, hi', F2, e2, st, sk, S, h⟩
  by_cases hlt : i < ds.length
  · refine .inr ⟨it.go ⟨F2, σ', H', e2⟩ i S (it.mono _ _ sk.f sk.lk kk) hlt, fun σ'' H'' => ds.length - (i + 1) = ds.length - (i + 1) ∧ i + 1 ≤ ds.length ∧ ∃ F e, Step G ⟨F1, σ, H1, e1⟩ ⟨F, σ'', H'', e⟩ ∧ StepK G ⟨F1, σ, H1, ls.foldr PV.lock e1⟩ ⟨F, σ'', H'', e⟩ ∧ Sim G ⟨F, σ'', H'', e⟩ ∧
      PostS G W ⟨F1, σ, H1, e1⟩ D (bnd (forL (fun d σ => bnd (lift (setT t d σ) σ) fun σ' _ => mb σ') (ds.drop (i + 1)) e) fun r σ2 => .ok (r, ls.foldr unlock σ2)), fun σ'' H'' w => ⟨ds.length - (i + 1), by omega, w⟩, fun x H3 y => ?_⟩
    obtain ⟨d, F3, hd, sv, rx⟩ := it.yld ⟨F2, σ', H', e2⟩ i x H3 S (it.mono _ _ sk.f sk.lk kk) hlt y
    have ed : ds.drop i = d :: ds.drop (i + 1) := by
      rw [List.drop_eq_getElem_cons hlt]
      rw [List.getElem?_eq_getElem hlt] at hd
      cases hd; rfl
    rw [ed] at h
    have stv := sv.step (G := G) (σ := σ') (e := e2)
    have st3 := st.trans stv
    have sk3 := sk.trans stv.k
    have S3 : Sim G ⟨F3, σ', H3, e2⟩ := sv.sim S
    cases hset : setT t d e2 with
    | exc z => exact (setT_noexc z hset).elim
    | stuck =>
      simp only [forL, hset] at h
      exact h.elim
    | ok e3 =>
      simp only [forL, hset] at h
      refine tgI S3 rx hset fun σ4 S4 st4 _ _ => ?_
      have st5 := st4 _ st3
      have sk5 := sk3.trans (st4 _ Step.rfl').k
      refine ⟨F3, e3, S4, PostS.bindP (Post := fun r => PostS G W ⟨F1, σ, H1, e1⟩ D (bnd r fun r σ2 => .ok (r, ls.foldr unlock σ2))) (k := thenS fun σ' => forL (fun d σ => bnd (lift (setT t d σ) σ) fun σ' _ => mb σ') (ds.drop (i + 1)) σ') h (fun r e' q => ?_) (fun x q => PostS.next (r := .exc x) q st5) (fun z => z) fun σ'' F' H'' e' st S' q => ⟨rfl, by omega, F', e', st5.trans st, sk5.trans st.k, S', q⟩⟩
      have q : PostS G W ⟨F1, σ, H1, e1⟩ D (.ok (.rt r, ls.foldr unlock e')) := q
      have q2 := PostS.unl (PostS.next q st5)
      exact q2
  · have e : i = ds.length := by omega
    subst e
    rw [List.drop_length] at h
    have h : PostS G W ⟨F1, σ, H1, e1⟩ D (.ok (.nx, ls.foldr unlock e2)) := h
    exact .inl ⟨it.stop ⟨F2, σ', H', e2⟩ S (it.mono _ _ sk.f sk.lk kk), PostS.now h (st.unlocks hn1) S.unlocks⟩
end
end PV
set_option Elab.async false
set_option linter.all false
set_option maxRecDepth 100000
namespace PV
open PySem PySem.Spec PyProof.Rows L2
/-! ## several except clauses, with and without a name -/
abbrev HdT := Option Nat × Value × (Addr → Value → Option Addr → TS)
def wManyA (K : PySem.W.Frag) (Wout : WX) (D : Ends) : List HdT → WX
  | [] => Wout
  | (none, c, ts) :: r => fun cls d σ H => ∃ b, PySem.W.exmOne K cls c = some b ∧ (b = true → ∀ a, H a = none → ts a cls d D σ H) ∧ (b = false → wManyA K Wout D r cls d σ H)
  | (some i, c, ts) :: r => fun cls d σ H => ∃ b, PySem.W.exmOne K cls c = some b ∧ (b = true → ∀ a, H a = none → ts a cls d { nx := fun σ' H' => D.nx (σ'.set i none) H', rt := D.rt, bk := fun σ' H' => D.bk (σ'.set i none) H', ct := fun σ' H' => D.ct (σ'.set i none) H' } (σ.set i (some (.ref a))) H) ∧
      (b = false → wManyA K Wout D r cls d σ H)
inductive HdsA (X : Cx) : List ExceptHandler → List HdT → Prop
  | nil : HdsA X [] []
  | cons {x : Str} {c : Value} {ts : Addr → Value → Option Addr → TS} {b₀ : Stmt} {suite : List Stmt} {np pos' : Pos} {hds : List ExceptHandler} {l : List HdT} (hc : Names X x c)
      (hsu : ∀ (a : Addr) (oe : Obj) (cls : Value) (d : Option Addr) (pn : List (Addr × Obj)), Zc cls d oe → (∃ vs, oe.data = .fields vs) → PSs (X.suite a ((a, oe) :: pn)) (b₀ :: suite) (ts a cls d)) (r : HdsA X hds l) :
      HdsA X (.ExceptHandler (some (.Name x np)) none (b₀ :: suite) pos' :: hds) ((none, c, ts) :: l)
  | consA {x n : Str} {i : Nat} {c : Value} {ts : Addr → Value → Option Addr → TS} {b₀ : Stmt} {suite : List Stmt} {np pos' : Pos} {hds : List ExceptHandler} {l : List HdT} (hc : Names X x c) (hi : X.N[i]? = some n) (hln : X.env.kindOf n = some .local)
      (hsu : ∀ (a : Addr) (oe : Obj) (cls : Value) (d : Option Addr) (pn : List (Addr × Obj)), Zc cls d oe → (∃ vs, oe.data = .fields vs) → PSs (X.suite a ((a, oe) :: pn)) (b₀ :: suite) (ts a cls d)) (r : HdsA X hds l) :
      HdsA X (.ExceptHandler (some (.Name x np)) (some n) (b₀ :: suite) pos' :: hds) ((some i, c, ts) :: l)
section
variable {X : Cx} {body : List Stmt} {h₀ : ExceptHandler} {hds : List ExceptHandler} {l : List HdT} {pos : Pos} {tb : WX → TS} {Wout : WX}
theorem ps_try_manyA (hs : X.stack = X.env :: X.outer) (hf : X.env.frame = some X.env.locals) (hN : X.N.Nodup) (tk : Takes X Wout)
    (hb : ∀ (W : WX) (pn : List (Addr × Obj)) (xe : Value → Shared → Prop), Takes (X.tr pn xe) W → PassesOwn (model X.prog X.w) X.A X.env xe → PSs (X.tr pn xe) body (tb W))
    (hh : HdsA X (h₀ :: hds) l) : PS X (.Try body (h₀ :: hds) [] [] pos) (fun D σ H => tb (wManyA X.K Wout D l) D σ H) := by
  refine ⟨fun pins s σ H D I h => ?_⟩
  have ok := I.ok
  have hfr : X.A.frames = some (X.env :: X.outer) := by rw [ok.frames, hs]
  refine wpAny_Try_except ?_
  refine wpAny_mono ((hb (wManyA X.K Wout D l) (X.pn ++ pins) (fun e s₁ => wpAny (model X.prog X.w) X.A (noteFrame e X.env) (fun _ s₂ => wpAny (model X.prog X.w) X.A (setFlight e none) (fun _ s₃ =>
    wpAny (model X.prog X.w) X.A (handleBy e X.env (h₀ :: hds)) (SP X pins D) X.xe s₃) X.xe s₂) X.xe s₁) (fun u s' xx => ?_) PassesOwn.looking).run [] s σ H D (I.toTry _) h) (fun f s1 hsp => ?_) (fun e s1 he => he)
  · obtain ⟨a, B, sI, pins', σ', H', cls, d, rfl, J', nb, up, sky, na, os, ag, w⟩ := xx
    have J : Inv X pins σ' H' sI := J'.ofTry ok
    have sky' : Sky B (X.env :: X.outer) a (Zc cls d) X.env.locals s'.heap := by rw [← hs]; exact sky
    show wpAny (model X.prog X.w) X.A (noteFrame (.ref a) X.env) _ _ _
    refine Sky.land Zc.steady hfr hf sky' fun h3 fl3 up3 => ?_
    have J3 : Inv X pins σ' H' { s' with heap := h3 } := J.landed nb fl3.1 (up.trans up3) os ag
    obtain ⟨oe3, vs3, he3, hz3, hd3⟩ := fl3.there
    have notFr : ∀ {h : Heap} {o : Obj} {vs : Array Value}, h.FunFrames B (X.env :: X.outer) → h.get? a = some o → o.data = .fields vs → a ∉ frs (X.env :: X.outer) := fun {h o vs} ff e dd hm => by
      obtain ⟨_, o', e', hnf⟩ := ff.mem hm
      rw [e] at e'; cases e'
      exact hnf _ dd
    have nfr := notFr fl3.2.2.1 he3 hd3
    have nL : a ≠ X.env.locals := fun z => nfr (List.mem_filterMap.mpr ⟨X.env, List.mem_cons_self, by rw [hf, z]⟩)
    have nF : a ∉ X.fs := fun hm => by
      obtain ⟨e, he, q⟩ := List.mem_filterMap.mp hm
      exact nfr (List.mem_filterMap.mpr ⟨e, List.mem_cons_of_mem _ he, q⟩)
    have S3 := J3.suite he3 hd3 na nL nF
    have LT : PySem.W.Looks (model X.prog X.w) h3 (typeOf (.ref a)) cls := fun A Q E s k q => wpAny_typeOf_ref (k _ _ he3) (by rw [hz3.1]; exact q)
    have test : ∀ {x : Str} {c : Value} {np : Pos}, Names X x c → ∀ {Q : Value → Shared → Prop} {E : Value → Shared → Prop}, Q c { s' with heap := h3 } → wpAny (model X.prog X.w) (X.A.mark (some (.ref a))) (eval (.Name x np) X.env) Q E { s' with heap := h3 } := fun {x c np} hc {Q E} q => by
      obtain ⟨hg, hdbg, hm | ⟨hm, hv, hnn⟩⟩ := hc
      · exact ld_glob (X := X.suite a ((a, oe3) :: (X.pn ++ pins))) S3 hg hm q hdbg
      · exact ld_blt (X := X.suite a ((a, oe3) :: (X.pn ++ pins))) S3 hg hm hv q hnn hdbg
    have go : ∀ {hds' : List ExceptHandler} {l' : List HdT}, HdsA X hds' l' → wManyA X.K Wout D l' cls d σ' H' →
        wpAny (model X.prog X.w) X.A (handleBy (.ref a) X.env hds') (SP X pins D) X.xe { s' with heap := h3 } := by
      intro hds' l' hk
      induction hk with
      | nil =>
        intro w
        refine wpAny_handleBy_nil ?_
        obtain ⟨k1, k2, k3, oe, vs, T, oT, ts', he, hz, hd, h1, hr⟩ := id fl3
        unfold PySem.passOn
        refine wpAny_bind (wpAny_field he hd h1 ?_)
        rw [if_neg (show ¬ ((Value.ref T == Value.none) = true) from by simp)]
        have fin : wpAny (model X.prog X.w) X.A (setFlight (.ref a) X.env.frame) (fun _ s4 => wpAny (model X.prog X.w) X.A (throw (.ref a) : Sem Flow) (SP X pins D) X.xe s4) X.xe { s' with heap := h3 } := by
          rw [hf]
          refine HandSPX.setFlight_upZ fl3 fun h4 hh4 up4 => wpAny_throw (tk _ _ ?_)
          exact ⟨a, B, sI, pins, σ', H', cls, d, rfl, J, nb, (up.trans up3).trans up4, .inr (.inr (by rw [hs]; exact hh4)), na, os, ag, w⟩
        first
          | exact wpAny_bind (wpAny_pure (wpAny_bind fin))
          | exact wpAny_bind fin
      | @cons x c ts b₀ suite np pos' hds2 l2 hc hsu r ih =>
        intro w
        obtain ⟨b, hb1, hyes, hno⟩ := w
        refine wpAny_handleBy_cons (codeAny_handlers_test ?_) (by intro q; cases q)
        have LM := PySem.W.exm_one (M := model X.prog X.w) (J3.kIn) LT hb1
        refine test hc (LM.here ?_)
        cases b with
        | true =>
          refine codeAny_handlers_suite ?_
          refine HandSPX.lands_againZ fl3 fun h4 fl4 up4 => ?_
          have J4 : Inv X pins σ' H' { s' with heap := h4 } := J.landed nb fl4.1 ((up.trans up3).trans up4) os ag
          obtain ⟨oe4, vs4, he4, hz4, hd4⟩ := fl4.there
          have S4 := J4.suite he4 hd4 na nL nF
          refine wpAny_mono ((hsu a oe4 cls d (X.pn ++ pins) hz4 ⟨_, hd4⟩).run [] _ _ H' _ S4 (hyes rfl a na)) (fun f s6 hsp => ?_) (fun _ _ z => False.elim z)
          cases f with
          | next =>
            obtain ⟨σ6, H6, S6, q6⟩ := hsp
            exact ⟨_, _, S6.unsuite ok, q6⟩
          | brk =>
            obtain ⟨σ6, H6, S6, q6⟩ := hsp
            exact ⟨_, _, S6.unsuite ok, q6⟩
          | cont =>
            obtain ⟨σ6, H6, S6, q6⟩ := hsp
            exact ⟨_, _, S6.unsuite ok, q6⟩
          | ret u =>
            obtain ⟨v6, σ6, H6, S6, r6, q6⟩ := hsp
            exact ⟨_, _, _, S6.unsuite ok, r6, q6⟩
        | false =>
          show wpAny _ X.A (handleBy (.ref a) X.env hds2) _ _ _
          exact ih (hno rfl)
      | @consA x n i c ts b₀ suite np pos' hds2 l2 hc hi hln hsu r ih =>
        intro w
        obtain ⟨b, hb1, hyes, hno⟩ := w
        have hloc : Loc X.env.scope n := .inl hln
        refine wpAny_handleBy_cons (codeAny_handlers_test ?_) (by intro q; cases q)
        have LM := PySem.W.exm_one (M := model X.prog X.w) (J3.kIn) LT hb1
        refine test hc (LM.here ?_)
        cases b with
        | true =>
          refine codeAny_handlers_suite_as ?_
          refine HandSPX.lands_againZ fl3 fun h4 fl4 up4 => ?_
          have J4 : Inv X pins σ' H' { s' with heap := h4 } := J.landed nb fl4.1 ((up.trans up3).trans up4) os ag
          obtain ⟨oe4, vs4, he4, hz4, hd4⟩ := fl4.there
          have S4 := J4.suite he4 hd4 na nL nF
          refine store_ok (X := X.suite a ((a, oe4) :: (X.pn ++ pins))) (v := .ref a) S4 hN hi hloc rfl (fun s5 S5 => ?_) (.inr hln)
          refine wpAny_mono ((hsu a oe4 cls d (X.pn ++ pins) hz4 ⟨_, hd4⟩).run [] s5 _ H' _ S5 (hyes rfl a na)) (fun f s6 hsp => ?_) (fun _ _ z => False.elim z)
          have end_ : ∀ {σ6 : L2.St} {H6 : Hp} {Q : Shared → Prop}, Inv (X.suite a ((a, oe4) :: (X.pn ++ pins))) [] σ6 H6 s6 → (∀ s7, Inv X pins (σ6.set i none) H6 s7 → Q s7) →
              wpAny (model X.prog X.w) X.A (do bindName X.env n .none; unbindBehindTheSuite X.env n pos') (fun _ s7 => Q s7) X.xe s6 := fun {σ6 H6 Q} S6 hq => gone_ok (S6.unsuite ok) hN hi hln hq
          cases f with
          | next =>
            obtain ⟨σ6, H6, S6, q6⟩ := hsp
            exact end_ S6 fun s7 J7 => ⟨_, _, J7, q6⟩
          | brk =>
            obtain ⟨σ6, H6, S6, q6⟩ := hsp
            exact end_ S6 fun s7 J7 => ⟨_, _, J7, q6⟩
          | cont =>
            obtain ⟨σ6, H6, S6, q6⟩ := hsp
            exact end_ S6 fun s7 J7 => ⟨_, _, J7, q6⟩
          | ret u =>
            obtain ⟨v6, σ6, H6, S6, r6, q6⟩ := hsp
            exact end_ S6 fun s7 J7 => ⟨_, _, _, J7, r6, q6⟩
        | false =>
          show wpAny _ X.A (handleBy (.ref a) X.env hds2) _ _ _
          exact ih (hno rfl)
    exact go hh w
  · cases f with
    | next =>
      obtain ⟨σ', H', J', q⟩ := hsp
      exact wpAny_execs_nil ⟨σ', H', J'.ofTry ok, q⟩
    | brk =>
      obtain ⟨σ', H', J', q⟩ := hsp
      exact ⟨σ', H', J'.ofTry ok, q⟩
    | cont =>
      obtain ⟨σ', H', J', q⟩ := hsp
      exact ⟨σ', H', J'.ofTry ok, q⟩
    | ret u =>
      obtain ⟨v, σ', H', J', r, q⟩ := hsp
      exact ⟨v, σ', H', J'.ofTry ok, r, q⟩
end
end PV
set_option Elab.async false
set_option linter.all false
set_option maxRecDepth 100000
namespace PV
open PySem PySem.Spec PyProof.Rows L2
section
variable {G : Gb} {W : XK} {X : Cx} {cf : CF} {lv : Nat} {c c1 : Cf} {F F' H H' : Hp} {σ : Sg} {e e' : En} {D : Ends}
/-- raise X('..') -/
theorem gS_raise {x m : Str} {k : Nat} {E : ExcI} {j : Nat} {p p2 pos pos' : Pos} (g : Gd G W cf lv X) (hE : G.P.exs[k]? = some E) (hx : E.name = x) (ho : E.fld = none) (hg : Gl X x) (hdb : (x == ("__debug__" : Str)) = false) :
    PS X (.Raise (some (.Call (.Name x p) [.Constant (.str m) j p2] [] pos')) none pos) (tS G W fun _ => .exc ⟨k, none⟩) := by
  have ek := g.fa.exs k E hE
  have q : PySem.W.excIn X.K (G.exc k) mroVE "ValueError.__new__" = true := by rw [g.kK]; exact ek.own ho
  refine PS.imp (ps_raise g.calm g.tk (pmk_own F.excBase_ValueError q (by rw [← hx]; exact ek.gl) (by rw [g.kK]; exact ek.kp) (raises_own (by rw [g.kK]; exact ek.sub) (by rw [g.kK]; exact ek.ty)) hg hdb)) fun D σ H ⟨F, e, S, h⟩ => ?_
  exact h _ none H (fun b o hb _ => hb) ⟨⟨E, hE⟩, rfl, fun a z => by cases z⟩
/-- raise X(e), X with an __init__ of its own -/
theorem gS_raise1 {x f : Str} {k : Nat} {E : ExcI} {z : Expr} {ms : En → R (List PV.D × En)} {p pos pos' : Pos} (g : Gd G W cf lv X) (hE : G.P.exs[k]? = some E) (hx : E.name = x) (hf : E.fld = some f) (hg : Gl X x) (hdb : (x == ("__debug__" : Str)) = false)
    (ha : PA X [z] (tA G W ms)) (hln : ∀ σ ds σ', ms σ = .ok (ds, σ') → ds.length = 1) (he : starEach [z] X.env = (false, eval z X.env) :: starEach [] X.env) (hpl : (backTo pos' (starEach [] X.env)).any (·.1) = false) :
    PS X (.Raise (some (.Call (.Name x p) [z] [] pos')) none pos) (tS G W fun σ => bnd (ms σ) fun ds _ => raiseD k ds) := by
  have ek := g.fa.exs k E hE
  obtain ⟨fI, fd, ps, T, iC, tI, hb, F1⟩ := g.fa.ini k E f hE hf
  rw [← g.kK] at T iC tI hb F1
  have gl : X.mg x = some (.ref (G.exc k)) := by rw [← hx]; exact ek.gl
  refine PS.imp (ps_raise g.calm g.tk (pmk_oex T iC tI F1 (g.room.mono (by omega)) hb .nil (fun _ _ _ _ _ _ _ q => by obtain ⟨_, _, _, _, _, _, _, _, _, _, _, _, z⟩ := q; exact z.elim) hg gl ha hdb he hpl)) fun D σ H ⟨F, e, S, h⟩ => ?_
  have h : PostS G W ⟨F, σ, H, e⟩ D (bnd (ms e) fun ds _ => raiseD k ds) := h
  refine ⟨F, e, S, ?_⟩
  cases hm : ms e with
  | ok q =>
    obtain ⟨ds, e1⟩ := q
    rw [hm] at h
    intro vs F1' H1 st1 S1 r1
    have hl := hln _ _ _ hm
    match ds, hl, r1, h with
    | [y], _, r1, h =>
      simp only [Reps] at r1
      obtain ⟨v, r, rfl, ry, rfl⟩ := r1
      refine ⟨by simp, fun a ha => ?_⟩
      refine ⟨a, G.exc k, v, rfl, T, by rw [g.kK]; exact (ek.xf f hf).2.2, upd_same, fun dx hdx hne => ?_⟩
      refine ⟨rfl, dx, [(f, v)], upd_same, by rw [upd_ne hne, upd_same], ?_, ?_⟩
      · rw [upd_ne hne] at hdx; exact hdx
      · have hd1 : H1 dx = none := by rw [upd_ne hne] at hdx; exact hdx
        have fr : ∀ b o, (⟨F, σ, H, e⟩ : Cf).H b = some o → ¬ (⟨F, σ, H, e⟩ : Cf).W b → (upd (del (upd (upd (upd H1 a (exo a (G.exc k) none)) dx (exd dx [(f, v)])) a (exo a (G.exc k) (some dx))) a) dx (.xd [(f, v)])) b = some o := fun b o hb hw => by
          have q := st1.frame b o hb hw
          have q : H1 b = some o := q
          have n1 : b ≠ a := fun z => by rw [z, ha] at q; cases q
          have n2 : b ≠ dx := fun z => by rw [z, hd1] at q; cases q
          rw [upd_ne n2, del_ne n1, upd_ne n1, upd_ne n2, upd_ne n1]
          exact q
        have xa : ∀ {yy : PV.D}, flat yy v → XAt G ⟨k, some yy⟩ (.ref (G.exc k)) (some dx) (upd (del (upd (upd (upd H1 a (exo a (G.exc k) none)) dx (exd dx [(f, v)])) a (exo a (G.exc k) (some dx))) a) dx (.xd [(f, v)])) := fun {yy} hfl =>
          ⟨⟨E, hE⟩, rfl, fun a' ea => by
            cases ea
            exact ⟨dx, v, rfl, by rw [upd_same, (ek.xf f hf).1], hfl⟩⟩
        cases y with
        | int i => exact h _ _ _ fr (xa (by simpa only [Rep, flat] using ry))
        | str i => exact h _ _ _ fr (xa (by simpa only [Rep, flat] using ry))
        | _ => exact h.elim
  | exc x => rw [hm] at h; exact h
  | stuck => rw [hm] at h; exact h
/-! ### try -/
inductive HdsG (G : Gb) (P : Prg) (cf : CF) (w : Nat) (X : Cx) : List ExceptHandler → Hds → Prop
  | nil : HdsG G P cf w X [] .nil
  | con {x : Str} {k : Nat} {E : ExcI} {b : Sms} {b₀ : Stmt} {suite : List Stmt} {np pos' : Pos} {hds : List ExceptHandler} {r : Hds} (hE : G.P.exs[k]? = some E) (hx : E.name = x) (hg : Gl X x) (hdb : (x == ("__debug__" : Str)) = false)
      (hsu : ∀ (a : Addr) (oe : Obj) (pn : List (Addr × Obj)), PSs (X.suite a ((a, oe) :: pn)) (b₀ :: suite) (tS G nW (exSs P cf w b))) (hr : HdsG G P cf w X hds r) :
      HdsG G P cf w X (.ExceptHandler (some (.Name x np)) none (b₀ :: suite) pos' :: hds) (.con k b r)
  | fld {x n s f : Str} {i k : Nat} {E : ExcI} {np p1 p2 p3 p4 p5 pos' : Pos} {j1 j2 : Nat} {hds : List ExceptHandler} {r : Hds} (hE : G.P.exs[k]? = some E) (hx : E.name = x) (hf : E.fld = some f) (hg : Gl X x) (hdb : (x == ("__debug__" : Str)) = false)
      (hi : X.N[i]? = some n) (hln : X.env.kindOf n = some .local) (hv : Vis X.env.scope n) (hd : (n == ("__debug__" : Str)) = false) (hcd : (n == ("__classdict__" : Str)) = false)
      (hs1 : starEach [.Constant (.str s) j1 p1, .Attribute (.Name n p2) f p3] X.env = (false, eval (.Constant (.str s) j1 p1) X.env) :: starEach [.Attribute (.Name n p2) f p3] X.env)
      (hs2 : starEach [.Attribute (.Name n p2) f p3] X.env = (false, eval (.Attribute (.Name n p2) f p3) X.env) :: starEach [] X.env) (hr : HdsG G P cf w X hds r) :
      HdsG G P cf w X (.ExceptHandler (some (.Name x np)) (some n) [.Return (some (.Tuple [.Constant (.str s) j1 p1, .Attribute (.Name n p2) f p3] j2 p4)) p5] pos' :: hds) (.fld k i s r)
/-- the reading of `return s, n.f` -/
def tXs (G : Gb) (i k : Nat) (s : Str) : Addr → Value → Option Addr → TS := fun a cls d => tRet (tTup (tCons (tC (.str s)) (tCons (tXf a cls d (G.exc k) (G.exf k) (tVar i)) tNil)))
def HdsL (G : Gb) (P : Prg) (cf : CF) (w : Nat) : Hds → List HdT
  | .nil => []
  | .con k b r => (none, .ref (G.exc k), fun _ _ _ => tS G nW (exSs P cf w b)) :: HdsL G P cf w r
  | .fld k i s r => (some i, .ref (G.exc k), tXs G i k s) :: HdsL G P cf w r
theorem xs_suite {n s f : Str} {i k : Nat} {a : Addr} {oe : Obj} {cls : Value} {d : Option Addr} {pn : List (Addr × Obj)} {p1 p2 p3 p4 p5 : Pos} {j1 j2 : Nat} (T : xfB X.K (G.exc k) = true) (hno : PySem.W.findIn X.K (.ref (G.exc k)) f = some none) (ef : G.exf k = f) (hz : Zc cls d oe) (hfl : ∃ vs, oe.data = .fields vs)
    (hi : X.N[i]? = some n) (hv : Vis X.env.scope n) (hd : (n == ("__debug__" : Str)) = false) (hcd : (n == ("__classdict__" : Str)) = false)
    (hs1 : starEach [.Constant (.str s) j1 p1, .Attribute (.Name n p2) f p3] X.env = (false, eval (.Constant (.str s) j1 p1) X.env) :: starEach [.Attribute (.Name n p2) f p3] X.env)
    (hs2 : starEach [.Attribute (.Name n p2) f p3] X.env = (false, eval (.Attribute (.Name n p2) f p3) X.env) :: starEach [] X.env) :
    PSs (X.suite a ((a, oe) :: pn)) [.Return (some (.Tuple [.Constant (.str s) j1 p1, .Attribute (.Name n p2) f p3] j2 p4)) p5] (tXs G i k s a cls d) := by
  have pv : PE (X.suite a ((a, oe) :: pn)) (.Name n p2) (tVar i) := pe_var (X := X.suite a ((a, oe) :: pn)) hi hv hd hcd
  have px : PE (X.suite a ((a, oe) :: pn)) (.Attribute (.Name n p2) f p3) (tXf a cls d (G.exc k) f (tVar i)) := pe_xf (xfB_ok T) hno hz hfl pv (attrBase rfl)
  unfold tXs
  rw [ef]
  exact pss_one (ps_ret (pe_tup (pa_cons (X := X.suite a ((a, oe) :: pn)) pe_str (pa_cons px pa_nil hs2) hs1)))
theorem HdsG.ok {P : Prg} {w : Nat} (g : Gd G W cf lv X) : ∀ {hds : List ExceptHandler} {hs : Hds}, HdsG G P cf w X hds hs → HdsA X hds (HdsL G P cf w hs)
  | _, _, .nil => .nil
  | _, _, .con hE hx hg hdb hsu hr => .cons ⟨hg, hdb, .inl (by rw [← hx]; exact (g.fa.exs _ _ hE).gl)⟩ (fun a oe cls d pn _ _ => hsu a oe pn) (hr.ok g)
  | _, _, .fld hE hx hf hg hdb hi hln hv hd hcd hs1 hs2 hr => by
    have ek := g.fa.exs _ _ hE
    obtain ⟨f1, f2, f3⟩ := ek.xf _ hf
    exact .consA ⟨hg, hdb, .inl (by rw [← hx]; exact ek.gl)⟩ hi hln (fun a oe cls d pn hz hfl => xs_suite (by rw [g.kK]; exact f2) (by rw [g.kK]; exact f3) f1 hz hfl hi hv hd hcd hs1 hs2) (hr.ok g)
theorem flat_rep {a : PV.D} {v : V} (h : flat a v) : Rep G F a v := by
  cases a <;> simp only [flat] at h <;> simp only [Rep] <;> exact h
/-- what follows an exception that a clause catches: a value, in a heap that has grown -/
theorem rt_of {c2 : Cf} {r : Vr} {d : PV.D} {H1 : Hp} (h : PostS G W c D (.ok (.rt (.sh d), []))) (fr : ∀ b o, c.H b = some o → ¬ c.W b → H1 b = some o) {v : V} {F' H' : Hp} (f1 : Same c.F F') (f2 : Same F' H') (k : Same H1 H') (nw : ∀ b, c.F b = none → F' b ≠ none → H1 b = none) (rv : Rep G F' d v) : D.rt v H' := by
  refine h v F' H' f1 f2 (fun b o hb hw => k b o (fr b o hb hw)) (fun b hb hb' => ?_) (fun i x t hx _ => by simp at hx) rv
  by_cases hw : c.W b
  · exact .inr hw
  · left
    cases q : c.H b with
    | none => rfl
    | some o =>
      have z := nw b hb hb'
      rw [fr b o q hw] at z; cases z
theorem hdsI {P : Prg} {w : Nat} {x : Exn} {cls : Value} {d : Option Addr} {H1 : Hp} (g : Gd G W cf lv X) (S : Sim G ⟨F, σ, H, e⟩) (fr : ∀ b o, H b = some o → ¬ Cf.W ⟨F, σ, H, e⟩ b → H1 b = some o) (xa : XAt G x cls d H1) {σ' : Sg} (hl : σ'.length = X.N.length) (hl' : e.length = X.N.length) :
    ∀ {hds : List ExceptHandler} {hs : Hds}, HdsG G P cf w X hds hs → PostS G W ⟨F, σ, H, e⟩ D (exH P cf w hs x e) → wManyA X.K (fun c d _ H => W c d H) D (HdsL G P cf w hs) cls d σ' H1
  | _, _, .nil, h => h cls d H1 fr xa
  | _, _, .con (k := k) (b := b) (r := r) hE hx hg hdb hsu hr, h => by
    obtain ⟨E', hE'⟩ := xa.ex
    have ek := g.fa.exs _ _ hE
    refine ⟨decide (k = x.c), by rw [g.kK, xa.cls]; exact ek.exm _ _ hE', fun hb a ha => ?_, fun hb => ?_⟩
    · have hb : k = x.c := of_decide_eq_true hb
      simp only [exH, if_pos hb] at h
      have sF : Same F H1 := fun b o hb => fr b o (S.sub b o hb) fun wv => by
        have z := (S.wh wv).2
        have hb : F b = some o := hb
        rw [show (Cf.mk F σ H e).F b = F b from rfl, hb] at z; cases z
      have nw : ∀ b, ¬ Cf.W ⟨F, σ', H1, e.map fun _ => .un⟩ b := fun b ⟨i, y, h1, h2, _⟩ => by
        have h1 : (e.map fun _ => Cell.un)[i]? = some y := h1
        rw [List.getElem?_map, Option.map_eq_some_iff] at h1
        obtain ⟨_, _, rfl⟩ := h1
        cases h2
      refine ⟨F, e.map fun _ => .un, ⟨by simp [hl, hl'], sF, fun i y hy => ?_, fun i j y z a h1 h2 o1 => ?_⟩, ?_⟩
      · have hy : (e.map fun _ => Cell.un)[i]? = some y := hy
        rw [List.getElem?_map, Option.map_eq_some_iff] at hy
        obtain ⟨_, _, rfl⟩ := hy
        trivial
      · have h1 : (e.map fun _ => Cell.un)[i]? = some y := h1
        rw [List.getElem?_map, Option.map_eq_some_iff] at h1
        obtain ⟨_, _, rfl⟩ := h1
        cases o1
      · cases hq : exSs P cf w b (e.map fun _ => .un) with
        | ok p =>
          obtain ⟨f, e1⟩ := p
          rw [hq] at h
          cases f with
          | nx => exact h.elim
          | rt r =>
            cases r with
            | ow ds => exact h.elim
            | sh dd =>
              intro v F2 H2 f1 f2 fr2 nw2 tg vr
              exact rt_of (c2 := ⟨F, σ, H, e⟩) (r := .sh dd) h fr f1 f2 (fun b o hb => fr2 b o hb (nw b)) (fun b hb hb' => (nw2 b hb hb').elim id fun z => (nw b z).elim) vr
        | exc y => rw [hq] at h; exact h.elim
        | stuck => rw [hq] at h; exact h.elim
    · have hb : ¬ k = x.c := of_decide_eq_false hb
      simp only [exH, if_neg hb] at h
      exact hdsI g S fr xa hl hl' hr h
  | _, _, .fld (i := i) (k := k) (s := s) (r := r) hE hx hf hg hdb hi hln hv hd hcd hs1 hs2 hr, h => by
    obtain ⟨E', hE'⟩ := xa.ex
    have ek := g.fa.exs _ _ hE
    refine ⟨decide (k = x.c), by rw [g.kK, xa.cls]; exact ek.exm _ _ hE', fun hb a ha => ?_, fun hb => ?_⟩
    · have hb : k = x.c := of_decide_eq_true hb
      simp only [exH, if_pos hb] at h
      cases hq : x.arg with
      | none => rw [hq] at h; exact h.elim
      | some aD =>
        rw [hq] at h
        obtain ⟨dd, v, rfl, q1, q2⟩ := xa.arg aD hq
        have hil : i < σ'.length := by rw [hl]; exact (List.getElem?_eq_some_iff.mp hi).1
        show ∃ y, (σ'.set i (some (.ref a)))[i]? = some (some y) ∧ (y = .ref a ∧ cls = .ref (G.exc k) ∧ _)
        refine ⟨.ref a, List.getElem?_set_self hil, rfl, by rw [hb]; exact xa.cls, dd, [(G.exf x.c, v)], v, rfl, q1, by rw [hb]; simp [List.lookup], ?_⟩
        refine ⟨by show 2 ≤ sizeLine; decide, fun p hp => ?_⟩
        have sF : Same F H1 := fun b o hb => fr b o (S.sub b o hb) fun wv => by
          have z := (S.wh wv).2
          have hb : F b = some o := hb
          rw [show (Cf.mk F σ H e).F b = F b from rfl, hb] at z; cases z
        have st := StepV.new1 (o := .tup [.str s, v]) sF hp
        refine rt_of (c2 := ⟨F, σ, H, e⟩) (r := .sh .non) h fr st.f st.sub st.h st.new ?_
        simp only [Rep]
        exact ⟨p, [.str s, v], rfl, .inl (.inl upd_same), .cons (by simp only [Rep]) (.cons (flat_rep q2) .nil)⟩
    · have hb : ¬ k = x.c := of_decide_eq_false hb
      simp only [exH, if_neg hb] at h
      exact hdsI g S fr xa hl hl' hr h
theorem gS_try {P : Prg} {w : Nat} {body : List Stmt} {h₀ : ExceptHandler} {hds : List ExceptHandler} {hd : Hds} {pos : Pos} {mb : En → R (Fl × En)} (g : Gd G W cf lv X) (hs : X.stack = X.env :: X.outer) (hf : X.env.frame = some X.env.locals)
    (hb : ∀ (W' : XK) (pn : List (Addr × Obj)) (xe : Value → Shared → Prop), Takes (X.tr pn xe) (fun c d _ H => W' c d H) → PassesOwn (model X.prog X.w) X.A X.env xe → PSs (X.tr pn xe) body (tS G W' mb)) (hh : HdsG G P cf w X (h₀ :: hds) hd) :
    PS X (.Try body (h₀ :: hds) [] [] pos) (tS G W fun σ => match mb σ with
      | .ok r => .ok r
      | .exc x => exH P cf w hd x σ
      | .stuck => .stuck) := by
  have p := ps_try_manyA (pos := pos) hs hf g.nd g.tk (tb := fun W => tS G (fun cls d H => ∀ σ : Sg, σ.length = X.N.length → W cls d σ H) mb) (fun W pn xe tk po => hb _ pn xe (fun u s' ⟨a, B, sI, pins, σ, H, cls, d, e, I, nb, up, sky, na, os, ag, w⟩ =>
    tk u s' ⟨a, B, sI, pins, σ, H, cls, d, e, I, nb, up, sky, na, os, ag, w σ I.len⟩) po) (hh.ok g)
  refine ⟨fun pins s σ H D I h => p.run pins s σ H D I ?_⟩
  obtain ⟨F, e, S, h⟩ := h
  refine ⟨F, e, S, ?_⟩
  cases hm : mb e with
  | ok r =>
    simp only [hm] at h
    obtain ⟨f, e'⟩ := r
    cases f <;> exact h
  | exc x =>
    simp only [hm] at h
    intro cls d H1 fr xa σ' hl
    have hl' : e.length = X.N.length := by
      have : e.length = σ.length := S.len
      rw [this, I.len]
    exact hdsI g S fr xa hl hl' hh h
  | stuck => simp only [hm] at h; exact h.elim
end
end PV
set_option Elab.async false
set_option linter.all false
set_option maxRecDepth 100000
set_option maxHeartbeats 4000000
namespace HT
open PySem PySem.Spec PyProof.Rows L2
section
variable {prog : Program} {w : World} {A : Around} {E : Value → Shared → Prop} {s : Shared}
theorem adjust_rev (n : Nat) : Builtin.Slice.sliceAdjust none none (-1) (n : Int) = ((n : Int) - 1, -1) := rfl
theorem places_rev (n : Nat) : Builtin.Slice.slicePlaces ((n : Int) - 1) (-1) (-1) = n := by
  unfold Builtin.Slice.slicePlaces
  have h1 : ¬ ((-1 : Int) > 0) := by omega
  simp only [h1, if_false]
  rw [show -(-1 : Int) = 1 from rfl, Int.ediv_one]
  split <;> omega
theorem sliceApplied_rev {sl : Addr} {vl vu vs : Value} {n : Nat} {Q : Int × Int × Nat → Shared → Prop} (hs : s.heap.IsSliceOf sl vl vu vs) (pl : IsPart vl none) (pu : IsPart vu none) (ps : IsPart vs (some (-1)))
    (h : Q ((n : Int) - 1, -1, n) s) : wpAny (model prog w) A (Builtin.Slice.sliceApplied (.ref sl) (pure (n : Int))) Q E s := by
  obtain ⟨os, hos, hcs, hds⟩ := id hs
  unfold Builtin.Slice.sliceApplied Builtin.Slice.sliceFields
  refine wpAny_bind (wpAny_bind (wpAny_field hos hds (x := vl) rfl (wpAny_bind (wpAny_field hos hds (x := vu) rfl (wpAny_bind (wpAny_field hos hds (x := vs) rfl (wpAny_pure ?_)))))))
  refine wpAny_bind (slicePart_ ps ?_)
  show wpAny _ _ (if ((-1 : Int) == 0) = true then _ else _) _ _ s
  rw [if_neg (by decide)]
  refine wpAny_bind (slicePart_ pl (wpAny_bind (slicePart_ pu (wpAny_bind (wpAny_pure ?_)))))
  show wpAny _ _ (match Builtin.Slice.sliceAdjust none none (-1) (n : Int) with | (lo, hi) => pure (lo, (-1 : Int), Builtin.Slice.slicePlaces lo hi (-1))) _ _ s
  rw [adjust_rev n]
  show wpAny _ _ (pure ((n : Int) - 1, (-1 : Int), Builtin.Slice.slicePlaces ((n : Int) - 1) (-1) (-1))) _ _ s
  rw [places_rev]
  exact wpAny_pure h
theorem fm_congr {α β : Type} {f g : α → Option β} : ∀ {l : List α}, (∀ a, a ∈ l → f a = g a) → l.filterMap f = l.filterMap g
  | [], _ => rfl
  | a :: l, h => by
    rw [List.filterMap_cons, List.filterMap_cons, h a (List.mem_cons_self ..), fm_congr fun b hb => h b (List.mem_cons_of_mem _ hb)]
theorem pick_rev (xs : Array Value) : ((List.range xs.size).filterMap fun (m : Nat) => xs[((xs.size : Int) - 1 + (m : Int) * (-1)).toNat]?).toArray = xs.toList.reverse.toArray := by
  congr 1
  have e : ∀ m, m ∈ List.range xs.size → xs[((xs.size : Int) - 1 + (m : Int) * (-1)).toNat]? = xs.toList.reverse[m]? := fun m hm => by
    have hm := List.mem_range.mp hm
    have : ((xs.size : Int) - 1 + (m : Int) * (-1)).toNat = xs.size - 1 - m := by omega
    rw [this, List.getElem?_reverse (by simpa using hm)]
    simp
  have hl : xs.size = xs.toList.reverse.length := by simp
  rw [fm_congr e, hl]
  generalize xs.toList.reverse = l
  clear e hl
  induction l with
  | nil => rfl
  | cons a l ih =>
    rw [List.length_cons, List.range_succ_eq_map, List.filterMap_cons, List.filterMap_map]
    simp only [List.getElem?_cons_zero]
    congr 1
theorem getItem_tuple_rev {t sl : Addr} {items : Array Value} {vl vu vs : Value} {Q : Value → Shared → Prop} (ht : IsTup s.heap t items) (hs : s.heap.IsSliceOf sl vl vu vs) (pl : IsPart vl none) (pu : IsPart vu none) (ps : IsPart vs (some (-1)))
    (h : Q (.ref s.heap.objs.size) { s with heap := s.heap.push { cls := .type "tuple", data := .seq items.toList.reverse.toArray } })
    (hsz : items.size ≤ sizeLine) : wpAny (model prog w) A (getItem (.ref t) (.ref sl)) Q E s := by
  have htake : sizeOk (.seq items.toList.reverse.toArray) := by
    show items.toList.reverse.toArray.size ≤ sizeLine
    rw [List.size_toArray, List.length_reverse, Array.length_toList]
    exact hsz
  obtain ⟨os, hos, hcs, hds⟩ := id hs
  have hTs : s.TypeIs (.ref sl) "slice" := ⟨os, hos, hcs⟩
  unfold getItem
  try with_reducible refine wpAny_holding ?_
  first | refine wpAny_bind (wpAny_pure ?_) | skip
  refine wpAny_bind (wpAny_sequenceKey ht.typeIs (by decide) ?_)
  refine wpAny_bind (wpAny_callSpecial?_slot (name := Str.ofString "__getitem__") ht.typeIs PyProof.Rows.slot_tuple_getitem
    (wpAny_call_entry PyProof.Rows.slot_tuple_getitem ht.typeIs entry_tuple_getitem ?_ (args_tuple_getitem _ _)))
  show wpAny _ _ (Builtin.Tuple.tupleItemsOf (.ref t) >>= _) _ _ s
  refine wpAny_bind (tupleItemsOf_ ht ?_)
  refine wpAny_bind (wpAny_typeOf hTs ?_)
  rw [if_pos (by decide)]
  refine wpAny_bind (sliceApplied_rev hs pl pu ps ?_)
  have hno : ¬ ((((items.size : Int) - 1) == 0 && (-1 : Int) == 1 && items.size == items.size) = true) := by
    rw [show ((-1 : Int) == 1) = false from rfl]
    simp
  show wpAny _ _ (if (((items.size : Int) - 1) == 0 && (-1 : Int) == 1 && items.size == items.size) = true then _ else _) _ _ s
  rw [if_neg hno, pick_rev]
  first
    | exact wpAny_bind (m := Builtin.Tuple.tupleExact _) (wpAny_newObj_type (wpAny_pure ⟨_, rfl, wpAny_pure h⟩) htake)
    | exact wpAny_bind (m := Builtin.Tuple.tupleExact _) (wpAny_newObj_type (wpAny_bind (wpAny_pure (wpAny_pure ⟨_, rfl, wpAny_pure h⟩))) htake)
    | exact wpAny_bind (wpAny_bind (m := Builtin.Tuple.tupleExact _) (wpAny_newObj_type (wpAny_pure (wpAny_pure ⟨_, rfl, wpAny_pure h⟩)) htake))
    | exact wpAny_bind (wpAny_bind (m := Builtin.Tuple.tupleExact _) (wpAny_newObj_type (wpAny_pure ⟨_, rfl, wpAny_pure h⟩) htake))
end
end HT
namespace PV
open PySem PySem.Spec PyProof.Rows L2
section
variable {X : Cx}
def tRevA (K : PySem.W.Frag) (te : TE) : TE := fun σ H Q => te σ H fun x H1 => ∃ a xs, x = .ref a ∧ ((SqL K H1 a xs ∧ ∀ p, H1 p = none → Q (.ref p) (upd H1 p (.lst xs.reverse))) ∨ (SqT K H1 a xs ∧ ∀ p, H1 p = none → Q (.ref p) (upd H1 p (.tup xs.reverse))))
theorem pe_revA {e : Expr} {te : TE} {k : Nat} {p1 p2 p3 pos : Pos} (he : PE X e te) : PE X (.Subscript e (.Slice none none (some (.UnaryOp .USub (.Constant (.int 1) k p1) p2)) p3) pos) (tRevA X.K te) := by
  refine ⟨fun pins s σ H Q I h => ?_⟩
  refine Subscript_ (thn (he.run pins s σ H _ I h) fun v s1 ⟨x, H1, I1, r1, q1⟩ => ?_)
  obtain ⟨a, xs, ex, hx⟩ := q1
  subst ex
  cases r1
  have hst : PO X (some (.UnaryOp .USub (.Constant (.int 1) k p1) p2)) (tPart (tUn (rU fun i => .int (-i)) (tC (.int 1)))) := po_some (pe_un un_neg pe_int)
  refine wpAny_Slice (thn (po_none.run pins s1 σ H1 (fun o H2 => o = none ∧ H2 = H1) I1 ⟨rfl, rfl⟩) fun vl s2 ⟨l, H2, I2, pl, el, e2⟩ => ?_)
  subst el e2
  refine thn (po_none.run pins s2 σ H2 (fun o H3 => o = none ∧ H3 = H2) I2 ⟨rfl, rfl⟩) fun vu s3 ⟨u, H3, I3, pu, eu, e3⟩ => ?_
  subst eu e3
  refine thn (hst.run pins s3 σ H3 (fun o H4 => o = some (-1) ∧ H4 = H3) I3 ⟨1, rfl, -1, rfl, rfl, rfl⟩) fun vs s4 ⟨o, H4, I4, ps, eo, e4⟩ => ?_
  subst eo e4
  have I5 : Inv X pins σ H4 { s4 with heap := s4.heap.push { cls := .type "slice", data := .fields #[vl, vu, vs] } } := I4.kept (t' := s4.toks) fun b ob q => Heap.get?_push_of_some _ q
  show wpAny (model X.prog X.w) X.A (subscriptTail e (.Slice none none (some (.UnaryOp .USub (.Constant (.int 1) k p1) p2)) p3) (.ref a) (.ref s4.heap.objs.size)) (EP X pins σ Q) X.xe { s4 with heap := s4.heap.push { cls := .type "slice", data := .fields #[vl, vu, vs] } }
  rcases hx with ⟨hx, q⟩ | ⟨hx, q⟩
  · obtain ⟨its, r, ht, hz⟩ := I5.list hx
    have hlen := r.length
    refine tail_any (ops := [.ref a, .ref s4.heap.objs.size]) ht.isList.typeIs (PySem.slot_list_getitem.lookup) ?_ (by with_unfolding_all rfl)
    refine wpAny_getItem_list_slice ht.isList (Heap.IsSliceOf.new _ vl vu vs) pl pu ps (by decide) ?_ (by rw [List.size_toArray]; omega)
    rw [PySem.W.krv_pick]
    refine ⟨.ref _, _, I5.laid (t' := s4.toks) (o := .lst xs.reverse) (fun b ob q => Heap.get?_push_of_some _ q) (Nat.le_refl _) ?_, rfl, q _ (I5.hok.fresh (Nat.le_refl _))⟩
    exact ⟨by rw [List.length_reverse]; exact hz, _, 0, r.reverse, Heap.get?_push_size _ rfl⟩
  · obtain ⟨its, r, ht, hz⟩ := I5.tuple hx
    have hlen := r.length
    refine tail_any (ops := [.ref a, .ref s4.heap.objs.size]) ht.typeIs (PyProof.Rows.slot_tuple_getitem.lookup) ?_ (by with_unfolding_all rfl)
    refine HT.getItem_tuple_rev ht (Heap.IsSliceOf.new _ vl vu vs) pl pu ps ?_ (by rw [List.size_toArray]; omega)
    refine ⟨.ref _, _, I5.laid (t' := s4.toks) (o := .tup xs.reverse) (fun b ob q => Heap.get?_push_of_some _ q) (Nat.le_refl _) ?_, rfl, q _ (I5.hok.fresh (Nat.le_refl _))⟩
    exact ⟨by rw [List.length_reverse]; exact hz, _, r.reverse, IsTup.new _ _⟩
end
end PV
set_option Elab.async false
set_option linter.all false
set_option maxRecDepth 100000
namespace PV
open PySem PySem.Spec PyProof.Rows L2
section
variable {G : Gb} {W : XK} {X : Cx} {cf : CF} {lv : Nat} {c c1 : Cf} {F F' H H' : Hp}
/-! ## plain data are compared -/
mutual
theorem dp_rep (S : Same F H) : ∀ {d : D} {p : PyData} {v : V}, toPD d = some p → Rep G F d v → Dp G.K H v p
  | .non, p, v, h, r => by simp only [toPD] at h; simp only [Rep] at r; cases h; subst r; exact .non
  | .bl b, p, v, h, r => by simp only [toPD] at h; simp only [Rep] at r; cases h; subst r; exact .bl b
  | .int i, p, v, h, r => by simp only [toPD] at h; simp only [Rep] at r; cases h; subst r; exact .int i
  | .str s, p, v, h, r => by simp only [toPD] at h; simp only [Rep] at r; cases h; subst r; exact .str s
  | .tup ds, p, v, h, r => by
    simp only [toPD, Option.map_eq_some_iff] at h
    simp only [Rep] at r
    obtain ⟨ps, h1, rfl⟩ := h
    obtain ⟨a, vs, rfl, q1, q2⟩ := r
    exact .tup (sqT_same S q1) (dp_reps S h1 q2)
  | .lst ds, p, v, h, r => by
    simp only [toPD, Option.map_eq_some_iff] at h
    simp only [Rep] at r
    obtain ⟨ps, h1, rfl⟩ := h
    obtain ⟨a, vs, rfl, q1, q2⟩ := r
    exact .lst (.inl (.inl (S _ _ q1))) (dp_reps S h1 q2)
  | .obj _ _, _, _, h, _ => by simp only [toPD] at h; cases h
  | .fn _, _, _, h, _ => by simp only [toPD] at h; cases h
  | .dic, _, _, h, _ => by simp only [toPD] at h; cases h
  | .ro _, _, _, h, _ => by simp only [toPD] at h; cases h
theorem dp_reps (S : Same F H) : ∀ {ds : List D} {ps : List PyData} {vs : List V}, toPDs ds = some ps → Reps G F ds vs → DpAll G.K H vs ps
  | [], ps, vs, h, r => by simp only [toPDs] at h; simp only [Reps] at r; cases h; subst r; exact .nil
  | d :: ds, ps, vs, h, r => by
    simp only [toPDs] at h
    simp only [Reps] at r
    obtain ⟨v, vr, rfl, r1, r2⟩ := r
    split at h
    · rename_i p ps' e1 e2
      cases h
      exact .cons (dp_rep S e1 r1) (dp_reps S e2 r2)
    · cases h
end
theorem dp_rd {d : D} {p : PyData} {v : V} (S : Same F H) (h : toPD d = some p) (r : Rd2 G F H d v) : Dp G.K H v p := by
  rcases r with r | ⟨ds, a, rfl, rfl, vs, q1, q2, q3⟩
  · exact dp_rep S h r
  · simp only [toPD, Option.map_eq_some_iff] at h
    obtain ⟨ps, h1, rfl⟩ := h
    exact .lst (.inl (.inl q1)) (dp_reps S h1 q3)
theorem opr_eq (hK : X.K = G.K) (hu : X.A.units + 64 < cLine) (own : OwnEq G W X (compareOp .Eq) (blR (cmpD G.P cf .eq))) : OpR X (compareOp .Eq) (r2D G W (blR (cmpD G.P cf .eq))) := by
  intro pins s σ H x y v u Q I rx ry ⟨F, a, b, S, ha, hb, h⟩
  cases hp : plainEq a b with
  | none => exact own pins s σ H x y v u Q I rx ry ⟨F, a, b, S, ha, hb, hp, h⟩
  | some r =>
    simp only [blR, cmpD, eqT, eqN, hp] at h
    unfold plainEq at hp
    split at hp
    · rename_i p q e1 e2
      cases hp
      by_cases hs : SeqAt.shaped p = true ∧ SeqAt.shaped q = true
      · simp only [hs, and_self, if_true] at h
        exact op_eqD hu pins s σ H x y v u Q I rx ry ⟨p, q, by rw [hK]; exact dp_rd S e1 ha, by rw [hK]; exact dp_rd S e2 hb, hs.1, hs.2, PostV.bl S h⟩
      · rw [if_neg hs] at h; exact False.elim h
    · cases hp
theorem opr_ne (hK : X.K = G.K) (hu : X.A.units + 64 < cLine) (own : OwnEq G W X (compareOp .NotEq) (blR (cmpD G.P cf .ne))) : OpR X (compareOp .NotEq) (r2D G W (blR (cmpD G.P cf .ne))) := by
  intro pins s σ H x y v u Q I rx ry ⟨F, a, b, S, ha, hb, h⟩
  cases hp : plainEq a b with
  | none => exact own pins s σ H x y v u Q I rx ry ⟨F, a, b, S, ha, hb, hp, h⟩
  | some r =>
    simp only [blR, cmpD, eqT, eqN, hp] at h
    unfold plainEq at hp
    split at hp
    · rename_i p q e1 e2
      cases hp
      by_cases hs : SeqAt.shaped p = true ∧ SeqAt.shaped q = true
      · simp only [hs, and_self, if_true] at h
        exact op_neD hu pins s σ H x y v u Q I rx ry ⟨p, q, by rw [hK]; exact dp_rd S e1 ha, by rw [hK]; exact dp_rd S e2 hb, hs.1, hs.2, PostV.bl S h⟩
      · rw [if_neg hs] at h; exact False.elim h
    · cases hp
/-- `in` where not all is plain -/
def OwnMem (G : Gb) (W : XK) (X : Cx) (f : Value → Value → Sem Value) (m : D → D → R Vr) : Prop :=
  OpR X f (fun x y H Q => ∃ F a b, Same F H ∧ Rd2 G F H a x ∧ Rd2 G F H b y ∧ plainMem a b = none ∧ PostV G W F H Q (m a b))
theorem opr_mem (hK : X.K = G.K) (hu : X.A.units + 65 < cLine) (own : OwnMem G W X (compareOp .In) (blR (cmpD G.P cf .mem))) : OpR X (compareOp .In) (r2D G W (blR (cmpD G.P cf .mem))) := by
  intro pins s σ H x y v u Q I rx ry ⟨F, a, b, S, ha, hb, h⟩
  cases hp : plainMem a b with
  | none => exact own pins s σ H x y v u Q I rx ry ⟨F, a, b, S, ha, hb, hp, h⟩
  | some r =>
    simp only [blR, cmpD, memT, hp] at h
    unfold plainMem at hp
    split at hp
    · rename_i p ds h1 h2
      cases hp
      by_cases hs : SeqAt.shaped p = true ∧ SeqAt.shaped (.list ds) = true
      · rw [if_pos hs] at h
        exact op_inD hu pins s σ H x y v u Q I rx ry ⟨p, ds, by rw [hK]; exact dp_rd S h1 ha, by rw [hK]; exact dp_rd S h2 hb, hs.1, hs.2, PostV.bl S h⟩
      · rw [if_neg hs] at h; exact False.elim h
    · cases hp
theorem opr_nmem (hK : X.K = G.K) (hu : X.A.units + 65 < cLine) (own : OwnMem G W X (compareOp .NotIn) (blR (cmpD G.P cf .nmem))) : OpR X (compareOp .NotIn) (r2D G W (blR (cmpD G.P cf .nmem))) := by
  intro pins s σ H x y v u Q I rx ry ⟨F, a, b, S, ha, hb, h⟩
  cases hp : plainMem a b with
  | none => exact own pins s σ H x y v u Q I rx ry ⟨F, a, b, S, ha, hb, hp, h⟩
  | some r =>
    simp only [blR, cmpD, memT, hp] at h
    unfold plainMem at hp
    split at hp
    · rename_i p ds h1 h2
      cases hp
      by_cases hs : SeqAt.shaped p = true ∧ SeqAt.shaped (.list ds) = true
      · rw [if_pos hs] at h
        exact op_notInD hu pins s σ H x y v u Q I rx ry ⟨p, ds, by rw [hK]; exact dp_rd S h1 ha, by rw [hK]; exact dp_rd S h2 hb, hs.1, hs.2, PostV.bl S h⟩
      · rw [if_neg hs] at h; exact False.elim h
    · cases hp
theorem gE_rev {ex : Expr} {k : Nat} {p1 p2 p3 pos : Pos} {ma : En → R (Vl × En)} (hK : X.K = G.K) (he : PE X ex (tE G W ma)) : PE X (.Subscript ex (.Slice none none (some (.UnaryOp .USub (.Constant (.int 1) k p1) p2)) p3) pos)
    (tE G W fun σ => bnd (ma σ) fun va σ => bnd (pk (hold va) σ) fun x σ => lift ((revD x).map vr) σ) := by
  refine PE.imp (pe_revA he) fun σ H Q ⟨F, e, S, h⟩ => ?_
  refine oneI (Post := fun c r => PostE G W c Q r) PostE.hx (fun _ z => z) (fun h s e => PostE.next h s e) S h fun F1 H1 e1 x v st S1 rx h1 => ?_
  cases x with
  | lst ds =>
    obtain ⟨a, vs, rfl, q1, q2⟩ : ∃ a vs, v = .ref a ∧ H1 a = some (.lst vs) ∧ Reps G F1 ds vs := by
      rcases rx with rx | ⟨ds', b, z, rfl, us, p1, _, p2⟩
      · simp only [Rep] at rx
        obtain ⟨b, us, rfl, p1, p2⟩ := rx
        exact ⟨b, us, rfl, S1.sub b _ p1, p2⟩
      · cases z
        exact ⟨b, us, rfl, p1, p2⟩
    refine ⟨a, vs, rfl, .inl ⟨.inl (.inl q1), fun p hp => ?_⟩⟩
    have h2 := PostE.lift S1 h1
    have st2 := StepV.new0 (o := .lst vs.reverse) S1.sub hp
    have fp : F1 p = none := by
      cases q : F1 p with
      | none => rfl
      | some o =>
        have z : H1 p = some o := S1.sub p o q
        rw [hp] at z; cases z
    exact h2 (.ref p) _ _ st2 ⟨p, rfl, ⟨vs.reverse, upd_same, fp, q2.reverse⟩, hp⟩
  | tup ds =>
    have rx : Rep G F1 (.tup ds) v := by
      rcases rx with rx | ⟨ds', b, z, _⟩
      · exact rx
      · cases z
    simp only [Rep] at rx
    obtain ⟨a, vs, rfl, p1, p2⟩ := rx
    refine ⟨a, vs, rfl, .inr ⟨by rw [hK]; exact sqT_same S1.sub p1, fun p hp => ?_⟩⟩
    have h2 := PostE.lift S1 h1
    have st2 := StepV.new1 (o := .tup vs.reverse) S1.sub hp
    refine h2 (.ref p) _ _ st2 ?_
    show Rep G _ (.tup ds.reverse) (.ref p)
    simp only [Rep]
    exact ⟨p, vs.reverse, rfl, .inl (.inl upd_same), p2.reverse.mono st2.f⟩
  | _ => exact h1.elim
/-! ### list(range(..)), tuple(range(..)) -/
theorem rg_reps {lo : Int} : ∀ n : Nat, Reps G F ((List.range n).map fun (i : Nat) => D.int (lo + (i : Int))) ((List.range n).map fun i => V.int (lo + (i : Nat)))
  | 0 => Reps.nil
  | n + 1 => by
    rw [List.range_succ, List.map_append, List.map_append]
    exact (rg_reps n).append (.cons (by simp only [Rep]) .nil)
def rgO (l : Bool) (a b : Int) : HO := match l with
  | true => .lst (rgV a b)
  | false => .tup (rgV a b)
theorem rgEnd {l : Bool} {lo hi : Int} {σ : Sg} {e : En} {Q : VK} (S : Sim G ⟨F, σ, H, e⟩) (h : PostE G W ⟨F, σ, H, e⟩ Q (lift ((rgR l lo hi).map vr) e)) :
    RgOk lo hi ∧ ∀ q, H q = none → Q (.ref q) (upd H q (rgO l lo hi)) := by
  have h2 := PostE.lift S h
  unfold rgR at h2
  split at h2
  · rename_i hb
    refine ⟨⟨by omega, by omega, by omega, by omega, by omega⟩, fun q hq => ?_⟩
    cases l with
    | true => exact PostV.lst S.sub hq (rg_reps _) h2
    | false => exact PostV.tup S.sub hq (rg_reps _) h2
  · exact h2.elim
theorem rg1I {l : Bool} {ma : En → R (Vl × En)} {σ : Sg} {Q : VK} (h : tE G W (fun σ => bnd (ma σ) fun v σ => bnd (toI v σ) fun n σ => lift ((rgR l 0 (n.getD 0)).map vr) σ) σ H Q) :
    tRg1 (tE G W ma) σ H fun a b H1 => RgOk a b ∧ ∀ q, H1 q = none → Q (.ref q) (upd H1 q (rgO l a b)) := by
  obtain ⟨F, e, S, h⟩ := h
  exact intI (Post := fun c r => PostE G W c Q r) PostE.hx (fun _ z => z) (fun h s e => PostE.next h s e) S h fun F' H' e' i st S' h' => ⟨i, rfl, rgEnd S' h'⟩
theorem rg2I {l : Bool} {ma mb : En → R (Vl × En)} {σ : Sg} {Q : VK} (h : tE G W (fun σ => bnd (ma σ) fun v σ => bnd (toI v σ) fun n σ => bnd (mb σ) fun v σ => bnd (toI v σ) fun m σ => lift ((rgR l (n.getD 0) (m.getD 0)).map vr) σ) σ H Q) :
    tRg2 (tE G W ma) (tE G W mb) σ H fun a b H1 => RgOk a b ∧ ∀ q, H1 q = none → Q (.ref q) (upd H1 q (rgO l a b)) := by
  obtain ⟨F, e, S, h⟩ := h
  refine intI (Post := fun c r => PostE G W c Q r) PostE.hx (fun _ z => z) (fun h s e => PostE.next h s e) S h fun F' H' e' i st S' h' => ?_
  exact intI (Post := fun c r => PostE G W c Q r) PostE.hx (fun _ z => z) (fun h s e => PostE.next h s e) S' h' fun F2 H2 e2 j st2 S2 h2 => ⟨i, j, rfl, rfl, rgEnd S2 h2⟩
theorem gE_trng1 {l : Bool} {a : Expr} {p p' pos pos' : Pos} {ma : En → R (Vl × En)} {x : Str} (hc : X.calm = true) (hx : x = if l then ("list" : Str) else "tuple") (hg : Gl X x) (hm : X.mg x = none) (hg' : Gl X "range") (hm' : X.mg "range" = none) (ha : PE X a (tE G W ma)) (na : starEach [a] X.env = (false, eval a X.env) :: starEach [] X.env) :
    PE X (.Call (.Name x p) [.Call (.Name "range" p') [a] [] pos'] [] pos) (tE G W fun σ => bnd (ma σ) fun v σ => bnd (toI v σ) fun n σ => lift ((rgR l 0 (n.getD 0)).map vr) σ) := by
  subst hx
  cases l with
  | true => exact PE.imp (pe_listRg hc hg hm (prg_1 hg' hm' ha na) rfl) fun σ H Q h => rg1I h
  | false => exact PE.imp (pe_tupRg hc hg hm (prg_1 hg' hm' ha na) rfl) fun σ H Q h => rg1I h
theorem gE_trng2 {l : Bool} {a b : Expr} {p p' pos pos' : Pos} {ma mb : En → R (Vl × En)} {x : Str} (hc : X.calm = true) (hx : x = if l then ("list" : Str) else "tuple") (hg : Gl X x) (hm : X.mg x = none) (hg' : Gl X "range") (hm' : X.mg "range" = none) (ha : PE X a (tE G W ma)) (hb : PE X b (tE G W mb)) (na : starEach [a, b] X.env = (false, eval a X.env) :: starEach [b] X.env) (nb : starEach [b] X.env = (false, eval b X.env) :: starEach [] X.env) (hp : (backTo pos' (starEach [b] X.env)).any (·.1) = false) :
    PE X (.Call (.Name x p) [.Call (.Name "range" p') [a, b] [] pos'] [] pos) (tE G W fun σ => bnd (ma σ) fun v σ => bnd (toI v σ) fun n σ => bnd (mb σ) fun v σ => bnd (toI v σ) fun m σ => lift ((rgR l (n.getD 0) (m.getD 0)).map vr) σ) := by
  subst hx
  cases l with
  | true => exact PE.imp (pe_listRg hc hg hm (prg_2 hg' hm' ha hb na nb hp) rfl) fun σ H Q h => rg2I h
  | false => exact PE.imp (pe_tupRg hc hg hm (prg_2 hg' hm' ha hb na nb hp) rfl) fun σ H Q h => rg2I h
end
end PV
set_option Elab.async false
set_option linter.all false
set_option maxRecDepth 100000
namespace PV
open PySem PySem.Spec PyProof.Rows L2
/-! ## the checker: that a text in Lean is the text of the program -/
structure CC where
  P : Prg
  N : List Str
  frs : List Str
def noStar1 : Expr → Bool
  | .Starred .. => false
  | _ => true
def noStar : List Expr → Bool
  | [] => true
  | e :: es => noStar1 e && noStar es
theorem star_cons {e : Expr} {es : List Expr} {env : PySem.Env} (h : noStar1 e = true) : starEach (e :: es) env = (false, eval e env) :: starEach es env := by
  cases e <;> first | rfl | cases h
theorem star_any {pos : Pos} {env : PySem.Env} : ∀ {es : List Expr}, noStar es = true → (backTo pos (starEach es env)).any (·.1) = false
  | [], _ => rfl
  | e :: es, h => by
    simp only [noStar, Bool.and_eq_true] at h
    rw [star_cons h.1]
    show (false || (backTo pos (starEach es env)).any (·.1)) = false
    rw [star_any h.2]; rfl
theorem star_all {pos : Pos} {env : PySem.Env} : ∀ {es : List Expr}, noStar es = true → (backTo pos (starEach es env)).all (fun x => !x.1) = true
  | [], _ => rfl
  | e :: es, h => by
    simp only [noStar, Bool.and_eq_true] at h
    rw [star_cons h.1]
    show (true && (backTo pos (starEach es env)).all (fun x => !x.1)) = true
    rw [star_all h.2]; rfl
theorem star_few {pos : Pos} {env : PySem.Env} {es : List Expr} (h : noStar es = true) (hl : es.length < 30) : hfewOk es env pos := by
  unfold hfewOk
  rw [star_all h]
  show (true && true && decide (es.length + 0 + 0 < 30)) = true
  simp [hl]
theorem star_form {pos : Pos} {env : PySem.Env} {es : List Expr} (h : noStar es = true) (hl : es.length < 30) : methodCallForm (es.length + 0) (backTo pos (starEach es env)) (backToKw pos (keywordEach [] env)) = true := by
  unfold methodCallForm
  rw [star_all h]
  show (true && true && decide (es.length + 0 + 0 < 30)) = true
  simp [hl]
theorem noStar_mem : ∀ {es : List Expr}, noStar es = true ↔ ∀ e ∈ es, noStar1 e = true
  | [] => by simp [noStar]
  | e :: es => by simp [noStar, noStar_mem (es := es)]
/-! ### names -/
def okName (x : Str) : Bool := !(x == ("__debug__" : Str)) && !(x == ("__classdict__" : Str))
def kindB (sc : Scope) (x : Str) (k : NameKind) : Bool := decide (sc.names.lookup x = some k)
def visB (sc : Scope) (x : Str) : Bool := kindB sc x .local || kindB sc x .cell || kindB sc x .free
def locB (sc : Scope) (x : Str) : Bool := kindB sc x .local || kindB sc x .cell
def slotB (c : CC) (sc : Scope) (i : Nat) (x : Str) : Bool := decide (c.N[i]? = some x) && (visB sc x && okName x)
def glB (sc : Scope) (x : Str) : Bool := kindB sc x .globalImplicit && okName x
def freB (c : CC) (sc : Scope) (x : Str) : Bool := glB sc x && hasB x c.frs
theorem visB_ok {sc : Scope} {x : Str} (h : visB sc x = true) : Vis sc x := by
  unfold visB kindB at h
  simp only [Bool.or_eq_true, decide_eq_true_eq] at h
  rcases h with (h | h) | h
  · exact .inl h
  · exact .inr (.inl h)
  · exact .inr (.inr h)
theorem okName_ok {x : Str} (h : okName x = true) : (x == ("__debug__" : Str)) = false ∧ (x == ("__classdict__" : Str)) = false := by
  unfold okName at h
  simp only [Bool.and_eq_true, Bool.not_eq_true'] at h
  exact h
def opB : BOp → Operator → Bool
  | .add, .Add => true
  | .sub, .Sub => true
  | .mul, .Mult => true
  | .fdiv, .FloorDiv => true
  | .mod, .Mod => true
  | _, _ => false
def copB : COp → CmpOp → Bool
  | .lt, .Lt => true
  | .le, .LtE => true
  | .gt, .Gt => true
  | .ge, .GtE => true
  | .eq, .Eq => true
  | .ne, .NotEq => true
  | .mem, .In => true
  | .nmem, .NotIn => true
  | _, _ => false
def conB : D → Const → Bool
  | .non, .none => true
  | .bl b, .bool b' => b == b'
  | .int i, .int j => decide (i = j)
  | .str s, .str t => decide (s = t)
  | _, _ => false
def plainIxB : Expr → Bool
  | .Slice .. => false
  | _ => true
def notSet : Expr → Bool
  | .Set .. => false
  | _ => true
theorem plainIx_ok {b : Expr} (h : plainIxB b = true) : PlainIx b := fun o i => by cases b <;> first | rfl | cases h
theorem notSet_ok {e : Expr} {env : PySem.Env} (h : notSet e = true) : ∀ x, foldedSetIterable e env x = pure x := fun x => by cases e <;> first | rfl | cases h
/-- the tests whose truth is looked at part by part -/
def tEx : Ex → Bool
  | .ite .. => false
  | .not a => tEx a
  | .and a b => tEx a && tEx b
  | .or a b => tEx a && tEx b
  | _ => true
def lenE : Exs → Nat
  | .nil => 0
  | .cons _ es => lenE es + 1
/-! ### targets, blocks -/
def nameB (c : CC) (sc : Scope) (fn : Str → Bool) (i : Nat) (x : Str) : Bool := decide (c.N[i]? = some x) && (locB sc x && (fn x || kindB sc x .local))
def namesB (c : CC) (sc : Scope) (fn : Str → Bool) : List Nat → List Expr → Bool
  | [], [] => true
  | i :: is, .Name x _ :: es => nameB c sc fn i x && namesB c sc fn is es
  | _, _ => false
def tgB (c : CC) (sc : Scope) (fn : Str → Bool) : Tgt → Expr → Bool
  | .v i, .Name x _ => nameB c sc fn i x
  | .tp is, .Tuple es _ _ => namesB c sc fn is es
  | _, _ => false
def ownOf (c : CC) (is : List Nat) : List (Str × Nat) := is.filterMap fun i => (c.N[i]?).map fun x => (x, i)
def blkB (c : CC) (sc scope : Scope) (is : List Nat) : Bool :=
  decide (scope.kind = .function) && (scope.names.all fun y => decide (scope.names.lookup y.1 = some y.2)) && decide ((ownOf c is).map (·.2) = is) &&
  (scope.names.all fun y => !decide (y.2 = .free) || (kindB sc y.1 .cell || kindB sc y.1 .free)) &&
  (scope.names.all fun y => !(decide (y.2 = .local) || decide (y.2 = .cell)) || (hasB y.1 ((ownOf c is).map (·.1)) || !hasB y.1 c.N))
def bfn (scope : Scope) : Str → Bool := fun x => scope.names.lookup x == some .cell
def tyB (c : CC) (sc : Scope) : TyK → Expr → Bool
  | .own k, .Name x _ => (match c.P.cls[k]? with
    | some C => decide (C.name = x) && glB sc x
    | none => false)
  | t, .Name x _ => decide (Str.ofString (tyN t) = x) && freB c sc x
  | _, _ => false
def tgTup : Expr → Bool
  | .Tuple .. => true
  | _ => false
/-! ### expressions -/
mutual
def chkE (c : CC) : Ex → Scope → Expr → Bool
  | .var i, sc, e => match e with
    | .Name x _ => slotB c sc i x
    | _ => false
  | .con d, _, e => match e with
    | .Constant k _ _ => conB d k
    | _ => false
  | .gcon x i, sc, e => match e with
    | .Name y _ => decide (x = y) && (decide (c.P.cons.lookup x = some i) && glB sc y)
    | _ => false
  | .gfn k, sc, e => match e with
    | .Name x _ => (match c.P.fns[k]? with
      | some f => f.top && (decide (f.name = x) && glB sc x)
      | none => false)
    | _ => false
  | .bin o a b, sc, e => match e with
    | .BinOp x op y _ => opB o op && (chkE c a sc x && chkE c b sc y)
    | _ => false
  | .neg a, sc, e => match e with
    | .UnaryOp .USub x _ => chkE c a sc x
    | _ => false
  | .not a, sc, e => match e with
    | .UnaryOp .Not x _ => chkE c a sc x
    | _ => false
  | .cmp o a b, sc, e => match e with
    | .Compare x [op] [y] _ => copB o op && (!behindInMarks op y && (chkE c a sc x && chkE c b sc y))
    | _ => false
  | .isN a, sc, e => match e with
    | .Compare x [.Is] [.Constant .none _ _] _ => chkE c a sc x
    | _ => false
  | .notN a, sc, e => match e with
    | .Compare x [.IsNot] [.Constant .none _ _] _ => chkE c a sc x
    | _ => false
  | .chain o p a b d, sc, e => match e with
    | .Compare x [op, op'] [y, z] _ => copB o op && (copB p op' && (!lastMarks [op, op'] [y, z] && (chkE c a sc x && (chkE c b sc y && chkE c d sc z))))
    | _ => false
  | .and a b, sc, e => match e with
    | .BoolOp .And (x :: y :: rest) pos => chkE c a sc x && (match rest with
      | [] => chkE c b sc y
      | z :: zs => chkE c b sc (.BoolOp .And (y :: z :: zs) pos))
    | _ => false
  | .or a b, sc, e => match e with
    | .BoolOp .Or (x :: y :: rest) pos => chkE c a sc x && (match rest with
      | [] => chkE c b sc y
      | z :: zs => chkE c b sc (.BoolOp .Or (y :: z :: zs) pos))
    | _ => false
  | .ite t a b, sc, e => match e with
    | .IfExp x y z _ => chkE c t sc x && (tEx t && (chkE c a sc y && chkE c b sc z))
    | _ => false
  | .tup es, sc, e => match e with
    | .Tuple l _ _ => chkA c es sc l && decide (l.length < 1000)
    | _ => false
  | .lst es, sc, e => match e with
    | .List l _ => chkA c es sc l && decide (l.length < 1000)
    | _ => false
  | .ix a i, sc, e => match e with
    | .Subscript x y _ => plainIxB y && (chkE c a sc x && chkE c i sc y)
    | _ => false
  | .slc a lo hi, sc, e => match e with
    | .Subscript x (.Slice l h none _) _ => chkE c a sc x && (chkO c lo sc l && chkO c hi sc h)
    | _ => false
  | .rev a, sc, e => match e with
    | .Subscript x (.Slice none none (some (.UnaryOp .USub (.Constant (.int 1) _ _) _)) _) _ => chkE c a sc x
    | _ => false
  | .fld a f, sc, e => match e with
    | .Attribute x f' _ => decide (f = f') && (noSuper x && chkE c a sc x)
    | _ => false
  | .call k es, sc, e => match e with
    | .Call (.Name x _) (y :: l) [] _ => (match c.P.fns[k]? with
      | some f => f.top && (decide (f.name = x) && (glB sc x && (decide ((y :: l).length = f.ps.length) && chkA c es sc (y :: l))))
      | none => false)
    | _ => false
  | .callio k i es, sc, e => match e with
    | .Call (.Name x _) (.Name y _ :: l) [] _ => (match c.P.fns[k]? with
      | some f => f.top && (decide (f.name = x) && (glB sc x && (slotB c sc i y && (decide (l.length + 1 = f.ps.length) && chkA c es sc l))))
      | none => false)
    | _ => false
  | .callv i es, sc, e => match e with
    | .Call (.Name x _) (y :: l) [] _ => slotB c sc i x && chkA c es sc (y :: l)
    | _ => false
  | .mk k es dv, sc, e => match e with
    | .Call (.Name x _) (y :: l) [] _ => (match c.P.cls[k]? with
      | some C => (match c.P.fns[C.init]?, intsD dv with
        | some f, some ns => decide (C.name = x) && (glB sc x && (decide ((y :: l).length + ns.length + 1 = f.ps.length) && (decide (ns = [] ∨ ns = f.dv) && chkA c es sc (y :: l))))
        | _, _ => false)
      | none => false)
    | _ => false
  | .meth k a m es, sc, e => match e with
    | .Call (.Attribute o m' ap) l [] pos => (match c.P.cls[k]? with
      | some C => (match C.meths.lookup m with
        | some j => (match c.P.fns[j]? with
          | some f => decide (m = m') && (noSuper o && ((ap.endLine == pos.line) && (decide (l.length < 30) && (decide (l.length + 1 = f.ps.length) && (chkE c a sc o && chkA c es sc l)))))
          | none => false)
        | none => false)
      | none => false)
    | _ => false
  | .bif b es, sc, e => match e with
    | .Call (.Name x _) (y :: l) [] _ => decide (bifN b = x) && (freB c sc x && chkA c es sc (y :: l))
    | _ => false
  | .trng1 l a, sc, e => match e with
    | .Call (.Name x _) [.Call (.Name y _) [z] [] _] [] _ => decide (x = if l then ("list" : Str) else "tuple") && (freB c sc x && (decide (("range" : Str) = y) && (freB c sc y && (noStar1 z && chkE c a sc z))))
    | _ => false
  | .trng2 l a b, sc, e => match e with
    | .Call (.Name x _) [.Call (.Name y _) [z, z'] [] _] [] _ => decide (x = if l then ("list" : Str) else "tuple") && (freB c sc x && (decide (("range" : Str) = y) && (freB c sc y && (noStar [z, z'] && (chkE c a sc z && chkE c b sc z')))))
    | _ => false
  | .isi a t, sc, e => match e with
    | .Call (.Name x _) [y, z] [] _ => decide (("isinstance" : Str) = x) && (freB c sc x && (noStar1 y && (chkE c a sc y && tyB c sc t z)))
    | _ => false
  | .isi2 a t u, sc, e => match e with
    | .Call (.Name x _) [y, .Tuple [z, z'] _ _] [] _ => decide (("isinstance" : Str) = x) && (freB c sc x && (noStar1 y && (chkE c a sc y && (tyB c sc t z && tyB c sc u z'))))
    | _ => false
  | .lc s t a, sc, e => match e with
    | .ListComp elt [⟨tg, iter, [], 0⟩] scope _ => chkI c s sc tg iter && (blkB c sc scope t.slots && (tgB c (relS scope sc) (bfn scope) t tg && chkE c a (relS scope sc) elt))
    | _ => false
  | .lcf s t d a, sc, e => match e with
    | .ListComp elt [⟨tg, iter, [x], 0⟩] scope _ => chkI c s sc tg iter && (blkB c sc scope t.slots && (tgB c (relS scope sc) (bfn scope) t tg && (chkE c d (relS scope sc) x && (tEx d && chkE c a (relS scope sc) elt))))
    | _ => false
  | .lc2 s t s' t' a, sc, e => match e with
    | .ListComp elt [⟨tg, iter, [], 0⟩, ⟨tg', iter', [], 0⟩] scope _ => chkI c s sc tg iter && (blkB c sc scope [t, t'] && (tgB c (relS scope sc) (bfn scope) (.v t) tg && (chkI c s' (relS scope sc) tg' iter' && (tgB c (relS scope sc) (bfn scope) (.v t') tg' && chkE c a (relS scope sc) elt))))
    | _ => false
def chkA (c : CC) : Exs → Scope → List Expr → Bool
  | .nil, _, l => match l with
    | [] => true
    | _ => false
  | .cons a es, sc, l => match l with
    | e :: l => noStar1 e && (chkE c a sc e && chkA c es sc l)
    | _ => false
def chkO (c : CC) : Exo → Scope → Option Expr → Bool
  | .none, _, o => match o with
    | none => true
    | _ => false
  | .some a, sc, o => match o with
    | some e => chkE c a sc e
    | _ => false
def chkI (c : CC) : Src → Scope → Expr → Expr → Bool
  | .seq a, sc, _, e => notSet e && chkE c a sc e
  | .rng es, sc, _, e => match e with
    | .Call (.Name x _) l [] _ => decide (("range" : Str) = x) && (freB c sc x && (decide (l.length = 1 ∨ l.length = 2 ∨ l.length = 3) && chkA c es sc l))
    | _ => false
  | .zip es, sc, tg, e => match e with
    | .Call (.Name x _) [y, z] [] _ => tgTup tg && (decide (("zip" : Str) = x) && (freB c sc x && chkA c es sc [y, z]))
    | _ => false
  | .enum es, sc, tg, e => match e with
    | .Call (.Name x _) [y] [] _ => tgTup tg && (decide (("enumerate" : Str) = x) && (freB c sc x && chkA c es sc [y]))
    | _ => false
end
end PV
set_option Elab.async false
set_option linter.all false
set_option maxRecDepth 100000
set_option maxHeartbeats 2000000
namespace PV
open PySem PySem.Spec PyProof.Rows L2
/-- what the program's own classes do for operators -/
structure Owns (G : Gb) (W : XK) (cf : CF) (X : Cx) : Prop where
  add : OwnOp G W X (binaryOp .Add) (binD G.P cf .add)
  sub : OwnOp G W X (binaryOp .Sub) (binD G.P cf .sub)
  mul : OwnOp G W X (binaryOp .Mult) (binD G.P cf .mul)
  neg : OwnUn G W X (unaryOp .USub) (fun x => (negD G.P cf x).map Vr.sh)
  lt : OwnOp G W X (compareOp .Lt) (blR (cmpD G.P cf .lt))
  le : OwnOp G W X (compareOp .LtE) (blR (cmpD G.P cf .le))
  eq : OwnEq G W X (compareOp .Eq) (blR (cmpD G.P cf .eq))
  ne : OwnEq G W X (compareOp .NotEq) (blR (cmpD G.P cf .ne))
  mem : OwnMem G W X (compareOp .In) (blR (cmpD G.P cf .mem))
  nmem : OwnMem G W X (compareOp .NotIn) (blR (cmpD G.P cf .nmem))
structure At (c : CC) (G : Gb) (W : XK) (cf : CF) (lv : Nat) (sc : Scope) (X : Cx) : Prop where
  g : Gd G W cf lv X
  P : G.P = c.P
  N : X.N = c.N
  sc : X.env.scope = sc
  fre : ∀ x, hasB x c.frs = true → X.mg x = none
  own : ∀ (W : XK) (X' : Cx), Gd G W cf lv X' → Owns G W cf X'
end PV
namespace L2
open PySem PySem.Spec PyProof.Rows PV
theorem PE.congr {G : Gb} {W : XK} {X : Cx} {e : Expr} {m m' : En → PV.R (Vl × En)} (h : PE X e (tE G W m)) (k : ∀ σ, m' σ = m σ) : PE X e (tE G W m') := by
  have z : m' = m := funext k
  rw [z]; exact h
theorem PT.congr {G : Gb} {W : XK} {X : Cx} {e : Expr} {m m' : En → PV.R (Bool × En)} (h : PT X e (tT G W m)) (k : ∀ σ, m' σ = m σ) : PT X e (tT G W m') := by
  have z : m' = m := funext k
  rw [z]; exact h
theorem PW.congr {G : Gb} {W : XK} {X : Cx} {e : Expr} {m m' : En → PV.R (Bool × En)} (h : PW X e (tT G W m)) (k : ∀ σ, m' σ = m σ) : PW X e (tT G W m') := by
  have z : m' = m := funext k
  rw [z]; exact h
end L2
namespace PV
open PySem PySem.Spec PyProof.Rows L2
theorem bnd_congr {α β : Type} {m : R (α × En)} {f g : α → En → R (β × En)} (h : ∀ a σ, f a σ = g a σ) : bnd m f = bnd m g := by
  cases m with
  | ok p => exact h _ _
  | exc _ => rfl
  | stuck => rfl
section
variable {c : CC} {G : Gb} {W : XK} {X : Cx} {cf : CF} {lv : Nat} {sc : Scope}
theorem At.vis (a : At c G W cf lv sc X) {i : Nat} {x : Str} (h : slotB c sc i x = true) : X.N[i]? = some x ∧ Vis X.env.scope x ∧ (x == ("__debug__" : Str)) = false ∧ (x == ("__classdict__" : Str)) = false := by
  unfold slotB at h
  simp only [Bool.and_eq_true, decide_eq_true_eq] at h
  obtain ⟨h1, h2, h3⟩ := h
  obtain ⟨h4, h5⟩ := okName_ok h3
  exact ⟨by rw [a.N]; exact h1, by rw [a.sc]; exact visB_ok h2, h4, h5⟩
theorem At.gl (a : At c G W cf lv sc X) {x : Str} (h : glB sc x = true) : Gl X x ∧ (x == ("__debug__" : Str)) = false := by
  unfold glB kindB at h
  simp only [Bool.and_eq_true, decide_eq_true_eq] at h
  exact ⟨by unfold Gl PySem.Env.kindOf; rw [a.sc]; exact h.1, (okName_ok h.2).1⟩
theorem At.free (a : At c G W cf lv sc X) {x : Str} (h : freB c sc x = true) : Gl X x ∧ X.mg x = none := by
  unfold freB at h
  simp only [Bool.and_eq_true] at h
  exact ⟨(a.gl h.1).1, a.fre x h.2⟩
theorem At.units (a : At c G W cf lv sc X) : X.A.units + 65 < cLine := by have := a.g.room.un; omega
theorem At.op (a : At c G W cf lv sc X) {o : BOp} {op : Operator} (h : opB o op = true) : OpR X (binaryOp op) (r2D G W (binD G.P cf o)) := by
  have w := a.own W X a.g
  cases o <;> cases op <;> first | cases h | skip
  · exact opr_add a.g.kK w.add
  · exact opr_sub w.sub
  · exact opr_mul w.mul a.g.kK
  · exact opr_fdiv
  · exact opr_mod
theorem At.cop (a : At c G W cf lv sc X) {o : COp} {op : CmpOp} (h : copB o op = true) : OpR X (compareOp op) (r2D G W (blR (cmpD G.P cf o))) := by
  have w := a.own W X a.g
  have hu := a.units
  cases o <;> cases op <;> first | cases h | skip
  · exact opr_lt a.g.kK (by omega) w.lt
  · exact opr_le w.le
  · exact opr_gt
  · exact opr_ge
  · exact opr_eq a.g.kK (by omega) w.eq
  · exact opr_ne a.g.kK (by omega) w.ne
  · exact opr_mem a.g.kK hu w.mem
  · exact opr_nmem a.g.kK hu w.nmem
theorem At.blk (a : At c G W cf lv sc X) {s : Shared} {H : Hp} {scope : Scope} {C : Addr} {cl : List (Str × Addr)} {fp : List Addr} : At c G nW cf lv (relS scope sc) (X.blk s H scope (compEnvC scope cl C X.env) fp) where
  g := ⟨a.g.kK, a.g.calm, a.g.nd, a.g.room, takes_none5, a.g.fa⟩
  P := a.P
  N := a.N
  sc := by rw [← a.sc]; rfl
  fre := a.fre
  own := a.own
theorem hasB_mem {f : Str} {fs : List Str} (h : hasB f fs = true) : f ∈ fs := by
  unfold hasB at h
  rw [List.any_eq_true] at h
  obtain ⟨g, h1, h2⟩ := h
  have h2 : g = f := of_decide_eq_true h2
  rw [← h2]; exact h1
theorem At.blkOk (a : At c G W cf lv sc X) {scope : Scope} {is : List Nat} (h : blkB c sc scope is = true) : BlkOk X.N X.env.scope scope (ownOf c is) ∧ (ownOf c is).map (·.2) = is := by
  unfold blkB at h
  simp only [Bool.and_eq_true, decide_eq_true_eq] at h
  obtain ⟨⟨⟨⟨h1, h2⟩, h3⟩, h4⟩, h5⟩ := h
  refine ⟨⟨h1, fun y hy => ?_, fun p hp => ?_, fun y hy hf => ?_, fun y hy ho => ?_⟩, h3⟩
  · exact of_decide_eq_true (List.all_eq_true.mp h2 y hy)
  · unfold ownOf at hp
    rw [List.mem_filterMap] at hp
    obtain ⟨i, _, hi⟩ := hp
    rw [Option.map_eq_some_iff] at hi
    obtain ⟨x, hx, rfl⟩ := hi
    rw [a.N]; exact hx
  · have q := List.all_eq_true.mp h4 y hy
    simp only [hf, decide_true, Bool.not_true, Bool.false_or, Bool.or_eq_true, kindB, decide_eq_true_eq] at q
    rw [a.sc]; exact q
  · have q := List.all_eq_true.mp h5 y hy
    have z : (decide (y.2 = NameKind.local) || decide (y.2 = NameKind.cell)) = true := by
      rcases ho with ho | ho <;> simp [ho]
    rw [z] at q
    simp only [Bool.not_true, Bool.false_or, Bool.or_eq_true, Bool.not_eq_true'] at q
    rcases q with q | q
    · exact .inl (hasB_mem q)
    · right
      rw [a.N]
      exact hasB_no q
theorem nameB_pg (a : At c G W cf lv sc X) {fn : Str → Bool} (hfn : X.fn = fn) {i : Nat} {x : Str} {pos : Pos} (h : nameB c sc fn i x = true) : PG X (.Name x pos) (gName i) := by
  unfold nameB locB kindB at h
  simp only [Bool.and_eq_true, Bool.or_eq_true, decide_eq_true_eq] at h
  obtain ⟨h1, h2, h3⟩ := h
  exact pg_name a.g.nd (by rw [a.N]; exact h1) (by rw [a.sc]; exact h2) (by rw [a.sc, hfn]; exact h3)
theorem namesB_pg (a : At c G W cf lv sc X) {fn : Str → Bool} (hfn : X.fn = fn) : ∀ {is : List Nat} {es : List Expr}, namesB c sc fn is es = true → PGs X es (gNames is) ∧ (assignEach es X.env).length = is.length ∧ (assignEach es X.env).findIdx? (·.1) = none
  | [], [], _ => ⟨pgs_nil, rfl, rfl⟩
  | [], _ :: _, h => by cases h
  | i :: is, [], h => by cases h
  | i :: is, e :: es, h => by
    unfold namesB at h
    split at h
    · rename_i z; cases z
    · rename_i i' is' x p es' h1 h2
      cases h1
      cases h2
      rw [Bool.and_eq_true] at h
      obtain ⟨k1, k2, k3⟩ := namesB_pg a hfn h.2
      refine ⟨pgs_cons (nameB_pg a hfn h.1) k1 rfl, ?_, ?_⟩
      · show (assignEach es X.env).length + 1 = is.length + 1
        rw [k2]
      · show List.findIdx? (·.1) ((false, assign (.Name x p) X.env) :: assignEach es X.env) = none
        rw [List.findIdx?_cons, k3]; rfl
    · cases h
theorem tgB_pg (a : At c G W cf lv sc X) {fn : Str → Bool} (hfn : X.fn = fn) {t : Tgt} {e : Expr} (h : tgB c sc fn t e = true) : PG X e (gTg G.K t) := by
  unfold tgB at h
  split at h
  · exact nameB_pg a hfn h
  · obtain ⟨k1, k2, k3⟩ := namesB_pg a hfn h
    have := pg_tup a.g.calm k1 k2 k3 (pos := ‹_›) (k := ‹_›)
    rw [a.g.kK] at this
    exact this
  · cases h
theorem tyB_ok (a : At c G W cf lv sc X) {t : TyK} {e : Expr} (h : tyB c sc t e = true) : PTy X G e t ∧ noStar1 e = true := by
  unfold tyB at h
  split at h
  · split at h
    · rename_i C hC
      simp only [Bool.and_eq_true, decide_eq_true_eq] at h
      obtain ⟨rfl, h2⟩ := h
      obtain ⟨h3, h4⟩ := a.gl h2
      exact ⟨pty_own a.g (by rw [a.P]; exact hC) h3 h4, rfl⟩
    · cases h
  · rename_i t x p hn
    simp only [Bool.and_eq_true, decide_eq_true_eq] at h
    obtain ⟨rfl, h2⟩ := h
    obtain ⟨h3, h4⟩ := a.free h2
    exact ⟨pty_ty (fun k z => hn k z) h3 h4, rfl⟩
  · cases h
end
theorem intsD_map : ∀ {ds : List D} {ns : List Int}, intsD ds = some ns → ds = ns.map D.int
  | [], ns, h => by simp [intsD] at h; subst h; rfl
  | .int i :: ds, ns, h => by
    simp only [intsD, Option.map_eq_some_iff] at h
    obtain ⟨ms, e1, rfl⟩ := h
    simp [intsD_map e1]
  | .non :: _, _, e | .bl _ :: _, _, e | .str _ :: _, _, e | .tup _ :: _, _, e | .lst _ :: _, _, e | .obj _ _ :: _, _, e | .fn _ :: _, _, e | .dic :: _, _, e | .ro _ :: _, _, e => by simp [intsD] at e
theorem evs_len {P : Prg} {cf : CF} : ∀ (es : Exs) (σ : En) (ds : List D) (σ' : En), evs P cf es σ = .ok (ds, σ') → ds.length = lenE es
  | .nil, σ, ds, σ', h => by
    simp only [evs] at h
    cases h; rfl
  | .cons a es, σ, ds, σ', h => by
    simp only [evs] at h
    cases h1 : ev P cf a σ with
    | ok p =>
      rw [h1, bnd_ok] at h
      cases h2 : esc p.1 p.2 with
      | ok q =>
        rw [h2, bnd_ok] at h
        cases h3 : evs P cf es q.2 with
        | ok r =>
          rw [h3, bnd_ok] at h
          cases h
          simp [lenE, evs_len es _ _ _ h3]
        | exc x => rw [h3] at h; cases h
        | stuck => rw [h3] at h; cases h
      | exc x => rw [h2] at h; cases h
      | stuck => rw [h2] at h; cases h
    | exc x => rw [h1] at h; cases h
    | stuck => rw [h1] at h; cases h
theorem chkA_len {c : CC} : ∀ (es : Exs) (sc : Scope) (l : List Expr), chkA c es sc l = true → l.length = lenE es ∧ noStar l = true
  | .nil, sc, l, h => by
    unfold chkA at h
    split at h
    · exact ⟨rfl, rfl⟩
    · cases h
  | .cons a es, sc, l, h => by
    unfold chkA at h
    split at h
    · rename_i e l
      simp only [Bool.and_eq_true] at h
      obtain ⟨h1, h2⟩ := chkA_len es sc l h.2.2
      exact ⟨by simp [lenE, h1], by simp [noStar, h.1, h2]⟩
    · cases h
end PV
set_option Elab.async false
set_option linter.all false
set_option maxRecDepth 100000
set_option maxHeartbeats 4000000
namespace PV
open PySem PySem.Spec PyProof.Rows L2
section
variable {G : Gb} {W : XK} {X : Cx}
theorem isNI {nb : Bool} {ma : En → R (Vl × En)} {σ : Sg} {H : Hp} {Q : VK} (h : tE G W (fun σ => bnd (ma σ) fun va σ => bnd (pk va σ) fun x σ => .ok (.sh (.bl (if nb then isNon x else !isNon x)), σ)) σ H Q) :
    tE G W ma σ H fun x H1 => Q (.bl (if nb then decide (x = .non) else !decide (x = .non))) H1 := by
  obtain ⟨F, e, S, h⟩ := h
  refine oneI (Post := fun c r => PostE G W c Q r) PostE.hx (fun _ z => z) (fun h s e => PostE.next h s e) S (by simp only [pk_hold]; exact h) fun F' H' e' x v st S' rx h' => ?_
  have e : decide (v = .non) = (isNon x) := by
    rcases rx with r | ⟨ds, a, rfl, rfl, _⟩
    · cases x <;> simp only [Rep] at r
      all_goals first
        | (subst r; rfl)
        | (obtain ⟨_, _, rfl, _⟩ := r; rfl)
        | (obtain ⟨_, _, _, rfl, _⟩ := r; rfl)
    · rfl
  rw [e]
  exact PostE.bl S' h'
theorem gT_isN {a : Expr} {pos j pos'} {ma : En → R (Vl × En)} (ha : PE X a (tE G W ma)) :
    PT X (.Compare a [.Is] [.Constant .none j pos'] pos) (tT G W fun σ => bnd (bnd (ma σ) fun va σ => bnd (pk va σ) fun x σ => .ok (.sh (.bl (isNon x)), σ)) fun v σ => toB v σ) :=
  PT.imp (pt_cmp (pc_isN ha) (nobehind _ (by decide) (by decide))) fun σ H Q h => tstI (t := tIsN (tE G W ma)) (fun Q h => isNI (nb := true) h) h
theorem gT_notN {a : Expr} {pos j pos'} {ma : En → R (Vl × En)} (ha : PE X a (tE G W ma)) :
    PT X (.Compare a [.IsNot] [.Constant .none j pos'] pos) (tT G W fun σ => bnd (bnd (ma σ) fun va σ => bnd (pk va σ) fun x σ => .ok (.sh (.bl (!isNon x)), σ)) fun v σ => toB v σ) :=
  PT.imp (pt_cmp (pc_notN ha) (nobehind _ (by decide) (by decide))) fun σ H Q h => tstI (t := tNotN (tE G W ma)) (fun Q h => isNI (nb := false) h) h
end
/-- what the checker's yes tells -/
def OkE (c : CC) (G : Gb) (cf : CF) (lv : Nat) (ex : Ex) : Prop := ∀ (sc : Scope) (e : Expr), chkE c ex sc e = true → (∀ (W : XK) (X : Cx), At c G W cf lv sc X → PE X e (tE G W fun σ => ev c.P cf ex σ)) ∧
  (tEx ex = true → ∀ (W : XK) (X : Cx), At c G W cf lv sc X → PT X e (tT G W fun σ => bnd (ev c.P cf ex σ) fun v σ => toB v σ))
def OkA (c : CC) (G : Gb) (cf : CF) (lv : Nat) (es : Exs) : Prop := ∀ (sc : Scope) (l : List Expr), chkA c es sc l = true → ∀ (W : XK) (X : Cx), At c G W cf lv sc X → PA X l (tA G W fun σ => evs c.P cf es σ) ∧ PA X l (tP G W fun σ => evp c.P cf es σ)
def OkO (c : CC) (G : Gb) (cf : CF) (lv : Nat) (o : Exo) : Prop := ∀ (sc : Scope) (x : Option Expr), chkO c o sc x = true → ∀ (W : XK) (X : Cx), At c G W cf lv sc X → PO X x (tO G W fun σ => evo c.P cf o σ)
def OkI (c : CC) (G : Gb) (cf : CF) (lv : Nat) (s : Src) : Prop := ∀ (sc : Scope) (tg e : Expr), chkI c s sc tg e = true → (∀ (W : XK) (X : Cx), At c G W cf lv sc X → PI X tg e (tI G W fun σ => src c.P cf s σ)) ∧ notSet e = true
section
variable {c : CC} {G : Gb} {cf : CF} {lv : Nat}
/-- a value's truth, plainly -/
theorem both {ex : Ex} {e : Expr} {sc : Scope} (h : ∀ (W : XK) (X : Cx), At c G W cf lv sc X → PE X e (tE G W fun σ => ev c.P cf ex σ)) (he : ∀ env whole, isTrue e env whole = (do let v ← whole; standAt e.pos; holding [v] (truthy v))) :
    (∀ (W : XK) (X : Cx), At c G W cf lv sc X → PE X e (tE G W fun σ => ev c.P cf ex σ)) ∧ (tEx ex = true → ∀ (W : XK) (X : Cx), At c G W cf lv sc X → PT X e (tT G W fun σ => bnd (ev c.P cf ex σ) fun v σ => toB v σ)) :=
  ⟨h, fun _ W X a => gT_val (h W X a) (he _)⟩
theorem conB_ok {X : Cx} {d : D} {k : Const} {n : Nat} {pos : Pos} (h : conB d k = true) : ∃ v, PE X (.Constant k n pos) (tC v) ∧ ∀ F, Rep G F d v := by
  unfold conB at h
  split at h
  · exact ⟨.non, pe_non, fun F => by simp only [Rep]⟩
  · rename_i b b'
    have e : b = b' := by simpa using h
    subst e
    exact ⟨.bl b, pe_bl, fun F => by simp only [Rep]⟩
  · have e := of_decide_eq_true h
    subst e
    exact ⟨.int _, pe_int, fun F => by simp only [Rep]⟩
  · have e := of_decide_eq_true h
    subst e
    exact ⟨.str _, pe_str, fun F => by simp only [Rep]⟩
  · cases h
mutual
theorem okE : ∀ (ex : Ex), OkE c G cf lv ex
  | .var i => fun sc e h => by
    unfold chkE at h
    split at h
    · refine both (fun W X a => ?_) (fun _ _ => rfl)
      obtain ⟨h1, h2, h3, h4⟩ := a.vis h
      exact (gE_var h1 h2 h3 h4).congr fun σ => by simp only [ev]
    · cases h
  | .con d => fun sc e h => by
    unfold chkE at h
    split at h
    · refine both (fun W X a => ?_) (fun _ _ => rfl)
      obtain ⟨v, h1, h2⟩ := conB_ok (G := G) (X := X) h
      exact (gE_con h1 h2).congr fun σ => by simp only [ev]
    · cases h
  | .gcon x i => fun sc e h => by
    unfold chkE at h
    split at h
    · simp only [Bool.and_eq_true, decide_eq_true_eq] at h
      obtain ⟨h1, h2, h3⟩ := h
      refine both (fun W X a => ?_) (fun _ _ => rfl)
      obtain ⟨h4, h5⟩ := a.gl h3
      obtain ⟨t, hm⟩ := a.g.fa.con x i (by rw [a.P]; exact h2)
      rw [h1] at hm
      exact (gE_con (d := .int i) (pe_glob (v := .int i) h4 hm ⟨t, rfl⟩ h5) (fun F => by simp only [Rep])).congr fun σ => by simp only [ev]
    · cases h
  | .gfn k => fun sc e h => by
    unfold chkE at h
    split at h
    · split at h
      · rename_i f hf
        simp only [Bool.and_eq_true, decide_eq_true_eq] at h
        obtain ⟨h1, h2, h3⟩ := h
        refine both (fun W X a => ?_) (fun _ _ => rfl)
        obtain ⟨h4, h5⟩ := a.gl h3
        have hm := a.g.fa.gl k f (by rw [a.P]; exact hf) h1
        rw [h2] at hm
        exact (gE_con (d := .fn k) (pe_glob (v := .ref (G.fn k)) h4 hm rfl h5) (fun F => by simp only [Rep])).congr fun σ => by simp only [ev]
      · cases h
    · cases h
  | .bin o a b => fun sc e h => by
    unfold chkE at h
    split at h
    · simp only [Bool.and_eq_true] at h
      obtain ⟨h1, h2, h3⟩ := h
      have k1 := (okE a sc _ h2).1
      have k2 := (okE b sc _ h3).1
      refine both (fun W X A => ?_) (fun _ _ => rfl)
      exact (gE_bin (A.op h1) (k1 W X A) (k2 W X A)).congr fun σ => by simp only [ev, A.P]
    · cases h
  | .neg a => fun sc e h => by
    unfold chkE at h
    split at h
    · have k1 := (okE a sc _ h).1
      refine both (fun W X A => ?_) (fun _ _ => rfl)
      exact (gE_neg (unr_neg (A.own W X A.g).neg) (k1 W X A)).congr fun σ => by simp only [ev, A.P]
    · cases h
  | .not a => fun sc e h => by
    unfold chkE at h
    split at h
    · obtain ⟨k1, k2⟩ := okE a sc _ h
      refine ⟨fun W X A => (gE_not (k1 W X A)).congr fun σ => by simp only [ev], fun ht W X A => (gT_not (k2 ht W X A)).congr fun σ => ?_⟩
      simp only [ev, bnd_assoc] <;> rfl
    · cases h
  | .cmp o a b => fun sc e h => by
    unfold chkE at h
    split at h
    · simp only [Bool.and_eq_true, Bool.not_eq_true'] at h
      obtain ⟨h1, h2, h3, h4⟩ := h
      have k1 := (okE a sc _ h3).1
      have k2 := (okE b sc _ h4).1
      exact ⟨fun W X A => (gE_cmp h2 (A.cop h1) (k1 W X A) (k2 W X A)).congr fun σ => by simp only [ev, A.P], fun _ W X A => (gT_cmp h2 (A.cop h1) (k1 W X A) (k2 W X A)).congr fun σ => by simp only [ev, A.P]⟩
    · cases h
  | .isN a => fun sc e h => by
    unfold chkE at h
    split at h
    · have k1 := (okE a sc _ h).1
      exact ⟨fun W X A => (gE_isN (k1 W X A)).congr fun σ => by simp only [ev], fun _ W X A => (gT_isN (k1 W X A)).congr fun σ => by simp only [ev]⟩
    · cases h
  | .notN a => fun sc e h => by
    unfold chkE at h
    split at h
    · have k1 := (okE a sc _ h).1
      exact ⟨fun W X A => (gE_notN (k1 W X A)).congr fun σ => by simp only [ev], fun _ W X A => (gT_notN (k1 W X A)).congr fun σ => by simp only [ev]⟩
    · cases h
  | .chain o p a b d => fun sc e h => by
    unfold chkE at h
    split at h
    · simp only [Bool.and_eq_true, Bool.not_eq_true'] at h
      obtain ⟨h1, h2, h3, h4, h5, h6⟩ := h
      have k1 := (okE a sc _ h4).1
      have k2 := (okE b sc _ h5).1
      have k3 := (okE d sc _ h6).1
      exact ⟨fun W X A => (gE_chain h3 (A.cop h1) (A.cop h2) (k1 W X A) (k2 W X A) (k3 W X A)).congr fun σ => by simp only [ev, A.P] <;> rfl, fun _ W X A => (gT_chain h3 (A.cop h1) (A.cop h2) (k1 W X A) (k2 W X A) (k3 W X A)).congr fun σ => by simp only [ev, A.P] <;> rfl⟩
    · cases h
  | .and a b => fun sc e h => by
    unfold chkE at h
    split at h
    · rename_i x y rest pos
      simp only [Bool.and_eq_true] at h
      obtain ⟨h1, h2⟩ := h
      obtain ⟨k1, k2⟩ := okE a sc _ h1
      have kb : (∀ (W : XK) (X : Cx), At c G W cf lv sc X → PE X (.BoolOp .And (y :: rest) pos) (tE G W fun σ => ev c.P cf b σ)) ∧ (tEx b = true → ∀ (W : XK) (X : Cx), At c G W cf lv sc X → PW X (.BoolOp .And (y :: rest) pos) (tT G W fun σ => bnd (ev c.P cf b σ) fun v σ => toB v σ)) := by
        cases rest with
        | nil =>
          obtain ⟨k3, k4⟩ := okE b sc _ h2
          exact ⟨fun W X A => pe_one (k3 W X A), fun ht W X A => pw_and1 (k4 ht W X A)⟩
        | cons z zs =>
          obtain ⟨k3, k4⟩ := okE b sc _ h2
          exact ⟨k3, fun ht W X A => ⟨fun wh pins s σ H Q I q => (k4 ht W X A).run pins s σ H Q I q⟩⟩
      refine ⟨fun W X A => (gE_andV (k1 W X A) (kb.1 W X A)).congr fun σ => by simp only [ev] <;> rfl, fun ht W X A => ?_⟩
      simp only [tEx, Bool.and_eq_true] at ht
      refine (gW_and (k2 ht.1 W X A) (kb.2 ht.2 W X A)).pt.congr fun σ => ?_
      simp only [ev, bnd_assoc]
      refine bnd_congr fun va σ => bnd_congr fun r σ => ?_
      cases r <;> rfl
    · cases h
  | .or a b => fun sc e h => by
    unfold chkE at h
    split at h
    · rename_i x y rest pos
      simp only [Bool.and_eq_true] at h
      obtain ⟨h1, h2⟩ := h
      obtain ⟨k1, k2⟩ := okE a sc _ h1
      have kb : (∀ (W : XK) (X : Cx), At c G W cf lv sc X → PE X (.BoolOp .Or (y :: rest) pos) (tE G W fun σ => ev c.P cf b σ)) ∧ (tEx b = true → ∀ (W : XK) (X : Cx), At c G W cf lv sc X → PW X (.BoolOp .Or (y :: rest) pos) (tT G W fun σ => bnd (ev c.P cf b σ) fun v σ => toB v σ)) := by
        cases rest with
        | nil =>
          obtain ⟨k3, k4⟩ := okE b sc _ h2
          exact ⟨fun W X A => pe_one (k3 W X A), fun ht W X A => pw_or1 (k4 ht W X A)⟩
        | cons z zs =>
          obtain ⟨k3, k4⟩ := okE b sc _ h2
          exact ⟨k3, fun ht W X A => ⟨fun wh pins s σ H Q I q => (k4 ht W X A).run pins s σ H Q I q⟩⟩
      refine ⟨fun W X A => (gE_orV (k1 W X A) (kb.1 W X A)).congr fun σ => by simp only [ev] <;> rfl, fun ht W X A => ?_⟩
      simp only [tEx, Bool.and_eq_true] at ht
      refine (gW_or (k2 ht.1 W X A) (kb.2 ht.2 W X A)).pt.congr fun σ => ?_
      simp only [ev, bnd_assoc]
      refine bnd_congr fun va σ => bnd_congr fun r σ => ?_
      cases r <;> rfl
    · cases h
  | .ite t a b => fun sc e h => by
    unfold chkE at h
    split at h
    · simp only [Bool.and_eq_true] at h
      obtain ⟨h1, h2, h3, h4⟩ := h
      have k1 := (okE t sc _ h1).2 h2
      have k2 := (okE a sc _ h3).1
      have k3 := (okE b sc _ h4).1
      refine ⟨fun W X A => (gE_ite (k1 W X A) (k2 W X A) (k3 W X A)).congr fun σ => ?_, fun ht => by cases ht⟩
      simp only [ev, bnd_assoc] <;> rfl
    · cases h
  | .tup es => fun sc e h => by
    unfold chkE at h
    split at h
    · simp only [Bool.and_eq_true, decide_eq_true_eq] at h
      have k1 := okA es sc _ h.1
      have hl := (chkA_len es sc _ h.1).1
      refine both (fun W X A => ?_) (fun _ _ => rfl)
      exact (gE_tup (k1 W X A).1 fun σ ds σ' z => by rw [evs_len es σ ds σ' z]; omega).congr fun σ => by simp only [ev]
    · cases h
  | .lst es => fun sc e h => by
    unfold chkE at h
    split at h
    · simp only [Bool.and_eq_true, decide_eq_true_eq] at h
      have k1 := okA es sc _ h.1
      have hl := (chkA_len es sc _ h.1).1
      refine both (fun W X A => ?_) (fun _ _ => rfl)
      exact (gE_lst (k1 W X A).1 fun σ ds σ' z => by rw [evs_len es σ ds σ' z]; omega).congr fun σ => by simp only [ev]
    · cases h
  | .ix a i => fun sc e h => by
    unfold chkE at h
    split at h
    · simp only [Bool.and_eq_true] at h
      obtain ⟨h1, h2, h3⟩ := h
      have k1 := (okE a sc _ h2).1
      have k2 := (okE i sc _ h3).1
      refine both (fun W X A => ?_) (fun _ _ => rfl)
      exact (gE_ix A.g.kK (plainIx_ok h1) (k1 W X A) (k2 W X A)).congr fun σ => by simp only [ev]
    · cases h
  | .slc a lo hi => fun sc e h => by
    unfold chkE at h
    split at h
    · simp only [Bool.and_eq_true] at h
      obtain ⟨h1, h2, h3⟩ := h
      have k1 := (okE a sc _ h1).1
      have k2 := okO lo sc _ h2
      have k3 := okO hi sc _ h3
      refine both (fun W X A => ?_) (fun _ _ => rfl)
      exact (gE_slc A.g (k1 W X A) (k2 W X A) (k3 W X A)).congr fun σ => by simp only [ev]
    · cases h
  | .rev a => fun sc e h => by
    unfold chkE at h
    split at h
    · have k1 := (okE a sc _ h).1
      refine both (fun W X A => ?_) (fun _ _ => rfl)
      exact (gE_rev A.g.kK (k1 W X A)).congr fun σ => by simp only [ev]
    · cases h
  | .fld a f => fun sc e h => by
    unfold chkE at h
    split at h
    · simp only [Bool.and_eq_true, decide_eq_true_eq] at h
      obtain ⟨rfl, h2, h3⟩ := h
      have k1 := (okE a sc _ h3).1
      refine both (fun W X A => ?_) (fun _ _ => rfl)
      exact (gE_fld A.g (k1 W X A) h2).congr fun σ => by simp only [ev, A.P] <;> rfl
    · cases h
  | .call k es => fun sc e h => by
    unfold chkE at h
    split at h
    · split at h
      · rename_i f hf
        simp only [Bool.and_eq_true, decide_eq_true_eq] at h
        obtain ⟨h1, h2, h3, h4, h5⟩ := h
        have k1 := okA es sc _ h5
        obtain ⟨hl, hst⟩ := chkA_len es sc _ h5
        simp only [noStar, Bool.and_eq_true] at hst
        refine both (fun W X A => ?_) (fun _ _ => rfl)
        obtain ⟨g1, g2⟩ := A.gl h3
        exact (gE_call A.g (by rw [A.P]; exact hf) h1 h2 h4 (fun σ ds σ' z => by rw [evs_len es σ ds σ' z, hl]) g1 (k1 W X A).1 g2 (star_cons hst.1) (star_any hst.2)).congr fun σ => by simp only [ev]
      · cases h
    · cases h
  | .callio k i es => fun sc e h => by
    unfold chkE at h
    split at h
    · split at h
      · rename_i f hf
        simp only [Bool.and_eq_true, decide_eq_true_eq] at h
        obtain ⟨h1, h2, h3, h4, h5, h6⟩ := h
        have k1 := okA es sc _ h6
        obtain ⟨hl, hst⟩ := chkA_len es sc _ h6
        refine both (fun W X A => ?_) (fun _ _ => rfl)
        obtain ⟨g1, g2⟩ := A.gl h3
        obtain ⟨v1, v2, v3, v4⟩ := A.vis h4
        exact (gE_callio A.g (by rw [A.P]; exact hf) h1 h2 h5 (fun σ ds σ' z => by rw [evs_len es σ ds σ' z, hl]) g1 v1 v2 v3 v4 (k1 W X A).1 g2 (star_cons rfl) (star_any hst)).congr fun σ => by simp only [ev] <;> rfl
      · cases h
    · cases h
  | .callv i es => fun sc e h => by
    unfold chkE at h
    split at h
    · simp only [Bool.and_eq_true] at h
      obtain ⟨h1, h2⟩ := h
      have k1 := okA es sc _ h2
      obtain ⟨hl, hst⟩ := chkA_len es sc _ h2
      simp only [noStar, Bool.and_eq_true] at hst
      refine both (fun W X A => ?_) (fun _ _ => rfl)
      obtain ⟨v1, v2, v3, v4⟩ := A.vis h1
      exact (gE_callv A.g v1 v2 (k1 W X A).1 v3 v4 (star_cons hst.1) (star_any hst.2)).congr fun σ => by simp only [ev, A.P] <;> rfl
    · cases h
  | .mk k es dv => fun sc e h => by
    unfold chkE at h
    split at h
    · split at h
      · rename_i C hC
        split at h
        · rename_i f ns hf hn
          simp only [Bool.and_eq_true, decide_eq_true_eq] at h
          obtain ⟨h1, h2, h3, h4, h5⟩ := h
          have k1 := okA es sc _ h5
          obtain ⟨hl, hst⟩ := chkA_len es sc _ h5
          simp only [noStar, Bool.and_eq_true] at hst
          have hdv := intsD_map hn
          refine both (fun W X A => ?_) (fun _ _ => rfl)
          obtain ⟨g1, g2⟩ := A.gl h2
          exact (gE_mk A.g (by rw [A.P]; exact hC) (by rw [A.P]; exact hf) h1 h3 h4 (fun σ ds σ' z => by rw [evs_len es σ ds σ' z, hl]) g1 (k1 W X A).1 g2 (star_cons hst.1) (star_any hst.2)).congr fun σ => by simp only [ev, A.P, hdv] <;> rfl
        · cases h
      · cases h
    · cases h
  | .meth k a m es => fun sc e h => by
    unfold chkE at h
    split at h
    · rename_i o m' ap l pos
      split at h
      · rename_i C hC
        split at h
        · rename_i j hj
          split at h
          · rename_i f hf
            simp only [Bool.and_eq_true, decide_eq_true_eq] at h
            obtain ⟨rfl, h2, h3, h4, h5, h6, h7⟩ := h
            have k1 := (okE a sc _ h6).1
            have k2 := okA es sc _ h7
            obtain ⟨hl, hst⟩ := chkA_len es sc _ h7
            refine both (fun W X A => ?_) (fun _ _ => rfl)
            cases l with
            | nil =>
              cases es with
              | nil => exact (gE_meth0 A.g (by rw [A.P]; exact hC) hj (by rw [A.P]; exact hf) (by simpa using h5) (k1 W X A) h2 (star_form (es := []) rfl (by decide)) h3).congr fun σ => by simp only [ev, evs, A.P] <;> rfl
              | cons b bs => simp [lenE] at hl
            | cons y l =>
              have hst' := hst
              simp only [noStar, Bool.and_eq_true] at hst'
              exact (gE_meth A.g (by rw [A.P]; exact hC) hj (by rw [A.P]; exact hf) h5 (fun σ ds σ' z => by rw [evs_len es σ ds σ' z, hl]) (k1 W X A) (k2 W X A).1 h2 (star_form hst h4) h3 (star_cons hst'.1) (star_any hst'.2)).congr fun σ => by simp only [ev, A.P] <;> rfl
          · cases h
        · cases h
      · cases h
    · cases h
  | .bif b es => fun sc e h => by
    unfold chkE at h
    split at h
    · simp only [Bool.and_eq_true, decide_eq_true_eq] at h
      obtain ⟨rfl, h2, h3⟩ := h
      have k1 := okA es sc _ h3
      obtain ⟨hl, hst⟩ := chkA_len es sc _ h3
      simp only [noStar, Bool.and_eq_true] at hst
      refine both (fun W X A => ?_) (fun _ _ => rfl)
      obtain ⟨g1, g2⟩ := A.free h2
      exact (gE_bif A.g g1 g2 (k1 W X A).2 (star_cons hst.1) (star_any hst.2)).congr fun σ => by simp only [ev]
    · cases h
  | .trng1 l a => fun sc e h => by
    unfold chkE at h
    split at h
    · simp only [Bool.and_eq_true, decide_eq_true_eq] at h
      obtain ⟨h1, h2, rfl, h4, h5, h6⟩ := h
      have k1 := (okE a sc _ h6).1
      refine both (fun W X A => ?_) (fun _ _ => rfl)
      obtain ⟨g1, g2⟩ := A.free h2
      obtain ⟨g3, g4⟩ := A.free h4
      exact (gE_trng1 A.g.calm h1 g1 g2 g3 g4 (k1 W X A) (star_cons h5)).congr fun σ => by simp only [ev]
    · cases h
  | .trng2 l a b => fun sc e h => by
    unfold chkE at h
    split at h
    · simp only [Bool.and_eq_true, decide_eq_true_eq] at h
      obtain ⟨h1, h2, rfl, h4, h5, h6, h7⟩ := h
      have k1 := (okE a sc _ h6).1
      have k2 := (okE b sc _ h7).1
      simp only [noStar, Bool.and_eq_true] at h5
      refine both (fun W X A => ?_) (fun _ _ => rfl)
      obtain ⟨g1, g2⟩ := A.free h2
      obtain ⟨g3, g4⟩ := A.free h4
      exact (gE_trng2 A.g.calm h1 g1 g2 g3 g4 (k1 W X A) (k2 W X A) (star_cons h5.1) (star_cons h5.2.1) (star_any (by simp [noStar, h5.2.1]))).congr fun σ => by simp only [ev]
    · cases h
  | .isi a t => fun sc e h => by
    unfold chkE at h
    split at h
    · simp only [Bool.and_eq_true, decide_eq_true_eq] at h
      obtain ⟨rfl, h2, h3, h4, h5⟩ := h
      have k1 := (okE a sc _ h4).1
      refine both (fun W X A => ?_) (fun _ _ => rfl)
      obtain ⟨g1, g2⟩ := A.free h2
      obtain ⟨t1, t2⟩ := tyB_ok A h5
      exact (gE_isi A.g g1 g2 (k1 W X A) t1 (star_cons h3) (star_cons t2) (star_any (by simp [noStar, t2]))).congr fun σ => by simp only [ev]
    · cases h
  | .isi2 a t u => fun sc e h => by
    unfold chkE at h
    split at h
    · simp only [Bool.and_eq_true, decide_eq_true_eq] at h
      obtain ⟨rfl, h2, h3, h4, h5, h6⟩ := h
      have k1 := (okE a sc _ h4).1
      refine both (fun W X A => ?_) (fun _ _ => rfl)
      obtain ⟨g1, g2⟩ := A.free h2
      obtain ⟨t1, t2⟩ := tyB_ok A h5
      obtain ⟨t3, t4⟩ := tyB_ok A h6
      exact (gE_isi2 A.g g1 g2 (k1 W X A) t1 t3 (star_cons h3) (star_cons rfl) (star_any rfl) (star_cons t2) (star_cons t4)).congr fun σ => by simp only [ev]
    · cases h
  | .lc s t a => fun sc e h => by
    unfold chkE at h
    split at h
    · simp only [Bool.and_eq_true] at h
      obtain ⟨h1, h2, h3, h4⟩ := h
      obtain ⟨k1, k1'⟩ := okI s sc _ _ h1
      have k2 := (okE a _ _ h4).1
      refine both (fun W X A => ?_) (fun _ _ => rfl)
      obtain ⟨b1, b2⟩ := A.blkOk h2
      exact (gE_lcG A.g.calm A.g.nd (k1 W X A) b1 b2 (fun s H C cl fp => tgB_pg A.blk rfl h3) (fun s H C cl fp => gTs_nil) (fun s H C cl fp => k2 _ _ A.blk) (notSet_ok k1')).congr fun σ => by simp only [ev]
    · cases h
  | .lcf s t d a => fun sc e h => by
    unfold chkE at h
    split at h
    · simp only [Bool.and_eq_true] at h
      obtain ⟨h1, h2, h3, h4, h5, h6⟩ := h
      obtain ⟨k1, k1'⟩ := okI s sc _ _ h1
      have k2 := (okE d _ _ h4).2 h5
      have k3 := (okE a _ _ h6).1
      refine both (fun W X A => ?_) (fun _ _ => rfl)
      obtain ⟨b1, b2⟩ := A.blkOk h2
      exact (gE_lcG A.g.calm A.g.nd (k1 W X A) b1 b2 (fun s H C cl fp => tgB_pg A.blk rfl h3) (fun s H C cl fp => pts_one (k2 _ _ A.blk)) (fun s H C cl fp => k3 _ _ A.blk) (notSet_ok k1')).congr fun σ => by simp only [ev]
    · cases h
  | .lc2 s t s' t' a => fun sc e h => by
    unfold chkE at h
    split at h
    · simp only [Bool.and_eq_true] at h
      obtain ⟨h1, h2, h3, h4, h5, h6⟩ := h
      obtain ⟨k1, k1'⟩ := okI s sc _ _ h1
      obtain ⟨k2, k2'⟩ := okI s' _ _ _ h4
      have k3 := (okE a _ _ h6).1
      refine both (fun W X A => ?_) (fun _ _ => rfl)
      obtain ⟨b1, b2⟩ := A.blkOk h2
      exact (gE_lc2 A.g.calm A.g.nd (k1 W X A) b1 b2 (fun s H C cl fp => tgB_pg A.blk rfl h3) (fun s H C cl fp => k2 _ _ A.blk) (fun s H C cl fp => tgB_pg A.blk rfl h5) (fun s H C cl fp => k3 _ _ A.blk) (notSet_ok k1') (fun env x => notSet_ok k2' x)).congr fun σ => by simp only [ev]
    · cases h
theorem okA : ∀ (es : Exs), OkA c G cf lv es
  | .nil => fun sc l h W X A => by
    unfold chkA at h
    split at h
    · constructor
      · have z : (fun σ => evs c.P cf .nil σ) = fun σ => .ok ([], σ) := funext fun σ => by simp only [evs]
        rw [z]; exact gA_nil
      · have z : (fun σ => evp c.P cf .nil σ) = fun σ => .ok ([], σ) := funext fun σ => by simp only [evp]
        rw [z]; exact gP_nil
    · cases h
  | .cons a es => fun sc l h W X A => by
    unfold chkA at h
    split at h
    · simp only [Bool.and_eq_true] at h
      obtain ⟨h1, h2, h3⟩ := h
      have k1 := (okE a sc _ h2).1 W X A
      obtain ⟨k2, k3⟩ := okA es sc _ h3 W X A
      constructor
      · have z : (fun σ => evs c.P cf (.cons a es) σ) = fun σ => bnd (ev c.P cf a σ) fun v σ => bnd (esc v σ) fun d σ => bnd (evs c.P cf es σ) fun ds σ => .ok (d :: ds, σ) := funext fun σ => by simp only [evs]
        rw [z]; exact gA_cons k1 k2 (star_cons h1)
      · have z : (fun σ => evp c.P cf (.cons a es) σ) = fun σ => bnd (ev c.P cf a σ) fun v σ => bnd (evp c.P cf es σ) fun vs σ => .ok (hold v :: vs, σ) := funext fun σ => by simp only [evp]
        rw [z]; exact gP_cons k1 k3 (star_cons h1)
    · cases h
theorem okO : ∀ (o : Exo), OkO c G cf lv o
  | .none => fun sc x h W X A => by
    unfold chkO at h
    split at h
    · have z : (fun σ => evo c.P cf .none σ) = fun σ => .ok (none, σ) := funext fun σ => by simp only [evo]
      rw [z]; exact gO_none
    · cases h
  | .some a => fun sc x h W X A => by
    unfold chkO at h
    split at h
    · have k1 := (okE a sc _ h).1 W X A
      have z : (fun σ => evo c.P cf (.some a) σ) = fun σ => bnd (ev c.P cf a σ) fun v σ => toI v σ := funext fun σ => by simp only [evo]
      rw [z]; exact gO_some k1
    · cases h
theorem okI : ∀ (s : Src), OkI c G cf lv s
  | .seq a => fun sc tg e h => by
    unfold chkI at h
    simp only [Bool.and_eq_true] at h
    refine ⟨fun W X A => ?_, h.1⟩
    have k1 := (okE a sc _ h.2).1 W X A
    have z : (fun σ => src c.P cf (.seq a) σ) = fun σ => bnd (ev c.P cf a σ) fun v σ => bnd (pk (hold v) σ) fun x σ => match items x with
      | some ds => if wOk v σ = true then .ok ((ds, lks v σ), σ) else .stuck
      | none => .stuck := funext fun σ => by simp only [src] <;> rfl
    rw [z]; exact gI_seq A.g.kK k1
  | .rng es => fun sc tg e h => by
    unfold chkI at h
    split at h
    · simp only [Bool.and_eq_true, decide_eq_true_eq] at h
      obtain ⟨rfl, h2, h3, h4⟩ := h
      obtain ⟨hl, hst⟩ := chkA_len es sc _ h4
      refine ⟨fun W X A => ?_, rfl⟩
      obtain ⟨g1, g2⟩ := A.free h2
      have k1 := (okA es sc _ h4 W X A).1
      have z : (fun σ => src c.P cf (.rng es) σ) = fun σ => bnd (evs c.P cf es σ) fun ds σ => match rngA ds with
        | some xs => .ok ((xs, []), σ)
        | none => .stuck := funext fun σ => by simp only [src] <;> rfl
      rw [z]
      exact gI_rng (fun σ ds σ' z => by rw [evs_len es σ ds σ' z, hl]) g1 g2 k1 (fun a l ha => star_cons (noStar_mem.mp hst a ha)) (fun l hl => star_any (noStar_mem.mpr fun e he => noStar_mem.mp hst e (hl e he))) h3
    · cases h
  | .zip es => fun sc tg e h => by
    unfold chkI at h
    split at h
    · simp only [Bool.and_eq_true, decide_eq_true_eq] at h
      obtain ⟨h1, rfl, h2, h4⟩ := h
      obtain ⟨hl, hst⟩ := chkA_len es sc _ h4
      simp only [noStar, Bool.and_eq_true] at hst
      refine ⟨fun W X A => ?_, rfl⟩
      obtain ⟨g1, g2⟩ := A.free h2
      have k1 := (okA es sc _ h4 W X A).2
      have z : (fun σ => src c.P cf (.zip es) σ) = fun σ => bnd (evp c.P cf es σ) fun vs σ => bnd (pks vs σ) fun ds σ => match vs, ds with
        | [va, vb], [x, y] => (match items x, items y with
          | some xs, some ys => if wOk va σ = true ∧ wOk vb σ = true then .ok ((zipD xs ys, lks va σ ++ lks vb σ), σ) else .stuck
          | _, _ => .stuck)
        | _, _ => .stuck := funext fun σ => by simp only [src] <;> rfl
      rw [z]
      cases tg <;> first | exact gI_zip A.g.kK g1 g2 k1 (star_cons hst.1) (star_any (by simp [noStar, hst.2.1])) | cases h1
    · cases h
  | .enum es => fun sc tg e h => by
    unfold chkI at h
    split at h
    · simp only [Bool.and_eq_true, decide_eq_true_eq] at h
      obtain ⟨h1, rfl, h2, h4⟩ := h
      obtain ⟨hl, hst⟩ := chkA_len es sc _ h4
      simp only [noStar, Bool.and_eq_true] at hst
      refine ⟨fun W X A => ?_, rfl⟩
      obtain ⟨g1, g2⟩ := A.free h2
      have k1 := (okA es sc _ h4 W X A).2
      have z : (fun σ => src c.P cf (.enum es) σ) = fun σ => bnd (evp c.P cf es σ) fun vs σ => bnd (pks vs σ) fun ds σ => match vs, ds with
        | [va], [x] => (match items x with
          | some xs => if wOk va σ = true then .ok ((enumD 0 xs, lks va σ), σ) else .stuck
          | _ => .stuck)
        | _, _ => .stuck := funext fun σ => by simp only [src] <;> rfl
      rw [z]
      cases tg <;> first | exact gI_enum A.g.kK g1 g2 k1 (star_cons hst.1) | cases h1
    · cases h
end
end
end PV
set_option Elab.async false
set_option linter.all false
set_option maxRecDepth 100000
set_option maxHeartbeats 4000000
namespace PV
open PySem PySem.Spec PyProof.Rows L2
theorem blockF {env : PySem.Env} (hk : env.scope.kind = .function) : env.blockKind = .function := by
  unfold PySem.Env.blockKind; rw [hk]; rfl
theorem noStar_any {vs : List Expr} (h : noStar vs = true) : (vs.any fun | .Starred .. => true | _ => false) = false := by
  rw [List.any_eq_false]
  intro e he
  have := noStar_mem.mp h e he
  cases e <;> first | (simp; done) | cases this
theorem swN {ts vs : List Expr} {p1 p2 : Pos} {k1 k2 : Nat} {env : PySem.Env} {names : List Str} {line : Nat} (hk : env.scope.kind = .function) (hl : ts.length = 2 ∨ ts.length = 3) (hv : vs.length = ts.length) (hs : noStar vs = true) (hline : (ts.head?.map (·.pos.line)).getD 0 = line)
    (hn : (ts.filterMap fun
      | .Name id pos => if env.kindOf id == some .local && pos.line == line then some id else none
      | _ => none) = names) (hn1 : names.length = ts.length) (hn2 : names.eraseDups.length = names.length) (h1 : (vs.all (foldedForSure 8)) = false) (h2 : (vs.all (constantsAlone 8)) = false) : swappedStores [.Tuple ts k1 p1] (.Tuple vs k2 p2) env = pure (some names) := by
  unfold swappedStores
  dsimp only
  have e3 := noStar_any hs
  refine (if_neg ?_).trans ((if_neg ?_).trans ?_)
  · rw [blockF hk, hv]
    rcases hl with hl | hl <;> rw [hl] <;> decide
  · intro z
    exact Bool.noConfusion (e3.symm.trans z)
  · rw [hline]
    refine (if_neg ?_).trans ((if_neg ?_).trans ((if_neg ?_).trans ?_))
    · intro z
      have z : (names.length != ts.length || names.eraseDups.length != names.length) = true := by rw [← hn]; exact z
      rw [hn1, hn2, hn1] at z
      simp at z
    · rw [h1]; decide
    · rw [h2]; decide
    · rw [← hn]; rfl
def swT (sc : Scope) (line : Nat) (ts : List Expr) : List Str := ts.filterMap fun
      | .Name id pos => if decide (sc.names.lookup id = some .local) && pos.line == line then some id else none
      | _ => none
theorem swT_eq {env : PySem.Env} {sc : Scope} (h : env.scope = sc) {line : Nat} {ts : List Expr} : (ts.filterMap fun
      | .Name id pos => if env.kindOf id == some .local && pos.line == line then some id else none
      | _ => none) = swT sc line ts := by
  subst h
  unfold swT PySem.Env.kindOf
  congr 1
  funext e
  cases e <;> try rfl
  rename_i id pos
  have : (env.scope.names.lookup id == some NameKind.local) = decide (env.scope.names.lookup id = some .local) := by
    by_cases z : env.scope.names.lookup id = some .local
    · simp [z]
    · simp [z]
  simp only [this]

/-! ## statements are checked -/
def isLC : Ex → Bool
  | .lc .. => true
  | .lcf .. => true
  | .lc2 .. => true
  | _ => false
/-- name = [..] swaps -/
def swB (sc : Scope) (t : Str) (l : Nat) : Expr → Bool
  | .ListComp _ _ s pos => kindB sc t .local && (l == pos.line) && !(s.names.any fun (n, k) => n == t && (k == .local || k == .cell))
  | _ => false
def isComp : Expr → Bool
  | .ListComp .. => true
  | .SetComp .. => true
  | .DictComp .. => true
  | _ => false
theorem sw_not {e : Expr} {t : Option Expr} {l : Nat} {env : PySem.Env} (h : isComp e = false) : swapsWith e t l env = pure false := by
  cases e <;> first | rfl | cases h
theorem swB_eq {sc : Scope} {t : Str} {py : Pos} {e : Expr} {l : Nat} {env : PySem.Env} (hk : env.scope.kind = .function) (hs : env.scope = sc) (hc : isComp e = true → ∃ a b c d, e = .ListComp a b c d) : swapsWith e (some (.Name t py)) l env = pure (swB sc t py.line e) := by
  by_cases h : isComp e = true
  · obtain ⟨a, b, s, p, rfl⟩ := hc h
    have hb := blockF hk
    subst hs
    unfold swapsWith swB kindB
    simp only [hb, Expr.pos]
    have : (env.kindOf t == some NameKind.local) = decide (env.scope.names.lookup t = some .local) := by
      unfold PySem.Env.kindOf
      by_cases z : env.scope.names.lookup t = some .local
      · simp [z]
      · simp [z]
    rw [this]
    rfl
  · have h : isComp e = false := by simpa using h
    rw [sw_not h]
    cases e <;> first | rfl | cases h
theorem sw_sub {e o i : Expr} {p : Pos} {l : Nat} {env : PySem.Env} : swapsWith e (some (.Subscript o i p)) l env = pure false := by cases e <;> rfl
theorem sw_attr {e o : Expr} {f : Str} {p : Pos} {l : Nat} {env : PySem.Env} : swapsWith e (some (.Attribute o f p)) l env = pure false := by cases e <;> rfl
theorem sw_tup {e : Expr} {es : List Expr} {k : Nat} {p : Pos} {l : Nat} {env : PySem.Env} : swapsWith e (some (.Tuple es k p)) l env = pure false := by cases e <;> rfl
theorem sws_sub {e o i : Expr} {p : Pos} {env : PySem.Env} : swappedStores [.Subscript o i p] e env = pure none := by cases e <;> rfl
def notTup : Expr → Bool
  | .Tuple .. => false
  | _ => true
theorem sws_not {e : Expr} {es : List Expr} {k : Nat} {p : Pos} {env : PySem.Env} (h : notTup e = true) : swappedStores [.Tuple es k p] e env = pure none := by cases e <;> first | rfl | cases h
/-- no names are swapped -/
def swNoB (sc : Scope) (ts : List Expr) : Expr → Bool
  | .Tuple vs _ _ => !(ts.length == 2 || ts.length == 3) || (noStar vs && (swT sc ((ts.head?.map (·.pos.line)).getD 0) ts).length != ts.length)
  | _ => true
theorem swNo {ts : List Expr} {e : Expr} {k : Nat} {p : Pos} {env : PySem.Env} {sc : Scope} (hk : env.scope.kind = .function) (hs : env.scope = sc) (h : swNoB sc ts e = true) : swappedStores [.Tuple ts k p] e env = pure none := by
  by_cases hn : notTup e = true
  · exact sws_not hn
  · cases e <;> first | exact absurd rfl hn | skip
    rename_i vs k2 p2
    unfold swNoB at h
    simp only [Bool.or_eq_true, Bool.and_eq_true] at h
    unfold swappedStores
    dsimp only
    by_cases h1 : (!(ts.length == 2 || ts.length == 3) || vs.length != ts.length || env.blockKind != .function) = true
    · exact if_pos h1
    · refine (if_neg h1).trans ?_
      rcases h with h | ⟨h2, h3⟩
      · exfalso
        rw [h] at h1
        simp at h1
      · have e3 := noStar_any h2
        refine (if_neg (fun z => Bool.noConfusion (e3.symm.trans z))).trans ?_
        refine if_pos ?_
        have e4 := swT_eq hs (line := (ts.head?.map (·.pos.line)).getD 0) (ts := ts)
        have : ((swT sc ((ts.head?.map (·.pos.line)).getD 0) ts).length != ts.length || (swT sc ((ts.head?.map (·.pos.line)).getD 0) ts).eraseDups.length != (swT sc ((ts.head?.map (·.pos.line)).getD 0) ts).length) = true := by rw [h3]; rfl
        rw [← e4] at this
        exact this
/-- a constant, a tuple of constants -/
def chkK : Ex → Expr → Bool
  | .con d, e => match e with
    | .Constant k _ _ => conB d k
    | _ => false
  | .tup (.cons (.con d) (.cons (.con d') .nil)), e => match e with
    | .Tuple [.Constant k _ _, .Constant k' _ _] _ _ => conB d k && conB d' k'
    | _ => false
  | _, _ => false
mutual
def chkS (c : CC) : Sm → Scope → Stmt → Bool
  | .asg t a, sc, st => match t, st with
    | .v i, .Assign [.Name x px] e _ => nameB c sc (fun _ => true) i x && (chkE c a sc e && (!isComp e || isLC a))
    | .tp is, .Assign [.Tuple es _ _] e _ => namesB c sc (fun _ => true) is es && (chkE c a sc e && swNoB sc es e)
    | _, _ => false
  | .par2 i j a b, sc, st => match st with
    | .Assign [.Tuple [.Name x px, .Name y py] _ _] (.Tuple [e, e'] _ _) _ => decide (i ≠ j) && (decide (c.N[i]? = some x) && (decide (c.N[j]? = some y) && (decide (swT sc px.line [.Name x px, .Name y py] = [x, y]) && (decide ([x, y].eraseDups.length = 2) &&
        (!([e, e'].all (foldedForSure 8)) && (!([e, e'].all (constantsAlone 8)) && (noStar [e, e'] && (kindB sc x .local && (kindB sc y .local && (chkE c a sc e && chkE c b sc e'))))))))))
    | _ => false
  | .par is es, sc, st => match is, st with
    | [i, j, l], .Assign [.Tuple [.Name x px, .Name y py, .Name z pz] _ _] (.Tuple [e, e', e''] _ _) _ => decide (i ≠ j ∧ i ≠ l ∧ j ≠ l) && (decide (c.N[i]? = some x) && (decide (c.N[j]? = some y) && (decide (c.N[l]? = some z) && (decide (swT sc px.line [.Name x px, .Name y py, .Name z pz] = [x, y, z]) && (decide ([x, y, z].eraseDups.length = 3) &&
        (!([e, e', e''].all (foldedForSure 8)) && (!([e, e', e''].all (constantsAlone 8)) && (kindB sc x .local && (kindB sc y .local && (kindB sc z .local && chkA c es sc [e, e', e''])))))))))) 
    | _, _ => false
  | .setix i ix a, sc, st => match st with
    | .Assign [.Subscript (.Name y _) x _] e _ => slotB c sc i y && (plainIxB x && (chkE c ix sc x && chkE c a sc e))
    | _ => false
  | .setix2 .., _, _ => false
  | .setfld f a, sc, st => match st with
    | .Assign [.Attribute (.Name y _) f' _] e _ => decide (f = f') && (slotB c sc 0 y && chkE c a sc e)
    | _ => false
  | .app i a, sc, st => match st with
    | .Expr (.Call (.Attribute (.Name y _) m ap) [e] [] cp) _ => decide (("append" : Str) = m) && (slotB c sc i y && ((ap.endLine == cp.line) && (noStar1 e && chkE c a sc e)))
    | _ => false
  | .ins i k a, sc, st => match st with
    | .Expr (.Call (.Attribute (.Name y _) m ap) [x, e] [] cp) _ => decide (("insert" : Str) = m) && (slotB c sc i y && ((ap.endLine == cp.line) && (noStar [x, e] && (chkE c k sc x && chkE c a sc e))))
    | _ => false
  | .ext i a, sc, st => match st with
    | .Expr (.Call (.Attribute (.Name y _) m ap) [e] [] cp) _ => decide (("extend" : Str) = m) && (slotB c sc i y && ((ap.endLine == cp.line) && (noStar1 e && chkE c a sc e)))
    | _ => false
  | .rem .., _, _ => false
  | .ex a, sc, st => match st with
    | .Expr e _ => !isComp e && chkE c a sc e
    | _ => false
  | .ifs t a b, sc, st => match st with
    | .If x p q _ => chkE c t sc x && (tEx t && (chkSs c a sc p && chkSs c b sc q))
    | _ => false
  | .whl t b, sc, st => match st with
    | .While x p [] _ => chkE c t sc x && (tEx t && chkSs c b sc p)
    | _ => false
  | .for t s b, sc, st => match st with
    | .For tg x p [] _ => chkI c s sc tg x && (tgB c sc (fun _ => true) t tg && chkSs c b sc p)
    | _ => false
  | .ret a, sc, st => match st with
    | .Return (some e) _ => chkE c a sc e
    | _ => false
  | .retN, _, st => match st with
    | .Return none _ => true
    | _ => false
  | .raise k, sc, st => match st with
    | .Raise (some (.Call (.Name x _) [.Constant (.str _) _ _] [] _)) none _ => (match c.P.exs[k]? with
      | some E => decide (E.name = x) && (decide (E.fld = none) && glB sc x)
      | none => false)
    | _ => false
  | .raise1 k a, sc, st => match st with
    | .Raise (some (.Call (.Name x _) [z] [] _)) none _ => (match c.P.exs[k]? with
      | some E => decide (E.name = x) && (E.fld.isSome && (glB sc x && chkA c (.cons a .nil) sc [z]))
      | none => false)
    | _ => false
  | .tryS b hs, sc, st => match st with
    | .Try p (h :: hds) [] [] _ => chkSs c b sc p && chkH c hs sc (h :: hds)
    | _ => false
  | .pass, _, st => match st with
    | .Pass _ => true
    | .Expr (.Constant (.str _) _ _) _ => true
    | _ => false
def chkSs (c : CC) : Sms → Scope → List Stmt → Bool
  | .nil, _, l => match l with
    | [] => true
    | _ => false
  | .cons s r, sc, l => match l with
    | st :: l => chkS c s sc st && chkSs c r sc l
    | _ => false
def chkH (c : CC) : Hds → Scope → List ExceptHandler → Bool
  | .nil, _, l => match l with
    | [] => true
    | _ => false
  | .con k b r, sc, l => match l with
    | .ExceptHandler (some (.Name x _)) none [.Return (some e) _] _ :: l => (match c.P.exs[k]? with
      | some E => (match b with
        | .cons (.ret a) .nil => decide (E.name = x) && (glB sc x && (chkK a e && chkH c r sc l))
        | _ => false)
      | none => false)
    | _ => false
  | .fld k i s r, sc, l => match l with
    | .ExceptHandler (some (.Name x _)) (some n) [.Return (some (.Tuple [.Constant (.str s') _ _, .Attribute (.Name n' _) f _] _ _)) _] _ :: l => (match c.P.exs[k]? with
      | some E => decide (E.name = x) && (decide (n = n' ∧ s = s' ∧ E.fld = some f) && (glB sc x && (slotB c sc i n && (kindB sc n .local && chkH c r sc l))))
      | none => false)
    | _ => false
end
end PV
set_option Elab.async false
set_option linter.all false
set_option maxRecDepth 100000
set_option maxHeartbeats 4000000
namespace PV
open PySem PySem.Spec PyProof.Rows L2
structure AtS (c : CC) (G : Gb) (W : XK) (cf : CF) (lv : Nat) (sc : Scope) (X : Cx) : Prop extends At c G W cf lv sc X where
  po : PassesOwn (model X.prog X.w) X.A X.env X.xe
  stk : X.stack = X.env :: X.outer
  frm : X.env.frame = some X.env.locals
  fn : X.fn = fun _ => true
  kf : X.env.scope.kind = .function
end PV
namespace L2
open PySem PySem.Spec PyProof.Rows PV
theorem PS.congr {G : Gb} {W : XK} {X : Cx} {st : Stmt} {m m' : En → PV.R (Fl × En)} (h : PS X st (tS G W m)) (k : ∀ σ, m' σ = m σ) : PS X st (tS G W m') := by
  have z : m' = m := funext k
  rw [z]; exact h
theorem PSs.congr {G : Gb} {W : XK} {X : Cx} {st : List Stmt} {m m' : En → PV.R (Fl × En)} (h : PSs X st (tS G W m)) (k : ∀ σ, m' σ = m σ) : PSs X st (tS G W m') := by
  have z : m' = m := funext k
  rw [z]; exact h
end L2
namespace PV
open PySem PySem.Spec PyProof.Rows L2
section
variable {G : Gb} {W : XK} {X : Cx} {D : Ends}
theorem gS_par3 {i j l : Nat} {x y z : Str} {a b d : Expr} {ms : En → R (List PV.D × En)} {px py pz pt pos : Pos} {kt k2 pt2} (hc : X.calm = true) (hN : X.N.Nodup) (hi : X.N[i]? = some x) (hj : X.N[j]? = some y) (hl : X.N[l]? = some z) (hij : i ≠ j) (hil : i ≠ l) (hjl : j ≠ l)
    (hx : X.env.scope.names.lookup x = some .local) (hy : X.env.scope.names.lookup y = some .local) (hz : X.env.scope.names.lookup z = some .local) (ha : PA X [a, b, d] (tA G W ms))
    (hw : swappedStores [.Tuple [.Name x px, .Name y py, .Name z pz] kt pt] (.Tuple [a, b, d] k2 pt2) X.env = pure (some [x, y, z])) (hs : swapsWithSole [.Tuple [.Name x px, .Name y py, .Name z pz] kt pt] (.Tuple [a, b, d] k2 pt2) pos.line X.env = pure false) :
    PS X (.Assign [.Tuple [.Name x px, .Name y py, .Name z pz] kt pt] (.Tuple [a, b, d] k2 pt2) pos) (tS G W fun σ => bnd (ms σ) fun ds σ => nxR (setAll [i, j, l] ds σ)) := by
  refine PS.imp (ps_par3 hc hN hi hj hl hij hil hjl hx hy hz ha hw hs) fun D σ H ⟨F, e, S, h⟩ => ?_
  refine ⟨F, e, S, ?_⟩
  cases hm : ms e with
  | ok p =>
    obtain ⟨ds, e1⟩ := p
    simp only [hm, bnd_ok] at h
    intro vs F1 H1 st1 S1 r1
    cases hq : setAll [i, j, l] ds e1 with
    | ok e2 =>
      simp only [hq] at h
      obtain ⟨k1, k2⟩ := namesI (Q := fun σ' H' => D.nx σ' H') S1 r1 hq fun σ' S' st' _ _ => PostS.now h (st' _ st1) S'
      match vs, k2, k1 with
      | [u, v, w], _, k1 =>
        refine ⟨u, v, w, rfl, ?_⟩
        obtain ⟨u', r1', e1', k1⟩ := k1
        cases e1'
        obtain ⟨v', r2', e2', k1⟩ := k1
        cases e2'
        obtain ⟨w', r3', e3', k1⟩ := k1
        cases e3'
        exact k1.2
    | exc x => exact (setAll_noexc _ _ _ x hq).elim
    | stuck => simp only [hq] at h; exact h.elim
  | exc x => simp only [hm] at h; exact h
  | stuck => simp only [hm] at h; exact h
end
section
variable {c : CC} {G : Gb} {cf : CF} {lv w : Nat}
theorem okK {X : Cx} {W : XK} {a : Ex} {e : Expr} (h : chkK a e = true) : PE X e (tE G W fun σ => ev c.P cf a σ) ∧ noStar1 e = true := by
  unfold chkK at h
  split at h
  · split at h
    · obtain ⟨v, h1, h2⟩ := conB_ok (G := G) (X := X) h
      exact ⟨(gE_con h1 h2).congr fun σ => by simp only [ev], rfl⟩
    · cases h
  · split at h
    · simp only [Bool.and_eq_true] at h
      obtain ⟨v, h1, h2⟩ := conB_ok (G := G) (X := X) h.1
      obtain ⟨v', h3, h4⟩ := conB_ok (G := G) (X := X) h.2
      refine ⟨(gE_tup (gA_cons (gE_con h1 h2) (gA_cons (gE_con h3 h4) gA_nil rfl) rfl) (fun σ ds σ' z => ?_)).congr fun σ => by simp only [ev, evs], rfl⟩
      cases z
      show 2 ≤ 16000000
      decide
    · cases h
  · cases h
theorem okLc {ex : Ex} {sc : Scope} {e : Expr} (hl : isLC ex = true) (h : chkE c ex sc e = true) : (∃ a b s p, e = .ListComp a b s p) ∧ ∀ (W : XK) (X : Cx), At c G W cf lv sc X → ∀ {i : Nat} {y : Str} {py spos : Pos}, X.N[i]? = some y → X.env.scope.names.lookup y = some .local → swapsWith e (some (.Name y py)) spos.line X.env = pure true →
    PS X (.Assign [.Name y py] e spos) (tAsg (tE G W fun σ => ev c.P cf ex σ) (gName i)) := by
  cases ex <;> first | cases hl | skip
  · rename_i s t a
    unfold chkE at h
    split at h
    · simp only [Bool.and_eq_true] at h
      obtain ⟨h1, h2, h3, h4⟩ := h
      obtain ⟨k1, k1'⟩ := okI (G := G) (cf := cf) (lv := lv) s sc _ _ h1
      have k2 := (okE (G := G) (cf := cf) (lv := lv) a _ _ h4).1
      refine ⟨⟨_, _, _, _, rfl⟩, fun W X A i y py spos hi hy hsw => ?_⟩
      obtain ⟨b1, b2⟩ := A.blkOk h2
      have z : (fun σ => ev c.P cf (.lc s t a) σ) = lcM (fun σ => src c.P cf s σ) t.slots (lcF t.slots t (fun σ => .ok (true, σ)) fun σ => ev c.P cf a σ) := funext fun σ => by simp only [ev]
      rw [z]
      exact gS_setLc A.g.calm A.g.nd hi hy hsw (k1 W X A) b1 b2 (fun s H C cl fp => tgB_pg A.blk rfl h3) (fun s H C cl fp => gTs_nil) (fun s H C cl fp => k2 _ _ A.blk) (notSet_ok k1')
    · cases h
  · rename_i s t d a
    unfold chkE at h
    split at h
    · simp only [Bool.and_eq_true] at h
      obtain ⟨h1, h2, h3, h4, h5, h6⟩ := h
      obtain ⟨k1, k1'⟩ := okI (G := G) (cf := cf) (lv := lv) s sc _ _ h1
      have k2 := (okE (G := G) (cf := cf) (lv := lv) d _ _ h4).2 h5
      have k3 := (okE (G := G) (cf := cf) (lv := lv) a _ _ h6).1
      refine ⟨⟨_, _, _, _, rfl⟩, fun W X A i y py spos hi hy hsw => ?_⟩
      obtain ⟨b1, b2⟩ := A.blkOk h2
      have z : (fun σ => ev c.P cf (.lcf s t d a) σ) = lcM (fun σ => src c.P cf s σ) t.slots (lcF t.slots t (fun σ => bnd (ev c.P cf d σ) fun v σ => toB v σ) fun σ => ev c.P cf a σ) := funext fun σ => by simp only [ev]
      rw [z]
      exact gS_setLc A.g.calm A.g.nd hi hy hsw (k1 W X A) b1 b2 (fun s H C cl fp => tgB_pg A.blk rfl h3) (fun s H C cl fp => pts_one (k2 _ _ A.blk)) (fun s H C cl fp => k3 _ _ A.blk) (notSet_ok k1')
    · cases h
  · rename_i s t s' t' a
    unfold chkE at h
    split at h
    · simp only [Bool.and_eq_true] at h
      obtain ⟨h1, h2, h3, h4, h5, h6⟩ := h
      obtain ⟨k1, k1'⟩ := okI (G := G) (cf := cf) (lv := lv) s sc _ _ h1
      obtain ⟨k2, k2'⟩ := okI (G := G) (cf := cf) (lv := lv) s' _ _ _ h4
      have k3 := (okE (G := G) (cf := cf) (lv := lv) a _ _ h6).1
      refine ⟨⟨_, _, _, _, rfl⟩, fun W X A i y py spos hi hy hsw => ?_⟩
      obtain ⟨b1, b2⟩ := A.blkOk h2
      have z : (fun σ => ev c.P cf (.lc2 s t s' t' a) σ) = lcM (fun σ => src c.P cf s σ) [t, t'] (lc2F [t, t'] t t' (fun σ => src c.P cf s' σ) fun σ => ev c.P cf a σ) := funext fun σ => by simp only [ev]
      rw [z]
      have p := ps_setLc2 (py := py) (spos := spos) (vs1 := [t']) A.g.calm A.g.nd hi hy hsw (k1 W X A) b1 (by rw [b2]; simp) (fun s H C cl fp => tgB_pg (G := G) (cf := cf) (lv := lv) A.blk rfl h3) (fun _ _ _ _ _ => pts_nil) (fun s H C cl fp => k2 _ _ A.blk) (fun s H C cl fp => tgB_pg (G := G) (cf := cf) (lv := lv) A.blk rfl h5) (fun _ _ _ _ _ => pts_nil) (fun s H C cl fp => k3 _ _ A.blk) (notSet_ok k1') (fun env x => notSet_ok k2' x)
      rw [b2] at p
      exact ⟨fun pins s σ H D I h => p.run pins s σ H D I (lc2I h)⟩
    · cases h
theorem sole_sub {e o i : Expr} {p : Pos} {l : Nat} {env : PySem.Env} : swapsWithSole [.Subscript o i p] e l env = pure false := by cases e <;> rfl
theorem sole_tup {e : Expr} {es : List Expr} {k : Nat} {p : Pos} {l : Nat} {env : PySem.Env} : swapsWithSole [.Tuple es k p] e l env = pure false := by cases e <;> rfl
def OkS (c : CC) (G : Gb) (cf : CF) (lv w : Nat) (s : Sm) : Prop := ∀ (sc : Scope) (st : Stmt), chkS c s sc st = true → ∀ (W : XK) (X : Cx), AtS c G W cf lv sc X → PS X st (tS G W fun σ => exS c.P cf w s σ)
def OkSs (c : CC) (G : Gb) (cf : CF) (lv w : Nat) (s : Sms) : Prop := ∀ (sc : Scope) (l : List Stmt), chkSs c s sc l = true → ∀ (W : XK) (X : Cx), AtS c G W cf lv sc X → PSs X l (tS G W fun σ => exSs c.P cf w s σ)
def OkH (c : CC) (G : Gb) (cf : CF) (lv w : Nat) (s : Hds) : Prop := ∀ (sc : Scope) (l : List ExceptHandler), chkH c s sc l = true → ∀ (W : XK) (X : Cx), AtS c G W cf lv sc X → HdsG G c.P cf w X l s
theorem AtS.kx {c : CC} {sc : Scope} {W : XK} {X : Cx} (A : AtS c G W cf lv sc X) : X.env.scope.kind = .function := A.kf
theorem AtS.lk {c : CC} {sc : Scope} {W : XK} {X : Cx} (A : AtS c G W cf lv sc X) {x : Str} {k : NameKind} (h : kindB sc x k = true) : X.env.scope.names.lookup x = some k := by rw [A.sc]; exact of_decide_eq_true h
mutual
theorem okS : ∀ (s : Sm), OkS c G cf lv w s
  | .asg t a => fun sc st h W X A => by
    unfold chkS at h
    split at h
    · rename_i t i x px e pos
      simp only [Bool.and_eq_true, Bool.or_eq_true, Bool.not_eq_true'] at h
      obtain ⟨h1, h2, h3⟩ := h
      have k1 := (okE (G := G) (cf := cf) (lv := lv) a sc _ h2).1 W X A.toAt
      unfold nameB locB kindB at h1
      simp only [Bool.and_eq_true, Bool.or_eq_true, decide_eq_true_eq] at h1
      have hi : X.N[i]? = some x := by rw [A.N]; exact h1.1
      have hx : Loc X.env.scope x := by rw [A.sc]; exact h1.2.1
      have hsw : swapsWith e (some (.Name x px)) pos.line X.env = pure (swB sc x px.line e) := by
        refine swB_eq A.kx A.sc fun hc => ?_
        rcases h3 with h3 | h3
        · rw [h3] at hc; cases hc
        · exact (okLc (G := G) (cf := cf) (lv := lv) h3 h2).1
      have fin : PS X (.Assign [.Name x px] e pos) (tS G W fun σ => bnd (ev c.P cf a σ) fun v σ => bnd (alias_ v σ) fun v σ => nxR (setv i v σ)) := by
        cases hq : swB sc x px.line e with
        | false => exact gS_set A.g.nd hi hx k1 (by rw [hsw, hq]) (.inl (by rw [A.fn]))
        | true =>
          have hc : isComp e = true := by
            cases e <;> first | rfl | cases hq
          rcases h3 with h3 | h3
          · rw [h3] at hc; cases hc
          · have hy : X.env.scope.names.lookup x = some .local := by
              unfold swB at hq
              split at hq
              · simp only [Bool.and_eq_true] at hq
                exact A.lk hq.1.1
              · cases hq
            exact gS_setLc' ((okLc (G := G) (cf := cf) (lv := lv) h3 h2).2 W X A.toAt hi hy (by rw [hsw, hq]))
      exact fin.congr fun σ => by simp only [exS]
    · rename_i t is es k1 p1 e pos
      simp only [Bool.and_eq_true] at h
      obtain ⟨h1, h2, h3⟩ := h
      have q1 := (okE (G := G) (cf := cf) (lv := lv) a sc _ h2).1 W X A.toAt
      have hg : PG X (.Tuple es k1 p1) (gTg G.K (.tp is)) := tgB_pg (c := c) (cf := cf) (lv := lv) (sc := sc) (W := W) (fn := fun _ => true) A.toAt A.fn (t := .tp is) (e := .Tuple es k1 p1) h1
      exact (gS_setT (pos := pos) q1 hg (sw_tup (e := e) (es := es) (k := k1) (p := p1) (l := pos.line) (env := X.env)) (swNo A.kf A.sc h3) rfl).congr fun σ => by simp only [exS]
    · cases h
  | .par2 i j a b => fun sc st h W X A => by
    unfold chkS at h
    split at h
    · rename_i x px y py k1 p1 e e' k2 p2 pos
      simp only [Bool.and_eq_true, decide_eq_true_eq, Bool.not_eq_true'] at h
      obtain ⟨h1, h2, h3, h4, h5, h6, h7, h8, h9, h10, h11, h12⟩ := h
      have q1 := (okE (G := G) (cf := cf) (lv := lv) a sc _ h11).1 W X A.toAt
      have q2 := (okE (G := G) (cf := cf) (lv := lv) b sc _ h12).1 W X A.toAt
      have hst := h8
      simp only [noStar, Bool.and_eq_true] at hst
      have hw : swappedStores [.Tuple [.Name x px, .Name y py] k1 p1] (.Tuple [e, e'] k2 p2) X.env = pure (some [x, y]) :=
        swN A.kx (.inl rfl) rfl h8 rfl ((swT_eq A.sc).trans h4) rfl h5 h6 h7
      exact (gS_par2 A.g.calm A.g.nd (by rw [A.N]; exact h2) (by rw [A.N]; exact h3) h1 (A.lk h9) (A.lk h10) q1 q2 (star_cons hst.1) (star_cons hst.2.1) hw rfl).congr fun σ => by simp only [exS]
    · cases h
  | .par is es => fun sc st h W X A => by
    unfold chkS at h
    split at h
    · rename_i is i j l x px y py z pz k1 p1 e e' e'' k2 p2 pos
      simp only [Bool.and_eq_true, decide_eq_true_eq, Bool.not_eq_true'] at h
      obtain ⟨⟨h1, h1', h1''⟩, h2, h3, h3', h4, h5, h6, h7, h9, h10, h11, h12⟩ := h
      have q1 := (okA (G := G) (cf := cf) (lv := lv) es sc _ h12 W X A.toAt).1
      obtain ⟨hl, hst⟩ := chkA_len es sc _ h12
      have hw : swappedStores [.Tuple [.Name x px, .Name y py, .Name z pz] k1 p1] (.Tuple [e, e', e''] k2 p2) X.env = pure (some [x, y, z]) :=
        swN A.kx (.inr rfl) rfl hst rfl ((swT_eq A.sc).trans h4) rfl h5 h6 h7
      exact (gS_par3 A.g.calm A.g.nd (by rw [A.N]; exact h2) (by rw [A.N]; exact h3) (by rw [A.N]; exact h3') h1 h1' h1'' (A.lk h9) (A.lk h10) (A.lk h11) q1 hw rfl).congr fun σ => by simp only [exS]
    · cases h
  | .setix i ix a => fun sc st h W X A => by
    unfold chkS at h
    split at h
    · rename_i y py x ps e pos
      simp only [Bool.and_eq_true] at h
      obtain ⟨h1, h2, h3, h4⟩ := h
      have q1 := (okE (G := G) (cf := cf) (lv := lv) ix sc _ h3).1 W X A.toAt
      have q2 := (okE (G := G) (cf := cf) (lv := lv) a sc _ h4).1 W X A.toAt
      obtain ⟨v1, v2, v3, v4⟩ := A.toAt.vis h1
      exact (gS_setix v1 v2 v3 v4 q2 q1 (fun v => by cases x <;> first | rfl | cases h2) sole_sub sws_sub rfl).congr fun σ => by simp only [exS]
    · cases h
  | .setix2 .. => fun sc st h W X A => by
    unfold chkS at h
    cases h
  | .setfld f a => fun sc st h W X A => by
    unfold chkS at h
    split at h
    · simp only [Bool.and_eq_true, decide_eq_true_eq] at h
      obtain ⟨rfl, h2, h3⟩ := h
      have q1 := (okE (G := G) (cf := cf) (lv := lv) a sc _ h3).1 W X A.toAt
      obtain ⟨v1, v2, v3, v4⟩ := A.toAt.vis h2
      exact (gS_setfld A.g v1 v2 v3 v4 q1 sw_attr).congr fun σ => by simp only [exS, A.P] <;> rfl
    · cases h
  | .app i a => fun sc st h W X A => by
    unfold chkS at h
    split at h
    · simp only [Bool.and_eq_true, decide_eq_true_eq] at h
      obtain ⟨rfl, h2, h3, h4, h5⟩ := h
      have q1 := (okE (G := G) (cf := cf) (lv := lv) a sc _ h5).1 W X A.toAt
      obtain ⟨v1, v2, v3, v4⟩ := A.toAt.vis h2
      exact (gS_app v1 v2 v3 v4 q1 (star_few (by simp [noStar, h4]) (by simp)) h3 (star_cons h4) rfl).congr fun σ => by simp only [exS]
    · cases h
  | .ins i k a => fun sc st h W X A => by
    unfold chkS at h
    split at h
    · simp only [Bool.and_eq_true, decide_eq_true_eq] at h
      obtain ⟨rfl, h2, h3, h4, h5, h6⟩ := h
      have q1 := (okE (G := G) (cf := cf) (lv := lv) k sc _ h5).1 W X A.toAt
      have q2 := (okE (G := G) (cf := cf) (lv := lv) a sc _ h6).1 W X A.toAt
      obtain ⟨v1, v2, v3, v4⟩ := A.toAt.vis h2
      have hst := h4
      simp only [noStar, Bool.and_eq_true] at hst
      exact (gS_ins v1 v2 v3 v4 q1 q2 (star_few h4 (by simp)) h3 (star_cons hst.1) (star_cons hst.2.1) (star_any (by simp [noStar, hst.2.1])) rfl).congr fun σ => by simp only [exS]
    · cases h
  | .ext i a => fun sc st h W X A => by
    unfold chkS at h
    split at h
    · simp only [Bool.and_eq_true, decide_eq_true_eq] at h
      obtain ⟨rfl, h2, h3, h4, h5⟩ := h
      have q1 := (okE (G := G) (cf := cf) (lv := lv) a sc _ h5).1 W X A.toAt
      obtain ⟨v1, v2, v3, v4⟩ := A.toAt.vis h2
      exact (gS_ext v1 v2 v3 v4 q1 (star_few (by simp [noStar, h4]) (by simp)) h3 (star_cons h4) rfl).congr fun σ => by simp only [exS] <;> rfl
    · cases h
  | .rem .. => fun sc st h W X A => by
    unfold chkS at h
    cases h
  | .ex a => fun sc st h W X A => by
    unfold chkS at h
    split at h
    · simp only [Bool.and_eq_true, Bool.not_eq_true'] at h
      have q1 := (okE (G := G) (cf := cf) (lv := lv) a sc _ h.2).1 W X A.toAt
      exact (gS_expr q1 (sw_not h.1)).congr fun σ => by simp only [exS]
    · cases h
  | .ifs t a b => fun sc st h W X A => by
    unfold chkS at h
    split at h
    · simp only [Bool.and_eq_true] at h
      obtain ⟨h1, h2, h3, h4⟩ := h
      have q1 := (okE (G := G) (cf := cf) (lv := lv) t sc _ h1).2 h2 W X A.toAt
      have q2 := okSs a sc _ h3 W X A
      have q3 := okSs b sc _ h4 W X A
      exact (gS_if q1 q2 q3).congr fun σ => by simp only [exS] <;> rfl
    · cases h
  | .whl t b => fun sc st h W X A => by
    unfold chkS at h
    split at h
    · simp only [Bool.and_eq_true] at h
      obtain ⟨h1, h2, h3⟩ := h
      have q1 := (okE (G := G) (cf := cf) (lv := lv) t sc _ h1).2 h2 W X A.toAt
      have q2 := okSs b sc _ h3 W X A
      exact (gS_whl (w := w) A.po q1 q2).congr fun σ => by simp only [exS]
    · cases h
  | .for t s b => fun sc st h W X A => by
    unfold chkS at h
    split at h
    · simp only [Bool.and_eq_true] at h
      obtain ⟨h1, h2, h3⟩ := h
      obtain ⟨q1, q1'⟩ := okI (G := G) (cf := cf) (lv := lv) s sc _ _ h1
      have q2 := okSs b sc _ h3 W X A
      have hg := tgB_pg (cf := cf) (lv := lv) A.toAt A.fn h2
      exact (gS_for A.po A.g.calm (q1 W X A.toAt) hg q2 (notSet_ok q1')).congr fun σ => by simp only [exS]
    · cases h
  | .ret a => fun sc st h W X A => by
    unfold chkS at h
    split at h
    · have q1 := (okE (G := G) (cf := cf) (lv := lv) a sc _ h).1 W X A.toAt
      exact (gS_ret q1).congr fun σ => by simp only [exS] <;> rfl
    · cases h
  | .retN => fun sc st h W X A => by
    unfold chkS at h
    split at h
    · exact gS_retN.congr fun σ => by simp only [exS]
    · cases h
  | .raise k => fun sc st h W X A => by
    unfold chkS at h
    split at h
    · split at h
      · rename_i E hE
        simp only [Bool.and_eq_true, decide_eq_true_eq] at h
        obtain ⟨h1, h2, h3⟩ := h
        obtain ⟨g1, g2⟩ := A.toAt.gl h3
        exact (gS_raise A.g (by rw [A.P]; exact hE) h1 h2 g1 g2).congr fun σ => by simp only [exS]
      · cases h
    · cases h
  | .raise1 k a => fun sc st h W X A => by
    unfold chkS at h
    split at h
    · split at h
      · rename_i E hE
        simp only [Bool.and_eq_true, decide_eq_true_eq] at h
        obtain ⟨h1, h2, h3, h4⟩ := h
        obtain ⟨g1, g2⟩ := A.toAt.gl h3
        obtain ⟨f, hf⟩ := Option.isSome_iff_exists.mp h2
        have q1 := (okA (G := G) (cf := cf) (lv := lv) (.cons a .nil) sc _ h4) W X A.toAt
        have hn := (chkA_len _ sc _ h4).2
        simp only [noStar, Bool.and_eq_true] at hn
        have hst := star_cons (env := X.env) (es := []) hn.1
        exact (gS_raise1 A.g (by rw [A.P]; exact hE) h1 hf g1 g2 q1.1 (fun σ ds σ' z => by rw [evs_len _ σ ds σ' z]; rfl) hst rfl).congr fun σ => by simp only [exS] <;> rfl
      · cases h
    · cases h
  | .tryS b hs => fun sc st h W X A => by
    unfold chkS at h
    split at h
    · simp only [Bool.and_eq_true] at h
      have q2 := okH hs sc _ h.2 W X A
      refine (gS_try A.g A.stk A.frm (fun W' pn xe tk po => okSs b sc _ h.1 W' (X.tr pn xe) ⟨⟨⟨A.g.kK, A.g.calm, A.g.nd, A.g.room, tk, A.g.fa⟩, A.P, A.N, A.sc, A.fre, A.own⟩, po, A.stk, A.frm, A.fn, A.kf⟩) q2).congr fun σ => by simp only [exS] <;> rfl
    · cases h
  | .pass => fun sc st h W X A => by
    unfold chkS at h
    split at h
    · exact gS_pass.congr fun σ => by simp only [exS]
    · exact gS_doc.congr fun σ => by simp only [exS]
    · cases h
theorem okSs : ∀ (s : Sms), OkSs c G cf lv w s
  | .nil => fun sc l h W X A => by
    unfold chkSs at h
    split at h
    · exact gSs_nil.congr fun σ => by simp only [exSs]
    · cases h
  | .cons s r => fun sc l h W X A => by
    unfold chkSs at h
    split at h
    · simp only [Bool.and_eq_true] at h
      exact (gSs_cons (okS s sc _ h.1 W X A) (okSs r sc _ h.2 W X A)).congr fun σ => by simp only [exSs] <;> rfl
    · cases h
theorem okH : ∀ (s : Hds), OkH c G cf lv w s
  | .nil => fun sc l h W X A => by
    unfold chkH at h
    split at h
    · exact .nil
    · cases h
  | .con k b r => fun sc l h W X A => by
    unfold chkH at h
    split at h
    · split at h
      · rename_i E hE
        split at h
        · simp only [Bool.and_eq_true, decide_eq_true_eq] at h
          obtain ⟨h1, h2, h3, h4⟩ := h
          obtain ⟨g1, g2⟩ := A.toAt.gl h2
          refine .con (by rw [A.P]; exact hE) h1 g1 g2 (fun a oe pn => ?_) (okH r sc _ h4 W X A)
          exact (gSs_cons (gS_ret (okK (c := c) (cf := cf) h3).1) gSs_nil).congr fun σ => by simp only [exSs, exS] <;> rfl
        · cases h
      · cases h
    · cases h
  | .fld k i s r => fun sc l h W X A => by
    unfold chkH at h
    split at h
    · split at h
      · rename_i E hE
        simp only [Bool.and_eq_true, decide_eq_true_eq] at h
        obtain ⟨h1, ⟨rfl, rfl, h2⟩, h3, h4, h5, h6⟩ := h
        obtain ⟨g1, g2⟩ := A.toAt.gl h3
        obtain ⟨v1, v2, v3, v4⟩ := A.toAt.vis h4
        exact .fld (by rw [A.P]; exact hE) h1 h2 g1 g2 v1 (A.lk h5) v2 v3 v4 (star_cons rfl) (star_cons rfl) (okH r sc _ h6 W X A)
      · cases h
    · cases h
end
end
end PV
set_option Elab.async false
set_option linter.all false
set_option maxRecDepth 100000
set_option maxHeartbeats 4000000
namespace PV
open PySem PySem.Spec PyProof.Rows L2
/-! ## functions -/
section
variable {G : Gb} {W : XK} {F H : Hp} {D : Ends}
theorem pad_get {cs : List Cell} {m i : Nat} {x : Cell} (h : (cs ++ List.replicate m Cell.un)[i]? = some x) : cs[i]? = some x ∨ x = .un := by
  by_cases hi : i < cs.length
  · rw [List.getElem?_append_left hi] at h; exact .inl h
  · rw [List.getElem?_append_right (by omega)] at h
    rw [List.getElem?_replicate] at h
    split at h
    · cases h; exact .inr rfl
    · cases h
theorem simPad {cs : List Cell} {vs : List V} {m : Nat} (hl : cs.length = vs.length) (sub : Same F H) (h : ∀ (i : Nat) (x : Cell), cs[i]? = some x → ∃ v, vs[i]? = some v ∧ CellOk G F H (some (some v)) x) (ho : ∀ (i : Nat) (x : Cell), cs[i]? = some x → x.own = true → i = 0) :
    Sim G ⟨F, vs.map some ++ List.replicate m none, H, cs ++ List.replicate m .un⟩ where
  len := by simp [hl]
  sub := sub
  cell := fun i x hx => by
    have hx : (cs ++ List.replicate m Cell.un)[i]? = some x := hx
    rcases pad_get hx with hx' | rfl
    · obtain ⟨v, h1, h2⟩ := h i x hx'
      have hi : i < vs.length := (List.getElem?_eq_some_iff.mp h1).1
      show CellOk G F H (vs.map some ++ List.replicate m none)[i]? x
      rw [List.getElem?_append_left (by simpa using hi), List.getElem?_map, h1]
      exact h2
    · trivial
  inj := fun i j x y a hx hy ox oy _ _ => by
    rcases pad_get hx with hx' | rfl
    · rcases pad_get hy with hy' | rfl
      · rw [ho i x hx' ox, ho j y hy' oy]
      · cases oy
    · cases ox
theorem shCells {args : List PV.D} {vs : List V} (r : Reps G F args vs) : ∀ (i : Nat) (x : Cell), (args.map Cell.sh)[i]? = some x → ∃ v, vs[i]? = some v ∧ CellOk G F H (some (some v)) x := fun i x hx => by
  rw [List.getElem?_map, Option.map_eq_some_iff] at hx
  obtain ⟨d, hd, rfl⟩ := hx
  obtain ⟨v, h1, h2⟩ := r.get hd
  exact ⟨v, h1, v, rfl, h2⟩
theorem shCells_own {args : List PV.D} (i : Nat) (x : Cell) (hx : (args.map Cell.sh)[i]? = some x) (ho : x.own = true) : False := by
  rw [List.getElem?_map, Option.map_eq_some_iff] at hx
  obtain ⟨d, _, rfl⟩ := hx
  cases ho
/-- the first cell of a call with a list, or a new instance -/
def faC : FArg → List Cell
  | .no => []
  | .io ds => [.io ds]
  | .bld c => [.bld c []]
theorem st0_eq (fa : FArg) (N : Nat) (args : List PV.D) : st0 fa N args = (faC fa ++ args.map .sh) ++ List.replicate (N - nArgs fa args) .un := by
  cases fa <;> simp [st0, faC, nArgs]
/-- a call's entry -/
theorem simStart {fa : FArg} {vs : List V} {args : List PV.D} {N : List Str} (sub : Same F H) (h : FaPre G fa vs F H args) (hn : nArgs fa args = vs.length) : Sim G ⟨F, start N vs, H, st0 fa N.length args⟩ ∧ (∀ b, Cf.W ⟨F, start N vs, H, st0 fa N.length args⟩ b → faW fa vs b) ∧
    (∀ b, faW fa vs b → F b = none ∧ H b ≠ none) ∧ ∀ (x : Cell), (st0 fa N.length args)[(0 : Nat)]? = some x → x.own = true → ∃ a r, vs = .ref a :: r ∧ (start N vs)[(0 : Nat)]? = some (some (.ref a)) := by
  rw [st0_eq, hn]
  have key : ∀ (i : Nat) (x : Cell), (faC fa ++ args.map .sh)[i]? = some x → (∃ v, vs[i]? = some v ∧ CellOk G F H (some (some v)) x) ∧ (x.own = true → i = 0) := fun i x hx => by
    cases fa with
    | no => exact ⟨shCells h i x (by simpa [faC] using hx), fun ho => (shCells_own i x (by simpa [faC] using hx) ho).elim⟩
    | io ds =>
      obtain ⟨a, r, rfl, h1, h2⟩ := h
      cases i with
      | zero => simp [faC] at hx; subst hx; exact ⟨⟨_, rfl, a, rfl, h1⟩, fun _ => rfl⟩
      | succ i =>
        have hx : (args.map Cell.sh)[i]? = some x := by simpa [faC] using hx
        exact ⟨by simpa using shCells h2 i x hx, fun ho => (shCells_own i x hx ho).elim⟩
    | bld c =>
      obtain ⟨a, r, rfl, h1, h2⟩ := h
      cases i with
      | zero => simp [faC] at hx; subst hx; exact ⟨⟨_, rfl, a, rfl, h1⟩, fun _ => rfl⟩
      | succ i =>
        have hx : (args.map Cell.sh)[i]? = some x := by simpa [faC] using hx
        exact ⟨by simpa using shCells h2 i x hx, fun ho => (shCells_own i x hx ho).elim⟩
  have hl : (faC fa ++ args.map Cell.sh).length = vs.length := by
    rw [← hn]
    cases fa <;> simp [faC, nArgs]
  have S : Sim G ⟨F, start N vs, H, (faC fa ++ args.map .sh) ++ List.replicate (N.length - vs.length) .un⟩ := simPad hl sub (fun i x hx => (key i x hx).1) fun i x hx => (key i x hx).2
  have s0 : ∀ a r, vs = .ref a :: r → (start N vs)[(0 : Nat)]? = some (some (.ref a)) := fun a r e => by subst e; rfl
  have nofa : ∀ x : Cell, fa = .no → ((faC fa ++ args.map .sh) ++ List.replicate (N.length - vs.length) Cell.un)[(0 : Nat)]? = some x → x.own = true → False := fun x e hx ho => by
    subst e
    rcases pad_get hx with hx | rfl
    · exact shCells_own 0 x (by simpa [faC] using hx) ho
    · cases ho
  have ex : ∀ x : Cell, ((faC fa ++ args.map .sh) ++ List.replicate (N.length - vs.length) Cell.un)[(0 : Nat)]? = some x → x.own = true → ∃ a r, vs = .ref a :: r := fun x hx ho => by
    cases fa with
    | no => exact (nofa x rfl hx ho).elim
    | io ds => obtain ⟨a, r, e, _⟩ := h; exact ⟨a, r, e⟩
    | bld c => obtain ⟨a, r, e, _⟩ := h; exact ⟨a, r, e⟩
  refine ⟨S, fun b hb => ?_, fun b hb => ?_, fun x hx ho => ?_⟩
  · obtain ⟨i, x, h1, h2, h3⟩ := hb
    have h1 : ((faC fa ++ args.map .sh) ++ List.replicate (N.length - vs.length) Cell.un)[i]? = some x := h1
    have hi : i = 0 := by
      rcases pad_get h1 with h1' | rfl
      · exact (key i x h1').2 h2
      · cases h2
    subst hi
    obtain ⟨a, r, e⟩ := ex x h1 h2
    have h3 : (start N vs)[(0 : Nat)]? = some (some (.ref b)) := h3
    rw [s0 a r e] at h3
    cases h3
    cases fa with
    | no => exact (nofa x rfl h1 h2).elim
    | io ds => exact ⟨r, e⟩
    | bld c => exact ⟨r, e⟩
  · cases fa with
    | no => exact hb.elim
    | io ds =>
      obtain ⟨a, r, e, ⟨us, h1, h2, _⟩, _⟩ := h
      obtain ⟨r', e'⟩ := hb
      rw [e] at e'
      cases e'
      exact ⟨h2, by rw [h1]; simp⟩
    | bld c =>
      obtain ⟨a, r, e, ⟨dx, us, h1, _, h2, _⟩, _⟩ := h
      obtain ⟨r', e'⟩ := hb
      rw [e] at e'
      cases e'
      exact ⟨h2, by rw [h1]; simp⟩
  · obtain ⟨a, r, e⟩ := ex x hx ho
    exact ⟨a, r, e, s0 a r e⟩
/-- what a body's end tells of its call -/
theorem fin_inv {fa : FArg} {v : Vr} {e : En} {r : Vr} {xs : List PV.D} (h : fin fa v e = .ok (r, xs)) : r = v ∧ match fa with
    | .no => True
    | .io _ => e[(0 : Nat)]? = some (.io xs)
    | .bld _ => (∃ c, e[(0 : Nat)]? = some (.bld c xs)) ∧ v = .sh .non := by
  unfold fin at h
  cases fa with
  | no => cases h; exact ⟨rfl, trivial⟩
  | io ds =>
    simp only at h
    split at h
    · rename_i ds hx
      cases h
      exact ⟨rfl, hx⟩
    · cases h
  | bld c =>
    simp only at h
    cases hx : e[(0 : Nat)]? with
    | none => rw [hx] at h; cases h
    | some y =>
      rw [hx] at h
      cases y with
      | bld c' ds =>
        cases v with
        | ow ds => cases h
        | sh d =>
          cases d <;> first | (cases h; exact ⟨rfl, ⟨c', rfl⟩, rfl⟩) | cases h
      | _ => cases h
theorem fin_noexc {fa : FArg} {v : Vr} {e : En} : ∀ x, fin fa v e ≠ .exc x := fun x h => by
  unfold fin at h
  cases fa with
  | no => cases h
  | io ds =>
    simp only at h
    split at h <;> cases h
  | bld c =>
    simp only at h
    split at h <;> cases h
theorem st0_bld {c c' : Nat} {N : Nat} {args : List PV.D} {y : Cell} (h : (st0 (.bld c) N args)[(0 : Nat)]? = some y) : y = .bld c [] := by
  simp [st0] at h
  exact h.symm
theorem PostF.toS {f : FnI} {P : Prg} {cf : CF} {w : Nat} {fa : FArg} {vs : List V} {args : List PV.D} {Q : VK} {E : XK} (sub : Same F H) (h : FaPre G fa vs F H args) (hn : nArgs fa args = f.ps.length) (hv : vs.length = f.ps.length) (hp : PostF G fa vs F H Q E (runF P cf w f fa args)) :
    tS G E (fun σ => exSs P cf w f.body σ) { nx := fun _ H' => Q .non H', rt := Q } (start f.N vs) H := by
  obtain ⟨S, k1, k2, k3⟩ := simStart (N := f.N) sub h (hn.trans hv.symm)
  refine ⟨F, st0 fa f.N.length args, S, ?_⟩
  unfold runF at hp
  rw [if_pos hn] at hp
  have fr : ∀ {H' : Hp}, (∀ b o, H b = some o → ¬ Cf.W ⟨F, start f.N vs, H, st0 fa f.N.length args⟩ b → H' b = some o) → ∀ b o, H b = some o → ¬ faW fa vs b → H' b = some o := fun q b o hb hw => q b o hb fun z => hw (k1 b z)
  -- how the first cell ends
  have last : ∀ {e' : En} {F' H' : Hp} {v : Vr} {r : Vr} {xs : List PV.D}, (∀ (i : Nat) (x : Cell) (t : Option Nat), e'[i]? = some x → x.tag = some t → (∃ y : Cell, (st0 fa f.N.length args)[i]? = some y ∧ y.tag = some t) ∧ CellOk G F' H' (start f.N vs)[i]? x) → fin fa v e' = .ok (r, xs) →
      FaPost G fa vs F' H' xs ∧ (∀ b, faW fa vs b → F' b = none ∧ H' b ≠ none ∧ ∃ x : Cell, e'[(0 : Nat)]? = some x ∧ x.tag ≠ none ∧ (start f.N vs)[(0 : Nat)]? = some (some (.ref b))) := fun {e' F' H' v r xs} tg hf => by
    obtain ⟨rfl, hf⟩ := fin_inv hf
    cases fa with
    | no => exact ⟨trivial, fun b hb => hb.elim⟩
    | io ds =>
      simp only at hf
      obtain ⟨⟨y, y1, y2⟩, a, z1, us, z2, z3, z4⟩ := tg 0 _ none hf rfl
      obtain ⟨a', r', e1, e2⟩ := k3 y y1 (tag_own y2)
      rw [e2] at z1
      cases z1
      refine ⟨⟨a, r', e1, us, z2, z3, z4⟩, fun b hb => ?_⟩
      obtain ⟨r'', hb⟩ := hb
      rw [e1] at hb
      cases hb
      exact ⟨z3, by rw [z2]; simp, _, hf, by simp [Cell.tag], e2⟩
    | bld c =>
      simp only at hf
      obtain ⟨⟨c', hf⟩, _⟩ := hf
      obtain ⟨⟨y, y1, y2⟩, a, z1, dx, us, z2, z5, z3, z4⟩ := tg 0 _ (some c') hf rfl
      obtain ⟨a', r', e1, e2⟩ := k3 y y1 (tag_own y2)
      rw [e2] at z1
      cases z1
      have ey := st0_bld (c' := c) y1
      subst ey
      cases y2
      refine ⟨⟨a, r', e1, dx, us, z2, z5, z3, z4⟩, fun b hb => ?_⟩
      obtain ⟨r'', hb⟩ := hb
      rw [e1] at hb
      cases hb
      exact ⟨z3, by rw [z2]; simp, _, hf, by simp [Cell.tag], e2⟩
  show PostS G E ⟨F, start f.N vs, H, st0 fa f.N.length args⟩ _ (exSs P cf w f.body (st0 fa f.N.length args))
  cases hx : exSs P cf w f.body (st0 fa f.N.length args) with
  | ok p =>
    obtain ⟨fl, e'⟩ := p
    rw [hx] at hp
    cases fl with
    | nx =>
      intro σ' F' H' st S'
      replace hp : PostF G fa vs F H Q E (fin fa (.sh .non) e') := hp
      cases hf : fin fa (.sh .non) e' with
      | ok q =>
        obtain ⟨r, xs⟩ := q
        rw [hf] at hp
        have tg : ∀ (i : Nat) (x : Cell) (t : Option Nat), e'[i]? = some x → x.tag = some t → (∃ y : Cell, (st0 fa f.N.length args)[i]? = some y ∧ y.tag = some t) ∧ CellOk G F' H' (start f.N vs)[i]? x := fun i x t h1 h2 => by
          obtain ⟨y, q1, q2, q3⟩ := st.io i x t h1 h2
          have := S'.cell i x h1
          rw [q3] at this
          exact ⟨⟨y, q1, q2⟩, this⟩
        obtain ⟨l1, l2⟩ := last tg hf
        obtain ⟨er, _⟩ := fin_inv hf
        subst er
        refine hp .non F' H' st.f S'.sub (fr st.frame) (fun b hb hb' => ?_) st.dom l1 (by simp only [VrRel, Rep])
        rcases st.new b hb hb' with z | z
        · exact z
        · exact absurd (l2 b (k1 b z)).1 hb'
      | exc x => exact (fin_noexc x hf).elim
      | stuck => rw [hf] at hp; exact hp.elim
    | rt v =>
      intro u F' H' f1 f2 fr' nw tg vr
      replace hp : PostF G fa vs F H Q E (fin fa v e') := hp
      cases hf : fin fa v e' with
      | ok q =>
        obtain ⟨r, xs⟩ := q
        rw [hf] at hp
        obtain ⟨l1, l2⟩ := last tg hf
        obtain ⟨er, _⟩ := fin_inv hf
        subst er
        refine hp u F' H' f1 f2 (fr fr') (fun b hb hb' => ?_) (fun b hb => ?_) l1 ?_
        · rcases nw b hb hb' with z | z
          · exact z
          · exact absurd (l2 b (k1 b z)).1 hb'
        · by_cases hw : faW fa vs b
          · exact (l2 b hw).2.1
          · cases q : H b with
            | none => exact absurd q hb
            | some o => rw [fr fr' b o q hw]; simp
        · cases r with
          | sh d => exact vr
          | ow ds =>
            obtain ⟨a, h1, h2, h3, h4⟩ := vr
            refine ⟨a, h1, h2, ?_⟩
            rcases h3 with z | z
            · exact z
            · obtain ⟨_, _, x, q1, q2, q3⟩ := l2 a (k1 a z)
              exact absurd q3 (h4 0 x q1 q2)
      | exc x => exact (fin_noexc x hf).elim
      | stuck => rw [hf] at hp; exact hp.elim
  | exc x =>
    rw [hx] at hp
    intro cls d H' fr' xa
    exact hp cls d H' (fr fr') xa
  | stuck => rw [hx] at hp; exact hp.elim
end
/-! ### all functions of a text -/
structure Txt (G : Gb) (frs : List Str) (mg : Str → Option Value) (fd : Nat → FuncData) : Prop where
  fn : ∀ k f, G.P.fns[k]? = some f → ∃ x qual params body scope, FunD G.K x qual params body scope (f.dv.map V.int) [] (G.fn k) (fd k) ∧ FnScope f.N f.ps scope ∧ chkSs ⟨G.P, f.N, frs⟩ f.body scope body = true ∧ Binds G.K (fd k) f.ps [] ∧ (f.dv ≠ [] → ∃ ds, Vals (f.dv.map V.int) ds ∧ Binds G.K (fd k) f.ps ds)
  gl : ∀ k f, G.P.fns[k]? = some f → f.top = true → mg f.name = some (.ref (G.fn k))
  cls : ∀ c C, G.P.cls[c]? = some C → ClsOk G mg c C
  exs : ∀ c E, G.P.exs[c]? = some E → ExcOk G mg c E
  fre : ∀ x, hasB x frs = true → mg x = none
  con : ∀ x i, G.P.cons.lookup x = some i → ∃ t, mg x = some (.int i t)
  ini : ∀ c E f, G.P.exs[c]? = some E → E.fld = some f → ∃ fI fd ps, OexC G.K (G.exc c) ∧ PySem.W.findIn G.K (.ref (G.exc c)) "__init__" = some (some (.ref fI)) ∧ PySem.W.typeIn G.K (.ref fI) = some (.type "function") ∧ Binds G.K fd ps [] ∧ ∀ (prog : Program) (w : World) (base : Heap), FnOk prog w G.K mg base (L2.CX prog w) 1 fI fd ps (spI G.K f)
theorem fns_ok {G : Gb} {frs : List Str} {mg : Str → Option Value} {fd : Nat → FuncData} {prog : Program} {wd : World} {base : Heap} {w : Nat} (T : Txt G frs mg fd)
    (own : ∀ (n : Nat) (W : XK) (X : Cx), Gd G W (fnEv G.P w n) (9 * n) X → Owns G W (fnEv G.P w n) X) :
    ∀ (n k : Nat) (f : FnI), G.P.fns[k]? = some f → FnOk prog wd G.K mg base (L2.CX prog wd) (9 * n) (G.fn k) (fd k) f.ps (spD G (fnEv G.P w n) k)
  | 0, k, f, hf => by
    have no : ∀ vs H Q E, spD G (fnEv G.P w 0) k vs H Q E → False := fun vs H Q E ⟨f, _, _, F, fa, args, _, _, hp⟩ => hp
    exact ⟨fun vs H Q E h => (no vs H Q E h).elim, fun A outer s H args us vs Q E _ _ _ _ h => (no vs H Q E h).elim⟩
  | n + 1, k, f, hf => by
    have fa : Facts G (fnEv G.P w n) (9 * n) prog wd mg base := ⟨fun j g hg => by
      obtain ⟨x, qual, params, body, scope, h1, h2, h3, h4, h5⟩ := T.fn j g hg
      exact ⟨fd j, fns_ok T own n j g hg, h1.kp, h4, h5⟩, T.gl, T.cls, T.exs, T.con, fun c E f h1 h2 => by
      obtain ⟨fI, fd, ps, q1, q2, q3, q4, q5⟩ := T.ini c E f h1 h2
      exact ⟨fI, fd, ps, q1, q2, q3, q4, q5 prog wd base⟩⟩
    obtain ⟨x, qual, params, body, scope, h1, h2, h3, h4, h5⟩ := T.fn k f hf
    have len : ∀ vs H Q E, spD G (fnEv G.P w (n + 1)) k vs H Q E → vs.length = f.ps.length := fun vs H Q E ⟨f', e1, e2, _⟩ => by
      rw [hf] at e1; cases e1; exact e2
    have := FunD.ok (P := prog) (w := wd) (mg := mg) (base := base) (CX := L2.CX prog wd) (k := 9 * n + 8) h1 h2 len fun cdv A outer s H vs Q E hr hsp => by
      obtain ⟨f', e1, e2, F, fa', args, sub, pre, hp⟩ := hsp
      rw [hf] at e1
      cases e1
      have hn : nArgs fa' args = f.ps.length := by
        rw [← e2]
        cases fa' with
        | no => exact (Reps.length pre).symm
        | io ds => obtain ⟨a, r, rfl, _, h⟩ := pre; simp [nArgs, h.length]
        | bld c => obtain ⟨a, r, rfl, _, h⟩ := pre; simp [nArgs, h.length]
      have hp : PostF G fa' vs F H Q E (runF G.P (fnEv G.P w n) w f fa' args) := by
        simp only [fnEv, hf] at hp
        exact hp
      refine ⟨tS G E fun σ => exSs G.P (fnEv G.P w n) w f.body σ, ?_, PostF.toS sub pre hn e2 hp⟩
      refine okSs (c := ⟨G.P, f.N, frs⟩) (lv := 9 * n) f.body scope body h3 E _ ⟨⟨⟨rfl, rfl, h2.nd, hr, takes_of rfl rfl rfl rfl, fa⟩, rfl, rfl, rfl, T.fre, own n⟩, passes_of rfl, rfl, rfl, rfl, h2.kind⟩
    exact this
end PV
set_option Elab.async false
set_option linter.all false
set_option maxRecDepth 100000
set_option maxHeartbeats 4000000
namespace GP
open PySem PySem.SeqAt GQ
open AutoSeq1 (wpAny_loadPart')
open MeetsSeq MeetsSeq2 MeetsSeq3 SeqRoads2
section
variable {prog : Program} {w : World} {A : Around} {R : Result → Shared → Prop}
def ListI2 (prog : Program) (w : World) (A : Around) (E : Value → Shared → Prop) (l b : Addr) (N : Nat) (I J : Nat → Shared → Prop) : Prop :=
  ∀ i s, I i s → ∃ (items items2 : Array Value) (n n2 : Nat), s.heap.get? l = some { cls := .type "list", data := .seq items n } ∧ s.heap.get? b = some { cls := .type "list", data := .seq items2 n2 } ∧ items.size = N ∧ items2.size = N ∧
    ∀ (h1 : i < items.size) (h2 : i < items2.size), wpAny (model prog w) A.in1 (eqBool items[i] items2[i]) (fun r s' => (r = true ∧ I (i + 1) s') ∨ (r = false ∧ J i s')) E s
def ListJ2 (l b : Addr) (N : Nat) (J : Nat → Shared → Prop) : Prop :=
  ∀ i s, J i s → ∃ (items items2 : Array Value) (n n2 : Nat), s.heap.get? l = some { cls := .type "list", data := .seq items n } ∧ s.heap.get? b = some { cls := .type "list", data := .seq items2 n2 } ∧ items.size = N ∧ items2.size = N

/-- at each turn the two lists are read anew: N items each -/
theorem eq_loopG (l b : Addr) (N : Nat) (I : Nat → Shared → Prop) (J : Nat → Shared → Prop) (hl : ListI2 prog w A (fun e s' => R (.error e) s') l b N I J) (hJ : ListJ2 l b N J)
    (fin : ∀ s, I N s → R (.ok (.ret (.bool true))) s) (finJ : ∀ i s, J i s → R (.ok (.ret (.bool false))) s) (k : Nat) :
    ∀ i : Nat, N - i = k → i ≤ N → ∀ s, I i s →
      wpAny (model prog w) A.in1 (Builtin.«list.__eq__.loop» ⟨[.ref l, .ref b, rawInt i, rawInt 2], []⟩) (FinOf prog w A R) (fun e s' => R (.error e) s') s := by
  induction k with
  | zero =>
    intro i hk hi s h
    obtain ⟨items, items2, n, n2, hl1, hb1, hs1, hs2, _⟩ := hl _ _ h
    have hi' : i = N := by omega
    have hR : R (.ok (.ret (.bool true))) s := fin s (hi' ▸ h)
    obtain ⟨hp, g, d, tk, os⟩ := s
    wp_walk using wpAny_loadPart' hl1, wpAny_loadPart' hb1
    have hi1 : items[((i : Nat) : Int).toNat]? = none := by simp; omega
    have hi2 : items2[((i : Nat) : Int).toNat]? = none := by simp; omega
    rw [hi1, hi2]
    wp_walk using wpAny_loadPart' hl1, wpAny_loadPart' hb1
    show R (.ok (.ret (.bool (items.size == items2.size)))) _
    rw [hs1, hs2]
    simpa using hR
  | succ k ih =>
    intro i hk hi s h
    obtain ⟨items, items2, n, n2, hl1, hb1, hs1, hs2, turn⟩ := hl _ _ h
    have hlt : i < items.size := by omega
    have hlt2 : i < items2.size := by omega
    have ht := turn hlt hlt2
    obtain ⟨hp, g, d, tk, os⟩ := s
    wp_walk using wpAny_loadPart' hl1, wpAny_loadPart' hb1
    have hi1 : items[((i : Nat) : Int).toNat]? = some items[i] := by simp [hlt]
    have hi2 : items2[((i : Nat) : Int).toNat]? = some items2[i] := by simp [hlt2]
    have hc : ((i : Int) + 1) = ((i + 1 : Nat) : Int) := by omega
    rw [hi1, hi2]
    refine wpAny_bind (wpAny_mono ht (fun r s2 h2 => ?_) fun _ _ x => x)
    rcases h2 with ⟨hr, h2⟩ | ⟨hr, h2⟩
    · subst hr
      have hrec := ih (i + 1) (by omega) (by omega) s2 h2
      obtain ⟨hp2, g2, d2, tk2, os2⟩ := s2
      wp_walk
      rw [hc]
      exact ⟨plainId_quiet plain_eq_loop _, codeAny_builtin entry_eq_loop (by
        rw [Around.under_plainId plain_eq_loop _]
        exact hrec)⟩
    · subst hr
      obtain ⟨jt, jt2, m, m2, hl3, hb3, hs3, hs4⟩ := hJ _ _ h2
      have hR : R (.ok (.ret (.bool false))) s2 := finJ _ s2 h2
      have hlt3 : i < jt.size := by omega
      have hlt4 : i < jt2.size := by omega
      obtain ⟨hp2, g2, d2, tk2, os2⟩ := s2
      wp_walk using wpAny_loadPart' hl3, wpAny_loadPart' hb3
      have hi3 : jt[((i : Nat) : Int).toNat]? = some jt[i] := by simp [hlt3]
      have hi4 : jt2[((i : Nat) : Int).toNat]? = some jt2[i] := by simp [hlt4]
      rw [hi3, hi4]
      wp_walk
      exact hR

theorem list_eqG (l b : Addr) (N : Nat) (I : Nat → Shared → Prop) (J : Nat → Shared → Prop) (hl : ListI2 prog w A (fun e s' => R (.error e) s') l b N I J) (hJ : ListJ2 l b N J)
    (fin : ∀ s, I N s → R (.ok (.ret (.bool true))) s) (finJ : ∀ i s, J i s → R (.ok (.ret (.bool false))) s) {s : Shared} (h : I 0 s) :
    wpAny (model prog w) A.in1 (Builtin.«list.__eq__» ⟨[.ref l, .ref b], []⟩) (FinOf prog w A R) (fun e s' => R (.error e) s') s := by
  obtain ⟨items, items2, n, n2, hl1, hb1, hs1, hs2, _⟩ := hl _ _ h
  have hrec := eq_loopG (A := A) (R := R) l b N I J hl hJ fin finJ _ 0 rfl (Nat.zero_le _) s h
  obtain ⟨hp, g, d, tk, os⟩ := s
  have f3 := AutoSeq1.sub_list_list
  have hne : ¬ (items.size != items2.size) = true := by simp [hs1, hs2]
  wp_walk using wpAny_loadPart' hl1, wpAny_loadPart' hb1
  exact ⟨plainId_quiet plain_eq_loop _, codeAny_builtin entry_eq_loop (by
    rw [Around.under_plainId plain_eq_loop _]
    exact hrec)⟩

theorem tuple_eqG (l b : Addr) (items items2 : Array Value) (n n2 : Nat) (dd dd2 : Option Addr) (sl sl2 : Array (Option Value)) (I : Nat → Shared → Prop) (J : Nat → Shared → Prop)
    (turn : ∀ i (h1 : i < items.size) (h2 : i < items2.size) s, I i s → wpAny (model prog w) A.in1 (eqBool items[i] items2[i]) (fun r s' => (r = true ∧ I (i + 1) s') ∨ (r = false ∧ J i s')) (fun e s' => R (.error e) s') s)
    (fin : ∀ s, I (min items.size items2.size) s → R (.ok (.ret (.bool (items.size == items2.size)))) s) (finJ : ∀ i s, J i s → R (.ok (.ret (.bool false))) s) {s : Shared} (hl1 : s.heap.get? l = some { cls := .type "tuple", dict := dd, data := .seq items n, slots := sl }) (hb1 : s.heap.get? b = some { cls := .type "tuple", dict := dd2, data := .seq items2 n2, slots := sl2 }) (h : I 0 s) :
    wpAny (model prog w) A.in1 (Builtin.«tuple.__eq__» ⟨[.ref l, .ref b], []⟩) (FinOf prog w A R) (fun e s' => R (.error e) s') s := by
  have f2 := AutoSeq1.sub_tuple_tuple
  have hZ : (items.toList.zip items2.toList).length = min items.size items2.size := by simp
  have h0 := h
  obtain ⟨hp, g, d, tk, os⟩ := s
  wp_walk using wpAny_loadPart' hl1, wpAny_loadPart' hb1, wpAny_forIn_list _ (fun rest b s' => b.1 = none ∧ ∃ i, rest = (items.toList.zip items2.toList).drop i ∧ i ≤ min items.size items2.size ∧ I i s') _
  case turn =>
    rintro ⟨y, x⟩ rest b s' ⟨hb', i, hz, hi, hI⟩
    have hlt : i < (items.toList.zip items2.toList).length := by
      rcases Nat.lt_or_ge i (items.toList.zip items2.toList).length with h' | h'
      · exact h'
      · rw [List.drop_of_length_le h'] at hz; cases hz
    have h1 : i < items.size := Nat.lt_of_lt_of_le (hZ ▸ hlt) (Nat.min_le_left _ _)
    have h2 : i < items2.size := Nat.lt_of_lt_of_le (hZ ▸ hlt) (Nat.min_le_right _ _)
    rw [List.drop_eq_getElem_cons hlt] at hz
    injection hz with hyx hrest
    have hy : y = items[i] := by have := congrArg Prod.fst hyx; simpa using this
    have hx : x = items2[i] := by have := congrArg Prod.snd hyx; simpa using this
    subst hy hx
    refine wpAny_bind (wpAny_mono (turn i h1 h2 s' hI) (fun r s2 q2 => ?_) fun _ _ x => x)
    rcases q2 with ⟨hr, q2⟩ | ⟨hr, q2⟩
    · subst hr
      wp_walk
      exact ⟨rfl, i + 1, hrest, by rw [← hZ]; exact hlt, q2⟩
    · subst hr
      have hR := finJ _ _ q2
      wp_walk
      exact hR
  case fin =>
    rintro ⟨b1, b2⟩ s' ⟨hb', i, hz, hi, hI⟩
    simp only at hb'
    subst hb'
    have hge : min items.size items2.size ≤ i := by
      rcases Nat.lt_or_ge i (items.toList.zip items2.toList).length with h' | h'
      · rw [List.drop_eq_getElem_cons h'] at hz; cases hz
      · exact hZ ▸ h'
    have hi' : i = min items.size items2.size := Nat.le_antisymm hi hge
    have hR := fin s' (hi' ▸ hI)
    wp_walk
    simpa [Builtin.Tuple.tupleCompareSizes, bne] using hR
  case h =>
    exact ⟨rfl, 0, rfl, Nat.zero_le _, h0⟩

/-- at each turn the two lists are read anew: N items each -/
theorem ne_loopG (l b : Addr) (N : Nat) (I : Nat → Shared → Prop) (J : Nat → Shared → Prop) (hl : ListI2 prog w A (fun e s' => R (.error e) s') l b N I J) (hJ : ListJ2 l b N J)
    (fin : ∀ s, I N s → R (.ok (.ret (.bool false))) s) (finJ : ∀ i s, J i s → R (.ok (.ret (.bool true))) s) (k : Nat) :
    ∀ i : Nat, N - i = k → i ≤ N → ∀ s, I i s →
      wpAny (model prog w) A.in1 (Builtin.«list.__eq__.loop» ⟨[.ref l, .ref b, rawInt i, rawInt 3], []⟩) (FinOf prog w A R) (fun e s' => R (.error e) s') s := by
  induction k with
  | zero =>
    intro i hk hi s h
    obtain ⟨items, items2, n, n2, hl1, hb1, hs1, hs2, _⟩ := hl _ _ h
    have hi' : i = N := by omega
    have hR : R (.ok (.ret (.bool false))) s := fin s (hi' ▸ h)
    obtain ⟨hp, g, d, tk, os⟩ := s
    wp_walk using wpAny_loadPart' hl1, wpAny_loadPart' hb1
    have hi1 : items[((i : Nat) : Int).toNat]? = none := by simp; omega
    have hi2 : items2[((i : Nat) : Int).toNat]? = none := by simp; omega
    rw [hi1, hi2]
    wp_walk using wpAny_loadPart' hl1, wpAny_loadPart' hb1
    show R (.ok (.ret (.bool (items.size != items2.size)))) _
    rw [hs1, hs2]
    simpa using hR
  | succ k ih =>
    intro i hk hi s h
    obtain ⟨items, items2, n, n2, hl1, hb1, hs1, hs2, turn⟩ := hl _ _ h
    have hlt : i < items.size := by omega
    have hlt2 : i < items2.size := by omega
    have ht := turn hlt hlt2
    obtain ⟨hp, g, d, tk, os⟩ := s
    wp_walk using wpAny_loadPart' hl1, wpAny_loadPart' hb1
    have hi1 : items[((i : Nat) : Int).toNat]? = some items[i] := by simp [hlt]
    have hi2 : items2[((i : Nat) : Int).toNat]? = some items2[i] := by simp [hlt2]
    have hc : ((i : Int) + 1) = ((i + 1 : Nat) : Int) := by omega
    rw [hi1, hi2]
    refine wpAny_bind (wpAny_mono ht (fun r s2 h2 => ?_) fun _ _ x => x)
    rcases h2 with ⟨hr, h2⟩ | ⟨hr, h2⟩
    · subst hr
      have hrec := ih (i + 1) (by omega) (by omega) s2 h2
      obtain ⟨hp2, g2, d2, tk2, os2⟩ := s2
      wp_walk
      rw [hc]
      exact ⟨plainId_quiet plain_eq_loop _, codeAny_builtin entry_eq_loop (by
        rw [Around.under_plainId plain_eq_loop _]
        exact hrec)⟩
    · subst hr
      obtain ⟨jt, jt2, m, m2, hl3, hb3, hs3, hs4⟩ := hJ _ _ h2
      have hR : R (.ok (.ret (.bool true))) s2 := finJ _ s2 h2
      have hlt3 : i < jt.size := by omega
      have hlt4 : i < jt2.size := by omega
      obtain ⟨hp2, g2, d2, tk2, os2⟩ := s2
      wp_walk using wpAny_loadPart' hl3, wpAny_loadPart' hb3
      have hi3 : jt[((i : Nat) : Int).toNat]? = some jt[i] := by simp [hlt3]
      have hi4 : jt2[((i : Nat) : Int).toNat]? = some jt2[i] := by simp [hlt4]
      rw [hi3, hi4]
      wp_walk
      exact hR

theorem list_neG (l b : Addr) (N : Nat) (I : Nat → Shared → Prop) (J : Nat → Shared → Prop) (hl : ListI2 prog w A (fun e s' => R (.error e) s') l b N I J) (hJ : ListJ2 l b N J)
    (fin : ∀ s, I N s → R (.ok (.ret (.bool false))) s) (finJ : ∀ i s, J i s → R (.ok (.ret (.bool true))) s) {s : Shared} (h : I 0 s) :
    wpAny (model prog w) A.in1 (Builtin.«list.__ne__» ⟨[.ref l, .ref b], []⟩) (FinOf prog w A R) (fun e s' => R (.error e) s') s := by
  obtain ⟨items, items2, n, n2, hl1, hb1, hs1, hs2, _⟩ := hl _ _ h
  have hrec := ne_loopG (A := A) (R := R) l b N I J hl hJ fin finJ _ 0 rfl (Nat.zero_le _) s h
  obtain ⟨hp, g, d, tk, os⟩ := s
  have f3 := AutoSeq1.sub_list_list
  have hne : ¬ (items.size != items2.size) = true := by simp [hs1, hs2]
  wp_walk using wpAny_loadPart' hl1, wpAny_loadPart' hb1
  exact ⟨plainId_quiet plain_eq_loop _, codeAny_builtin entry_eq_loop (by
    rw [Around.under_plainId plain_eq_loop _]
    exact hrec)⟩

theorem tuple_neG (l b : Addr) (items items2 : Array Value) (n n2 : Nat) (dd dd2 : Option Addr) (sl sl2 : Array (Option Value)) (I : Nat → Shared → Prop) (J : Nat → Shared → Prop)
    (turn : ∀ i (h1 : i < items.size) (h2 : i < items2.size) s, I i s → wpAny (model prog w) A.in1 (eqBool items[i] items2[i]) (fun r s' => (r = true ∧ I (i + 1) s') ∨ (r = false ∧ J i s')) (fun e s' => R (.error e) s') s)
    (fin : ∀ s, I (min items.size items2.size) s → R (.ok (.ret (.bool (items.size != items2.size)))) s) (finJ : ∀ i s, J i s → R (.ok (.ret (.bool true))) s) {s : Shared} (hl1 : s.heap.get? l = some { cls := .type "tuple", dict := dd, data := .seq items n, slots := sl }) (hb1 : s.heap.get? b = some { cls := .type "tuple", dict := dd2, data := .seq items2 n2, slots := sl2 }) (h : I 0 s) :
    wpAny (model prog w) A.in1 (Builtin.«tuple.__ne__» ⟨[.ref l, .ref b], []⟩) (FinOf prog w A R) (fun e s' => R (.error e) s') s := by
  have f2 := AutoSeq1.sub_tuple_tuple
  have hZ : (items.toList.zip items2.toList).length = min items.size items2.size := by simp
  have h0 := h
  obtain ⟨hp, g, d, tk, os⟩ := s
  wp_walk using wpAny_loadPart' hl1, wpAny_loadPart' hb1, wpAny_forIn_list _ (fun rest b s' => b.1 = none ∧ ∃ i, rest = (items.toList.zip items2.toList).drop i ∧ i ≤ min items.size items2.size ∧ I i s') _
  case turn =>
    rintro ⟨y, x⟩ rest b s' ⟨hb', i, hz, hi, hI⟩
    have hlt : i < (items.toList.zip items2.toList).length := by
      rcases Nat.lt_or_ge i (items.toList.zip items2.toList).length with h' | h'
      · exact h'
      · rw [List.drop_of_length_le h'] at hz; cases hz
    have h1 : i < items.size := Nat.lt_of_lt_of_le (hZ ▸ hlt) (Nat.min_le_left _ _)
    have h2 : i < items2.size := Nat.lt_of_lt_of_le (hZ ▸ hlt) (Nat.min_le_right _ _)
    rw [List.drop_eq_getElem_cons hlt] at hz
    injection hz with hyx hrest
    have hy : y = items[i] := by have := congrArg Prod.fst hyx; simpa using this
    have hx : x = items2[i] := by have := congrArg Prod.snd hyx; simpa using this
    subst hy hx
    refine wpAny_bind (wpAny_mono (turn i h1 h2 s' hI) (fun r s2 q2 => ?_) fun _ _ x => x)
    rcases q2 with ⟨hr, q2⟩ | ⟨hr, q2⟩
    · subst hr
      wp_walk
      exact ⟨rfl, i + 1, hrest, by rw [← hZ]; exact hlt, q2⟩
    · subst hr
      have hR := finJ _ _ q2
      wp_walk
      exact hR
  case fin =>
    rintro ⟨b1, b2⟩ s' ⟨hb', i, hz, hi, hI⟩
    simp only at hb'
    subst hb'
    have hge : min items.size items2.size ≤ i := by
      rcases Nat.lt_or_ge i (items.toList.zip items2.toList).length with h' | h'
      · rw [List.drop_eq_getElem_cons h'] at hz; cases hz
      · exact hZ ▸ h'
    have hi' : i = min items.size items2.size := Nat.le_antisymm hi hge
    have hR := fin s' (hi' ▸ hI)
    wp_walk
    simpa [Builtin.Tuple.tupleCompareSizes, bne] using hR
  case h =>
    exact ⟨rfl, 0, rfl, Nat.zero_le _, h0⟩
end
end GP
set_option Elab.async false
set_option linter.all false
set_option maxRecDepth 100000
set_option maxHeartbeats 4000000
namespace GP
open PySem PySem.SeqAt GQ
open AutoSeq1 (wpAny_loadPart')
open MeetsSeq MeetsSeq2 MeetsSeq3 SeqRoads2
section
variable {prog : Program} {w : World} {A : Around} {R : Result → Shared → Prop}
def ListC (prog : Program) (w : World) (A : Around) (R : Result → Shared → Prop) (l : Addr) (x : Value) (N : Nat) (I : Nat → Shared → Prop) : Prop :=
  ∀ i s, I i s → ∃ (items : Array Value) (n : Nat), s.heap.get? l = some { cls := .type "list", data := .seq items n } ∧ items.size = N ∧
    ∀ (h1 : i < items.size), wpAny (model prog w) A.in1 (eqBool items[i] x) (fun r s' => (r = true ∧ R (.ok (.ret (.bool true))) s') ∨ (r = false ∧ I (i + 1) s')) (fun e s' => R (.error e) s') s
/-- x in l, where == of the items runs code -/
theorem in_loopG (l : Addr) (x : Value) (N : Nat) (I : Nat → Shared → Prop) (hl : ListC prog w A R l x N I) (fin : ∀ s, I N s → R (.ok (.ret (.bool false))) s) (k : Nat) :
    ∀ i : Nat, N - i = k → i ≤ N → ∀ s, I i s → wpAny (model prog w) A.in1 (Builtin.«list.__contains__.loop» ⟨[.ref l, x, rawInt i], []⟩) (FinOf prog w A R) (fun e s' => R (.error e) s') s := by
  induction k with
  | zero =>
    intro i hk hi s q
    obtain ⟨its, n, h1, h2, _⟩ := hl _ _ q
    have e : i = N := by omega
    have hR : R (.ok (.ret (.bool false))) s := fin s (e ▸ q)
    obtain ⟨hp, g, d, tk, os⟩ := s
    wp_walk using wpAny_loadPart' h1
    have j1 : its[((i : Nat) : Int).toNat]? = none := by simp; omega
    rw [j1]
    wp_walk
    exact hR
  | succ k ih =>
    intro i hk hi s q
    obtain ⟨its, n, h1, h2, turn⟩ := hl _ _ q
    have lt : i < its.size := by omega
    have ht := turn lt
    obtain ⟨hp, g, d, tk, os⟩ := s
    wp_walk using wpAny_loadPart' h1
    have j1 : its[((i : Nat) : Int).toNat]? = some its[i] := by simp [lt]
    have hc : ((i : Int) + 1) = ((i + 1 : Nat) : Int) := by omega
    rw [j1]
    refine wpAny_bind (wpAny_mono ht (fun r s2 h2 => ?_) fun _ _ x => x)
    rcases h2 with ⟨hr, h2⟩ | ⟨hr, h2⟩
    · subst hr
      obtain ⟨hp2, g2, d2, tk2, os2⟩ := s2
      wp_walk
      exact h2
    · subst hr
      have hrec := ih (i + 1) (by omega) (by omega) s2 h2
      obtain ⟨hp2, g2, d2, tk2, os2⟩ := s2
      wp_walk
      rw [hc]
      exact ⟨plainId_quiet plain_contains_loop _, codeAny_builtin entry_contains_loop (by
        rw [Around.under_plainId plain_contains_loop _]
        exact hrec)⟩
theorem list_inG (l : Addr) (x : Value) (N : Nat) (I : Nat → Shared → Prop) (hl : ListC prog w A R l x N I) (fin : ∀ s, I N s → R (.ok (.ret (.bool false))) s) {s : Shared} (h : I 0 s) :
    wpAny (model prog w) A.in1 (Builtin.«list.__contains__» ⟨[.ref l, x], []⟩) (FinOf prog w A R) (fun e s' => R (.error e) s') s := by
  obtain ⟨its, n, h1, h2, _⟩ := hl _ _ h
  have hrec := in_loopG (A := A) (R := R) l x N I hl fin _ 0 rfl (Nat.zero_le _) s h
  obtain ⟨hp, g, d, tk, os⟩ := s
  wp_walk using wpAny_loadPart' h1
  exact ⟨plainId_quiet plain_contains_loop _, codeAny_builtin entry_contains_loop (by
    rw [Around.under_plainId plain_contains_loop _]
    exact hrec)⟩
theorem tuple_inG (l : Addr) (items : Array Value) (n : Nat) (dd : Option Addr) (sl : Array (Option Value)) (x : Value) (I : Nat → Shared → Prop)
    (turn : ∀ i (h1 : i < items.size) s, I i s → wpAny (model prog w) A.in1 (eqBool items[i] x) (fun r s' => (r = true ∧ R (.ok (.ret (.bool true))) s') ∨ (r = false ∧ I (i + 1) s')) (fun e s' => R (.error e) s') s)
    (fin : ∀ s, I items.size s → R (.ok (.ret (.bool false))) s) {s : Shared} (hl1 : s.heap.get? l = some { cls := .type "tuple", dict := dd, data := .seq items n, slots := sl }) (h : I 0 s) :
    wpAny (model prog w) A.in1 (Builtin.«tuple.__contains__» ⟨[.ref l, x], []⟩) (FinOf prog w A R) (fun e s' => R (.error e) s') s := by
  have h0 := h
  obtain ⟨hp, g, d, tk, os⟩ := s
  wp_walk using wpAny_loadPart' hl1, wpAny_forIn_array _ (fun rest b s' => b.1 = none ∧ ∃ i, rest = items.toList.drop i ∧ i ≤ items.size ∧ I i s') _
  case turn =>
    rintro y rest b s' ⟨hb', i, hz, hi, hI⟩
    have hlt : i < items.toList.length := by
      rcases Nat.lt_or_ge i items.toList.length with h' | h'
      · exact h'
      · rw [List.drop_of_length_le h'] at hz; cases hz
    have h1 : i < items.size := by simpa using hlt
    rw [List.drop_eq_getElem_cons hlt] at hz
    injection hz with hy hrest
    have hy : y = items[i] := by simpa using hy
    subst hy
    refine wpAny_bind (wpAny_mono (turn i h1 s' hI) (fun r s2 q2 => ?_) fun _ _ x => x)
    rcases q2 with ⟨hr, q2⟩ | ⟨hr, q2⟩
    · subst hr
      wp_walk
      exact q2
    · subst hr
      wp_walk
      exact ⟨rfl, i + 1, hrest, h1, q2⟩
  case fin =>
    rintro ⟨b1, b2⟩ s' ⟨hb', i, hz, hi, hI⟩
    simp only at hb'
    subst hb'
    have hge : items.size ≤ i := by
      rcases Nat.lt_or_ge i items.toList.length with h' | h'
      · rw [List.drop_eq_getElem_cons h'] at hz; cases hz
      · simpa using h'
    have hi' : i = items.size := Nat.le_antisymm hi hge
    have hR := fin s' (hi' ▸ hI)
    wp_walk
    exact hR
  case h =>
    exact ⟨rfl, 0, rfl, Nat.zero_le _, h0⟩
end
end GP
set_option Elab.async false
set_option linter.all false
set_option maxRecDepth 100000
set_option maxHeartbeats 4000000
/-! ## the library's level: operators of an own class -/
namespace PV.M
open PySem PySem.Calls PyProof.Rows Builtin PySem.W
section
variable {prog : Program} {w : World} {A : Around} {E : Value → Shared → Prop} {s : Shared} {K : Frag} {x C L f : Addr} {h₀ : Heap} {m : Str → Option Value} {ox : Obj} {od : Option Obj} {b : Value}
theorem sub_ty {T : String} (h : ∃ l, fastBuiltinMro T = some l ∧ ∀ C : Addr, l.contains (.ref C) = false) : subIn K (.type T) (.ref C) = some false := by
  obtain ⟨l, e, q⟩ := h
  show (fastBuiltinMro T).map (·.contains (.ref C)) = some false
  rw [e]
  show some (l.contains (.ref C)) = _
  rw [q]
def tyOk (T : String) : Prop := ∃ l, fastBuiltinMro T = some l ∧ ∀ C : Addr, l.contains (.ref C) = false
theorem ty_none : tyOk "NoneType" := ⟨[.type "NoneType", .type "object"], by decide +kernel, fun _ => by simp⟩
theorem ty_bool : tyOk "bool" := ⟨[.type "bool", .type "int", .type "object"], by decide +kernel, fun _ => by simp⟩
theorem ty_int : tyOk "int" := ⟨[.type "int", .type "object"], by decide +kernel, fun _ => by simp⟩
theorem ty_str : tyOk "str" := ⟨[.type "str", .type "object"], by decide +kernel, fun _ => by simp⟩
theorem ty_tuple : tyOk "tuple" := ⟨[.type "tuple", .type "object"], by decide +kernel, fun _ => by simp⟩
theorem notFirst_ty {T : String} (h : tyOk T) : notFirst K C (.type T) = true := by
  unfold notFirst
  rw [sub_ty h]
  simp
/-- what the right operand's type is -/
def TyR (K : Frag) (C : Addr) (nm : String) (tb : Value) : Prop := tb = .ref C ∨ ∃ T, tb = .type T ∧ tyOk T ∧ (∃ rb, fillsNumberSlot (.type T) nm = pure rb) ∧ ∃ rl, typeLookup (.type T) (dunderR nm) = pure rl
theorem looks_pure {M : Model} {h : Heap} {α : Type} {c : Sem α} {a : α} (e : c = pure a) : Looks M h c a := e ▸ .now
theorem binop_any {op : Operator} {tb : Value} {Q : Value → Shared → Prop} (F : Fr h₀ L s.heap m) (X₀ : K.In h₀) (I : InstAt s.heap x ox C od) (hb : Looks (model prog w) s.heap (typeOf b) tb) (hT : TyR K C op.info.2 tb) (hc : selfFirst K C = true)
    (hs : findIn K (.ref C) (PySem.dunder op.info.2) = some (some (.ref f))) (hr : findIn K (.ref C) (PySem.dunderR op.info.2) = some none) (hf : isFn K (.ref f) = true)
    (h : wpAny (model prog w) A (call (.ref f) [.ref x, b]) (PySem.W.CmpBack Q) E s) : wpAny (model prog w) A (binaryOp op (.ref x) b) Q E s := by
  rcases hT with rfl | ⟨T, rfl, ht, ⟨rb, e1⟩, rl, e2⟩
  · exact binop_K F X₀ I hb hc hs hf h
  have X := X₀.keeps F.keep
  obtain ⟨cd, hcd, hm⟩ := any_some hc
  obtain ⟨rest, hm⟩ : ∃ rest, cd.mro = .ref C :: rest := by
    cases q : cd.mro with
    | nil => rw [q] at hm; cases hm
    | cons a r => rw [q] at hm; exact ⟨r, by rw [List.head?_cons] at hm; cases (beq_iff_eq.mp hm); rfl⟩
  have fin : ∀ {Q' : Option Value → Shared → Prop}, (∀ v s', Q v s' → Q' (some v) s') → wpAny (model prog w) A (tryMethod (.ref x) (dunder op.info.2) b) Q' E s := fun k => by
    unfold tryMethod
    refine wpAny_bind (special_fn X I hs (beq_iff_eq.mp hf) (wpAny_mono h (fun v s' hv => ?_) fun _ _ e => e))
    cases v <;> first | exact hv.elim | exact wpAny_pure (k _ _ hv)
  have nip : ∀ {Q' : Bool → Shared → Prop}, Q' true s → wpAny (model prog w) A (numberSlotInPython (.ref C) op.info.2) Q' E s := fun k => by
    unfold numberSlotInPython
    refine wpAny_bind ((looks_findIn X hs).here (wpAny_bind (wpAny_pure ?_)))
    refine wpAny_bind ((looks_findIn X hr).here (wpAny_bind (wpAny_pure ?_)))
    exact wpAny_pure k
  unfold binaryOp
  refine wpAny_holding (wpAny_bind ?_)
  unfold binaryOp1
  refine wpAny_bind (I.type.here (wpAny_bind (hb.here (wpAny_bind ((fills_K X hcd hm hs).here ?_)))))
  have ne : ((Value.ref C : Value) == Value.type T) = false := by
    apply beq_eq_false_iff_ne.mpr
    exact nofun
  simp only [ne, Bool.false_eq_true, if_false]
  refine wpAny_bind (wpAny_of_eq e1 ?_)
  cases rb with
  | false =>
    simp only [Bool.and_false, Bool.false_eq_true, if_false, Bool.false_and]
    refine wpAny_bind (wpAny_pure ?_)
    simp only [Bool.false_eq_true, if_false, if_true]
    exact wpAny_bind (fin fun v s' hv => wpAny_pure (wpAny_pure hv))
  | true =>
    simp only [Bool.and_true, Bool.and_self, if_true]
    refine wpAny_bind ((looks_subIn X (sub_ty ht)).here ?_)
    simp only [Bool.false_eq_true, if_false, Bool.not_false, if_true, Bool.and_true]
    refine wpAny_bind (nip ?_)
    simp only [if_true]
    refine wpAny_bind (m := numberSlotInPython (.type T) _) (wpAny_pure ?_)
    simp only [Bool.not_false, if_true]
    refine wpAny_bind (wpAny_of_eq e2 ?_)
    exact wpAny_bind (fin fun v s' hv => wpAny_pure (wpAny_pure hv))
theorem neg_K {Q : Value → Shared → Prop} (F : Fr h₀ L s.heap m) (X₀ : K.In h₀) (I : InstAt s.heap x ox C od) (hs : findIn K (.ref C) "__neg__" = some (some (.ref f))) (hf : isFn K (.ref f) = true)
    (h : wpAny (model prog w) A (call (.ref f) [.ref x]) Q E s) : wpAny (model prog w) A (unaryOp .USub (.ref x)) Q E s := by
  have X := X₀.keeps F.keep
  unfold unaryOp
  refine wpAny_holding ?_
  have ne : (UnaryOp.USub == UnaryOp.Not) = false := rfl
  simp only [ne, Bool.false_eq_true, if_false]
  exact wpAny_bind (special_fn X I hs (beq_iff_eq.mp hf) (wpAny_mono h (fun v s' hv => wpAny_pure hv) fun _ _ e => e))
theorem ifBound_objNe {args : List Value} {Q : Option Value → Shared → Prop} (X : K.In s.heap) (I : InstAt s.heap x ox C od) (hs : findIn K (.ref C) "__ne__" = some (some (.builtin "object.__ne__")))
    (h : wpAny (model prog w) A (call (.builtin "object.__ne__") (.ref x :: args)) (fun v => Q (some v)) E s) : wpAny (model prog w) A (callSpecialIfBound? (.ref x) "__ne__" args) Q E s := by
  simp only [callSpecialIfBound?, bindSpecialIfBound?]
  refine wpAny_holding (wpAny_bind (wpAny_bind (wpAny_bind (I.type.here ((looks_findIn X hs).here ?_)))))
  refine wpAny_bind (wpAny_askSetting (wpAny_ite ?_))
  have fin : wpAny (model prog w) A (call (.builtin "object.__ne__") ([.ref x] ++ args) >>= fun v => pure (some v)) Q E s := wpAny_bind (wpAny_mono h (fun v s' h' => wpAny_pure h') fun _ _ h' => h')
  split
  · exact wpAny_bind (wpAny_of_eq (PySem.F.cmp_object.ne.bind _) (wpAny_pure (by exact fin)))
  · exact wpAny_tryCatch (wpAny_bind (wpAny_of_eq (PySem.F.cmp_object.ne.bind _) (wpAny_pure (by exact fin))))
/-- != by the own == -/
theorem ne_K {tb : Value} {Q : Value → Shared → Prop} (hu : A.units + 1 < cLine) (F : Fr h₀ L s.heap m) (X₀ : K.In h₀) (I : InstAt s.heap x ox C od) (hb : Looks (model prog w) s.heap (typeOf b) tb) (hn : notFirst K C tb = true)
    (hs : findIn K (.ref C) "__eq__" = some (some (.ref f))) (hf : isFn K (.ref f) = true) (hne : findIn K (.ref C) "__ne__" = some (some (.builtin "object.__ne__"))) (hm : mroIn K C (.type "object") = some true)
    (h : wpAny (model prog w) A.in1 (call (.ref f) [.ref x, b]) (fun v s' => ∃ r, v = .bool r ∧ Q (.bool !r) s') E s) : wpAny (model prog w) A (richCompare .NotEq (.ref x) b) Q E s := by
  have X := X₀.keeps F.keep
  have one : wpAny (model prog w) A (tryCompare (.ref x) "__ne__" b) (fun r s' => ∃ v, r = some v ∧ Q v s') E s := by
    unfold tryCompare
    refine wpAny_bind (ifBound_objNe X I hne ?_)
    refine wpAny_call (codeAny_call_builtin PySem.F.cmp_object.ne.plain PySem.F.cmpEntry_ne (check_slot PySem.F.cmpKind_ne PySem.F.cmpSplit_ne (I.type.andThen (looks_mroIn X hm)) (PySem.F.cmpArgs_ne _ _) ?_))
    unfold Builtin.«object.__ne__»
    have key : wpAny (model prog w) A.in1 (callSpecialIfBound? (.ref x) "__eq__" [b]) (fun r s' => ∃ z, r = some (.bool z) ∧ Q (.bool !z) s') E s := ifBound_K X I hs hf (wpAny_mono h (fun v s' hv => by
      obtain ⟨r, rfl, q⟩ := hv
      exact ⟨r, rfl, q⟩) fun _ _ e => e)
    have hu' : A.in1.units < cLine := hu
    show wpAny (model prog w) A.in1 (slotArgs "__ne__" 1 ⟨[.ref x, b], []⟩ >>= _) _ _ s
    refine wpAny_bind (wpAny_pure ?_)
    dsimp only
    refine wpAny_bind (wpAny_cRoomFor hu' (wpAny_bind (wpAny_mono key (fun r s' hr => ?_) fun _ _ e => e)))
    obtain ⟨z, rfl, q⟩ := hr
    dsimp only
    refine wpAny_bind (wpAny_truthy_bool (wpAny_pure ?_))
    exact wpAny_pure ⟨_, rfl, q⟩
  unfold richCompare
  simp only [oneThing_ref]
  refine wpAny_holding (wpAny_bind (wpAny_cRoomFor (by omega) ?_))
  refine wpAny_bind (I.type.here (wpAny_bind (hb.here ?_)))
  split
  · rename_i q
    have e : subIn K tb (.ref C) = some false := by
      rcases Bool.or_eq_true_iff.mp hn with e | e
      · rw [beq_iff_eq.mp e] at q; simp at q
      · exact beq_iff_eq.mp e
    refine wpAny_bind ((looks_subIn X e).here ?_)
    simp only [Bool.false_eq_true, if_false]
    refine wpAny_bind (wpAny_mono one (fun r s' z => ?_) fun _ _ e => e)
    obtain ⟨v, rfl, hq⟩ := z
    exact wpAny_pure hq
  · refine wpAny_bind (wpAny_pure ?_)
    simp only [Bool.false_eq_true, if_false]
    refine wpAny_bind (wpAny_mono one (fun r s' z => ?_) fun _ _ e => e)
    obtain ⟨v, rfl, hq⟩ := z
    exact wpAny_pure hq
theorem fills_ex {T nm : String} {f r : Option Value} (hf : typeLookup (.type T) (PySem.dunder nm) = pure f) (hr : typeLookup (.type T) (dunderR nm) = pure r) : ∃ rb, fillsNumberSlot (.type T) nm = pure rb := by
  simp only [fillsNumberSlot, hf, hr, pure_bind]
  exact ⟨_, rfl⟩
/-- the operators of a type beside an own one -/
def OpTy (T : String) : Prop := tyOk T ∧ ∀ nm ∈ ["add", "sub", "mul"], (∃ rb, fillsNumberSlot (.type T) nm = pure rb) ∧ ∃ rl, typeLookup (.type T) (dunderR nm) = pure rl
theorem l_NoneType_add : typeLookup (.type "NoneType") (PySem.dunder "add") = pure none := by rw [typeLookup_type, builtinLookup_eq_fast]; kernel_rfl
theorem r_NoneType_add : typeLookup (.type "NoneType") (dunderR "add") = pure none := by rw [typeLookup_type, builtinLookup_eq_fast]; kernel_rfl
theorem l_NoneType_sub : typeLookup (.type "NoneType") (PySem.dunder "sub") = pure none := by rw [typeLookup_type, builtinLookup_eq_fast]; kernel_rfl
theorem r_NoneType_sub : typeLookup (.type "NoneType") (dunderR "sub") = pure none := by rw [typeLookup_type, builtinLookup_eq_fast]; kernel_rfl
theorem l_NoneType_mul : typeLookup (.type "NoneType") (PySem.dunder "mul") = pure none := by rw [typeLookup_type, builtinLookup_eq_fast]; kernel_rfl
theorem r_NoneType_mul : typeLookup (.type "NoneType") (dunderR "mul") = pure none := by rw [typeLookup_type, builtinLookup_eq_fast]; kernel_rfl
theorem op_NoneType : OpTy "NoneType" := ⟨ty_none, fun nm h => by
  simp only [List.mem_cons, List.not_mem_nil, or_false] at h
  rcases h with rfl | rfl | rfl
  · exact ⟨fills_ex l_NoneType_add r_NoneType_add, _, r_NoneType_add⟩
  · exact ⟨fills_ex l_NoneType_sub r_NoneType_sub, _, r_NoneType_sub⟩
  · exact ⟨fills_ex l_NoneType_mul r_NoneType_mul, _, r_NoneType_mul⟩⟩
theorem l_bool_add : typeLookup (.type "bool") (PySem.dunder "add") = pure (some (.builtin "int.__add__")) := by rw [typeLookup_type, builtinLookup_eq_fast]; kernel_rfl
theorem r_bool_add : typeLookup (.type "bool") (dunderR "add") = pure (some (.builtin "int.__radd__")) := by rw [typeLookup_type, builtinLookup_eq_fast]; kernel_rfl
theorem l_bool_sub : typeLookup (.type "bool") (PySem.dunder "sub") = pure (some (.builtin "int.__sub__")) := by rw [typeLookup_type, builtinLookup_eq_fast]; kernel_rfl
theorem r_bool_sub : typeLookup (.type "bool") (dunderR "sub") = pure (some (.builtin "int.__rsub__")) := by rw [typeLookup_type, builtinLookup_eq_fast]; kernel_rfl
theorem l_bool_mul : typeLookup (.type "bool") (PySem.dunder "mul") = pure (some (.builtin "int.__mul__")) := by rw [typeLookup_type, builtinLookup_eq_fast]; kernel_rfl
theorem r_bool_mul : typeLookup (.type "bool") (dunderR "mul") = pure (some (.builtin "int.__rmul__")) := by rw [typeLookup_type, builtinLookup_eq_fast]; kernel_rfl
theorem op_bool : OpTy "bool" := ⟨ty_bool, fun nm h => by
  simp only [List.mem_cons, List.not_mem_nil, or_false] at h
  rcases h with rfl | rfl | rfl
  · exact ⟨fills_ex l_bool_add r_bool_add, _, r_bool_add⟩
  · exact ⟨fills_ex l_bool_sub r_bool_sub, _, r_bool_sub⟩
  · exact ⟨fills_ex l_bool_mul r_bool_mul, _, r_bool_mul⟩⟩
theorem l_int_add : typeLookup (.type "int") (PySem.dunder "add") = pure (some (.builtin "int.__add__")) := by rw [typeLookup_type, builtinLookup_eq_fast]; kernel_rfl
theorem r_int_add : typeLookup (.type "int") (dunderR "add") = pure (some (.builtin "int.__radd__")) := by rw [typeLookup_type, builtinLookup_eq_fast]; kernel_rfl
theorem l_int_sub : typeLookup (.type "int") (PySem.dunder "sub") = pure (some (.builtin "int.__sub__")) := by rw [typeLookup_type, builtinLookup_eq_fast]; kernel_rfl
theorem r_int_sub : typeLookup (.type "int") (dunderR "sub") = pure (some (.builtin "int.__rsub__")) := by rw [typeLookup_type, builtinLookup_eq_fast]; kernel_rfl
theorem l_int_mul : typeLookup (.type "int") (PySem.dunder "mul") = pure (some (.builtin "int.__mul__")) := by rw [typeLookup_type, builtinLookup_eq_fast]; kernel_rfl
theorem r_int_mul : typeLookup (.type "int") (dunderR "mul") = pure (some (.builtin "int.__rmul__")) := by rw [typeLookup_type, builtinLookup_eq_fast]; kernel_rfl
theorem op_int : OpTy "int" := ⟨ty_int, fun nm h => by
  simp only [List.mem_cons, List.not_mem_nil, or_false] at h
  rcases h with rfl | rfl | rfl
  · exact ⟨fills_ex l_int_add r_int_add, _, r_int_add⟩
  · exact ⟨fills_ex l_int_sub r_int_sub, _, r_int_sub⟩
  · exact ⟨fills_ex l_int_mul r_int_mul, _, r_int_mul⟩⟩
theorem l_str_add : typeLookup (.type "str") (PySem.dunder "add") = pure (some (.builtin "str.__add__")) := by rw [typeLookup_type, builtinLookup_eq_fast]; kernel_rfl
theorem r_str_add : typeLookup (.type "str") (dunderR "add") = pure none := by rw [typeLookup_type, builtinLookup_eq_fast]; kernel_rfl
theorem l_str_sub : typeLookup (.type "str") (PySem.dunder "sub") = pure none := by rw [typeLookup_type, builtinLookup_eq_fast]; kernel_rfl
theorem r_str_sub : typeLookup (.type "str") (dunderR "sub") = pure none := by rw [typeLookup_type, builtinLookup_eq_fast]; kernel_rfl
theorem l_str_mul : typeLookup (.type "str") (PySem.dunder "mul") = pure (some (.builtin "str.__mul__")) := by rw [typeLookup_type, builtinLookup_eq_fast]; kernel_rfl
theorem r_str_mul : typeLookup (.type "str") (dunderR "mul") = pure (some (.builtin "str.__rmul__")) := by rw [typeLookup_type, builtinLookup_eq_fast]; kernel_rfl
theorem op_str : OpTy "str" := ⟨ty_str, fun nm h => by
  simp only [List.mem_cons, List.not_mem_nil, or_false] at h
  rcases h with rfl | rfl | rfl
  · exact ⟨fills_ex l_str_add r_str_add, _, r_str_add⟩
  · exact ⟨fills_ex l_str_sub r_str_sub, _, r_str_sub⟩
  · exact ⟨fills_ex l_str_mul r_str_mul, _, r_str_mul⟩⟩
theorem l_tuple_add : typeLookup (.type "tuple") (PySem.dunder "add") = pure (some (.builtin "tuple.__add__")) := by rw [typeLookup_type, builtinLookup_eq_fast]; kernel_rfl
theorem r_tuple_add : typeLookup (.type "tuple") (dunderR "add") = pure none := by rw [typeLookup_type, builtinLookup_eq_fast]; kernel_rfl
theorem l_tuple_sub : typeLookup (.type "tuple") (PySem.dunder "sub") = pure none := by rw [typeLookup_type, builtinLookup_eq_fast]; kernel_rfl
theorem r_tuple_sub : typeLookup (.type "tuple") (dunderR "sub") = pure none := by rw [typeLookup_type, builtinLookup_eq_fast]; kernel_rfl
theorem l_tuple_mul : typeLookup (.type "tuple") (PySem.dunder "mul") = pure (some (.builtin "tuple.__mul__")) := by rw [typeLookup_type, builtinLookup_eq_fast]; kernel_rfl
theorem r_tuple_mul : typeLookup (.type "tuple") (dunderR "mul") = pure (some (.builtin "tuple.__rmul__")) := by rw [typeLookup_type, builtinLookup_eq_fast]; kernel_rfl
theorem op_tuple : OpTy "tuple" := ⟨ty_tuple, fun nm h => by
  simp only [List.mem_cons, List.not_mem_nil, or_false] at h
  rcases h with rfl | rfl | rfl
  · exact ⟨fills_ex l_tuple_add r_tuple_add, _, r_tuple_add⟩
  · exact ⟨fills_ex l_tuple_sub r_tuple_sub, _, r_tuple_sub⟩
  · exact ⟨fills_ex l_tuple_mul r_tuple_mul, _, r_tuple_mul⟩⟩
end
end PV.M
set_option Elab.async false
set_option linter.all false
set_option maxRecDepth 100000
set_option maxHeartbeats 4000000
namespace PV
open PySem PySem.Spec PySem.Calls PyProof.Rows L2
section
variable {G : Gb} {W : XK} {X : Cx} {cf : CF} {lv : Nat} {F H : Hp} {pins : List (Addr × Obj)} {σ : Sg} {s : Shared} {A : Around}
theorem subX (g : Gd G W cf lv X) : Sub X (lv + 8) X.A := ⟨g.room, rfl⟩
/-- a def is called with values -/
theorem own_run (g : Gd G W cf lv X) {k : Nat} {f : FnI} (hf : G.P.fns[k]? = some f) (sb : Sub X lv A) {args : List D} {vs : List V} {us : List Value} (hl : args.length = f.ps.length) (I : Inv X pins σ H s) (rv : Vals vs us)
    (sub : Same F H) (r : Reps G F args vs) {Q : VK} (hp : PostF G .no vs F H Q W (cf k .no args)) : wpAny (model X.prog X.w) A (call (.ref (G.fn k)) us) (EP X pins σ Q) X.xe s := by
  obtain ⟨fd, hF, hk, hb, _⟩ := g.fn hf
  have hsp : spD G cf k vs H Q W := ⟨f, hf, by rw [r.length]; exact hl, F, .no, args, sub, r, hp⟩
  have e0 : Env0 X.prog X.w X.K X.mg X.base A X.stack s H := by
    have e := I.env0
    exact ⟨by rw [sb.fr]; exact e.frames, e.mod, e.bs, e.bsz, e.funs, e.frf, e.hok, e.bare⟩
  have hul : us.length = f.ps.length := by rw [← rv.length, r.length]; exact hl
  refine wpAny_call (codeAny_mono (hF.run A X.stack s H ⟨us, []⟩ us vs Q W sb.room e0 (by
    have := hb s us I.kIn (by simpa using hul)
    simpa using this) rv hsp) fun r s' hq => ?_)
  cases r with
  | error e => exact g.pass pins σ H s e s' I hq
  | ok fl =>
    cases fl with
    | ret u => exact I.after hq
    | next => exact False.elim hq
    | brk => exact False.elim hq
    | cont => exact False.elim hq
/-- an own instance in the heap -/
theorem obj_at (S : Same F H) (I : Inv X pins σ H s) {c : Nat} {i : List D} {x : V} {v : Value} (hx : Rep G F (.obj c i) x) (rx : RelV x v) :
    ∃ a C ox od, x = .ref a ∧ v = .ref a ∧ G.P.cls[c]? = some C ∧ PySem.W.InstAt s.heap a ox (G.cls c) (some od) := by
  simp only [Rep] at hx
  obtain ⟨a, dx, vs, rfl, h1, ⟨C, hC⟩, _⟩ := hx
  cases (show v = Value.ref a from rx)
  obtain ⟨mA, J, _⟩ := ins_get I.hok (S _ _ h1)
  obtain ⟨od, J, _⟩ := J.look
  exact ⟨a, C, _, od, rfl, rfl, hC, J⟩
theorem typeOf_ref {M : Model} {h : Heap} {a : Addr} {o : Obj} {t : Value} (e : h.get? a = some o) (k : o.cls = t) : PySem.W.Looks M h (typeOf (.ref a)) t := k ▸ (PySem.W.Looks.ld e).andThen .now
/-- the type of what stands at the right -/
theorem right_ty (S : Same F H) (I : Inv X pins σ H s) {c : Nat} {b : D} {y : V} {u : Value} (hK : X.K = G.K) (hb : rOk c b = true) (hy : Rep G F b y) (ry : RelV y u) :
    ∃ tb, PySem.W.Looks (model X.prog X.w) s.heap (typeOf u) tb ∧ (tb = .ref (G.cls c) ∨ ∃ T, tb = .type T ∧ M.OpTy T) := by
  cases b with
  | non => simp only [Rep] at hy; subst hy; cases (show u = Value.none from ry); exact ⟨_, .now, .inr ⟨_, rfl, M.op_NoneType⟩⟩
  | bl b => simp only [Rep] at hy; subst hy; cases (show u = Value.bool b from ry); exact ⟨_, .now, .inr ⟨_, rfl, M.op_bool⟩⟩
  | int i => simp only [Rep] at hy; subst hy; obtain ⟨t, rfl⟩ := (show ∃ t, u = Value.int i t from ry); exact ⟨_, .now, .inr ⟨_, rfl, M.op_int⟩⟩
  | str z => simp only [Rep] at hy; subst hy; obtain ⟨t, rfl⟩ := (show ∃ t, u = Value.str z t from ry); exact ⟨_, .now, .inr ⟨_, rfl, M.op_str⟩⟩
  | tup ds =>
    simp only [Rep] at hy
    obtain ⟨a, vs, rfl, h1, _⟩ := hy
    cases (show u = Value.ref a from ry)
    have h1' : SqT X.K H a vs := by rw [hK]; exact sqT_same S h1
    obtain ⟨its, r, ⟨o, e, hc, n, d⟩, _⟩ := I.tuple h1'
    exact ⟨_, typeOf_ref e hc, .inr ⟨_, rfl, M.op_tuple⟩⟩
  | obj c' ds =>
    have e : c' = c := of_decide_eq_true hb
    subst e
    obtain ⟨a, C, ox, od, rfl, rfl, _, J⟩ := obj_at S I hy ry
    exact ⟨_, J.type, .inl rfl⟩
  | lst _ => cases hb
  | fn _ => cases hb
  | dic => cases hb
  | ro _ => cases hb
theorem opR_of {K : PySem.W.Frag} {C : Addr} {tb : Value} {nm : String} (hn : nm ∈ ["add", "sub", "mul"]) (h : tb = .ref C ∨ ∃ T, tb = .type T ∧ M.OpTy T) : M.TyR K C nm tb := by
  rcases h with h | ⟨T, rfl, h1, h2⟩
  · exact .inl h
  · obtain ⟨a, b⟩ := h2 nm hn
    exact .inr ⟨T, rfl, h1, a, b⟩
theorem notFirst_of {K : PySem.W.Frag} {C : Addr} {tb : Value} (h : tb = .ref C ∨ ∃ T, tb = .type T ∧ M.OpTy T) : PySem.W.notFirst K C tb = true := by
  rcases h with rfl | ⟨T, rfl, h1, _⟩
  · simp [PySem.W.notFirst]
  · exact M.notFirst_ty h1
/-- the end of an own method's call, as a value -/
theorem PostF.ofV {vs : List V} {Q : VK} {m : R (Vr × List D)} (h : PostV G W F H Q (m.map fun p => p.1)) : PostF G .no vs F H Q W m := by
  cases m with
  | ok p =>
    obtain ⟨r, xs⟩ := p
    intro v F' H' s1 s2 fr nw dm _ hr
    exact h v F' H' ⟨s1, s2, fun b o hb => fr b o hb (fun z => z), nw⟩ hr
  | exc x => exact fun cls d H' s' xa => h cls d H' (fun b o hb => s' b o hb fun z => z) xa
  | stuck => exact h
/-- a list that a method handed back is given away -/
theorem PostV.give {Q : VK} {m : R (Vr × List D)} (h : PostV G W F H Q ((m.bind fun p => .ok (vrD p.1)).bind fun d => .ok (.sh d))) : PostV G W F H Q (m.map fun p => p.1) := by
  cases m with
  | ok p =>
    obtain ⟨r, xs⟩ := p
    cases r with
    | sh d => exact h
    | ow ds =>
      intro v F' H' st ⟨a, h1, ⟨vs, h2, h3, h4⟩, h5⟩
      refine h v (upd F' a (.lst vs)) H' ⟨?_, StepV.freeze st.sub h2, st.h, fun b hb hb' => ?_⟩ ?_
      · intro b o hb
        have hb := st.f b o hb
        rw [upd_ne (fun z => by rw [z, h3] at hb; cases hb)]
        exact hb
      · by_cases z : b = a
        · rw [z]; exact h5
        · rw [upd_ne z] at hb'; exact st.new b hb hb'
      · show Rep G _ (.lst ds) v
        subst h1
        simp only [Rep]
        refine ⟨a, vs, rfl, upd_same, h4.mono fun b o hb => ?_⟩
        rw [upd_ne (fun z => by rw [z, h3] at hb; cases hb)]
        exact hb
  | exc x => exact h
  | stuck => exact h
/-- a method of one or two parameters, looked up -/
theorem meth_at (g : Gd G W cf lv X) {c : Nat} {C : ClsI} (hC : G.P.cls[c]? = some C) {m : Str} {args : List D} {r : R D} (h : callM G.P cf c m args = r) (hr : r ≠ .stuck) :
    ∃ k, C.meths.lookup m = some k ∧ (∀ n, (m, n) ∈ opArs → ∃ f, G.P.fns[k]? = some f ∧ f.ps.length = n) ∧ PySem.W.findIn X.K (.ref (G.cls c)) m = some (some (.ref (G.fn k))) ∧ PySem.W.isFn X.K (.ref (G.fn k)) = true ∧ r = (cf k .no args).bind fun p => .ok (vrD p.1) := by
  unfold callM clsM at h
  rw [hC] at h
  simp only at h
  cases e : C.meths.lookup m with
  | none => rw [e] at h; exact absurd h.symm hr
  | some k =>
    rw [e] at h
    have M := (g.fa.cls c C hC).me m k e
    rw [← g.kK] at M
    exact ⟨k, rfl, fun n hn => (g.fa.cls c C hC).ar (m, n) hn k e, M.at_, M.fn, h.symm⟩
theorem cmpback {Q : Value → Shared → Prop} {v : V} {w : Value} {s' : Shared} (r : RelV v w) (q : Q w s') : PySem.W.CmpBack Q w s' := by
  cases w with
  | notImplemented => cases v <;> first | (obtain ⟨t, e⟩ := r; cases e) | cases r
  | _ => exact q
theorem clsX (g : Gd G W cf lv X) {c : Nat} {C : ClsI} (hC : G.P.cls[c]? = some C) : ClsOk G X.mg c C := g.fa.cls c C hC
theorem own_bin (g : Gd G W cf lv X) {op : Operator} {m : Str} {bo : BOp} (hm : PySem.dunder op.info.2 = m) (hn : op.info.2 ∈ ["add", "sub", "mul"]) (ha : (m, 2) ∈ opArs)
    (hb : ∀ c i y, binD G.P cf bo (.obj c i) y = own2 G.P cf c m (.obj c i) y) : OwnOp G W X (binaryOp op) (binD G.P cf bo) := by
  intro pins s σ H x y v u Q I rx ry ⟨F, c, i, b, S, hx, hy, h⟩
  rw [hb] at h
  unfold own2 at h
  by_cases ho : rOk c b = true
  · rw [if_pos ho] at h
    have hy : Rep G F b y := by
      rcases hy with hy | ⟨ds, a, rfl, _⟩
      · exact hy
      · cases ho
    obtain ⟨a, C, ox, od, rfl, rfl, hC, J⟩ := obj_at S I hx rx
    obtain ⟨tb, hl, ht⟩ := right_ty S I g.kK ho hy ry
    obtain ⟨mm, hF⟩ := I.fr
    have K := clsX g hC
    have ne : callM G.P cf c m [.obj c i, b] ≠ .stuck := fun z => by rw [z] at h; exact h
    obtain ⟨k, lk, ar, at_, fn, e⟩ := meth_at g hC rfl ne
    obtain ⟨f, hf, hl2⟩ := ar 2 ha
    rw [e] at h
    refine M.binop_any hF I.ok.mod.kin J hl (opR_of hn ht) (by rw [g.kK]; exact K.sf) (by rw [hm]; exact at_) (by rw [g.kK]; exact K.rn _ hn) fn ?_
    refine wpAny_mono (own_run g hf (subX g |>.mono (by omega)) (args := [.obj c i, b]) (vs := [.ref a, y]) (by rw [hl2]; rfl) I (.cons rfl (.cons ry .nil)) S (.cons hx (.cons hy .nil)) (PostF.ofV (PostV.give h))) (fun w s' hz => ?_) fun _ _ x => x
    obtain ⟨z, H', I', rz, q⟩ := hz
    exact cmpback rz ⟨z, H', I', rz, q⟩
  · rw [if_neg ho] at h; exact h.elim
theorem PostV.tob {Q : VK} {m : R D} (h : PostV G W F H Q ((m.bind toBD).map fun b => Vr.sh (.bl b))) : PostV G W F H Q (m.bind fun d => .ok (.sh d)) := by
  cases m with
  | ok d => cases d <;> first | exact h | exact h.elim
  | exc x => exact h
  | stuck => exact h
theorem own_cmp (g : Gd G W cf lv X) {op : CmpOp} (hop : ∀ a b, compareOp op a b = richCompare op a b) {m : Str} {co : COp} (hm : (cmpInfo op).2.1 = m) (ha : (m, 2) ∈ opArs)
    (hb : ∀ c i y, cmpD G.P cf co (.obj c i) y = if rOk c y = true then (callM G.P cf c m [.obj c i, y]).bind toBD else .stuck) : OwnOp G W X (compareOp op) (blR (cmpD G.P cf co)) := by
  intro pins s σ H x y v u Q I rx ry ⟨F, c, i, b, S, hx, hy, h⟩
  unfold blR at h
  rw [hb] at h
  by_cases ho : rOk c b = true
  · rw [if_pos ho] at h
    have hy : Rep G F b y := by
      rcases hy with hy | ⟨ds, a, rfl, _⟩
      · exact hy
      · cases ho
    obtain ⟨a, C, ox, od, rfl, rfl, hC, J⟩ := obj_at S I hx rx
    obtain ⟨tb, hl, ht⟩ := right_ty S I g.kK ho hy ry
    obtain ⟨mm, hF⟩ := I.fr
    have ne : callM G.P cf c m [.obj c i, b] ≠ .stuck := fun z => by rw [z] at h; exact h
    obtain ⟨k, lk, ar, at_, fn, e⟩ := meth_at g hC rfl ne
    obtain ⟨f, hf, hl2⟩ := ar 2 ha
    rw [e] at h
    rw [hop]
    refine PySem.W.cmp_K (op := op) (tb := tb) g.room.units0 hF I.ok.mod.kin J hl (notFirst_of ht) (by rw [hm]; exact at_) fn ?_
    refine wpAny_mono (own_run g hf (subX g |>.mono (by omega)) (args := [.obj c i, b]) (vs := [.ref a, y]) (by rw [hl2]; rfl) I (.cons rfl (.cons ry .nil)) S (.cons hx (.cons hy .nil)) (PostF.ofV (PostV.give (PostV.tob h)))) (fun w s' hz => ?_) fun _ _ x => x
    obtain ⟨z, H', I', rz, q⟩ := hz
    exact cmpback rz ⟨z, H', I', rz, q⟩
  · rw [if_neg ho] at h; exact h.elim
theorem own_neg (g : Gd G W cf lv X) : OwnUn G W X (unaryOp .USub) (fun x => (negD G.P cf x).map Vr.sh) := by
  intro pins s σ H x v Q I rx ⟨F, c, i, S, hx, h⟩
  have h : PostV G W F H Q ((callM G.P cf c "__neg__" [.obj c i]).map Vr.sh) := h
  obtain ⟨a, C, ox, od, rfl, rfl, hC, J⟩ := obj_at S I hx rx
  obtain ⟨mm, hF⟩ := I.fr
  have ne : callM G.P cf c "__neg__" [.obj c i] ≠ .stuck := fun z => by rw [z] at h; exact h
  obtain ⟨k, lk, ar, at_, fn, e⟩ := meth_at g hC rfl ne
  obtain ⟨f, hf, hl2⟩ := ar 1 (by simp [opArs])
  rw [e] at h
  have h : PostV G W F H Q (((cf k .no [.obj c i]).bind fun p => .ok (vrD p.1)).bind fun d => .ok (.sh d)) := by
    cases hc : cf k .no [.obj c i] with
    | ok p => rw [hc] at h; exact h
    | exc x => rw [hc] at h; exact h
    | stuck => rw [hc] at h; exact h
  refine M.neg_K hF I.ok.mod.kin J at_ fn ?_
  exact own_run g hf (subX g |>.mono (by omega)) (args := [.obj c i]) (vs := [.ref a]) (by rw [hl2]; rfl) I (.cons rfl .nil) S (.cons hx .nil) (PostF.ofV (PostV.give h))
end
end PV
set_option Elab.async false
set_option linter.all false
set_option maxRecDepth 100000
set_option maxHeartbeats 4000000
namespace PV
open PySem PySem.Spec PySem.Calls PyProof.Rows L2
section
variable {G : Gb} {W : XK} {X : Cx} {cf : CF} {lv : Nat} {F H : Hp} {pins : List (Addr × Obj)} {σ : Sg} {s : Shared} {A : Around}
/-! ## the same object -/
def isRf : D → Bool
  | .tup _ => true
  | .lst _ => true
  | .obj _ _ => true
  | .dic => true
  | .ro _ => true
  | .fn _ => true
  | _ => false
theorem rep_ref : ∀ {y : D} {v : V}, isRf y = true → Rep G F y v → ∃ a, v = .ref a
  | .tup _, v, _, k => by simp only [Rep] at k; obtain ⟨a, _, k, _⟩ := k; exact ⟨a, k⟩
  | .lst _, v, _, k => by simp only [Rep] at k; obtain ⟨a, _, k, _⟩ := k; exact ⟨a, k⟩
  | .obj _ _, v, _, k => by simp only [Rep] at k; obtain ⟨a, _, _, k, _⟩ := k; exact ⟨a, k⟩
  | .dic, v, _, k => by simp only [Rep] at k; obtain ⟨a, _, k, _⟩ := k; exact ⟨a, k⟩
  | .ro _, v, _, k => by simp only [Rep] at k; obtain ⟨a, _, k, _⟩ := k; exact ⟨a, k⟩
  | .fn _, v, _, k => by simp only [Rep] at k; exact ⟨_, k⟩
  | .non, v, h, _ => by cases h
  | .bl _, v, h, _ => by cases h
  | .int _, v, h, _ => by cases h
  | .str _, v, h, _ => by cases h
mutual
theorem rep_same (g : Gd G W cf lv X) (S : Same F H) (I : Inv X pins σ H s) : ∀ {x y : D} {v : V}, Rep G F x v → Rep G F y v → sameD x y = true
  | .non, y, v, h, k => by
    simp only [Rep] at h; subst h
    by_cases q : isRf y = true
    · obtain ⟨_, e⟩ := rep_ref q k
      cases e
    · cases y <;> first | (exact absurd rfl q) | (simp only [Rep] at k; cases k; simp [sameD]; done) | (simp only [Rep] at k; cases k)
  | .bl b, y, v, h, k => by
    simp only [Rep] at h; subst h
    by_cases q : isRf y = true
    · obtain ⟨_, e⟩ := rep_ref q k
      cases e
    · cases y <;> first | (exact absurd rfl q) | (simp only [Rep] at k; cases k; simp [sameD]; done) | (simp only [Rep] at k; cases k)
  | .int b, y, v, h, k => by
    simp only [Rep] at h; subst h
    by_cases q : isRf y = true
    · obtain ⟨_, e⟩ := rep_ref q k
      cases e
    · cases y <;> first | (exact absurd rfl q) | (simp only [Rep] at k; cases k; simp [sameD]; done) | (simp only [Rep] at k; cases k)
  | .str b, y, v, h, k => by
    simp only [Rep] at h; subst h
    by_cases q : isRf y = true
    · obtain ⟨_, e⟩ := rep_ref q k
      cases e
    · cases y <;> first | (exact absurd rfl q) | (simp only [Rep] at k; cases k; simp [sameD]; done) | (simp only [Rep] at k; cases k)
  | .tup a, .tup b, v, h, k => by
    simp only [Rep] at h k
    obtain ⟨p, vs, rfl, h1, h2⟩ := h
    obtain ⟨p', vs', e, k1, k2⟩ := k
    cases e
    have e := I.tuple_inj (show SqT X.K H p vs by rw [g.kK]; exact sqT_same S h1) (show SqT X.K H p vs' by rw [g.kK]; exact sqT_same S k1)
    subst e
    unfold sameD
    exact reps_same g S I h2 k2
  | .lst a, .lst b, v, h, k => by
    simp only [Rep] at h k
    obtain ⟨p, vs, rfl, h1, h2⟩ := h
    obtain ⟨p', vs', e, k1, k2⟩ := k
    cases e
    rw [h1] at k1
    cases k1
    unfold sameD
    exact reps_same g S I h2 k2
  | .obj c a, .obj c' b, v, h, k => by
    simp only [Rep] at h k
    obtain ⟨p, dx, vs, rfl, h1, ⟨C, hC⟩, hl, h2⟩ := h
    obtain ⟨p', dx', vs', e, k1, ⟨C', hC'⟩, kl, k2⟩ := k
    cases e
    rw [h1] at k1
    injection k1 with k1
    injection k1 with e1 e2 e3
    have q1 := (g.fa.cls c C hC).kS c' C' hC'
    have q2 := (g.fa.cls c C hC).kS c C hC
    rw [← e1, q2] at q1
    have ec : c' = c := by simpa using q1.symm
    subst ec
    have ev : vs = vs' := by
      have w1 : ((clsF G.P c').zip vs).map Prod.snd = vs := List.map_snd_zip (by omega)
      have w2 : ((clsF G.P c').zip vs').map Prod.snd = vs' := List.map_snd_zip (by omega)
      rw [← w1, ← w2, e3]
    subst ev
    unfold sameD
    rw [reps_same g S I h2 k2]
    simp
  | .tup a, .non, v, h, k | .tup a, .bl _, v, h, k | .tup a, .int _, v, h, k | .tup a, .str _, v, h, k => by
    simp only [Rep] at h k; obtain ⟨_, _, rfl, _⟩ := h; cases k
  | .lst a, .non, v, h, k | .lst a, .bl _, v, h, k | .lst a, .int _, v, h, k | .lst a, .str _, v, h, k => by
    simp only [Rep] at h k; obtain ⟨_, _, rfl, _⟩ := h; cases k
  | .obj _ a, .non, v, h, k | .obj _ a, .bl _, v, h, k | .obj _ a, .int _, v, h, k | .obj _ a, .str _, v, h, k => by
    simp only [Rep] at h k; obtain ⟨_, _, _, rfl, _⟩ := h; cases k
  | .tup a, .lst b, v, h, k => by
    simp only [Rep] at h k
    obtain ⟨p, vs, rfl, h1, h2⟩ := h
    obtain ⟨p', vs', e, k1, k2⟩ := k
    cases e
    obtain ⟨its, r, ⟨o, e, hc, n, d⟩, _⟩ := I.tuple (show SqT X.K H p vs by rw [g.kK]; exact sqT_same S h1)
    obtain ⟨its', r', ⟨o', n', e', hc', d'⟩, _⟩ := I.list (show SqL X.K H p vs' from .inl (.inl (S _ _ k1)))
    rw [e] at e'
    cases e'
    simp_all
  | .lst a, .tup b, v, h, k => by
    simp only [Rep] at h k
    obtain ⟨p, vs, rfl, h1, h2⟩ := h
    obtain ⟨p', vs', e, k1, k2⟩ := k
    cases e
    obtain ⟨its, r, ⟨o, e, hc, n, d⟩, _⟩ := I.tuple (show SqT X.K H p vs' by rw [g.kK]; exact sqT_same S k1)
    obtain ⟨its', r', ⟨o', n', e', hc', d'⟩, _⟩ := I.list (show SqL X.K H p vs from .inl (.inl (S _ _ h1)))
    rw [e] at e'
    cases e'
    simp_all
  | .tup a, .obj c b, v, h, k => by
    simp only [Rep] at h
    obtain ⟨p, vs, rfl, h1, h2⟩ := h
    obtain ⟨_, C, ox, od, e1, e2, _, J⟩ := obj_at S I k (show RelV (V.ref p) (Value.ref p) from rfl)
    cases e2
    obtain ⟨its, r, ⟨o, e, hc, n, d⟩, _⟩ := I.tuple (show SqT X.K H p vs by rw [g.kK]; exact sqT_same S h1)
    have q := J.at_
    rw [e] at q
    cases q
    have := J.cls
    rw [hc] at this
    cases this
  | .obj c b, .tup a, v, k, h => by
    simp only [Rep] at h
    obtain ⟨p, vs, rfl, h1, h2⟩ := h
    obtain ⟨_, C, ox, od, e1, e2, _, J⟩ := obj_at S I k (show RelV (V.ref p) (Value.ref p) from rfl)
    cases e2
    obtain ⟨its, r, ⟨o, e, hc, n, d⟩, _⟩ := I.tuple (show SqT X.K H p vs by rw [g.kK]; exact sqT_same S h1)
    have q := J.at_
    rw [e] at q
    cases q
    have := J.cls
    rw [hc] at this
    cases this
  | .lst a, .obj c b, v, h, k => by
    simp only [Rep] at h k
    obtain ⟨p, vs, rfl, h1, h2⟩ := h
    obtain ⟨p', dx, vs', e, k1, _⟩ := k
    cases e
    rw [h1] at k1
    cases k1
  | .obj c b, .lst a, v, k, h => by
    simp only [Rep] at h k
    obtain ⟨p, vs, rfl, h1, h2⟩ := h
    obtain ⟨p', dx, vs', e, k1, _⟩ := k
    cases e
    rw [h1] at k1
    cases k1
  | .tup _, .fn _, _, _, _ | .tup _, .dic, _, _, _ | .tup _, .ro _, _, _, _ => rfl
  | .lst _, .fn _, _, _, _ | .lst _, .dic, _, _, _ | .lst _, .ro _, _, _, _ => rfl
  | .obj _ _, .fn _, _, _, _ | .obj _ _, .dic, _, _, _ | .obj _ _, .ro _, _, _, _ => rfl
  | .fn _, y, v, h, k => by
    simp only [Rep] at h; subst h
    cases y <;> first | rfl | (simp only [Rep] at k; cases k)
  | .dic, y, v, h, k => by
    simp only [Rep] at h; obtain ⟨_, _, rfl, _⟩ := h
    cases y <;> first | rfl | (simp only [Rep] at k; cases k)
  | .ro _, y, v, h, k => by
    simp only [Rep] at h; obtain ⟨_, _, rfl, _⟩ := h
    cases y <;> first | rfl | (simp only [Rep] at k; cases k)
theorem reps_same (g : Gd G W cf lv X) (S : Same F H) (I : Inv X pins σ H s) : ∀ {xs ys : List D} {vs : List V}, Reps G F xs vs → Reps G F ys vs → sameDs xs ys = true
  | [], [], vs, h, k => rfl
  | [], y :: ys, vs, h, k => by simp only [Reps] at h k; subst h; obtain ⟨_, _, e, _⟩ := k; cases e
  | x :: xs, [], vs, h, k => by simp only [Reps] at h k; subst k; obtain ⟨_, _, e, _⟩ := h; cases e
  | x :: xs, y :: ys, vs, h, k => by
    simp only [Reps] at h k
    obtain ⟨v, r, rfl, h1, h2⟩ := h
    obtain ⟨v', r', e, k1, k2⟩ := k
    cases e
    unfold sameDs
    rw [rep_same g S I h1 k1, reps_same g S I h2 k2]
    rfl
end
end
end PV
set_option Elab.async false
set_option linter.all false
set_option maxRecDepth 100000
set_option maxHeartbeats 4000000
namespace PV
open PySem PySem.Spec PySem.Calls PyProof.Rows L2
section
variable {G : Gb} {W : XK} {X : Cx} {cf : CF} {lv : Nat} {pins : List (Addr × Obj)} {σ : Sg}
/-- what a comparison leaves -/
def Lft (G : Gb) (X : Cx) (pins : List (Addr × Obj)) (σ : Sg) (F H : Hp) (s' : Shared) : Prop := ∃ F' H', Inv X pins σ H' s' ∧ StepV F H F' H'
theorem Lft.now {F H : Hp} {s : Shared} (S : Same F H) (I : Inv X pins σ H s) : Lft G X pins σ F H s := ⟨F, H, I, .rfl' S⟩
theorem Lft.trans {F H F' H' : Hp} {s : Shared} (st : StepV F H F' H') (l : Lft G X pins σ F' H' s) : Lft G X pins σ F H s := by
  obtain ⟨F2, H2, I, s2⟩ := l
  exact ⟨F2, H2, I, st.trans s2⟩
/-- own == runs -/
theorem eqObj_run (g : Gd G W cf lv X) {A : Around} (sb : Sub X lv A) {F H : Hp} {s : Shared} (S : Same F H) (I : Inv X pins σ H s) {c : Nat} {i : List D} {b : D} {x y : V} {v u : Value} (hx : Rep G F (.obj c i) x) (hy : Rep G F b y) (rx : RelV x v) (ry : RelV y u) {r : Bool}
    (e : eqObj G.P cf c i b = .ok r) : ∃ k a ox od tb C, G.P.cls[c]? = some C ∧ v = .ref a ∧ PySem.W.InstAt s.heap a ox (G.cls c) od ∧ PySem.W.findIn X.K (.ref (G.cls c)) "__eq__" = some (some (.ref (G.fn k))) ∧ PySem.W.isFn X.K (.ref (G.fn k)) = true ∧
      PySem.W.Looks (model X.prog X.w) s.heap (typeOf u) tb ∧ PySem.W.notFirst X.K (G.cls c) tb = true ∧
      ∀ {A : Around}, Sub X lv A → wpAny (model X.prog X.w) A (call (.ref (G.fn k)) [.ref a, u]) (fun w s' => w = .bool r ∧ Lft G X pins σ F H s') X.xe s := by
  unfold eqObj at e
  by_cases ho : rOk c b = true
  · rw [if_pos ho] at e
    obtain ⟨a, C, ox, od, rfl, rfl, hC, J⟩ := obj_at S I hx rx
    obtain ⟨tb, hl, ht⟩ := right_ty S I g.kK ho hy ry
    have ne : callM G.P cf c "__eq__" [.obj c i, b] ≠ .stuck := fun z => by rw [z] at e; cases e
    obtain ⟨k, lk, ar, at_, fn, e2⟩ := meth_at g hC rfl ne
    obtain ⟨f, hf, hl2⟩ := ar 2 (by simp [opArs])
    rw [e2] at e
    refine ⟨k, a, ox, _, tb, C, hC, rfl, J, at_, fn, hl, notFirst_of ht, fun {A} sb => ?_⟩
    refine wpAny_mono (own_run g hf sb (args := [.obj c i, b]) (vs := [.ref a, y]) (Q := fun z H' => z = .bl r ∧ ∃ F', StepV F H F' H') (by rw [hl2]; rfl) I (.cons rfl (.cons ry .nil)) S (.cons hx (.cons hy .nil)) ?_) (fun w s' hz => ?_) fun _ _ x => x
    · cases hc : cf k .no [.obj c i, b] with
      | ok p =>
        obtain ⟨q, xs⟩ := p
        rw [hc] at e
        intro z F' H' s1 s2 fr nw dm _ hr
        have st : StepV F H F' H' := ⟨s1, s2, fun b o hb => fr b o hb (fun z => z), nw⟩
        cases q with
        | sh d =>
          have e : toBD d = .ok r := e
          cases d <;> cases e
          exact ⟨by simpa only [VrRel, Rep] using hr, F', st⟩
        | ow ds => cases e
      | exc x => rw [hc] at e; cases e
      | stuck => rw [hc] at e; cases e
    · obtain ⟨z, H', I', rz, rfl, F', st⟩ := hz
      exact ⟨rz, F', H', I', st⟩
  · rw [if_neg ho] at e; cases e
/-- what the operation answers: == or != -/
def neB (neq b : Bool) : Bool := if neq then !b else b
abbrev cop (neq : Bool) : CmpOp := if neq then .NotEq else .Eq
theorem rc_obj (g : Gd G W cf lv X) (neq : Bool) {A : Around} (sb : Sub X (lv + 1) A) {F H : Hp} {s : Shared} (S : Same F H) (I : Inv X pins σ H s) {c : Nat} {i : List D} {b : D} {x y : V} {v u : Value} (hx : Rep G F (.obj c i) x) (hy : Rep G F b y) (rx : RelV x v) (ry : RelV y u) {r : Bool}
    (e : eqObj G.P cf c i b = .ok r) : wpAny (model X.prog X.w) A (richCompare (cop neq) v u) (fun w s' => w = .bool (neB neq r) ∧ Lft G X pins σ F H s') X.xe s := by
  obtain ⟨k, a, ox, od, tb, C, hC, rfl, J, at_, fn, hl, hn, run⟩ := eqObj_run g (sb.mono (by omega)) S I hx hy rx ry e
  obtain ⟨mm, hF⟩ := I.fr
  have K := clsX g hC
  cases neq with
  | false =>
    refine PySem.W.cmp_K (op := .Eq) (tb := tb) sb.room.units0 hF I.ok.mod.kin J hl hn at_ fn ?_
    refine wpAny_mono (run (sb.mono (by omega))) (fun w s' hz => ?_) fun _ _ x => x
    obtain ⟨rfl, q⟩ := hz
    exact ⟨rfl, q⟩
  | true =>
    refine M.ne_K (by have := sb.room.un; omega) hF I.ok.mod.kin J hl hn at_ fn (by rw [g.kK]; exact K.ne) (by rw [g.kK]; exact K.hm) ?_
    refine wpAny_mono (run sb.in1) (fun w s' hz => ?_) fun _ _ x => x
    obtain ⟨rfl, q⟩ := hz
    exact ⟨r, rfl, rfl, q⟩
/-- == of items -/
def EqOk (G : Gb) (X : Cx) (pins : List (Addr × Obj)) (σ : Sg) (n : Nat) (f : D → D → R Bool) : Prop :=
  ∀ (A : Around), Sub X n A → ∀ (F H : Hp) (s : Shared), Same F H → Inv X pins σ H s → ∀ (x y : D) (vx vy : V) (u w : Value), Rep G F x vx → Rep G F y vy → RelV vx u → RelV vy w → ∀ (b : Bool), f x y = .ok b →
    wpAny (model X.prog X.w) A (eqBool u w) (fun r s' => r = b ∧ Lft G X pins σ F H s') X.xe s
/-- the loop over items -/
def LpI (G : Gb) (X : Cx) (pins : List (Addr × Obj)) (σ : Sg) (F H : Hp) (f : D → D → R Bool) (xs ys : List D) (b : Bool) (i : Nat) (s' : Shared) : Prop := Lft G X pins σ F H s' ∧ eqL f (xs.drop i) (ys.drop i) = .ok b
def LpJ (G : Gb) (X : Cx) (pins : List (Addr × Obj)) (σ : Sg) (F H : Hp) (b : Bool) (N : Nat) (i : Nat) (s' : Shared) : Prop := Lft G X pins σ F H s' ∧ b = false ∧ i < N
theorem lp_turn {n : Nat} {f : D → D → R Bool} (E : EqOk G X pins σ n f) {A : Around} (sb : Sub X (n + 1) A) {F H : Hp} {xs ys : List D} {vx vy : List V} {its its2 : List Value} {b : Bool} (rx : Reps G F xs vx) (ry : Reps G F ys vy) (r : Vals vx its) (r2 : Vals vy its2)
    (i : Nat) (h1 : i < its.toArray.size) (h2 : i < its2.toArray.size) (s' : Shared) (l : LpI G X pins σ F H f xs ys b i s') :
    wpAny (model X.prog X.w) A.in1 (eqBool its.toArray[i] its2.toArray[i]) (fun r s2 => (r = true ∧ LpI G X pins σ F H f xs ys b (i + 1) s2) ∨ (r = false ∧ LpJ G X pins σ F H b its.toArray.size i s2)) X.xe s' := by
  obtain ⟨⟨F1, H1, I1, st⟩, e⟩ := l
  have g1 : its[i]? = some its.toArray[i] := by
    have h1' : i < its.length := by simpa using h1
    rw [List.getElem?_eq_getElem h1'] <;> simp
  have g2 : its2[i]? = some its2.toArray[i] := by
    have h2' : i < its2.length := by simpa using h2
    rw [List.getElem?_eq_getElem h2'] <;> simp
  have k1 : i < vx.length := by rw [r.length]; simpa using h1
  have k2 : i < vy.length := by rw [r2.length]; simpa using h2
  obtain ⟨u, hu, ru⟩ := r.get (List.getElem?_eq_getElem k1)
  obtain ⟨v, hv, rv⟩ := r2.get (List.getElem?_eq_getElem k2)
  obtain ⟨x, hx, qx⟩ := rx.get' (List.getElem?_eq_getElem k1)
  obtain ⟨y, hy, qy⟩ := ry.get' (List.getElem?_eq_getElem k2)
  rw [g1] at hu
  rw [g2] at hv
  rw [Option.some.inj hu, Option.some.inj hv]
  have l1 : i < xs.length := (List.getElem?_eq_some_iff.mp hx).1
  have l2 : i < ys.length := (List.getElem?_eq_some_iff.mp hy).1
  rw [List.drop_eq_getElem_cons l1, List.drop_eq_getElem_cons l2] at e
  have ex : xs[i] = x := (List.getElem?_eq_some_iff.mp hx).2
  have ey : ys[i] = y := (List.getElem?_eq_some_iff.mp hy).2
  rw [ex, ey] at e
  unfold eqL at e
  cases hf : f x y with
  | ok b' =>
    rw [hf] at e
    refine wpAny_mono (E _ sb.in1 _ _ _ st.sub I1 _ _ _ _ _ _ (qx.mono st.f) (qy.mono st.f) ru rv _ hf) (fun r s2 q => ?_) fun _ _ x => x
    obtain ⟨rfl, q⟩ := q
    cases r with
    | true => exact .inl ⟨rfl, q.trans st, e⟩
    | false =>
      cases e
      exact .inr ⟨rfl, q.trans st, rfl, h1⟩
  | exc x => rw [hf] at e; cases e
  | stuck => rw [hf] at e; cases e
theorem eqL_end {f : D → D → R Bool} {xs ys : List D} {b : Bool} {i : Nat} (h : xs.length ≤ i ∨ ys.length ≤ i) (h2 : i ≤ xs.length) (h3 : i ≤ ys.length) (e : eqL f (xs.drop i) (ys.drop i) = .ok b) : b = decide (xs.length = ys.length) := by
  by_cases q1 : xs.length ≤ i
  · rw [List.drop_of_length_le q1] at e
    by_cases q2 : ys.length ≤ i
    · rw [List.drop_of_length_le q2] at e
      cases e
      rw [decide_eq_true (by omega)]
    · rw [List.drop_eq_getElem_cons (by omega : i < ys.length)] at e
      cases e
      rw [decide_eq_false (by omega)]
  · have q2 : ys.length ≤ i := h.resolve_left q1
    rw [List.drop_of_length_le q2, List.drop_eq_getElem_cons (by omega : i < xs.length)] at e
    cases e
    rw [decide_eq_false (by omega)]
theorem rc_tup {n : Nat} {f : D → D → R Bool} (E : EqOk G X pins σ n f) (hK : X.K = G.K) (neq : Bool) {A : Around} (sb : Sub X (n + 1) A) {F H : Hp} {s : Shared} (S : Same F H) (I : Inv X pins σ H s) {xs ys : List D} {a p : Addr} {vx vy : List V} {b : Bool}
    (ha : SqT X.K H a vx) (hp : SqT X.K H p vy) (rx : Reps G F xs vx) (ry : Reps G F ys vy) (e : eqL f xs ys = .ok b) :
    wpAny (model X.prog X.w) A (richCompare (cop neq) (.ref a) (.ref p)) (fun w s' => w = .bool (neB neq b) ∧ Lft G X pins σ F H s') X.xe s := by
  obtain ⟨its, r, t1, z⟩ := I.tuple ha
  obtain ⟨its2, r2, t2, z2⟩ := I.tuple hp
  have l1 : its.toArray.size = xs.length := by rw [List.size_toArray, ← r.length, rx.length]
  have l2 : its2.toArray.size = ys.length := by rw [List.size_toArray, ← r2.length, ry.length]
  obtain ⟨⟨cls, dd, data, sl⟩, ho, hc, m, hd⟩ := id t1
  obtain ⟨⟨cls2, dd2, data2, sl2⟩, ho2, hc2, m2, hd2⟩ := id t2
  simp only at hc hd hc2 hd2
  subst hc hd hc2 hd2
  have start : LpI G X pins σ F H f xs ys b 0 s := ⟨.now S I, by simpa using e⟩
  have stop : ∀ s', LpI G X pins σ F H f xs ys b (min its.toArray.size its2.toArray.size) s' → Lft G X pins σ F H s' ∧ b = decide (xs.length = ys.length) := fun s' ⟨q1, q2⟩ => ⟨q1, by
    rw [l1, l2] at q2
    exact eqL_end (by omega) (Nat.min_le_left _ _) (Nat.min_le_right _ _) q2⟩
  have sz : (its.toArray.size == its2.toArray.size) = decide (xs.length = ys.length) := by
    rw [l1, l2]
    by_cases q : xs.length = ys.length <;> simp [q]
  cases neq with
  | false =>
    refine wpAny_richCompare_same_room (op := .Eq) ⟨_, ho, rfl⟩ ⟨_, ho2, rfl⟩ PySem.F.slot_tuple_eq (GQ.call_here PySem.F.slot_tuple_eq ⟨_, ho, rfl⟩ PySem.F.entry_tuple_eq (PySem.F.args_tuple_eq_2 _ _) ?_) sb.room.units0
    refine GP.tuple_eqG (R := wants (fun v s' => v ≠ .notImplemented ∧ (v = .bool (neB false b) ∧ Lft G X pins σ F H s')) X.xe) a p its.toArray its2.toArray m m2 dd dd2 sl sl2 (LpI G X pins σ F H f xs ys b) (LpJ G X pins σ F H b its.toArray.size)
      (fun i h1 h2 s' l => lp_turn E sb rx ry r r2 i h1 h2 s' l) (fun s' q => ?_) (fun i s' q => ?_) ho ho2 start
    · obtain ⟨q1, q2⟩ := stop s' q
      exact ⟨nofun, by rw [sz, q2]; rfl, q1⟩
    · obtain ⟨q1, rfl, _⟩ := q
      exact ⟨nofun, rfl, q1⟩
  | true =>
    refine wpAny_richCompare_same_room (op := .NotEq) ⟨_, ho, rfl⟩ ⟨_, ho2, rfl⟩ PySem.F.slot_tuple_ne (GQ.call_here PySem.F.slot_tuple_ne ⟨_, ho, rfl⟩ PySem.F.entry_tuple_ne (PySem.F.args_tuple_ne_2 _ _) ?_) sb.room.units0
    refine GP.tuple_neG (R := wants (fun v s' => v ≠ .notImplemented ∧ (v = .bool (neB true b) ∧ Lft G X pins σ F H s')) X.xe) a p its.toArray its2.toArray m m2 dd dd2 sl sl2 (LpI G X pins σ F H f xs ys b) (LpJ G X pins σ F H b its.toArray.size)
      (fun i h1 h2 s' l => lp_turn E sb rx ry r r2 i h1 h2 s' l) (fun s' q => ?_) (fun i s' q => ?_) ho ho2 start
    · obtain ⟨q1, q2⟩ := stop s' q
      refine ⟨nofun, ?_, q1⟩
      rw [bne, sz, q2]; rfl
    · obtain ⟨q1, rfl, _⟩ := q
      exact ⟨nofun, rfl, q1⟩
theorem rc_lst {n : Nat} {f : D → D → R Bool} (E : EqOk G X pins σ n f) (neq : Bool) {A : Around} (sb : Sub X (n + 1) A) {F H : Hp} {s : Shared} (S : Same F H) (I : Inv X pins σ H s) {xs ys : List D} {a p : Addr} {vx vy : List V} {b : Bool}
    (ha : H a = some (.lst vx)) (hp : H p = some (.lst vy)) (rx : Reps G F xs vx) (ry : Reps G F ys vy) (e : (if xs.length = ys.length then eqL f xs ys else .ok false) = .ok b) :
    wpAny (model X.prog X.w) A (richCompare (cop neq) (.ref a) (.ref p)) (fun w s' => w = .bool (neB neq b) ∧ Lft G X pins σ F H s') X.xe s := by
  have items : ∀ s', Lft G X pins σ F H s' → ∃ (its its2 : List Value) (k k2 : Nat), Vals vx its ∧ Vals vy its2 ∧ s'.heap.get? a = some { cls := .type "list", data := .seq its.toArray k } ∧ s'.heap.get? p = some { cls := .type "list", data := .seq its2.toArray k2 } := fun s' ⟨F1, H1, I1, st⟩ => by
    obtain ⟨z, its, k, r, e⟩ := I1.hok a _ (st.h _ _ ha)
    obtain ⟨z2, its2, k2, r2, e2⟩ := I1.hok p _ (st.h _ _ hp)
    exact ⟨its, its2, k, k2, r, r2, e, e2⟩
  by_cases hl : xs.length = ys.length
  · rw [if_pos hl] at e
    have start : LpI G X pins σ F H f xs ys b 0 s := ⟨.now S I, by simpa using e⟩
    have stop : ∀ s', LpI G X pins σ F H f xs ys b xs.length s' → Lft G X pins σ F H s' ∧ b = true := fun s' ⟨q1, q2⟩ => ⟨q1, by
      have := eqL_end (by omega) (Nat.le_refl _) (by omega) q2
      rw [this, decide_eq_true hl]⟩
    have turns : GP.ListI2 X.prog X.w A X.xe a p xs.length (LpI G X pins σ F H f xs ys b) (LpJ G X pins σ F H b xs.length) := fun i s' q => by
      obtain ⟨its, its2, k, k2, r, r2, e1, e2⟩ := items s' q.1
      have l1 : its.toArray.size = xs.length := by rw [List.size_toArray, ← r.length, rx.length]
      have l2 : its2.toArray.size = xs.length := by rw [List.size_toArray, ← r2.length, ry.length, hl]
      refine ⟨its.toArray, its2.toArray, k, k2, e1, e2, l1, l2, fun h1 h2 => ?_⟩
      have := lp_turn E sb rx ry r r2 i h1 h2 s' q
      rw [l1] at this
      exact this
    have falls : GP.ListJ2 a p xs.length (LpJ G X pins σ F H b xs.length) := fun i s' q => by
      obtain ⟨its, its2, k, k2, r, r2, e1, e2⟩ := items s' q.1
      exact ⟨its.toArray, its2.toArray, k, k2, e1, e2, by rw [List.size_toArray, ← r.length, rx.length], by rw [List.size_toArray, ← r2.length, ry.length, hl]⟩
    obtain ⟨its, its2, k, k2, r, r2, e1, e2⟩ := items s start.1
    cases neq with
    | false =>
      refine wpAny_richCompare_same_room (op := .Eq) ⟨_, e1, rfl⟩ ⟨_, e2, rfl⟩ PySem.F.slot_list_eq (GQ.call_here PySem.F.slot_list_eq ⟨_, e1, rfl⟩ PySem.F.entry_list_eq (PySem.F.args_list_eq_2 _ _) ?_) sb.room.units0
      refine GP.list_eqG (R := wants (fun v s' => v ≠ .notImplemented ∧ (v = .bool (neB false b) ∧ Lft G X pins σ F H s')) X.xe) a p xs.length (LpI G X pins σ F H f xs ys b) (LpJ G X pins σ F H b xs.length) turns falls (fun s' q => ?_) (fun i s' q => ?_) start
      · obtain ⟨q1, q2⟩ := stop s' q
        exact ⟨nofun, by rw [q2]; rfl, q1⟩
      · obtain ⟨q1, rfl, _⟩ := q
        exact ⟨nofun, rfl, q1⟩
    | true =>
      refine wpAny_richCompare_same_room (op := .NotEq) ⟨_, e1, rfl⟩ ⟨_, e2, rfl⟩ PySem.F.slot_list_ne (GQ.call_here PySem.F.slot_list_ne ⟨_, e1, rfl⟩ PySem.F.entry_list_ne (PySem.F.args_list_ne_2 _ _) ?_) sb.room.units0
      refine GP.list_neG (R := wants (fun v s' => v ≠ .notImplemented ∧ (v = .bool (neB true b) ∧ Lft G X pins σ F H s')) X.xe) a p xs.length (LpI G X pins σ F H f xs ys b) (LpJ G X pins σ F H b xs.length) turns falls (fun s' q => ?_) (fun i s' q => ?_) start
      · obtain ⟨q1, q2⟩ := stop s' q
        exact ⟨nofun, by rw [q2]; rfl, q1⟩
      · obtain ⟨q1, rfl, _⟩ := q
        exact ⟨nofun, rfl, q1⟩
  · rw [if_neg hl] at e
    cases e
    obtain ⟨its, its2, k, k2, r, r2, e1, e2⟩ := items s (.now S I)
    have hz : (its.toArray.size != its2.toArray.size) = true := by
      rw [List.size_toArray, List.size_toArray, ← r.length, ← r2.length, rx.length, ry.length]
      simpa [bne] using hl
    cases neq with
    | false => exact SeqAt.RcAt.lists_lengths ⟨_, e1, rfl, _, rfl⟩ ⟨_, e2, rfl, _, rfl⟩ hz sb.room.units0 X.prog X.w X.xe _ ⟨rfl, .now S I⟩
    | true => exact SeqAt.RcNeAt.lists_lengths ⟨_, e1, rfl, _, rfl⟩ ⟨_, e2, rfl, _, rfl⟩ hz sb.room.units0 X.prog X.w X.xe _ ⟨rfl, .now S I⟩
/-! ## == of data that are not plain -/
theorem eqChk_ok {x y : D} {r : R Bool} {b : Bool} (h : eqChk x y r = .ok b) : r = .ok b ∧ (sameD x y = true → b = true) := by
  unfold eqChk at h
  split at h
  · split at h
    · cases h
    · rename_i q
      cases h
      exact ⟨rfl, fun z => by cases b <;> simp_all⟩
  · cases h
/-- one level: == or != of values that are read, the second way for owned lists -/
theorem rc_ok (g : Gd G W cf lv X) {n m k : Nat} (hm : lv + 1 ≤ m) (hn : n + 1 ≤ m) (E : EqOk G X pins σ n (eqN G.P cf k)) (neq : Bool) {A : Around} (sb : Sub X m A) {F H : Hp} {s : Shared} (S : Same F H) (I : Inv X pins σ H s) {x y : D} {vx vy : V} {u w : Value} (hx : Rd2 G F H x vx) (hy : Rd2 G F H y vy)
    (rx : RelV vx u) (ry : RelV vy w) {b : Bool} (hp : plainEq x y = none) (e : eqN G.P cf (k + 1) x y = .ok b) :
    wpAny (model X.prog X.w) A (richCompare (cop neq) u w) (fun v s' => v = .bool (neB neq b) ∧ Lft G X pins σ F H s') X.xe s := by
  unfold eqN at e
  rw [hp] at e
  obtain ⟨e, _⟩ := eqChk_ok e
  cases x with
  | obj c i =>
    have hx : Rep G F (.obj c i) vx := by
      rcases hx with hx | ⟨ds, a, z, _⟩
      · exact hx
      · cases z
    have hy : Rep G F y vy := by
      rcases hy with hy | ⟨ds, a, rfl, _⟩
      · exact hy
      · have e : eqObj G.P cf c i (.lst ds) = .ok b := e
        unfold eqObj at e
        cases e
    exact rc_obj g neq (sb.mono hm) S I hx hy rx ry (by simpa using e)
  | tup xs =>
    cases y with
    | tup ys =>
      have hx : Rep G F (.tup xs) vx := by
        rcases hx with hx | ⟨ds, a, z, _⟩
        · exact hx
        · cases z
      have hy : Rep G F (.tup ys) vy := by
        rcases hy with hy | ⟨ds, a, z, _⟩
        · exact hy
        · cases z
      simp only [Rep] at hx hy
      obtain ⟨a, us, rfl, h1, h2⟩ := hx
      obtain ⟨p, ws, rfl, k1, k2⟩ := hy
      cases (show u = Value.ref a from rx)
      cases (show w = Value.ref p from ry)
      exact rc_tup E g.kK neq (sb.mono hn) S I (by rw [g.kK]; exact sqT_same S h1) (by rw [g.kK]; exact sqT_same S k1) h2 k2 e
    | _ => cases e
  | lst xs =>
    cases y with
    | lst ys =>
      have rd : ∀ {ds : List D} {v : V}, Rd2 G F H (.lst ds) v → ∃ a vs, v = .ref a ∧ H a = some (.lst vs) ∧ Reps G F ds vs := fun {ds v} h => by
        rcases h with h | ⟨ds', a, z, rfl, vs, q1, q2, q3⟩
        · simp only [Rep] at h
          obtain ⟨a, vs, rfl, q1, q2⟩ := h
          exact ⟨a, vs, rfl, S _ _ q1, q2⟩
        · cases z
          exact ⟨a, vs, rfl, q1, q3⟩
      obtain ⟨a, us, rfl, h1, h2⟩ := rd hx
      obtain ⟨p, ws, rfl, k1, k2⟩ := rd hy
      cases (show u = Value.ref a from rx)
      cases (show w = Value.ref p from ry)
      exact rc_lst E neq (sb.mono hn) S I h1 k1 h2 k2 e
    | _ => cases e
  | _ => cases e
theorem plain_eqB (g : Gd G W cf lv X) {A : Around} (hu : A.units + 64 < cLine) {F H : Hp} {s : Shared} (S : Same F H) (I : Inv X pins σ H s) {x y : D} {vx vy : V} {u w : Value} (hx : Rep G F x vx) (hy : Rep G F y vy) (rx : RelV vx u) (ry : RelV vy w) {b : Bool}
    (hp : plainEq x y = some (.ok b)) : wpAny (model X.prog X.w) A (eqBool u w) (fun r s' => r = b ∧ Lft G X pins σ F H s') X.xe s := by
  unfold plainEq at hp
  split at hp
  · rename_i p q e1 e2
    by_cases hs : SeqAt.shaped p = true ∧ SeqAt.shaped q = true
    · rw [if_pos hs] at hp
      cases hp
      obtain ⟨as, r1⟩ := Dp.reads I p vx u (by rw [g.kK]; exact dp_rep S e1 hx) rx
      obtain ⟨bs, r2⟩ := Dp.reads I q vy w (by rw [g.kK]; exact dp_rep S e2 hy) ry
      exact SeqAt.eqAt_reads p q A s u w as bs r1 r2 (SeqAt.canLay_of_shaped hs.1) (SeqAt.canLay_of_shaped hs.2) (SeqAt.room_of_shaped hs.1 hu) X.prog X.w X.xe _ ⟨rfl, .now S I⟩
    · rw [if_neg hs] at hp
      cases hp
  · cases hp
/-- from a rich comparison to == inside lists and tuples -/
theorem eqB_of {F H : Hp} {A : Around} {s : Shared} {a p : Addr} {b : Bool} (hs : a = p → b = true ∧ Lft G X pins σ F H s) (h : wpAny (model X.prog X.w) A (richCompare .Eq (.ref a) (.ref p)) (fun v s' => v = .bool b ∧ Lft G X pins σ F H s') X.xe s) :
    wpAny (model X.prog X.w) A (eqBool (.ref a) (.ref p)) (fun r s' => r = b ∧ Lft G X pins σ F H s') X.xe s := by
  by_cases hab : a = p
  · subst hab
    obtain ⟨rfl, l⟩ := hs rfl
    exact SeqAt.EqAt.same (A := A) (s := s) (.ref a) X.prog X.w X.xe _ ⟨rfl, l⟩
  · exact GQ.eqBool_refG hab (wpAny_mono h (fun v s' q => by
      obtain ⟨rfl, q⟩ := q
      exact ⟨b, rfl, rfl, q⟩) fun _ _ x => x)
theorem eqN_ok (g : Gd G W cf lv X) : ∀ n : Nat, EqOk G X pins σ (lv + 1 + n) (eqN G.P cf n)
  | 0 => by
    intro A sb F H s S I x y vx vy u w hx hy rx ry b e
    cases hp : plainEq x y with
    | none => unfold eqN at e; rw [hp] at e; cases e
    | some r =>
      unfold eqN at e
      rw [hp] at e
      simp only at e
      subst e
      exact plain_eqB g (by have := sb.room.un; omega) S I hx hy rx ry hp
  | n + 1 => by
    intro A sb F H s S I x y vx vy u w hx hy rx ry b e
    cases hp : plainEq x y with
    | some r =>
      unfold eqN at e
      rw [hp] at e
      simp only at e
      subst e
      exact plain_eqB g (by have := sb.room.un; omega) S I hx hy rx ry hp
    | none =>
      have h := rc_ok g (m := lv + 1 + (n + 1)) (by omega) (by omega) (eqN_ok g n) false sb S I (.inl hx) (.inl hy) rx ry hp e
      have e' := e
      unfold eqN at e'
      rw [hp] at e'
      obtain ⟨e', hsame⟩ := eqChk_ok e'
      have isr : isRf x = true ∧ ((∃ c i, x = .obj c i) ∨ isRf y = true) := by
        cases x with
        | obj c i => exact ⟨rfl, .inl ⟨c, i, rfl⟩⟩
        | tup xs => cases y <;> first | exact ⟨rfl, .inr rfl⟩ | cases e'
        | lst xs => cases y <;> first | exact ⟨rfl, .inr rfl⟩ | cases e'
        | _ => cases e'
      obtain ⟨a, rfl⟩ := rep_ref isr.1 hx
      cases (show u = Value.ref a from rx)
      by_cases ry' : isRf y = true
      · obtain ⟨p, rfl⟩ := rep_ref ry' hy
        cases (show w = Value.ref p from ry)
        exact eqB_of (fun z => by subst z; exact ⟨hsame (rep_same g S I hx hy), .now S I⟩) h
      · -- an instance beside a plain thing
        have nr : ∀ p, w ≠ .ref p := fun p z => by
          subst z
          cases y with
          | non => simp only [Rep] at hy; subst hy; cases ry
          | bl b => simp only [Rep] at hy; subst hy; cases ry
          | int i => simp only [Rep] at hy; subst hy; obtain ⟨t, z⟩ := ry; cases z
          | str z => simp only [Rep] at hy; subst hy; obtain ⟨t, z⟩ := ry; cases z
          | _ => exact absurd rfl ry'
        unfold eqBool
        refine wpAny_holding ?_
        refine wpAny_ite_split (fun hab => absurd (eq_of_beq hab).symm (nr a)) (fun _ => ?_)
        refine wpAny_bind (wpAny_mono h (fun v s' q => ?_) fun _ _ x => x)
        obtain ⟨rfl, q⟩ := q
        exact wpAny_truthy_bool ⟨rfl, q⟩
theorem own_eq (g : Gd G W cf lv X) (neq : Bool) {op : CmpOp} (hop : op = cop neq) {m : D → D → R Bool} (hc : ∀ a b, m a b = (eqT G.P cf a b).map (neB neq)) (hco : ∀ a b, compareOp op a b = richCompare op a b) : OwnEq G W X (compareOp op) (blR m) := by
  intro pins s σ H x y v u Q I rx ry ⟨F, a, b, S, hx, hy, hp, h⟩
  unfold blR at h
  rw [hc] at h
  subst hop
  rw [hco]
  cases e : eqT G.P cf a b with
  | ok r =>
    rw [e] at h
    have sb := subX g
    refine wpAny_mono (rc_ok (k := 5) g (m := lv + 8) (by omega) (by omega) (eqN_ok g 5) neq sb S I hx hy rx ry hp e) (fun w s' q => ?_) fun _ _ x => x
    obtain ⟨rfl, F', H', I', st⟩ := q
    exact ⟨.bl (neB neq r), H', I', rfl, h _ F' H' st (by simp only [VrRel, Rep])⟩
  | exc x =>
    exfalso
    unfold eqT eqN at e
    rw [hp] at e
    unfold eqChk at e
    simp only at e
    split at e
    · split at e <;> cases e
    · cases e
  | stuck => rw [e] at h; exact h.elim
end
end PV
set_option Elab.async false
set_option linter.all false
set_option maxRecDepth 100000
set_option maxHeartbeats 4000000
namespace PV
open PySem PySem.Spec PySem.Calls PyProof.Rows L2
section
variable {G : Gb} {W : XK} {X : Cx} {cf : CF} {lv : Nat} {pins : List (Addr × Obj)} {σ : Sg}
/-- the scan for an equal item -/
def MmI (G : Gb) (X : Cx) (pins : List (Addr × Obj)) (σ : Sg) (F H : Hp) (f : D → D → R Bool) (x : D) (ys : List D) (b : Bool) (i : Nat) (s' : Shared) : Prop := Lft G X pins σ F H s' ∧ memL f x (ys.drop i) = .ok b
theorem mm_turn {n : Nat} {f : D → D → R Bool} (E : EqOk G X pins σ n f) {A : Around} (sb : Sub X (n + 1) A) {F H : Hp} {x : D} {ys : List D} {vx : V} {u : Value} {vy : List V} {its : List Value} {b : Bool} (rx : Rep G F x vx) (ux : RelV vx u) (ry : Reps G F ys vy) (r : Vals vy its)
    (i : Nat) (h1 : i < its.toArray.size) (s' : Shared) (l : MmI G X pins σ F H f x ys b i s') :
    wpAny (model X.prog X.w) A.in1 (eqBool its.toArray[i] u) (fun r s2 => (r = true ∧ b = true ∧ Lft G X pins σ F H s2) ∨ (r = false ∧ MmI G X pins σ F H f x ys b (i + 1) s2)) X.xe s' := by
  obtain ⟨⟨F1, H1, I1, st⟩, e⟩ := l
  have g1 : its[i]? = some its.toArray[i] := by
    have h1' : i < its.length := by simpa using h1
    rw [List.getElem?_eq_getElem h1'] <;> simp
  have k1 : i < vy.length := by rw [r.length]; simpa using h1
  obtain ⟨w, hw, rw_⟩ := r.get (List.getElem?_eq_getElem k1)
  obtain ⟨y, hy, qy⟩ := ry.get' (List.getElem?_eq_getElem k1)
  rw [g1] at hw
  rw [Option.some.inj hw]
  have l1 : i < ys.length := (List.getElem?_eq_some_iff.mp hy).1
  rw [List.drop_eq_getElem_cons l1, (List.getElem?_eq_some_iff.mp hy).2] at e
  unfold memL at e
  cases hf : f y x with
  | ok b' =>
    rw [hf] at e
    refine wpAny_mono (E _ sb.in1 _ _ _ st.sub I1 _ _ _ _ _ _ (qy.mono st.f) (rx.mono st.f) rw_ ux _ hf) (fun r s2 q => ?_) fun _ _ x => x
    obtain ⟨rfl, q⟩ := q
    cases r with
    | true =>
      cases e
      exact .inl ⟨rfl, rfl, q.trans st⟩
    | false => exact .inr ⟨rfl, q.trans st, e⟩
  | exc x => rw [hf] at e; cases e
  | stuck => rw [hf] at e; cases e
theorem memL_end {f : D → D → R Bool} {x : D} {ys : List D} {b : Bool} {i : Nat} (h : ys.length ≤ i) (e : memL f x (ys.drop i) = .ok b) : b = false := by
  rw [List.drop_of_length_le h] at e
  cases e
  rfl
theorem cn_tup {n : Nat} {f : D → D → R Bool} (E : EqOk G X pins σ n f) {A : Around} (sb : Sub X (n + 1) A) {F H : Hp} {s : Shared} (S : Same F H) (I : Inv X pins σ H s) {x : D} {vx : V} {u : Value} {ys : List D} {p : Addr} {vy : List V} {b : Bool} (rx : Rep G F x vx) (ux : RelV vx u)
    (hp : SqT X.K H p vy) (ry : Reps G F ys vy) (e : memL f x ys = .ok b) {Q : Bool → Shared → Prop} (hQ : ∀ s', Lft G X pins σ F H s' → Q b s') : wpAny (model X.prog X.w) A (contains (.ref p) u) Q X.xe s := by
  obtain ⟨its, r, t1, z⟩ := I.tuple hp
  have l1 : its.toArray.size = ys.length := by rw [List.size_toArray, ← r.length, ry.length]
  obtain ⟨⟨cls, dd, data, sl⟩, ho, hc, m, hd⟩ := id t1
  simp only at hc hd
  subst hc hd
  refine wpAny_contains_slot ⟨_, ho, rfl⟩ PySem.F.slot_tuple_contains (GQ.call_here PySem.F.slot_tuple_contains ⟨_, ho, rfl⟩ PySem.F.entry_tuple_contains (PySem.F.args_tuple_contains_2 _ _) ?_)
  refine GP.tuple_inG (R := wants (fun v s' => wpAny (model X.prog X.w) A (truthy v) Q X.xe s') X.xe) p its.toArray m dd sl u (MmI G X pins σ F H f x ys b) (fun i h1 s' l => ?_) (fun s' q => ?_) ho ⟨.now S I, by simpa using e⟩
  · refine wpAny_mono (mm_turn E sb rx ux ry r i h1 s' l) (fun r s2 q => ?_) fun _ _ x => x
    rcases q with ⟨rfl, rfl, q⟩ | q
    · exact .inl ⟨rfl, wpAny_truthy_bool (hQ _ q)⟩
    · exact .inr q
  · obtain ⟨q1, q2⟩ := q
    obtain rfl := memL_end (by omega) q2
    exact wpAny_truthy_bool (hQ _ q1)
theorem cn_lst {n : Nat} {f : D → D → R Bool} (E : EqOk G X pins σ n f) {A : Around} (sb : Sub X (n + 1) A) {F H : Hp} {s : Shared} (S : Same F H) (I : Inv X pins σ H s) {x : D} {vx : V} {u : Value} {ys : List D} {p : Addr} {vy : List V} {b : Bool} (rx : Rep G F x vx) (ux : RelV vx u)
    (hp : H p = some (.lst vy)) (ry : Reps G F ys vy) (e : memL f x ys = .ok b) {Q : Bool → Shared → Prop} (hQ : ∀ s', Lft G X pins σ F H s' → Q b s') : wpAny (model X.prog X.w) A (contains (.ref p) u) Q X.xe s := by
  have items : ∀ s', Lft G X pins σ F H s' → ∃ (its : List Value) (k : Nat), Vals vy its ∧ s'.heap.get? p = some { cls := .type "list", data := .seq its.toArray k } := fun s' ⟨F1, H1, I1, st⟩ => by
    obtain ⟨z, its, k, r, e⟩ := I1.hok p _ (st.h _ _ hp)
    exact ⟨its, k, r, e⟩
  have start : MmI G X pins σ F H f x ys b 0 s := ⟨.now S I, by simpa using e⟩
  obtain ⟨its, k, r, e1⟩ := items s start.1
  refine wpAny_contains_slot ⟨_, e1, rfl⟩ PySem.F.slot_list_contains (GQ.call_here PySem.F.slot_list_contains ⟨_, e1, rfl⟩ PySem.F.entry_list_contains (PySem.F.args_list_contains_2 _ _) ?_)
  refine GP.list_inG (R := wants (fun v s' => wpAny (model X.prog X.w) A (truthy v) Q X.xe s') X.xe) p u ys.length (MmI G X pins σ F H f x ys b) (fun i s' q => ?_) (fun s' q => ?_) start
  · obtain ⟨its, k, r, e1⟩ := items s' q.1
    have l1 : its.toArray.size = ys.length := by rw [List.size_toArray, ← r.length, ry.length]
    refine ⟨its.toArray, k, e1, l1, fun h1 => ?_⟩
    refine wpAny_mono (mm_turn E sb rx ux ry r i h1 s' q) (fun r s2 z => ?_) fun _ _ x => x
    rcases z with ⟨z1, z2, z⟩ | z
    · subst z1 z2
      exact .inl ⟨rfl, wpAny_truthy_bool (hQ _ z)⟩
    · exact .inr z
  · obtain ⟨q1, q2⟩ := q
    obtain rfl := memL_end (Nat.le_refl _) q2
    exact wpAny_truthy_bool (hQ _ q1)
/-- x in y of values that are read -/
theorem cn_ok (g : Gd G W cf lv X) {F H : Hp} {s : Shared} (S : Same F H) (I : Inv X pins σ H s) {x y : D} {vx vy : V} {u w : Value} (hx : Rd2 G F H x vx) (hy : Rd2 G F H y vy) (rx : RelV vx u) (ry : RelV vy w) {b : Bool} (hp : plainMem x y = none) (e : memT G.P cf x y = .ok b)
    {Q : Bool → Shared → Prop} (hQ : ∀ s', Lft G X pins σ F H s' → Q b s') : wpAny (model X.prog X.w) X.A (contains w u) Q X.xe s := by
  have sb := subX g
  have E := eqN_ok (pins := pins) (σ := σ) g 5
  unfold memT at e
  rw [hp] at e
  simp only at e
  by_cases hn : notLst x = true
  · rw [if_pos hn] at e
    have hx : Rep G F x vx := by
      rcases hx with hx | ⟨ds, a, rfl, _⟩
      · exact hx
      · cases hn
    cases y with
    | tup ys =>
      have hy : Rep G F (.tup ys) vy := by
        rcases hy with hy | ⟨ds, a, z, _⟩
        · exact hy
        · cases z
      simp only [Rep] at hy
      obtain ⟨p, ws, rfl, k1, k2⟩ := hy
      cases (show w = Value.ref p from ry)
      exact cn_tup E (sb.mono (by omega)) S I hx rx (by rw [g.kK]; exact sqT_same S k1) k2 e hQ
    | lst ys =>
      have rd : ∀ {ds : List D} {v : V}, Rd2 G F H (.lst ds) v → ∃ a vs, v = .ref a ∧ H a = some (.lst vs) ∧ Reps G F ds vs := fun {ds v} h => by
        rcases h with h | ⟨ds', a, z, rfl, vs, q1, q2, q3⟩
        · simp only [Rep] at h
          obtain ⟨a, vs, rfl, q1, q2⟩ := h
          exact ⟨a, vs, rfl, S _ _ q1, q2⟩
        · cases z
          exact ⟨a, vs, rfl, q1, q3⟩
      obtain ⟨p, ws, rfl, k1, k2⟩ := rd hy
      cases (show w = Value.ref p from ry)
      exact cn_lst E (sb.mono (by omega)) S I hx rx k1 k2 e hQ
    | _ => cases e
  · rw [if_neg hn] at e; cases e
theorem memL_exc {f : D → D → R Bool} {x : D} {z : Exn} : ∀ {ys : List D}, memL f x ys ≠ .exc z
  | [] => nofun
  | y :: ys => by
    unfold memL
    cases f y x with
    | ok b => cases b with
      | true => exact nofun
      | false => exact memL_exc
    | exc _ => exact nofun
    | stuck => exact nofun
theorem memT_exc {P : Prg} {cf : CF} {x y : D} {z : Exn} (hp : plainMem x y = none) : memT P cf x y ≠ .exc z := by
  unfold memT
  rw [hp]
  simp only
  split
  · cases y <;> first | exact memL_exc | exact nofun
  · exact nofun
theorem own_mem (g : Gd G W cf lv X) : OwnMem G W X (compareOp .In) (blR (cmpD G.P cf .mem)) := by
  intro pins s σ H x y v u Q I rx ry ⟨F, a, b, S, hx, hy, hp, h⟩
  simp only [blR, cmpD] at h
  cases e : memT G.P cf a b with
  | ok r =>
    rw [e] at h
    show wpAny _ X.A (do return Value.bool (← contains u v)) _ _ _
    refine wpAny_bind (cn_ok g S I hx hy rx ry hp e fun s' q => ?_)
    obtain ⟨F', H', I', st⟩ := q
    exact wpAny_pure ⟨.bl r, H', I', rfl, h _ F' H' st (by simp only [VrRel, Rep])⟩
  | exc z => exact absurd e (memT_exc hp)
  | stuck => rw [e] at h; exact h.elim
theorem own_nmem (g : Gd G W cf lv X) : OwnMem G W X (compareOp .NotIn) (blR (cmpD G.P cf .nmem)) := by
  intro pins s σ H x y v u Q I rx ry ⟨F, a, b, S, hx, hy, hp, h⟩
  simp only [blR, cmpD] at h
  cases e : memT G.P cf a b with
  | ok r =>
    rw [e] at h
    show wpAny _ X.A (do return Value.bool (!(← contains u v))) _ _ _
    refine wpAny_bind (cn_ok g S I hx hy rx ry hp e fun s' q => ?_)
    obtain ⟨F', H', I', st⟩ := q
    exact wpAny_pure ⟨.bl (!r), H', I', rfl, h _ F' H' st (by simp only [VrRel, Rep])⟩
  | exc z => exact absurd e (memT_exc hp)
  | stuck => rw [e] at h; exact h.elim
/-- what the own classes do for operators -/
theorem owns_ok (g : Gd G W cf lv X) : Owns G W cf X where
  add := own_bin g (op := .Add) (m := "__add__") rfl (by decide) (by decide) fun c i y => rfl
  sub := own_bin g (op := .Sub) (m := "__sub__") rfl (by decide) (by decide) fun c i y => rfl
  mul := own_bin g (op := .Mult) (m := "__mul__") rfl (by decide) (by decide) fun c i y => rfl
  neg := own_neg g
  lt := own_cmp g (op := .Lt) (fun _ _ => rfl) (m := "__lt__") rfl (by decide) fun c i y => rfl
  le := own_cmp g (op := .LtE) (fun _ _ => rfl) (m := "__le__") rfl (by decide) fun c i y => rfl
  eq := own_eq g false rfl (fun a b => by
    show eqT G.P cf a b = _
    cases eqT G.P cf a b <;> rfl) fun _ _ => rfl
  ne := own_eq g true rfl (fun a b => rfl) fun _ _ => rfl
  mem := own_mem g
  nmem := own_nmem g
end
end PV
set_option Elab.async false
set_option linter.all false
set_option maxRecDepth 100000
set_option maxHeartbeats 4000000
namespace PV
open PySem PySem.Spec PyProof.Rows L2
/-! ## what the run of the text's top must have left -/
abbrev AlX : Type := He.AlD × Bool
def obsX (fa : List He.Fa) (fn : List He.DefD) (x : PySem.W.Frag → Bool) (K : PySem.W.Frag) : AlX := (He.obsD fa fn K, x K)
def SaysX (fa : List He.Fa) (fn : List He.DefD) (x : PySem.W.Frag → Bool) (K : PySem.W.Frag) : Prop := obsX fa fn x K = (He.valD fn, true)
def obsXG (n : Nat) (fa : List He.Fa) (fn : List He.DefD) (x : PySem.W.Frag → Bool) (g : Addr → Option Obj) : AlX := obsX fa fn x (He.frG g (PySem.cStatics :: He.asD g n))
def hookX (n : Nat) (fa : List He.Fa) (fn : List He.DefD) (x : PySem.W.Frag → Bool) : PySem.W.Hook where
  α := AlX
  obs := fun s => obsXG n fa fn x s.heap.get?
  val := fun _ => (He.valD fn, true)
  says := fun _ h => ∃ K : PySem.W.Frag, K.In h ∧ SaysX fa fn x K
  of := fun _ _ e => ⟨_, He.frG_in, e⟩
  keeps := fun _ _ _ ⟨K, hK, c⟩ k => ⟨K, PySem.W.Frag.In.keeps hK k, c⟩
theorem obsXG_eq {n : Nat} {fa : List He.Fa} {fn : List He.DefD} {x : PySem.W.Frag → Bool} {g : Addr → Option Obj} {s : Shared} (h : ∀ a, g a = s.heap.get? a) : obsXG n fa fn x g = (hookX n fa fn x).obs s := by
  have e : g = s.heap.get? := funext h
  rw [e] <;> rfl
theorem SaysX.d {fa : List He.Fa} {fn : List He.DefD} {x : PySem.W.Frag → Bool} {K : PySem.W.Frag} (h : SaysX fa fn x K) : He.SaysD fa fn K ∧ x K = true := by
  have h1 : He.obsD fa fn K = He.valD fn := congrArg Prod.fst h
  have h2 : x K = true := congrArg Prod.snd h
  exact ⟨h1, h2⟩
/-! ### the facts that a text needs -/
def faFn (P : Prg) : List He.Fa := (P.fns.filter (·.top)).map fun f => .glo f.name
def faX (P : Prg) : List He.Fa := P.exs.flatMap fun E => [.glo E.name, .keep E.name] ++ P.exs.map fun E' => .exm E'.name E.name (decide (E.name = E'.name))
def faFr (frs : List Str) : List He.Fa := frs.map .free
def faK (P : Prg) : List He.Fa := P.cls.flatMap fun C => [.glo C.name, .cls C.name, .mkr C.name] ++ (C.flds.map (fun f => .noat C.name f) ++ C.meths.map fun p => .meth C.name p.1)
def faOf (P : Prg) (frs : List Str) : List He.Fa := faFn P ++ (faX P ++ (faFr frs ++ (faK P ++ P.cons.map fun p => .int p.1 p.2)))
def eqOO (a b : Option (Option Value)) : Bool := decide (a = b)
def xC1 (P : Prg) (K : PySem.W.Frag) (C : ClsI) : Bool :=
  decide (PySem.W.findIn K (.ref (He.ga K C.name)) "__class__" = some (some (.builtin "object.__class__"))) && (decide (PySem.W.specialIn K (.builtin "object.__class__") "__get__" = some (some (.builtin "getset_descriptor.__get__"))) && (decide (PySem.W.takesIn K (.builtin "object.__class__") = some true) && (decide (PySem.W.mroIn K (He.ga K C.name) (.type "object") = some true) &&
  (PySem.W.selfFirst K (He.ga K C.name) && ((["add", "sub", "mul"].all fun nm => decide (PySem.W.findIn K (.ref (He.ga K C.name)) (PySem.dunderR nm) = some none)) && (decide (PySem.W.findIn K (.ref (He.ga K C.name)) "__ne__" = some (some (.builtin "object.__ne__"))) &&
  ((["int", "bool", "str", "tuple", "list"].all fun t => decide (PySem.W.kitOne K (.ref (He.ga K C.name)) (.type t) = some false)) && ((["NoneType", "int", "bool", "str", "tuple", "list", "dict"].all fun t => decide (PySem.W.kitOne K (.type t) (.ref (He.ga K C.name)) = some false)) &&
  P.cls.all fun C' => decide (PySem.W.kitOne K (.ref (He.ga K C.name)) (.ref (He.ga K C'.name)) = some (decide (C'.name = C.name))))))))))) 
def xC (P : Prg) (K : PySem.W.Frag) : Bool := P.cls.all (xC1 P K)
/-- the class that the exceptions' __init__ call -/
def baseN : Str := "Fault"
def xI (P : Prg) (K : PySem.W.Frag) : Bool := P.exs.all fun E => match E.fld with
  | none => true
  | some _ => oexB K (He.ga K E.name) && (baseB K (He.ga K baseN) && (decide (PySem.W.nsIn K mainGlobals baseN = some (some (.ref (He.ga K baseN)))) && (decide (PySem.W.findIn K (.ref (He.ga K E.name)) "__init__" = some (some (.ref (He.ma K (He.ga K E.name) "__init__")))) && decide (PySem.W.typeIn K (.ref (He.ma K (He.ga K E.name) "__init__")) = some (.type "function")))))
def xOf (P : Prg) (K : PySem.W.Frag) : Bool := (xI P K && xC P K) && P.exs.all fun E => decide (PySem.W.subIn K (.ref (He.ga K E.name)) (.type "BaseException") = some true) && (decide (PySem.W.typeIn K (.ref (He.ga K E.name)) = some (.type "type")) && (match E.fld with
  | none => PySem.W.excIn K (He.ga K E.name) mroVE "ValueError.__new__"
  | some f => xfB K (He.ga K E.name) && decide (PySem.W.findIn K (.ref (He.ga K E.name)) f = some none)))
def gbOf (P : Prg) (fn : List He.DefD) (K : PySem.W.Frag) : Gb where
  P := P
  K := K
  fn := fun k => match fn[k]? with
    | some d => He.fAd K d.at_
    | none => 0
  cls := fun c => match P.cls[c]? with
    | some C => He.ga K C.name
    | none => 0
  exc := fun c => match P.exs[c]? with
    | some E => He.ga K E.name
    | none => 0
  exf := fun c => match P.exs[c]? with
    | some E => E.fld.getD ""
    | none => ""
def scB (N ps : List Str) (sc : Scope) : Bool := decide (sc.kind = .function) && (!sc.isCoroutine && (!sc.isGenerator && (decide (N.Nodup) && (decide (N.take ps.length = ps) && (ps.all (locB sc) && sc.names.all fun y => !decide (y.2 = .free))))))
theorem scB_ok {N ps : List Str} {sc : Scope} (h : scB N ps sc = true) : FnScope N ps sc := by
  unfold scB at h
  simp only [Bool.and_eq_true, decide_eq_true_eq, Bool.not_eq_true'] at h
  obtain ⟨h1, h2, h3, h4, h5, h6, h7⟩ := h
  refine ⟨h1, h2, h3, h4, h5, fun x hx => ?_, fun y hy => ?_⟩
  · have q := List.all_eq_true.mp h6 x hx
    unfold locB kindB at q
    simp only [Bool.or_eq_true, decide_eq_true_eq] at q
    exact q
  · have q := List.all_eq_true.mp h7 y hy
    simp only [Bool.not_eq_true', decide_eq_false_iff_not] at q
    exact q
/-- a def of the text, and its form in the program -/
structure Row (P : Prg) (frs : List Str) (f : FnI) (d : He.DefD) : Prop where
  top : f.top = true → d.at_ = (f.name, none)
  dfl : d.dfl = f.dv.map He.Dv.int
  kwd : d.kwd = []
  sc : scB f.N f.ps d.scope = true
  chk : chkSs ⟨P, f.N, frs⟩ f.body d.scope d.body = true
  bind : f.dv = [] → ∀ (kV doc pm : Value) (an : Option Addr) (cdv ct : Value) (us : List Value), us.length = f.ps.length → bindArgs (PySem.W.fnOf d.name d.qual d.params d.body d.scope .none kV doc pm an cdv ct) ⟨us, []⟩ = pure (f.ps.zip us)
  bindD : f.dv ≠ [] → ∀ (K : PySem.W.Frag) (fd : FuncData) (g : Addr), FunD K d.name d.qual d.params d.body d.scope (f.dv.map V.int) [] g fd → Binds K fd f.ps [] ∧ ∃ ds, Vals (f.dv.map V.int) ds ∧ Binds K fd f.ps ds
/-- the classes of the text, in its defs -/
structure ClsRow (P : Prg) (fn : List He.DefD) (C : ClsI) : Prop where
  me : ∀ p ∈ C.meths, (fn[p.2]?).map (fun d => d.at_) = some (C.name, some p.1)
  ini : (fn[C.init]?).map (fun d => d.at_) = some (C.name, some ("__init__" : Str))
  ar : ∀ p ∈ opArs, ∀ k, C.meths.lookup p.1 = some k → ∃ f, P.fns[k]? = some f ∧ f.ps.length = p.2
  mf : ∀ p ∈ C.meths, p.1 ∉ C.flds
def clsRowB (P : Prg) (fn : List He.DefD) (C : ClsI) : Bool :=
  (C.meths.all fun p => decide ((fn[p.2]?).map (fun d => d.at_) = some (C.name, some p.1))) && (decide ((fn[C.init]?).map (fun d => d.at_) = some (C.name, some ("__init__" : Str))) && ((opArs.all fun p => match C.meths.lookup p.1 with
    | some k => (match P.fns[k]? with
      | some f => decide (f.ps.length = p.2)
      | none => false)
    | none => true) && C.meths.all fun p => !hasB p.1 C.flds))
theorem clsRow_of {P : Prg} {fn : List He.DefD} {C : ClsI} (h : clsRowB P fn C = true) : ClsRow P fn C := by
  unfold clsRowB at h
  simp only [Bool.and_eq_true, decide_eq_true_eq] at h
  obtain ⟨h1, h2, h3, h4⟩ := h
  refine ⟨fun p hp => ?_, h2, fun p hp k hk => ?_, fun p hp hm => ?_⟩
  · have := List.all_eq_true.mp h1 p hp
    exact of_decide_eq_true this
  · have := List.all_eq_true.mp h3 p hp
    rw [hk] at this
    simp only at this
    split at this
    · rename_i f hf
      exact ⟨f, hf, of_decide_eq_true this⟩
    · cases this
  · have := List.all_eq_true.mp h4 p hp
    simp only [Bool.not_eq_true'] at this
    have q : hasB p.1 C.flds = true := by
      unfold hasB
      exact List.any_eq_true.mpr ⟨p.1, hm, by simp⟩
    rw [q] at this
    cases this
/-- an exception's __init__: its def stands behind the functions; B is the class that it calls -/
structure IniRow (E : ExcI) (f B : Str) (d : He.DefD) (ps : List Str) : Prop where
  at_ : d.at_ = (E.name, some ("__init__" : Str))
  dfl : d.dfl = []
  kwd : d.kwd = []
  bind : ∀ (kV doc pm : Value) (an : Option Addr) (cdv ct : Value) (us : List Value), us.length = ps.length → bindArgs (PySem.W.fnOf d.name d.qual d.params d.body d.scope .none kV doc pm an cdv ct) ⟨us, []⟩ = pure (ps.zip us)
  run : ∀ (prog : Program) (w : World) (K : PySem.W.Frag) (mg : Str → Option Value) (base : Heap) (CX : CXT) (fI b : Addr) (fd : FuncData), FunD K d.name d.qual d.params d.body d.scope [] [] fI fd → mg B = some (.ref b) → BaseOk K b → FnOk prog w K mg base CX 1 fI fd ps (spI K f)
structure Rows (P : Prg) (frs : List Str) (fn : List He.DefD) : Prop where
  ini : ∀ E ∈ P.exs, ∀ f, E.fld = some f → ∃ d ps, d ∈ fn ∧ IniRow E f baseN d ps
  cl : ∀ C ∈ P.cls, ClsRow P fn C
  cn : (P.cls.map (·.name)).Nodup
  len : P.fns.length ≤ fn.length
  row : ∀ (k : Nat) (f : FnI) (d : He.DefD), P.fns[k]? = some f → fn[k]? = some d → Row P frs f d
  exn : (P.exs.map (·.name)).Nodup
theorem lookup_mem {α β : Type} [BEq α] [LawfulBEq α] {l : List (α × β)} {a : α} {b : β} (h : l.lookup a = some b) : (a, b) ∈ l := by
  induction l with
  | nil => cases h
  | cons p l ih =>
    obtain ⟨x, y⟩ := p
    rw [List.lookup_cons] at h
    split at h
    · rename_i e
      cases h
      rw [eq_of_beq e]
      exact List.mem_cons_self ..
    · exact List.mem_cons_of_mem _ (ih h)
theorem txt_of {P : Prg} {frs : List Str} {fn : List He.DefD} {K : PySem.W.Frag} {mg : Str → Option Value} {h : Heap} (R : Rows P frs fn) (S : SaysX (faOf P frs) fn (xOf P) K) (X : K.In h) (N : h.Ns mainGlobals mg) :
    ∃ fd, Txt (gbOf P fn K) frs mg fd ∧ ∀ (k : Nat) (d : He.DefD), fn[k]? = some d → FunD K d.name d.qual d.params d.body d.scope (d.dvs K) (d.kws K) ((gbOf P fn K).fn k) (fd k) := by
  obtain ⟨SD, hx⟩ := S.d
  unfold xOf at hx
  rw [Bool.and_eq_true] at hx
  obtain ⟨hxc, hx⟩ := hx
  rw [Bool.and_eq_true] at hxc
  obtain ⟨hxi, hxc⟩ := hxc
  unfold xC at hxc
  have fact : ∀ f ∈ faOf P frs, f.ok K = true := fun f hf => by
    obtain ⟨i, hi⟩ := List.getElem?_of_mem hf
    exact SD.fact i hi
  have cho : ∀ k : Nat, ∃ fd, ∀ d : He.DefD, fn[k]? = some d → FunD K d.name d.qual d.params d.body d.scope (d.dvs K) (d.kws K) ((gbOf P fn K).fn k) fd := fun k => by
    cases hk : fn[k]? with
    | none => exact ⟨default, fun d z => by cases z⟩
    | some d =>
      obtain ⟨fd, hfd⟩ := SD.def_ k hk
      refine ⟨fd, fun d' z => ?_⟩
      cases z
      have : (gbOf P fn K).fn k = He.fAd K d.at_ := by simp only [gbOf, hk]
      rw [this]
      exact hfd
  obtain ⟨fd, hfd⟩ := Classical.axiomOfChoice cho
  refine ⟨fd, ⟨fun k f hf => ?_, fun k f hf ht => ?_, fun c C hC => ?_, fun c E hE => ?_, fun x hx' => ?_, fun x i hxi => ?_, fun c E f hE hf => ?_⟩, hfd⟩
  · have hf : P.fns[k]? = some f := hf
    have hkl : k < fn.length := Nat.lt_of_lt_of_le (List.getElem?_eq_some_iff.mp hf).1 R.len
    have hd : fn[k]? = some fn[k] := List.getElem?_eq_getElem hkl
    have r := R.row k f _ hf hd
    have F := hfd k _ hd
    have e1 : (fn[k]).dvs K = f.dv.map V.int := by
      unfold He.DefD.dvs
      rw [r.dfl, List.map_map]; rfl
    have e2 : (fn[k]).kws K = [] := by
      unfold He.DefD.kws
      rw [r.kwd]; rfl
    rw [e1, e2] at F
    refine ⟨_, _, _, _, _, F, scB_ok r.sc, r.chk, ?_, fun hne => (r.bindD hne K _ _ F).2⟩
    by_cases hne : f.dv = []
    · rw [hne] at F
      exact F.bindsN (r.bind hne)
    · exact (r.bindD hne K _ _ F).1
  · have hf : P.fns[k]? = some f := hf
    have hkl : k < fn.length := Nat.lt_of_lt_of_le (List.getElem?_eq_some_iff.mp hf).1 R.len
    have hd : fn[k]? = some fn[k] := List.getElem?_eq_getElem hkl
    have r := R.row k f _ hf hd
    have : (gbOf P fn K).fn k = He.ga K f.name := by
      simp only [gbOf, hd]
      rw [r.top ht]; rfl
    rw [this]
    exact He.glo_ok X N (fact _ (List.mem_append_left _ (List.mem_map.mpr ⟨f, List.mem_filter.mpr ⟨List.mem_of_getElem? hf, ht⟩, rfl⟩)))
  · have hC : P.cls[c]? = some C := hC
    have hm : C ∈ P.cls := List.mem_of_getElem? hC
    have gc : (gbOf P fn K).cls c = He.ga K C.name := by simp only [gbOf, hC]
    have rc := R.cl C hm
    have inC : ∀ f, f ∈ ([.glo C.name, .cls C.name, .mkr C.name] ++ (C.flds.map (fun f => .noat C.name f) ++ C.meths.map fun p => .meth C.name p.1) : List He.Fa) → f.ok K = true := fun f hf =>
      fact f (List.mem_append_right _ (List.mem_append_right _ (List.mem_append_right _ (List.mem_append_left _ (List.mem_flatMap.mpr ⟨C, hm, hf⟩)))))
    have fnk : ∀ {k : Nat} {m : Str}, (fn[k]?).map (fun d => d.at_) = some (C.name, some m) → (gbOf P fn K).fn k = He.ma K (He.ga K C.name) m := fun {k m} h => by
      cases hk : fn[k]? with
      | none => rw [hk] at h; cases h
      | some d =>
        rw [hk] at h
        have h : d.at_ = (C.name, some m) := Option.some.inj h
        have : (gbOf P fn K).fn k = He.fAd K d.at_ := by simp only [gbOf, hk]
        rw [this, h]
        rfl
    have q := List.all_eq_true.mp hxc C hm
    unfold xC1 at q
    simp only [Bool.and_eq_true, decide_eq_true_eq] at q
    obtain ⟨q1, q2, q3, q4, q5, q6, q7, q8, q9, q10⟩ := q
    refine ⟨by rw [gc]; exact He.glo_ok X N (inC _ (by simp)), by rw [gc]; exact He.cls_ok (inC (.cls C.name) (by simp)), fun f hf => by rw [gc]; exact He.noat_ok (inC (.noat C.name f) (List.mem_append_right _ (List.mem_append_left _ (List.mem_map.mpr ⟨f, hf, rfl⟩)))), ?_, fun m k hk => ?_, fun m k hk => ?_, by rw [gc]; exact q1, q2, q3, by rw [gc]; exact q4, by rw [gc]; exact q5, fun nm hn => ?_, by rw [gc]; exact q7, rc.ar, fun t ht => ?_, fun t ht => ?_, fun c' C' hC' => ?_⟩
    · rw [gc, fnk rc.ini]
      exact He.mkr_ok (inC (.mkr C.name) (by simp))
    · have hp := lookup_mem hk
      rw [gc, fnk (rc.me _ hp)]
      exact He.meth_ok (inC (.meth C.name m) (List.mem_append_right _ (List.mem_append_right _ (List.mem_map.mpr ⟨(m, k), hp, rfl⟩))))
    · exact rc.mf _ (lookup_mem hk)
    · rw [gc]
      exact of_decide_eq_true (List.all_eq_true.mp q6 nm hn)
    · rw [gc]
      exact of_decide_eq_true (List.all_eq_true.mp q8 t ht)
    · rw [gc]
      exact of_decide_eq_true (List.all_eq_true.mp q9 t ht)
    · have hC' : P.cls[c']? = some C' := hC'
      have gc' : (gbOf P fn K).cls c' = He.ga K C'.name := by simp only [gbOf, hC']
      rw [gc, gc']
      have e := of_decide_eq_true (List.all_eq_true.mp q10 C' (List.mem_of_getElem? hC'))
      refine Eq.trans e (congrArg some ?_)
      by_cases z : c' = c
      · subst z
        rw [hC] at hC'
        cases hC'
        simp
      · have hi : c < (P.cls.map (·.name)).length := by simpa using (List.getElem?_eq_some_iff.mp hC).1
        have hj : c' < (P.cls.map (·.name)).length := by simpa using (List.getElem?_eq_some_iff.mp hC').1
        have n1 : (P.cls.map (·.name))[c]? = some C.name := by rw [List.getElem?_map, hC]; rfl
        have n2 : (P.cls.map (·.name))[c']? = some C'.name := by rw [List.getElem?_map, hC']; rfl
        have ne : C'.name ≠ C.name := fun ee => z ((List.getElem?_inj hj R.cn).mp (by rw [n1, n2, ee]))
        simp [z, ne]
  · have hE : P.exs[c]? = some E := hE
    have hm : E ∈ P.exs := List.mem_of_getElem? hE
    have ge : (gbOf P fn K).exc c = He.ga K E.name := by simp only [gbOf, hE]
    have inX : ∀ f, f ∈ ([.glo E.name, .keep E.name] ++ P.exs.map fun E' => .exm E'.name E.name (decide (E.name = E'.name)) : List He.Fa) → f.ok K = true := fun f hf => fact f (List.mem_append_right _ (List.mem_append_left _ (List.mem_flatMap.mpr ⟨E, hm, hf⟩)))
    have q := List.all_eq_true.mp hx E hm
    simp only [Bool.and_eq_true, decide_eq_true_eq] at q
    obtain ⟨q1, q2, q3⟩ := q
    refine ⟨by rw [ge]; exact He.glo_ok X N (inX _ (by simp)), by rw [ge]; exact He.keep_ok (inX (.keep E.name) (by simp)), fun c' E' hE' => ?_, by rw [ge]; exact q1, by rw [ge]; exact q2, fun hn => ?_, fun f hf => ?_⟩
    · have hE' : P.exs[c']? = some E' := hE'
      have ge' : (gbOf P fn K).exc c' = He.ga K E'.name := by simp only [gbOf, hE']
      rw [ge, ge']
      have := He.exm_ok (inX (.exm E'.name E.name (decide (E.name = E'.name))) (List.mem_append_right _ (List.mem_map.mpr ⟨E', List.mem_of_getElem? hE', rfl⟩)))
      refine Eq.trans this ?_
      have e : decide (E.name = E'.name) = decide (c = c') := by
        by_cases z : c = c'
        · subst z
          rw [hE] at hE'
          cases hE'
          simp
        · have hi : c < (P.exs.map (·.name)).length := by simpa using (List.getElem?_eq_some_iff.mp hE).1
          have hj : c' < (P.exs.map (·.name)).length := by simpa using (List.getElem?_eq_some_iff.mp hE').1
          have n1 : (P.exs.map (·.name))[c]? = some E.name := by rw [List.getElem?_map, hE]; rfl
          have n2 : (P.exs.map (·.name))[c']? = some E'.name := by rw [List.getElem?_map, hE']; rfl
          have ne : E.name ≠ E'.name := fun ee => z ((List.getElem?_inj hi R.exn).mp (by rw [n1, n2, ee]))
          simp [z, ne]
      rw [e]
    · rw [hn] at q3
      rw [ge]; exact q3
    · rw [hf] at q3
      simp only [Bool.and_eq_true, decide_eq_true_eq] at q3
      refine ⟨by simp only [gbOf, hE, hf]; rfl, by rw [ge]; exact q3.1, by rw [ge]; exact q3.2⟩
  · exact He.free_ok X N (fact _ (List.mem_append_right _ (List.mem_append_right _ (List.mem_append_left _ (List.mem_map.mpr ⟨x, hasB_mem hx', rfl⟩)))))
  · exact He.int_ok X N (fact (.int x i) (List.mem_append_right _ (List.mem_append_right _ (List.mem_append_right _ (List.mem_append_right _ (List.mem_map.mpr ⟨(x, i), lookup_mem hxi, rfl⟩))))))
  · have hE : P.exs[c]? = some E := hE
    have hm : E ∈ P.exs := List.mem_of_getElem? hE
    have ge : (gbOf P fn K).exc c = He.ga K E.name := by simp only [gbOf, hE]
    have q := List.all_eq_true.mp hxi E hm
    rw [hf] at q
    simp only [Bool.and_eq_true, decide_eq_true_eq] at q
    obtain ⟨q1, q2, q3, q4, q5⟩ := q
    obtain ⟨d, ps, hd, r⟩ := R.ini E hm f hf
    obtain ⟨j, hj⟩ := List.getElem?_of_mem hd
    obtain ⟨fdI, FI⟩ := SD.def_ j hj
    have e1 : d.dvs K = [] := by
      unfold He.DefD.dvs
      rw [r.dfl]; rfl
    have e2 : d.kws K = [] := by
      unfold He.DefD.kws
      rw [r.kwd]; rfl
    rw [e1, e2] at FI
    have ea : He.fAd K d.at_ = He.ma K (He.ga K E.name) "__init__" := by rw [r.at_]; rfl
    rw [ea] at FI
    refine ⟨_, fdI, ps, by rw [ge]; exact oexB_ok q1, by rw [ge]; exact q4, q5, FI.bindsN r.bind, fun prog w base => r.run prog w K mg base (L2.CX prog w) _ _ fdI FI (PySem.W.mg_of X N q3) (baseB_ok q2)⟩
theorem FnOk.some {P : Program} {w : World} {K : PySem.W.Frag} {mg : Str → Option Value} {base : Heap} {CX : CXT} {k : Nat} {f : Addr} {fd : FuncData} {ps : List Str} {sp : Nat → Sp} (h : ∀ i, FnOk P w K mg base CX k f fd ps (sp i)) : FnOk P w K mg base CX k f fd ps (fun vs H Q E => ∃ i, sp i vs H Q E) :=
  ⟨fun vs H Q E ⟨i, q⟩ => (h i).len vs H Q E q, fun A outer s H args us vs Q E hr he hb hv ⟨i, q⟩ => (h i).run A outer s H args us vs Q E hr he hb hv q⟩
/-- where nothing is let out -/
theorem FnOk.cx0 {P : Program} {w : World} {K : PySem.W.Frag} {mg : Str → Option Value} {base : Heap} {k : Nat} {f : Addr} {fd : FuncData} {ps : List Str} {sp : Sp} (h : FnOk P w K mg base (L2.CX P w) k f fd ps sp) : FnOk P w K mg base L2.CX0 k f fd ps (fun vs H Q _ => sp vs H Q fun _ _ _ => False) :=
  ⟨fun vs H Q E q => h.len vs H Q _ q, fun A outer s H args us vs Q E hr he hb hv q => codeAny_mono (h.run A outer s H args us vs Q _ hr he hb hv q) fun r s' hq => by
    cases r with
    | error e =>
      obtain ⟨_, _, _, _, _, _, _, _, _, _, _, _, z⟩ := hq
      exact z.elim
    | ok fl => cases fl <;> exact hq⟩
theorem ro_reps {F : Hp} {G : Gb} : ∀ ns : List Int, Reps G F (ns.map D.int) (ns.map V.int)
  | [] => Reps.nil
  | n :: ns => .cons (by simp only [Rep]) (ro_reps ns)
/-- the end: the law's word in plain Lean gives the promise that the head asks for -/
theorem hF_of {P : Prg} {frs : List Str} {fn : List He.DefD} {prog : Program} (R : Rows P frs fn) {n m lk most : Nat} {f : FnI} {d : He.DefD} (hf : P.fns[lk]? = some f) (hd : fn[lk]? = some d) (hps : f.ps = [("script" : Str)]) (hdv : f.dv = []) (ht : f.top = true) (hn : f.name = ("law" : Str))
    (law : ∀ ns : List Int, ns.length ≤ most → (∀ z ∈ ns, z.natAbs.log2 ≤ 1048576) → ∃ w, fnEv P w n lk .no [.ro (ns.map D.int)] = .ok (.sh (.bl true), [])) (w : World) (mg : Str → Option Value) (fa : Addr) (h : Heap) (hs : (hookX m (faOf P frs) fn (xOf P)).says w h) (hN : h.Ns mainGlobals mg) (hfa : mg "law" = some (.ref fa)) :
    ∃ (K : PySem.W.Frag) (fd : FuncData) (sp : L2.Sp), K.In h ∧ (∀ (s : Shared) (u : Value), BindsTo s fd ⟨[u], []⟩ [("script", u)]) ∧
      (∀ (H : L2.Hp) (a : Addr) (ns : List Int), ns.length ≤ most → (∀ z ∈ ns, z.natAbs.log2 ≤ 1048576) → L2.Only H → L2.SqL K H a (ns.map L2.V.int) → sp [.ref a] H (fun v _ => v = .bl true) fun _ _ _ => False) ∧
      ∀ base : Heap, K.In base → base.Ns mainGlobals mg → L2.FnOk prog w K mg base L2.CX0 (9 * n) fa fd ["script"] sp := by
  obtain ⟨K, hK, hS⟩ := hs
  obtain ⟨fd, T, hfd⟩ := txt_of R hS hK hN
  have F := hfd lk d hd
  have r := R.row lk f d hf hd
  have e1 : d.dvs K = [] := by
    unfold He.DefD.dvs
    rw [r.dfl, hdv]; rfl
  have e2 : d.kws K = [] := by
    unfold He.DefD.kws
    rw [r.kwd]; rfl
  rw [e1, e2] at F
  have efa : fa = (gbOf P fn K).fn lk := by
    have q := T.gl lk f hf ht
    rw [hn, hfa] at q
    cases q
    rfl
  refine ⟨K, fd lk, fun vs H Q _ => ∃ i, spD (gbOf P fn K) (fnEv P i n) lk vs H Q fun _ _ _ => False, hK, fun s u => ?_, fun H a ns hl hz ho hsq => ?_, fun base hKb hNb => ?_⟩
  · have b := F.bindsA (ps := f.ps) (r.bind hdv) s [u] (by rw [hps]; rfl)
    rw [hps] at b
    exact b
  · obtain ⟨i, hi⟩ := law ns hl hz
    refine ⟨i, f, hf, by rw [hps]; rfl, H, .no, [.ro (ns.map D.int)], fun _ _ h => h, ?_, ?_⟩
    · refine .cons ?_ .nil
      simp only [Rep]
      exact ⟨a, ns.map V.int, rfl, hsq, ro_reps ns⟩
    · rw [hi]
      intro v F' H' _ _ _ _ _ _ hv
      have hv : Rep (gbOf P fn K) F' (.bl true) v := hv
      simpa only [Rep] using hv
  · rw [← hps, efa]
    exact FnOk.cx0 (sp := fun vs H Q E => ∃ i, spD (gbOf P fn K) (fnEv P i n) lk vs H Q E) <| FnOk.some fun i => fns_ok (G := gbOf P fn K) (w := i) T (fun n W X g => owns_ok g) n lk f hf
theorem log2_bits {z : Int} {m : Nat} (h : Builtin.Int.intBits z ≤ m) : z.natAbs.log2 ≤ m := by
  unfold Builtin.Int.intBits at h
  split at h
  · rename_i e
    have : z.natAbs = 0 := by first | exact e | omega | (simp_all)
    rw [this]; exact Nat.zero_le _
  · omega
theorem walk_ofEB {l : PySem.W.OpenLaw} {n k : Nat} {q : Program} {loose : List Str} {XP : (Str → Option Value) → Heap → Prop} {YP : World → Heap → Prop} {d : DefRec} {CX : L2.CXT} {x : Str}
    (hn : l.most = some n) (hn2 : n ≤ sizeLine) (hdf : d.params.defaults = []) (hr : Room k callerA)
    (F : ∀ (w : World) (mg : Str → Option Value) (fa : Addr) (h : Heap), YP w h → h.Ns mainGlobals mg → mg d.name = some (.ref fa) →
      ∃ (K : PySem.W.Frag) (fd : FuncData) (sp : L2.Sp), K.In h ∧ (∀ (s : Shared) (u : Value), BindsTo s fd ⟨[u], []⟩ [(x, u)]) ∧
        (∀ (H : L2.Hp) (a : Addr) (ns : List Int), ns.length ≤ n → (∀ z ∈ ns, z.natAbs.log2 ≤ 1048576) → L2.Only H → L2.SqL K H a (ns.map L2.V.int) → sp [.ref a] H (fun v _ => v = .bl true) fun _ _ _ => False) ∧
        ∀ base : Heap, K.In base → base.Ns mainGlobals mg → L2.FnOk l.prog w K mg base CX k fa fd [x] sp)
    (hCX : ∀ (H : L2.Hp) (s : Shared) (e : Value) (s' : Shared), CX [] H s (fun _ _ _ => False) e s' → False) :
    PySem.W.WalkO q loose XP YP l.row.toRowW d [] (fun f vs => PySem.call f vs) := by
  refine Att.attach_callB hn hdf fun w s₀ s₁ mg mb fa o pm cd doc a vs ns G Y ho hd hcd hmg hobj hints hlen hbits hg => ?_
  obtain ⟨K, fd, sp, KX, hb, hsp, hF⟩ := F w mg fa _ Y G.T.g hmg
  exact L2.law_call KX G.T.g G.T.b G.T.builtins G.T.nolimit hg hobj hints (Nat.le_trans hlen hn2) hr hF hb (fun H hO hS => hsp H a ns hlen (fun z hz => log2_bits (hbits z hz)) hO hS) fun H e s' => hCX H s₁ e s'
end PV
set_option Elab.async false
set_option linter.all false
set_option maxRecDepth 100000
set_option maxHeartbeats 4000000
namespace PV
open PySem L2
/-! ## the evaluator as rules of simp, first things first -/
/-- a mark that keeps simp out of what comes after: its kind hangs on it -/
inductive Mk {γ : Type} (f : γ) where
  | a | b
def bndS {α β : Type} (m : R (α × En)) (f : α → En → R (β × En)) (_ : Mk f) : R (β × En) := bnd m f
def RbindS {α β : Type} (m : R α) (f : α → R β) (_ : Mk f) : R β := m.bind f
@[simp ↓] theorem bnd_S {α β : Type} (m : R (α × En)) (f : α → En → R (β × En)) : bnd m f = bndS m f .a := id rfl
@[simp ↓] theorem Rbind_S {α β : Type} (m : R α) (f : α → R β) : R.bind m f = RbindS m f .a := id rfl
@[simp high] theorem bnd_okH {α β : Type} (a : α) (σ : En) (f : α → En → R (β × En)) (t : Mk f) : bndS (.ok (a, σ)) f t = f a σ := id rfl
@[simp high] theorem bnd_excH {α β : Type} (x : Exn) (f : α → En → R (β × En)) (t : Mk f) : bndS (.exc x) f t = .exc x := id rfl
@[simp high] theorem bnd_stuckH {α β : Type} (f : α → En → R (β × En)) (t : Mk f) : bndS .stuck f t = .stuck := id rfl
@[simp high] theorem Rbind_okH {α β : Type} (a : α) (f : α → R β) (t : Mk f) : RbindS (R.ok a) f t = f a := id rfl
@[simp high] theorem Rbind_excH {α β : Type} (x : Exn) (f : α → R β) (t : Mk f) : RbindS (R.exc x) f t = .exc x := id rfl
@[simp] theorem Rmap_ok {α β : Type} (f : α → β) (a : α) : R.map f (.ok a) = .ok (f a) := id rfl
@[simp] theorem Rmap_exc {α β : Type} (f : α → β) (x : Exn) : R.map f (.exc x) = .exc x := id rfl
@[simp] theorem Rmap_stuck {α β : Type} (f : α → β) : R.map f (.stuck : R α) = .stuck := id rfl
@[simp] theorem lift_ok {α : Type} (a : α) (σ : En) : lift (.ok a) σ = .ok (a, σ) := id rfl
@[simp] theorem lift_exc {α : Type} (x : Exn) (σ : En) : lift (.exc x : R α) σ = .exc x := id rfl
@[simp] theorem lift_stuck {α : Type} (σ : En) : lift (.stuck : R α) σ = .stuck := id rfl
@[simp] theorem hold_sh (d : D) : hold (.sh d) = .sh d := id rfl
@[simp] theorem hold_ow (d : List D) : hold (.ow d) = .sh (.lst d) := id rfl
@[simp] theorem hold_sl (i : Nat) : hold (.sl i) = .sl i := id rfl
@[simp] theorem pk_sh (d : D) (σ : En) : pk (.sh d) σ = .ok (d, σ) := id rfl
@[simp] theorem pk_ow (d : List D) (σ : En) : pk (.ow d) σ = .ok (.lst d, σ) := id rfl
theorem pk_sl (i : Nat) (σ : En) : pk (.sl i) σ = (match σ[i]? with
    | some (.ow ds) => .ok (.lst ds)
    | some (.lk ds) => .ok (.lst ds)
    | some (.io ds) => .ok (.lst ds)
    | some (.sh d) => .ok d
    | _ => .stuck : R D).map fun d => (d, σ) := id rfl
@[simp] theorem toB_sh (b : Bool) (σ : En) : toB (.sh (.bl b)) σ = .ok (b, σ) := id rfl
@[simp] theorem toI_sh (b : Int) (σ : En) : toI (.sh (.int b)) σ = .ok (some b, σ) := id rfl
@[simp] theorem esc_sh (d : D) (σ : En) : esc (.sh d) σ = .ok (d, σ) := id rfl
@[simp] theorem esc_ow (d : List D) (σ : En) : esc (.ow d) σ = .ok (.lst d, σ) := id rfl
@[simp] theorem alias_sh (d : D) (σ : En) : alias_ (.sh d) σ = .ok (.sh d, σ) := id rfl
@[simp] theorem alias_ow (d : List D) (σ : En) : alias_ (.ow d) σ = .ok (.ow d, σ) := id rfl
@[simp] theorem alias_sl (i : Nat) (σ : En) : alias_ (.sl i) σ = (esc (.sl i) σ).map fun p => (.sh p.1, p.2) := id rfl
@[simp] theorem vr_sh (d : D) : vr (.sh d) = .sh d := id rfl
@[simp] theorem vr_ow (d : List D) : vr (.ow d) = .ow d := id rfl
@[simp] theorem vrD_sh (d : D) : vrD (.sh d) = d := id rfl
@[simp] theorem vrD_ow (d : List D) : vrD (.ow d) = .lst d := id rfl
@[simp] theorem setv_sh (i : Nat) (d : D) (σ : En) : setv i (.sh d) σ = setc i (.sh d) σ := id rfl
@[simp] theorem setv_ow (i : Nat) (d : List D) (σ : En) : setv i (.ow d) σ = setc i (.ow d) σ := id rfl
@[simp] theorem nxR_okS (σ : En) : nxR (.ok σ) = .ok (.nx, σ) := id rfl
@[simp] theorem pks_nil (σ : En) : pks [] σ = .ok ([], σ) := id rfl
@[simp] theorem pks_cons (v : Vl) (vs : List Vl) (σ : En) : pks (v :: vs) σ = bnd (pk v σ) fun d σ => bnd (pks vs σ) fun ds σ => .ok (d :: ds, σ) := id rfl
@[simp] theorem setT_v (i : Nat) (d : D) (σ : En) : setT (.v i) d σ = setc i (.sh d) σ := id rfl
@[simp] theorem setT_tp (is : List Nat) (ds : List D) (σ : En) : setT (.tp is) (.tup ds) σ = setAll is ds σ := id rfl
@[simp] theorem setAll_nil (σ : En) : setAll [] [] σ = .ok σ := id rfl
@[simp] theorem setAll_cons (i : Nat) (is : List Nat) (d : D) (ds : List D) (σ : En) : setAll (i :: is) (d :: ds) σ = (setc i (.sh d) σ).bind (setAll is ds) := id rfl
@[simp] theorem lcL_nil (f : D → List D → En → R (List D × En)) (acc : List D) (σ : En) : lcL f [] acc σ = .ok (acc, σ) := id rfl
@[simp] theorem forL_nil (f : D → En → R (Fl × En)) (σ : En) : forL f [] σ = .ok (.nx, σ) := id rfl
@[simp] theorem getv_eq {i : Nat} {σ : En} : getv i σ = match σ[i]? with
  | some (.sh d) => .ok (.sh d)
  | some (.ow _) => .ok (.sl i)
  | some (.lk _) => .ok (.sl i)
  | some (.io _) => .ok (.sl i)
  | _ => .stuck := id rfl
def asg : Cell → Bool
  | .un => true
  | .sh _ => true
  | .ow _ => true
  | _ => false
@[simp] theorem asg_un : asg .un = true := id rfl
@[simp] theorem asg_sh {d : D} : asg (.sh d) = true := id rfl
@[simp] theorem asg_ow {d : List D} : asg (.ow d) = true := id rfl
@[simp] theorem setc_ok {i : Nat} {c : Cell} {σ : En} (h : (σ[i]?.map asg) = some true) : setc i c σ = .ok (σ.set i c) := by
  unfold setc
  cases e : σ[i]? with
  | none => rw [e] at h; cases h
  | some x =>
    rw [e] at h
    cases x <;> first | rfl | cases h
@[simp] theorem updL_eq {i : Nat} {f : List D → Option (List D)} {σ : En} : updL i f σ = match σ[i]? with
  | some (.ow ds) => (match f ds with
    | some ds' => .ok (σ.set i (.ow ds'))
    | none => .stuck)
  | some (.io ds) => (match f ds with
    | some ds' => .ok (σ.set i (.io ds'))
    | none => .stuck)
  | _ => .stuck := id rfl
@[simp] theorem isL_eq {i : Nat} {σ : En} : isL i σ = match σ[i]? with
  | some (.ow _) => true
  | some (.io _) => true
  | _ => false := id rfl
@[simp] theorem lock_eq {i : Nat} {σ : En} : lock i σ = match σ[i]? with
  | some (.ow ds) => σ.set i (.lk ds)
  | _ => σ := id rfl
@[simp] theorem unlock_eq {i : Nat} {σ : En} : unlock i σ = match σ[i]? with
  | some (.lk ds) => σ.set i (.ow ds)
  | _ => σ := id rfl
@[simp] theorem noLk_eq {is : List Nat} {σ : En} : noLk is σ = is.all fun i => match σ[i]? with
  | some (.lk _) => false
  | _ => true := id rfl
@[simp] theorem appF_eq {y : D} {ds : List D} : appF y ds = if ds.length < 16000000 then some (ds ++ [y]) else none := id rfl
@[simp] theorem insF_eq {k : Int} {y : D} {ds : List D} : insF k y ds = if ds.length < 16000000 ∧ 0 ≤ k ∧ k ≤ ds.length then some (ds.take k.toNat ++ [y] ++ ds.drop k.toNat) else none := id rfl
@[simp] theorem extF_eq {xs ds : List D} : extF xs ds = if ds.length + xs.length ≤ 16000000 then some (ds ++ xs) else none := id rfl
@[simp] theorem setF_eq {k : Int} {y : D} {ds : List D} : setF k y ds = (ixN ds.length k).map fun j => ds.set j y := id rfl
@[simp] theorem ixOf_eq {x i : D} : ixOf x i = match items x, i with
  | some ds, .int i => match atI ds i with
    | some d => .ok d
    | none => .stuck
  | _, _ => .stuck := id rfl
@[simp] theorem items_lst {ds : List D} : items (.lst ds) = some ds := id rfl
@[simp] theorem items_tup {ds : List D} : items (.tup ds) = some ds := id rfl
@[simp] theorem wOk_sh {d : D} {σ : En} : wOk (.sh d) σ = true := id rfl
@[simp] theorem wOk_ow {d : List D} {σ : En} : wOk (.ow d) σ = true := id rfl
@[simp] theorem wOk_sl {i : Nat} {σ : En} : wOk (.sl i) σ = (match σ[i]? with
    | some (.io _) => false
    | _ => true) := id rfl
@[simp] theorem lks_sh {d : D} {σ : En} : lks (.sh d) σ = [] := id rfl
@[simp] theorem lks_ow {d : List D} {σ : En} : lks (.ow d) σ = [] := id rfl
@[simp] theorem lks_sl {i : Nat} {σ : En} : lks (.sl i) σ = (match σ[i]? with
    | some (.ow _) => [i]
    | _ => []) := id rfl
@[simp] theorem pk_sl_eq {i : Nat} {σ : En} : pk (.sl i) σ = (match σ[i]? with
    | some (.ow ds) => .ok (.lst ds)
    | some (.lk ds) => .ok (.lst ds)
    | some (.io ds) => .ok (.lst ds)
    | some (.sh d) => .ok d
    | _ => .stuck : R D).map fun d => (d, σ) := id rfl
@[simp] theorem esc_sl_eq {i : Nat} {σ : En} : esc (.sl i) σ = (match σ[i]? with
    | some (.ow ds) => .ok (.lst ds, σ.set i (.sh (.lst ds)))
    | some (.lk ds) => .ok (.lst ds, σ.set i (.sh (.lst ds)))
    | some (.sh d) => .ok (d, σ)
    | _ => .stuck) := id rfl
def fldC (P : Prg) (f : Str) (x : D) (σ : En) : R (Vl × En) := match x with
  | .obj c ds => (match ((clsF P c).zip ds).lookup f with
    | some d => .ok (.sh d, σ)
    | none => .stuck)
  | _ => .stuck
def methC (P : Prg) (cf : CF) (c : Nat) (m : Str) (es : Exs) (x : D) (σ : En) : R (Vl × En) := match x with
  | .obj c' xs => if c' = c then (match clsM P c m with
    | some k => bnd (evs P cf es σ) fun ds σ => lift ((cf k .no (.obj c xs :: ds)).map fun p => vr p.1) σ
    | none => .stuck) else .stuck
  | _ => .stuck
def mkC (P : Prg) (cf : CF) (c : Nat) (dv ds : List D) (σ : En) : R (Vl × En) := match P.cls[c]? with
  | some C => lift ((cf C.init (.bld c) (ds ++ dv)).bind fun p => mkD c C.flds.length p) σ
  | none => .stuck
@[simp] theorem fldC_obj {P : Prg} {f : Str} {c : Nat} {ds : List D} {σ : En} : fldC P f (.obj c ds) σ = (match ((clsF P c).zip ds).lookup f with
    | some d => .ok (.sh d, σ)
    | none => .stuck) := id rfl
@[simp] theorem methC_obj {P : Prg} {cf : CF} {c c' : Nat} {m : Str} {es : Exs} {xs : List D} {σ : En} : methC P cf c m es (.obj c' xs) σ = if c' = c then (match clsM P c m with
    | some k => bnd (evs P cf es σ) fun ds σ => lift ((cf k .no (.obj c xs :: ds)).map fun p => vr p.1) σ
    | none => .stuck) else .stuck := id rfl
section
variable {P : Prg} {cf : CF}
@[simp] theorem ev_var {i} {σ} : ev P cf (.var i) σ = (getv i σ).map fun v => (v, σ) := by rw [ev] <;> rfl
@[simp] theorem ev_con {d} {σ} : ev P cf (.con d) σ = .ok (.sh d, σ) := by rw [ev] <;> rfl
@[simp] theorem ev_gcon {u0} {i} {σ} : ev P cf (.gcon u0 i) σ = .ok (.sh (.int i), σ) := by rw [ev] <;> rfl
@[simp] theorem ev_gfn {k} {σ} : ev P cf (.gfn k) σ = .ok (.sh (.fn k), σ) := by rw [ev] <;> rfl
@[simp] theorem ev_bin {o} {a} {b} {σ} : ev P cf (.bin o a b) σ = bnd (ev P cf a σ) fun va σ => bnd (ev P cf b σ) fun vb σ => bnd (pk (hold va) σ) fun x σ => bnd (pk (hold vb) σ) fun y σ => lift ((binD P cf o x y).map vr) σ := by rw [ev] <;> rfl
@[simp] theorem ev_neg {a} {σ} : ev P cf (.neg a) σ = bnd (ev P cf a σ) fun va σ => bnd (pk va σ) fun x σ => lift ((negD P cf x).map Vl.sh) σ := by rw [ev] <;> rfl
@[simp] theorem ev_not {a} {σ} : ev P cf (.not a) σ = bnd (ev P cf a σ) fun va σ => bnd (toB va σ) fun b σ => .ok (.sh (.bl (!b)), σ) := by rw [ev] <;> rfl
@[simp] theorem ev_cmp {o} {a} {b} {σ} : ev P cf (.cmp o a b) σ = bnd (ev P cf a σ) fun va σ => bnd (ev P cf b σ) fun vb σ => bnd (pk (hold va) σ) fun x σ => bnd (pk (hold vb) σ) fun y σ => lift ((cmpD P cf o x y).map fun b => Vl.sh (.bl b)) σ := by rw [ev] <;> rfl
@[simp] theorem ev_isN {a} {σ} : ev P cf (.isN a) σ = bnd (ev P cf a σ) fun va σ => bnd (pk va σ) fun x σ => .ok (.sh (.bl (isNon x)), σ) := by rw [ev] <;> rfl
@[simp] theorem ev_notN {a} {σ} : ev P cf (.notN a) σ = bnd (ev P cf a σ) fun va σ => bnd (pk va σ) fun x σ => .ok (.sh (.bl (!isNon x)), σ) := by rw [ev] <;> rfl
@[simp] theorem ev_chain {o} {p} {a} {b} {c} {σ} : ev P cf (.chain o p a b c) σ = bnd (ev P cf a σ) fun va σ => bnd (ev P cf b σ) fun vb σ => bnd (pk (hold va) σ) fun x σ => bnd (pk (hold vb) σ) fun y σ => bnd (lift (cmpD P cf o x y) σ) fun r σ => match r with
    | true => bnd (ev P cf c σ) fun vc σ => bnd (pk (hold vb) σ) fun y σ => bnd (pk (hold vc) σ) fun z σ => lift ((cmpD P cf p y z).map fun b => Vl.sh (.bl b)) σ
    | false => .ok (.sh (.bl false), σ) := by rw [ev] <;> rfl
@[simp] theorem ev_and {a} {b} {σ} : ev P cf (.and a b) σ = bnd (ev P cf a σ) fun va σ => bnd (toB va σ) fun r σ => match r with
    | true => ev P cf b σ
    | false => .ok (.sh (.bl false), σ) := by rw [ev] <;> rfl
@[simp] theorem ev_or {a} {b} {σ} : ev P cf (.or a b) σ = bnd (ev P cf a σ) fun va σ => bnd (toB va σ) fun r σ => match r with
    | true => .ok (.sh (.bl true), σ)
    | false => ev P cf b σ := by rw [ev] <;> rfl
@[simp] theorem ev_ite {c} {a} {b} {σ} : ev P cf (.ite c a b) σ = bnd (ev P cf c σ) fun vc σ => bnd (toB vc σ) fun r σ => match r with
    | true => ev P cf a σ
    | false => ev P cf b σ := by rw [ev] <;> rfl
@[simp] theorem ev_tup {es} {σ} : ev P cf (.tup es) σ = bnd (evs P cf es σ) fun ds σ => .ok (.sh (.tup ds), σ) := by rw [ev] <;> rfl
@[simp] theorem ev_lst {es} {σ} : ev P cf (.lst es) σ = bnd (evs P cf es σ) fun ds σ => .ok (.ow ds, σ) := by rw [ev] <;> rfl
@[simp] theorem ev_ix {a} {i} {σ} : ev P cf (.ix a i) σ = bnd (ev P cf a σ) fun va σ => bnd (ev P cf i σ) fun vi σ => bnd (pk (hold va) σ) fun x σ => bnd (pk (hold vi) σ) fun y σ => lift ((ixOf x y).map Vl.sh) σ := by rw [ev] <;> rfl
@[simp] theorem ev_slc {a} {lo} {hi} {σ} : ev P cf (.slc a lo hi) σ = bnd (ev P cf a σ) fun va σ => bnd (evo P cf lo σ) fun l σ => bnd (evo P cf hi σ) fun h σ => bnd (pk (hold va) σ) fun x σ => lift ((slcD x l h).map vr) σ := by rw [ev] <;> rfl
@[simp] theorem ev_rev {a} {σ} : ev P cf (.rev a) σ = bnd (ev P cf a σ) fun va σ => bnd (pk (hold va) σ) fun x σ => lift ((revD x).map vr) σ := by rw [ev] <;> rfl
@[simp] theorem ev_fld {a} {f} {σ} : ev P cf (.fld a f) σ = bnd (ev P cf a σ) fun va σ => bnd (pk (hold va) σ) fun x σ => fldC P f x σ := by rw [ev] <;> rfl
@[simp] theorem ev_call {k} {es} {σ} : ev P cf (.call k es) σ = bnd (evs P cf es σ) fun ds σ => lift ((cf k .no ds).map fun p => vr p.1) σ := by rw [ev] <;> rfl
@[simp] theorem ev_callio {k} {i} {es} {σ} : ev P cf (.callio k i es) σ = bnd ((getv i σ).map fun v => (v, σ)) fun _ σ => bnd (evs P cf es σ) fun ds σ => match σ[i]? with
    | some (.ow xs) => (match cf k (.io xs) ds with
      | .ok (.sh d, xs') => .ok (.sh d, σ.set i (.ow xs'))
      | .ok (.ow ys, xs') => .ok (.ow ys, σ.set i (.ow xs'))
      | .exc _ => .stuck
      | .stuck => .stuck)
    | some (.io xs) => (match cf k (.io xs) ds with
      | .ok (.sh d, xs') => .ok (.sh d, σ.set i (.io xs'))
      | .ok (.ow ys, xs') => .ok (.ow ys, σ.set i (.io xs'))
      | .exc _ => .stuck
      | .stuck => .stuck)
    | _ => .stuck := by rw [ev] <;> rfl
@[simp] theorem ev_callv {i} {es} {σ} : ev P cf (.callv i es) σ = match σ[i]? with
    | some (.sh (.fn k)) => (match P.fns[k]? with
      | some f => bnd (evs P cf es σ) fun ds σ => if ds.length = f.ps.length then lift ((cf k .no ds).map fun p => vr p.1) σ else .stuck
      | none => .stuck)
    | _ => .stuck := by rw [ev] <;> rfl
@[simp] theorem ev_mk {c} {es} {dv} {σ} : ev P cf (.mk c es dv) σ = bnd (evs P cf es σ) fun ds σ => mkC P cf c dv ds σ := by rw [ev] <;> rfl
@[simp] theorem ev_meth {c} {a} {m} {es} {σ} : ev P cf (.meth c a m es) σ = bnd (ev P cf a σ) fun va σ => bnd (pk (hold va) σ) fun x σ => methC P cf c m es x σ := by rw [ev] <;> rfl
@[simp] theorem ev_bif {b} {es} {σ} : ev P cf (.bif b es) σ = bnd (evp P cf es σ) fun vs σ => bnd (pks vs σ) fun ds σ => lift ((bifD b ds).map vr) σ := by rw [ev] <;> rfl
@[simp] theorem ev_trng1 {l} {a} {σ} : ev P cf (.trng1 l a) σ = bnd (ev P cf a σ) fun v σ => bnd (toI v σ) fun n σ => lift ((rgR l 0 (n.getD 0)).map vr) σ := by rw [ev] <;> rfl
@[simp] theorem ev_trng2 {l} {a} {b} {σ} : ev P cf (.trng2 l a b) σ = bnd (ev P cf a σ) fun v σ => bnd (toI v σ) fun n σ => bnd (ev P cf b σ) fun v σ => bnd (toI v σ) fun m σ => lift ((rgR l (n.getD 0) (m.getD 0)).map vr) σ := by rw [ev] <;> rfl
@[simp] theorem ev_isi {a} {t} {σ} : ev P cf (.isi a t) σ = bnd (ev P cf a σ) fun va σ => bnd (pk (hold va) σ) fun x σ => lift ((isiD t x).map fun b => Vl.sh (.bl b)) σ := by rw [ev] <;> rfl
@[simp] theorem ev_isi2 {a} {t} {u} {σ} : ev P cf (.isi2 a t u) σ = bnd (ev P cf a σ) fun va σ => bnd (pk (hold va) σ) fun x σ => lift ((isiD t x).bind fun a => (isiD u x).map fun b => Vl.sh (.bl (a || b))) σ := by rw [ev] <;> rfl
@[simp] theorem evs_nil {σ} : evs P cf .nil σ = .ok ([], σ) := by rw [evs] <;> rfl
@[simp] theorem evs_cons {e} {es} {σ} : evs P cf (.cons e es) σ = bnd (ev P cf e σ) fun v σ => bnd (esc v σ) fun d σ => bnd (evs P cf es σ) fun ds σ => .ok (d :: ds, σ) := by rw [evs] <;> rfl
@[simp] theorem evp_nil {σ} : evp P cf .nil σ = .ok ([], σ) := by rw [evp] <;> rfl
@[simp] theorem evp_cons {e} {es} {σ} : evp P cf (.cons e es) σ = bnd (ev P cf e σ) fun v σ => bnd (evp P cf es σ) fun vs σ => .ok (hold v :: vs, σ) := by rw [evp] <;> rfl
@[simp] theorem evo_none {σ} : evo P cf .none σ = .ok (none, σ) := by rw [evo] <;> rfl
@[simp] theorem evo_some {e} {σ} : evo P cf (.some e) σ = bnd (ev P cf e σ) fun v σ => toI v σ := by rw [evo] <;> rfl
@[simp] theorem src_seq {e} {σ} : src P cf (.seq e) σ = bnd (ev P cf e σ) fun v σ => bnd (pk (hold v) σ) fun x σ => match items x with
    | some ds => if wOk v σ = true then .ok ((ds, lks v σ), σ) else .stuck
    | none => .stuck := by rw [src] <;> rfl
@[simp] theorem src_rng {es} {σ} : src P cf (.rng es) σ = bnd (evs P cf es σ) fun ds σ => match rngA ds with
    | some xs => .ok ((xs, []), σ)
    | none => .stuck := by rw [src] <;> rfl
@[simp] theorem src_zip {es} {σ} : src P cf (.zip es) σ = bnd (evp P cf es σ) fun vs σ => bnd (pks vs σ) fun ds σ => match vs, ds with
    | [va, vb], [x, y] => (match items x, items y with
      | some xs, some ys => if wOk va σ = true ∧ wOk vb σ = true then .ok ((zipD xs ys, lks va σ ++ lks vb σ), σ) else .stuck
      | _, _ => .stuck)
    | _, _ => .stuck := by rw [src] <;> rfl
@[simp] theorem src_enum {es} {σ} : src P cf (.enum es) σ = bnd (evp P cf es σ) fun vs σ => bnd (pks vs σ) fun ds σ => match vs, ds with
    | [va], [x] => (match items x with
      | some xs => if wOk va σ = true then .ok ((enumD 0 xs, lks va σ), σ) else .stuck
      | _ => .stuck)
    | _, _ => .stuck := by rw [src] <;> rfl
def lcE (P : Prg) (cf : CF) (t : Tgt) (e : Ex) : D → List D → En → R (List D × En) := lcF t.slots t (fun σ => .ok (true, σ)) fun σ => ev P cf e σ
def lcC (P : Prg) (cf : CF) (t : Tgt) (c e : Ex) : D → List D → En → R (List D × En) := lcF t.slots t (fun σ => bnd (ev P cf c σ) fun v σ => toB v σ) fun σ => ev P cf e σ
def lc2E (P : Prg) (cf : CF) (t : Nat) (s' : Src) (t' : Nat) (e : Ex) : D → List D → En → R (List D × En) := lc2F [t, t'] t t' (fun σ => src P cf s' σ) fun σ => ev P cf e σ
def lcR (q : R ((List D × List Nat) × En)) (vs : List Nat) (f : D → List D → En → R (List D × En)) : R (Vl × En) := bnd q fun p σ1 => if noLk vs (p.2.foldr lock σ1) = true then
  bnd (unexc (lcL f p.1 [] (p.2.foldr lock σ1))) fun acc σ2 => .ok (.ow acc, p.2.foldr unlock (back (p.2.foldr lock σ1) vs σ2)) else .stuck
@[simp] theorem lcR_ok {p : List D × List Nat} {σ1 : En} {vs : List Nat} {f : D → List D → En → R (List D × En)} : lcR (.ok (p, σ1)) vs f = if noLk vs (p.2.foldr lock σ1) = true then
  bnd (unexc (lcL f p.1 [] (p.2.foldr lock σ1))) fun acc σ2 => .ok (.ow acc, p.2.foldr unlock (back (p.2.foldr lock σ1) vs σ2)) else .stuck := id rfl
@[simp] theorem unexc_ok {α : Type} {a : α} : unexc (.ok a) = .ok a := id rfl
@[simp] theorem ev_lc {s : Src} {t : Tgt} {e : Ex} {σ : En} : ev P cf (.lc s t e) σ = lcR (src P cf s σ) t.slots (lcE P cf t e) := by rw [ev] <;> rfl
@[simp] theorem ev_lcf {s : Src} {t : Tgt} {c e : Ex} {σ : En} : ev P cf (.lcf s t c e) σ = lcR (src P cf s σ) t.slots (lcC P cf t c e) := by rw [ev] <;> rfl
@[simp] theorem ev_lc2 {s : Src} {t : Nat} {s' : Src} {t' : Nat} {e : Ex} {σ : En} : ev P cf (.lc2 s t s' t' e) σ = lcR (src P cf s σ) [t, t'] (lc2E P cf t s' t' e) := by rw [ev] <;> rfl
end
section
variable {P : Prg} {cf : CF} {w : Nat}
@[simp] theorem exS_asg {t} {e} {σ} : exS P cf w (.asg t e) σ = bnd (ev P cf e σ) fun v σ => match t with
    | .v i => bnd (alias_ v σ) fun v σ => nxR (setv i v σ)
    | .tp is => bnd (pk (hold v) σ) fun d σ => nxR (setT (.tp is) d σ) := by rw [exS] <;> rfl
@[simp] theorem exS_par2 {i} {j} {a} {b} {σ} : exS P cf w (.par2 i j a b) σ = bnd (ev P cf a σ) fun va σ => bnd (alias_ va σ) fun va σ => bnd (ev P cf b σ) fun vb σ => bnd (alias_ vb σ) fun vb σ =>
      if i ≠ j then nxR ((setv i va σ).bind (setv j vb)) else .stuck := by rw [exS] <;> rfl
@[simp] theorem exS_par {is} {es} {σ} : exS P cf w (.par is es) σ = bnd (evs P cf es σ) fun ds σ => nxR (setAll is ds σ) := by rw [exS] <;> rfl
@[simp] theorem exS_setix {i} {ix} {e} {σ} : exS P cf w (.setix i ix e) σ = bnd (bnd (ev P cf e σ) fun v σ => esc v σ) fun y σ => if isL i σ = true then bnd (bnd (ev P cf ix σ) fun v σ => toI v σ) fun k σ => nxR (updL i (setF (k.getD 0) y) σ) else .stuck := by rw [exS] <;> rfl
@[simp] theorem exS_setfld {f} {e} {σ} : exS P cf w (.setfld f e) σ = bnd (bnd (ev P cf e σ) fun v σ => esc v σ) fun y σ => match σ[(0 : Nat)]? with
    | some (.bld c fs) => if (clsF P c)[fs.length]? = some f ∧ hasB f ((clsF P c).take fs.length) = false ∧ fs.length < 1000 then .ok (.nx, σ.set 0 (.bld c (fs ++ [y]))) else .stuck
    | _ => .stuck := by rw [exS] <;> rfl
@[simp] theorem exS_app {i} {e} {σ} : exS P cf w (.app i e) σ = if isL i σ = true then bnd (bnd (ev P cf e σ) fun v σ => esc v σ) fun y σ => nxR (updL i (appF y) σ) else .stuck := by rw [exS] <;> rfl
@[simp] theorem exS_ins {i} {k} {e} {σ} : exS P cf w (.ins i k e) σ = if isL i σ = true then bnd (bnd (ev P cf k σ) fun v σ => toI v σ) fun n σ => bnd (bnd (ev P cf e σ) fun v σ => esc v σ) fun y σ => nxR (updL i (insF (n.getD 0) y) σ) else .stuck := by rw [exS] <;> rfl
@[simp] theorem exS_ext {i} {e} {σ} : exS P cf w (.ext i e) σ = if isL i σ = true then bnd (ev P cf e σ) fun v σ => bnd (pk (hold v) σ) fun y σ => match y with
    | .lst xs => nxR (updL i (extF xs) σ)
    | _ => .stuck else .stuck := by rw [exS] <;> rfl
@[simp] theorem exS_ex {e} {σ} : exS P cf w (.ex e) σ = bnd (ev P cf e σ) fun _ σ => .ok (.nx, σ) := by rw [exS] <;> rfl
@[simp] theorem exS_ifs {c} {a} {b} {σ} : exS P cf w (.ifs c a b) σ = bnd (ev P cf c σ) fun v σ => bnd (toB v σ) fun r σ => match r with
    | true => exSs P cf w a σ
    | false => exSs P cf w b σ := by rw [exS] <;> rfl
@[simp] theorem exS_ret {e} {σ} : exS P cf w (.ret e) σ = bnd (ev P cf e σ) fun v σ => match v with
    | .sh d => .ok (.rt (.sh d), σ)
    | .ow ds => .ok (.rt (.ow ds), σ)
    | .sl i => match σ[i]? with
      | some (.ow ds) => .ok (.rt (.ow ds), σ.set i .un)
      | some (.sh d) => .ok (.rt (.sh d), σ)
      | _ => .stuck := by rw [exS] <;> rfl
@[simp] theorem exS_retN {σ} : exS P cf w .retN σ = .ok (.rt (.sh .non), σ) := by rw [exS] <;> rfl
@[simp] theorem exS_raise {c} {u1} : exS P cf w (.raise c) u1 = .exc ⟨c, none⟩ := by rw [exS] <;> rfl
@[simp] theorem exS_raise1 {c} {e} {σ} : exS P cf w (.raise1 c e) σ = bnd (evs P cf (.cons e .nil) σ) fun ds _ => raiseD c ds := by rw [exS] <;> rfl
@[simp] theorem raiseD_int {α : Type} {c : Nat} {i : Int} : (raiseD c [.int i] : R α) = .exc ⟨c, some (.int i)⟩ := id rfl
@[simp] theorem raiseD_str {α : Type} {c : Nat} {i : Str} : (raiseD c [.str i] : R α) = .exc ⟨c, some (.str i)⟩ := id rfl
@[simp] theorem exS_tryS {b} {hs} {σ} : exS P cf w (.tryS b hs) σ = match exSs P cf w b σ with
    | .ok r => .ok r
    | .exc x => exH P cf w hs x σ
    | .stuck => .stuck := by rw [exS] <;> rfl
@[simp] theorem exS_pass {σ} : exS P cf w .pass σ = .ok (.nx, σ) := by rw [exS] <;> rfl
@[simp] theorem exSs_nil {σ} : exSs P cf w .nil σ = .ok (.nx, σ) := by rw [exSs] <;> rfl
@[simp] theorem exSs_cons {s} {r} {σ} : exSs P cf w (.cons s r) σ = bnd (exS P cf w s σ) fun f σ => match f with
    | .nx => exSs P cf w r σ
    | .rt v => .ok (.rt v, σ) := by rw [exSs] <;> rfl
@[simp] theorem exH_nil {x} {u1} : exH P cf w .nil x u1 = .exc x := by rw [exH] <;> rfl
@[simp] theorem exH_con {c} {b} {r} {x} {σ} : exH P cf w (.con c b r) x σ = if c = x.c then (match exSs P cf w b (σ.map fun _ => .un) with
    | .ok (.rt (.sh d), _) => .ok (.rt (.sh d), [])
    | _ => .stuck) else exH P cf w r x σ := by rw [exH] <;> rfl
@[simp] theorem exH_fld {c} {u1} {s} {r} {x} {σ} : exH P cf w (.fld c u1 s r) x σ = if c = x.c then (match x.arg with
    | some a => .ok (.rt (.sh (.tup [.str s, a])), [])
    | none => .stuck) else exH P cf w r x σ := by rw [exH] <;> rfl
def forF (P : Prg) (cf : CF) (w : Nat) (t : Tgt) (b : Sms) : D → En → R (Fl × En) := fun d σ => bnd (lift (setT t d σ) σ) fun σ' _ => exSs P cf w b σ'
def whC (P : Prg) (cf : CF) (c : Ex) : En → R (Bool × En) := fun σ => bnd (ev P cf c σ) fun v σ => toB v σ
def whB (P : Prg) (cf : CF) (w : Nat) (b : Sms) : En → R (Fl × En) := fun σ => exSs P cf w b σ
def forR (q : R ((List D × List Nat) × En)) (f : D → En → R (Fl × En)) : R (Fl × En) := bnd q fun p σ1 => bnd (forL f p.1 (p.2.foldr lock σ1)) fun r σ2 => .ok (r, p.2.foldr unlock σ2)
@[simp] theorem forR_ok {p : List D × List Nat} {σ1 : En} {f : D → En → R (Fl × En)} : forR (.ok (p, σ1)) f = bnd (forL f p.1 (p.2.foldr lock σ1)) fun r σ2 => .ok (r, p.2.foldr unlock σ2) := id rfl
@[simp] theorem exS_for {t : Tgt} {s : Src} {b : Sms} {σ : En} : exS P cf w (.for t s b) σ = forR (src P cf s σ) (forF P cf w t b) := by rw [exS] <;> rfl
@[simp] theorem exS_whl {c : Ex} {b : Sms} {σ : En} : exS P cf w (.whl c b) σ = whlL (whC P cf c) (whB P cf w b) w σ := by rw [exS] <;> rfl
end
end PV
set_option Elab.async false
set_option linter.all false
set_option maxRecDepth 100000
set_option maxHeartbeats 4000000
namespace PV
open PySem L2
theorem fnEv_succ {P : Prg} {w n k : Nat} {fa : FArg} {args : List D} {f : FnI} (h : P.fns[k]? = some f) : fnEv P w (n + 1) k fa args = runF P (fnEv P w n) w f fa args := by
  simp only [fnEv, h]
/-- a call of a function without a list of its caller's -/
theorem fn_no {P : Prg} {w n k : Nat} {args : List D} {f : FnI} {v : Vr} {σ' : En} (h : P.fns[k]? = some f) (ha : args.length = f.ps.length) (hb : exSs P (fnEv P w n) w f.body (args.map .sh ++ List.replicate (f.N.length - args.length) .un) = .ok (.rt v, σ')) : fnEv P w (n + 1) k .no args = .ok (v, []) := by
  rw [fnEv_succ h]
  unfold runF
  rw [if_pos (show nArgs .no args = _ from ha)]
  show (match exSs P (fnEv P w n) w f.body (args.map .sh ++ List.replicate (f.N.length - args.length) .un) with
    | .ok (.nx, σ) => fin .no (.sh .non) σ
    | .ok (.rt v, σ) => fin .no v σ
    | .exc x => .exc x
    | .stuck => .stuck) = _
  rw [hb]
  rfl
/-- .. that raises -/
theorem fn_no_exc {P : Prg} {w n k : Nat} {args : List D} {f : FnI} {x : Exn} (h : P.fns[k]? = some f) (ha : args.length = f.ps.length) (hb : exSs P (fnEv P w n) w f.body (args.map .sh ++ List.replicate (f.N.length - args.length) .un) = .exc x) : fnEv P w (n + 1) k .no args = .exc x := by
  rw [fnEv_succ h]
  unfold runF
  rw [if_pos (show nArgs .no args = _ from ha)]
  show (match exSs P (fnEv P w n) w f.body (args.map .sh ++ List.replicate (f.N.length - args.length) .un) with
    | .ok (.nx, σ) => fin .no (.sh .non) σ
    | .ok (.rt v, σ) => fin .no v σ
    | .exc x => .exc x
    | .stuck => .stuck) = _
  rw [hb]
/-- an __init__ that hands nothing back -/
theorem fn_bld {P : Prg} {w n k c : Nat} {args ds' : List D} {f : FnI} {σ' : En} (h : P.fns[k]? = some f) (ha : args.length + 1 = f.ps.length) (hb : exSs P (fnEv P w n) w f.body (.bld c [] :: args.map .sh ++ List.replicate (f.N.length - (args.length + 1)) .un) = .ok (.nx, .bld c ds' :: σ')) : fnEv P w (n + 1) k (.bld c) args = .ok (.sh .non, ds') := by
  rw [fnEv_succ h]
  unfold runF
  rw [if_pos (show nArgs (.bld c) args = _ from ha)]
  show (match exSs P (fnEv P w n) w f.body (.bld c [] :: args.map .sh ++ List.replicate (f.N.length - (args.length + 1)) .un) with
    | .ok (.nx, σ) => fin (.bld c) (.sh .non) σ
    | .ok (.rt v, σ) => fin (.bld c) v σ
    | .exc x => .exc x
    | .stuck => .stuck) = _
  rw [hb]
  rfl
theorem fn_bld_exc {P : Prg} {w n k c : Nat} {args : List D} {f : FnI} {x : Exn} (h : P.fns[k]? = some f) (ha : args.length + 1 = f.ps.length) (hb : exSs P (fnEv P w n) w f.body (.bld c [] :: args.map .sh ++ List.replicate (f.N.length - (args.length + 1)) .un) = .exc x) : fnEv P w (n + 1) k (.bld c) args = .exc x := by
  rw [fnEv_succ h]
  unfold runF
  rw [if_pos (show nArgs (.bld c) args = _ from ha)]
  show (match exSs P (fnEv P w n) w f.body (.bld c [] :: args.map .sh ++ List.replicate (f.N.length - (args.length + 1)) .un) with
    | .ok (.nx, σ) => fin (.bld c) (.sh .non) σ
    | .ok (.rt v, σ) => fin (.bld c) v σ
    | .exc x => .exc x
    | .stuck => .stuck) = _
  rw [hb]
/-- .. that hands nothing back -/
theorem fn_nx {P : Prg} {w n k : Nat} {args : List D} {f : FnI} {σ' : En} (h : P.fns[k]? = some f) (ha : args.length = f.ps.length) (hb : exSs P (fnEv P w n) w f.body (args.map .sh ++ List.replicate (f.N.length - args.length) .un) = .ok (.nx, σ')) : fnEv P w (n + 1) k .no args = .ok (.sh .non, []) := by
  rw [fnEv_succ h]
  unfold runF
  rw [if_pos (show nArgs .no args = _ from ha)]
  show (match exSs P (fnEv P w n) w f.body (args.map .sh ++ List.replicate (f.N.length - args.length) .un) with
    | .ok (.nx, σ) => fin .no (.sh .non) σ
    | .ok (.rt v, σ) => fin .no v σ
    | .exc x => .exc x
    | .stuck => .stuck) = _
  rw [hb]
  rfl
/-- .. with a list that is handed in -/
theorem fn_io {P : Prg} {w n k : Nat} {args ds ds' : List D} {f : FnI} {v : Vr} {σ' : En} (h : P.fns[k]? = some f) (ha : args.length + 1 = f.ps.length) (hb : exSs P (fnEv P w n) w f.body (.io ds :: args.map .sh ++ List.replicate (f.N.length - (args.length + 1)) .un) = .ok (.rt v, .io ds' :: σ')) : fnEv P w (n + 1) k (.io ds) args = .ok (v, ds') := by
  rw [fnEv_succ h]
  unfold runF
  rw [if_pos (show nArgs (.io ds) args = _ from ha)]
  show (match exSs P (fnEv P w n) w f.body (.io ds :: args.map .sh ++ List.replicate (f.N.length - (args.length + 1)) .un) with
    | .ok (.nx, σ) => fin (.io ds) (.sh .non) σ
    | .ok (.rt v, σ) => fin (.io ds) v σ
    | .exc x => .exc x
    | .stuck => .stuck) = _
  rw [hb]
  rfl
theorem seq_nx {P : Prg} {cf : CF} {w : Nat} {s : Sm} {r : Sms} {σ σ' : En} {q : R (Fl × En)} (h : exS P cf w s σ = .ok (.nx, σ')) (h2 : exSs P cf w r σ' = q) : exSs P cf w (.cons s r) σ = q := by
  rw [exSs_cons, h]
  exact h2
/-! ## loops by an invariant -/
theorem forL_inv {f : D → En → R (Fl × En)} {I : List D → En → Prop} (step : ∀ d ds σ, I (d :: ds) σ → ∃ σ', f d σ = .ok (.nx, σ') ∧ I ds σ') : ∀ (ds : List D) (σ : En), I ds σ → ∃ σ', forL f ds σ = .ok (.nx, σ') ∧ I [] σ'
  | [], σ, h => ⟨σ, rfl, h⟩
  | d :: ds, σ, h => by
    obtain ⟨σ', e, h'⟩ := step d ds σ h
    obtain ⟨σ'', e2, h2⟩ := forL_inv step ds σ' h'
    refine ⟨σ'', ?_, h2⟩
    simp only [forL, e, bnd_ok]
    exact e2
theorem range_map_succ {m : Nat} {lo : Int} : (List.range (m + 1)).map (fun (i : Nat) => D.int (lo + i)) = .int lo :: (List.range m).map (fun (i : Nat) => D.int ((lo + 1) + i)) := by
  rw [List.range_succ_eq_map, List.map_cons, List.map_map]
  congr 1
  · rw [show ((0 : Nat) : Int) = 0 from rfl, Int.add_zero]
  · apply List.map_congr_left
    intro i _
    show D.int (lo + ((i + 1 : Nat) : Int)) = D.int (lo + 1 + (i : Int))
    congr 1
    omega
theorem forL_rng {f : D → En → R (Fl × En)} {lo : Int} {I : Nat → En → Prop} : ∀ (m j : Nat), (∀ i σ, i < j + m → I i σ → ∃ σ', f (.int (lo + i)) σ = .ok (.nx, σ') ∧ I (i + 1) σ') → ∀ σ, I j σ → ∃ σ', forL f ((List.range m).map fun (i : Nat) => D.int ((lo + j) + i)) σ = .ok (.nx, σ') ∧ I (j + m) σ'
  | 0, j, step, σ, h => ⟨σ, rfl, h⟩
  | m + 1, j, step, σ, h => by
    obtain ⟨σ', e, h'⟩ := step j σ (by omega) h
    obtain ⟨σ'', e2, h2⟩ := forL_rng (lo := lo) (I := I) m (j + 1) (fun i σ hi => step i σ (by omega)) σ' h'
    refine ⟨σ'', ?_, by rw [show j + (m + 1) = j + 1 + m by omega]; exact h2⟩
    rw [range_map_succ]
    simp only [forL, e, bnd_ok]
    rw [← e2]
    congr 1
    apply List.map_congr_left
    intro i _
    congr 1
    omega
theorem for_rng {f : D → En → R (Fl × En)} {lo : Int} {m : Nat} (I : Nat → En → Prop) {σ : En} (h : I 0 σ) (step : ∀ i σ, i < m → I i σ → ∃ σ', f (.int (lo + i)) σ = .ok (.nx, σ') ∧ I (i + 1) σ') : ∃ σ', forL f ((List.range m).map fun (i : Nat) => D.int (lo + i)) σ = .ok (.nx, σ') ∧ I m σ' := by
  have q := forL_rng (f := f) (lo := lo) (I := I) m 0 (fun i σ hi => step i σ (by omega)) σ h
  rw [show lo + ((0 : Nat) : Int) = lo by omega, Nat.zero_add] at q
  exact q
theorem lcL_rng {f : D → List D → En → R (List D × En)} {lo : Int} {I : Nat → List D → En → Prop} : ∀ (m j : Nat), (∀ i acc σ, i < j + m → I i acc σ → ∃ acc' σ', f (.int (lo + i)) acc σ = .ok (acc', σ') ∧ I (i + 1) acc' σ') → ∀ acc σ, I j acc σ → ∃ acc' σ', lcL f ((List.range m).map fun (i : Nat) => D.int ((lo + j) + i)) acc σ = .ok (acc', σ') ∧ I (j + m) acc' σ'
  | 0, j, step, acc, σ, h => ⟨acc, σ, rfl, h⟩
  | m + 1, j, step, acc, σ, h => by
    obtain ⟨acc', σ', e, h'⟩ := step j acc σ (by omega) h
    obtain ⟨acc'', σ'', e2, h2⟩ := lcL_rng (lo := lo) (I := I) m (j + 1) (fun i acc σ hi => step i acc σ (by omega)) acc' σ' h'
    refine ⟨acc'', σ'', ?_, by rw [show j + (m + 1) = j + 1 + m by omega]; exact h2⟩
    rw [range_map_succ]
    simp only [lcL, e, bnd_ok]
    rw [← e2]
    congr 1
    apply List.map_congr_left
    intro i _
    congr 1
    omega
theorem lc_rng {f : D → List D → En → R (List D × En)} {lo : Int} {m : Nat} (I : Nat → List D → En → Prop) {σ : En} (h : I 0 [] σ) (step : ∀ i acc σ, i < m → I i acc σ → ∃ acc' σ', f (.int (lo + i)) acc σ = .ok (acc', σ') ∧ I (i + 1) acc' σ') : ∃ acc' σ', lcL f ((List.range m).map fun (i : Nat) => D.int (lo + i)) [] σ = .ok (acc', σ') ∧ I m acc' σ' := by
  have q := lcL_rng (f := f) (lo := lo) (I := I) m 0 (fun i acc σ hi => step i acc σ (by omega)) [] σ h
  rw [show lo + ((0 : Nat) : Int) = lo by omega, Nat.zero_add] at q
  exact q
theorem lcL_inv {f : D → List D → En → R (List D × En)} {I : List D → List D → En → Prop} (step : ∀ d ds acc σ, I (d :: ds) acc σ → ∃ acc' σ', f d acc σ = .ok (acc', σ') ∧ I ds acc' σ') : ∀ (ds acc : List D) (σ : En), I ds acc σ → ∃ acc' σ', lcL f ds acc σ = .ok (acc', σ') ∧ I [] acc' σ'
  | [], acc, σ, h => ⟨acc, σ, rfl, h⟩
  | d :: ds, acc, σ, h => by
    obtain ⟨acc', σ', e, h'⟩ := step d ds acc σ h
    obtain ⟨acc'', σ'', e2, h2⟩ := lcL_inv step ds acc' σ' h'
    refine ⟨acc'', σ'', ?_, h2⟩
    simp only [lcL, e, bnd_ok]
    exact e2
/-! ## ranges -/
theorem rngD_up {lo : Int} {k : Nat} (h1 : -1000000 < lo) (h2 : lo + k < 1000000000) : rngD lo (lo + k) 1 = some ((List.range k).map fun (i : Nat) => D.int (lo + i)) := by
  unfold rngD
  rw [if_pos ⟨h1, by omega, by omega, h2⟩, if_pos rfl, show (lo + (k : Int) - lo).toNat = k by omega]
theorem rngA_1 {k : Nat} (h : (k : Int) < 1000000000) : rngA [.int k] = some ((List.range k).map fun (i : Nat) => D.int i) := by
  have e := rngD_up (lo := 0) (k := k) (by decide) (by omega)
  simp only [Int.zero_add] at e
  exact e
theorem rngA_2 {lo hi : Int} {k : Nat} (hk : hi = lo + k) (h1 : -1000000 < lo) (h2 : hi < 1000000000) : rngA [.int lo, .int hi] = some ((List.range k).map fun (i : Nat) => D.int (lo + i)) := by
  subst hk
  exact rngD_up h1 h2
theorem for_rng_run {P : Prg} {cf : CF} {w : Nat} {t : Tgt} {es : Exs} {b : Sms} {σ σ1 σ' : En} {ds xs : List D} (h : evs P cf es σ = .ok (ds, σ1)) (hr : rngA ds = some xs) (e : forL (forF P cf w t b) xs σ1 = .ok (.nx, σ')) : exS P cf w (.for t (.rng es) b) σ = .ok (.nx, σ') := by
  rw [exS_for, src_rng, h, bnd_ok, hr, forR_ok]
  show bnd (forL (forF P cf w t b) xs σ1) (fun r σ2 => .ok (r, σ2)) = _
  rw [e]
  rfl
/-! ## == -/
theorem eqN_of {P : Prg} {cf : CF} {x y : D} {p q : PyData} (hx : toPD x = some p) (hy : toPD y = some q) (h1 : SeqAt.shaped p = true) (h2 : SeqAt.shaped q = true) (n : Nat) : eqN P cf n x y = .ok (PyData.eqv p q) := by
  have e : plainEq x y = some (.ok (PyData.eqv p q)) := by
    unfold plainEq
    rw [hx, hy]
    simp only [h1, h2, and_self, if_true]
  cases n with
  | zero => unfold eqN; rw [e]
  | succ n => unfold eqN; rw [e]
theorem eqT_of {P : Prg} {cf : CF} {x y : D} {p q : PyData} (hx : toPD x = some p) (hy : toPD y = some q) (h1 : SeqAt.shaped p = true) (h2 : SeqAt.shaped q = true) : eqT P cf x y = .ok (PyData.eqv p q) := eqN_of hx hy h1 h2 6
@[simp] theorem eqT_int {P : Prg} {cf : CF} {i j : Int} : eqT P cf (.int i) (.int j) = .ok (decide (i = j)) := by
  rw [eqT_of (p := .int i) (q := .int j) rfl rfl rfl rfl]
  rfl
@[simp] theorem eqT_bl {P : Prg} {cf : CF} {i j : Bool} : eqT P cf (.bl i) (.bl j) = .ok (i == j) := by
  rw [eqT_of (p := .bool i) (q := .bool j) rfl rfl rfl rfl]
  rfl
/-! ## the helpers that every law has -/
def stateB : Sms := (.cons (.asg (.v 1) (.bin .add (.bin .mul (.var 1) (.con (.int 1000003))) (.bif .abs (.cons (.var 3) .nil)))) (.cons (.asg (.v 2) (.bin .mod (.bif .int (.cons (.bin .add (.bin .mul (.var 2) (.con (.int 48271))) (.var 3)) .nil)) (.con (.int 2147483647)))) .nil))
def stateF : Sms := .cons (.asg (.v 1) (.con (.int 0))) (.cons (.asg (.v 2) (.con (.int 1))) (.cons (.for (.v 3) (.seq (.slc (.var 0) .none (.some (.con (.int 63))))) stateB) (.cons (.ret (.lst (.cons (.var 1) (.cons (.ite (.cmp .ne (.var 2) (.con (.int 1973665155))) (.var 2) (.con (.int 7))) .nil)))) .nil)))
def takeF : Sms := .cons (.ifs (.cmp .gt (.ix (.var 0) (.con (.int 0))) (.con (.int 0))) (.cons (.asg (.v 2) (.bin .mod (.bif .int (.cons (.ix (.var 0) (.con (.int 0))) .nil)) (.var 1))) (.cons (.setix 0 (.con (.int 0)) (.bin .fdiv (.ix (.var 0) (.con (.int 0))) (.var 1))) (.cons (.ret (.var 2)) .nil))) .nil) (.cons (.setix 0 (.con (.int 1)) (.bin .mod (.bif .int (.cons (.bin .add (.bin .mul (.ix (.var 0) (.con (.int 1))) (.con (.int 48271))) (.con (.int 11))) .nil)) (.con (.int 2147483647)))) (.cons (.ret (.bin .mod (.bif .int (.cons (.bin .fdiv (.ix (.var 0) (.con (.int 1))) (.con (.int 7))) .nil)) (.var 1))) .nil))
/-- what a state of draws is -/
def StOk (ds : List D) : Prop := ∃ s t : Int, ds = [.int s, .int t] ∧ 0 ≤ s ∧ 0 ≤ t ∧ t < 2147483647
theorem small_log {i : Int} {k : Nat} (h : i.natAbs < 2 ^ k) (hk : 0 < k) : i.natAbs.log2 < k := by
  by_cases h0 : i.natAbs = 0
  · rw [h0]; exact hk
  · exact (Nat.log2_lt h0).mpr h
section
variable {P : Prg} {w n k : Nat}
theorem take_ev {f : FnI} (hf : P.fns[k]? = some f) (hb : f.body = takeF) (hp : f.ps.length = 2) (hN : f.N.length = 3) {ds : List D} (hs : StOk ds) {m : Int} (hm : 0 < m) (hm2 : m.natAbs.log2 < 9000) :
    ∃ (v : Int) (ds' : List D), fnEv P w (n + 1) k (.io ds) [.int m] = .ok (.sh (.int v), ds') ∧ 0 ≤ v ∧ v < m ∧ StOk ds' := by
  obtain ⟨s, t, rfl, h0, h1, h2⟩ := hs
  by_cases hz : 0 < s
  · refine ⟨s % m, [.int (s / m), .int t], fn_io hf (by rw [hp]; rfl) (σ' := [.sh (.int m), .sh (.int (s % m))]) ?_, Int.emod_nonneg _ (by omega), Int.emod_lt_of_pos _ hm, s / m, t, rfl, Int.ediv_nonneg h0 (by omega), h1, h2⟩
    rw [hb, hN]
    simp [takeF, cmpD, atI, hz, bifD, binD, hm, hm2, ixN]
  · have e1 : t.natAbs.log2 + 15 < 100000000 := by have := small_log (i := t) (k := 32) (by omega) (by decide); omega
    have e3 : Nat.log2 48271 = 15 := by decide
    have e4 : Nat.log2 7 < 9000 := by decide
    refine ⟨((t * 48271 + 11) % 2147483647) / 7 % m, [.int s, .int ((t * 48271 + 11) % 2147483647)], fn_io hf (by rw [hp]; rfl) (σ' := [.sh (.int m), .un]) ?_, Int.emod_nonneg _ (by omega), Int.emod_lt_of_pos _ hm, s, (t * 48271 + 11) % 2147483647, rfl, h0, by omega, by omega⟩
    rw [hb, hN]
    simp [takeF, cmpD, atI, hz, bifD, binD, hm, hm2, ixN, e1, e3, e4]
theorem seed_lt {b B : Nat} {s c : Int} (h0 : 0 ≤ s) (hs : s.natAbs < 2 ^ b) (hc : c.natAbs.log2 ≤ B) (hb : B + 1 ≤ b) : (s * 1000003 + (if c < 0 then -c else c)).natAbs < 2 ^ (b + 21) := by
  have h1 : c.natAbs < 2 ^ b := Nat.lt_of_lt_of_le (Nat.lt_of_lt_of_le Nat.lt_log2_self (Nat.pow_le_pow_right (by decide) (Nat.succ_le_succ hc))) (Nat.pow_le_pow_right (by decide) hb)
  rw [Nat.pow_add]
  generalize 2 ^ b = p at *
  have e : (2 : Nat) ^ 21 = 2097152 := by decide
  rw [e]
  omega
theorem state_turn {cf : CF} {c0 : Cell} {s t c : Int} {c3 : Cell} (h3 : c3 = .un ∨ ∃ d, c3 = .sh d) (hs : s.natAbs.log2 + 19 < 100000000) (h1 : t.natAbs.log2 + 15 < 100000000) :
    forF P cf w (.v 3) stateB (.int c) [c0, .sh (.int s), .sh (.int t), c3] = .ok (.nx, [c0, .sh (.int (s * 1000003 + (if c < 0 then -c else c))), .sh (.int ((t * 48271 + c) % 2147483647)), .sh (.int c)]) := by
  have e1 : Nat.log2 48271 = 15 := by decide
  have e2 : Nat.log2 1000003 = 19 := by decide
  rcases h3 with rfl | ⟨d, rfl⟩ <;>
  simp [forF, stateB, bifD, binD, e1, e2, hs, h1]
theorem state_loop {cf : CF} {c0 : Cell} {B : Nat} : ∀ (cs : List Int) (b : Nat) (s t : Int) (c3 : Cell), (c3 = .un ∨ ∃ d, c3 = .sh d) → (∀ c ∈ cs, c.natAbs.log2 ≤ B) → B + 1 ≤ b → b + 21 * cs.length ≤ 99999000 → 0 ≤ s → s.natAbs < 2 ^ b → 0 ≤ t → t < 2147483647 →
    ∃ (s' t' : Int) (c3' : Cell), forL (forF P cf w (.v 3) stateB) (cs.map D.int) [c0, .sh (.int s), .sh (.int t), c3] = .ok (.nx, [c0, .sh (.int s'), .sh (.int t'), c3']) ∧ 0 ≤ s' ∧ 0 ≤ t' ∧ t' < 2147483647
  | [], b, s, t, c3, h3, hc, hB, hb, h0, h1, h2, h4 => ⟨s, t, c3, rfl, h0, h2, h4⟩
  | c :: cs, b, s, t, c3, h3, hc, hB, hb, h0, h1, h2, h4 => by
    rw [List.length_cons] at hb
    have q1 : s.natAbs.log2 < b := small_log h1 (by omega)
    have q2 : t.natAbs.log2 < 32 := small_log (by omega) (by decide)
    have e := state_turn (P := P) (w := w) (cf := cf) (c0 := c0) (s := s) (t := t) (c := c) h3 (by omega) (by omega)
    obtain ⟨s', t', c3', i1, i2⟩ := state_loop cs (b + 21) _ ((t * 48271 + c) % 2147483647) (.sh (.int c)) (.inr ⟨_, rfl⟩) (fun x hx => hc x (List.mem_cons_of_mem _ hx)) (by omega) (by omega) (by split <;> omega) (seed_lt h0 h1 (hc c (List.mem_cons_self ..)) hB) (by omega) (by omega)
    refine ⟨s', t', c3', ?_, i2⟩
    simp only [List.map_cons, forL, e, bnd_ok]
    exact i1
theorem one_lt_pow {b : Nat} : (0 : Int).natAbs < 2 ^ b := Nat.two_pow_pos b
theorem cut63 (ns : List D) : cutD ns none (some 63) = ns.take 63 := by
  have e : HT.sIx ns.length 0 none = 0 := by first | rfl | simp [HT.sIx]
  have e2 : HT.sIx ns.length ns.length (some 63) = min 63 ns.length := by
    first
      | (simp [HT.sIx]; done)
      | (simp [HT.sIx]; omega)
  unfold cutD
  rw [e, e2, List.drop_zero, Nat.sub_zero]
  rcases Nat.le_total 63 ns.length with h | h
  · rw [Nat.min_eq_left h]
  · rw [Nat.min_eq_right h, List.take_of_length_le h, List.take_of_length_le (Nat.le_refl _)]
theorem state_ev {f : FnI} (hf : P.fns[k]? = some f) (hb : f.body = stateF) (hp : f.ps.length = 1) (hN : f.N.length = 4) {ns : List Int} (hl : ns.length ≤ 63) (hz : ∀ z ∈ ns, z.natAbs.log2 ≤ 1048576) :
    ∃ ds : List D, fnEv P w (n + 1) k .no [.ro (ns.map D.int)] = .ok (.ow ds, []) ∧ StOk ds := by
  obtain ⟨b, hbb⟩ : ∃ b, b = 1048577 := ⟨_, rfl⟩
  obtain ⟨s', t', c3', i1, i2, i3, i4⟩ := state_loop (P := P) (w := w) (cf := fnEv P w n) (c0 := .sh (.ro (ns.map D.int))) (B := 1048576) (ns.take 63) b 0 1 .un (.inl rfl) (fun c hc => hz c (List.mem_of_mem_take hc)) (by omega) (by rw [List.length_take]; omega) (by omega) one_lt_pow (by omega) (by omega)
  have ec : cutD (ns.map D.int) none (some 63) = (ns.take 63).map D.int := by rw [cut63, List.map_take]
  refine ⟨[.int s', .int (if t' = 1973665155 then 7 else t')], fn_no hf (by rw [hp]; rfl) (σ' := [.sh (.ro (ns.map D.int)), .sh (.int s'), .sh (.int t'), c3']) ?_, s', _, rfl, i2, by split <;> omega, by split <;> omega⟩
  rw [hb, hN]
  rw [List.map_take] at i1 ec
  by_cases ht : t' = 1973665155 <;> simp [stateF, cmpD, slcD, ec, i1, ht]
end
end PV
set_option Elab.async false
set_option linter.all false
set_option maxRecDepth 100000
set_option maxHeartbeats 4000000
namespace PV
open PySem L2
section
variable {P : Prg} {cf : CF} {w : Nat}
/-! ## drawn lists -/
theorem draw_lc {t : Nat} {e : Ex} {E : List D → Cell → En} {I : D → Prop} (hw : ∀ ds c, wipeE (E ds c) [t] = E ds .un) (hs : ∀ ds x, setc t (.sh x) (E ds .un) = .ok (E ds (.sh x)))
    (he : ∀ ds x, StOk ds → ∃ d ds', ev P cf e (E ds (.sh x)) = .ok (.sh d, E ds' (.sh x)) ∧ I d ∧ StOk ds') :
    ∀ (xs acc ds : List D) (c : Cell), StOk ds → acc.length + xs.length < 16000000 → ∃ ys ds' c', lcL (lcE P cf (.v t) e) xs acc (E ds c) = .ok (acc ++ ys, E ds' c') ∧ ys.length = xs.length ∧ (∀ y ∈ ys, I y) ∧ StOk ds'
  | [], acc, ds, c, h, _ => ⟨[], ds, c, by rw [List.append_nil]; rfl, rfl, nofun, h⟩
  | x :: xs, acc, ds, c, h, hl => by
    rw [List.length_cons] at hl
    obtain ⟨d, ds1, e1, i1, g1⟩ := he ds x h
    obtain ⟨ys, ds', c', e2, l2, i2, g2⟩ := draw_lc hw hs he xs (acc ++ [d]) ds1 (.sh x) g1 (by rw [List.length_append, List.length_singleton]; omega)
    refine ⟨d :: ys, ds', c', ?_, by rw [List.length_cons, List.length_cons, l2], ?_, g2⟩
    · rw [List.append_assoc, List.singleton_append] at e2
      rw [← e2]
      show bnd (lcE P cf (.v t) e x acc (E ds c)) _ = _
      have : lcE P cf (.v t) e x acc (E ds c) = .ok (acc ++ [d], E ds1 (.sh x)) := by
        unfold lcE lcF
        rw [show (Tgt.v t).slots = [t] from rfl, hw, setT_v, hs]
        show addL acc (bnd (ev P cf e (E ds (.sh x))) fun v σ => esc v σ) = _
        rw [e1]
        show (if acc.length < 16000000 then R.ok (acc ++ [d], E ds1 (.sh x)) else .stuck) = _
        rw [if_pos (by omega)]
      rw [this]
      rfl
    · intro y hy
      rcases List.mem_cons.mp hy with rfl | hy
      · exact i1
      · exact i2 y hy
/-! ## sorting -/
def pos (lt : D → D → Bool) (x : D) (l : List D) : Nat → Nat
  | 0 => 0
  | k + 1 => if lt x (l.getD k .non) then pos lt x l k else k + 1
theorem pos_le {lt : D → D → Bool} {x : D} {l : List D} : ∀ k, pos lt x l k ≤ k
  | 0 => Nat.le_refl _
  | k + 1 => by
    unfold pos
    split
    · exact Nat.le_succ_of_le (pos_le k)
    · exact Nat.le_refl _
def insP (lt : D → D → Bool) (l : List D) (x : D) : List D := l.take (pos lt x l l.length) ++ x :: l.drop (pos lt x l l.length)
def sortL (lt : D → D → Bool) (xs : List D) : List D := xs.foldl (insP lt) []
theorem insP_length {lt : D → D → Bool} {l : List D} {x : D} : (insP lt l x).length = l.length + 1 := by
  have := pos_le (lt := lt) (x := x) (l := l) l.length
  unfold insP
  rw [List.length_append, List.length_cons, List.length_take, List.length_drop]
  omega
theorem mem_insP {lt : D → D → Bool} {l : List D} {x y : D} (h : y ∈ insP lt l x) : y = x ∨ y ∈ l := by
  unfold insP at h
  rcases List.mem_append.mp h with h | h
  · exact .inr (List.mem_of_mem_take h)
  · rcases List.mem_cons.mp h with h | h
    · exact .inl h
    · exact .inr (List.mem_of_mem_drop h)
theorem mem_foldl_insP {lt : D → D → Bool} {y : D} : ∀ (xs l : List D), y ∈ xs.foldl (insP lt) l → y ∈ xs ∨ y ∈ l
  | [], l, h => .inr h
  | x :: xs, l, h => by
    rcases mem_foldl_insP xs _ h with h | h
    · exact .inl (List.mem_cons_of_mem _ h)
    · rcases mem_insP h with h | h
      · exact .inl (h ▸ List.mem_cons_self ..)
      · exact .inr h
theorem mem_sortL {lt : D → D → Bool} {y : D} {xs : List D} (h : y ∈ sortL lt xs) : y ∈ xs := by
  rcases mem_foldl_insP xs _ h with h | h
  · exact h
  · cases h
theorem foldl_insP_length {lt : D → D → Bool} : ∀ (xs l : List D), (xs.foldl (insP lt) l).length = l.length + xs.length
  | [], l => rfl
  | x :: xs, l => by
    show (xs.foldl (insP lt) (insP lt l x)).length = _
    rw [foldl_insP_length xs, insP_length, List.length_cons]
    omega
theorem sortL_length {lt : D → D → Bool} {xs : List D} : (sortL lt xs).length = xs.length := by
  unfold sortL
  rw [foldl_insP_length]
  exact Nat.zero_add _
def sortE : Ex := (.and (.cmp .gt (.var 3) (.con (.int 0))) (.cmp .lt (.var 2) (.ix (.var 1) (.bin .sub (.var 3) (.con (.int 1))))))
def sortB0 : Sms := (.cons (.asg (.v 3) (.bin .sub (.var 3) (.con (.int 1)))) .nil)
def sortB1 : Sms := (.cons (.asg (.v 3) (.bif .len (.cons (.var 1) .nil))) (.cons (.whl sortE sortB0) (.cons (.ins 1 (.var 3) (.var 2)) .nil)))
def sortF : Sms := (.cons (.asg (.v 1) (.lst .nil)) (.cons (.for (.v 2) (.seq (.var 0)) sortB1) (.cons (.ret (.bif .tup (.cons (.var 1) .nil))) .nil)))
theorem atI_nat {ds : List D} {k : Nat} (h : k < ds.length) : atI ds (k : Int) = some (ds.getD k .non) := by
  unfold atI ixN
  simp [h]
theorem sort_whl {lt : D → D → Bool} {x : D} {l : List D} {c0 : Cell} (hlt : ∀ y ∈ l, cmpD P cf .lt x y = .ok (lt x y)) : ∀ (m k : Nat), k < m → k ≤ l.length →
    whlL (whC P cf sortE) (whB P cf w sortB0) m [c0, .ow l, .sh x, .sh (.int k)] = .ok (.nx, [c0, .ow l, .sh x, .sh (.int (pos lt x l k))])
  | 0, k, h, _ => by omega
  | m + 1, 0, h, _ => by
    simp [whlL, whC, sortE, cmpD, pos]
  | m + 1, k + 1, h, hk => by
    have hm : l.getD k .non ∈ l := by
      rw [List.getD_eq_getElem?_getD, List.getElem?_eq_getElem (by omega)]
      exact List.getElem_mem _
    have e1 := hlt _ hm
    have e2 := atI_nat (ds := l) (k := k) (by omega)
    have e3 : (0 : Int) < ((k + 1 : Nat) : Int) := by omega
    have e4 : ((k + 1 : Nat) : Int) - 1 = (k : Int) := by omega
    generalize ((k + 1 : Nat) : Int) = q at *
    have ec : whC P cf sortE [c0, .ow l, .sh x, .sh (.int q)] = .ok (lt x (l.getD k .non), [c0, .ow l, .sh x, .sh (.int q)]) := by
      have e5 : cmpD P cf .gt (.int q) (.int 0) = .ok true := by
        show R.ok (decide ((0 : Int) < q)) = _
        rw [decide_eq_true e3]
      simp [whC, sortE, binD, e1, e2, e4, e5, -List.getD_eq_getElem?_getD]
    unfold pos
    cases hb : lt x (l.getD k .non) with
    | false =>
      rw [hb] at ec
      simp only [whlL, ec, bnd_ok]
      simp
      omega
    | true =>
      rw [hb] at ec
      have i := sort_whl (c0 := c0) hlt m k (by omega) (by omega)
      simp only [whlL, ec, bnd_ok]
      rw [show whB P cf w sortB0 [c0, .ow l, .sh x, .sh (.int q)] = .ok (.nx, [c0, .ow l, .sh x, .sh (.int k)]) by simp [whB, sortB0, binD, e4]]
      exact i
theorem sort_turn {lt : D → D → Bool} {x : D} {l : List D} {c0 c2 c3 : Cell} (h2 : asg c2 = true) (h3 : asg c3 = true) (hlt : ∀ y ∈ l, cmpD P cf .lt x y = .ok (lt x y)) (hl : l.length < w) (hw : w ≤ 16000000) :
    ∃ c3', asg c3' = true ∧ forF P cf w (.v 2) sortB1 x [c0, .ow l, c2, c3] = .ok (.nx, [c0, .ow (insP lt l x), .sh x, c3']) := by
  have e := sort_whl (w := w) (c0 := c0) hlt w l.length hl (Nat.le_refl _)
  have p := pos_le (lt := lt) (x := x) (l := l) l.length
  refine ⟨.sh (.int (pos lt x l l.length)), rfl, ?_⟩
  have e1 : exS P cf w (.asg (.v 3) (.bif .len (.cons (.var 1) .nil))) [c0, .ow l, .sh x, c3] = .ok (.nx, [c0, .ow l, .sh x, .sh (.int l.length)]) := by simp [bifD, h3]
  have e2 : exS P cf w (.whl sortE sortB0) [c0, .ow l, .sh x, .sh (.int l.length)] = .ok (.nx, [c0, .ow l, .sh x, .sh (.int (pos lt x l l.length))]) := by rw [exS_whl]; exact e
  have e3 : exS P cf w (.ins 1 (.var 3) (.var 2)) [c0, .ow l, .sh x, .sh (.int (pos lt x l l.length))] = .ok (.nx, [c0, .ow (insP lt l x), .sh x, .sh (.int (pos lt x l l.length))]) := by
    unfold insP
    generalize pos lt x l l.length = p at *
    have q1 : l.length < 16000000 := by omega
    simp [q1, p]
  show bnd (lift (setT (.v 2) x [c0, .ow l, c2, c3]) _) _ = _
  rw [show setT (.v 2) x [c0, .ow l, c2, c3] = .ok [c0, .ow l, .sh x, c3] by simp [h2]]
  show exSs P cf w sortB1 [c0, .ow l, .sh x, c3] = _
  exact seq_nx e1 (seq_nx e2 (seq_nx e3 (by simp)))
theorem sort_loop {lt : D → D → Bool} {S : D → Prop} {c0 : Cell} (hlt : ∀ x y, S x → S y → cmpD P cf .lt x y = .ok (lt x y)) (hw : w ≤ 16000000) : ∀ (xs l : List D) (c2 c3 : Cell), asg c2 = true → asg c3 = true → (∀ x ∈ xs, S x) → (∀ x ∈ l, S x) → l.length + xs.length < w + 1 →
    ∃ c2' c3', forL (forF P cf w (.v 2) sortB1) xs [c0, .ow l, c2, c3] = .ok (.nx, [c0, .ow (xs.foldl (insP lt) l), c2', c3'])
  | [], l, c2, c3, h2, h3, hx, hl, hn => ⟨c2, c3, rfl⟩
  | x :: xs, l, c2, c3, h2, h3, hx, hl, hn => by
    rw [List.length_cons] at hn
    obtain ⟨c3', a, e⟩ := sort_turn (c0 := c0) h2 h3 (fun y hy => hlt x y (hx x (List.mem_cons_self ..)) (hl y hy)) (by omega) hw
    obtain ⟨d2, d3, e2⟩ := sort_loop (c0 := c0) hlt hw xs (insP lt l x) (.sh x) c3' rfl a (fun y hy => hx y (List.mem_cons_of_mem _ hy)) (by
      intro y hy
      rcases mem_insP hy with h | h
      · exact h ▸ hx x (List.mem_cons_self ..)
      · exact hl y h) (by rw [insP_length]; omega)
    refine ⟨d2, d3, ?_⟩
    simp only [forL, e, bnd_ok]
    exact e2
end
theorem sort_ev {P : Prg} {w n k : Nat} {f : FnI} (hf : P.fns[k]? = some f) (hb : f.body = sortF) (hp : f.ps.length = 1) (hN : f.N.length = 4) {lt : D → D → Bool} {S : D → Prop}
    (hlt : ∀ x y, S x → S y → cmpD P (fnEv P w n) .lt x y = .ok (lt x y)) (hw : w ≤ 16000000) {a : D} {xs : List D} (ha : items a = some xs) (hx : ∀ x ∈ xs, S x) (hl : xs.length ≤ w) :
    fnEv P w (n + 1) k .no [a] = .ok (.sh (.tup (sortL lt xs)), []) := by
  obtain ⟨c2, c3, e⟩ := sort_loop (P := P) (w := w) (c0 := .sh a) hlt hw xs [] .un .un rfl rfl hx nofun (by simp; omega)
  refine fn_no (σ' := [.sh a, .ow (sortL lt xs), c2, c3]) hf (by rw [hp]; rfl) ?_
  rw [hb, hN]
  refine seq_nx (σ' := [.sh a, .ow [], .un, .un]) (by simp) ?_
  refine seq_nx (σ' := [.sh a, .ow (sortL lt xs), c2, c3]) ?_ (by simp [bifD])
  rw [exS_for]
  simp [ha, e, sortL]
end PV
set_option Elab.async false
set_option linter.all false
set_option maxRecDepth 100000
set_option maxHeartbeats 4000000
namespace PV
open PySem L2
section
variable {P : Prg} {cf : CF} {w : Nat}
/-! ## comprehensions over what is known -/
theorem lc_map {α : Type} {r g : α → D} {t : Nat} {e : Ex} {E : Cell → En} (hw : ∀ c, wipeE (E c) [t] = E .un) (hs : ∀ x, setc t (.sh x) (E .un) = .ok (E (.sh x))) : ∀ (xs : List α) (acc : List D) (c : Cell),
    (∀ x ∈ xs, ∃ v, ev P cf e (E (.sh (r x))) = .ok (v, E (.sh (r x))) ∧ esc v (E (.sh (r x))) = .ok (g x, E (.sh (r x)))) → acc.length + xs.length < 16000000 →
    ∃ c', lcL (lcE P cf (.v t) e) (xs.map r) acc (E c) = .ok (acc ++ xs.map g, E c')
  | [], acc, c, h, hl => ⟨c, by simp [lcL]⟩
  | x :: xs, acc, c, h, hl => by
    rw [List.length_cons] at hl
    obtain ⟨v, h1, h2⟩ := h x (List.mem_cons_self ..)
    have e1 : lcE P cf (.v t) e (r x) acc (E c) = .ok (acc ++ [g x], E (.sh (r x))) := by
      unfold lcE lcF
      rw [show (Tgt.v t).slots = [t] from rfl, hw, setT_v, hs]
      show addL acc (bnd (ev P cf e (E (.sh (r x)))) fun v σ => esc v σ) = _
      rw [h1, bnd_ok, h2]
      show (if acc.length < 16000000 then R.ok (acc ++ [g x], E (.sh (r x))) else .stuck) = _
      rw [if_pos (by omega)]
    obtain ⟨c', e2⟩ := lc_map hw hs xs (acc ++ [g x]) (.sh (r x)) (fun y hy => h y (List.mem_cons_of_mem _ hy)) (by simp; omega)
    refine ⟨c', ?_⟩
    simp only [List.map_cons, lcL, e1, bnd_ok]
    rw [e2, List.append_assoc]
    rfl
/-- with a place and an item -/
theorem enumD_eq (d0 : D) : ∀ (i : Nat) (xs : List D), enumD i xs = (List.range xs.length).map fun k => .tup [.int ((i + k : Nat) : Int), xs.getD k d0]
  | i, [] => rfl
  | i, x :: xs => by
    rw [enumD, enumD_eq d0 (i + 1) xs, List.length_cons, List.range_succ_eq_map, List.map_cons, List.map_map]
    congr 1
    apply List.map_congr_left
    intro k _
    simp only [Function.comp, List.getD_cons_succ]
    congr 3
    omega
/-- items that are pairs, taken apart -/
theorem lc_map2 {α : Type} {r q g : α → D} {t u : Nat} {e : Ex} {E : Cell → Cell → En} (hw : ∀ c d, wipeE (E c d) [t, u] = E .un .un) (hs : ∀ x y, setAll [t, u] [x, y] (E .un .un) = .ok (E (.sh x) (.sh y))) : ∀ (xs : List α) (acc : List D) (c d : Cell),
    (∀ x ∈ xs, ∃ v, ev P cf e (E (.sh (r x)) (.sh (q x))) = .ok (v, E (.sh (r x)) (.sh (q x))) ∧ esc v (E (.sh (r x)) (.sh (q x))) = .ok (g x, E (.sh (r x)) (.sh (q x)))) → acc.length + xs.length < 16000000 →
    ∃ c' d', lcL (lcE P cf (.tp [t, u]) e) (xs.map fun x => .tup [r x, q x]) acc (E c d) = .ok (acc ++ xs.map g, E c' d')
  | [], acc, c, d, h, hl => ⟨c, d, by simp [lcL]⟩
  | x :: xs, acc, c, d, h, hl => by
    rw [List.length_cons] at hl
    obtain ⟨v, h1, h2⟩ := h x (List.mem_cons_self ..)
    have e1 : lcE P cf (.tp [t, u]) e (.tup [r x, q x]) acc (E c d) = .ok (acc ++ [g x], E (.sh (r x)) (.sh (q x))) := by
      unfold lcE lcF
      rw [show (Tgt.tp [t, u]).slots = [t, u] from rfl, hw, setT_tp, hs]
      show addL acc (bnd (ev P cf e (E (.sh (r x)) (.sh (q x)))) fun v σ => esc v σ) = _
      rw [h1, bnd_ok, h2]
      show (if acc.length < 16000000 then R.ok (acc ++ [g x], E (.sh (r x)) (.sh (q x))) else .stuck) = _
      rw [if_pos (by omega)]
    obtain ⟨c', d', e2⟩ := lc_map2 hw hs xs (acc ++ [g x]) (.sh (r x)) (.sh (q x)) (fun y hy => h y (List.mem_cons_of_mem _ hy)) (by simp; omega)
    refine ⟨c', d', ?_⟩
    simp only [List.map_cons, lcL, e1, bnd_ok]
    rw [e2, List.append_assoc]
    rfl
/-- a comprehension whose source locks nothing -/
theorem lcR_free {E E' : En} {xs ys : List D} {vs : List Nat} {f : D → List D → En → R (List D × En)} (hn : noLk vs E = true) (h : lcL f xs [] E = .ok (ys, E')) : lcR (.ok ((xs, []), E)) vs f = .ok (.ow ys, back E vs E') := by
  rw [lcR_ok]
  show (if noLk vs E = true then bnd (unexc (lcL f xs [] E)) fun acc σ2 => .ok (Vl.ow acc, back E vs σ2) else .stuck) = _
  rw [if_pos hn, h]
  rfl
/-- .. that locks one list -/
theorem lcR_lock {E E1 E' : En} {i : Nat} {xs ys : List D} {vs : List Nat} {f : D → List D → En → R (List D × En)} (hl : lock i E = E1) (hn : noLk vs E1 = true) (h : lcL f xs [] E1 = .ok (ys, E')) : lcR (.ok ((xs, [i]), E)) vs f = .ok (.ow ys, unlock i (back E1 vs E')) := by
  rw [lcR_ok]
  show (if noLk vs (lock i E) = true then bnd (unexc (lcL f xs [] (lock i E))) fun acc σ2 => .ok (Vl.ow acc, unlock i (back (lock i E) vs σ2)) else .stuck) = _
  rw [hl, if_pos hn, h]
  rfl
/-! ## loops with what they gather -/
theorem for_fold {α β : Type} {r : α → D} {t : Nat} {body : Sms} {E : β → Cell → En} {f : β → α → β} {I : List α → β → Prop}
    (step : ∀ a rest b c, I (a :: rest) b → asg c = true → forF P cf w (.v t) body (r a) (E b c) = .ok (.nx, E (f b a) (.sh (r a))) ∧ I rest (f b a)) :
    ∀ (xs : List α) (b : β) (c : Cell), asg c = true → I xs b → ∃ c', asg c' = true ∧ forL (forF P cf w (.v t) body) (xs.map r) (E b c) = .ok (.nx, E (xs.foldl f b) c') ∧ I [] (xs.foldl f b)
  | [], b, c, hc, h => ⟨c, hc, rfl, h⟩
  | x :: xs, b, c, hc, h => by
    obtain ⟨e1, h1⟩ := step x xs b c h hc
    obtain ⟨c', hc', e2, h2⟩ := for_fold step xs (f b x) (.sh (r x)) rfl h1
    refine ⟨c', hc', ?_, h2⟩
    simp only [List.map_cons, forL, e1, bnd_ok]
    exact e2
theorem for_fold2 {α β : Type} {r q : α → D} {t u : Nat} {body : Sms} {E : β → Cell → Cell → En} {f : β → α → β} {I : List α → β → Prop}
    (step : ∀ a rest b c d, I (a :: rest) b → asg c = true → asg d = true → forF P cf w (.tp [t, u]) body (.tup [r a, q a]) (E b c d) = .ok (.nx, E (f b a) (.sh (r a)) (.sh (q a))) ∧ I rest (f b a)) :
    ∀ (xs : List α) (b : β) (c d : Cell), asg c = true → asg d = true → I xs b → ∃ c' d', asg c' = true ∧ asg d' = true ∧ forL (forF P cf w (.tp [t, u]) body) (xs.map fun x => .tup [r x, q x]) (E b c d) = .ok (.nx, E (xs.foldl f b) c' d') ∧ I [] (xs.foldl f b)
  | [], b, c, d, hc, hd, h => ⟨c, d, hc, hd, rfl, h⟩
  | x :: xs, b, c, d, hc, hd, h => by
    obtain ⟨e1, h1⟩ := step x xs b c d h hc hd
    obtain ⟨c', d', hc', hd', e2, h2⟩ := for_fold2 step xs (f b x) (.sh (r x)) (.sh (q x)) rfl rfl h1
    refine ⟨c', d', hc', hd', ?_, h2⟩
    simp only [List.map_cons, forL, e1, bnd_ok]
    exact e2
end
/-! ## cuts -/
theorem cut_to {xs : List D} {k : Nat} (h : k ≤ xs.length) : cutD xs none (some (k : Int)) = xs.take k := by
  have e1 : HT.sIx xs.length 0 none = 0 := rfl
  have e2 : HT.sIx xs.length xs.length (some (k : Int)) = k := by
    show (if (k : Int) < 0 then ((k : Int) + (xs.length : Int)).toNat else min (k : Int).toNat xs.length) = k
    rw [if_neg (by omega)]
    omega
  unfold cutD
  rw [e1, e2, List.drop_zero, Nat.sub_zero]
theorem cut_from {xs : List D} {k : Nat} (h : k ≤ xs.length) : cutD xs (some (k : Int)) none = xs.drop k := by
  have e1 : HT.sIx xs.length 0 (some (k : Int)) = k := by
    show (if (k : Int) < 0 then ((k : Int) + (xs.length : Int)).toNat else min (k : Int).toNat xs.length) = k
    rw [if_neg (by omega)]
    omega
  have e2 : HT.sIx xs.length xs.length none = xs.length := rfl
  unfold cutD
  rw [e1, e2, List.take_of_length_le (by simp)]
theorem cut_tail {xs : List D} : cutD xs (some 1) none = xs.drop 1 := by
  cases xs with
  | nil => rfl
  | cons a r => exact cut_from (k := 1) (by simp)
end PV
set_option Elab.async false
set_option linter.all false
set_option maxRecDepth 100000
set_option maxHeartbeats 4000000
namespace PV
open PySem L2
/-! ## Ratios as data -/
def rD (q : Rat) : D := .obj 0 [.int q.num, .int (q.den : Int)]
/-- of at most so many bits -/
def Sz (b : Nat) (q : Rat) : Prop := q.num.natAbs + q.den ≤ 2 ^ b
theorem rD_inj {x y : Rat} (h : rD x = rD y) : x = y := by
  unfold rD at h
  injection h with _ h
  injection h with h1 h2
  injection h2 with h2 _
  injection h1 with h1
  injection h2 with h2
  exact Rat.ext h1 (by omega)
theorem Sz.mono {a b : Nat} {q : Rat} (h : Sz a q) (k : a ≤ b) : Sz b q := Nat.le_trans h (Nat.pow_le_pow_right (by decide) k)
theorem Sz.num {a : Nat} {q : Rat} (h : Sz a q) : q.num.natAbs < 2 ^ a := by
  have := q.den_pos
  unfold Sz at h
  omega
theorem Sz.den {a : Nat} {q : Rat} (h : Sz a q) : q.den ≤ 2 ^ a := by unfold Sz at h; omega
theorem num_le (n d : Int) : (Rat.divInt n d).num.natAbs ≤ n.natAbs := by
  rw [Rat.num_divInt]
  rcases Int.lt_trichotomy d 0 with h | h | h
  · rw [Int.sign_eq_neg_one_of_neg h]
    have e : (-1 * n) / (Int.gcd d n : Int) = -(n / (Int.gcd d n : Int)) := by
      rw [Int.neg_one_mul]
      exact Int.neg_ediv_of_dvd (Int.gcd_dvd_right ..)
    rw [e, Int.natAbs_neg]
    exact Int.natAbs_ediv_le_natAbs _ _
  · subst h; simp
  · rw [Int.sign_eq_one_of_pos h, Int.one_mul]
    exact Int.natAbs_ediv_le_natAbs _ _
theorem den_le (n d : Int) (h : d ≠ 0) : (Rat.divInt n d).den ≤ d.natAbs := by
  rw [Rat.den_divInt, if_neg h]
  exact Nat.div_le_self _ _
theorem sz_mk {n d : Int} {b : Nat} (h : d ≠ 0) (k : n.natAbs + d.natAbs ≤ 2 ^ b) : Sz b (Rat.divInt n d) := by
  have h1 := num_le n d
  have h2 := den_le n d h
  unfold Sz
  omega
theorem sz_int {i : Int} {b : Nat} (h : i.natAbs + 1 ≤ 2 ^ b) : Sz b (i : Rat) := h
theorem den_ne (q : Rat) : (q.den : Int) ≠ 0 := by have := q.den_pos; omega
theorem add_eq (x y : Rat) : x + y = Rat.divInt (x.num * y.den + y.num * x.den) (x.den * y.den : Int) := by
  rw [Rat.add_def', ← Rat.divInt_ofNat]
  rfl
theorem sub_eq (x y : Rat) : x - y = Rat.divInt (x.num * y.den - y.num * x.den) (x.den * y.den : Int) := by
  rw [Rat.sub_def', ← Rat.divInt_ofNat]
  rfl
theorem mul_eq (x y : Rat) : x * y = Rat.divInt (x.num * y.num) (x.den * y.den : Int) := by
  rw [Rat.mul_def', ← Rat.divInt_ofNat]
  rfl
theorem div_eq (x y : Rat) : x / y = Rat.divInt (x.num * y.den) (x.den * y.num) := by
  rw [Rat.div_def, Rat.inv_def]
  conv => lhs; lhs; rw [← Rat.num_divInt_den x]
  rw [Rat.divInt_mul_divInt]
theorem prod_bound {a b c d e f g h : Nat} (h1 : a + b ≤ e) (h2 : c + d ≤ f) (hg : g ≤ a * d + c * b) (hh : h ≤ b * d) : g + h ≤ e * f := by
  have : (a + b) * (c + d) ≤ e * f := Nat.mul_le_mul h1 h2
  rw [Nat.add_mul, Nat.mul_add, Nat.mul_add] at this
  rw [Nat.mul_comm b c] at this
  omega
theorem two_pow_add {s t : Nat} : 2 ^ s * 2 ^ t = 2 ^ (s + t) := (Nat.pow_add 2 s t).symm
theorem Sz.add {s t : Nat} {x y : Rat} (hx : Sz s x) (hy : Sz t y) : Sz (s + t) (x + y) := by
  rw [add_eq]
  refine sz_mk (Int.mul_ne_zero (den_ne x) (den_ne y)) ?_
  rw [← two_pow_add]
  refine prod_bound hx hy (g := (x.num * y.den + y.num * x.den).natAbs) (h := (x.den * y.den : Int).natAbs) ?_ ?_
  · refine Nat.le_trans (Int.natAbs_add_le _ _) ?_
    rw [Int.natAbs_mul, Int.natAbs_mul]
    exact Nat.le_refl _
  · rw [Int.natAbs_mul]
    exact Nat.le_refl _
theorem Sz.neg {s : Nat} {x : Rat} (hx : Sz s x) : Sz s (-x) := by
  unfold Sz at *
  rw [Rat.neg_num, Rat.neg_den, Int.natAbs_neg]
  exact hx
theorem Sz.sub {s t : Nat} {x y : Rat} (hx : Sz s x) (hy : Sz t y) : Sz (s + t) (x - y) := by
  rw [Rat.sub_eq_add_neg]
  exact hx.add hy.neg
theorem Sz.mul {s t : Nat} {x y : Rat} (hx : Sz s x) (hy : Sz t y) : Sz (s + t) (x * y) := by
  rw [mul_eq]
  refine sz_mk (Int.mul_ne_zero (den_ne x) (den_ne y)) ?_
  rw [← two_pow_add, Int.natAbs_mul, Int.natAbs_mul]
  have : (x.num.natAbs + x.den) * (y.num.natAbs + y.den) ≤ 2 ^ s * 2 ^ t := Nat.mul_le_mul hx hy
  rw [Nat.add_mul, Nat.mul_add, Nat.mul_add] at this
  have e1 : (x.den : Int).natAbs = x.den := rfl
  have e2 : (y.den : Int).natAbs = y.den := rfl
  rw [e1, e2]
  omega
theorem Sz.inv {s : Nat} {x : Rat} (hx : Sz s x) : Sz s x⁻¹ := by
  by_cases h : x.num = 0
  · have : x = 0 := Rat.num_eq_zero.mp h
    subst this
    rw [Rat.inv_zero]
    exact hx
  · unfold Sz at *
    rw [Rat.num_inv, Rat.den_inv, if_neg h]
    rw [Int.natAbs_mul, Int.natAbs_sign_of_ne_zero h]
    have e1 : (x.den : Int).natAbs = x.den := rfl
    rw [e1]
    omega
theorem Sz.div {s t : Nat} {x y : Rat} (hx : Sz s x) (hy : Sz t y) : Sz (s + t) (x / y) := by
  rw [Rat.div_def]
  exact hx.mul hy.inv
theorem Sz.zero {s : Nat} : Sz s 0 := Nat.one_le_two_pow
theorem Sz.one {s : Nat} (h : 1 ≤ s) : Sz s 1 := by
  have : 2 ^ 1 ≤ 2 ^ s := Nat.pow_le_pow_right (by decide) h
  exact this
theorem lg_le {b a : Nat} (h : a ≤ 2 ^ b) : a.log2 ≤ b := by
  rcases Nat.eq_zero_or_pos a with rfl | ha
  · rw [Nat.log2_zero]; exact Nat.zero_le _
  · have := Nat.log2_self_le (Nat.ne_of_gt ha)
    exact (Nat.pow_le_pow_iff_right (by decide)).mp (Nat.le_trans this h)
/-- * of the parts of two Ratios -/
theorem log_of {s t : Nat} {x y : Rat} (hx : Sz s x) (hy : Sz t y) (h : s + t ≤ 8000) : x.num.natAbs.log2 + y.den.log2 < 100000000 ∧ y.num.natAbs.log2 + x.den.log2 < 100000000 ∧ x.den.log2 + y.den.log2 < 100000000 ∧ x.num.natAbs.log2 + y.num.natAbs.log2 < 100000000 := by
  have h1 := lg_le (Nat.le_of_lt hx.num)
  have h2 := lg_le (Nat.le_of_lt hy.num)
  have h3 := lg_le hx.den
  have h4 := lg_le hy.den
  omega
theorem den_small {s t : Nat} {x y : Rat} (hx : Sz s x) (hy : Sz t y) (h : s + t ≤ 8000) : (x.den * y.den : Int).natAbs < 2 ^ 8990 := by
  rw [Int.natAbs_mul]
  have h1 : (x.den : Int).natAbs * (y.den : Int).natAbs ≤ 2 ^ s * 2 ^ t := Nat.mul_le_mul hx.den hy.den
  rw [two_pow_add] at h1
  exact Nat.lt_of_le_of_lt h1 (Nat.pow_lt_pow_right (by decide) (by omega))
/-! ## the greatest common divisor by remainders -/
theorem log_lt {i : Int} {k : Nat} (h : i.natAbs < 2 ^ k) (hk : 0 < k) : i.natAbs.log2 < k := small_log h hk
theorem mod_half {x y : Nat} (hy : 0 < y) (hxy : y ≤ x) : 2 * (x % y) < 2 * x ∧ 2 * (x % y) ≤ x := by
  have h1 : x % y < y := Nat.mod_lt _ hy
  have h2 := Nat.div_add_mod x y
  have h3 : 1 ≤ x / y := Nat.div_pos hxy hy
  have h4 : y * 1 ≤ y * (x / y) := Nat.mul_le_mul_left y h3
  omega
def gcdE : Ex := (.cmp .gt (.var 1) (.con (.int 0)))
def gcdB : Sms := (.cons (.par2 0 1 (.var 1) (.bin .mod (.var 0) (.var 1))) .nil)
section
variable {P : Prg} {cf : CF} {w : Nat}
theorem gcd_turn {m x y : Nat} (hy : 0 < y) : whlL (whC P cf gcdE) (whB P cf w gcdB) (m + 1) [.sh (.int x), .sh (.int y)] = whlL (whC P cf gcdE) (whB P cf w gcdB) m [.sh (.int y), .sh (.int ((x % y : Nat) : Int))] := by
  have p : (0 : Int) < (y : Int) := by omega
  have e1 : whC P cf gcdE [.sh (.int x), .sh (.int y)] = .ok (true, [.sh (.int x), .sh (.int y)]) := by simp [whC, gcdE, cmpD, hy]
  have e2 : whB P cf w gcdB [.sh (.int x), .sh (.int y)] = .ok (.nx, [.sh (.int y), .sh (.int ((x % y : Nat) : Int))]) := by simp [whB, gcdB, binD, hy]
  simp only [whlL, e1, e2, bnd_ok]
theorem gcd_end {m x : Nat} : whlL (whC P cf gcdE) (whB P cf w gcdB) (m + 1) [.sh (.int x), .sh (.int ((0 : Nat) : Int))] = .ok (.nx, [.sh (.int x), .sh (.int 0)]) := by
  simp [whlL, whC, gcdE, cmpD]
theorem gcd_loop : ∀ (k m x y : Nat), y < 2 ^ k → 2 * k + 1 ≤ m → whlL (whC P cf gcdE) (whB P cf w gcdB) m [.sh (.int x), .sh (.int y)] = .ok (.nx, [.sh (.int (Nat.gcd x y)), .sh (.int 0)])
  | 0, m, x, y, h, hm => by
    have : y = 0 := by simpa using h
    subst this
    obtain ⟨m', rfl⟩ : ∃ m', m = m' + 1 := ⟨m - 1, by omega⟩
    rw [gcd_end, Nat.gcd_zero_right]
  | k + 1, m, x, y, h, hm => by
    obtain ⟨m', rfl⟩ : ∃ m', m = m' + 2 + 1 := ⟨m - 3, by omega⟩
    rcases Nat.eq_zero_or_pos y with rfl | hy
    · rw [gcd_end, Nat.gcd_zero_right]
    · rw [show m' + 2 + 1 = (m' + 1 + 1) + 1 by omega, gcd_turn hy]
      have hr : x % y < y := Nat.mod_lt _ hy
      rcases Nat.eq_zero_or_pos (x % y) with hz | hp
      · rw [hz, gcd_end]
        have : Nat.gcd x y = y := Nat.gcd_eq_right (Nat.dvd_of_mod_eq_zero hz)
        rw [this]
      · rw [gcd_turn hp]
        have h2 := (mod_half hp (Nat.le_of_lt hr)).2
        have h3 : y % (x % y) < 2 ^ k := by
          rw [Nat.pow_succ] at h
          omega
        rw [gcd_loop k (m' + 1) (x % y) (y % (x % y)) h3 (by omega)]
        have e : Nat.gcd x y = Nat.gcd (x % y) (y % (x % y)) := by
          rw [Nat.gcd_comm x y, Nat.gcd_rec y x, Nat.gcd_rec (x % y) y, Nat.gcd_comm (y % (x % y))]
        rw [e]
end
end PV
set_option Elab.async false
set_option linter.all false
set_option maxRecDepth 100000
set_option maxHeartbeats 4000000
namespace PV
open PySem L2
/-! ## sums -/
def sumTo : Nat → (Nat → Rat) → Rat
  | 0, _ => 0
  | n + 1, f => sumTo n f + f n
theorem sumTo_congr {f g : Nat → Rat} : ∀ {n : Nat}, (∀ i, i < n → f i = g i) → sumTo n f = sumTo n g
  | 0, _ => rfl
  | n + 1, h => by
    unfold sumTo
    rw [sumTo_congr fun i hi => h i (by omega), h n (by omega)]
theorem sumTo_zero {f : Nat → Rat} : ∀ {n : Nat}, (∀ i, i < n → f i = 0) → sumTo n f = 0
  | 0, _ => rfl
  | n + 1, h => by
    unfold sumTo
    rw [sumTo_zero fun i hi => h i (by omega), h n (by omega), Rat.add_zero]
theorem sumTo_add {f g : Nat → Rat} : ∀ n : Nat, sumTo n (fun i => f i + g i) = sumTo n f + sumTo n g
  | 0 => by rw [sumTo, sumTo, sumTo, Rat.add_zero]
  | n + 1 => by
    unfold sumTo
    rw [sumTo_add n]
    grind
theorem sumTo_mul {f : Nat → Rat} {c : Rat} : ∀ n : Nat, sumTo n (fun i => f i * c) = sumTo n f * c
  | 0 => by rw [sumTo, sumTo, Rat.zero_mul]
  | n + 1 => by
    unfold sumTo
    rw [sumTo_mul n]
    grind
theorem sumTo_mulL {f : Nat → Rat} {c : Rat} (n : Nat) : sumTo n (fun i => c * f i) = c * sumTo n f := by
  rw [Rat.mul_comm c, ← sumTo_mul]
  exact sumTo_congr fun i _ => Rat.mul_comm _ _
theorem sumTo_shift {f : Nat → Rat} : ∀ n : Nat, sumTo (n + 1) f = f 0 + sumTo n (fun i => f (i + 1))
  | 0 => by simp [sumTo, Rat.add_comm]
  | n + 1 => by
    rw [sumTo, sumTo_shift n, sumTo]
    grind
theorem sumTo_ext {f : Nat → Rat} {n : Nat} : ∀ {m : Nat}, n ≤ m → (∀ i, n ≤ i → i < m → f i = 0) → sumTo m f = sumTo n f
  | 0, h, _ => by
    have : n = 0 := by omega
    subst this; rfl
  | m + 1, h, k => by
    by_cases e : n = m + 1
    · subst e; rfl
    · rw [sumTo, k m (by omega) (by omega), Rat.add_zero, sumTo_ext (by omega) fun i h1 h2 => k i h1 (by omega)]
theorem Sz.sum {f : Nat → Rat} {b : Nat} : ∀ {n : Nat}, (∀ i, i < n → Sz b (f i)) → Sz (n * b) (sumTo n f)
  | 0, _ => Sz.zero
  | n + 1, h => by
    rw [Nat.succ_mul]
    exact (Sz.sum fun i hi => h i (by omega)).add (h n (by omega))
/-! ## rows of Ratios, polynomials -/
def cf (p : List Rat) (i : Nat) : Rat := p.getD i 0
def SzL (b : Nat) (p : List Rat) : Prop := ∀ x ∈ p, Sz b x
def pD (p : List Rat) : D := .tup (p.map rD)
theorem cf_out {p : List Rat} {i : Nat} (h : p.length ≤ i) : cf p i = 0 := by
  unfold cf
  rw [List.getD_eq_getElem?_getD, List.getElem?_eq_none h]
  rfl
theorem cf_in {p : List Rat} {i : Nat} (h : i < p.length) : cf p i = p[i] := by
  unfold cf
  rw [List.getD_eq_getElem?_getD, List.getElem?_eq_getElem h]
  rfl
theorem SzL.cf {b : Nat} {p : List Rat} (h : SzL b p) (i : Nat) : Sz b (PV.cf p i) := by
  by_cases hi : i < p.length
  · rw [cf_in hi]; exact h _ (List.getElem_mem _)
  · rw [cf_out (by omega)]; exact Sz.zero
theorem cf_range {f : Nat → Rat} {n i : Nat} : cf ((List.range n).map f) i = if i < n then f i else 0 := by
  by_cases h : i < n
  · rw [if_pos h, cf_in (by simpa using h)]
    simp
  · rw [if_neg h, cf_out (by simp; omega)]
theorem cf_map {f : Rat → Rat} {p : List Rat} {i : Nat} (h : f 0 = 0) : cf (p.map f) i = f (cf p i) := by
  by_cases hi : i < p.length
  · rw [cf_in (by simpa using hi), cf_in hi]
    simp
  · rw [cf_out (by simp; omega), cf_out (by omega), h]
theorem SzL.mono {a b : Nat} {p : List Rat} (h : SzL a p) (k : a ≤ b) : SzL b p := fun x hx => (h x hx).mono k
theorem szL_range {f : Nat → Rat} {n b : Nat} (h : ∀ i, i < n → Sz b (f i)) : SzL b ((List.range n).map f) := fun x hx => by
  obtain ⟨i, hi, rfl⟩ := List.mem_map.mp hx
  exact h i (List.mem_range.mp hi)
theorem range_cf (p : List Rat) : (List.range p.length).map (cf p) = p := by
  apply List.ext_getElem (by simp)
  intro i h1 h2
  simp only [List.getElem_map, List.getElem_range]
  exact cf_in h2
theorem range_rD (p : List Rat) : p.map rD = (List.range p.length).map fun i => rD (cf p i) := by
  conv => lhs; rw [← range_cf p]
  rw [List.map_map]
  rfl
/-- the size without the zeros at the end -/
def tz (l : List Rat) : Nat → Nat
  | 0 => 0
  | k + 1 => if cf l k = 0 then tz l k else k + 1
def trim (l : List Rat) : List Rat := l.take (tz l l.length)
theorem tz_le {l : List Rat} : ∀ k, tz l k ≤ k
  | 0 => Nat.le_refl _
  | k + 1 => by
    unfold tz
    split
    · exact Nat.le_succ_of_le (tz_le k)
    · exact Nat.le_refl _
theorem tz_zero {l : List Rat} : ∀ k i, tz l k ≤ i → i < k → cf l i = 0
  | 0, i, _, h => by omega
  | k + 1, i, h1, h2 => by
    unfold tz at h1
    split at h1
    · rename_i e
      by_cases q : i = k
      · rw [q]; exact e
      · exact tz_zero k i h1 (by omega)
    · omega
theorem tz_last {l : List Rat} : ∀ k m, tz l k = m + 1 → cf l m ≠ 0
  | 0, m, h => by simp [tz] at h
  | k + 1, m, h => by
    unfold tz at h
    split at h
    · exact tz_last k m h
    · rename_i e
      have : k = m := by omega
      rw [← this]; exact e
theorem trim_length {l : List Rat} : (trim l).length = tz l l.length := by
  unfold trim
  rw [List.length_take]
  exact Nat.min_eq_left (tz_le _)
theorem trim_le {l : List Rat} : (trim l).length ≤ l.length := by
  rw [trim_length]; exact tz_le _
theorem cf_trim {l : List Rat} {i : Nat} : cf (trim l) i = cf l i := by
  by_cases h : i < (trim l).length
  · have h2 := trim_le (l := l)
    rw [cf_in h, cf_in (by omega)]
    unfold trim
    exact List.getElem_take ..
  · rw [cf_out (by omega)]
    by_cases q : i < l.length
    · rw [trim_length] at h
      exact (tz_zero _ i (by omega) q).symm
    · rw [cf_out (by omega)]
/-- no zero at the end -/
def Norm (p : List Rat) : Prop := ∀ m, p.length = m + 1 → cf p m ≠ 0
theorem trim_norm {l : List Rat} : Norm (trim l) := fun m h => by
  rw [cf_trim]
  rw [trim_length] at h
  exact tz_last _ m h
theorem norm_nil : Norm [] := fun m h => by cases h
theorem norm_ext {a b : List Rat} (ha : Norm a) (hb : Norm b) (h : ∀ i, cf a i = cf b i) : a = b := by
  have l : a.length = b.length := by
    rcases Nat.lt_trichotomy a.length b.length with q | q | q
    · obtain ⟨m, hm⟩ : ∃ m, b.length = m + 1 := ⟨b.length - 1, by omega⟩
      exact absurd ((h m).symm.trans (cf_out (by omega))) (hb m hm)
    · exact q
    · obtain ⟨m, hm⟩ : ∃ m, a.length = m + 1 := ⟨a.length - 1, by omega⟩
      exact absurd ((h m).trans (cf_out (by omega))) (ha m hm)
  apply List.ext_getElem l
  intro i h1 h2
  rw [← cf_in h1, ← cf_in h2, h i]
theorem trim_ext {a b : List Rat} (h : ∀ i, cf a i = cf b i) : trim a = trim b := norm_ext trim_norm trim_norm fun i => by rw [cf_trim, cf_trim, h i]
theorem trim_id {p : List Rat} (h : Norm p) : trim p = p := norm_ext trim_norm h fun i => cf_trim
theorem SzL.trim {b : Nat} {p : List Rat} (h : SzL b p) : SzL b (PV.trim p) := fun x hx => h x (List.mem_of_mem_take hx)
/-! ### operations -/
def adL (p q : List Rat) : List Rat := (List.range (max p.length q.length)).map fun i => cf p i + cf q i
def addP (p q : List Rat) : List Rat := trim (adL p q)
def sclP (p : List Rat) (c : Rat) : List Rat := trim (p.map (· * c))
def cv (p q : List Rat) (j : Nat) : Rat := sumTo p.length fun i => if i ≤ j then cf p i * cf q (j - i) else 0
def mulP (p q : List Rat) : List Rat := trim ((List.range (p.length + q.length - 1)).map (cv p q))
def valP (p : List Rat) (x : Rat) : Rat := p.foldr (fun c v => v * x + c) 0
def derP (p : List Rat) : List Rat := trim ((List.range (p.length - 1)).map fun i => cf p (i + 1) * ((i + 1 : Nat) : Rat))
theorem cf_add {p q : List Rat} {i : Nat} : cf (addP p q) i = cf p i + cf q i := by
  unfold addP adL
  rw [cf_trim, cf_range]
  split
  · rfl
  · rw [cf_out (p := p) (by omega), cf_out (p := q) (by omega), Rat.add_zero]
theorem cf_scl {p : List Rat} {c : Rat} {i : Nat} : cf (sclP p c) i = cf p i * c := by
  unfold sclP
  rw [cf_trim, cf_map (f := (· * c)) (Rat.zero_mul c)]
theorem cf_der {p : List Rat} {i : Nat} : cf (derP p) i = cf p (i + 1) * ((i + 1 : Nat) : Rat) := by
  unfold derP
  rw [cf_trim, cf_range]
  split
  · rfl
  · rw [cf_out (p := p) (by omega), Rat.zero_mul]
theorem cv_out {p q : List Rat} {j : Nat} (h : p.length + q.length - 1 ≤ j) : cv p q j = 0 := by
  unfold cv
  refine sumTo_zero fun i hi => ?_
  split
  · rw [cf_out (p := q) (by omega), Rat.mul_zero]
  · rfl
theorem cf_mul {p q : List Rat} {j : Nat} : cf (mulP p q) j = cv p q j := by
  unfold mulP
  rw [cf_trim, cf_range]
  split
  · rfl
  · rw [cv_out (by omega)]
/-- the product's items by any bound -/
theorem cv_eq {p q : List Rat} {j n : Nat} (h : min p.length (j + 1) ≤ n) : cv p q j = sumTo n fun i => if i ≤ j then cf p i * cf q (j - i) else 0 := by
  unfold cv
  have z : ∀ i, min p.length (j + 1) ≤ i → (if i ≤ j then cf p i * cf q (j - i) else 0) = 0 := fun i hi => by
    split
    · rw [cf_out (p := p) (by omega), Rat.zero_mul]
    · rfl
  rw [sumTo_ext (f := fun i => if i ≤ j then cf p i * cf q (j - i) else 0) (n := min p.length (j + 1)) (m := p.length) (by omega) fun i h1 _ => z i h1,
    sumTo_ext (f := fun i => if i ≤ j then cf p i * cf q (j - i) else 0) (n := min p.length (j + 1)) (m := n) h fun i h1 _ => z i h1]
theorem SzL.add {s t : Nat} {p q : List Rat} (hp : SzL s p) (hq : SzL t q) : SzL (s + t) (addP p q) := SzL.trim (szL_range fun i _ => (hp.cf i).add (hq.cf i))
theorem SzL.scl {s t : Nat} {p : List Rat} {c : Rat} (hp : SzL s p) (hc : Sz t c) : SzL (s + t) (sclP p c) := SzL.trim fun x hx => by
  obtain ⟨y, hy, rfl⟩ := List.mem_map.mp hx
  exact (hp y hy).mul hc
theorem Sz.cv {s t : Nat} {p q : List Rat} (hp : SzL s p) (hq : SzL t q) (j : Nat) : Sz (p.length * (s + t)) (PV.cv p q j) := Sz.sum fun i _ => by
  split
  · exact (hp.cf i).mul (hq.cf _)
  · exact Sz.zero
theorem SzL.mul {s t : Nat} {p q : List Rat} (hp : SzL s p) (hq : SzL t q) : SzL (p.length * (s + t)) (mulP p q) := SzL.trim (szL_range fun i _ => Sz.cv hp hq i)
theorem sz_nat {k b : Nat} (h : k + 1 ≤ 2 ^ b) : Sz b (k : Rat) := h
theorem len_add {p q : List Rat} : (addP p q).length ≤ max p.length q.length := by
  have := trim_le (l := adL p q)
  unfold addP
  unfold adL at this ⊢
  simpa using this
theorem len_scl {p : List Rat} {c : Rat} : (sclP p c).length ≤ p.length := by
  have := trim_le (l := p.map (· * c))
  unfold sclP
  simpa using this
theorem len_mul {p q : List Rat} : (mulP p q).length ≤ p.length + q.length - 1 := by
  have := trim_le (l := (List.range (p.length + q.length - 1)).map (cv p q))
  unfold mulP
  simpa using this
theorem len_der {p : List Rat} : (derP p).length ≤ p.length - 1 := by
  have := trim_le (l := (List.range (p.length - 1)).map fun i => cf p (i + 1) * ((i + 1 : Nat) : Rat))
  unfold derP
  simpa using this
theorem valP_cons {c : Rat} {p : List Rat} {x : Rat} : valP (c :: p) x = valP p x * x + c := rfl
theorem Sz.val {s t : Nat} {x : Rat} (hx : Sz t x) : ∀ {p : List Rat}, SzL s p → Sz (p.length * (s + t)) (valP p x)
  | [], _ => Sz.zero
  | c :: p, h => by
    rw [valP_cons, List.length_cons, Nat.succ_mul]
    have h1 := Sz.val hx (p := p) fun y hy => h y (List.mem_cons_of_mem _ hy)
    have h2 := (h1.mul hx).add (h c (List.mem_cons_self ..))
    exact h2.mono (by omega)
end PV
set_option Elab.async false
set_option linter.all false
set_option maxRecDepth 100000
set_option maxHeartbeats 4000000
namespace PV
open PySem L2
section
variable {P : Prg} {cf : CF} {w : Nat}
theorem enum_rD (p : List Rat) : enumD 0 (p.map rD) = (List.range p.length).map fun (k : Nat) => .tup [.int (k : Int), rD (PV.cf p k)] := by
  rw [enumD_eq (rD 0) 0 (p.map rD), List.length_map]
  apply List.map_congr_left
  intro k hk
  have hk := List.mem_range.mp hk
  rw [Nat.zero_add, List.getD_eq_getElem?_getD, List.getElem?_map, List.getElem?_eq_getElem hk, cf_in hk]
  rfl
theorem ev_lc_enum {t u : Nat} {e s : Ex} {A : D} {E : Cell → Cell → En} {p : List Rat} (g : Nat → D) {c d : Cell} (hA : items A = some (p.map rD)) (hsrc : evp P cf (.cons s .nil) (E c d) = .ok ([.sh A], E c d))
    (hn : noLk [t, u] (E c d) = true) (hb : ∀ c' d', back (E c d) [t, u] (E c' d') = E c d) (hw : ∀ c d, wipeE (E c d) [t, u] = E .un .un) (hs : ∀ x y, setAll [t, u] [x, y] (E .un .un) = .ok (E (.sh x) (.sh y)))
    (hl : p.length < 16000000)
    (step : ∀ k, k < p.length → ∃ v, ev P cf e (E (.sh (.int (k : Int))) (.sh (rD (PV.cf p k)))) = .ok (v, E (.sh (.int (k : Int))) (.sh (rD (PV.cf p k)))) ∧ esc v (E (.sh (.int (k : Int))) (.sh (rD (PV.cf p k)))) = .ok (g k, E (.sh (.int (k : Int))) (.sh (rD (PV.cf p k))))) :
    ev P cf (.lc (.enum (.cons s .nil)) (.tp [t, u]) e) (E c d) = .ok (.ow ((List.range p.length).map g), E c d) := by
  obtain ⟨c', d', h⟩ := lc_map2 (P := P) (cf := cf) (r := fun k : Nat => D.int (k : Int)) (q := fun k => rD (PV.cf p k)) (g := g) (e := e) hw hs (List.range p.length) [] c d (fun k hk => step k (List.mem_range.mp hk)) (by simpa using hl)
  rw [← enum_rD, List.nil_append] at h
  have hs2 : src P cf (.enum (.cons s .nil)) (E c d) = .ok ((enumD 0 (p.map rD), []), E c d) := by
    rw [src_enum, hsrc, bnd_ok]
    show bnd (bnd (pk (.sh A) (E c d)) fun d σ => bnd (pks [] σ) fun ds σ => .ok (d :: ds, σ)) _ = _
    rw [pk_sh, bnd_ok, pks_nil, bnd_ok, bnd_ok]
    simp [hA]
  rw [ev_lc, hs2, show (Tgt.tp [t, u]).slots = [t, u] from rfl, lcR_free hn h, hb]
theorem ev_lc_seq {α : Type} {t : Nat} {e s : Ex} {A : D} {E : Cell → En} {xs : List α} (r g : α → D) {c : Cell} (hA : items A = some (xs.map r)) (hsrc : ev P cf s (E c) = .ok (.sh A, E c))
    (hn : noLk [t] (E c) = true) (hb : ∀ c', back (E c) [t] (E c') = E c) (hw : ∀ c, wipeE (E c) [t] = E .un) (hs : ∀ x, setc t (.sh x) (E .un) = .ok (E (.sh x)))
    (hl : xs.length < 16000000) (step : ∀ x ∈ xs, ∃ v, ev P cf e (E (.sh (r x))) = .ok (v, E (.sh (r x))) ∧ esc v (E (.sh (r x))) = .ok (g x, E (.sh (r x)))) :
    ev P cf (.lc (.seq s) (.v t) e) (E c) = .ok (.ow (xs.map g), E c) := by
  obtain ⟨c', h⟩ := lc_map (P := P) (cf := cf) (r := r) (g := g) (e := e) hw hs xs [] c step (by simpa using hl)
  rw [List.nil_append] at h
  have hs2 : src P cf (.seq s) (E c) = .ok ((xs.map r, []), E c) := by
    rw [src_seq, hsrc, bnd_ok, hold_sh, pk_sh, bnd_ok, hA]
    rfl
  rw [ev_lc, hs2, show (Tgt.v t).slots = [t] from rfl, lcR_free hn h, hb]
/-- a range as the source -/
theorem ev_lc_rng {t : Nat} {e : Ex} {es : Exs} {E : Cell → En} {c : Cell} {ds : List D} {lo : Int} {k : Nat} (g : Nat → D) (h : evs P cf es (E c) = .ok (ds, E c)) (hr : rngA ds = some ((List.range k).map fun (i : Nat) => D.int (lo + i)))
    (hn : noLk [t] (E c) = true) (hb : ∀ c', back (E c) [t] (E c') = E c) (hw : ∀ c, wipeE (E c) [t] = E .un) (hs : ∀ x, setc t (.sh x) (E .un) = .ok (E (.sh x)))
    (hl : k < 16000000) (step : ∀ i, i < k → ∃ v, ev P cf e (E (.sh (.int (lo + i)))) = .ok (v, E (.sh (.int (lo + i)))) ∧ esc v (E (.sh (.int (lo + i)))) = .ok (g i, E (.sh (.int (lo + i))))) :
    ev P cf (.lc (.rng es) (.v t) e) (E c) = .ok (.ow ((List.range k).map g), E c) := by
  obtain ⟨c', h2⟩ := lc_map (P := P) (cf := cf) (r := fun (i : Nat) => D.int (lo + i)) (g := g) (e := e) hw hs (List.range k) [] c (fun i hi => step i (List.mem_range.mp hi)) (by simpa using hl)
  rw [List.nil_append] at h2
  rw [ev_lc, src_rng, h, bnd_ok, hr, show (Tgt.v t).slots = [t] from rfl, lcR_free hn h2, hb]
/-- a loop whose source locks nothing -/
theorem for_free {t : Tgt} {s : Src} {b : Sms} {σ σ1 σ' : En} {xs : List D} (h : src P cf s σ = .ok ((xs, []), σ1)) (e : forL (forF P cf w t b) xs σ1 = .ok (.nx, σ')) : exS P cf w (.for t s b) σ = .ok (.nx, σ') := by
  rw [exS_for, h, forR_ok]
  show bnd (forL (forF P cf w t b) xs σ1) (fun r σ2 => .ok (r, σ2)) = _
  rw [e]
  rfl
theorem src_sh {s : Ex} {A : D} {xs : List D} {σ σ' : En} (h : ev P cf s σ = .ok (.sh A, σ')) (hA : items A = some xs) : src P cf (.seq s) σ = .ok ((xs, []), σ') := by
  rw [src_seq, h, bnd_ok, hold_sh, pk_sh, bnd_ok, hA]
  rfl
theorem src_enum_sh {s : Ex} {A : D} {p : List Rat} {σ σ' : En} (h : evp P cf (.cons s .nil) σ = .ok ([.sh A], σ')) (hA : items A = some (p.map rD)) : src P cf (.enum (.cons s .nil)) σ = .ok (((List.range p.length).map fun (k : Nat) => .tup [.int (k : Int), rD (PV.cf p k)], []), σ') := by
  rw [src_enum, h, bnd_ok]
  show bnd (bnd (pk (.sh A) σ') fun d σ => bnd (pks [] σ) fun ds σ => .ok (d :: ds, σ)) _ = _
  rw [pk_sh, bnd_ok, pks_nil, bnd_ok, bnd_ok, ← enum_rD]
  simp [hA]
/-! ## == of Ratios, rows -/
theorem sameD_rD {x y : Rat} (h : sameD (rD x) (rD y) = true) : x = y := by
  unfold rD at h
  simp only [sameD, sameDs, decide_true, Bool.true_and, Bool.and_true, Bool.and_eq_true, decide_eq_true_eq] at h
  exact Rat.ext h.1 (by omega)
theorem sameDs_rD : ∀ {xs ys : List Rat}, sameDs (xs.map rD) (ys.map rD) = true → xs = ys
  | [], [], _ => rfl
  | [], y :: ys, h => by simp [sameDs] at h
  | x :: xs, [], h => by simp [sameDs] at h
  | x :: xs, y :: ys, h => by
    rw [List.map_cons, List.map_cons, sameDs, Bool.and_eq_true] at h
    rw [sameD_rD h.1, sameDs_rD h.2]
theorem toPD_rD (x : Rat) : toPD (rD x) = none := by unfold rD toPD; rfl
theorem eqChk_of {x y : D} {b : Bool} (h : sameD x y = true → b = true) : eqChk x y (.ok b) = .ok b := by
  unfold eqChk
  show (if sameD x y = true ∧ b = false then R.stuck else .ok b) = _
  rw [if_neg]
  rintro ⟨h1, h2⟩
  rw [h h1] at h2
  cases h2
/-- what the own == of Ratios tells -/
def EqR (P : Prg) (cf : CF) : Prop := ∀ x y : Rat, eqObj P cf 0 [.int x.num, .int x.den] (rD y) = .ok (decide (x = y))
theorem eqN_rD (H : EqR P cf) (m : Nat) (x y : Rat) : eqN P cf (m + 1) (rD x) (rD y) = .ok (decide (x = y)) := by
  have hp : plainEq (rD x) (rD y) = none := by unfold plainEq; rw [toPD_rD]
  unfold eqN
  rw [hp]
  show eqChk (rD x) (rD y) (eqObj P cf 0 [.int x.num, .int x.den] (rD y)) = _
  rw [H x y]
  exact eqChk_of fun h => decide_eq_true (sameD_rD h)
theorem eqL_rD (H : EqR P cf) (m : Nat) : ∀ xs ys : List Rat, eqL (eqN P cf (m + 1)) (xs.map rD) (ys.map rD) = .ok (decide (xs = ys))
  | [], [] => by simp [eqL]
  | [], y :: ys => by simp [eqL]
  | x :: xs, [] => by simp [eqL]
  | x :: xs, y :: ys => by
    rw [List.map_cons, List.map_cons, eqL, eqN_rD H]
    by_cases h : x = y
    · rw [decide_eq_true h]
      show eqL (eqN P cf (m + 1)) (xs.map rD) (ys.map rD) = _
      rw [eqL_rD H m xs ys]
      congr 1
      subst h
      simp
    · rw [decide_eq_false h]
      show R.ok false = _
      congr 1
      simp [h]
theorem toPDs_rD {xs : List Rat} (h : xs ≠ []) : toPDs (xs.map rD) = none := by
  cases xs with
  | nil => exact absurd rfl h
  | cons x xs => rw [List.map_cons, toPDs, toPD_rD]
theorem eqT_rD (H : EqR P cf) (x y : Rat) : eqT P cf (rD x) (rD y) = .ok (decide (x = y)) := eqN_rD H 5 x y
theorem eqN_pD (H : EqR P cf) (m : Nat) (p q : List Rat) : eqN P cf (m + 2) (pD p) (pD q) = .ok (decide (p = q)) := by
  by_cases hq : p = [] ∧ q = []
  · obtain ⟨rfl, rfl⟩ := hq
    rw [decide_eq_true rfl]
    exact eqN_of (p := .tuple []) (q := .tuple []) rfl rfl (by decide +kernel) (by decide +kernel) (m + 2)
  · have hp : plainEq (pD p) (pD q) = none := by
      unfold plainEq pD
      simp only [toPD]
      by_cases h1 : p = []
      · have h2 : q ≠ [] := fun z => hq ⟨h1, z⟩
        rw [toPDs_rD h2]
        cases toPDs (p.map rD) <;> rfl
      · rw [toPDs_rD h1]
        rfl
    unfold eqN
    rw [hp]
    show eqChk (pD p) (pD q) (eqL (eqN P cf (m + 1)) (p.map rD) (q.map rD)) = _
    rw [eqL_rD H]
    refine eqChk_of fun h => decide_eq_true (sameDs_rD ?_)
    unfold pD at h
    simpa only [sameD] using h
theorem eqN_lD (H : EqR P cf) (m : Nat) (p q : List Rat) : eqN P cf (m + 2) (.lst (p.map rD)) (.lst (q.map rD)) = .ok (decide (p = q)) := by
  by_cases hq : p = [] ∧ q = []
  · obtain ⟨rfl, rfl⟩ := hq
    rw [decide_eq_true rfl]
    exact eqN_of (p := .list []) (q := .list []) rfl rfl (by decide +kernel) (by decide +kernel) (m + 2)
  · have hp : plainEq (.lst (p.map rD)) (.lst (q.map rD)) = none := by
      unfold plainEq
      simp only [toPD]
      by_cases h1 : p = []
      · have h2 : q ≠ [] := fun z => hq ⟨h1, z⟩
        rw [toPDs_rD h2]
        cases toPDs (p.map rD) <;> rfl
      · rw [toPDs_rD h1]
        rfl
    unfold eqN
    rw [hp]
    show eqChk (.lst (p.map rD)) (.lst (q.map rD)) (if (p.map rD).length = (q.map rD).length then eqL (eqN P cf (m + 1)) (p.map rD) (q.map rD) else .ok false) = _
    rw [eqL_rD H]
    by_cases hl : (p.map rD).length = (q.map rD).length
    · rw [if_pos hl]
      refine eqChk_of fun h => decide_eq_true (sameDs_rD ?_)
      simpa only [sameD] using h
    · rw [if_neg hl]
      have hn : p ≠ q := fun z => hl (by rw [z])
      rw [decide_eq_false hn]
      refine eqChk_of fun h => absurd (sameDs_rD ?_) hn
      simpa only [sameD] using h
theorem eqT_lD (H : EqR P cf) (p q : List Rat) : eqT P cf (.lst (p.map rD)) (.lst (q.map rD)) = .ok (decide (p = q)) := eqN_lD H 4 p q
theorem eqT_pD (H : EqR P cf) (p q : List Rat) : eqT P cf (pD p) (pD q) = .ok (decide (p = q)) := eqN_pD H 4 p q
end
end PV
namespace PV
open PySem
theorem forL_idx {f : D → En → R (Fl × En)} {r : Nat → D} {I : Nat → En → Prop} : ∀ (m j : Nat), (∀ i σ, i < j + m → I i σ → ∃ σ', f (r i) σ = .ok (.nx, σ') ∧ I (i + 1) σ') → ∀ σ, I j σ → ∃ σ', forL f ((List.range m).map fun i => r (j + i)) σ = .ok (.nx, σ') ∧ I (j + m) σ'
  | 0, j, _, σ, h => ⟨σ, rfl, h⟩
  | m + 1, j, step, σ, h => by
    obtain ⟨σ', e, h'⟩ := step j σ (by omega) h
    obtain ⟨σ'', e2, h2⟩ := forL_idx m (j + 1) (fun i σ hi => step i σ (by omega)) σ' h'
    refine ⟨σ'', ?_, by rw [show j + (m + 1) = j + 1 + m by omega]; exact h2⟩
    rw [List.range_succ_eq_map, List.map_cons, List.map_map]
    simp only [forL, Nat.add_zero, e, bnd_ok]
    rw [← e2]
    congr 1
    apply List.map_congr_left
    intro x _
    show r (j + (x + 1)) = r (j + 1 + x)
    rw [show j + (x + 1) = j + 1 + x by omega]
/-- a loop over a list told by its places -/
theorem for_idx {f : D → En → R (Fl × En)} {r : Nat → D} (I : Nat → En → Prop) {m : Nat} {σ : En} (h : I 0 σ) (step : ∀ i σ, i < m → I i σ → ∃ σ', f (r i) σ = .ok (.nx, σ') ∧ I (i + 1) σ') : ∃ σ', forL f ((List.range m).map r) σ = .ok (.nx, σ') ∧ I m σ' := by
  have q := forL_idx (f := f) (r := r) (I := I) m 0 (fun i σ hi => step i σ (by omega)) σ h
  simp only [Nat.zero_add] at q
  exact q
end PV
set_option Elab.async false
set_option linter.all false
set_option maxRecDepth 100000
set_option maxHeartbeats 4000000
namespace PV
open PySem L2
/-! ## a function as a run -/
def runM (fa : FArg) (r : R (Fl × En)) : R (Vr × List D) := match r with
  | .ok (.nx, σ) => fin fa (.sh .non) σ
  | .ok (.rt v, σ) => fin fa v σ
  | .exc x => .exc x
  | .stuck => .stuck
@[simp] theorem runM_nx {fa : FArg} {σ : En} : runM fa (.ok (.nx, σ)) = fin fa (.sh .non) σ := id rfl
@[simp] theorem runM_rt {fa : FArg} {v : Vr} {σ : En} : runM fa (.ok (.rt v, σ)) = fin fa v σ := id rfl
@[simp] theorem runM_exc {fa : FArg} {x : Exn} : runM fa (.exc x) = .exc x := id rfl
@[simp] theorem fin_no {v : Vr} {σ : En} : fin .no v σ = .ok (v, []) := id rfl
@[simp] theorem fin_io {ds0 ds : List D} {v : Vr} {σ : En} : fin (.io ds0) v (.io ds :: σ) = .ok (v, ds) := id rfl
theorem fn_run {P : Prg} {w n k : Nat} {fa : FArg} {args : List D} {f : FnI} (h : P.fns[k]? = some f) (ha : nArgs fa args = f.ps.length) : fnEv P w (n + 1) k fa args = runM fa (exSs P (fnEv P w n) w f.body (st0 fa f.N.length args)) := by
  rw [fnEv_succ h]
  unfold runF
  rw [if_pos ha]
  rfl
theorem fn_runE {P : Prg} {w n k : Nat} {fa : FArg} {args : List D} {f : FnI} {σ : En} {r : R (Vr × List D)} (h : P.fns[k]? = some f) (ha : nArgs fa args = f.ps.length) (hs : st0 fa f.N.length args = σ) (hr : runM fa (exSs P (fnEv P w n) w f.body σ) = r) : fnEv P w (n + 1) k fa args = r := by
  rw [fn_run h ha, hs, hr]
/-- a law that ends with True -/
theorem fn_end {P : Prg} {w n k : Nat} {fa : FArg} {args : List D} {f : FnI} {σ : En} {v : Vr} {out : List D} (h : P.fns[k]? = some f) (ha : nArgs fa args = f.ps.length) (hs : st0 fa f.N.length args = σ) (hr : ∃ σ', exSs P (fnEv P w n) w f.body σ = .ok (.rt v, σ') ∧ fin fa v σ' = .ok (v, out)) : fnEv P w (n + 1) k fa args = .ok (v, out) := by
  obtain ⟨σ', e, e2⟩ := hr
  rw [fn_run h ha, hs, e]
  exact e2
/-! ## lists that are written out -/
theorem lcL_cons {f : D → List D → En → R (List D × En)} {d : D} {ds acc : List D} {σ : En} : lcL f (d :: ds) acc σ = bnd (f d acc σ) fun acc' σ' => lcL f ds acc' σ' := id rfl
theorem forL_cons {f : D → En → R (Fl × En)} {d : D} {ds : List D} {σ : En} : forL f (d :: ds) σ = bnd (f d σ) fun r σ' => match r with
    | .nx => forL f ds σ'
    | .rt v => .ok (.rt v, σ') := id rfl
theorem addL_ok {acc : List D} {y : D} {σ : En} : addL acc (.ok (y, σ)) = if acc.length < 16000000 then .ok (acc ++ [y], σ) else .stuck := id rfl
@[simp] theorem wipeE_nil {σ : En} : wipeE σ [] = σ := id rfl
@[simp] theorem wipeE_cons {σ : En} {v : Nat} {vs : List Nat} : wipeE σ (v :: vs) = (wipeE σ vs).set v .un := id rfl
@[simp] theorem back_nil {σ0 σ : En} : back σ0 [] σ = σ := id rfl
@[simp] theorem back_cons {σ0 σ : En} {v : Nat} {vs : List Nat} : back σ0 (v :: vs) σ = (back σ0 vs σ).set v (σ0[v]?.getD .un) := id rfl
section
variable {P : Prg} {cf : CF} {w : Nat}
theorem lcE_eq {t : Tgt} {e : Ex} {d : D} {acc : List D} {σ : En} : lcE P cf t e d acc σ = bnd (lift (setT t d (wipeE σ t.slots)) σ) fun σ' _ => addL acc (bnd (ev P cf e σ') fun v σ => esc v σ) := id rfl
theorem lcC_eq {t : Tgt} {c e : Ex} {d : D} {acc : List D} {σ : En} : lcC P cf t c e d acc σ = bnd (lift (setT t d (wipeE σ t.slots)) σ) fun σ' _ => bnd (bnd (ev P cf c σ') fun v σ => toB v σ) fun b σ => match b with
  | true => addL acc (bnd (ev P cf e σ) fun v σ => esc v σ)
  | false => .ok (acc, σ) := id rfl
theorem forF_eq {t : Tgt} {b : Sms} {d : D} {σ : En} : forF P cf w t b d σ = bnd (lift (setT t d σ) σ) fun σ' _ => exSs P cf w b σ' := id rfl
@[simp] theorem slots_v {i : Nat} : (Tgt.v i).slots = [i] := id rfl
@[simp] theorem slots_tp {is : List Nat} : (Tgt.tp is).slots = is := id rfl
/-! ## comprehensions over lists that are told by items -/
theorem set_own {σ : En} {t : Nat} {c : Cell} (h : σ[t]? = some c) : σ.set t c = σ := by
  apply List.ext_getElem?
  intro i
  rw [List.getElem?_set]
  split
  · rename_i e
    subst e
    have : t < σ.length := by
      rcases Nat.lt_or_ge t σ.length with q | q
      · exact q
      · rw [List.getElem?_eq_none q] at h; cases h
    rw [if_pos this, h]
  · rfl
theorem noLk_one {σ : En} {t : Nat} {c : Cell} (h : σ[t]? = some c) (hc : asg c = true) : noLk [t] σ = true := by
  simp only [noLk_eq, List.all_cons, List.all_nil, Bool.and_true, h]
  cases c <;> first | rfl | cases hc
theorem len_of {σ : En} {t : Nat} {c : Cell} (h : σ[t]? = some c) : t < σ.length := by
  rcases Nat.lt_or_ge t σ.length with q | q
  · exact q
  · rw [List.getElem?_eq_none q] at h; cases h
theorem setc_un {σ : En} {t : Nat} {c x : Cell} (h : σ[t]? = some c) : setc t x (σ.set t .un) = .ok (σ.set t x) := by
  have l := len_of h
  rw [setc_ok (by rw [List.getElem?_set_self l]; rfl), List.set_set]
theorem lc_seq {α : Type} (r g : α → D) {t : Nat} {e : Ex} {s : Src} {σ : En} {c : Cell} {xs : List α} (hs : src P cf s σ = .ok ((xs.map r, []), σ)) (ht : σ[t]? = some c) (hc : asg c = true) (hl : xs.length < 16000000)
    (step : ∀ x ∈ xs, ev P cf e (σ.set t (.sh (r x))) = .ok (.sh (g x), σ.set t (.sh (r x)))) : ev P cf (.lc s (.v t) e) σ = .ok (.ow (xs.map g), σ) := by
  obtain ⟨c', h⟩ := lc_map (P := P) (cf := cf) (r := r) (g := g) (e := e) (E := fun c => σ.set t c) (fun c => by simp) (fun x => setc_un ht) xs [] c (fun x hx => ⟨_, step x hx, rfl⟩) (by simpa using hl)
  simp only [set_own ht, List.nil_append] at h
  rw [ev_lc, hs, slots_v, lcR_free (noLk_one ht hc) h]
  simp [ht, set_own ht]
theorem lcL_filter {α : Type} {r g : α → D} {b : α → Bool} {t : Nat} {k e : Ex} {E : Cell → En} (hw : ∀ c, wipeE (E c) [t] = E .un) (hs : ∀ x, setc t (.sh x) (E .un) = .ok (E (.sh x))) : ∀ (xs : List α) (acc : List D) (c : Cell),
    (∀ x ∈ xs, ev P cf k (E (.sh (r x))) = .ok (.sh (.bl (b x)), E (.sh (r x))) ∧ (b x = true → ev P cf e (E (.sh (r x))) = .ok (.sh (g x), E (.sh (r x))))) → acc.length + xs.length < 16000000 →
    ∃ c', lcL (lcC P cf (.v t) k e) (xs.map r) acc (E c) = .ok (acc ++ (xs.filter b).map g, E c')
  | [], acc, c, h, hl => ⟨c, by simp [lcL]⟩
  | x :: xs, acc, c, h, hl => by
    rw [List.length_cons] at hl
    obtain ⟨h1, h2⟩ := h x (List.mem_cons_self ..)
    cases hb : b x with
    | true =>
      have e1 : lcC P cf (.v t) k e (r x) acc (E c) = .ok (acc ++ [g x], E (.sh (r x))) := by
        rw [lcC_eq, slots_v, hw, setT_v, hs]
        show bnd (bnd (ev P cf k (E (.sh (r x)))) _) _ = _
        rw [h1, bnd_ok, toB_sh, bnd_ok, hb]
        show addL acc (bnd (ev P cf e (E (.sh (r x)))) _) = _
        rw [h2 hb, bnd_ok, esc_sh, addL_ok, if_pos (by omega)]
      obtain ⟨c', e2⟩ := lcL_filter hw hs xs (acc ++ [g x]) (.sh (r x)) (fun y hy => h y (List.mem_cons_of_mem _ hy)) (by simp; omega)
      refine ⟨c', ?_⟩
      rw [List.map_cons, lcL_cons, e1, bnd_ok, e2, List.filter_cons, if_pos hb, List.append_assoc]
      rfl
    | false =>
      have e1 : lcC P cf (.v t) k e (r x) acc (E c) = .ok (acc, E (.sh (r x))) := by
        rw [lcC_eq, slots_v, hw, setT_v, hs]
        show bnd (bnd (ev P cf k (E (.sh (r x)))) _) _ = _
        rw [h1, bnd_ok, toB_sh, bnd_ok, hb]
      obtain ⟨c', e2⟩ := lcL_filter hw hs xs acc (.sh (r x)) (fun y hy => h y (List.mem_cons_of_mem _ hy)) (by omega)
      refine ⟨c', ?_⟩
      rw [List.map_cons, lcL_cons, e1, bnd_ok, e2, List.filter_cons, if_neg (by rw [hb]; decide)]
theorem lcf_seq {α : Type} (r g : α → D) (b : α → Bool) {t : Nat} {k e : Ex} {s : Src} {σ : En} {c : Cell} {xs : List α} (hs : src P cf s σ = .ok ((xs.map r, []), σ)) (ht : σ[t]? = some c) (hc : asg c = true) (hl : xs.length < 16000000)
    (step : ∀ x ∈ xs, ev P cf k (σ.set t (.sh (r x))) = .ok (.sh (.bl (b x)), σ.set t (.sh (r x))) ∧ (b x = true → ev P cf e (σ.set t (.sh (r x))) = .ok (.sh (g x), σ.set t (.sh (r x))))) : ev P cf (.lcf s (.v t) k e) σ = .ok (.ow ((xs.filter b).map g), σ) := by
  obtain ⟨c', h⟩ := lcL_filter (P := P) (cf := cf) (r := r) (g := g) (b := b) (k := k) (e := e) (E := fun c => σ.set t c) (fun c => by simp) (fun x => setc_un ht) xs [] c step (by simpa using hl)
  simp only [set_own ht, List.nil_append] at h
  rw [ev_lcf, hs, slots_v, lcR_free (noLk_one ht hc) h]
  simp [ht, set_own ht]
theorem lc_two {α : Type} (r q g : α → D) {t u : Nat} {e : Ex} {s : Src} {σ : En} {c d : Cell} {xs : List α} (hs : src P cf s σ = .ok ((xs.map fun x => .tup [r x, q x], []), σ)) (ht : σ[t]? = some c) (hc : asg c = true) (hu : σ[u]? = some d) (hd : asg d = true) (htu : t ≠ u) (hl : xs.length < 16000000)
    (step : ∀ x ∈ xs, ev P cf e ((σ.set t (.sh (r x))).set u (.sh (q x))) = .ok (.sh (g x), (σ.set t (.sh (r x))).set u (.sh (q x)))) : ev P cf (.lc s (.tp [t, u]) e) σ = .ok (.ow (xs.map g), σ) := by
  have lt := len_of ht
  have lu := len_of hu
  obtain ⟨c', d', h⟩ := lc_map2 (P := P) (cf := cf) (t := t) (u := u) (r := r) (q := q) (g := g) (e := e) (E := fun c d => (σ.set t c).set u d) (fun c d => by
      simp only [wipeE_cons, wipeE_nil, List.set_set]
      rw [List.set_comm _ _ (Ne.symm htu), List.set_set]) (fun x y => by
      have h1 : ((σ.set t .un).set u .un)[t]? = some .un := by
        rw [List.getElem?_set_ne (Ne.symm htu), List.getElem?_set_self lt]
      rw [setAll_cons, setc_ok (by rw [h1]; rfl)]
      show setAll [u] [y] _ = _
      rw [setAll_cons, setc_ok (by rw [List.getElem?_set_ne htu, List.getElem?_set_self (by simpa using lu)]; rfl)]
      show R.ok _ = _
      congr 1
      rw [List.set_comm _ _ (Ne.symm htu), List.set_set, List.set_set]) xs [] c d (fun x hx => ⟨_, step x hx, rfl⟩) (by simpa using hl)
  simp only [set_own ht, set_own hu, List.nil_append] at h
  have hn : noLk [t, u] σ = true := by
    have h1 := noLk_one ht hc
    have h2 := noLk_one hu hd
    simp only [noLk_eq, List.all_cons, List.all_nil, Bool.and_true] at h1 h2 ⊢
    rw [h1, h2]; rfl
  rw [ev_lc, hs, slots_tp, lcR_free hn h]
  simp only [back_cons, back_nil, ht, hu, Option.getD_some]
  congr 2
  rw [List.set_set, List.set_comm _ _ htu, List.set_set, set_own hu, set_own ht]
/-! ## sources -/
theorem src_at {s : Ex} {A : D} {xs : List D} {σ : En} (h : ev P cf s σ = .ok (.sh A, σ)) (hA : items A = some xs) : src P cf (.seq s) σ = .ok ((xs, []), σ) := src_sh h hA
theorem src_fresh {s : Ex} {xs : List D} {σ : En} (h : ev P cf s σ = .ok (.ow xs, σ)) : src P cf (.seq s) σ = .ok ((xs, []), σ) := by
  rw [src_seq, h, bnd_ok, hold_ow, pk_sh, bnd_ok, items_lst]
  rfl
theorem src_range1 {es : Exs} {σ : En} {i : Int} (k : Nat) (h : evs P cf es σ = .ok ([.int i], σ)) (hi : i.toNat = k) (hk : k < 1000000) (h0 : -1000000 < i := by omega) : src P cf (.rng es) σ = .ok (((List.range k).map fun (i : Nat) => D.int (i : Int), []), σ) := by
  rw [src_rng, h, bnd_ok]
  have : rngA [.int i] = some ((List.range k).map fun (i : Nat) => D.int (i : Int)) := by
    show rngD 0 i 1 = _
    unfold rngD
    rw [if_pos ⟨by decide, by decide, by omega, by omega⟩, if_pos rfl]
    rw [show (i - 0).toNat = k by omega]
    simp only [Int.zero_add]
  rw [this]
theorem src_range2 {es : Exs} {σ : En} {lo hi : Int} (k : Nat) (h : evs P cf es σ = .ok ([.int lo, .int hi], σ)) (hk : (hi - lo).toNat = k) (h1 : -1000000 < lo) (h2 : lo < 1000000) (h3 : -1000000 < hi) (h4 : hi < 1000000) : src P cf (.rng es) σ = .ok (((List.range k).map fun (i : Nat) => D.int (lo + i), []), σ) := by
  rw [src_rng, h, bnd_ok]
  have : rngA [.int lo, .int hi] = some ((List.range k).map fun (i : Nat) => D.int (lo + i)) := by
    show rngD lo hi 1 = _
    unfold rngD
    rw [if_pos ⟨by omega, by omega, by omega, by omega⟩, if_pos rfl, hk]
  rw [this]
theorem zipD_map {α : Type} {r : α → D} {β : Type} {s : β → D} : ∀ (xs : List α) (ys : List β), zipD (xs.map r) (ys.map s) = (xs.zip ys).map fun z => .tup [r z.1, s z.2]
  | [], _ => by simp [zipD]
  | x :: xs, [] => by simp [zipD]
  | x :: xs, y :: ys => by
    simp only [List.map_cons, zipD, List.zip_cons_cons]
    rw [zipD_map xs ys]
theorem src_zip2 {es : Exs} {A B : D} {xs ys : List D} {σ : En} (h : evp P cf es σ = .ok ([.sh A, .sh B], σ)) (hA : items A = some xs) (hB : items B = some ys) : src P cf (.zip es) σ = .ok ((zipD xs ys, []), σ) := by
  rw [src_zip, h, bnd_ok]
  simp [hA, hB]
end
/-! ## truths of lists -/
theorem boolsD_map {α : Type} {b : α → Bool} : ∀ xs : List α, boolsD (xs.map fun x => D.bl (b x)) = some (xs.map b)
  | [] => rfl
  | x :: xs => by
    rw [List.map_cons, boolsD, boolsD_map xs]
    rfl
theorem all_map {α : Type} {b : α → Bool} {xs : List α} : bifD .all [.lst (xs.map fun x => D.bl (b x))] = .ok (.sh (.bl (xs.all b))) := by
  unfold bifD
  simp only [boolsD_map, List.all_map]
  rfl
theorem any_map {α : Type} {b : α → Bool} {xs : List α} : bifD .any [.lst (xs.map fun x => D.bl (b x))] = .ok (.sh (.bl (xs.any b))) := by
  unfold bifD
  simp only [boolsD_map, List.any_map]
  rfl
/-! ## Ratios as values -/
@[simp] theorem isNon_rD {x : Rat} : isNon (rD x) = false := id rfl
theorem isiD_rD {t : TyK} {x : Rat} : isiD t (rD x) = .ok (isi1 t (rD x)) := rfl
@[simp] theorem isiD_rD0 {x : Rat} : isiD (.own 0) (rD x) = .ok true := id rfl
@[simp] theorem isiD_rDi {x : Rat} : isiD .int (rD x) = .ok false := id rfl
@[simp] theorem isiD_rDb {x : Rat} : isiD .bool (rD x) = .ok false := id rfl
@[simp] theorem isiD_rDs {x : Rat} : isiD .str (rD x) = .ok false := id rfl
@[simp] theorem isiD_rDt {x : Rat} : isiD .tup (rD x) = .ok false := id rfl
@[simp] theorem isiD_rDl {x : Rat} : isiD .lst (rD x) = .ok false := id rfl
@[simp] theorem items_pD {p : List Rat} : items (pD p) = some (p.map rD) := id rfl
@[simp] theorem isNon_pD {p : List Rat} : isNon (pD p) = false := id rfl
@[simp] theorem isiD_pD0 {p : List Rat} {c : Nat} : isiD (.own c) (pD p) = .ok false := id rfl
@[simp] theorem isiD_pDi {p : List Rat} : isiD .int (pD p) = .ok false := id rfl
@[simp] theorem isiD_pDb {p : List Rat} : isiD .bool (pD p) = .ok false := id rfl
@[simp] theorem isiD_pDs {p : List Rat} : isiD .str (pD p) = .ok false := id rfl
@[simp] theorem isiD_pDt {p : List Rat} : isiD .tup (pD p) = .ok true := id rfl
@[simp] theorem isiD_pDl {p : List Rat} : isiD .lst (pD p) = .ok false := id rfl
@[simp] theorem len_pD {p : List Rat} : bifD .len [pD p] = .ok (.sh (.int p.length)) := by
  show R.ok (Vr.sh (D.int ((p.map rD).length : Nat))) = _
  rw [List.length_map]
@[simp] theorem lst_pD {p : List Rat} : bifD .lst [pD p] = .ok (.ow (p.map rD)) := id rfl
@[simp] theorem tup_pD {p : List Rat} : bifD .tup [pD p] = .ok (.sh (pD p)) := id rfl
@[simp] theorem tup_rD {p : List Rat} : bifD .tup [.lst (p.map rD)] = .ok (.sh (pD p)) := id rfl
@[simp] theorem rev_pD {p : List Rat} : revD (pD p) = .ok (.sh (pD p.reverse)) := by
  show R.ok (Vr.sh (D.tup (p.map rD).reverse)) = _
  rw [← List.map_reverse]
  rfl
/-- an item -/
theorem atI_rD {p : List Rat} {i : Int} (h0 : 0 ≤ i) (h : i < p.length) : atI (p.map rD) i = some (rD (cf p i.toNat)) := by
  obtain ⟨k, rfl⟩ : ∃ k : Nat, i = k := ⟨i.toNat, by omega⟩
  rw [PV.atI_nat (by simpa using (by omega : k < p.length)), List.getD_eq_getElem?_getD, List.getElem?_map, List.getElem?_eq_getElem (by omega : k < p.length), Int.toNat_natCast, cf_in (by omega)]
  rfl
theorem atI_rDn {p : List Rat} {i : Int} (h0 : i < 0) (h : -i ≤ p.length) : atI (p.map rD) i = some (rD (cf p (i + p.length).toNat)) := by
  have hk : (i + p.length).toNat < p.length := by omega
  unfold atI ixN
  simp only [List.length_map]
  rw [if_neg (by omega), if_pos (by omega)]
  simp only [Option.bind_some]
  rw [List.getElem?_map, List.getElem?_eq_getElem hk, cf_in hk]
  rfl
end PV
set_option Elab.async false
set_option linter.all false
set_option maxRecDepth 100000
set_option maxHeartbeats 4000000
namespace PV
open PySem L2
/-! ## bits of a Ratio -/
def bt (x : Rat) : Nat := if x.num.natAbs + x.den ≤ 1 then 0 else (x.num.natAbs + x.den - 1).log2 + 1
theorem sz_bt (x : Rat) : Sz (bt x) x := by
  unfold Sz bt
  by_cases h : x.num.natAbs + x.den ≤ 1
  · rw [if_pos h]; simpa using h
  · rw [if_neg h]
    have := Nat.lt_log2_self (n := x.num.natAbs + x.den - 1)
    omega
theorem bt_le {s : Nat} {x : Rat} : bt x ≤ s ↔ Sz s x := by
  constructor
  · exact fun h => (sz_bt x).mono h
  · intro h
    unfold Sz at h
    unfold bt
    by_cases h1 : x.num.natAbs + x.den ≤ 1
    · rw [if_pos h1]; exact Nat.zero_le _
    · rw [if_neg h1]
      have := (Nat.log2_lt (n := x.num.natAbs + x.den - 1) (k := s) (by omega)).mpr (by omega)
      omega
theorem bt_of {s : Nat} {x : Rat} (h : Sz s x) : bt x ≤ s := bt_le.mpr h
theorem bt_add (x y : Rat) : bt (x + y) ≤ bt x + bt y := bt_of ((sz_bt x).add (sz_bt y))
theorem bt_sub (x y : Rat) : bt (x - y) ≤ bt x + bt y := bt_of ((sz_bt x).sub (sz_bt y))
theorem bt_mul (x y : Rat) : bt (x * y) ≤ bt x + bt y := bt_of ((sz_bt x).mul (sz_bt y))
theorem bt_div (x y : Rat) : bt (x / y) ≤ bt x + bt y := bt_of ((sz_bt x).div (sz_bt y))
theorem bt_inv (x : Rat) : bt x⁻¹ ≤ bt x := bt_of (sz_bt x).inv
theorem bt_neg (x : Rat) : bt (-x) ≤ bt x := bt_of (sz_bt x).neg
theorem bt_zero : bt 0 = 0 := by decide
theorem bt_one : bt 1 = 1 := by decide
theorem bt_int {i : Int} {b : Nat} (h : i.natAbs < 2 ^ b) : bt (i : Rat) ≤ b := bt_of (sz_int h)
theorem bt_frac {n d : Int} {b : Nat} (h : d ≠ 0) (k : n.natAbs + d.natAbs ≤ 2 ^ b) : bt ((n : Rat) / (d : Rat)) ≤ b := by
  rw [← Rat.divInt_eq_div]
  exact bt_of (sz_mk h k)
/-- whole multiples of a unit, bounded -/
def Bd (N M : Nat) (x : Rat) : Prop := ∃ a : Int, x * (N : Rat) = (a : Rat) ∧ a.natAbs ≤ M
theorem Bd.sz {N M : Nat} {x : Rat} (hN : 0 < N) (h : Bd N M x) {b : Nat} (k : M + N ≤ 2 ^ b) : bt x ≤ b := by
  obtain ⟨a, e, ha⟩ := h
  have hz : (N : Rat) ≠ 0 := by
    intro z
    have : (N : Int) = 0 := by exact_mod_cast z
    omega
  have : x = (a : Rat) / ((N : Int) : Rat) := by
    rw [← e]
    show x = x * (N : Rat) / (N : Rat)
    grind
  rw [this]
  exact bt_frac (by omega) (by omega)
theorem Bd.add {N M M' : Nat} {x y : Rat} (h : Bd N M x) (h' : Bd N M' y) : Bd N (M + M') (x + y) := by
  obtain ⟨a, e, ha⟩ := h
  obtain ⟨b, e', hb⟩ := h'
  refine ⟨a + b, ?_, by omega⟩
  rw [Rat.add_mul, e, e']
  exact (Rat.intCast_add a b).symm
theorem Bd.neg {N M : Nat} {x : Rat} (h : Bd N M x) : Bd N M (-x) := by
  obtain ⟨a, e, ha⟩ := h
  refine ⟨-a, ?_, by omega⟩
  rw [Rat.neg_mul, e]
  exact (Rat.intCast_neg a).symm
theorem Bd.sub {N M M' : Nat} {x y : Rat} (h : Bd N M x) (h' : Bd N M' y) : Bd N (M + M') (x - y) := by
  rw [Rat.sub_eq_add_neg]
  exact h.add h'.neg
theorem Bd.mul {N N' M M' : Nat} {x y : Rat} (h : Bd N M x) (h' : Bd N' M' y) : Bd (N * N') (M * M') (x * y) := by
  obtain ⟨a, e, ha⟩ := h
  obtain ⟨b, e', hb⟩ := h'
  refine ⟨a * b, ?_, by rw [Int.natAbs_mul]; exact Nat.mul_le_mul ha hb⟩
  rw [Rat.intCast_mul, ← e, ← e', Rat.natCast_mul]
  grind
theorem Bd.mono {N M M' : Nat} {x : Rat} (h : Bd N M x) (k : M ≤ M') : Bd N M' x := let ⟨a, e, ha⟩ := h; ⟨a, e, Nat.le_trans ha k⟩
theorem Bd.int {i : Int} {N : Nat} : Bd N (i.natAbs * N) (i : Rat) := ⟨i * N, by rw [Rat.intCast_mul]; rfl, by rw [Int.natAbs_mul]; exact Nat.le_refl _⟩
theorem Bd.scale {N M : Nat} {x : Rat} (h : Bd N M x) (k : Nat) : Bd (N * k) (M * k) x := by
  obtain ⟨a, e, ha⟩ := h
  refine ⟨a * k, ?_, by rw [Int.natAbs_mul]; exact Nat.mul_le_mul ha (Nat.le_refl _)⟩
  rw [Rat.intCast_mul, ← e, Rat.natCast_mul]
  show _ = x * (N : Rat) * ((k : Int) : Rat)
  have : ((k : Int) : Rat) = (k : Rat) := rfl
  rw [this]
  grind
/-! ## operations on numbers, for simp -/
section
variable {P : Prg} {cf : CF}
@[simp] theorem addI {i j : Int} : binD P cf .add (.int i) (.int j) = .ok (.sh (.int (i + j))) := id rfl
@[simp] theorem subI {i j : Int} : binD P cf .sub (.int i) (.int j) = .ok (.sh (.int (i - j))) := id rfl
theorem log18 {i : Int} (h1 : -1000000000000000000 < i) (h2 : i < 1000000000000000000) : i.natAbs.log2 < 60 := small_log (by omega) (by decide)
theorem mulI {i j : Int} (h1 : -1000000000000000000 < i) (h2 : i < 1000000000000000000) (h3 : -1000000000000000000 < j) (h4 : j < 1000000000000000000) : binD P cf .mul (.int i) (.int j) = .ok (.sh (.int (i * j))) := by
  show (if i.natAbs.log2 + j.natAbs.log2 < 100000000 then R.ok (Vr.sh (D.int (i * j))) else .stuck) = _
  have := log18 h1 h2
  have := log18 h3 h4
  rw [if_pos (by omega)]
theorem fdvI {i j : Int} (h0 : 0 < j) (h4 : j < 1000000000000000000) : binD P cf .fdiv (.int i) (.int j) = .ok (.sh (.int (i / j))) := by
  show (if 0 < j ∧ j.natAbs.log2 < 9000 then R.ok (Vr.sh (D.int (i / j))) else .stuck) = _
  have := log18 (by omega) h4
  rw [if_pos ⟨h0, by omega⟩]
theorem modI {i j : Int} (h0 : 0 < j) : binD P cf .mod (.int i) (.int j) = .ok (.sh (.int (i % j))) := by
  show (if 0 < j then R.ok (Vr.sh (D.int (i % j))) else .stuck) = _
  rw [if_pos h0]
theorem addLL {i j : List D} (h : i.length + j.length ≤ 16000000) : binD P cf .add (.lst i) (.lst j) = .ok (.ow (i ++ j)) := by
  show (if i.length + j.length ≤ 16000000 then R.ok (Vr.ow (i ++ j)) else .stuck) = _
  rw [if_pos h]
theorem addTT {i j : List D} (h : i.length + j.length ≤ 16000000) : binD P cf .add (.tup i) (.tup j) = .ok (.sh (.tup (i ++ j))) := by
  show (if i.length + j.length ≤ 16000000 then R.ok (Vr.sh (.tup (i ++ j))) else .stuck) = _
  rw [if_pos h]
theorem mulTI {i : List D} {j : Int} (h : i.length ≤ 1000) (h1 : -1000000 < j) (h2 : j ≤ 1000) : binD P cf .mul (.tup i) (.int j) = .ok (.sh (.tup (List.replicate j.toNat i).flatten)) := by
  show (if i.length ≤ 1000 ∧ -1000000 < j ∧ j ≤ 1000 then R.ok (Vr.sh (.tup (List.replicate j.toNat i).flatten)) else .stuck) = _
  rw [if_pos ⟨h, h1, h2⟩]
theorem mulLst {i : List D} {j : Int} (h : i.length ≤ 1000) (h1 : -1000000 < j) (h2 : j ≤ 1000) : binD P cf .mul (.lst i) (.int j) = .ok (.ow (List.replicate j.toNat i).flatten) := by
  show (if i.length * j.toNat ≤ 16000000 ∧ j < 1000000 ∧ -1000000 < j then R.ok (Vr.ow (List.replicate j.toNat i).flatten) else .stuck) = _
  have hm : i.length * j.toNat ≤ 1000 * 1000 := Nat.mul_le_mul h (by omega)
  rw [if_pos ⟨by omega, by omega, h1⟩]
@[simp] theorem negI {i : Int} : negD P cf (.int i) = .ok (.int (-i)) := id rfl
@[simp] theorem ltI {i j : Int} : cmpD P cf .lt (.int i) (.int j) = .ok (decide (i < j)) := id rfl
@[simp] theorem leI {i j : Int} : cmpD P cf .le (.int i) (.int j) = .ok (decide (i ≤ j)) := id rfl
@[simp] theorem gtI {i j : Int} : cmpD P cf .gt (.int i) (.int j) = .ok (decide (j < i)) := id rfl
@[simp] theorem geI {i j : Int} : cmpD P cf .ge (.int i) (.int j) = .ok (decide (j ≤ i)) := id rfl
@[simp] theorem eqI {i j : Int} : cmpD P cf .eq (.int i) (.int j) = .ok (decide (i = j)) := eqT_int
@[simp] theorem neI {i j : Int} : cmpD P cf .ne (.int i) (.int j) = .ok (!decide (i = j)) := by
  show (eqT P cf (.int i) (.int j)).map (!·) = _
  rw [eqT_int]
  rfl
@[simp] theorem eqBB {i j : Bool} : cmpD P cf .eq (.bl i) (.bl j) = .ok (i == j) := eqT_bl
@[simp] theorem blenL {xs : List D} : bifD .len [.lst xs] = .ok (.sh (.int xs.length)) := id rfl
@[simp] theorem blenT {xs : List D} : bifD .len [.tup xs] = .ok (.sh (.int xs.length)) := id rfl
@[simp] theorem btupL {xs : List D} : bifD .tup [.lst xs] = .ok (.sh (.tup xs)) := id rfl
@[simp] theorem btupT {xs : List D} : bifD .tup [.tup xs] = .ok (.sh (.tup xs)) := id rfl
@[simp] theorem blstL {xs : List D} : bifD .lst [.lst xs] = .ok (.ow xs) := id rfl
@[simp] theorem blstT {xs : List D} : bifD .lst [.tup xs] = .ok (.ow xs) := id rfl
@[simp] theorem babsI {i : Int} : bifD .abs [.int i] = .ok (.sh (.int (if i < 0 then -i else i))) := id rfl
@[simp] theorem bintI {i : Int} : bifD .int [.int i] = .ok (.sh (.int i)) := id rfl
@[simp] theorem max2I {i j : Int} : bifD .max2 [.int i, .int j] = .ok (.sh (.int (if j > i then j else i))) := id rfl
@[simp] theorem min2I {i j : Int} : bifD .min2 [.int i, .int j] = .ok (.sh (.int (if j < i then j else i))) := id rfl
theorem isi_int (t : TyK) (i : Int) : isiD t (.int i) = .ok (isi1 t (.int i)) := rfl
end
theorem appF_ok {y : D} {ds : List D} (h : ds.length < 16000000) : appF y ds = some (ds ++ [y]) := by
  unfold appF
  rw [if_pos h]
theorem extF_ok {xs ds : List D} (h : ds.length + xs.length ≤ 16000000) : extF xs ds = some (ds ++ xs) := by
  unfold extF
  rw [if_pos h]
/-! ## comprehensions over an owned list -/
section
variable {P : Prg} {cf : CF}
theorem lock_own {q : Nat} {σ : En} {L : List D} (hq : σ[q]? = some (.ow L)) : lock q σ = σ.set q (.lk L) := by simp [hq]
theorem unlock_own {q : Nat} {σ : En} {L : List D} (hq : σ[q]? = some (.ow L)) : unlock q (σ.set q (.lk L)) = σ := by
  have l := len_of hq
  simp only [unlock_eq, List.getElem?_set_self l, List.set_set]
  exact set_own hq
theorem lcf_lk {α : Type} (r g : α → D) (b : α → Bool) {t q : Nat} {k e : Ex} {s : Src} {σ : En} {c : Cell} {xs : List α} {L : List D} (hs : src P cf s σ = .ok ((xs.map r, [q]), σ)) (hq : σ[q]? = some (.ow L)) (ht : σ[t]? = some c) (hc : asg c = true) (hqt : q ≠ t) (hl : xs.length < 16000000)
    (step : ∀ x ∈ xs, ev P cf k ((σ.set q (.lk L)).set t (.sh (r x))) = .ok (.sh (.bl (b x)), (σ.set q (.lk L)).set t (.sh (r x))) ∧ (b x = true → ev P cf e ((σ.set q (.lk L)).set t (.sh (r x))) = .ok (.sh (g x), (σ.set q (.lk L)).set t (.sh (r x))))) : ev P cf (.lcf s (.v t) k e) σ = .ok (.ow ((xs.filter b).map g), σ) := by
  have ht' : (σ.set q (.lk L))[t]? = some c := by rw [List.getElem?_set_ne hqt, ht]
  obtain ⟨c', h⟩ := lcL_filter (P := P) (cf := cf) (r := r) (g := g) (b := b) (k := k) (e := e) (E := fun c => (σ.set q (.lk L)).set t c) (fun c => by simp) (fun x => setc_un ht') xs [] c step (by simpa using hl)
  simp only [set_own ht', List.nil_append] at h
  rw [ev_lcf, hs, slots_v, lcR_lock (lock_own hq) (noLk_one ht' hc) h]
  simp only [back_cons, back_nil, ht', Option.getD_some, List.set_set]
  rw [set_own ht', unlock_own hq]
theorem lc_lk {α : Type} (r g : α → D) {t q : Nat} {e : Ex} {s : Src} {σ : En} {c : Cell} {xs : List α} {L : List D} (hs : src P cf s σ = .ok ((xs.map r, [q]), σ)) (hq : σ[q]? = some (.ow L)) (ht : σ[t]? = some c) (hc : asg c = true) (hqt : q ≠ t) (hl : xs.length < 16000000)
    (step : ∀ x ∈ xs, ev P cf e ((σ.set q (.lk L)).set t (.sh (r x))) = .ok (.sh (g x), (σ.set q (.lk L)).set t (.sh (r x)))) : ev P cf (.lc s (.v t) e) σ = .ok (.ow (xs.map g), σ) := by
  have ht' : (σ.set q (.lk L))[t]? = some c := by rw [List.getElem?_set_ne hqt, ht]
  obtain ⟨c', h⟩ := lc_map (P := P) (cf := cf) (r := r) (g := g) (e := e) (E := fun c => (σ.set q (.lk L)).set t c) (fun c => by simp) (fun x => setc_un ht') xs [] c (fun x hx => ⟨_, step x hx, rfl⟩) (by simpa using hl)
  simp only [set_own ht', List.nil_append] at h
  rw [ev_lc, hs, slots_v, lcR_lock (lock_own hq) (noLk_one ht' hc) h]
  simp only [back_cons, back_nil, ht', Option.getD_some, List.set_set]
  rw [set_own ht', unlock_own hq]
theorem src_own {q : Nat} {σ : En} {L : List D} (hq : σ[q]? = some (.ow L)) : src P cf (.seq (.var q)) σ = .ok ((L, [q]), σ) := by simp [hq]
end
/-! ## a suite, step by step -/
section
variable {P : Prg} {cf : CF} {w : Nat}
def GoS (P : Prg) (cf : CF) (w : Nat) (rest : Sms) (v : Vr) (σ : En) : Prop := ∃ τ, exSs P cf w rest σ = .ok (.rt v, τ)
def Go (P : Prg) (cf : CF) (w : Nat) (rest : Sms) (v : Vr) (r : R (Fl × En)) : Prop := ∃ τ, (bnd r fun f σ => match f with
  | .nx => exSs P cf w rest σ
  | .rt u => .ok (.rt u, σ)) = .ok (.rt v, τ)
@[simp] theorem Go_nx {rest : Sms} {v : Vr} {σ : En} : Go P cf w rest v (.ok (.nx, σ)) = GoS P cf w rest v σ := id rfl
@[simp] theorem Go_rt {rest : Sms} {v u : Vr} {σ : En} : Go P cf w rest v (.ok (.rt u, σ)) = (u = v) := propext ⟨fun ⟨τ, h⟩ => by
    have h : (R.ok (Fl.rt u, σ) : R (Fl × En)) = .ok (.rt v, τ) := h
    injection h with h
    injection h with h _
    injection h, fun h => ⟨σ, by subst h; rfl⟩⟩
theorem GoS.cons {s : Sm} {r : Sms} {v : Vr} {σ : En} (h : Go P cf w r v (exS P cf w s σ)) : GoS P cf w (.cons s r) v σ := by
  obtain ⟨τ, h⟩ := h
  exact ⟨τ, by rw [exSs_cons]; exact h⟩
theorem GoS.step {s : Sm} {r : Sms} {v : Vr} {σ σ' : En} (e : exS P cf w s σ = .ok (.nx, σ')) (h : GoS P cf w r v σ') : GoS P cf w (.cons s r) v σ := .cons (by rw [e]; exact h)
theorem fn_go {n k : Nat} {args : List D} {f : FnI} {v : Vr} {σ : En} (h : P.fns[k]? = some f) (ha : nArgs .no args = f.ps.length) (hs : st0 .no f.N.length args = σ) (hr : GoS P (fnEv P w n) w f.body v σ) : fnEv P w (n + 1) k .no args = .ok (v, []) := by
  obtain ⟨τ, hr⟩ := hr
  exact fn_end h ha hs ⟨τ, hr, rfl⟩
end
end PV
set_option Elab.async false
set_option linter.all false
set_option maxRecDepth 100000
set_option maxHeartbeats 4000000
namespace PV
open PySem L2
/-! ## knots as rows -/
theorem pair_le {p : List Rat} (h : p.Pairwise (· ≤ ·)) {i j : Nat} (hij : i ≤ j) (hj : j < p.length) : cf p i ≤ cf p j := by
  by_cases e : i = j
  · subst e; exact Rat.le_refl
  · rw [cf_in (by omega), cf_in hj]
    exact List.pairwise_iff_getElem.mp h i j (by omega) hj (by omega)
theorem pair_lt {p : List Rat} (h : p.Pairwise (· < ·)) {i j : Nat} (hij : i < j) (hj : j < p.length) : cf p i < cf p j := by
  rw [cf_in (by omega), cf_in hj]
  exact List.pairwise_iff_getElem.mp h i j (by omega) hj hij
theorem cf_mem {p : List Rat} {i : Nat} (h : i < p.length) : cf p i ∈ p := by rw [cf_in h]; exact List.getElem_mem _
theorem cf_appL {p q : List Rat} {i : Nat} (h : i < p.length) : cf (p ++ q) i = cf p i := by
  rw [cf_in (by simp; omega), cf_in h, List.getElem_append_left]
theorem cf_appR {p q : List Rat} {i : Nat} : cf (p ++ q) (p.length + i) = cf q i := by
  unfold cf
  rw [List.getD_eq_getElem?_getD, List.getD_eq_getElem?_getD, List.getElem?_append_right (by omega), Nat.add_sub_cancel_left]
/-- windows that are wider than an item is often -/
theorem win_of {p : List Rat} (h : p.Pairwise (· ≤ ·)) {m : Nat} (hc : ∀ x, p.count x ≤ m) {j : Nat} (hj : j + m < p.length) : cf p j < cf p (j + m) := by
  by_cases q0 : cf p j < cf p (j + m)
  · exact q0
  · exfalso
    have q := Rat.not_lt.mp q0
    have hx : cf p (j + m) = cf p j := Rat.le_antisymm q (pair_le h (by omega) hj)
    have e : (p.drop j).take (m + 1) = List.replicate (m + 1) (cf p j) := by
      apply List.ext_getElem
      · simp; omega
      · intro i h1 h2
        rw [List.getElem_take, List.getElem_drop, List.getElem_replicate]
        have h2 : i < m + 1 := by simpa using h2
        have a1 := pair_le h (i := j) (j := j + i) (by omega) (by omega)
        have a2 := pair_le h (i := j + i) (j := j + m) (by omega) hj
        rw [← cf_in (show j + i < p.length by omega)]
        exact Rat.le_antisymm (hx ▸ a2) a1
    have s : ((p.drop j).take (m + 1)).Sublist p := (List.take_sublist _ _).trans (List.drop_sublist _ _)
    have c := s.count_le (cf p j)
    rw [e, List.count_replicate_self] at c
    have := hc (cf p j)
    omega
/-- knots of a degree -/
structure Kn (d : Nat) (p : List Rat) : Prop where
  deg : d ≤ 8
  asc : p.Pairwise (· ≤ ·)
  lo : 2 * d + 2 ≤ p.length
  hi : p.length ≤ 60
  win : ∀ j, j + d + 1 < p.length → cf p j < cf p (j + d + 1)
  gnd : cf p d < cf p (p.length - d - 1)
theorem Kn.of {d : Nat} {l m r : List Rat} {a b : Rat} (hd : d ≤ 8) (hl : l.length = d + 1) (hr : r.length = d + 1) (hm : m.length ≤ 20) (al : l.Pairwise (· ≤ ·)) (am : m.Pairwise (· ≤ ·)) (ar : r.Pairwise (· ≤ ·))
    (la : cf l d = a) (rb : cf r 0 = b) (hla : ∀ x ∈ l, x ≤ a) (hrb : ∀ x ∈ r, b ≤ x) (hma : ∀ x ∈ m, a < x ∧ x < b) (hab : a < b) (hc : ∀ x, m.count x ≤ d + 1) : Kn d (l ++ m ++ r) := by
  have A : (l ++ m ++ r).Pairwise (· ≤ ·) := by
    rw [List.pairwise_append, List.pairwise_append]
    refine ⟨⟨al, am, fun x hx y hy => ?_⟩, ar, fun x hx y hy => ?_⟩
    · exact Rat.le_trans (hla x hx) (Rat.le_of_lt (hma y hy).1)
    · rcases List.mem_append.mp hx with hx | hx
      · exact Rat.le_trans (hla x hx) (Rat.le_trans (Rat.le_of_lt hab) (hrb y hy))
      · exact Rat.le_trans (Rat.le_of_lt (hma x hx).2) (hrb y hy)
  have C : ∀ x, (l ++ m ++ r).count x ≤ d + 1 := fun x => by
    rw [List.count_append, List.count_append]
    by_cases h1 : x ≤ a
    · have e1 : m.count x = 0 := List.count_eq_zero.mpr fun hx => absurd h1 (Rat.not_le.mpr (hma x hx).1)
      have e2 : r.count x = 0 := List.count_eq_zero.mpr fun hx => absurd (Rat.le_trans (hrb x hx) h1) (Rat.not_le.mpr hab)
      have e3 := List.count_le_length (a := x) (l := l)
      omega
    · have e1 : l.count x = 0 := List.count_eq_zero.mpr fun hx => h1 (hla x hx)
      by_cases h2 : b ≤ x
      · have e2 : m.count x = 0 := List.count_eq_zero.mpr fun hx => absurd h2 (Rat.not_le.mpr (hma x hx).2)
        have e3 := List.count_le_length (a := x) (l := r)
        omega
      · have e2 : r.count x = 0 := List.count_eq_zero.mpr fun hx => h2 (hrb x hx)
        have := hc x
        omega
  refine ⟨hd, A, by simp; omega, by simp; omega, fun j hj => ?_, ?_⟩
  · exact win_of A C (j := j) (m := d + 1) (by omega)
  · rw [show (l ++ m ++ r).length - d - 1 = (l ++ m).length + 0 by simp; omega, cf_appR, rb, List.append_assoc, cf_appL (by omega), la]
    exact hab
/-! ## unlike knots -/
def brkS (lo hi : Rat) (f : List Rat) (x : Rat) : List Rat := if lo ≤ x ∧ x ≤ hi ∧ x ∉ f then f ++ [x] else f
def brkN (lo hi : Rat) (p : List Rat) (i : Nat) : List Rat := (p.take i).foldl (brkS lo hi) []
theorem brkN_zero {lo hi : Rat} {p : List Rat} : brkN lo hi p 0 = [] := rfl
theorem brkN_succ {lo hi : Rat} {p : List Rat} {i : Nat} (h : i < p.length) : brkN lo hi p (i + 1) = brkS lo hi (brkN lo hi p i) (cf p i) := by
  unfold brkN
  rw [List.take_succ_eq_append_getElem h, List.foldl_append, cf_in h]
  rfl
theorem brkN_inv {lo hi : Rat} {p : List Rat} (A : p.Pairwise (· ≤ ·)) : ∀ i, i ≤ p.length → (brkN lo hi p i).Pairwise (· < ·) ∧ (∀ y, y ∈ brkN lo hi p i ↔ y ∈ p.take i ∧ lo ≤ y ∧ y ≤ hi)
  | 0, _ => ⟨List.Pairwise.nil, fun y => by simp [brkN]⟩
  | i + 1, h => by
    obtain ⟨h1, h2⟩ := brkN_inv A (lo := lo) (hi := hi) i (by omega)
    rw [brkN_succ (by omega)]
    unfold brkS
    have ht : p.take (i + 1) = p.take i ++ [cf p i] := by rw [List.take_succ_eq_append_getElem (by omega), cf_in (by omega)]
    split
    · rename_i hc
      refine ⟨?_, fun y => ?_⟩
      · rw [List.pairwise_append]
        refine ⟨h1, by simp, fun x hx y hy => ?_⟩
        rw [List.mem_singleton.mp hy]
        obtain ⟨hx1, _⟩ := (h2 x).mp hx
        obtain ⟨j, hj, rfl⟩ := List.mem_iff_getElem.mp hx1
        simp only [List.length_take] at hj
        rw [List.getElem_take] at hx ⊢
        have l := pair_le A (i := j) (j := i) (by omega) (by omega)
        rw [cf_in (show j < p.length by omega)] at l
        rcases Rat.le_iff_lt_or_eq.mp l with l | l
        · exact l
        · exact absurd (l ▸ hx) hc.2.2
      · rw [ht, List.mem_append, List.mem_append, h2, List.mem_singleton]
        constructor
        · rintro (⟨a, b⟩ | rfl)
          · exact ⟨.inl a, b⟩
          · exact ⟨.inr rfl, hc.1, hc.2.1⟩
        · rintro ⟨a | rfl, b⟩
          · exact .inl ⟨a, b⟩
          · exact .inr rfl
    · rename_i hc
      refine ⟨h1, fun y => ?_⟩
      rw [ht, List.mem_append, h2, List.mem_singleton]
      constructor
      · rintro ⟨a, b⟩
        exact ⟨.inl a, b⟩
      · rintro ⟨a | rfl, b⟩
        · exact ⟨a, b⟩
        · by_cases hm : cf p i ∈ brkN lo hi p i
          · exact ⟨((h2 _).mp hm).1, b⟩
          · exact absurd ⟨b.1, b.2, hm⟩ hc
theorem brkN_last {lo hi : Rat} {p : List Rat} (A : p.Pairwise (· ≤ ·)) {i : Nat} (h : i < p.length) : ((brkN lo hi p i).length = 0 ∨ cf (brkN lo hi p i) ((brkN lo hi p i).length - 1) < cf p i) ↔ cf p i ∉ brkN lo hi p i := by
  obtain ⟨h1, h2⟩ := brkN_inv A (lo := lo) (hi := hi) i (by omega)
  generalize brkN lo hi p i = f at *
  constructor
  · rintro (h0 | h0) hm
    · rw [List.eq_nil_of_length_eq_zero h0] at hm
      cases hm
    · obtain ⟨j, hj, e⟩ := List.mem_iff_getElem.mp hm
      have := pair_le (h1.imp fun h => Rat.le_of_lt h) (i := j) (j := f.length - 1) (by omega) (by omega)
      rw [cf_in hj, e] at this
      exact absurd h0 (Rat.not_lt.mpr this)
  · intro hm
    rcases Nat.eq_zero_or_pos f.length with h0 | h0
    · exact .inl h0
    · refine .inr ?_
      have hl : cf f (f.length - 1) ∈ f := cf_mem (by omega)
      obtain ⟨hx1, _⟩ := (h2 _).mp hl
      obtain ⟨j, hj, e⟩ := List.mem_iff_getElem.mp hx1
      simp only [List.length_take] at hj
      rw [List.getElem_take] at e
      have l := pair_le A (i := j) (j := i) (by omega) (by omega)
      rw [cf_in (show j < p.length by omega), e] at l
      rcases Rat.le_iff_lt_or_eq.mp l with l | l
      · exact l
      · exact absurd (l ▸ hl) hm
/-- strictly ascending rows with the same items -/
theorem sorted_ext : ∀ {p q : List Rat}, p.Pairwise (· < ·) → q.Pairwise (· < ·) → (∀ x, x ∈ p ↔ x ∈ q) → p = q
  | [], [], _, _, _ => rfl
  | [], y :: q, _, _, h => by have := (h y).mpr (List.mem_cons_self ..); cases this
  | x :: p, [], _, _, h => by have := (h x).mp (List.mem_cons_self ..); cases this
  | x :: p, y :: q, hp, hq, h => by
    rw [List.pairwise_cons] at hp hq
    have e : x = y := by
      have h1 := (h x).mp (List.mem_cons_self ..)
      have h2 := (h y).mpr (List.mem_cons_self ..)
      rcases List.mem_cons.mp h1 with h1 | h1
      · exact h1
      · rcases List.mem_cons.mp h2 with h2 | h2
        · exact h2.symm
        · exact absurd (show x < x by have a := hq.1 x h1; have b := hp.1 y h2; grind) Rat.lt_irrefl
    subst e
    congr 1
    refine sorted_ext hp.2 hq.2 fun z => ?_
    constructor
    · intro hz
      rcases List.mem_cons.mp ((h z).mp (List.mem_cons_of_mem _ hz)) with e | e
      · subst e; exact absurd (hp.1 z hz) Rat.lt_irrefl
      · exact e
    · intro hz
      rcases List.mem_cons.mp ((h z).mpr (List.mem_cons_of_mem _ hz)) with e | e
      · subst e; exact absurd (hq.1 z hz) Rat.lt_irrefl
      · exact e
/-- the pieces -/
def spn (d : Nat) (p : List Rat) : List Nat := ((List.range (p.length - 2 * d - 1)).map (d + ·)).filter fun i => decide (cf p i < cf p (i + 1))
/-- the place of a number -/
def pcs (d : Nat) (p : List Rat) (x : Rat) : List Nat := (spn d p).filter fun i => decide (cf p i ≤ x ∧ x < cf p (i + 1))
def pc (d : Nat) (p : List Rat) (x : Rat) : Nat := if 0 < (pcs d p x).length then (pcs d p x).getD 0 0 else (spn d p).getD ((spn d p).length - 1) 0
theorem spn_mem {d i : Nat} {p : List Rat} (h : i ∈ spn d p) : d ≤ i ∧ i + d + 1 < p.length + 0 ∧ cf p i < cf p (i + 1) := by
  unfold spn at h
  obtain ⟨h1, h2⟩ := List.mem_filter.mp h
  obtain ⟨j, hj, rfl⟩ := List.mem_map.mp h1
  have := List.mem_range.mp hj
  exact ⟨by omega, by omega, of_decide_eq_true h2⟩
theorem spn_iff {d i : Nat} {p : List Rat} : i ∈ spn d p ↔ d ≤ i ∧ i + d + 1 < p.length ∧ cf p i < cf p (i + 1) := by
  constructor
  · exact spn_mem
  · rintro ⟨h1, h2, h3⟩
    unfold spn
    refine List.mem_filter.mpr ⟨List.mem_map.mpr ⟨i - d, List.mem_range.mpr (by omega), by omega⟩, decide_eq_true h3⟩
theorem spn_len {d : Nat} {p : List Rat} : (spn d p).length ≤ p.length := by
  unfold spn
  refine Nat.le_trans (List.length_filter_le _ _) ?_
  simp; omega
/-- the unlike knots of the ground interval -/
def brk (d : Nat) (p : List Rat) : List Rat := brkN (cf p d) (cf p (p.length - d - 1)) p p.length
theorem next_gt {p : List Rat} (A : p.Pairwise (· ≤ ·)) {n : Nat} (hn : n < p.length) {x : Rat} (hx : x < cf p n) : ∀ m k, n - k = m → cf p k = x → k < p.length → ∃ i, k ≤ i ∧ i < n ∧ cf p i = x ∧ cf p i < cf p (i + 1)
  | 0, k, hm, hk, hl => by
    exfalso
    have := pair_le A (i := n) (j := k) (by omega) hl
    rw [hk] at this
    exact absurd hx (Rat.not_lt.mpr this)
  | m + 1, k, hm, hk, hl => by
    by_cases c : cf p k < cf p (k + 1)
    · exact ⟨k, Nat.le_refl _, by omega, hk, c⟩
    · have e : cf p (k + 1) = x := by
        rw [← hk]
        exact Rat.le_antisymm (Rat.not_lt.mp c) (pair_le A (by omega) (by omega))
      obtain ⟨i, h1, h2⟩ := next_gt A hn hx m (k + 1) (by omega) e (by omega)
      exact ⟨i, by omega, h2⟩
theorem spn_asc {d : Nat} {p : List Rat} : (spn d p).Pairwise (· < ·) := by
  unfold spn
  refine List.Pairwise.filter _ ?_
  rw [List.pairwise_map]
  exact List.pairwise_lt_range.imp fun h => by omega
section
variable {d : Nat} {p : List Rat}
theorem Kn.n_lt (K : Kn d p) : p.length - d - 1 < p.length := by have := K.lo; omega
theorem Kn.piece (K : Kn d p) {x : Rat} (h1 : cf p d ≤ x) (h2 : x < cf p (p.length - d - 1)) : ∃ i ∈ spn d p, cf p i ≤ x ∧ x < cf p (i + 1) := by
  have hl := K.lo
  have hn := K.n_lt
  generalize hN : p.length - d - 1 = n at *
  -- the last place that is not above x
  have go : ∀ m i, n - i = m → d ≤ i → i < n → cf p i ≤ x → ∃ j, d ≤ j ∧ j < n ∧ cf p j ≤ x ∧ x < cf p (j + 1) := fun m => by
    induction m with
    | zero => intro i h; omega
    | succ m ih =>
      intro i hm hd hi hx
      by_cases c : x < cf p (i + 1)
      · exact ⟨i, hd, hi, hx, c⟩
      · by_cases e : i + 1 = n
        · rw [e] at c; exact absurd h2 c
        · exact ih (i + 1) (by omega) (by omega) (by omega) (Rat.not_lt.mp c)
  obtain ⟨j, a, b, c, e⟩ := go _ d rfl (Nat.le_refl _) (by omega) h1
  exact ⟨j, spn_iff.mpr ⟨a, by omega, by grind⟩, c, e⟩
theorem Kn.piece_one (K : Kn d p) {x : Rat} {i j : Nat} (hi : i ∈ spn d p) (hj : j ∈ spn d p) (h1 : cf p i ≤ x) (h2 : x < cf p (i + 1)) (h3 : cf p j ≤ x) (h4 : x < cf p (j + 1)) : i = j := by
  obtain ⟨a1, a2, a3⟩ := spn_mem hi
  obtain ⟨b1, b2, b3⟩ := spn_mem hj
  rcases Nat.lt_trichotomy i j with h | h | h
  · have := pair_le K.asc (i := i + 1) (j := j) (by omega) (by omega)
    exfalso; grind
  · exact h
  · have := pair_le K.asc (i := j + 1) (j := i) (by omega) (by omega)
    exfalso; grind
theorem Kn.spn_pos (K : Kn d p) : 0 < (spn d p).length := by
  obtain ⟨i, hi, _⟩ := K.piece (x := cf p d) Rat.le_refl K.gnd
  exact List.length_pos_of_mem hi
theorem Kn.pc_of (K : Kn d p) {x : Rat} (h1 : cf p d ≤ x) (h2 : x < cf p (p.length - d - 1)) : pc d p x ∈ spn d p ∧ cf p (pc d p x) ≤ x ∧ x < cf p (pc d p x + 1) := by
  obtain ⟨i, hi, a, b⟩ := K.piece h1 h2
  have hm : i ∈ pcs d p x := List.mem_filter.mpr ⟨hi, decide_eq_true ⟨a, b⟩⟩
  have hp := List.length_pos_of_mem hm
  unfold pc
  rw [if_pos hp, List.getD_eq_getElem?_getD, List.getElem?_eq_getElem hp]
  have := List.getElem_mem hp
  obtain ⟨h3, h4⟩ := List.mem_filter.mp this
  have h4 := of_decide_eq_true h4
  exact ⟨h3, h4.1, h4.2⟩
theorem Kn.pc_end (K : Kn d p) : pc d p (cf p (p.length - d - 1)) = (spn d p).getD ((spn d p).length - 1) 0 := by
  unfold pc
  have : pcs d p (cf p (p.length - d - 1)) = [] := by
    unfold pcs
    rw [List.filter_eq_nil_iff]
    intro i hi
    obtain ⟨a1, a2, a3⟩ := spn_mem hi
    have := pair_le K.asc (i := i + 1) (j := p.length - d - 1) (by omega) K.n_lt
    simp only [decide_eq_true_eq, not_and]
    intro _ h
    exact absurd h (Rat.not_lt.mpr this)
  rw [this]
  rfl
theorem spn_first {i : Nat} (hi : i ∈ spn d p) (h : ∀ j ∈ spn d p, i ≤ j) : (spn d p).getD 0 0 = i := by
  have hp := List.length_pos_of_mem hi
  rw [List.getD_eq_getElem?_getD, List.getElem?_eq_getElem hp]
  show (spn d p)[0] = i
  obtain ⟨k, hk, e⟩ := List.mem_iff_getElem.mp hi
  have h1 := h _ (List.getElem_mem hp)
  rcases Nat.eq_zero_or_pos k with rfl | h0
  · exact e
  · have := List.pairwise_iff_getElem.mp (spn_asc (d := d) (p := p)) 0 k hp hk h0
    omega
theorem Kn.pc_start (K : Kn d p) : pc d p (cf p d) = (spn d p).getD 0 0 := by
  obtain ⟨h1, h2, h3⟩ := K.pc_of (x := cf p d) Rat.le_refl K.gnd
  refine (spn_first h1 fun j hj => ?_).symm
  obtain ⟨a1, a2, a3⟩ := spn_mem hj
  rcases Nat.lt_or_ge j (pc d p (cf p d)) with h | h
  · exfalso
    obtain ⟨b1, b2, b3⟩ := spn_mem h1
    have q1 := pair_le K.asc (i := j + 1) (j := pc d p (cf p d)) (by omega) (by omega)
    have q2 := pair_le K.asc (i := d) (j := j) a1 (by omega)
    grind
  · exact h
/-- the unlike knots are the left ends of the pieces, and the end -/
theorem Kn.brk_eq (K : Kn d p) : brk d p = (spn d p).map (cf p) ++ [cf p (p.length - d - 1)] := by
  have hl := K.lo
  have hn := K.n_lt
  obtain ⟨h1, h2⟩ := brkN_inv K.asc (lo := cf p d) (hi := cf p (p.length - d - 1)) p.length (Nat.le_refl _)
  refine sorted_ext h1 ?_ fun x => ?_
  · rw [List.pairwise_append]
    refine ⟨?_, by simp, fun x hx y hy => ?_⟩
    · rw [List.pairwise_map]
      have := List.pairwise_iff_getElem.mp (spn_asc (d := d) (p := p))
      rw [List.pairwise_iff_getElem]
      intro i j hi hj hij
      have q1 := this i j hi hj hij
      obtain ⟨a1, a2, a3⟩ := spn_mem (List.getElem_mem hi)
      obtain ⟨b1, b2, b3⟩ := spn_mem (List.getElem_mem hj)
      have := pair_le K.asc (i := (spn d p)[i] + 1) (j := (spn d p)[j]) (by omega) (by omega)
      grind
    · rw [List.mem_singleton.mp hy]
      obtain ⟨i, hi, rfl⟩ := List.mem_map.mp hx
      obtain ⟨a1, a2, a3⟩ := spn_mem hi
      have := pair_le K.asc (i := i + 1) (j := p.length - d - 1) (by omega) hn
      grind
  · show x ∈ brkN (cf p d) (cf p (p.length - d - 1)) p p.length ↔ _
    rw [h2, List.take_length, List.mem_append, List.mem_singleton]
    constructor
    · rintro ⟨a, b, c⟩
      by_cases e : x = cf p (p.length - d - 1)
      · exact .inr e
      · refine .inl ?_
        have hlt : x < cf p (p.length - d - 1) := by
          rcases Rat.le_iff_lt_or_eq.mp c with c | c
          · exact c
          · exact absurd c e
        obtain ⟨k, hk, rfl⟩ := List.mem_iff_getElem.mp a
        obtain ⟨i, q1, q2, q3, q4⟩ := next_gt K.asc hn hlt _ k rfl (cf_in hk) hk
        refine List.mem_map.mpr ⟨i, spn_iff.mpr ⟨?_, by omega, q4⟩, q3⟩
        rcases Nat.lt_or_ge i d with q | q
        · exfalso
          have := pair_le K.asc (i := i + 1) (j := d) (by omega) (by omega)
          grind
        · exact q
    · rintro (h | rfl)
      · obtain ⟨i, hi, rfl⟩ := List.mem_map.mp h
        obtain ⟨a1, a2, a3⟩ := spn_mem hi
        exact ⟨cf_mem (by omega), pair_le K.asc a1 (by omega), pair_le K.asc (by omega) hn⟩
      · exact ⟨cf_mem hn, Rat.le_of_lt K.gnd, Rat.le_refl⟩
end
end PV
set_option Elab.async false
set_option linter.all false
set_option maxRecDepth 100000
set_option maxHeartbeats 0
namespace K21
open PySem L2 PV
def i_wall : Nat := 0
def i_is_integer : Nat := 1
def i_is_count : Nat := 2
def i_common : Nat := 3
def i_Ratio_init : Nat := 4
def i_Ratio_add : Nat := 5
def i_Ratio_sub : Nat := 6
def i_Ratio_mul : Nat := 7
def i_Ratio_neg : Nat := 8
def i_Ratio_eq : Nat := 9
def i_Ratio_lt : Nat := 10
def i_Ratio_le : Nat := 11
def i_Ratio_over : Nat := 12
def i_Ratio_times : Nat := 13
def i_Ratio_sign : Nat := 14
def i_Ratio_is_zero : Nat := 15
def i_Ratio_is_whole : Nat := 16
def i_Ratio_floor : Nat := 17
def i_Ratio_size : Nat := 18
def i_check_ratio : Nat := 19
def i_is_ratio_row : Nat := 20
def i_is_ascending : Nat := 21
def i_is_knots : Nat := 22
def i_check_knots : Nat := 23
def i_space_size : Nat := 24
def i_ground : Nat := 25
def i_ground_of : Nat := 26
def i_breaks : Nat := 27
def i_breaks_of : Nat := 28
def i_multiplicity : Nat := 29
def i_spans : Nat := 30
def i_spans_of : Nat := 31
def i_span_at : Nat := 32
def i_span_of : Nat := 33
def i_smoothness : Nat := 34
def i_space_dimension : Nat := 35
def i_law_state : Nat := 36
def i_law_take : Nat := 37
def i_law_says : Nat := 38
def i_law_is_whole : Nat := 39
def i_law_same : Nat := 40
def i_law_result : Nat := 41
def i_law_knots_of : Nat := 42
def i_law_piece_places : Nat := 43
def i_law_piece_of : Nat := 44
def i_law_ground_number : Nat := 45
def i_law_are_knots : Nat := 46
def i_law : Nat := 47
def F_wall_e0 : Ex := (.con (.bl true))
def F_wall_b0 : Sms := (.cons .pass .nil)
def F_wall : FnI := ⟨"_wall", true, ["k"], ["k"], [], (.cons (.whl F_wall_e0 F_wall_b0) .nil)⟩
def F_is_integer : FnI := ⟨"is_integer", true, ["value"], ["value"], [], (.cons (.ret (.and (.isi (.var 0) .int) (.not (.isi (.var 0) .bool)))) .nil)⟩
def F_is_count : FnI := ⟨"is_count", true, ["value", "low", "high"], ["value", "low", "high"], [], (.cons (.ret (.and (.call i_is_integer (.cons (.var 0) .nil)) (.chain .le .le (.var 1) (.var 0) (.var 2)))) .nil)⟩
def F_common_e0 : Ex := (.cmp .gt (.var 1) (.con (.int 0)))
def F_common_b0 : Sms := (.cons (.par2 0 1 (.var 1) (.bin .mod (.var 0) (.var 1))) .nil)
def F_common : FnI := ⟨"common", true, ["a", "b"], ["a", "b"], [], (.cons (.par2 0 1 (.bif .abs (.cons (.var 0) .nil)) (.bif .abs (.cons (.var 1) .nil))) (.cons (.whl F_common_e0 F_common_b0) (.cons (.ret (.var 0)) .nil)))⟩
def F_Ratio_init : FnI := ⟨"__init__", false, ["self", "n", "d", "g"], ["self", "n", "d"], [1], (.cons (.ifs (.or (.not (.call i_is_integer (.cons (.var 1) .nil))) (.not (.call i_is_integer (.cons (.var 2) .nil)))) (.cons (.raise 0) .nil) .nil) (.cons (.ifs (.cmp .eq (.var 2) (.con (.int 0))) (.cons (.raise1 1 (.con (.str "zero"))) .nil) .nil) (.cons (.asg (.v 3) (.call i_common (.cons (.var 1) (.cons (.var 2) .nil)))) (.cons (.setfld "n" (.ite (.cmp .gt (.var 2) (.con (.int 0))) (.bin .fdiv (.var 1) (.var 3)) (.bin .fdiv (.neg (.var 1)) (.var 3)))) (.cons (.setfld "d" (.bin .fdiv (.bif .abs (.cons (.var 2) .nil)) (.var 3))) .nil)))))⟩
def F_Ratio_add : FnI := ⟨"__add__", false, ["self", "other"], ["self", "other"], [], (.cons (.ex (.call i_check_ratio (.cons (.var 1) .nil))) (.cons (.ret (.mk 0 (.cons (.bin .add (.bin .mul (.fld (.var 0) "n") (.fld (.var 1) "d")) (.bin .mul (.fld (.var 1) "n") (.fld (.var 0) "d"))) (.cons (.bin .mul (.fld (.var 0) "d") (.fld (.var 1) "d")) .nil)) [])) .nil))⟩
def F_Ratio_sub : FnI := ⟨"__sub__", false, ["self", "other"], ["self", "other"], [], (.cons (.ex (.call i_check_ratio (.cons (.var 1) .nil))) (.cons (.ret (.mk 0 (.cons (.bin .sub (.bin .mul (.fld (.var 0) "n") (.fld (.var 1) "d")) (.bin .mul (.fld (.var 1) "n") (.fld (.var 0) "d"))) (.cons (.bin .mul (.fld (.var 0) "d") (.fld (.var 1) "d")) .nil)) [])) .nil))⟩
def F_Ratio_mul : FnI := ⟨"__mul__", false, ["self", "other"], ["self", "other"], [], (.cons (.ex (.call i_check_ratio (.cons (.var 1) .nil))) (.cons (.ret (.mk 0 (.cons (.bin .mul (.fld (.var 0) "n") (.fld (.var 1) "n")) (.cons (.bin .mul (.fld (.var 0) "d") (.fld (.var 1) "d")) .nil)) [])) .nil))⟩
def F_Ratio_neg : FnI := ⟨"__neg__", false, ["self"], ["self"], [], (.cons (.ret (.mk 0 (.cons (.neg (.fld (.var 0) "n")) (.cons (.fld (.var 0) "d") .nil)) [])) .nil)⟩
def F_Ratio_eq : FnI := ⟨"__eq__", false, ["self", "other"], ["self", "other"], [], (.cons (.ret (.and (.isi (.var 1) (.own 0)) (.and (.cmp .eq (.fld (.var 0) "n") (.fld (.var 1) "n")) (.cmp .eq (.fld (.var 0) "d") (.fld (.var 1) "d"))))) .nil)⟩
def F_Ratio_lt : FnI := ⟨"__lt__", false, ["self", "other"], ["self", "other"], [], (.cons (.ex (.call i_check_ratio (.cons (.var 1) .nil))) (.cons (.ret (.cmp .lt (.bin .mul (.fld (.var 0) "n") (.fld (.var 1) "d")) (.bin .mul (.fld (.var 1) "n") (.fld (.var 0) "d")))) .nil))⟩
def F_Ratio_le : FnI := ⟨"__le__", false, ["self", "other"], ["self", "other"], [], (.cons (.ex (.call i_check_ratio (.cons (.var 1) .nil))) (.cons (.ret (.cmp .le (.bin .mul (.fld (.var 0) "n") (.fld (.var 1) "d")) (.bin .mul (.fld (.var 1) "n") (.fld (.var 0) "d")))) .nil))⟩
def F_Ratio_over : FnI := ⟨"over", false, ["self", "other"], ["self", "other"], [], (.cons (.ex (.call i_wall (.cons (.con (.int 0)) .nil))) .nil)⟩
def F_Ratio_times : FnI := ⟨"times", false, ["self", "k"], ["self", "k"], [], (.cons (.ex (.call i_wall (.cons (.con (.int 1)) .nil))) .nil)⟩
def F_Ratio_sign : FnI := ⟨"sign", false, ["self"], ["self"], [], (.cons (.ex (.call i_wall (.cons (.con (.int 2)) .nil))) .nil)⟩
def F_Ratio_is_zero : FnI := ⟨"is_zero", false, ["self"], ["self"], [], (.cons (.ex (.call i_wall (.cons (.con (.int 3)) .nil))) .nil)⟩
def F_Ratio_is_whole : FnI := ⟨"is_whole", false, ["self"], ["self"], [], (.cons (.ex (.call i_wall (.cons (.con (.int 4)) .nil))) .nil)⟩
def F_Ratio_floor : FnI := ⟨"floor", false, ["self"], ["self"], [], (.cons (.ex (.call i_wall (.cons (.con (.int 5)) .nil))) .nil)⟩
def F_Ratio_size : FnI := ⟨"size", false, ["self"], ["self"], [], (.cons (.ex (.call i_wall (.cons (.con (.int 6)) .nil))) .nil)⟩
def F_check_ratio : FnI := ⟨"check_ratio", true, ["value"], ["value"], [], (.cons (.ifs (.not (.isi (.var 0) (.own 0))) (.cons (.raise 0) .nil) .nil) .nil)⟩
def F_is_ratio_row_e0 : Ex := (.isi (.var 1) (.own 0))
def F_is_ratio_row : FnI := ⟨"is_ratio_row", true, ["value", "x"], ["value"], [], (.cons (.ret (.and (.isi (.var 0) .tup) (.bif .all (.cons (.lc (.seq (.var 0)) (.v 1) F_is_ratio_row_e0) .nil)))) .nil)⟩
def F_is_ascending_e0 : Ex := (.cmp .le (.var 1) (.var 2))
def F_is_ascending : FnI := ⟨"is_ascending", true, ["row", "x", "y"], ["row"], [], (.cons (.ret (.bif .all (.cons (.lc (.zip (.cons (.var 0) (.cons (.slc (.var 0) (.some (.con (.int 1))) .none) .nil))) (.tp [1, 2]) F_is_ascending_e0) .nil))) .nil)⟩
def F_is_knots_e0 : Ex := (.cmp .lt (.ix (.var 1) (.var 2)) (.ix (.var 1) (.bin .add (.bin .add (.var 2) (.var 0)) (.con (.int 1)))))
def F_is_knots : FnI := ⟨"is_knots", true, ["degree", "value", "j"], ["degree", "value"], [], (.cons (.ifs (.or (.not (.call i_is_count (.cons (.var 0) (.cons (.con (.int 0)) (.cons (.gcon "MOST_DEGREE" 8) .nil))))) (.or (.not (.call i_is_ratio_row (.cons (.var 1) .nil))) (.not (.call i_is_ascending (.cons (.var 1) .nil))))) (.cons (.ret (.con (.bl false))) .nil) .nil) (.cons (.ifs (.not (.chain .le .le (.bin .add (.bin .mul (.con (.int 2)) (.var 0)) (.con (.int 2))) (.bif .len (.cons (.var 1) .nil)) (.gcon "MOST_KNOTS" 60))) (.cons (.ret (.con (.bl false))) .nil) .nil) (.cons (.ifs (.not (.bif .all (.cons (.lc (.rng (.cons (.bin .sub (.bin .sub (.bif .len (.cons (.var 1) .nil)) (.var 0)) (.con (.int 1))) .nil)) (.v 2) F_is_knots_e0) .nil))) (.cons (.ret (.con (.bl false))) .nil) .nil) (.cons (.ret (.cmp .lt (.ix (.var 1) (.var 0)) (.ix (.var 1) (.bin .sub (.bin .sub (.bif .len (.cons (.var 1) .nil)) (.var 0)) (.con (.int 1)))))) .nil))))⟩
def F_check_knots : FnI := ⟨"check_knots", true, ["degree", "value"], ["degree", "value"], [], (.cons (.ifs (.not (.call i_is_knots (.cons (.var 0) (.cons (.var 1) .nil)))) (.cons (.raise 0) .nil) .nil) .nil)⟩
def F_space_size : FnI := ⟨"space_size", true, ["degree", "knots"], ["degree", "knots"], [], (.cons (.ex (.call i_check_knots (.cons (.var 0) (.cons (.var 1) .nil)))) (.cons (.ret (.bin .sub (.bin .sub (.bif .len (.cons (.var 1) .nil)) (.var 0)) (.con (.int 1)))) .nil))⟩
def F_ground : FnI := ⟨"ground", true, ["degree", "knots"], ["degree", "knots"], [], (.cons (.ex (.call i_check_knots (.cons (.var 0) (.cons (.var 1) .nil)))) (.cons (.ret (.call i_ground_of (.cons (.var 0) (.cons (.var 1) .nil)))) .nil))⟩
def F_ground_of : FnI := ⟨"ground_of", true, ["degree", "knots"], ["degree", "knots"], [], (.cons (.ret (.tup (.cons (.ix (.var 1) (.var 0)) (.cons (.ix (.var 1) (.bin .sub (.bin .sub (.bif .len (.cons (.var 1) .nil)) (.var 0)) (.con (.int 1)))) .nil)))) .nil)⟩
def F_breaks : FnI := ⟨"breaks", true, ["degree", "knots"], ["degree", "knots"], [], (.cons (.ex (.call i_check_knots (.cons (.var 0) (.cons (.var 1) .nil)))) (.cons (.ret (.call i_breaks_of (.cons (.var 0) (.cons (.var 1) .nil)))) .nil))⟩
def F_breaks_of_b0 : Sms := (.cons (.ifs (.and (.cmp .le (.var 2) (.var 5)) (.and (.cmp .le (.var 5) (.var 3)) (.or (.cmp .eq (.bif .len (.cons (.var 4) .nil)) (.con (.int 0))) (.cmp .lt (.ix (.var 4) (.neg (.con (.int 1)))) (.var 5))))) (.cons (.app 4 (.var 5)) .nil) .nil) .nil)
def F_breaks_of : FnI := ⟨"breaks_of", true, ["degree", "knots", "low", "high", "found", "x"], ["degree", "knots"], [], (.cons (.asg (.tp [2, 3]) (.call i_ground_of (.cons (.var 0) (.cons (.var 1) .nil)))) (.cons (.asg (.v 4) (.lst .nil)) (.cons (.for (.v 5) (.seq (.var 1)) F_breaks_of_b0) (.cons (.ret (.bif .tup (.cons (.var 4) .nil))) .nil))))⟩
def F_multiplicity_e0 : Ex := (.cmp .eq (.var 2) (.var 1))
def F_multiplicity_e1 : Ex := (.var 2)
def F_multiplicity : FnI := ⟨"multiplicity", true, ["knots", "x", "y"], ["knots", "x"], [], (.cons (.ret (.bif .len (.cons (.lcf (.seq (.var 0)) (.v 2) F_multiplicity_e0 F_multiplicity_e1) .nil))) .nil)⟩
def F_spans : FnI := ⟨"spans", true, ["degree", "knots"], ["degree", "knots"], [], (.cons (.ex (.call i_check_knots (.cons (.var 0) (.cons (.var 1) .nil)))) (.cons (.ret (.call i_spans_of (.cons (.var 0) (.cons (.var 1) .nil)))) .nil))⟩
def F_spans_of_e0 : Ex := (.cmp .lt (.ix (.var 1) (.var 2)) (.ix (.var 1) (.bin .add (.var 2) (.con (.int 1)))))
def F_spans_of_e1 : Ex := (.var 2)
def F_spans_of : FnI := ⟨"spans_of", true, ["degree", "knots", "i"], ["degree", "knots"], [], (.cons (.ret (.bif .tup (.cons (.lcf (.rng (.cons (.var 0) (.cons (.bin .sub (.bin .sub (.bif .len (.cons (.var 1) .nil)) (.var 0)) (.con (.int 1))) .nil))) (.v 2) F_spans_of_e0 F_spans_of_e1) .nil))) .nil)⟩
def F_span_at : FnI := ⟨"span_at", true, ["degree", "knots", "x"], ["degree", "knots", "x"], [], (.cons (.ex (.call i_check_knots (.cons (.var 0) (.cons (.var 1) .nil)))) (.cons (.ex (.call i_check_ratio (.cons (.var 2) .nil))) (.cons (.ret (.call i_span_of (.cons (.var 0) (.cons (.var 1) (.cons (.var 2) .nil))))) .nil)))⟩
def F_span_of_e0 : Ex := (.and (.cmp .le (.ix (.var 1) (.var 7)) (.var 2)) (.cmp .lt (.var 2) (.ix (.var 1) (.bin .add (.var 7) (.con (.int 1))))))
def F_span_of_e1 : Ex := (.var 7)
def F_span_of : FnI := ⟨"span_of", true, ["degree", "knots", "x", "low", "high", "places", "found", "i"], ["degree", "knots", "x"], [], (.cons (.asg (.tp [3, 4]) (.call i_ground_of (.cons (.var 0) (.cons (.var 1) .nil)))) (.cons (.ifs (.or (.cmp .lt (.var 2) (.var 3)) (.cmp .lt (.var 4) (.var 2))) (.cons (.raise1 1 (.con (.str "outside"))) .nil) .nil) (.cons (.asg (.v 5) (.call i_spans_of (.cons (.var 0) (.cons (.var 1) .nil)))) (.cons (.asg (.v 6) (.lcf (.seq (.var 5)) (.v 7) F_span_of_e0 F_span_of_e1)) (.cons (.ret (.ite (.cmp .gt (.bif .len (.cons (.var 6) .nil)) (.con (.int 0))) (.ix (.var 6) (.con (.int 0))) (.ix (.var 5) (.neg (.con (.int 1)))))) .nil)))))⟩
def F_smoothness : FnI := ⟨"smoothness", true, ["degree", "knots", "x"], ["degree", "knots", "x"], [], (.cons (.ex (.call i_check_knots (.cons (.var 0) (.cons (.var 1) .nil)))) (.cons (.ex (.call i_check_ratio (.cons (.var 2) .nil))) (.cons (.ret (.bin .sub (.var 0) (.call i_multiplicity (.cons (.var 1) (.cons (.var 2) .nil))))) .nil)))⟩
def F_space_dimension_e0 : Ex := (.and (.cmp .lt (.var 2) (.var 4)) (.cmp .lt (.var 4) (.var 3)))
def F_space_dimension_e1 : Ex := (.var 4)
def F_space_dimension : FnI := ⟨"space_dimension", true, ["degree", "knots", "low", "high", "x"], ["degree", "knots"], [], (.cons (.ex (.call i_check_knots (.cons (.var 0) (.cons (.var 1) .nil)))) (.cons (.asg (.tp [2, 3]) (.call i_ground_of (.cons (.var 0) (.cons (.var 1) .nil)))) (.cons (.ret (.bin .add (.bin .add (.var 0) (.con (.int 1))) (.bif .len (.cons (.lcf (.seq (.var 1)) (.v 4) F_space_dimension_e0 F_space_dimension_e1) .nil)))) .nil)))⟩
def F_law_state_b0 : Sms := (.cons (.asg (.v 1) (.bin .add (.bin .mul (.var 1) (.con (.int 1000003))) (.bif .abs (.cons (.var 3) .nil)))) (.cons (.asg (.v 2) (.bin .mod (.bif .int (.cons (.bin .add (.bin .mul (.var 2) (.con (.int 48271))) (.var 3)) .nil)) (.con (.int 2147483647)))) .nil))
def F_law_state : FnI := ⟨"_law_state", true, ["script", "seed", "total", "cell"], ["script"], [], (.cons (.asg (.v 1) (.con (.int 0))) (.cons (.asg (.v 2) (.con (.int 1))) (.cons (.for (.v 3) (.seq (.slc (.var 0) .none (.some (.con (.int 63))))) F_law_state_b0) (.cons (.ret (.lst (.cons (.var 1) (.cons (.ite (.cmp .ne (.var 2) (.con (.int 1973665155))) (.var 2) (.con (.int 7))) .nil)))) .nil))))⟩
def F_law_take : FnI := ⟨"_law_take", true, ["state", "m", "value"], ["state", "m"], [], (.cons (.ifs (.cmp .gt (.ix (.var 0) (.con (.int 0))) (.con (.int 0))) (.cons (.asg (.v 2) (.bin .mod (.bif .int (.cons (.ix (.var 0) (.con (.int 0))) .nil)) (.var 1))) (.cons (.setix 0 (.con (.int 0)) (.bin .fdiv (.ix (.var 0) (.con (.int 0))) (.var 1))) (.cons (.ret (.var 2)) .nil))) .nil) (.cons (.setix 0 (.con (.int 1)) (.bin .mod (.bif .int (.cons (.bin .add (.bin .mul (.ix (.var 0) (.con (.int 1))) (.con (.int 48271))) (.con (.int 11))) .nil)) (.con (.int 2147483647)))) (.cons (.ret (.bin .mod (.bif .int (.cons (.bin .fdiv (.ix (.var 0) (.con (.int 1))) (.con (.int 7))) .nil)) (.var 1))) .nil)))⟩
def F_law_says : FnI := ⟨"_law_says", true, ["value", "due"], ["value", "due"], [], (.cons (.ret (.and (.isi (.var 0) .bool) (.cmp .eq (.var 0) (.var 1)))) .nil)⟩
def F_law_is_whole : FnI := ⟨"_law_is_whole", true, ["value"], ["value"], [], (.cons (.ret (.and (.isi (.var 0) .int) (.not (.isi (.var 0) .bool)))) .nil)⟩
def F_law_same_e0 : Ex := (.call i_law_same (.cons (.ix (.var 0) (.var 2)) (.cons (.ix (.var 1) (.var 2)) .nil)))
def F_law_same : FnI := ⟨"_law_same", true, ["one", "two", "k"], ["one", "two"], [], (.cons (.ifs (.isi (.var 1) .tup) (.cons (.ret (.and (.isi (.var 0) .tup) (.and (.cmp .eq (.bif .len (.cons (.var 0) .nil)) (.bif .len (.cons (.var 1) .nil))) (.bif .all (.cons (.lc (.rng (.cons (.bif .len (.cons (.var 1) .nil)) .nil)) (.v 2) F_law_same_e0) .nil))))) .nil) .nil) (.cons (.ifs (.isi (.var 1) .str) (.cons (.ret (.and (.isi (.var 0) .str) (.cmp .eq (.var 0) (.var 1)))) .nil) .nil) (.cons (.ifs (.isN (.var 1)) (.cons (.ret (.isN (.var 0))) .nil) .nil) (.cons (.ret (.and (.call i_law_is_whole (.cons (.var 0) .nil)) (.cmp .eq (.var 0) (.var 1)))) .nil))))⟩
def F_law_result : FnI := ⟨"_law_result", true, ["act", "given", "refused"], ["act", "given"], [], (.cons (.tryS (.cons (.ifs (.cmp .eq (.bif .len (.cons (.var 1) .nil)) (.con (.int 1))) (.cons (.ret (.tup (.cons (.con (.str "told")) (.cons (.callv 0 (.cons (.ix (.var 1) (.con (.int 0))) .nil)) .nil)))) .nil) .nil) (.cons (.ifs (.cmp .eq (.bif .len (.cons (.var 1) .nil)) (.con (.int 2))) (.cons (.ret (.tup (.cons (.con (.str "told")) (.cons (.callv 0 (.cons (.ix (.var 1) (.con (.int 0))) (.cons (.ix (.var 1) (.con (.int 1))) .nil))) .nil)))) .nil) .nil) (.cons (.ifs (.cmp .eq (.bif .len (.cons (.var 1) .nil)) (.con (.int 3))) (.cons (.ret (.tup (.cons (.con (.str "told")) (.cons (.callv 0 (.cons (.ix (.var 1) (.con (.int 0))) (.cons (.ix (.var 1) (.con (.int 1))) (.cons (.ix (.var 1) (.con (.int 2))) .nil)))) .nil)))) .nil) .nil) (.cons (.ifs (.cmp .eq (.bif .len (.cons (.var 1) .nil)) (.con (.int 4))) (.cons (.ret (.tup (.cons (.con (.str "told")) (.cons (.callv 0 (.cons (.ix (.var 1) (.con (.int 0))) (.cons (.ix (.var 1) (.con (.int 1))) (.cons (.ix (.var 1) (.con (.int 2))) (.cons (.ix (.var 1) (.con (.int 3))) .nil))))) .nil)))) .nil) .nil) (.cons (.ret (.tup (.cons (.con (.str "told")) (.cons (.callv 0 (.cons (.ix (.var 1) (.con (.int 0))) (.cons (.ix (.var 1) (.con (.int 1))) (.cons (.ix (.var 1) (.con (.int 2))) (.cons (.ix (.var 1) (.con (.int 3))) (.cons (.ix (.var 1) (.con (.int 4))) .nil)))))) .nil)))) .nil))))) (.con 0 (.cons (.ret (.tup (.cons (.con (.str "malformed")) (.cons (.con .non) .nil)))) .nil) (.fld 1 2 "refused" .nil))) .nil)⟩
def F_law_knots_of_s0 : Sm := (.ifs (.and (.cmp .gt (.var 1) (.con (.int 0))) (.cmp .eq (.callio i_law_take 0 (.cons (.con (.int 8)) .nil)) (.con (.int 0)))) (.cons (.ret (.bin .add (.bin .add (.bin .mul (.tup (.cons (.mk 0 (.cons (.con (.int 0)) .nil) [.int 1]) .nil)) (.bin .add (.var 1) (.con (.int 1)))) (.bin .mul (.tup (.cons (.mk 0 (.cons (.con (.int 1)) .nil) [.int 1]) .nil)) (.bin .add (.var 1) (.con (.int 1))))) (.tup (.cons (.mk 0 (.cons (.con (.int 2)) .nil) [.int 1]) .nil)))) .nil) .nil)
def F_law_knots_of_s1 : Sm := (.asg (.v 2) (.lst (.cons (.mk 0 (.cons (.bin .sub (.callio i_law_take 0 (.cons (.con (.int 5)) .nil)) (.con (.int 2))) .nil) [.int 1]) .nil)))
def F_law_knots_of_b0 : Sms := (.cons (.app 2 (.bin .add (.ix (.var 2) (.neg (.con (.int 1)))) (.mk 0 (.cons (.bin .add (.con (.int 1)) (.callio i_law_take 0 (.cons (.con (.int 2)) .nil))) (.cons (.bin .add (.con (.int 1)) (.callio i_law_take 0 (.cons (.con (.int 2)) .nil))) .nil)) []))) .nil)
def F_law_knots_of_s2 : Sm := (.for (.v 3) (.rng (.cons (.bin .add (.con (.int 1)) (.callio i_law_take 0 (.cons (.con (.int 3)) .nil))) .nil)) F_law_knots_of_b0)
def F_law_knots_of_s3 : Sm := (.par2 4 5 (.bin .mul (.lst (.cons (.ix (.var 2) (.con (.int 0))) .nil)) (.bin .add (.var 1) (.con (.int 1)))) (.bin .mul (.lst (.cons (.ix (.var 2) (.neg (.con (.int 1)))) .nil)) (.bin .add (.var 1) (.con (.int 1)))))
def F_law_knots_of_e0 : Ex := (.bin .sub (.ix (.var 2) (.con (.int 0))) (.mk 0 (.cons (.var 6) .nil) [.int 1]))
def F_law_knots_of_s4 : Sm := (.ifs (.cmp .eq (.callio i_law_take 0 (.cons (.con (.int 2)) .nil)) (.con (.int 0))) (.cons (.asg (.v 4) (.lc (.rng (.cons (.var 1) (.cons (.neg (.con (.int 1))) (.cons (.neg (.con (.int 1))) .nil)))) (.v 6) F_law_knots_of_e0)) .nil) .nil)
def F_law_knots_of_e1 : Ex := (.bin .add (.ix (.var 2) (.neg (.con (.int 1)))) (.mk 0 (.cons (.var 6) .nil) [.int 1]))
def F_law_knots_of_s5 : Sm := (.ifs (.cmp .eq (.callio i_law_take 0 (.cons (.con (.int 2)) .nil)) (.con (.int 0))) (.cons (.asg (.v 5) (.lc (.rng (.cons (.bin .add (.var 1) (.con (.int 1))) .nil)) (.v 6) F_law_knots_of_e1)) .nil) .nil)
def F_law_knots_of_s6 : Sm := (.asg (.v 7) (.lst .nil))
def F_law_knots_of_b1 : Sms := (.cons (.asg (.v 7) (.bin .add (.var 7) (.bin .mul (.lst (.cons (.var 8) .nil)) (.bin .add (.con (.int 1)) (.callio i_law_take 0 (.cons (.bif .min2 (.cons (.bin .add (.var 1) (.con (.int 1))) (.cons (.con (.int 2)) .nil))) .nil)))))) .nil)
def F_law_knots_of_s7 : Sm := (.for (.v 8) (.seq (.slc (.var 2) (.some (.con (.int 1))) (.some (.neg (.con (.int 1)))))) F_law_knots_of_b1)
def F_law_knots_of_s8 : Sm := (.ret (.bif .tup (.cons (.bin .add (.bin .add (.var 4) (.var 7)) (.var 5)) .nil)))
def F_law_knots_of : FnI := ⟨"_law_knots_of", true, ["state", "degree", "points", "turn", "left", "right", "k", "inner", "x"], ["state", "degree"], [], (.cons F_law_knots_of_s0 (.cons F_law_knots_of_s1 (.cons F_law_knots_of_s2 (.cons F_law_knots_of_s3 (.cons F_law_knots_of_s4 (.cons F_law_knots_of_s5 (.cons F_law_knots_of_s6 (.cons F_law_knots_of_s7 (.cons F_law_knots_of_s8 .nil)))))))))⟩
def F_law_piece_places_e0 : Ex := (.cmp .lt (.ix (.var 1) (.var 2)) (.ix (.var 1) (.bin .add (.var 2) (.con (.int 1)))))
def F_law_piece_places_e1 : Ex := (.var 2)
def F_law_piece_places : FnI := ⟨"_law_piece_places", true, ["degree", "knots", "i"], ["degree", "knots"], [], (.cons (.ret (.lcf (.rng (.cons (.var 0) (.cons (.bin .sub (.bin .sub (.bif .len (.cons (.var 1) .nil)) (.var 0)) (.con (.int 1))) .nil))) (.v 2) F_law_piece_places_e0 F_law_piece_places_e1)) .nil)⟩
def F_law_piece_of_e0 : Ex := (.and (.cmp .le (.ix (.var 1) (.var 5)) (.var 2)) (.cmp .lt (.var 2) (.ix (.var 1) (.bin .add (.var 5) (.con (.int 1))))))
def F_law_piece_of_e1 : Ex := (.var 5)
def F_law_piece_of : FnI := ⟨"_law_piece_of", true, ["degree", "knots", "x", "places", "found", "i"], ["degree", "knots", "x"], [], (.cons (.asg (.v 3) (.call i_law_piece_places (.cons (.var 0) (.cons (.var 1) .nil)))) (.cons (.asg (.v 4) (.lcf (.seq (.var 3)) (.v 5) F_law_piece_of_e0 F_law_piece_of_e1)) (.cons (.ret (.ite (.cmp .gt (.bif .len (.cons (.var 4) .nil)) (.con (.int 0))) (.ix (.var 4) (.con (.int 0))) (.ix (.var 3) (.neg (.con (.int 1)))))) .nil)))⟩
def F_law_ground_number : FnI := ⟨"_law_ground_number", true, ["state", "degree", "knots", "low", "high"], ["state", "degree", "knots"], [], (.cons (.par2 3 4 (.ix (.var 2) (.var 1)) (.ix (.var 2) (.bin .sub (.bin .sub (.bif .len (.cons (.var 2) .nil)) (.var 1)) (.con (.int 1))))) (.cons (.ret (.bin .add (.var 3) (.bin .mul (.bin .sub (.var 4) (.var 3)) (.mk 0 (.cons (.callio i_law_take 0 (.cons (.con (.int 13)) .nil)) (.cons (.con (.int 12)) .nil)) [])))) .nil))⟩
def F_law_are_knots_e0 : Ex := (.isi (.var 2) (.own 0))
def F_law_are_knots_e1 : Ex := (.cmp .lt (.ix (.var 1) (.bin .add (.var 3) (.con (.int 1)))) (.ix (.var 1) (.var 3)))
def F_law_are_knots_e2 : Ex := (.cmp .eq (.var 4) (.var 2))
def F_law_are_knots_e3 : Ex := (.var 4)
def F_law_are_knots_e4 : Ex := (.cmp .gt (.bif .len (.cons (.lcf (.seq (.var 1)) (.v 4) F_law_are_knots_e2 F_law_are_knots_e3) .nil)) (.bin .add (.var 0) (.con (.int 1))))
def F_law_are_knots : FnI := ⟨"_law_are_knots", true, ["degree", "value", "x", "k", "y"], ["degree", "value"], [], (.cons (.ifs (.or (.not (.call i_law_is_whole (.cons (.var 0) .nil))) (.or (.not (.chain .le .le (.con (.int 0)) (.var 0) (.con (.int 8)))) (.or (.not (.isi (.var 1) .tup)) (.not (.bif .all (.cons (.lc (.seq (.var 1)) (.v 2) F_law_are_knots_e0) .nil)))))) (.cons (.ret (.con (.bl false))) .nil) .nil) (.cons (.ifs (.or (.not (.chain .le .le (.bin .add (.bin .mul (.con (.int 2)) (.var 0)) (.con (.int 2))) (.bif .len (.cons (.var 1) .nil)) (.con (.int 60)))) (.bif .any (.cons (.lc (.rng (.cons (.bin .sub (.bif .len (.cons (.var 1) .nil)) (.con (.int 1))) .nil)) (.v 3) F_law_are_knots_e1) .nil))) (.cons (.ret (.con (.bl false))) .nil) .nil) (.cons (.ifs (.bif .any (.cons (.lc (.seq (.var 1)) (.v 2) F_law_are_knots_e4) .nil)) (.cons (.ret (.con (.bl false))) .nil) .nil) (.cons (.ret (.cmp .lt (.ix (.var 1) (.var 0)) (.ix (.var 1) (.bin .sub (.bin .sub (.bif .len (.cons (.var 1) .nil)) (.var 0)) (.con (.int 1)))))) .nil))))⟩
def F_law_s0 : Sm := (.asg (.v 1) (.call i_law_state (.cons (.var 0) .nil)))
def F_law_s1 : Sm := (.asg (.v 2) (.callio i_law_take 1 (.cons (.con (.int 5)) .nil)))
def F_law_s2 : Sm := (.asg (.v 3) (.callio i_law_knots_of 1 (.cons (.var 2) .nil)))
def F_law_s3 : Sm := (.asg (.v 4) (.lst .nil))
def F_law_b0 : Sms := (.cons (.asg (.v 4) (.bin .add (.var 4) (.bin .mul (.lst (.cons (.mk 0 (.cons (.var 5) .nil) [.int 1]) .nil)) (.callio i_law_take 1 (.cons (.bin .add (.var 2) (.con (.int 3))) .nil))))) .nil)
def F_law_s4 : Sm := (.for (.v 5) (.rng (.cons (.con (.int 5)) .nil)) F_law_b0)
def F_law_s5 : Sm := (.asg (.v 4) (.bif .tup (.cons (.var 4) .nil)))
def F_law_s6 : Sm := (.asg (.v 6) (.lst (.cons (.tup (.cons (.var 2) (.cons (.var 3) .nil))) (.cons (.tup (.cons (.var 2) (.cons (.var 4) .nil))) (.cons (.tup (.cons (.bin .add (.var 2) (.con (.int 1))) (.cons (.var 3) .nil))) (.cons (.tup (.cons (.var 2) (.cons (.bif .lst (.cons (.var 3) .nil)) .nil))) (.cons (.tup (.cons (.var 2) (.cons (.rev (.var 3)) .nil))) (.cons (.tup (.cons (.var 2) (.cons (.bin .add (.var 3) (.tup (.cons (.bin .add (.ix (.var 3) (.neg (.con (.int 1)))) (.mk 0 (.cons (.con (.int 1)) .nil) [.int 1])) .nil))) .nil))) (.cons (.tup (.cons (.var 2) (.cons (.slc (.var 3) .none (.some (.bin .add (.bin .mul (.con (.int 2)) (.var 2)) (.con (.int 1))))) .nil))) .nil)))))))))
def F_law_s7 : Sm := (.asg (.v 6) (.bin .add (.var 6) (.lst (.cons (.tup (.cons (.var 2) (.cons (.bin .mul (.tup (.cons (.mk 0 (.cons (.con (.int 1)) .nil) [.int 1]) .nil)) (.bin .add (.bin .mul (.con (.int 2)) (.var 2)) (.con (.int 2)))) .nil))) (.cons (.tup (.cons (.neg (.con (.int 1))) (.cons (.var 3) .nil))) (.cons (.tup (.cons (.con (.int 9)) (.cons (.var 3) .nil))) (.cons (.tup (.cons (.con .non) (.cons (.var 3) .nil))) (.cons (.tup (.cons (.con (.bl true)) (.cons (.var 3) .nil))) (.cons (.tup (.cons (.var 2) (.cons (.con .non) .nil))) (.cons (.tup (.cons (.var 2) (.cons (.bin .mul (.tup (.cons (.con (.int 1)) .nil)) (.con (.int 9))) .nil))) (.cons (.tup (.cons (.var 2) (.cons (.bin .mul (.var 3) (.con (.int 20))) .nil))) .nil)))))))))))
def F_law_e0 : Ex := (.ix (.call i_law_result (.cons (.var 10) (.cons (.tup (.cons (.var 7) (.cons (.var 8) .nil))) .nil))) (.con (.int 0)))
def F_law_e1 : Ex := (.ix (.call i_law_result (.cons (.var 10) (.cons (.tup (.cons (.var 7) (.cons (.var 8) (.cons (.mk 0 (.cons (.con (.int 0)) .nil) [.int 1]) .nil)))) .nil))) (.con (.int 0)))
def F_law_b1 : Sms := (.cons (.asg (.v 9) (.call i_law_are_knots (.cons (.var 7) (.cons (.var 8) .nil)))) (.cons (.ifs (.not (.call i_law_says (.cons (.call i_is_knots (.cons (.var 7) (.cons (.var 8) .nil))) (.cons (.var 9) .nil)))) (.cons (.ret (.con (.bl false))) .nil) .nil) (.cons (.ifs (.not (.var 9)) (.cons (.ifs (.cmp .ne (.lc (.seq (.tup (.cons (.gfn i_space_size) (.cons (.gfn i_ground) (.cons (.gfn i_breaks) (.cons (.gfn i_spans) (.cons (.gfn i_space_dimension) .nil))))))) (.v 10) F_law_e0) (.bin .mul (.lst (.cons (.con (.str "malformed")) .nil)) (.con (.int 5)))) (.cons (.ret (.con (.bl false))) .nil) .nil) (.cons (.ifs (.cmp .ne (.lc (.seq (.tup (.cons (.gfn i_span_at) (.cons (.gfn i_smoothness) .nil)))) (.v 10) F_law_e1) (.bin .mul (.lst (.cons (.con (.str "malformed")) .nil)) (.con (.int 2)))) (.cons (.ret (.con (.bl false))) .nil) .nil) .nil)) .nil) .nil)))
def F_law_s8 : Sm := (.for (.tp [7, 8]) (.seq (.var 6)) F_law_b1)
def F_law_s9 : Sm := (.asg (.v 11) (.bin .sub (.bin .sub (.bif .len (.cons (.var 3) .nil)) (.var 2)) (.con (.int 1))))
def F_law_s10 : Sm := (.asg (.tp [12, 13]) (.tup (.cons (.ix (.var 3) (.var 2)) (.cons (.ix (.var 3) (.var 11)) .nil))))
def F_law_s11 : Sm := (.asg (.v 14) (.lst .nil))
def F_law_b2 : Sms := (.cons (.ifs (.and (.not (.cmp .lt (.var 15) (.var 12))) (.and (.not (.cmp .lt (.var 13) (.var 15))) (.cmp .nmem (.var 15) (.var 14)))) (.cons (.app 14 (.var 15)) .nil) .nil) .nil)
def F_law_s12 : Sm := (.for (.v 15) (.seq (.var 3)) F_law_b2)
def F_law_e2 : Ex := (.cmp .lt (.ix (.var 3) (.var 17)) (.ix (.var 3) (.bin .add (.var 17) (.con (.int 1)))))
def F_law_e3 : Ex := (.var 17)
def F_law_s13 : Sm := (.asg (.v 16) (.lcf (.rng (.cons (.var 2) (.cons (.var 11) .nil))) (.v 17) F_law_e2 F_law_e3))
def F_law_s14 : Sm := (.ifs (.or (.not (.call i_law_same (.cons (.call i_space_size (.cons (.var 2) (.cons (.var 3) .nil))) (.cons (.var 11) .nil)))) (.or (.cmp .ne (.call i_ground (.cons (.var 2) (.cons (.var 3) .nil))) (.tup (.cons (.var 12) (.cons (.var 13) .nil)))) (.or (.cmp .ne (.call i_breaks (.cons (.var 2) (.cons (.var 3) .nil))) (.bif .tup (.cons (.var 14) .nil))) (.not (.call i_law_same (.cons (.call i_spans (.cons (.var 2) (.cons (.var 3) .nil))) (.cons (.bif .tup (.cons (.var 16) .nil)) .nil))))))) (.cons (.ret (.con (.bl false))) .nil) .nil)
def F_law_e4 : Ex := (.ix (.var 3) (.var 17))
def F_law_s15 : Sm := (.ifs (.or (.cmp .ne (.bif .len (.cons (.var 16) .nil)) (.bin .sub (.bif .len (.cons (.var 14) .nil)) (.con (.int 1)))) (.cmp .ne (.lc (.seq (.var 16)) (.v 17) F_law_e4) (.slc (.var 14) .none (.some (.neg (.con (.int 1))))))) (.cons (.ret (.con (.bl false))) .nil) .nil)
def F_law_s16 : Sm := (.asg (.v 15) (.callio i_law_ground_number 1 (.cons (.var 2) (.cons (.var 3) .nil))))
def F_law_s17 : Sm := (.ifs (.or (.not (.call i_law_same (.cons (.call i_span_at (.cons (.var 2) (.cons (.var 3) (.cons (.var 15) .nil)))) (.cons (.call i_law_piece_of (.cons (.var 2) (.cons (.var 3) (.cons (.var 15) .nil)))) .nil)))) (.or (.cmp .ne (.call i_span_at (.cons (.var 2) (.cons (.var 3) (.cons (.var 13) .nil)))) (.ix (.var 16) (.neg (.con (.int 1))))) (.cmp .ne (.call i_span_at (.cons (.var 2) (.cons (.var 3) (.cons (.var 12) .nil)))) (.ix (.var 16) (.con (.int 0)))))) (.cons (.ret (.con (.bl false))) .nil) .nil)
def F_law_e5 : Ex := (.call i_law_result (.cons (.gfn i_span_at) (.cons (.tup (.cons (.var 2) (.cons (.var 3) (.cons (.var 18) .nil)))) .nil)))
def F_law_s18 : Sm := (.ifs (.cmp .ne (.lc (.seq (.tup (.cons (.bin .sub (.var 12) (.mk 0 (.cons (.con (.int 1)) (.cons (.con (.int 9)) .nil)) [])) (.cons (.bin .add (.var 13) (.mk 0 (.cons (.con (.int 1)) (.cons (.con (.int 9)) .nil)) [])) .nil)))) (.v 18) F_law_e5) (.bin .mul (.lst (.cons (.tup (.cons (.con (.str "refused")) (.cons (.con (.str "outside")) .nil))) .nil)) (.con (.int 2)))) (.cons (.ret (.con (.bl false))) .nil) .nil)
def F_law_s19 : Sm := (.asg (.v 19) (.ix (.var 3) (.callio i_law_take 1 (.cons (.bif .len (.cons (.var 3) .nil)) .nil))))
def F_law_e6 : Ex := (.cmp .eq (.var 18) (.var 19))
def F_law_e7 : Ex := (.var 18)
def F_law_s20 : Sm := (.asg (.v 20) (.bif .len (.cons (.lcf (.seq (.var 3)) (.v 18) F_law_e6 F_law_e7) .nil)))
def F_law_s21 : Sm := (.ifs (.or (.not (.call i_law_same (.cons (.call i_multiplicity (.cons (.var 3) (.cons (.var 19) .nil))) (.cons (.var 20) .nil)))) (.or (.not (.call i_law_same (.cons (.call i_smoothness (.cons (.var 2) (.cons (.var 3) (.cons (.var 19) .nil)))) (.cons (.bin .sub (.var 2) (.var 20)) .nil)))) (.cmp .ne (.call i_smoothness (.cons (.var 2) (.cons (.var 3) (.cons (.bin .sub (.var 12) (.mk 0 (.cons (.con (.int 1)) (.cons (.con (.int 7)) .nil)) [])) .nil)))) (.var 2)))) (.cons (.ret (.con (.bl false))) .nil) .nil)
def F_law_e8 : Ex := (.and (.cmp .lt (.var 12) (.var 18)) (.cmp .lt (.var 18) (.var 13)))
def F_law_e9 : Ex := (.var 18)
def F_law_s22 : Sm := (.ifs (.not (.call i_law_same (.cons (.call i_space_dimension (.cons (.var 2) (.cons (.var 3) .nil))) (.cons (.bin .add (.bin .add (.var 2) (.con (.int 1))) (.bif .len (.cons (.lcf (.seq (.var 3)) (.v 18) F_law_e8 F_law_e9) .nil))) .nil)))) (.cons (.ret (.con (.bl false))) .nil) .nil)
def F_law_e10 : Ex := (.ix (.call i_law_result (.cons (.var 10) (.cons (.tup (.cons (.var 2) (.cons (.var 3) (.cons (.var 21) .nil)))) .nil))) (.con (.int 0)))
def F_law_s23 : Sm := (.ret (.cmp .eq (.lc (.seq (.tup (.cons (.tup (.cons (.gfn i_span_at) (.cons (.con (.int 1)) .nil))) (.cons (.tup (.cons (.gfn i_span_at) (.cons (.con .non) .nil))) (.cons (.tup (.cons (.gfn i_smoothness) (.cons (.con (.int 1)) .nil))) .nil))))) (.tp [10, 21]) F_law_e10) (.bin .mul (.lst (.cons (.con (.str "malformed")) .nil)) (.con (.int 3)))))
def F_law : FnI := ⟨"law", true, ["script", "state", "d", "knots", "rough", "k", "tried", "degree", "value", "good", "act", "n", "low", "high", "inner", "x", "places", "i", "y", "own", "many", "bad"], ["script"], [], (.cons F_law_s0 (.cons F_law_s1 (.cons F_law_s2 (.cons F_law_s3 (.cons F_law_s4 (.cons F_law_s5 (.cons F_law_s6 (.cons F_law_s7 (.cons F_law_s8 (.cons F_law_s9 (.cons F_law_s10 (.cons F_law_s11 (.cons F_law_s12 (.cons F_law_s13 (.cons F_law_s14 (.cons F_law_s15 (.cons F_law_s16 (.cons F_law_s17 (.cons F_law_s18 (.cons F_law_s19 (.cons F_law_s20 (.cons F_law_s21 (.cons F_law_s22 (.cons F_law_s23 .nil))))))))))))))))))))))))⟩
def C_Ratio : ClsI := ⟨"Ratio", ["n", "d"], i_Ratio_init, [("__init__", i_Ratio_init), ("__add__", i_Ratio_add), ("__sub__", i_Ratio_sub), ("__mul__", i_Ratio_mul), ("__neg__", i_Ratio_neg), ("__eq__", i_Ratio_eq), ("__lt__", i_Ratio_lt), ("__le__", i_Ratio_le), ("over", i_Ratio_over), ("times", i_Ratio_times), ("sign", i_Ratio_sign), ("is_zero", i_Ratio_is_zero), ("is_whole", i_Ratio_is_whole), ("floor", i_Ratio_floor), ("size", i_Ratio_size)]⟩
def P : Prg := ⟨[F_wall, F_is_integer, F_is_count, F_common, F_Ratio_init, F_Ratio_add, F_Ratio_sub, F_Ratio_mul, F_Ratio_neg, F_Ratio_eq, F_Ratio_lt, F_Ratio_le, F_Ratio_over, F_Ratio_times, F_Ratio_sign, F_Ratio_is_zero, F_Ratio_is_whole, F_Ratio_floor, F_Ratio_size, F_check_ratio, F_is_ratio_row, F_is_ascending, F_is_knots, F_check_knots, F_space_size, F_ground, F_ground_of, F_breaks, F_breaks_of, F_multiplicity, F_spans, F_spans_of, F_span_at, F_span_of, F_smoothness, F_space_dimension, F_law_state, F_law_take, F_law_says, F_law_is_whole, F_law_same, F_law_result, F_law_knots_of, F_law_piece_places, F_law_piece_of, F_law_ground_number, F_law_are_knots, F_law], [C_Ratio], [⟨"Malformed", none⟩, ⟨"Refused", some "reason"⟩], [("MOST_DEGREE", 8), ("MOST_KNOTS", 60)]⟩
def frs : List Str := ["abs", "all", "any", "bool", "int", "isinstance", "len", "list", "min", "range", "str", "tuple", "zip"]
end K21
set_option Elab.async false
set_option linter.all false
set_option maxRecDepth 100000
set_option maxHeartbeats 4000000
namespace K21
open PySem L2 PV
abbrev W : Nat := 100000
section
variable {n : Nat}
/-! ### whole numbers, the class of Ratios -/
theorem cls0 : P.cls[0]? = some C_Ratio := rfl
@[simp] theorem clsF0 : clsF P 0 = (["n", "d"] : List Str) := rfl
theorem C_init : C_Ratio.init = i_Ratio_init := rfl
theorem C_flds : C_Ratio.flds.length = 2 := rfl
@[simp] theorem look_n {a b : D} : (List.lookup ("n" : Str) (List.zip (["n", "d"] : List Str) [a, b])) = some a := by simp
@[simp] theorem look_d {a b : D} : (List.lookup ("d" : Str) (List.zip (["n", "d"] : List Str) [a, b])) = some b := by
  have e : (("d" : Str) == "n") = false := by decide
  simp [List.lookup, e]
@[simp] theorem look_n2 {a b : D} : (List.lookup ("n" : Str) [(("n" : Str), a), (("d" : Str), b)]) = some a := by simp
@[simp] theorem look_d2 {a b : D} : (List.lookup ("d" : Str) [(("n" : Str), a), (("d" : Str), b)]) = some b := by
  have e : (("d" : Str) == "n") = false := by decide
  simp [List.lookup, e]
theorem fld_n {cf : CF} {a : Ex} {σ σ' : En} {x y : D} (h : ev P cf a σ = .ok (.sh (.obj 0 [x, y]), σ')) : ev P cf (.fld a "n") σ = .ok (.sh x, σ') := by
  rw [ev_fld, h]
  show (match ((clsF P 0).zip [x, y]).lookup ("n" : Str) with
      | some d => R.ok (Vl.sh d, σ')
      | none => .stuck) = _
  rw [clsF0, look_n]
theorem fld_d {cf : CF} {a : Ex} {σ σ' : En} {x y : D} (h : ev P cf a σ = .ok (.sh (.obj 0 [x, y]), σ')) : ev P cf (.fld a "d") σ = .ok (.sh y, σ') := by
  rw [ev_fld, h]
  show (match ((clsF P 0).zip [x, y]).lookup ("d" : Str) with
      | some d => R.ok (Vl.sh d, σ')
      | none => .stuck) = _
  rw [clsF0, look_d]
theorem is_integer_ok (d : D) (h : ∀ k, d ≠ .fn k) (h2 : ∀ k, d ≠ .ro k) : fnEv P W (n + 1) i_is_integer .no [d] = .ok (.sh (.bl (match d with | .int _ => true | _ => false)), []) := by
  refine fn_no (f := F_is_integer) (σ' := [.sh d]) rfl rfl ?_
  cases d <;> simp [F_is_integer, isiD, isi1] at h h2 ⊢
theorem is_integer_int (i : Int) : fnEv P W (n + 1) i_is_integer .no [.int i] = .ok (.sh (.bl true), []) := is_integer_ok (.int i) nofun nofun
theorem common_ok (a b : Int) (h : b.natAbs < 2 ^ 16000) : fnEv P W (n + 1) i_common .no [.int a, .int b] = .ok (.sh (.int (Int.gcd a b)), []) := by
  refine fn_no (f := F_common) (σ' := [.sh (.int (Int.gcd a b)), .sh (.int 0)]) rfl rfl ?_
  have e := gcd_loop (P := P) (cf := fnEv P W n) (w := W) 16000 W a.natAbs b.natAbs h (by decide)
  have ea : (if a < 0 then -a else a) = (a.natAbs : Int) := by split <;> omega
  have eb : (if b < 0 then -b else b) = (b.natAbs : Int) := by split <;> omega
  show exSs P (fnEv P W n) W _ [.sh (.int a), .sh (.int b)] = _
  refine seq_nx (σ' := [.sh (.int (a.natAbs : Int)), .sh (.int (b.natAbs : Int))]) ?_ (seq_nx (σ' := [.sh (.int (Int.gcd a b)), .sh (.int 0)]) ?_ ?_)
  · simp [bifD, ea, eb]
  · rw [exS_whl]; exact e
  · simp
theorem init_ok {a b : Int} (hb : b ≠ 0) (hs : b.natAbs < 2 ^ 8990) : fnEv P W (n + 2) i_Ratio_init (.bld 0) [.int a, .int b] = .ok (.sh .non, [.int (Rat.divInt a b).num, .int (Rat.divInt a b).den]) := by
  have e1 := is_integer_int (n := n) a
  have e2 := is_integer_int (n := n) b
  have e3 := common_ok (n := n) a b (Nat.lt_of_lt_of_le hs (Nat.pow_le_pow_right (by decide) (by decide)))
  have g0 : 0 < Int.gcd a b := Int.gcd_pos_of_ne_zero_right _ hb
  have g1 : (0 : Int) < (Int.gcd a b : Int) := by omega
  have gle : Int.gcd a b ≤ b.natAbs := Nat.le_of_dvd (by omega) (Nat.gcd_dvd_right _ _)
  have g2 : ((Int.gcd a b : Nat) : Int).natAbs.log2 < 9000 := log_lt (by rw [Int.natAbs_natCast]; exact Nat.lt_of_lt_of_le (Nat.lt_of_le_of_lt gle hs) (Nat.pow_le_pow_right (by decide) (by decide))) (by decide)
  have eab : (if b < 0 then -b else b) = (b.natAbs : Int) := by split <;> omega
  have n1 : (Rat.divInt a b).num = if 0 < b then a / (Int.gcd a b : Int) else -a / (Int.gcd a b : Int) := by
    rw [Rat.num_divInt, Int.gcd_comm b a]
    by_cases h : 0 < b
    · rw [if_pos h, Int.sign_eq_one_of_pos h, Int.one_mul]
    · rw [if_neg h, Int.sign_eq_neg_one_of_neg (by omega), Int.neg_one_mul]
  have n2 : ((Rat.divInt a b).den : Int) = (b.natAbs : Int) / (Int.gcd a b : Int) := by
    rw [Rat.den_divInt, if_neg hb, Int.gcd_comm b a]
    rfl
  rw [n1, n2]
  generalize ((Int.gcd a b : Nat) : Int) = g at *
  refine fn_bld (f := F_Ratio_init) (σ' := [.sh (.int a), .sh (.int b), .sh (.int g)]) rfl rfl ?_
  show exSs P (fnEv P W (n + 1)) W _ [.bld 0 [], .sh (.int a), .sh (.int b), .un] = _
  have f1 : (clsF P 0)[0]? = some ("n" : Str) := rfl
  have f2 : (clsF P 0)[1]? = some ("d" : Str) := rfl
  have f3 : hasB "n" [] = false := rfl
  have f4 : hasB "d" ["n"] = false := by decide
  by_cases h : 0 < b <;> simp [F_Ratio_init, e1, e2, e3, h, hb, cmpD, binD, negD, bifD, g1, g2, eab, f3, f4]
theorem init_zero {a : Int} : fnEv P W (n + 2) i_Ratio_init (.bld 0) [.int a, .int 0] = .exc ⟨1, some (.str "zero")⟩ := by
  have e1 := is_integer_int (n := n) a
  have e2 := is_integer_int (n := n) 0
  refine fn_bld_exc (f := F_Ratio_init) rfl rfl ?_
  show exSs P (fnEv P W (n + 1)) W _ [.bld 0 [], .sh (.int a), .sh (.int 0), .un] = _
  simp [F_Ratio_init, e1, e2, cmpD]
theorem mk_any {cf : CF} {es : Exs} {dv : List D} {σ σ' : En} {ds : List D} {p : R (Vr × List D)} (h : evs P cf es σ = .ok (ds, σ')) (hi : cf i_Ratio_init (.bld 0) (ds ++ dv) = p) : ev P cf (.mk 0 es dv) σ = lift (p.bind fun p => mkD 0 2 p) σ' := by
  rw [ev_mk, h, bnd_ok]
  unfold mkC
  rw [cls0]
  show lift ((cf C_Ratio.init (.bld 0) (ds ++ dv)).bind fun p => mkD 0 C_Ratio.flds.length p) σ' = _
  rw [C_init, C_flds, hi]
theorem mk2_ok {es : Exs} {σ σ' : En} {a b : Int} (hb : b ≠ 0) (hs : b.natAbs < 2 ^ 8990) (h : evs P (fnEv P W (n + 2)) es σ = .ok ([.int a, .int b], σ')) : ev P (fnEv P W (n + 2)) (.mk 0 es []) σ = .ok (.sh (rD (Rat.divInt a b)), σ') := by
  rw [mk_any h (init_ok hb hs)]
  rfl
theorem mk1_ok {es : Exs} {σ σ' : En} {a : Int} (h : evs P (fnEv P W (n + 2)) es σ = .ok ([.int a], σ')) : ev P (fnEv P W (n + 2)) (.mk 0 es [.int 1]) σ = .ok (.sh (rD (a : Rat)), σ') := by
  rw [mk_any h (init_ok (b := 1) (by decide) (Nat.one_lt_two_pow (by decide)))]
  rw [show (a : Rat) = Rat.divInt a 1 by rw [show (1 : Int) = ((1 : Nat) : Int) from rfl, Rat.divInt_ofNat, Rat.mkRat_eq_div]; have e : (((1 : Nat) : Rat)) = 1 := rfl; rw [e]; grind]
  rfl
theorem check_ratio_ok (x : Rat) : fnEv P W (n + 1) i_check_ratio .no [rD x] = .ok (.sh .non, []) := by
  refine fn_nx (f := F_check_ratio) (σ' := [.sh (rD x)]) rfl rfl ?_
  simp [F_check_ratio, isiD, isi1, rD]
theorem add_fn {s t : Nat} {x y : Rat} (hx : Sz s x) (hy : Sz t y) (h : s + t ≤ 8000) : fnEv P W (n + 3) i_Ratio_add .no [rD x, rD y] = .ok (.sh (rD (x + y)), []) := by
  have e1 := check_ratio_ok (n := n + 1) y
  have l1 := log_of hx hy h
  have e2 := fun es σ h2 => mk2_ok (n := n) (es := es) (σ := σ) (σ' := [.sh (rD x), .sh (rD y)]) (a := x.num * y.den + y.num * x.den) (b := x.den * y.den) (Int.mul_ne_zero (den_ne x) (den_ne y)) (den_small hx hy h) h2
  rw [← add_eq] at e2
  refine fn_no (f := F_Ratio_add) (σ' := [.sh (rD x), .sh (rD y)]) rfl rfl ?_
  show exSs P (fnEv P W (n + 2)) W _ [.sh (rD x), .sh (rD y)] = _
  refine seq_nx (σ' := [.sh (rD x), .sh (rD y)]) (by simp [e1]) ?_
  rw [exSs_cons, exS_ret, e2]
  · rfl
  · simp only [rD]
    simp [binD, l1, -ev_mk]
theorem add_op {s t : Nat} {x y : Rat} (hx : Sz s x) (hy : Sz t y) (h : s + t ≤ 8000) : binD P (fnEv P W (n + 3)) .add (rD x) (rD y) = .ok (.sh (rD (x + y))) := by
  show own2 P (fnEv P W (n + 3)) 0 "__add__" (rD x) (rD y) = _
  unfold own2
  rw [if_pos (show rOk 0 (rD y) = true from rfl)]
  show (((fnEv P W (n + 3)) i_Ratio_add .no [rD x, rD y]).bind fun p => R.ok (vrD p.1)).bind _ = _
  rw [add_fn hx hy h]
  rfl
theorem sub_fn {s t : Nat} {x y : Rat} (hx : Sz s x) (hy : Sz t y) (h : s + t ≤ 8000) : fnEv P W (n + 3) i_Ratio_sub .no [rD x, rD y] = .ok (.sh (rD (x - y)), []) := by
  have e1 := check_ratio_ok (n := n + 1) y
  have l1 := log_of hx hy h
  have e2 := fun es σ h2 => mk2_ok (n := n) (es := es) (σ := σ) (σ' := [.sh (rD x), .sh (rD y)]) (a := x.num * y.den - y.num * x.den) (b := x.den * y.den) (Int.mul_ne_zero (den_ne x) (den_ne y)) (den_small hx hy h) h2
  rw [← sub_eq] at e2
  refine fn_no (f := F_Ratio_sub) (σ' := [.sh (rD x), .sh (rD y)]) rfl rfl ?_
  show exSs P (fnEv P W (n + 2)) W _ [.sh (rD x), .sh (rD y)] = _
  refine seq_nx (σ' := [.sh (rD x), .sh (rD y)]) (by simp [e1]) ?_
  rw [exSs_cons, exS_ret, e2]
  · rfl
  · simp only [rD]
    simp [binD, l1, -ev_mk]
theorem sub_op {s t : Nat} {x y : Rat} (hx : Sz s x) (hy : Sz t y) (h : s + t ≤ 8000) : binD P (fnEv P W (n + 3)) .sub (rD x) (rD y) = .ok (.sh (rD (x - y))) := by
  show own2 P (fnEv P W (n + 3)) 0 "__sub__" (rD x) (rD y) = _
  unfold own2
  rw [if_pos (show rOk 0 (rD y) = true from rfl)]
  show (((fnEv P W (n + 3)) i_Ratio_sub .no [rD x, rD y]).bind fun p => R.ok (vrD p.1)).bind _ = _
  rw [sub_fn hx hy h]
  rfl
theorem mul_fn {s t : Nat} {x y : Rat} (hx : Sz s x) (hy : Sz t y) (h : s + t ≤ 8000) : fnEv P W (n + 3) i_Ratio_mul .no [rD x, rD y] = .ok (.sh (rD (x * y)), []) := by
  have e1 := check_ratio_ok (n := n + 1) y
  have l1 := log_of hx hy h
  have e2 := fun es σ h2 => mk2_ok (n := n) (es := es) (σ := σ) (σ' := [.sh (rD x), .sh (rD y)]) (a := x.num * y.num) (b := x.den * y.den) (Int.mul_ne_zero (den_ne x) (den_ne y)) (den_small hx hy h) h2
  rw [← mul_eq] at e2
  refine fn_no (f := F_Ratio_mul) (σ' := [.sh (rD x), .sh (rD y)]) rfl rfl ?_
  show exSs P (fnEv P W (n + 2)) W _ [.sh (rD x), .sh (rD y)] = _
  refine seq_nx (σ' := [.sh (rD x), .sh (rD y)]) (by simp [e1]) ?_
  rw [exSs_cons, exS_ret, e2]
  · rfl
  · simp only [rD]
    simp [binD, l1, -ev_mk]
theorem mul_op {s t : Nat} {x y : Rat} (hx : Sz s x) (hy : Sz t y) (h : s + t ≤ 8000) : binD P (fnEv P W (n + 3)) .mul (rD x) (rD y) = .ok (.sh (rD (x * y))) := by
  show own2 P (fnEv P W (n + 3)) 0 "__mul__" (rD x) (rD y) = _
  unfold own2
  rw [if_pos (show rOk 0 (rD y) = true from rfl)]
  show (((fnEv P W (n + 3)) i_Ratio_mul .no [rD x, rD y]).bind fun p => R.ok (vrD p.1)).bind _ = _
  rw [mul_fn hx hy h]
  rfl
theorem lt_fn {s t : Nat} {x y : Rat} (hx : Sz s x) (hy : Sz t y) (h : s + t ≤ 8000) : fnEv P W (n + 3) i_Ratio_lt .no [rD x, rD y] = .ok (.sh (.bl (decide (x < y))), []) := by
  have e1 := check_ratio_ok (n := n + 1) y
  have l1 := log_of hx hy h
  have e2 : decide (x < y) = decide (x.num * y.den < y.num * x.den) := decide_eq_decide.mpr (Rat.lt_iff x y)
  rw [e2]
  refine fn_no (f := F_Ratio_lt) (σ' := [.sh (rD x), .sh (rD y)]) rfl rfl ?_
  show exSs P (fnEv P W (n + 2)) W _ [.sh (rD x), .sh (rD y)] = _
  refine seq_nx (σ' := [.sh (rD x), .sh (rD y)]) (by simp [e1]) ?_
  simp only [rD]
  simp [binD, cmpD, ordD, l1]
theorem lt_op {s t : Nat} {x y : Rat} (hx : Sz s x) (hy : Sz t y) (h : s + t ≤ 8000) : cmpD P (fnEv P W (n + 3)) .lt (rD x) (rD y) = .ok (decide (x < y)) := by
  show (if rOk 0 (rD y) = true then (((fnEv P W (n + 3)) i_Ratio_lt .no [rD x, rD y]).bind fun p => R.ok (vrD p.1)).bind toBD else .stuck) = _
  rw [if_pos (show rOk 0 (rD y) = true from rfl), lt_fn hx hy h]
  rfl
theorem le_fn {s t : Nat} {x y : Rat} (hx : Sz s x) (hy : Sz t y) (h : s + t ≤ 8000) : fnEv P W (n + 3) i_Ratio_le .no [rD x, rD y] = .ok (.sh (.bl (decide (x ≤ y))), []) := by
  have e1 := check_ratio_ok (n := n + 1) y
  have l1 := log_of hx hy h
  have e2 : decide (x ≤ y) = decide (x.num * y.den ≤ y.num * x.den) := decide_eq_decide.mpr (Rat.le_iff x y)
  rw [e2]
  refine fn_no (f := F_Ratio_le) (σ' := [.sh (rD x), .sh (rD y)]) rfl rfl ?_
  show exSs P (fnEv P W (n + 2)) W _ [.sh (rD x), .sh (rD y)] = _
  refine seq_nx (σ' := [.sh (rD x), .sh (rD y)]) (by simp [e1]) ?_
  simp only [rD]
  simp [binD, cmpD, ordD, l1]
theorem le_op {s t : Nat} {x y : Rat} (hx : Sz s x) (hy : Sz t y) (h : s + t ≤ 8000) : cmpD P (fnEv P W (n + 3)) .le (rD x) (rD y) = .ok (decide (x ≤ y)) := by
  show (if rOk 0 (rD y) = true then (((fnEv P W (n + 3)) i_Ratio_le .no [rD x, rD y]).bind fun p => R.ok (vrD p.1)).bind toBD else .stuck) = _
  rw [if_pos (show rOk 0 (rD y) = true from rfl), le_fn hx hy h]
  rfl
theorem neg_fn {s : Nat} {x : Rat} (hx : Sz s x) (h : s ≤ 8000) : fnEv P W (n + 3) i_Ratio_neg .no [rD x] = .ok (.sh (rD (-x)), []) := by
  have e2 := fun es σ h2 => mk2_ok (n := n) (es := es) (σ := σ) (σ' := [.sh (rD x)]) (a := -x.num) (b := x.den) (den_ne x) (Nat.lt_of_le_of_lt hx.den (Nat.pow_lt_pow_right (by decide) (by omega))) h2
  have e3 : Rat.divInt (-x.num) x.den = -x := by rw [← Rat.neg_divInt, Rat.num_divInt_den]
  rw [e3] at e2
  refine fn_no (f := F_Ratio_neg) (σ' := [.sh (rD x)]) rfl rfl ?_
  show exSs P (fnEv P W (n + 2)) W _ [.sh (rD x)] = _
  rw [F_Ratio_neg]
  dsimp only
  rw [exSs_cons, exS_ret, e2]
  · rfl
  · simp only [rD]
    simp [negD, -ev_mk]
theorem neg_op {s : Nat} {x : Rat} (hx : Sz s x) (h : s ≤ 8000) : negD P (fnEv P W (n + 3)) (rD x) = .ok (rD (-x)) := by
  show (((fnEv P W (n + 3)) i_Ratio_neg .no [rD x]).bind fun p => R.ok (vrD p.1)) = _
  rw [neg_fn hx h]
  rfl
theorem eq_fn (x y : Rat) : fnEv P W (n + 1) i_Ratio_eq .no [rD x, rD y] = .ok (.sh (.bl (decide (x = y))), []) := by
  have e2 : decide (x = y) = (decide (x.num = y.num) && decide ((x.den : Int) = y.den)) := by
    by_cases h : x = y
    · subst h; simp
    · by_cases h1 : x.num = y.num
      · have h2 : ¬ (x.den : Int) = y.den := fun z => h (Rat.ext h1 (by omega))
        simp [h, h2]
      · simp [h, h1]
  rw [e2]
  refine fn_no (f := F_Ratio_eq) (σ' := [.sh (rD x), .sh (rD y)]) rfl rfl ?_
  show exSs P (fnEv P W n) W _ [.sh (rD x), .sh (rD y)] = _
  simp only [rD]
  by_cases h1 : x.num = y.num <;> simp [F_Ratio_eq, isiD, isi1, cmpD, h1]
end
end K21
set_option Elab.async false
set_option linter.all false
set_option maxRecDepth 100000
set_option maxHeartbeats 800000
namespace K21
open PySem L2 PV
section
variable {n : Nat}
theorem dep {a : Nat} (h : a ≤ n) : ∃ m, n = m + a := ⟨n - a, by omega⟩
/-! ### Ratios for simp -/
theorem addR {x y : Rat} (hn : 3 ≤ n) (h : bt x + bt y ≤ 8000) : binD P (fnEv P W n) .add (rD x) (rD y) = .ok (.sh (rD (x + y))) := by
  obtain ⟨m, rfl⟩ := dep hn
  exact add_op (sz_bt x) (sz_bt y) h
theorem subR {x y : Rat} (hn : 3 ≤ n) (h : bt x + bt y ≤ 8000) : binD P (fnEv P W n) .sub (rD x) (rD y) = .ok (.sh (rD (x - y))) := by
  obtain ⟨m, rfl⟩ := dep hn
  exact sub_op (sz_bt x) (sz_bt y) h
theorem mulR {x y : Rat} (hn : 3 ≤ n) (h : bt x + bt y ≤ 8000) : binD P (fnEv P W n) .mul (rD x) (rD y) = .ok (.sh (rD (x * y))) := by
  obtain ⟨m, rfl⟩ := dep hn
  exact mul_op (sz_bt x) (sz_bt y) h
theorem negR {x : Rat} (hn : 3 ≤ n) (h : bt x ≤ 8000) : negD P (fnEv P W n) (rD x) = .ok (rD (-x)) := by
  obtain ⟨m, rfl⟩ := dep hn
  exact neg_op (sz_bt x) h
theorem ltR {x y : Rat} (hn : 3 ≤ n) (h : bt x + bt y ≤ 8000) : cmpD P (fnEv P W n) .lt (rD x) (rD y) = .ok (decide (x < y)) := by
  obtain ⟨m, rfl⟩ := dep hn
  exact lt_op (sz_bt x) (sz_bt y) h
theorem leR {x y : Rat} (hn : 3 ≤ n) (h : bt x + bt y ≤ 8000) : cmpD P (fnEv P W n) .le (rD x) (rD y) = .ok (decide (x ≤ y)) := by
  obtain ⟨m, rfl⟩ := dep hn
  exact le_op (sz_bt x) (sz_bt y) h
theorem eqR' (hn : 1 ≤ n) : EqR P (fnEv P W n) := fun x y => by
  obtain ⟨m, rfl⟩ := dep hn
  unfold eqObj
  rw [if_pos (show rOk 0 (rD y) = true from rfl)]
  show ((((fnEv P W (m + 1)) i_Ratio_eq .no [rD x, rD y]).bind fun p => R.ok (vrD p.1)).bind toBD) = _
  rw [eq_fn]
  rfl
theorem eqRR (hn : 1 ≤ n) {x y : Rat} : cmpD P (fnEv P W n) .eq (rD x) (rD y) = .ok (decide (x = y)) := eqT_rD (eqR' hn) x y
theorem neRR (hn : 1 ≤ n) {x y : Rat} : cmpD P (fnEv P W n) .ne (rD x) (rD y) = .ok (!decide (x = y)) := by
  show (eqT P (fnEv P W n) (rD x) (rD y)).map (!·) = _
  rw [eqT_rD (eqR' hn)]
  rfl
theorem eqPP (hn : 1 ≤ n) {x y : List Rat} : cmpD P (fnEv P W n) .eq (pD x) (pD y) = .ok (decide (x = y)) := eqT_pD (eqR' hn) x y
theorem nePP (hn : 1 ≤ n) {x y : List Rat} : cmpD P (fnEv P W n) .ne (pD x) (pD y) = .ok (!decide (x = y)) := by
  show (eqT P (fnEv P W n) (pD x) (pD y)).map (!·) = _
  rw [eqT_pD (eqR' hn)]
  rfl
theorem eqLL (hn : 1 ≤ n) {x y : List Rat} : cmpD P (fnEv P W n) .eq (.lst (x.map rD)) (.lst (y.map rD)) = .ok (decide (x = y)) := eqT_lD (eqR' hn) x y
theorem neLL (hn : 1 ≤ n) {x y : List Rat} : cmpD P (fnEv P W n) .ne (.lst (x.map rD)) (.lst (y.map rD)) = .ok (!decide (x = y)) := by
  show (eqT P (fnEv P W n) _ _).map (!·) = _
  rw [eqT_lD (eqR' hn)]
  rfl
theorem memR (hn : 1 ≤ n) {x : Rat} : ∀ {ys : List Rat} (k : Nat), memL (eqN P (fnEv P W n) (k + 1)) (rD x) (ys.map rD) = .ok (decide (x ∈ ys))
  | [], k => by simp [memL]
  | y :: ys, k => by
    rw [List.map_cons, memL, eqN_rD (eqR' hn)]
    by_cases h : y = x
    · rw [decide_eq_true h]
      subst h
      simp
    · rw [decide_eq_false h]
      show memL _ _ _ = _
      rw [memR hn k]
      congr 1
      simp [Ne.symm h]
theorem memT_rD (hn : 1 ≤ n) {x : Rat} {ys : List Rat} : memT P (fnEv P W n) (rD x) (.lst (ys.map rD)) = .ok (decide (x ∈ ys)) := by
  have h : plainMem (rD x) (.lst (ys.map rD)) = none := by unfold plainMem; rw [toPD_rD]
  unfold memT
  rw [h]
  exact memR hn 4
theorem memT_pD (hn : 1 ≤ n) {x : Rat} {ys : List Rat} : memT P (fnEv P W n) (rD x) (pD ys) = .ok (decide (x ∈ ys)) := by
  have h : plainMem (rD x) (pD ys) = none := by unfold plainMem; rw [toPD_rD]
  unfold memT
  rw [h]
  exact memR hn 4
theorem inL (hn : 1 ≤ n) {x : Rat} {ys : List Rat} : cmpD P (fnEv P W n) .mem (rD x) (.lst (ys.map rD)) = .ok (decide (x ∈ ys)) := memT_rD hn
theorem ninL (hn : 1 ≤ n) {x : Rat} {ys : List Rat} : cmpD P (fnEv P W n) .nmem (rD x) (.lst (ys.map rD)) = .ok (!decide (x ∈ ys)) := by
  show (memT P (fnEv P W n) (rD x) (.lst (ys.map rD))).map (!·) = _
  rw [memT_rD hn]
  rfl
theorem inP (hn : 1 ≤ n) {x : Rat} {ys : List Rat} : cmpD P (fnEv P W n) .mem (rD x) (pD ys) = .ok (decide (x ∈ ys)) := memT_pD hn
theorem ninP (hn : 1 ≤ n) {x : Rat} {ys : List Rat} : cmpD P (fnEv P W n) .nmem (rD x) (pD ys) = .ok (!decide (x ∈ ys)) := by
  show (memT P (fnEv P W n) (rD x) (pD ys)).map (!·) = _
  rw [memT_pD hn]
  rfl
theorem mk2R {a b : Int} {σ : En} (hn : 2 ≤ n) (h0 : b ≠ 0) (h1 : -1000000000000000000 < b) (h2 : b < 1000000000000000000) : mkC P (fnEv P W n) 0 [] [.int a, .int b] σ = .ok (.sh (rD ((a : Rat) / (b : Rat))), σ) := by
  obtain ⟨m, rfl⟩ := dep hn
  have hs : b.natAbs < 2 ^ 8990 := Nat.lt_of_lt_of_le (show b.natAbs < 2 ^ 60 by omega) (Nat.pow_le_pow_right (by decide) (by decide))
  unfold mkC
  rw [cls0]
  show lift ((fnEv P W (m + 2) C_Ratio.init (.bld 0) [.int a, .int b]).bind fun p => mkD 0 C_Ratio.flds.length p) σ = _
  rw [C_init, C_flds, init_ok h0 hs, ← Rat.divInt_eq_div]
  rfl
theorem mk2B {a b : Int} {σ : En} (hn : 2 ≤ n) (h0 : b ≠ 0) (hs : b.natAbs < 2 ^ 8990) : mkC P (fnEv P W n) 0 [] [.int a, .int b] σ = .ok (.sh (rD ((a : Rat) / (b : Rat))), σ) := by
  obtain ⟨m, rfl⟩ := dep hn
  unfold mkC
  rw [cls0]
  show lift ((fnEv P W (m + 2) C_Ratio.init (.bld 0) [.int a, .int b]).bind fun p => mkD 0 C_Ratio.flds.length p) σ = _
  rw [C_init, C_flds, init_ok h0 hs, ← Rat.divInt_eq_div]
  rfl
theorem mk1R {a : Int} {σ : En} (hn : 2 ≤ n) : mkC P (fnEv P W n) 0 [.int 1] [.int a] σ = .ok (.sh (rD (a : Rat)), σ) := by
  obtain ⟨m, rfl⟩ := dep hn
  unfold mkC
  rw [cls0]
  show lift ((fnEv P W (m + 2) C_Ratio.init (.bld 0) [.int a, .int 1]).bind fun p => mkD 0 C_Ratio.flds.length p) σ = _
  rw [C_init, C_flds, init_ok (by decide) (Nat.one_lt_two_pow (by decide))]
  rw [show (a : Rat) = Rat.divInt a 1 by rw [show (1 : Int) = ((1 : Nat) : Int) from rfl, Rat.divInt_ofNat, Rat.mkRat_eq_div]; have e : (((1 : Nat) : Rat)) = 1 := rfl; rw [e]; grind]
  rfl
theorem numR {x : Rat} {σ : En} : fldC P "n" (rD x) σ = .ok (.sh (.int x.num), σ) := by
  show (match ((clsF P 0).zip [.int x.num, .int x.den]).lookup ("n" : Str) with
      | some d => R.ok (Vl.sh d, σ)
      | none => .stuck) = _
  rw [clsF0, look_n]
theorem denR {x : Rat} {σ : En} : fldC P "d" (rD x) σ = .ok (.sh (.int x.den), σ) := by
  show (match ((clsF P 0).zip [.int x.num, .int x.den]).lookup ("d" : Str) with
      | some d => R.ok (Vl.sh d, σ)
      | none => .stuck) = _
  rw [clsF0, look_d]
theorem methR {k : Nat} {m : Str} {es : Exs} {x : Rat} {σ : En} {cf : CF} (h : clsM P 0 m = some k) : methC P cf 0 m es (rD x) σ = bnd (evs P cf es σ) fun ds σ => lift ((cf k .no (rD x :: ds)).map fun (p : Vr × List D) => vr p.1) σ := by
  show (if 0 = 0 then (match clsM P 0 m with
    | some k => bnd (evs P cf es σ) fun ds σ => lift ((cf k .no (.obj 0 [.int x.num, .int x.den] :: ds)).map fun (p : Vr × List D) => vr p.1) σ
    | none => .stuck) else .stuck) = _
  rw [if_pos rfl, h]
  rfl
theorem isIntI (hn : 1 ≤ n) (i : Int) : fnEv P W n i_is_integer .no [.int i] = .ok (.sh (.bl true), []) := by
  obtain ⟨m, rfl⟩ := dep hn
  exact is_integer_int i
theorem chkR (hn : 1 ≤ n) (x : Rat) : fnEv P W n i_check_ratio .no [rD x] = .ok (.sh .non, []) := by
  obtain ⟨m, rfl⟩ := dep hn
  exact check_ratio_ok x
theorem chkX (hn : 1 ≤ n) {d : D} (h : isiD (.own 0) d = .ok false) : fnEv P W n i_check_ratio .no [d] = .exc ⟨0, none⟩ := by
  obtain ⟨m, rfl⟩ := dep hn
  refine fn_runE (f := F_check_ratio) rfl rfl rfl ?_
  simp [F_check_ratio, st0, h]
theorem t1_pD {a : Rat} : D.tup [rD a] = pD [a] := rfl
theorem t2_pD {a b : Rat} : D.tup [rD a, rD b] = pD [a, b] := rfl
theorem t3_pD {a b c : Rat} : D.tup [rD a, rD b, rD c] = pD [a, b, c] := rfl
theorem addPP {cf : CF} {p q : List Rat} (h : p.length + q.length ≤ 16000000) : binD P cf .add (pD p) (pD q) = .ok (.sh (pD (p ++ q))) := by
  show (if (p.map rD).length + (q.map rD).length ≤ 16000000 then R.ok (Vr.sh (.tup (p.map rD ++ q.map rD))) else .stuck) = _
  rw [if_pos (by simpa using h), ← List.map_append]
  rfl
theorem rep_map {p : List Rat} {m : Nat} : (List.replicate m (p.map rD)).flatten = ((List.replicate m p).flatten).map rD := by
  rw [List.map_flatten, List.map_replicate]
theorem mulPI {cf : CF} {p : List Rat} {j : Int} (h : p.length ≤ 1000) (h1 : -1000000 < j) (h2 : j ≤ 1000) : binD P cf .mul (pD p) (.int j) = .ok (.sh (pD (List.replicate j.toNat p).flatten)) := by
  show (if (p.map rD).length ≤ 1000 ∧ -1000000 < j ∧ j ≤ 1000 then R.ok (Vr.sh (.tup (List.replicate j.toNat (p.map rD)).flatten)) else .stuck) = _
  rw [if_pos ⟨by simpa using h, h1, h2⟩, rep_map]
  rfl
theorem mulLI {cf : CF} {p : List Rat} {j : Int} (h : p.length ≤ 1000) (h1 : -1000000 < j) (h2 : j ≤ 1000) : binD P cf .mul (.lst (p.map rD)) (.int j) = .ok (.ow ((List.replicate j.toNat p).flatten.map rD)) := by
  show (if (p.map rD).length * j.toNat ≤ 16000000 ∧ j < 1000000 ∧ -1000000 < j then R.ok (Vr.ow (List.replicate j.toNat (p.map rD)).flatten) else .stuck) = _
  have hm : p.length * j.toNat ≤ 1000 * 1000 := Nat.mul_le_mul h (by omega)
  rw [if_pos ⟨by simpa using (by omega), by omega, h1⟩, rep_map]
theorem ixP {p : List Rat} {i : Int} (h0 : 0 ≤ i) (h : i < p.length) : ixOf (pD p) (.int i) = .ok (rD (PV.cf p i.toNat)) := by
  rw [ixOf_eq, items_pD]
  simp only [atI_rD h0 h]
theorem ixPn {p : List Rat} {i : Int} (h0 : i < 0) (h : -i ≤ p.length) : ixOf (pD p) (.int i) = .ok (rD (PV.cf p (i + p.length).toNat)) := by
  rw [ixOf_eq, items_pD]
  simp only [atI_rDn h0 h]
theorem ixL {p : List Rat} {i : Int} (h0 : 0 ≤ i) (h : i < p.length) : ixOf (.lst (p.map rD)) (.int i) = .ok (rD (PV.cf p i.toNat)) := by
  rw [ixOf_eq, items_lst]
  simp only [atI_rD h0 h]
theorem ixLn {p : List Rat} {i : Int} (h0 : i < 0) (h : -i ≤ p.length) : ixOf (.lst (p.map rD)) (.int i) = .ok (rD (PV.cf p (i + p.length).toNat)) := by
  rw [ixOf_eq, items_lst]
  simp only [atI_rDn h0 h]
theorem cut_map {p : List Rat} {lo hi : Option Int} : cutD (p.map rD) lo hi = ((p.drop (HT.sIx p.length 0 lo)).take (HT.sIx p.length p.length hi - HT.sIx p.length 0 lo)).map rD := by
  unfold cutD
  rw [List.length_map, ← List.map_drop, ← List.map_take]
/-- cuts of rows -/
def cutR (p : List Rat) (lo hi : Option Int) : List Rat := (p.drop (HT.sIx p.length 0 lo)).take (HT.sIx p.length p.length hi - HT.sIx p.length 0 lo)
theorem slcP {p : List Rat} {lo hi : Option Int} : slcD (pD p) lo hi = .ok (.sh (pD (cutR p lo hi))) := by
  show R.ok (Vr.sh (D.tup (cutD (p.map rD) lo hi))) = _
  rw [cut_map]
  rfl
theorem slcL {p : List Rat} {lo hi : Option Int} : slcD (.lst (p.map rD)) lo hi = .ok (.ow ((cutR p lo hi).map rD)) := by
  show R.ok (Vr.ow (cutD (p.map rD) lo hi)) = _
  rw [cut_map]
  rfl
theorem sIx_pos {n d : Nat} {i : Int} (h : 0 ≤ i) : HT.sIx n d (some i) = min i.toNat n := by
  show (if i < 0 then (i + (n : Int)).toNat else min i.toNat n) = _
  rw [if_neg (by omega)]
theorem sIx_neg {n d : Nat} {i : Int} (h : i < 0) : HT.sIx n d (some i) = (i + n).toNat := by
  show (if i < 0 then (i + (n : Int)).toNat else min i.toNat n) = _
  rw [if_pos h]
theorem sIx_none {n d : Nat} : HT.sIx n d none = d := rfl
theorem cutR_one {p : List Rat} : cutR p (some 1) none = p.drop 1 := by
  unfold cutR
  rw [sIx_none, sIx_pos (by decide)]
  cases p with
  | nil => rfl
  | cons a p =>
    rw [show min (1 : Int).toNat (a :: p).length = 1 by simp]
    rw [List.take_of_length_le (by simp)]
theorem cutR_from {p : List Rat} {i : Int} (h0 : 0 ≤ i) : cutR p (some i) none = p.drop i.toNat := by
  unfold cutR
  rw [sIx_none, sIx_pos h0]
  by_cases h : i.toNat ≤ p.length
  · rw [Nat.min_eq_left h, List.take_of_length_le (by simp)]
  · rw [Nat.min_eq_right (by omega), List.drop_of_length_le (by omega), List.drop_of_length_le (by omega)]
    simp
theorem cutR_to {p : List Rat} {i : Int} (h0 : 0 ≤ i) : cutR p none (some i) = p.take i.toNat := by
  unfold cutR
  rw [sIx_none, sIx_pos h0, List.drop_zero, Nat.sub_zero]
  by_cases h : i.toNat ≤ p.length
  · rw [Nat.min_eq_left h]
  · rw [Nat.min_eq_right (by omega), List.take_of_length_le (by omega), List.take_of_length_le (by omega)]
theorem cutR_ab {p : List Rat} {i j : Int} (h0 : 0 ≤ i) (h1 : 0 ≤ j) (h2 : j ≤ p.length) : cutR p (some i) (some j) = (p.drop i.toNat).take (j.toNat - i.toNat) := by
  unfold cutR
  rw [sIx_pos h0, sIx_pos h1, Nat.min_eq_left (by omega : j.toNat ≤ p.length)]
  by_cases h : i.toNat ≤ p.length
  · rw [Nat.min_eq_left h]
  · rw [Nat.min_eq_right (by omega), List.drop_of_length_le (by omega), List.drop_of_length_le (by omega)]
    simp
theorem cutR_inner {p : List Rat} : cutR p (some 1) (some (-1)) = (p.drop 1).take (p.length - 2) := by
  unfold cutR
  rw [sIx_neg (by decide), sIx_pos (by decide)]
  cases p with
  | nil => rfl
  | cons a p =>
    rw [show min (1 : Int).toNat (a :: p).length = 1 by simp]
    congr 1
    simp only [List.length_cons]
    omega
/-! zip of rows -/
theorem zipR {p q : List Rat} : zipD (p.map rD) (q.map rD) = (p.zip q).map fun z => .tup [rD z.1, rD z.2] := zipD_map p q
theorem rows_eq {p q : List Rat} : (p.map rD = q.map rD) = (p = q) := by
  apply propext
  constructor
  · intro h
    have hl : p.length = q.length := by have := congrArg List.length h; simpa using this
    apply List.ext_getElem hl
    intro i h1 h2
    have e : (p.map rD)[i]? = (q.map rD)[i]? := by rw [h]
    rw [List.getElem?_map, List.getElem?_map, List.getElem?_eq_getElem h1, List.getElem?_eq_getElem h2] at e
    exact rD_inj (Option.some.inj e)
  · intro h; rw [h]
theorem cutR_last {p : List Rat} : cutR p none (some (-1)) = p.dropLast := by
  unfold cutR
  rw [sIx_neg (by decide)]
  show (p.drop 0).take (((-1 : Int) + p.length).toNat - 0) = _
  rw [List.drop_zero, Nat.sub_zero, List.dropLast_eq_take]
  congr 1
  omega
end
end K21
set_option Elab.async false
set_option linter.all false
set_option maxRecDepth 100000
set_option maxHeartbeats 800000
namespace K21
open PySem L2 PV
section
variable {n : Nat}
/-! ### knots -/
theorem countI (hn : 2 ≤ n) (i a b : Int) : fnEv P W n i_is_count .no [.int i, .int a, .int b] = .ok (.sh (.bl (decide (a ≤ i) && decide (i ≤ b))), []) := by
  obtain ⟨m, rfl⟩ := dep hn
  have e1 := isIntI (n := m + 1) (by omega) i
  refine fn_runE (f := F_is_count) rfl rfl rfl ?_
  by_cases h : a ≤ i <;> simp (disch := first | omega | (simp; done) | (simp; omega) | (simp [*]; done) | fail) [F_is_count, st0, e1 , h]
theorem rowR (hn : 1 ≤ n) {p : List Rat} (hl : p.length < 1000000) : fnEv P W n i_is_ratio_row .no [pD p] = .ok (.sh (.bl true), []) := by
  obtain ⟨m, rfl⟩ := dep hn
  have e := lc_seq (P := P) (cf := fnEv P W m) (xs := p) rD (fun _ => D.bl true) (t := 1) (e := F_is_ratio_row_e0) (s := .seq (.var 0)) (σ := [.sh (pD p), .un]) (c := .un) (src_at (A := pD p) (by simp) rfl) rfl rfl (by omega) (fun x _ => by simp (disch := first | omega | (simp; done) | (simp; omega) | (simp [*]; done) | fail) [F_is_ratio_row_e0])
  have ea := all_map (b := fun _ : Rat => true) (xs := p)
  refine fn_runE (f := F_is_ratio_row) rfl rfl rfl ?_
  generalize p.map (fun _ => D.bl true) = L at *
  simp (disch := first | omega | (simp; done) | (simp; omega) | (simp [*]; done) | fail) [F_is_ratio_row, st0, e, ea, -ev_lc]
def asc (p : List Rat) : Bool := (p.zip (p.drop 1)).all fun z => decide (z.1 ≤ z.2)
theorem ascR (hn : 4 ≤ n) {s : Nat} {p : List Rat} (hs : ∀ x ∈ p, bt x ≤ s) (h : s + s ≤ 8000) (hl : p.length < 1000000) : fnEv P W n i_is_ascending .no [pD p] = .ok (.sh (.bl (asc p)), []) := by
  obtain ⟨m, rfl⟩ := dep hn
  have e := lc_two (P := P) (cf := fnEv P W (m + 3)) (xs := p.zip (p.drop 1)) (fun z => rD z.1) (fun z => rD z.2) (fun z => D.bl (decide (z.1 ≤ z.2))) (t := 1) (u := 2) (e := F_is_ascending_e0) (s := .zip (.cons (.var 0) (.cons (.slc (.var 0) (.some (.con (.int 1))) .none) .nil))) (σ := [.sh (pD p), .un, .un]) (c := .un) (d := .un) (by
    rw [← zipR]
    exact src_zip2 (A := pD p) (B := pD (p.drop 1)) (by simp (disch := first | omega | (simp; done) | (simp; omega) | (simp [*]; done) | fail) [slcP, cutR_one]) rfl rfl) rfl rfl rfl rfl (by decide) (by simp; omega) (fun z hz => by
    have h1 := hs z.1 (List.of_mem_zip hz).1
    have h2 := hs z.2 (List.mem_of_mem_drop (List.of_mem_zip hz).2)
    have := leR (n := m + 3) (x := z.1) (y := z.2) (by omega) (by omega)
    simp (disch := first | omega | (simp; done) | (simp; omega) | (simp [*]; done) | fail) [F_is_ascending_e0, this])
  have ea := all_map (b := fun z : Rat × Rat => decide (z.1 ≤ z.2)) (xs := p.zip (p.drop 1))
  refine fn_runE (f := F_is_ascending) rfl rfl rfl ?_
  unfold asc
  generalize (p.zip (p.drop 1)).map (fun z => D.bl (decide (z.1 ≤ z.2))) = L at *
  simp (disch := first | omega | (simp; done) | (simp; omega) | (simp [*]; done) | fail) [F_is_ascending, st0, e, ea, -ev_lc]
def isKn (d : Nat) (p : List Rat) : Bool := decide (d ≤ 8) && (asc p && (decide (2 * d + 2 ≤ p.length ∧ p.length ≤ 60) && ((List.range (p.length - d - 1)).all (fun j => decide (PV.cf p j < PV.cf p (j + d + 1))) && decide (PV.cf p d < PV.cf p (p.length - d - 1)))))
theorem bt_cf {s : Nat} {p : List Rat} (hs : ∀ x ∈ p, bt x ≤ s) (k : Nat) : bt (PV.cf p k) ≤ s := by
  by_cases hk : k < p.length
  · rw [cf_in hk]; exact hs _ (List.getElem_mem _)
  · rw [cf_out (by omega), bt_zero]; exact Nat.zero_le _
theorem knR (hn : 5 ≤ n) {s d : Nat} {p : List Rat} (hs : ∀ x ∈ p, bt x ≤ s) (h : s + s ≤ 8000) (hl : p.length < 1000000) : fnEv P W n i_is_knots .no [.int d, pD p] = .ok (.sh (.bl (isKn d p)), []) := by
  obtain ⟨m, rfl⟩ := dep hn
  have e1 := countI (n := m + 4) (by omega) d 0 8
  have e2 := rowR (n := m + 4) (by omega) hl
  have e3 := ascR (n := m + 4) (by omega) hs h hl
  refine fn_runE (f := F_is_knots) rfl rfl rfl ?_
  unfold isKn
  by_cases c1 : d ≤ 8
  case neg =>
    have c1' : ¬ ((d : Int) ≤ 8) := by omega
    simp (disch := first | omega | (simp; done) | (simp; omega) | (simp [*]; done) | fail) [F_is_knots, st0, e1, c1, c1']
  have c1' : ((d : Int) ≤ 8) := by omega
  cases c2 : asc p with
  | false => simp (disch := first | omega | (simp; done) | (simp; omega) | (simp [*]; done) | fail) [F_is_knots, st0, e1, e2, e3, c1, c1', c2]
  | true =>
  by_cases c3 : 2 * d + 2 ≤ p.length ∧ p.length ≤ 60
  case neg =>
    by_cases c4 : 2 * (d : Int) + 2 ≤ p.length
    · have c5 : ¬ ((p.length : Int) ≤ 60) := by omega
      have c6 : ¬ (p.length ≤ 60) := by omega
      have c7 : (Nat.log2 2) + d.log2 < 100000000 := by
        have := small_log (i := d) (k := 10) (by omega) (by decide)
        simp at this
        have h2 : Nat.log2 2 = 1 := by decide
        omega
      simp (disch := first | omega | (simp; done) | (simp; omega) | (simp [*]; done) | fail) [F_is_knots, st0, e1, e2, e3, c1, c1', c2, c4, c5, c6, mulI, c7]
    · have c6 : ¬ (2 * d + 2 ≤ p.length) := by omega
      have c7 : (Nat.log2 2) + d.log2 < 100000000 := by
        have := small_log (i := d) (k := 10) (by omega) (by decide)
        simp at this
        have h2 : Nat.log2 2 = 1 := by decide
        omega
      simp (disch := first | omega | (simp; done) | (simp; omega) | (simp [*]; done) | fail) [F_is_knots, st0, e1, e2, e3, c1, c1', c2, c4, c6, mulI, c7]
  have c7 : (Nat.log2 2) + d.log2 < 100000000 := by
    have := small_log (i := d) (k := 10) (by omega) (by decide)
    simp at this
    have h2 : Nat.log2 2 = 1 := by decide
    omega
  have c4 : 2 * (d : Int) + 2 ≤ p.length := by omega
  have c5 : (p.length : Int) ≤ 60 := by omega
  have e := lc_seq (P := P) (cf := fnEv P W (m + 4)) (xs := List.range (p.length - d - 1)) (fun (i : Nat) => .int (i : Int)) (fun (j : Nat) => D.bl (decide (PV.cf p j < PV.cf p (j + d + 1)))) (t := 2) (e := F_is_knots_e0) (s := .rng (.cons (.bin .sub (.bin .sub (.bif .len (.cons (.var 1) .nil)) (.var 0)) (.con (.int 1))) .nil)) (σ := [.sh (.int d), .sh (pD p), .un]) (c := .un)
    (src_range1 (p.length - d - 1) (i := (p.length : Int) - d - 1) (by simp) (by omega) (by omega) (by omega)) rfl rfl (by simp; omega) (fun j hj => by
    have hj := List.mem_range.mp hj
    have h1 := bt_cf hs j
    have h2 := bt_cf hs (j + d + 1)
    have i1 := ixP (p := p) (i := j) (by omega) (by omega)
    have i2 := ixP (p := p) (i := (j : Int) + d + 1) (by omega) (by omega)
    rw [show ((j : Int) + d + 1).toNat = j + d + 1 by omega] at i2
    rw [Int.toNat_natCast] at i1
    have := ltR (n := m + 4) (x := PV.cf p j) (y := PV.cf p (j + d + 1)) (by omega) (by omega)
    simp (disch := first | omega | (simp; done) | (simp; omega) | (simp [*]; done) | fail) [F_is_knots_e0, i1, i2, this, -ixOf_eq])
  have ea := all_map (b := fun j : Nat => decide (PV.cf p j < PV.cf p (j + d + 1))) (xs := List.range (p.length - d - 1))
  have h1 := bt_cf hs d
  have h2 := bt_cf hs (p.length - d - 1)
  have i1 := ixP (p := p) (i := d) (by omega) (by omega)
  have i2 := ixP (p := p) (i := (p.length : Int) - d - 1) (by omega) (by omega)
  rw [show ((p.length : Int) - d - 1).toNat = p.length - d - 1 by omega] at i2
  rw [Int.toNat_natCast] at i1
  have el := ltR (n := m + 4) (x := PV.cf p d) (y := PV.cf p (p.length - d - 1)) (by omega) (by omega)
  generalize (List.range (p.length - d - 1)).map (fun j => D.bl (decide (PV.cf p j < PV.cf p (j + d + 1)))) = L at *
  cases c8 : (List.range (p.length - d - 1)).all (fun j => decide (PV.cf p j < PV.cf p (j + d + 1))) with
  | false =>
    rw [c8] at ea
    simp (disch := first | omega | (simp; done) | (simp; omega) | (simp [*]; done) | fail) [F_is_knots, st0, e1, e2, e3, c1, c1', c2, c3, c4, c5, mulI, c7, e, ea, -ev_lc]
  | true =>
    rw [c8] at ea
    have o1 : cmpD P (fnEv P W (m + 4)) .le (.int (2 * (d : Int) + 2)) (.int p.length) = .ok true := by simp (disch := first | omega | (simp; done) | (simp; omega) | (simp [*]; done) | fail) [cmpD, ordD, c4]
    have o2 : cmpD P (fnEv P W (m + 4)) .le (.int p.length) (.int 60) = .ok true := by simp (disch := first | omega | (simp; done) | (simp; omega) | (simp [*]; done) | fail) [cmpD, ordD, c5]
    simp (disch := first | omega | (simp; done) | (simp; omega) | (simp [*]; done) | fail) [F_is_knots, st0, e1, e2, e3, c1, c1', c2, c3, o1, o2, e, ea, el, i1, i2, mulI, fdvI, modI, appF_ok, extF_ok, -appF_eq, -extF_eq, -ixOf_eq, -ev_lc, -ev_lcf]
theorem knS (hn : 6 ≤ n) {s d : Nat} {p : List Rat} (hs : ∀ x ∈ p, bt x ≤ s) (h : s + s ≤ 8000) (hl : p.length < 1000000) (hk : isKn d p = true) : fnEv P W n i_check_knots .no [.int d, pD p] = .ok (.sh .non, []) := by
  obtain ⟨m, rfl⟩ := dep hn
  have e := knR (n := m + 5) (d := d) (by omega) hs h hl
  rw [hk] at e
  refine fn_runE (f := F_check_knots) rfl rfl rfl ?_
  simp (disch := first | omega | (simp; done) | (simp; omega) | (simp [*]; done) | fail) [F_check_knots, st0, e]
theorem knX (hn : 1 ≤ n) {d q : D} (h : fnEv P W (n - 1) i_is_knots .no [d, q] = .ok (.sh (.bl false), [])) : fnEv P W n i_check_knots .no [d, q] = .exc ⟨0, none⟩ := by
  obtain ⟨m, rfl⟩ := dep hn
  have h : fnEv P W m i_is_knots .no [d, q] = .ok (.sh (.bl false), []) := h
  refine fn_runE (f := F_check_knots) rfl rfl rfl ?_
  simp (disch := first | omega | (simp; done) | (simp; omega) | (simp [*]; done) | fail) [F_check_knots, st0, h]
end
end K21
set_option Elab.async false
set_option linter.all false
set_option maxRecDepth 100000
set_option maxHeartbeats 800000
namespace K21
open PySem L2 PV
section
variable {n : Nat}
/-! ### knots that are drawn -/
theorem takeI (hn : 1 ≤ n) {ds : List D} (hs : StOk ds) (m : Int) (hm : 0 < m) (hm2 : m < 9000) :
    ∃ (v : Int) (ds' : List D), fnEv P W n i_law_take (.io ds) [.int m] = .ok (.sh (.int v), ds') ∧ 0 ≤ v ∧ v < m ∧ StOk ds' := by
  obtain ⟨k, rfl⟩ := dep hn
  exact take_ev (f := F_law_take) rfl rfl rfl rfl hs hm (by have := small_log (i := m) (k := 14) (by omega) (by decide); omega)
theorem isKn_of {d : Nat} {p : List Rat} (h : Kn d p) : isKn d p = true := by
  unfold isKn
  have := h.deg
  have := h.lo
  have := h.hi
  have a1 : asc p = true := by
    unfold asc
    rw [List.all_eq_true]
    intro z hz
    obtain ⟨i, hi, rfl⟩ := List.mem_iff_getElem.mp hz
    simp only [List.length_zip, List.length_drop] at hi
    simp only [List.getElem_zip, List.getElem_drop, decide_eq_true_eq]
    exact List.pairwise_iff_getElem.mp h.asc _ _ _ _ (by omega)
  have a2 : (List.range (p.length - d - 1)).all (fun j => decide (PV.cf p j < PV.cf p (j + d + 1))) = true := by
    rw [List.all_eq_true]
    intro j hj
    have := List.mem_range.mp hj
    exact decide_eq_true (h.win j (by omega))
  simp (disch := first | omega | (simp; done) | (simp; omega) | (simp [*]; done) | fail) [a1, a2, h.gnd, h.deg, h.lo, h.hi]
/-- points drawn -/
def Pts (k : Nat) (q : List Rat) : Prop := q.length = k + 1 ∧ q.Pairwise (· < ·) ∧ ∀ x ∈ q, Bd 2 (4 + 4 * k) x
theorem ko_turn {ds : List D} (hs : StOk ds) (hn : 3 ≤ n) {k : Nat} (hk : k < 3) {q : List Rat} (hq : Pts k q) {d : Nat} {c3 c4 c5 c6 c7 c8 : Cell} (h3 : asg c3 = true) (i : Int) : ∃ ds' q', StOk ds' ∧ Pts (k + 1) q' ∧
    forF P (fnEv P W n) W (.v 3) F_law_knots_of_b0 (.int i) [.io ds, .sh (.int d), .ow (q.map rD), c3, c4, c5, c6, c7, c8] = .ok (.nx, [.io ds', .sh (.int d), .ow (q'.map rD), .sh (.int i), c4, c5, c6, c7, c8]) := by
  obtain ⟨h1, h2, h4⟩ := hq
  obtain ⟨u, d1, e1, u0, u1, g1⟩ := takeI (n := n) (by omega) hs 2 (by decide) (by decide)
  obtain ⟨v, d2, e2, v0, v1, g2⟩ := takeI (n := n) (by omega) g1 2 (by decide) (by decide)
  have hl : PV.cf q k ∈ q := cf_mem (by omega)
  have hb := h4 _ hl
  have hb2 : bt (PV.cf q k) ≤ 6 := hb.sz (by decide) (by omega)
  have m2 := mk2R (n := n) (a := 1 + u) (b := 1 + v) (σ := [.io d2, .sh (.int d), .ow (q.map rD), .sh (.int i), c4, c5, c6, c7, c8]) (by omega) (by omega) (by omega) (by omega)
  have hb3 : bt (((1 + u : Int) : Rat) / ((1 + v : Int) : Rat)) ≤ 6 := bt_frac (by omega) (by omega)
  have i1 := ixLn (p := q) (i := -1) (by decide) (by omega)
  rw [show ((-1 : Int) + q.length).toNat = k by omega] at i1
  have a1 := addR (n := n) (x := PV.cf q k) (y := ((1 + u : Int) : Rat) / ((1 + v : Int) : Rat)) (by omega) (by omega)
  have pos : 0 < ((1 + u : Int) : Rat) / ((1 + v : Int) : Rat) := by
    rcases (by omega : u = 0 ∨ u = 1) with rfl | rfl <;> rcases (by omega : v = 0 ∨ v = 1) with rfl | rfl <;> decide +kernel
  have bd : Bd 2 4 (((1 + u : Int) : Rat) / ((1 + v : Int) : Rat)) := by
    rcases (by omega : u = 0 ∨ u = 1) with rfl | rfl <;> rcases (by omega : v = 0 ∨ v = 1) with rfl | rfl
    · exact ⟨2, by decide +kernel, by decide⟩
    · exact ⟨1, by decide +kernel, by decide⟩
    · exact ⟨4, by decide +kernel, by decide⟩
    · exact ⟨2, by decide +kernel, by decide⟩
  generalize ((1 + u : Int) : Rat) / ((1 + v : Int) : Rat) = z at *
  refine ⟨d2, q ++ [PV.cf q k + z], g2, ⟨by simp; omega, ?_, ?_⟩, ?_⟩
  · rw [List.pairwise_append]
    refine ⟨h2, by simp, fun x hx y hy => ?_⟩
    rw [List.mem_singleton.mp hy]
    obtain ⟨j, hj, rfl⟩ := List.mem_iff_getElem.mp hx
    have : PV.cf q j ≤ PV.cf q k := pair_le (h2.imp fun h => Rat.le_of_lt h) (by omega) (by omega)
    rw [cf_in hj] at this
    grind
  · intro x hx
    rcases List.mem_append.mp hx with hx | hx
    · exact (h4 x hx).mono (by omega)
    · rw [List.mem_singleton.mp hx]
      exact (hb.add bd).mono (by omega)
  · simp (disch := first | omega | (simp; done) | (simp; omega) | (simp [*]; done) | fail) [forF_eq, F_law_knots_of_b0, h3, e1, e2, i1, a1, m2, mulI, fdvI, modI, appF_ok, extF_ok, -appF_eq, -extF_eq, -ixOf_eq, -ev_lc, -ev_lcf]
theorem ko_loop {ds : List D} (hs : StOk ds) (hn : 3 ≤ n) {m : Nat} (hm : m ≤ 3) {q : List Rat} (hq : Pts 0 q) {d : Nat} {c4 c5 c6 c7 c8 : Cell} : ∃ ds' q' c3, StOk ds' ∧ Pts m q' ∧ asg c3 = true ∧
    forL (forF P (fnEv P W n) W (.v 3) F_law_knots_of_b0) ((List.range m).map fun (i : Nat) => D.int (i : Int)) [.io ds, .sh (.int d), .ow (q.map rD), .un, c4, c5, c6, c7, c8] = .ok (.nx, [.io ds', .sh (.int d), .ow (q'.map rD), c3, c4, c5, c6, c7, c8]) := by
  obtain ⟨σ', e, ds', q', c3, g, hq', h3, rfl⟩ := for_idx (r := fun (i : Nat) => D.int (i : Int)) (fun i σ => ∃ ds q c3, StOk ds ∧ Pts i q ∧ asg c3 = true ∧ σ = [.io ds, .sh (.int d), .ow (q.map rD), c3, c4, c5, c6, c7, c8]) (m := m) ⟨ds, q, .un, hs, hq, rfl, rfl⟩ (by
    rintro i σ hi ⟨ds, q, c3, g, hq, h3, rfl⟩
    obtain ⟨ds', q', g', hq', e⟩ := ko_turn g hn (by omega) hq (d := d) (c4 := c4) (c5 := c5) (c6 := c6) (c7 := c7) (c8 := c8) h3 i
    exact ⟨_, e, ds', q', _, g', hq', rfl, rfl⟩)
  exact ⟨ds', q', c3, g, hq', h3, e⟩
theorem mulL1 {cf : CF} {x : Rat} {j : Int} (h1 : -1000000 < j) (h2 : j ≤ 1000) : binD P cf .mul (.lst [rD x]) (.int j) = .ok (.ow ((List.replicate j.toNat x).map rD)) := by
  rw [mulLst (by simp) h1 h2, List.map_replicate]
  congr 2
  induction j.toNat with
  | zero => rfl
  | succ m ih => rw [List.replicate_succ, List.flatten_cons, ih, List.replicate_succ]; rfl
def LeftOk (d : Nat) (a : Rat) (l : List Rat) : Prop := l.length = d + 1 ∧ l.Pairwise (· ≤ ·) ∧ PV.cf l d = a ∧ ∀ x ∈ l, x ≤ a ∧ Bd 2 24 x
def RightOk (d : Nat) (b : Rat) (l : List Rat) : Prop := l.length = d + 1 ∧ l.Pairwise (· ≤ ·) ∧ PV.cf l 0 = b ∧ ∀ x ∈ l, b ≤ x ∧ Bd 2 24 x
theorem cf_rep {m i : Nat} {a : Rat} (h : i < m) : PV.cf (List.replicate m a) i = a := by
  rw [cf_in (by simpa using h)]; simp
theorem left_rep {d : Nat} {a : Rat} (h : Bd 2 24 a) : LeftOk d a (List.replicate (d + 1) a) := ⟨by simp, by
  rw [List.pairwise_replicate]; exact .inr Rat.le_refl, cf_rep (by omega), fun x hx => by rw [(List.mem_replicate.mp hx).2]; exact ⟨Rat.le_refl, h⟩⟩
theorem right_rep {d : Nat} {a : Rat} (h : Bd 2 24 a) : RightOk d a (List.replicate (d + 1) a) := ⟨by simp, by
  rw [List.pairwise_replicate]; exact .inr Rat.le_refl, cf_rep (by omega), fun x hx => by rw [(List.mem_replicate.mp hx).2]; exact ⟨Rat.le_refl, h⟩⟩
theorem left_steps {d : Nat} (hd : d < 5) {a : Rat} (h : Bd 2 16 a) : LeftOk d a ((List.range (d + 1)).map fun (i : Nat) => a - (((d : Int) - (i : Int) : Int) : Rat)) := by
  refine ⟨by simp, ?_, ?_, fun x hx => ?_⟩
  · rw [List.pairwise_map]
    refine List.pairwise_lt_range.imp fun {i j} hij => ?_
    have : (((d : Int) - j : Int) : Rat) ≤ (((d : Int) - i : Int) : Rat) := by exact_mod_cast (by omega : (d : Int) - j ≤ (d : Int) - i)
    grind
  · rw [cf_range, if_pos (by omega), Int.sub_self]
    show a - 0 = a
    grind
  · obtain ⟨i, hi, rfl⟩ := List.mem_map.mp hx
    have hi := List.mem_range.mp hi
    have : (0 : Rat) ≤ (((d : Int) - i : Int) : Rat) := by exact_mod_cast (by omega : (0 : Int) ≤ (d : Int) - i)
    exact ⟨by grind, (h.sub Bd.int).mono (by omega)⟩
theorem right_steps {d : Nat} (hd : d < 5) {b : Rat} (h : Bd 2 16 b) : RightOk d b ((List.range (d + 1)).map fun (i : Nat) => b + ((i : Int) : Rat)) := by
  refine ⟨by simp, ?_, ?_, fun x hx => ?_⟩
  · rw [List.pairwise_map]
    refine List.pairwise_lt_range.imp fun {i j} hij => ?_
    have : ((i : Int) : Rat) ≤ ((j : Int) : Rat) := by exact_mod_cast (by omega : (i : Int) ≤ j)
    grind
  · rw [cf_range, if_pos (by omega)]
    show b + 0 = b
    grind
  · obtain ⟨i, hi, rfl⟩ := List.mem_map.mp hx
    have hi := List.mem_range.mp hi
    have : (0 : Rat) ≤ ((i : Int) : Rat) := by exact_mod_cast (by omega : (0 : Int) ≤ (i : Int))
    exact ⟨by grind, (h.add Bd.int).mono (by omega)⟩
theorem ko_left {ds : List D} (hs : StOk ds) (hn : 3 ≤ n) {d : Nat} (hd : d < 5) {q : List Rat} (hq : 0 < q.length) (h : Bd 2 16 (PV.cf q 0)) {c3 c5 c7 c8 : Cell} : ∃ ds' l, StOk ds' ∧ LeftOk d (PV.cf q 0) l ∧
    exS P (fnEv P W n) W F_law_knots_of_s4 [.io ds, .sh (.int d), .ow (q.map rD), c3, .ow ((List.replicate (d + 1) (PV.cf q 0)).map rD), c5, .un, c7, c8] = .ok (.nx, [.io ds', .sh (.int d), .ow (q.map rD), c3, .ow (l.map rD), c5, .un, c7, c8]) := by
  obtain ⟨u, d1, e1, u0, u1, g1⟩ := takeI (n := n) (by omega) hs 2 (by decide) (by decide)
  have hb : bt (PV.cf q 0) ≤ 6 := h.sz (by decide) (by omega)
  rcases (by omega : u = 0 ∨ u = 1) with rfl | rfl
  · refine ⟨d1, _, g1, left_steps hd h, ?_⟩
    have e := lc_seq (P := P) (cf := fnEv P W n) (xs := List.range (d + 1)) (fun (i : Nat) => .int ((d : Int) + (i : Int) * (-1))) (fun (i : Nat) => rD (PV.cf q 0 - (((d : Int) - (i : Int) : Int) : Rat))) (t := 6) (e := F_law_knots_of_e0) (s := .rng (.cons (.var 1) (.cons (.neg (.con (.int 1))) (.cons (.neg (.con (.int 1))) .nil)))) (σ := [.io d1, .sh (.int d), .ow (q.map rD), c3, .ow ((List.replicate (d + 1) (PV.cf q 0)).map rD), c5, .un, c7, c8]) (c := .un)
      (by
        rw [src_rng]
        have r : rngA [.int (d : Int), .int (-1), .int (-1)] = some ((List.range (d + 1)).map fun (i : Nat) => D.int ((d : Int) + (i : Int) * (-1))) := by
          show rngD (d : Int) (-1) (-1) = _
          unfold rngD
          rw [if_pos ⟨by omega, by omega, by omega, by omega⟩, if_neg (by decide), if_pos rfl, show ((d : Int) - -1).toNat = d + 1 by omega]
        simp [r]) rfl rfl (by simp; omega) (fun i hi => by
        have hi := List.mem_range.mp hi
        have i1 := ixL (p := q) (i := 0) (by decide) (by omega)
        have m1 := fun σ => mk1R (n := n) (a := (d : Int) + (i : Int) * (-1)) (σ := σ) (by omega)
        rw [show (d : Int) + (i : Int) * (-1) = (d : Int) - i by omega] at m1 ⊢
        have hb2 : bt (((d : Int) - i : Int) : Rat) ≤ 6 := bt_int (by omega)
        have a1 := subR (n := n) (x := PV.cf q 0) (y := (((d : Int) - i : Int) : Rat)) (by omega) (by omega)
        generalize (((d : Int) - i : Int) : Rat) = z at *
        generalize (d : Int) - i = w at *
        simp [F_law_knots_of_e0, i1, m1, a1, -ixOf_eq])
    rw [List.map_map]
    simp only [Function.comp_def]
    generalize (List.range (d + 1)).map (fun (i : Nat) => rD (PV.cf q 0 - (((d : Int) - (i : Int) : Int) : Rat))) = L at *
    generalize (List.replicate (d + 1) (PV.cf q 0)).map rD = L0 at *
    simp (disch := first | omega | (simp; done) | (simp; omega) | (simp [*]; done) | fail) [F_law_knots_of_s4, e1, e, mulI, fdvI, modI, appF_ok, extF_ok, -appF_eq, -extF_eq, -ixOf_eq, -ev_lc, -ev_lcf]
  · refine ⟨d1, _, g1, left_rep (h.mono (by omega)), ?_⟩
    simp (disch := first | omega | (simp; done) | (simp; omega) | (simp [*]; done) | fail) [F_law_knots_of_s4, e1, mulI, fdvI, modI, appF_ok, extF_ok, -appF_eq, -extF_eq, -ixOf_eq, -ev_lc, -ev_lcf]
theorem ko_right {ds : List D} (hs : StOk ds) (hn : 3 ≤ n) {d k : Nat} (hd : d < 5) {q : List Rat} (hq : q.length = k + 1) (h : Bd 2 16 (PV.cf q k)) {c3 c4 c7 c8 : Cell} : ∃ ds' l, StOk ds' ∧ RightOk d (PV.cf q k) l ∧
    exS P (fnEv P W n) W F_law_knots_of_s5 [.io ds, .sh (.int d), .ow (q.map rD), c3, c4, .ow ((List.replicate (d + 1) (PV.cf q k)).map rD), .un, c7, c8] = .ok (.nx, [.io ds', .sh (.int d), .ow (q.map rD), c3, c4, .ow (l.map rD), .un, c7, c8]) := by
  obtain ⟨u, d1, e1, u0, u1, g1⟩ := takeI (n := n) (by omega) hs 2 (by decide) (by decide)
  have hb : bt (PV.cf q k) ≤ 6 := h.sz (by decide) (by omega)
  rcases (by omega : u = 0 ∨ u = 1) with rfl | rfl
  · refine ⟨d1, _, g1, right_steps hd h, ?_⟩
    have e := lc_seq (P := P) (cf := fnEv P W n) (xs := List.range (d + 1)) (fun (i : Nat) => .int (i : Int)) (fun (i : Nat) => rD (PV.cf q k + ((i : Int) : Rat))) (t := 6) (e := F_law_knots_of_e1) (s := .rng (.cons (.bin .add (.var 1) (.con (.int 1))) .nil)) (σ := [.io d1, .sh (.int d), .ow (q.map rD), c3, c4, .ow ((List.replicate (d + 1) (PV.cf q k)).map rD), .un, c7, c8]) (c := .un)
      (src_range1 (d + 1) (i := (d : Int) + 1) (by simp) (by omega) (by omega) (by omega)) rfl rfl (by simp; omega) (fun i hi => by
        have hi := List.mem_range.mp hi
        have i1 := ixLn (p := q) (i := -1) (by decide) (by omega)
        rw [show ((-1 : Int) + q.length).toNat = k by omega] at i1
        have m1 := fun σ => mk1R (n := n) (a := (i : Int)) (σ := σ) (by omega)
        have hb2 : bt ((i : Int) : Rat) ≤ 6 := bt_int (by omega)
        have a1 := addR (n := n) (x := PV.cf q k) (y := ((i : Int) : Rat)) (by omega) (by omega)
        generalize ((i : Int) : Rat) = z at *
        generalize (i : Int) = w at *
        simp [F_law_knots_of_e1, i1, m1, a1, -ixOf_eq])
    rw [List.map_map]
    simp only [Function.comp_def]
    generalize (List.range (d + 1)).map (fun (i : Nat) => rD (PV.cf q k + ((i : Int) : Rat))) = L at *
    generalize (List.replicate (d + 1) (PV.cf q k)).map rD = L0 at *
    simp (disch := first | omega | (simp; done) | (simp; omega) | (simp [*]; done) | fail) [F_law_knots_of_s5, e1, e, mulI, fdvI, modI, appF_ok, extF_ok, -appF_eq, -extF_eq, -ixOf_eq, -ev_lc, -ev_lcf]
  · refine ⟨d1, _, g1, right_rep (h.mono (by omega)), ?_⟩
    simp (disch := first | omega | (simp; done) | (simp; omega) | (simp [*]; done) | fail) [F_law_knots_of_s5, e1, mulI, fdvI, modI, appF_ok, extF_ok, -appF_eq, -extF_eq, -ixOf_eq, -ev_lc, -ev_lcf]
/-- the knots between -/
def MidOk (d j : Nat) (q m : List Rat) : Prop := m.Pairwise (· ≤ ·) ∧ (∀ x ∈ m, x ∈ q.take j) ∧ (∀ x, m.count x ≤ d + 1) ∧ m.length ≤ 2 * j
theorem MidOk.next {d j u : Nat} {q m : List Rat} (hq : q.Pairwise (· < ·)) (h : MidOk d j q m) (hj : j < q.length) (hu : u ≤ d + 1) (hu2 : u ≤ 2) : MidOk d (j + 1) q (m ++ List.replicate u (PV.cf q j)) := by
  obtain ⟨h1, h2, h3, h4⟩ := h
  have lt : ∀ x ∈ q.take j, x < PV.cf q j := fun x hx => by
    obtain ⟨i, hi, rfl⟩ := List.mem_iff_getElem.mp hx
    simp only [List.length_take] at hi
    rw [List.getElem_take, ← cf_in (by omega)]
    exact pair_lt hq (by omega) hj
  refine ⟨?_, fun x hx => ?_, fun x => ?_, by simp; omega⟩
  · rw [List.pairwise_append]
    refine ⟨h1, by rw [List.pairwise_replicate]; exact .inr Rat.le_refl, fun x hx y hy => ?_⟩
    rw [(List.mem_replicate.mp hy).2]
    exact Rat.le_of_lt (lt x (h2 x hx))
  · rw [List.take_succ_eq_append_getElem hj]
    rcases List.mem_append.mp hx with hx | hx
    · exact List.mem_append_left _ (h2 x hx)
    · rw [(List.mem_replicate.mp hx).2, cf_in hj]
      exact List.mem_append_right _ (by simp)
  · rw [List.count_append, List.count_replicate]
    have := h3 x
    by_cases e : x = PV.cf q j
    · have : m.count x = 0 := List.count_eq_zero.mpr fun hx => by
        have := lt x (h2 x hx)
        rw [e] at this
        exact Rat.lt_irrefl this
      split <;> omega
    · rw [if_neg (by simpa using fun z => e z.symm)]
      omega
theorem ko_mid {ds : List D} (hs : StOk ds) (hn : 3 ≤ n) {d : Nat} (hd : d < 5) {q : List Rat} (hq : q.Pairwise (· < ·)) (hl : q.length ≤ 2) {c2 c3 c4 c5 c6 : Cell} : ∃ ds' m c8, StOk ds' ∧ MidOk d q.length q m ∧ asg c8 = true ∧
    forL (forF P (fnEv P W n) W (.v 8) F_law_knots_of_b1) (q.map rD) [.io ds, .sh (.int d), c2, c3, c4, c5, c6, .ow [], .un] = .ok (.nx, [.io ds', .sh (.int d), c2, c3, c4, c5, c6, .ow (m.map rD), c8]) := by
  rw [range_rD q]
  obtain ⟨σ', e, ds', m, c8, g, hm, h8, rfl⟩ := for_idx (r := fun (i : Nat) => rD (PV.cf q i)) (fun i σ => ∃ ds m c8, StOk ds ∧ MidOk d i q m ∧ asg c8 = true ∧ σ = [.io ds, .sh (.int d), c2, c3, c4, c5, c6, .ow (m.map rD), c8]) (m := q.length) (f := forF P (fnEv P W n) W (.v 8) F_law_knots_of_b1) ⟨ds, [], .un, hs, ⟨List.Pairwise.nil, nofun, fun x => by simp, by simp⟩, rfl, rfl⟩ (by
    rintro i σ hi ⟨ds, m, c8, g, hm, h8, rfl⟩
    obtain ⟨u, d1, e1, u0, u1, g1⟩ := takeI (n := n) (by omega) g (if (2 : Int) < (d : Int) + 1 then 2 else (d : Int) + 1) (by split <;> omega) (by split <;> omega)
    have hu : (1 + u).toNat ≤ d + 1 ∧ (1 + u).toNat ≤ 2 := by split at u1 <;> omega
    have m1 := mulL1 (cf := fnEv P W n) (x := PV.cf q i) (j := 1 + u) (by omega) (by omega)
    have hm' := hm.next hq hi hu.1 hu.2
    have hl := hm.2.2.2
    have a1 := addLL (P := P) (cf := fnEv P W n) (i := m.map rD) (j := (List.replicate (1 + u).toNat (PV.cf q i)).map rD) (by simp; omega)
    rw [← List.map_append] at a1
    refine ⟨_, ?_, d1, _, .sh (rD (PV.cf q i)), g1, hm', rfl, rfl⟩
    generalize m ++ List.replicate (1 + u).toNat (PV.cf q i) = m' at *
    generalize (List.replicate (1 + u).toNat (PV.cf q i)).map rD = L at *
    simp (disch := first | omega | (simp; done) | (simp; omega) | (simp [*]; done) | fail) [forF_eq, F_law_knots_of_b1, h8, e1, m1, a1, mulI, fdvI, modI, appF_ok, extF_ok, -appF_eq, -extF_eq, -ixOf_eq, -ev_lc, -ev_lcf])
  exact ⟨ds', m, c8, g, hm, h8, e⟩
theorem kn_special {d : Nat} (h0 : 0 < d) (hd : d < 5) : Kn d (List.replicate (d + 1) 0 ++ List.replicate (d + 1) 1 ++ [2]) ∧ ∀ x ∈ List.replicate (d + 1) (0 : Rat) ++ List.replicate (d + 1) 1 ++ [2], Bd 2 24 x := by
  constructor
  · have e : List.replicate (d + 1) (0 : Rat) ++ List.replicate (d + 1) 1 ++ [2] = List.replicate (d + 1) 0 ++ [1] ++ (List.replicate d 1 ++ [2]) := by
      rw [List.replicate_succ (a := (1 : Rat))]
      simp
    have A : (List.replicate (d + 1) (0 : Rat) ++ List.replicate (d + 1) 1 ++ [2]).Pairwise (· ≤ ·) := by
      rw [List.pairwise_append, List.pairwise_append]
      refine ⟨⟨by rw [List.pairwise_replicate]; exact .inr Rat.le_refl, by rw [List.pairwise_replicate]; exact .inr Rat.le_refl, fun x hx y hy => ?_⟩, by simp, fun x hx y hy => ?_⟩
      · rw [(List.mem_replicate.mp hx).2, (List.mem_replicate.mp hy).2]; decide
      · rw [List.mem_singleton.mp hy]
        rcases List.mem_append.mp hx with hx | hx <;> rw [(List.mem_replicate.mp hx).2] <;> decide
    have C : ∀ x, (List.replicate (d + 1) (0 : Rat) ++ List.replicate (d + 1) 1 ++ [2]).count x ≤ d + 1 := fun x => by
      rw [List.count_append, List.count_append, List.count_replicate, List.count_replicate, List.count_singleton]
      by_cases e0 : x = 0
      · subst e0; rw [if_pos (by decide), if_neg (by decide), if_neg (by decide)]; omega
      · by_cases e1 : x = 1
        · subst e1; rw [if_neg (by decide), if_pos (by decide), if_neg (by decide)]; omega
        · rw [if_neg (by simpa using fun z => e0 z.symm), if_neg (by simpa using fun z => e1 z.symm)]
          split <;> omega
    refine ⟨by omega, A, by simp; omega, by simp; omega, fun j hj => win_of A C (j := j) (m := d + 1) (by omega), ?_⟩
    rw [show (List.replicate (d + 1) (0 : Rat) ++ List.replicate (d + 1) (1 : Rat) ++ [(2 : Rat)]).length - d - 1 = (List.replicate (d + 1) (0 : Rat)).length + 1 by simp; omega, List.append_assoc, cf_appR, cf_appL (by simp), cf_appL (by simp; omega), cf_rep (by omega), cf_rep (by omega)]
    decide
  · intro x hx
    rcases List.mem_append.mp hx with hx | hx
    · rcases List.mem_append.mp hx with hx | hx <;> rw [(List.mem_replicate.mp hx).2]
      · exact ⟨0, by decide +kernel, by decide⟩
      · exact ⟨2, by decide +kernel, by decide⟩
    · rw [List.mem_singleton.mp hx]
      exact ⟨4, by decide +kernel, by decide⟩
theorem rep1 {x : Rat} {j : Nat} : (List.replicate j [x]).flatten = List.replicate j x := by
  induction j with
  | zero => rfl
  | succ m ih => rw [List.replicate_succ, List.flatten_cons, ih, List.replicate_succ]; rfl
theorem knots_of_ok (hn : 4 ≤ n) {ds : List D} (hs : StOk ds) {d : Nat} (hd : d < 5) : ∃ p ds', fnEv P W n i_law_knots_of (.io ds) [.int d] = .ok (.sh (pD p), ds') ∧ Kn d p ∧ (∀ x ∈ p, Bd 2 24 x) ∧ StOk ds' := by
  obtain ⟨m, rfl⟩ := dep hn
  -- the usual ones
  have usual : ∀ ds, StOk ds → ∃ p ds', runM (.io ds) (exSs P (fnEv P W (m + 3)) W (.cons F_law_knots_of_s1 (.cons F_law_knots_of_s2 (.cons F_law_knots_of_s3 (.cons F_law_knots_of_s4 (.cons F_law_knots_of_s5 (.cons F_law_knots_of_s6 (.cons F_law_knots_of_s7 (.cons F_law_knots_of_s8 .nil)))))))) [.io ds, .sh (.int d), .un, .un, .un, .un, .un, .un, .un]) = .ok (.sh (pD p), ds') ∧ Kn d p ∧ (∀ x ∈ p, Bd 2 24 x) ∧ StOk ds' := by
    intro ds hs
    obtain ⟨u, d1, e1, u0, u1, g1⟩ := takeI (n := m + 3) (by omega) hs 5 (by decide) (by decide)
    have m1 := fun σ => mk1R (n := m + 3) (a := u - 2) (σ := σ) (by omega)
    have hq0 : Pts 0 [((u - 2 : Int) : Rat)] := ⟨rfl, by simp, fun x hx => by rw [List.mem_singleton.mp hx]; exact Bd.int.mono (by omega)⟩
    have l0 : [rD ((u - 2 : Int) : Rat)] = [((u - 2 : Int) : Rat)].map rD := rfl
    obtain ⟨v, d2, e2, v0, v1, g2⟩ := takeI (n := m + 3) (by omega) g1 3 (by decide) (by decide)
    obtain ⟨d3, q, c3, g3, hq, h3, e3⟩ := ko_loop (n := m + 3) g2 (by omega) (m := (1 + v).toNat) (by omega) hq0 (d := d) (c4 := .un) (c5 := .un) (c6 := .un) (c7 := .un) (c8 := .un)
    have hk : (1 + v).toNat ≤ 3 ∧ 1 ≤ (1 + v).toNat := by omega
    have r3 := rngA_1 (k := (1 + v).toNat) (by omega)
    rw [show (((1 + v).toNat : Nat) : Int) = 1 + v by omega] at r3
    generalize ((u - 2 : Int) : Rat) = x0 at *
    generalize (1 + v).toNat = k at *
    have r3 : rngA [.int (1 + v)] = some ((List.range k).map fun (i : Nat) => D.int i) := r3
    obtain ⟨hq1, hq2, hq3⟩ := hq
    have b0 : Bd 2 16 (PV.cf q 0) := (hq3 _ (cf_mem (by omega))).mono (by omega)
    have bk : Bd 2 16 (PV.cf q k) := (hq3 _ (cf_mem (by omega))).mono (by omega)
    have hlt : PV.cf q 0 < PV.cf q k := pair_lt hq2 (by omega) (by omega)
    obtain ⟨d4, l, g4, hl, e4⟩ := ko_left (n := m + 3) g3 (by omega) hd (q := q) (by omega) b0 (c3 := c3) (c5 := .ow ((List.replicate (d + 1) (PV.cf q k)).map rD)) (c7 := .un) (c8 := .un)
    obtain ⟨d5, r, g5, hr, e5⟩ := ko_right (n := m + 3) g4 (by omega) hd (q := q) hq1 bk (c3 := c3) (c4 := .ow (l.map rD)) (c7 := .un) (c8 := .un)
    have hin : cutR q (some 1) (some (-1)) = (q.drop 1).take (k - 1) := by rw [cutR_inner, hq1]; rfl
    have hq' : ((q.drop 1).take (k - 1)).Pairwise (· < ·) := (hq2.drop).take
    obtain ⟨d6, md, c8, g6, hm, h8, e6⟩ := ko_mid (n := m + 3) g5 (by omega) hd hq' (by simp; omega) (c2 := .ow (q.map rD)) (c3 := c3) (c4 := .ow (l.map rD)) (c5 := .ow (r.map rD)) (c6 := .un)
    have hmem : ∀ x ∈ md, PV.cf q 0 < x ∧ x < PV.cf q k ∧ x ∈ q := fun x hx => by
      have := hm.2.1 x hx
      obtain ⟨i, hi, rfl⟩ := List.mem_iff_getElem.mp (List.mem_of_mem_take this)
      simp only [List.length_take, List.length_drop] at hi
      rw [List.getElem_take, List.getElem_drop]
      refine ⟨?_, ?_, List.getElem_mem _⟩
      · rw [← cf_in (by omega)]; exact pair_lt hq2 (by omega) (by omega)
      · rw [← cf_in (by omega)]; exact pair_lt hq2 (by omega) (by omega)
    have K : Kn d (l ++ md ++ r) := Kn.of (a := PV.cf q 0) (b := PV.cf q k) (by omega) hl.1 hr.1 (by have := hm.2.2.2; simp at this; omega) hl.2.1 hm.1 hr.2.1 hl.2.2.1 hr.2.2.1 (fun x hx => (hl.2.2.2 x hx).1) (fun x hx => (hr.2.2.2 x hx).1) (fun x hx => ⟨(hmem x hx).1, (hmem x hx).2.1⟩) hlt hm.2.2.1
    have lm : md.length ≤ 10 := by have := hm.2.2.2; simp at this; omega
    refine ⟨l ++ md ++ r, d6, ?_, K, fun x hx => ?_, g6⟩
    · have s1 : exS P (fnEv P W (m + 3)) W F_law_knots_of_s1 [.io ds, .sh (.int d), .un, .un, .un, .un, .un, .un, .un] = .ok (.nx, [.io d1, .sh (.int d), .ow ([x0].map rD), .un, .un, .un, .un, .un, .un]) := by
        simp (disch := first | omega | (simp; done) | (simp; omega) | (simp [*]; done) | fail) [F_law_knots_of_s1, e1, m1, mulI, fdvI, modI, appF_ok, extF_ok, -appF_eq, -extF_eq, -ixOf_eq, -ev_lc, -ev_lcf]
      have s2 : exS P (fnEv P W (m + 3)) W F_law_knots_of_s2 [.io d1, .sh (.int d), .ow ([x0].map rD), .un, .un, .un, .un, .un, .un] = .ok (.nx, [.io d3, .sh (.int d), .ow (q.map rD), c3, .un, .un, .un, .un, .un]) := by
        refine for_rng_run (ds := [.int (1 + v)]) (σ1 := [.io d2, .sh (.int d), .ow ([x0].map rD), .un, .un, .un, .un, .un, .un]) ?_ r3 e3
        generalize [x0].map rD = L0 at *
        simp (disch := first | omega | (simp; done) | (simp; omega) | (simp [*]; done) | fail) [e2, mulI, fdvI, modI, appF_ok, extF_ok, -appF_eq, -extF_eq, -ixOf_eq, -ev_lc, -ev_lcf]
      have j1 := mulL1 (cf := fnEv P W (m + 3)) (x := PV.cf q 0) (j := (d : Int) + 1) (by omega) (by omega)
      have j2 := mulL1 (cf := fnEv P W (m + 3)) (x := PV.cf q k) (j := (d : Int) + 1) (by omega) (by omega)
      rw [show ((d : Int) + 1).toNat = d + 1 by omega] at j1 j2
      have i1 := ixL (p := q) (i := 0) (by decide) (by omega)
      have i2 := ixLn (p := q) (i := -1) (by decide) (by omega)
      rw [show ((-1 : Int) + q.length).toNat = k by omega] at i2
      have s3 : exS P (fnEv P W (m + 3)) W F_law_knots_of_s3 [.io d3, .sh (.int d), .ow (q.map rD), c3, .un, .un, .un, .un, .un] = .ok (.nx, [.io d3, .sh (.int d), .ow (q.map rD), c3, .ow ((List.replicate (d + 1) (PV.cf q 0)).map rD), .ow ((List.replicate (d + 1) (PV.cf q k)).map rD), .un, .un, .un]) := by
        generalize (List.replicate (d + 1) (PV.cf q 0)).map rD = L0 at *
        generalize (List.replicate (d + 1) (PV.cf q k)).map rD = L1 at *
        simp (disch := first | omega | (simp; done) | (simp; omega) | (simp [*]; done) | fail) [F_law_knots_of_s3, i1, i2, j1, j2, mulI, fdvI, modI, appF_ok, extF_ok, -appF_eq, -extF_eq, -ixOf_eq, -ev_lc, -ev_lcf]
      have s6 : exS P (fnEv P W (m + 3)) W F_law_knots_of_s6 [.io d5, .sh (.int d), .ow (q.map rD), c3, .ow (l.map rD), .ow (r.map rD), .un, .un, .un] = .ok (.nx, [.io d5, .sh (.int d), .ow (q.map rD), c3, .ow (l.map rD), .ow (r.map rD), .un, .ow [], .un]) := by
        simp (disch := first | omega | (simp; done) | (simp; omega) | (simp [*]; done) | fail) [F_law_knots_of_s6, mulI, fdvI, modI, appF_ok, extF_ok, -appF_eq, -extF_eq, -ixOf_eq, -ev_lc, -ev_lcf]
      have s7 : exS P (fnEv P W (m + 3)) W F_law_knots_of_s7 [.io d5, .sh (.int d), .ow (q.map rD), c3, .ow (l.map rD), .ow (r.map rD), .un, .ow [], .un] = .ok (.nx, [.io d6, .sh (.int d), .ow (q.map rD), c3, .ow (l.map rD), .ow (r.map rD), .un, .ow (md.map rD), c8]) := by
        refine for_free (src_fresh (xs := ((q.drop 1).take (k - 1)).map rD) ?_) e6
        rw [← hin]
        simp (disch := first | omega | (simp; done) | (simp; omega) | (simp [*]; done) | fail) [slcL, mulI, fdvI, modI, appF_ok, extF_ok, -appF_eq, -extF_eq, -ixOf_eq, -ev_lc, -ev_lcf]
      have z1 := addLL (P := P) (cf := fnEv P W (m + 3)) (i := l.map rD) (j := md.map rD) (by have := hl.1; simp; omega)
      rw [← List.map_append] at z1
      have z2 := addLL (P := P) (cf := fnEv P W (m + 3)) (i := (l ++ md).map rD) (j := r.map rD) (by have := hl.1; have := hr.1; simp; omega)
      rw [← List.map_append] at z2
      have s8 : exSs P (fnEv P W (m + 3)) W (.cons F_law_knots_of_s8 .nil) [.io d6, .sh (.int d), .ow (q.map rD), c3, .ow (l.map rD), .ow (r.map rD), .un, .ow (md.map rD), c8] = .ok (.rt (.sh (pD (l ++ md ++ r))), [.io d6, .sh (.int d), .ow (q.map rD), c3, .ow (l.map rD), .ow (r.map rD), .un, .ow (md.map rD), c8]) := by
        generalize l ++ md = lm at *
        generalize lm ++ r = lmr at *
        simp (disch := first | omega | (simp; done) | (simp; omega) | (simp [*]; done) | fail) [F_law_knots_of_s8, z1, z2, mulI, fdvI, modI, appF_ok, extF_ok, -appF_eq, -extF_eq, -ixOf_eq, -ev_lc, -ev_lcf]
        rfl
      rw [seq_nx s1 (seq_nx s2 (seq_nx s3 (seq_nx e4 (seq_nx e5 (seq_nx s6 (seq_nx s7 s8))))))]
      rfl
    · rcases List.mem_append.mp hx with hx | hx
      · rcases List.mem_append.mp hx with hx | hx
        · exact (hl.2.2.2 x hx).2
        · exact (hq3 x (hmem x hx).2.2).mono (by omega)
      · exact (hr.2.2.2 x hx).2
  refine ?_
  have fin : ∀ v, runM (.io ds) (exSs P (fnEv P W (m + 3)) W F_law_knots_of.body [.io ds, .sh (.int d), .un, .un, .un, .un, .un, .un, .un]) = v → fnEv P W (m + 4) i_law_knots_of (.io ds) [.int d] = v := fun v h => fn_runE (f := F_law_knots_of) rfl rfl rfl h
  rcases Nat.eq_zero_or_pos d with rfl | h0
  · obtain ⟨p, ds', e, h⟩ := usual ds hs
    refine ⟨p, ds', fin _ ?_, h⟩
    have s0 : exS P (fnEv P W (m + 3)) W F_law_knots_of_s0 [.io ds, .sh (.int (0 : Nat)), .un, .un, .un, .un, .un, .un, .un] = .ok (.nx, [.io ds, .sh (.int (0 : Nat)), .un, .un, .un, .un, .un, .un, .un]) := by
      simp (disch := first | omega | (simp; done) | (simp; omega) | (simp [*]; done) | fail) [F_law_knots_of_s0, mulI, fdvI, modI, appF_ok, extF_ok, -appF_eq, -extF_eq, -ixOf_eq, -ev_lc, -ev_lcf]
    rw [← e]
    show runM _ (exSs P _ W (.cons F_law_knots_of_s0 _) _) = _
    rw [seq_nx s0 rfl]
  · obtain ⟨u, d1, e1, u0, u1, g1⟩ := takeI (n := m + 3) (by omega) hs 8 (by decide) (by decide)
    have hp : (0 : Int) < (d : Int) := by omega
    by_cases hz : u = 0
    · subst hz
      obtain ⟨K, B⟩ := kn_special h0 hd
      refine ⟨_, d1, fin _ ?_, K, B, g1⟩
      have q0 := fun σ => mk1R (n := m + 3) (a := 0) (σ := σ) (by omega)
      have q1 := fun σ => mk1R (n := m + 3) (a := 1) (σ := σ) (by omega)
      have q2 := fun σ => mk1R (n := m + 3) (a := 2) (σ := σ) (by omega)
      have w0 := mulPI (cf := fnEv P W (m + 3)) (p := [0]) (j := (d : Int) + 1) (by decide) (by omega) (by omega)
      have w1 := mulPI (cf := fnEv P W (m + 3)) (p := [1]) (j := (d : Int) + 1) (by decide) (by omega) (by omega)
      rw [show ((d : Int) + 1).toNat = d + 1 by omega, rep1] at w0 w1
      have v1 := addPP (cf := fnEv P W (m + 3)) (p := List.replicate (d + 1) 0) (q := List.replicate (d + 1) 1) (by simp; omega)
      have v2 := addPP (cf := fnEv P W (m + 3)) (p := List.replicate (d + 1) 0 ++ List.replicate (d + 1) 1) (q := [2]) (by simp; omega)
      have t0 : D.tup [rD ((0 : Int) : Rat)] = pD [0] := rfl
      have t1 : D.tup [rD ((1 : Int) : Rat)] = pD [1] := rfl
      have t2 : D.tup [rD ((2 : Int) : Rat)] = pD [2] := rfl
      show runM _ (exSs P _ W (.cons F_law_knots_of_s0 _) _) = _
      generalize ((0 : Int) : Rat) = y0 at *
      generalize ((1 : Int) : Rat) = y1 at *
      generalize ((2 : Int) : Rat) = y2 at *
      generalize List.replicate (d + 1) 0 ++ List.replicate (d + 1) 1 = W0 at *
      generalize W0 ++ [2] = W1 at *
      simp (disch := first | omega | (simp; done) | (simp; omega) | (simp [*]; done) | fail) [F_law_knots_of_s0, hp, h0, e1, q0, q1, q2, t0, t1, t2, w0, w1, v1, v2, mulI, fdvI, modI, appF_ok, extF_ok, -appF_eq, -extF_eq, -ixOf_eq, -ev_lc, -ev_lcf]
    · obtain ⟨p, ds', e, h⟩ := usual d1 g1
      refine ⟨p, ds', fin _ ?_, h⟩
      have s0 : exS P (fnEv P W (m + 3)) W F_law_knots_of_s0 [.io ds, .sh (.int d), .un, .un, .un, .un, .un, .un, .un] = .ok (.nx, [.io d1, .sh (.int d), .un, .un, .un, .un, .un, .un, .un]) := by
        simp (disch := first | omega | (simp; done) | (simp; omega) | (simp [*]; done) | fail) [F_law_knots_of_s0, e1, hp, h0, hz, mulI, fdvI, modI, appF_ok, extF_ok, -appF_eq, -extF_eq, -ixOf_eq, -ev_lc, -ev_lcf]
      rw [← e]
      show runM _ (exSs P _ W (.cons F_law_knots_of_s0 _) _) = _
      rw [seq_nx s0 rfl]
      rfl
end
end K21
set_option Elab.async false
set_option linter.all false
set_option maxRecDepth 100000
set_option maxHeartbeats 800000
namespace K21
open PySem L2 PV
section
variable {n : Nat}
/-! ### what is asked of knots -/
/-- rows of small numbers -/
abbrev Sm10 (p : List Rat) : Prop := ∀ x ∈ p, bt x ≤ 10
def iL (l : List Nat) : List D := l.map fun (i : Nat) => .int (i : Int)
theorem Sm10.cf {p : List Rat} (h : Sm10 p) (k : Nat) : bt (PV.cf p k) ≤ 10 := bt_cf h k
theorem ixK {p : List Rat} {i : Int} (k : Nat) (hi : i.toNat = k) (h0 : 0 ≤ i) (h : i < p.length) : ixOf (pD p) (.int i) = .ok (rD (PV.cf p k)) := by
  rw [ixP h0 h, hi]
theorem groundR (hn : 1 ≤ n) {d : Nat} {p : List Rat} (hl : d + 1 ≤ p.length) : fnEv P W n i_ground_of .no [.int d, pD p] = .ok (.sh (pD [PV.cf p d, PV.cf p (p.length - d - 1)]), []) := by
  obtain ⟨m, rfl⟩ := dep hn
  have i1 := ixK (p := p) (i := d) d (by omega) (by omega) (by omega)
  have i2 := ixK (p := p) (i := (p.length : Int) - d - 1) (p.length - d - 1) (by omega) (by omega) (by omega)
  refine fn_runE (f := F_ground_of) rfl rfl rfl ?_
  simp [F_ground_of, st0, i1, i2, t2_pD, -ixOf_eq]
theorem spansX {cf : CF} {d : Nat} {p : List Rat} (hp : Sm10 p) (hl : 2 * d + 1 ≤ p.length) (h6 : p.length ≤ 1000) (hcf : ∃ m, 3 ≤ m ∧ cf = fnEv P W m) {e0 e1 : Ex} (he0 : e0 = .cmp .lt (.ix (.var 1) (.var 2)) (.ix (.var 1) (.bin .add (.var 2) (.con (.int 1))))) (he1 : e1 = .var 2) :
    ev P cf (.lcf (.rng (.cons (.var 0) (.cons (.bin .sub (.bin .sub (.bif .len (.cons (.var 1) .nil)) (.var 0)) (.con (.int 1))) .nil))) (.v 2) e0 e1) [.sh (.int d), .sh (pD p), .un] = .ok (.ow (iL (spn d p)), [.sh (.int d), .sh (pD p), .un]) := by
  obtain ⟨m, hm, rfl⟩ := hcf
  subst he0 he1
  have e := lcf_seq (P := P) (cf := fnEv P W m) (xs := List.range (p.length - 2 * d - 1)) (fun (i : Nat) => .int ((d : Int) + i)) (fun (i : Nat) => .int ((d : Int) + i)) (fun i => decide (PV.cf p (d + i) < PV.cf p (d + i + 1))) (t := 2) (k := .cmp .lt (.ix (.var 1) (.var 2)) (.ix (.var 1) (.bin .add (.var 2) (.con (.int 1))))) (e := .var 2) (s := .rng (.cons (.var 0) (.cons (.bin .sub (.bin .sub (.bif .len (.cons (.var 1) .nil)) (.var 0)) (.con (.int 1))) .nil))) (σ := [.sh (.int d), .sh (pD p), .un]) (c := .un)
    (src_range2 (p.length - 2 * d - 1) (lo := d) (hi := (p.length : Int) - d - 1) (by simp) (by omega) (by omega) (by omega) (by omega) (by omega)) rfl rfl (by simp; omega) (fun i hi => by
      have hi := List.mem_range.mp hi
      have i1 := ixK (p := p) (i := (d : Int) + i) (d + i) (by omega) (by omega) (by omega)
      have i2 := ixK (p := p) (i := (d : Int) + i + 1) (d + i + 1) (by omega) (by omega) (by omega)
      have := hp.cf (d + i)
      have := hp.cf (d + i + 1)
      have l1 := ltR (n := m) (x := PV.cf p (d + i)) (y := PV.cf p (d + i + 1)) (by omega) (by omega)
      refine ⟨?_, fun _ => by simp⟩
      generalize (d : Int) + i = w at *
      simp [i1, i2, l1, -ixOf_eq])
  rw [e]
  unfold iL spn
  rw [List.filter_map, List.map_map]
  rfl
theorem spansR (hn : 4 ≤ n) {d : Nat} {p : List Rat} (hp : Sm10 p) (hl : 2 * d + 1 ≤ p.length) (h6 : p.length ≤ 1000) : fnEv P W n i_spans_of .no [.int d, pD p] = .ok (.sh (.tup (iL (spn d p))), []) := by
  obtain ⟨m, rfl⟩ := dep hn
  have e := spansX (cf := fnEv P W (m + 3)) hp hl h6 ⟨_, by omega, rfl⟩ (e0 := F_spans_of_e0) (e1 := F_spans_of_e1) rfl rfl
  refine fn_runE (f := F_spans_of) rfl rfl rfl ?_
  simp [F_spans_of, st0, e, -ev_lcf]
theorem multR (hn : 2 ≤ n) {p : List Rat} (h6 : p.length ≤ 1000) (x : Rat) : fnEv P W n i_multiplicity .no [pD p, rD x] = .ok (.sh (.int (p.count x : Nat)), []) := by
  obtain ⟨m, rfl⟩ := dep hn
  have e := lcf_seq (P := P) (cf := fnEv P W (m + 1)) (xs := p) rD rD (fun y => decide (y = x)) (t := 2) (k := F_multiplicity_e0) (e := F_multiplicity_e1) (s := .seq (.var 0)) (σ := [.sh (pD p), .sh (rD x), .un]) (c := .un)
    (src_at (A := pD p) (by simp) rfl) rfl rfl (by omega) (fun y hy => by
      have l1 := eqRR (n := m + 1) (by omega) (x := y) (y := x)
      exact ⟨by simp [F_multiplicity_e0, l1], fun _ => by simp [F_multiplicity_e1]⟩)
  refine fn_runE (f := F_multiplicity) rfl rfl rfl ?_
  have el : ((p.filter fun y => decide (y = x)).map rD).length = p.count x := by
    rw [List.length_map, List.count_eq_length_filter]
    rfl
  generalize (p.filter fun y => decide (y = x)).map rD = L at *
  simp [F_multiplicity, st0, e, el, -ev_lcf]
theorem iL_len {l : List Nat} : (iL l).length = l.length := by simp [iL]
theorem iL_at {l : List Nat} {i : Int} (k : Nat) (hk : i = k) (h : k < l.length) : atI (iL l) i = some (.int ((l.getD k 0 : Nat) : Int)) := by
  subst hk
  rw [PV.atI_nat (by rw [iL_len]; exact h)]
  unfold iL
  rw [List.getD_eq_getElem?_getD, List.getElem?_map, List.getElem?_eq_getElem h, List.getD_eq_getElem?_getD, List.getElem?_eq_getElem h]
  rfl
theorem iL_last {l : List Nat} (h : 0 < l.length) : atI (iL l) (-1) = some (.int ((l.getD (l.length - 1) 0 : Nat) : Int)) := by
  have e : atI (iL l) (-1) = atI (iL l) ((l.length - 1 : Nat) : Int) := by
    unfold atI ixN
    rw [iL_len]
    rw [if_neg (by decide), if_pos (by omega), if_pos (by omega), if_pos (by omega)]
    congr 2
    omega
  rw [e]
  exact iL_at _ rfl (by omega)
theorem ixIL {l : List Nat} {i : Int} (k : Nat) (hk : i = k) (h : k < l.length) : ixOf (.lst (iL l)) (.int i) = .ok (.int ((l.getD k 0 : Nat) : Int)) := by
  rw [ixOf_eq, items_lst]
  simp only [iL_at k hk h]
theorem ixILn {l : List Nat} (h : 0 < l.length) : ixOf (.lst (iL l)) (.int (-1)) = .ok (.int ((l.getD (l.length - 1) 0 : Nat) : Int)) := by
  rw [ixOf_eq, items_lst]
  simp only [iL_last h]
theorem ixIT {l : List Nat} {i : Int} (k : Nat) (hk : i = k) (h : k < l.length) : ixOf (.tup (iL l)) (.int i) = .ok (.int ((l.getD k 0 : Nat) : Int)) := by
  rw [ixOf_eq, items_tup]
  simp only [iL_at k hk h]
theorem ixITn {l : List Nat} (h : 0 < l.length) : ixOf (.tup (iL l)) (.int (-1)) = .ok (.int ((l.getD (l.length - 1) 0 : Nat) : Int)) := by
  rw [ixOf_eq, items_tup]
  simp only [iL_last h]
theorem pcsX {cf : CF} {d : Nat} {p : List Rat} {x : Rat} (hp : Sm10 p) (hx : bt x ≤ 100) (hcf : ∃ m, 3 ≤ m ∧ cf = fnEv P W m) {σ : En} {A : D} {u v : Nat} (hA : items A = some (iL (spn d p))) (h1 : σ[1]? = some (.sh (pD p))) (h2 : σ[2]? = some (.sh (rD x))) (hv : σ[v]? = some .un) (hv1 : v ≠ 1) (hv2 : v ≠ 2) {s e0 e1 : Ex} (h6 : p.length ≤ 1000)
    (hs : src P cf (.seq s) σ = .ok ((iL (spn d p), []), σ)) (he0 : e0 = .and (.cmp .le (.ix (.var 1) (.var v)) (.var 2)) (.cmp .lt (.var 2) (.ix (.var 1) (.bin .add (.var v) (.con (.int 1)))))) (he1 : e1 = .var v) :
    ev P cf (.lcf (.seq s) (.v v) e0 e1) σ = .ok (.ow (iL (pcs d p x)), σ) := by
  obtain ⟨m, hm, rfl⟩ := hcf
  subst he0 he1
  have lv := len_of hv
  refine lcf_seq (P := P) (cf := fnEv P W m) (xs := spn d p) (fun (i : Nat) => .int (i : Int)) (fun (i : Nat) => .int (i : Int)) (fun i => decide (PV.cf p i ≤ x ∧ x < PV.cf p (i + 1))) hs hv rfl (by
      have : (spn d p).length ≤ 1000 := by
        unfold spn
        refine Nat.le_trans (List.length_filter_le _ _) ?_
        simp; omega
      omega) (fun i hi => ?_)
  obtain ⟨g1, g2, _⟩ := spn_mem hi
  have i1 := ixK (p := p) (i := (i : Int)) i (by omega) (by omega) (by omega)
  have i2 := ixK (p := p) (i := (i : Int) + 1) (i + 1) (by omega) (by omega) (by omega)
  have := hp.cf i
  have := hp.cf (i + 1)
  have a1 := leR (n := m) (x := PV.cf p i) (y := x) (by omega) (by omega)
  have a2 := ltR (n := m) (x := x) (y := PV.cf p (i + 1)) (by omega) (by omega)
  have q1 : (σ.set v (.sh (.int (i : Int))))[1]? = some (.sh (pD p)) := by rw [List.getElem?_set_ne hv1, h1]
  have q2 : (σ.set v (.sh (.int (i : Int))))[2]? = some (.sh (rD x)) := by rw [List.getElem?_set_ne hv2, h2]
  have q3 : (σ.set v (.sh (.int (i : Int))))[v]? = some (.sh (.int (i : Int))) := by rw [List.getElem?_set_self lv]
  generalize σ.set v (.sh (.int (i : Int))) = τ at *
  refine ⟨?_, fun _ => by simp [q3]⟩
  by_cases c : PV.cf p i ≤ x <;> simp [q1, q2, q3, i1, i2, a1, a2, c, -ixOf_eq]
theorem pcEnd {d : Nat} {p : List Rat} {x : Rat} (hne : 0 < (spn d p).length) {m : Nat} {σ : En} {u w : Nat} (hw : σ[w]? = some (.ow (iL (pcs d p x)))) {A : D} (hu : ∃ c, σ[u]? = some c ∧ (c = .sh (.tup (iL (spn d p))) ∨ c = .sh (.lst (iL (spn d p))) ∨ c = .ow (iL (spn d p)))) :
    ev P (fnEv P W m) (.ite (.cmp .gt (.bif .len (.cons (.var w) .nil)) (.con (.int 0))) (.ix (.var w) (.con (.int 0))) (.ix (.var u) (.neg (.con (.int 1))))) σ = .ok (.sh (.int (pc d p x : Nat)), σ) := by
  have l1 : (iL (pcs d p x)).length = (pcs d p x).length := iL_len
  have i2 := iL_last (l := spn d p) hne
  unfold pc
  by_cases c : 0 < (pcs d p x).length
  · have i1 := iL_at (l := pcs d p x) (i := 0) 0 rfl c
    have c' : (0 : Int) < ((pcs d p x).length : Int) := by omega
    rw [if_pos c]
    generalize iL (pcs d p x) = L at *
    simp [hw, l1, i1, c, c']
  · have c' : ¬ (0 : Int) < ((pcs d p x).length : Int) := by omega
    rw [if_neg c]
    generalize iL (pcs d p x) = L at *
    generalize iL (spn d p) = L2 at *
    obtain ⟨c0, hu, hc⟩ := hu
    rcases hc with rfl | rfl | rfl <;> simp [hw, hu, l1, i2, c, c']
theorem spanR (hn : 5 ≤ n) {d : Nat} {p : List Rat} {x : Rat} (hp : Sm10 p) (hx : bt x ≤ 100) (hl : 2 * d + 1 ≤ p.length) (h6 : p.length ≤ 1000) (hne : 0 < (spn d p).length) (hlo : PV.cf p d ≤ x) (hhi : x ≤ PV.cf p (p.length - d - 1)) : fnEv P W n i_span_of .no [.int d, pD p, rD x] = .ok (.sh (.int (pc d p x : Nat)), []) := by
  obtain ⟨m, rfl⟩ := dep hn
  have e1 := groundR (n := m + 4) (by omega) (d := d) (p := p) (by omega)
  have e2 := spansR (n := m + 4) (by omega) (d := d) hp hl h6
  have := hp.cf d
  have := hp.cf (p.length - d - 1)
  have a1 := ltR (n := m + 4) (x := x) (y := PV.cf p d) (by omega) (by omega)
  have a2 := ltR (n := m + 4) (x := PV.cf p (p.length - d - 1)) (y := x) (by omega) (by omega)
  rw [decide_eq_false (Rat.not_lt.mpr hlo)] at a1
  rw [decide_eq_false (Rat.not_lt.mpr hhi)] at a2
  have e3 := pcsX (cf := fnEv P W (m + 4)) (d := d) (p := p) (x := x) hp hx ⟨_, by omega, rfl⟩ (σ := [.sh (.int d), .sh (pD p), .sh (rD x), .sh (rD (PV.cf p d)), .sh (rD (PV.cf p (p.length - d - 1))), .sh (.tup (iL (spn d p))), .un, .un]) (A := .tup (iL (spn d p))) (u := 5) (v := 7) rfl rfl rfl rfl (by decide) (by decide) h6 (s := .var 5) (src_at (A := .tup (iL (spn d p))) (by simp) rfl) (e0 := F_span_of_e0) (e1 := F_span_of_e1) rfl rfl
  have e4 := pcEnd (d := d) (p := p) (x := x) hne (m := m + 4) (σ := [.sh (.int d), .sh (pD p), .sh (rD x), .sh (rD (PV.cf p d)), .sh (rD (PV.cf p (p.length - d - 1))), .sh (.tup (iL (spn d p))), .ow (iL (pcs d p x)), .un]) (u := 5) (w := 6) rfl (A := .non) ⟨_, rfl, .inl rfl⟩
  refine fn_runE (f := F_span_of) rfl rfl rfl ?_
  generalize iL (pcs d p x) = L at *
  generalize iL (spn d p) = L2 at *
  have et : D.tup [rD (PV.cf p d), rD (PV.cf p (p.length - d - 1))] = pD [PV.cf p d, PV.cf p (p.length - d - 1)] := rfl
  rw [← et] at e1
  generalize rD (PV.cf p d) = v1 at *
  generalize rD (PV.cf p (p.length - d - 1)) = v2 at *
  simp [F_span_of, st0, e1, e2, a1, a2, -ev_lcf, -ev_ite]
  rw [e3]
  simp [e4, -ev_ite]
theorem spanXR (hn : 5 ≤ n) {d : Nat} {p : List Rat} {x : Rat} (hp : Sm10 p) (hx : bt x ≤ 100) (hl : d + 1 ≤ p.length) (ho : x < PV.cf p d ∨ PV.cf p (p.length - d - 1) < x) : fnEv P W n i_span_of .no [.int d, pD p, rD x] = .exc ⟨1, some (.str "outside")⟩ := by
  obtain ⟨m, rfl⟩ := dep hn
  have e1 := groundR (n := m + 4) (by omega) (d := d) (p := p) (by omega)
  have := hp.cf d
  have := hp.cf (p.length - d - 1)
  have a1 := ltR (n := m + 4) (x := x) (y := PV.cf p d) (by omega) (by omega)
  have a2 := ltR (n := m + 4) (x := PV.cf p (p.length - d - 1)) (y := x) (by omega) (by omega)
  have et : D.tup [rD (PV.cf p d), rD (PV.cf p (p.length - d - 1))] = pD [PV.cf p d, PV.cf p (p.length - d - 1)] := rfl
  rw [← et] at e1
  refine fn_runE (f := F_span_of) rfl rfl rfl ?_
  generalize rD (PV.cf p d) = v1 at *
  generalize rD (PV.cf p (p.length - d - 1)) = v2 at *
  by_cases c : x < PV.cf p d
  · simp [F_span_of, st0, e1, a1, c, -ev_lcf, -ev_ite]
  · have c2 : PV.cf p (p.length - d - 1) < x := ho.resolve_left c
    simp [F_span_of, st0, e1, a1, a2, c, c2, -ev_lcf, -ev_ite]
theorem brkN_le {lo hi : Rat} {p : List Rat} : ∀ i, i ≤ p.length → (brkN lo hi p i).length ≤ i
  | 0, _ => by simp [brkN]
  | i + 1, h => by
    rw [brkN_succ (by omega)]
    have := brkN_le (lo := lo) (hi := hi) (p := p) i (by omega)
    unfold brkS
    split <;> simp <;> omega
theorem brkN_sub {lo hi : Rat} {p : List Rat} (A : p.Pairwise (· ≤ ·)) {i : Nat} (h0 : i ≤ p.length) {y : Rat} (h : y ∈ brkN lo hi p i) : y ∈ p := List.mem_of_mem_take (((brkN_inv A i h0).2 y).mp h).1
theorem breaksR (hn : 5 ≤ n) {d : Nat} {p : List Rat} (hp : Sm10 p) (A : p.Pairwise (· ≤ ·)) (hl : d + 1 ≤ p.length) (h6 : p.length ≤ 1000) : fnEv P W n i_breaks_of .no [.int d, pD p] = .ok (.sh (pD (brk d p)), []) := by
  obtain ⟨m, rfl⟩ := dep hn
  have e1 := groundR (n := m + 4) (by omega) (d := d) (p := p) (by omega)
  have et : D.tup [rD (PV.cf p d), rD (PV.cf p (p.length - d - 1))] = pD [PV.cf p d, PV.cf p (p.length - d - 1)] := rfl
  rw [← et] at e1
  have b1 := hp.cf d
  have b2 := hp.cf (p.length - d - 1)
  unfold brk
  generalize PV.cf p d = lo at *
  generalize PV.cf p (p.length - d - 1) = hi at *
  obtain ⟨σ', e, c5, h5, rfl⟩ := for_idx (r := fun (i : Nat) => rD (PV.cf p i)) (fun i σ => ∃ c5, asg c5 = true ∧ σ = [.sh (.int d), .sh (pD p), .sh (rD lo), .sh (rD hi), .ow ((brkN lo hi p i).map rD), c5]) (m := p.length) (f := forF P (fnEv P W (m + 4)) W (.v 5) F_breaks_of_b0) (σ := [.sh (.int d), .sh (pD p), .sh (rD lo), .sh (rD hi), .ow [], .un]) ⟨.un, rfl, by rw [brkN_zero]; rfl⟩ (by
    rintro i σ hi' ⟨c5, h5, rfl⟩
    have b3 := hp.cf i
    have a1 := leR (n := m + 4) (x := lo) (y := PV.cf p i) (by omega) (by omega)
    have a2 := leR (n := m + 4) (x := PV.cf p i) (y := hi) (by omega) (by omega)
    have hL := brkN_le (lo := lo) (hi := hi) (p := p) i (by omega)
    have hlast := brkN_last (lo := lo) (hi := hi) A hi'
    refine ⟨[.sh (.int d), .sh (pD p), .sh (rD lo), .sh (rD hi), .ow ((brkN lo hi p (i + 1)).map rD), .sh (rD (PV.cf p i))], ?_, _, rfl, rfl⟩
    rw [brkN_succ hi']
    have bf : ∀ k, bt (PV.cf (brkN lo hi p i) k) ≤ 10 := fun k => bt_cf (fun y hy => hp y (brkN_sub A (by omega) hy)) k
    generalize brkN lo hi p i = f at *
    unfold brkS
    have lf : (f.map rD).length = f.length := by simp
    by_cases c1 : lo ≤ PV.cf p i
    case neg => simp (disch := first | omega | (simp; done) | (simp; omega) | (simp [*]; done) | fail) [forF_eq, F_breaks_of_b0, h5, a1, c1, mulI, fdvI, modI, appF_ok, extF_ok, -appF_eq, -extF_eq, -ixOf_eq, -ev_lc, -ev_lcf]
    by_cases c2 : PV.cf p i ≤ hi
    case neg => simp (disch := first | omega | (simp; done) | (simp; omega) | (simp [*]; done) | fail) [forF_eq, F_breaks_of_b0, h5, a1, a2, c1, c2, mulI, fdvI, modI, appF_ok, extF_ok, -appF_eq, -extF_eq, -ixOf_eq, -ev_lc, -ev_lcf]
    have g1 : appF (rD (PV.cf p i)) (f.map rD) = some (f.map rD ++ [rD (PV.cf p i)]) := appF_ok (by rw [lf]; omega)
    by_cases c3 : f.length = 0
    · have : f = [] := List.eq_nil_of_length_eq_zero c3
      subst this
      have g1 : appF (rD (PV.cf p i)) [] = some [rD (PV.cf p i)] := g1
      simp (disch := first | omega | (simp; done) | (simp; omega) | (simp [*]; done) | fail) [forF_eq, F_breaks_of_b0, h5, a1, a2, c1, c2, g1, mulI, fdvI, modI, appF_ok, extF_ok, -appF_eq, -extF_eq, -ixOf_eq, -ev_lc, -ev_lcf]
    · have i1 := ixLn (p := f) (i := -1) (by decide) (by omega)
      rw [show ((-1 : Int) + f.length).toNat = f.length - 1 by omega] at i1
      have := bf (f.length - 1)
      have a3 := ltR (n := m + 4) (x := PV.cf f (f.length - 1)) (y := PV.cf p i) (by omega) (by omega)
      have c3' : ¬ ((f.length : Int) = 0) := by omega
      by_cases c4 : PV.cf p i ∈ f
      · have c5 : ¬ PV.cf f (f.length - 1) < PV.cf p i := fun z => (hlast.mp (.inr z)) c4
        rw [decide_eq_false c5] at a3
        rw [if_neg (fun z => z.2.2 c4)]
        generalize f.map rD = L at *
        simp (disch := first | omega | (simp; done) | (simp; omega) | (simp [*]; done) | fail) [forF_eq, F_breaks_of_b0, h5, a1, a2, a3, c1, c2, lf, c3, c3', i1, mulI, fdvI, modI, appF_ok, extF_ok, -appF_eq, -extF_eq, -ixOf_eq, -ev_lc, -ev_lcf]
      · have c5 : PV.cf f (f.length - 1) < PV.cf p i := (hlast.mpr c4).resolve_left c3
        rw [decide_eq_true c5] at a3
        rw [if_pos ⟨c1, c2, c4⟩, List.map_append, List.map_singleton]
        generalize f.map rD = L at *
        simp (disch := first | omega | (simp; done) | (simp; omega) | (simp [*]; done) | fail) [forF_eq, F_breaks_of_b0, h5, a1, a2, a3, c1, c2, lf, c3, c3', i1, g1, mulI, fdvI, modI, appF_ok, extF_ok, -appF_eq, -extF_eq, -ixOf_eq, -ev_lc, -ev_lcf])
  rw [← range_rD] at e
  refine fn_runE (f := F_breaks_of) rfl rfl rfl ?_
  have hB : D.tup ((brkN lo hi p p.length).map rD) = pD (brkN lo hi p p.length) := rfl
  generalize (brkN lo hi p p.length).map rD = L at *
  simp [F_breaks_of, st0, e1, e, hB]
/-! those that check -/
theorem sizeR (hn : 7 ≤ n) {d : Nat} {p : List Rat} (hp : Sm10 p) (K : Kn d p) : fnEv P W n i_space_size .no [.int d, pD p] = .ok (.sh (.int ((p.length : Int) - d - 1)), []) := by
  obtain ⟨m, rfl⟩ := dep hn
  have e1 := knS (n := m + 6) (by omega) hp (by omega) (by have := K.hi; omega) (isKn_of K)
  refine fn_runE (f := F_space_size) rfl rfl rfl ?_
  simp [F_space_size, st0, e1]
theorem sizeX (hn : 1 ≤ n) {x y : D} (h : fnEv P W (n - 1) i_check_knots .no [x, y] = .exc ⟨0, none⟩) : fnEv P W n i_space_size .no [x, y] = .exc ⟨0, none⟩ := by
  obtain ⟨m, rfl⟩ := dep hn
  have h : fnEv P W m i_check_knots .no [x, y] = .exc ⟨0, none⟩ := h
  refine fn_runE (f := F_space_size) rfl rfl rfl ?_
  simp [F_space_size, st0, h]
theorem grndR (hn : 7 ≤ n) {d : Nat} {p : List Rat} (hp : Sm10 p) (K : Kn d p) : fnEv P W n i_ground .no [.int d, pD p] = .ok (.sh (pD [PV.cf p d, PV.cf p (p.length - d - 1)]), []) := by
  obtain ⟨m, rfl⟩ := dep hn
  have e1 := knS (n := m + 6) (by omega) hp (by omega) (by have := K.hi; omega) (isKn_of K)
  have e2 := groundR (n := m + 6) (by omega) (d := d) (p := p) (by have := K.lo; omega)
  refine fn_runE (f := F_ground) rfl rfl rfl ?_
  simp [F_ground, st0, e1, e2]
theorem grndX (hn : 1 ≤ n) {x y : D} (h : fnEv P W (n - 1) i_check_knots .no [x, y] = .exc ⟨0, none⟩) : fnEv P W n i_ground .no [x, y] = .exc ⟨0, none⟩ := by
  obtain ⟨m, rfl⟩ := dep hn
  have h : fnEv P W m i_check_knots .no [x, y] = .exc ⟨0, none⟩ := h
  refine fn_runE (f := F_ground) rfl rfl rfl ?_
  simp [F_ground, st0, h]
theorem brksR (hn : 7 ≤ n) {d : Nat} {p : List Rat} (hp : Sm10 p) (K : Kn d p) : fnEv P W n i_breaks .no [.int d, pD p] = .ok (.sh (pD (brk d p)), []) := by
  obtain ⟨m, rfl⟩ := dep hn
  have e1 := knS (n := m + 6) (by omega) hp (by omega) (by have := K.hi; omega) (isKn_of K)
  have e2 := breaksR (n := m + 6) (by omega) (d := d) (p := p) hp K.asc (by have := K.lo; omega) (by have := K.hi; omega)
  refine fn_runE (f := F_breaks) rfl rfl rfl ?_
  simp [F_breaks, st0, e1, e2]
theorem brksX (hn : 1 ≤ n) {x y : D} (h : fnEv P W (n - 1) i_check_knots .no [x, y] = .exc ⟨0, none⟩) : fnEv P W n i_breaks .no [x, y] = .exc ⟨0, none⟩ := by
  obtain ⟨m, rfl⟩ := dep hn
  have h : fnEv P W m i_check_knots .no [x, y] = .exc ⟨0, none⟩ := h
  refine fn_runE (f := F_breaks) rfl rfl rfl ?_
  simp [F_breaks, st0, h]
theorem spsR (hn : 7 ≤ n) {d : Nat} {p : List Rat} (hp : Sm10 p) (K : Kn d p) : fnEv P W n i_spans .no [.int d, pD p] = .ok (.sh (.tup (iL (spn d p))), []) := by
  obtain ⟨m, rfl⟩ := dep hn
  have e1 := knS (n := m + 6) (by omega) hp (by omega) (by have := K.hi; omega) (isKn_of K)
  have e2 := spansR (n := m + 6) (by omega) (d := d) (p := p) hp (by have := K.lo; omega) (by have := K.hi; omega)
  refine fn_runE (f := F_spans) rfl rfl rfl ?_
  simp [F_spans, st0, e1, e2]
theorem spsX (hn : 1 ≤ n) {x y : D} (h : fnEv P W (n - 1) i_check_knots .no [x, y] = .exc ⟨0, none⟩) : fnEv P W n i_spans .no [x, y] = .exc ⟨0, none⟩ := by
  obtain ⟨m, rfl⟩ := dep hn
  have h : fnEv P W m i_check_knots .no [x, y] = .exc ⟨0, none⟩ := h
  refine fn_runE (f := F_spans) rfl rfl rfl ?_
  simp [F_spans, st0, h]
theorem spatR (hn : 7 ≤ n) {d : Nat} {p : List Rat} (hp : Sm10 p) (K : Kn d p) {x : Rat} (hx : bt x ≤ 100) (hne : 0 < (spn d p).length) (hlo : PV.cf p d ≤ x) (hhi : x ≤ PV.cf p (p.length - d - 1)) : fnEv P W n i_span_at .no [.int d, pD p, rD x] = .ok (.sh (.int (pc d p x : Nat)), []) := by
  obtain ⟨m, rfl⟩ := dep hn
  have h := spanR (n := m + 6) (by omega) hp hx (by have := K.lo; omega) (by have := K.hi; omega) hne hlo hhi
  have e1 := knS (n := m + 6) (by omega) hp (by omega) (by have := K.hi; omega) (isKn_of K)
  have e2 := chkR (n := m + 6) (by omega) x
  refine fn_runE (f := F_span_at) rfl rfl rfl ?_
  simp [F_span_at, st0, e1, e2, h]
theorem spatO (hn : 7 ≤ n) {d : Nat} {p : List Rat} (hp : Sm10 p) (K : Kn d p) {x : Rat} (hx : bt x ≤ 100) (ho : x < PV.cf p d ∨ PV.cf p (p.length - d - 1) < x) : fnEv P W n i_span_at .no [.int d, pD p, rD x] = .exc ⟨1, some (.str "outside")⟩ := by
  obtain ⟨m, rfl⟩ := dep hn
  have h := spanXR (n := m + 6) (by omega) hp hx (by have := K.lo; omega) ho
  have e1 := knS (n := m + 6) (by omega) hp (by omega) (by have := K.hi; omega) (isKn_of K)
  have e2 := chkR (n := m + 6) (by omega) x
  refine fn_runE (f := F_span_at) rfl rfl rfl ?_
  simp [F_span_at, st0, e1, e2, h]
theorem spatX (hn : 1 ≤ n) {x y z : D} (h : fnEv P W (n - 1) i_check_knots .no [x, y] = .exc ⟨0, none⟩) : fnEv P W n i_span_at .no [x, y, z] = .exc ⟨0, none⟩ := by
  obtain ⟨m, rfl⟩ := dep hn
  have h : fnEv P W m i_check_knots .no [x, y] = .exc ⟨0, none⟩ := h
  refine fn_runE (f := F_span_at) rfl rfl rfl ?_
  simp [F_span_at, st0, h]
theorem spatZ (hn : 7 ≤ n) {d : Nat} {p : List Rat} (hp : Sm10 p) (K : Kn d p) {z : D} (hz : isiD (.own 0) z = .ok false) : fnEv P W n i_span_at .no [.int d, pD p, z] = .exc ⟨0, none⟩ := by
  obtain ⟨m, rfl⟩ := dep hn
  have e1 := knS (n := m + 6) (by omega) hp (by omega) (by have := K.hi; omega) (isKn_of K)
  have e2 := chkX (n := m + 6) (by omega) hz
  refine fn_runE (f := F_span_at) rfl rfl rfl ?_
  simp [F_span_at, st0, e1, e2]
theorem smoR (hn : 7 ≤ n) {d : Nat} {p : List Rat} (hp : Sm10 p) (K : Kn d p) (x : Rat) : fnEv P W n i_smoothness .no [.int d, pD p, rD x] = .ok (.sh (.int ((d : Int) - (p.count x : Nat))), []) := by
  obtain ⟨m, rfl⟩ := dep hn
  have e1 := knS (n := m + 6) (by omega) hp (by omega) (by have := K.hi; omega) (isKn_of K)
  have e2 := chkR (n := m + 6) (by omega) x
  have e3 := multR (n := m + 6) (by omega) (p := p) (by have := K.hi; omega) x
  refine fn_runE (f := F_smoothness) rfl rfl rfl ?_
  simp [F_smoothness, st0, e1, e2, e3]
theorem smoX (hn : 1 ≤ n) {x y z : D} (h : fnEv P W (n - 1) i_check_knots .no [x, y] = .exc ⟨0, none⟩) : fnEv P W n i_smoothness .no [x, y, z] = .exc ⟨0, none⟩ := by
  obtain ⟨m, rfl⟩ := dep hn
  have h : fnEv P W m i_check_knots .no [x, y] = .exc ⟨0, none⟩ := h
  refine fn_runE (f := F_smoothness) rfl rfl rfl ?_
  simp [F_smoothness, st0, h]
theorem smoZ (hn : 7 ≤ n) {d : Nat} {p : List Rat} (hp : Sm10 p) (K : Kn d p) {z : D} (hz : isiD (.own 0) z = .ok false) : fnEv P W n i_smoothness .no [.int d, pD p, z] = .exc ⟨0, none⟩ := by
  obtain ⟨m, rfl⟩ := dep hn
  have e1 := knS (n := m + 6) (by omega) hp (by omega) (by have := K.hi; omega) (isKn_of K)
  have e2 := chkX (n := m + 6) (by omega) hz
  refine fn_runE (f := F_smoothness) rfl rfl rfl ?_
  simp [F_smoothness, st0, e1, e2]
theorem dimR (hn : 7 ≤ n) {d : Nat} {p : List Rat} (hp : Sm10 p) (K : Kn d p) : fnEv P W n i_space_dimension .no [.int d, pD p] = .ok (.sh (.int ((d : Int) + 1 + ((p.filter fun x => decide (PV.cf p d < x ∧ x < PV.cf p (p.length - d - 1))).length : Nat))), []) := by
  obtain ⟨m, rfl⟩ := dep hn
  have hl := K.lo
  have hh := K.hi
  have e1 := knS (n := m + 6) (by omega) hp (by omega) (by have := K.hi; omega) (isKn_of K)
  have e2 := groundR (n := m + 6) (by omega) (d := d) (p := p) (by omega)
  have et : D.tup [rD (PV.cf p d), rD (PV.cf p (p.length - d - 1))] = pD [PV.cf p d, PV.cf p (p.length - d - 1)] := rfl
  rw [← et] at e2
  have b1 := hp.cf d
  have b2 := hp.cf (p.length - d - 1)
  generalize PV.cf p d = lo at *
  generalize PV.cf p (p.length - d - 1) = hi at *
  have e := lcf_seq (P := P) (cf := fnEv P W (m + 6)) (xs := p) rD rD (fun x => decide (lo < x ∧ x < hi)) (t := 4) (k := F_space_dimension_e0) (e := F_space_dimension_e1) (s := .seq (.var 1)) (σ := [.sh (.int d), .sh (pD p), .sh (rD lo), .sh (rD hi), .un]) (c := .un)
    (src_at (A := pD p) (by simp) rfl) rfl rfl (by omega) (fun y hy => by
      have b3 := hp y hy
      have a1 := ltR (n := m + 6) (x := lo) (y := y) (by omega) (by omega)
      have a2 := ltR (n := m + 6) (x := y) (y := hi) (by omega) (by omega)
      refine ⟨?_, fun _ => by simp [F_space_dimension_e1]⟩
      by_cases c : lo < y <;> simp [F_space_dimension_e0, a1, a2, c])
  have el : ((p.filter fun x => decide (lo < x ∧ x < hi)).map rD).length = (p.filter fun x => decide (lo < x ∧ x < hi)).length := List.length_map ..
  refine fn_runE (f := F_space_dimension) rfl rfl rfl ?_
  generalize (p.filter fun x => decide (lo < x ∧ x < hi)).map rD = L at *
  simp [F_space_dimension, st0, e1, e2, e, el, -ev_lcf]
theorem dimX (hn : 1 ≤ n) {x y : D} (h : fnEv P W (n - 1) i_check_knots .no [x, y] = .exc ⟨0, none⟩) : fnEv P W n i_space_dimension .no [x, y] = .exc ⟨0, none⟩ := by
  obtain ⟨m, rfl⟩ := dep hn
  have h : fnEv P W m i_check_knots .no [x, y] = .exc ⟨0, none⟩ := h
  refine fn_runE (f := F_space_dimension) rfl rfl rfl ?_
  simp [F_space_dimension, st0, h]
end
end K21
set_option Elab.async false
set_option linter.all false
set_option maxRecDepth 100000
set_option maxHeartbeats 800000
namespace K21
open PySem L2 PV
section
variable {n : Nat}
/-! ### the law's own roads to knots -/
theorem placesR (hn : 4 ≤ n) {d : Nat} {p : List Rat} (hp : Sm10 p) (hl : 2 * d + 1 ≤ p.length) (h6 : p.length ≤ 1000) : fnEv P W n i_law_piece_places .no [.int d, pD p] = .ok (.ow (iL (spn d p)), []) := by
  obtain ⟨m, rfl⟩ := dep hn
  have e := spansX (cf := fnEv P W (m + 3)) hp hl h6 ⟨_, by omega, rfl⟩ (e0 := F_law_piece_places_e0) (e1 := F_law_piece_places_e1) rfl rfl
  refine fn_runE (f := F_law_piece_places) rfl rfl rfl ?_
  simp [F_law_piece_places, st0, e, -ev_lcf]
theorem pieceR (hn : 5 ≤ n) {d : Nat} {p : List Rat} {x : Rat} (hp : Sm10 p) (hx : bt x ≤ 100) (hl : 2 * d + 1 ≤ p.length) (h6 : p.length ≤ 1000) (hne : 0 < (spn d p).length) : fnEv P W n i_law_piece_of .no [.int d, pD p, rD x] = .ok (.sh (.int (pc d p x : Nat)), []) := by
  obtain ⟨m, rfl⟩ := dep hn
  have e2 := placesR (n := m + 4) (by omega) (d := d) hp hl h6
  have e3 : ev P (fnEv P W (m + 4)) (.lcf (.seq (.var 3)) (.v 5) F_law_piece_of_e0 F_law_piece_of_e1) [.sh (.int d), .sh (pD p), .sh (rD x), .ow (iL (spn d p)), .un, .un] = .ok (.ow (iL (pcs d p x)), [.sh (.int d), .sh (pD p), .sh (rD x), .ow (iL (spn d p)), .un, .un]) := by
    refine lcf_lk (xs := spn d p) (fun (i : Nat) => .int (i : Int)) (fun (i : Nat) => .int (i : Int)) (fun i => decide (PV.cf p i ≤ x ∧ x < PV.cf p (i + 1))) (q := 3) (src_own rfl) rfl rfl rfl (by decide) (by
      have := spn_len (d := d) (p := p)
      omega) (fun i hi => ?_)
    obtain ⟨g1, g2, _⟩ := spn_mem hi
    have i1 := ixK (p := p) (i := (i : Int)) i (by omega) (by omega) (by omega)
    have i2 := ixK (p := p) (i := (i : Int) + 1) (i + 1) (by omega) (by omega) (by omega)
    have := hp.cf i
    have := hp.cf (i + 1)
    have a1 := leR (n := m + 4) (x := PV.cf p i) (y := x) (by omega) (by omega)
    have a2 := ltR (n := m + 4) (x := x) (y := PV.cf p (i + 1)) (by omega) (by omega)
    refine ⟨?_, fun _ => by simp [F_law_piece_of_e1]⟩
    by_cases c : PV.cf p i ≤ x <;> simp [F_law_piece_of_e0, i1, i2, a1, a2, c, -ixOf_eq]
  have e4 := pcEnd (d := d) (p := p) (x := x) hne (m := m + 4) (σ := [.sh (.int d), .sh (pD p), .sh (rD x), .ow (iL (spn d p)), .ow (iL (pcs d p x)), .un]) (u := 3) (w := 4) rfl (A := .non) ⟨_, rfl, .inr (.inr rfl)⟩
  refine fn_runE (f := F_law_piece_of) rfl rfl rfl ?_
  generalize iL (pcs d p x) = L at *
  generalize iL (spn d p) = L2 at *
  simp [F_law_piece_of, st0, e2, e3, e4, -ev_lcf, -ev_ite]
theorem numberR (hn : 4 ≤ n) {ds : List D} (hs : StOk ds) {d : Nat} {p : List Rat} (K : Kn d p) (hB : ∀ x ∈ p, Bd 2 24 x) : ∃ x ds', fnEv P W n i_law_ground_number (.io ds) [.int d, pD p] = .ok (.sh (rD x), ds') ∧ PV.cf p d ≤ x ∧ x ≤ PV.cf p (p.length - d - 1) ∧ Bd 24 864 x ∧ StOk ds' := by
  obtain ⟨m, rfl⟩ := dep hn
  have hl := K.lo
  have hh := K.hi
  obtain ⟨u, d1, e1, u0, u1, g1⟩ := takeI (n := m + 3) (by omega) hs 13 (by decide) (by decide)
  have i1 := ixK (p := p) (i := d) d (by omega) (by omega) (by omega)
  have i2 := ixK (p := p) (i := (p.length : Int) - d - 1) (p.length - d - 1) (by omega) (by omega) (by omega)
  have lh := K.gnd
  have B1 := hB _ (cf_mem (p := p) (i := d) (by omega))
  have B2 := hB _ (cf_mem (p := p) (i := p.length - d - 1) (by omega))
  generalize PV.cf p d = lo at *
  generalize PV.cf p (p.length - d - 1) = hi at *
  have m2 := mk2R (n := m + 3) (a := u) (b := 12) (σ := [.io d1, .sh (.int d), .sh (pD p), .sh (rD lo), .sh (rD hi)]) (by omega) (by omega) (by omega) (by omega)
  have B3 : Bd 12 12 ((u : Rat) / ((12 : Int) : Rat)) := ⟨u, by
    have : (((12 : Nat) : Rat)) = ((12 : Int) : Rat) := rfl
    rw [this]
    have : ((12 : Int) : Rat) ≠ 0 := by decide +kernel
    grind, by omega⟩
  have hz0 : 0 ≤ (u : Rat) / ((12 : Int) : Rat) := by
    have h1 : (0 : Rat) ≤ (u : Rat) := by exact_mod_cast u0
    have e : (u : Rat) / ((12 : Int) : Rat) = (u : Rat) * (1 / 12) := by
      have : ((12 : Int) : Rat) = 12 := by decide +kernel
      rw [this]; grind
    rw [e]
    exact Rat.mul_nonneg h1 (by decide +kernel)
  have hz1 : (u : Rat) / ((12 : Int) : Rat) ≤ 1 := by
    have h1 : (u : Rat) ≤ ((12 : Int) : Rat) := by exact_mod_cast (by omega : u ≤ 12)
    have e : (u : Rat) / ((12 : Int) : Rat) = (u : Rat) * (1 / 12) := by
      have : ((12 : Int) : Rat) = 12 := by decide +kernel
      rw [this]; grind
    have : ((12 : Int) : Rat) = 12 := by decide +kernel
    rw [this] at h1
    rw [e]
    grind
  generalize (u : Rat) / ((12 : Int) : Rat) = z at *
  have q1 : bt lo ≤ 5 := B1.sz (by decide) (by decide)
  have q2 : bt hi ≤ 5 := B2.sz (by decide) (by decide)
  have q3 : bt z ≤ 5 := B3.sz (by decide) (by decide)
  have q4 := bt_sub hi lo
  have q5 := bt_mul (hi - lo) z
  have a1 := subR (n := m + 3) (x := hi) (y := lo) (by omega) (by omega)
  have a2 := mulR (n := m + 3) (x := hi - lo) (y := z) (by omega) (by omega)
  have a3 := addR (n := m + 3) (x := lo) (y := (hi - lo) * z) (by omega) (by omega)
  refine ⟨lo + (hi - lo) * z, d1, ?_, ?_, ?_, ?_, g1⟩
  · refine fn_runE (f := F_law_ground_number) rfl rfl rfl ?_
    simp [F_law_ground_number, st0, e1, i1, i2, m2, a1, a2, a3, -ixOf_eq]
  · have : 0 ≤ (hi - lo) * z := Rat.mul_nonneg (by grind) hz0
    grind
  · have : 0 ≤ (hi - lo) * (1 - z) := Rat.mul_nonneg (by grind) (by grind)
    grind
  · exact ((B1.scale 12).add ((B2.sub B1).mul B3)).mono (by decide)
end
end K21
set_option Elab.async false
set_option linter.all false
set_option maxRecDepth 100000
set_option maxHeartbeats 800000
namespace K21
open PySem L2 PV
section
variable {n : Nat}
/-! ### what the law's trying tells -/
def mal : D := .tup [.str "malformed", .non]
def refd (s : Str) : D := .tup [.str "refused", .str s]
def told (d : D) : D := .tup [.str "told", d]
theorem resM1 {k : Nat} {f : FnI} {x : D} (hn : 1 ≤ n) (hf : P.fns[k]? = some f) (hp : f.ps.length = 1) (h : fnEv P W (n - 1) k .no [x] = .exc ⟨0, none⟩) : fnEv P W n i_law_result .no [.fn k, .tup [x]] = .ok (.sh mal, []) := by
  obtain ⟨q, rfl⟩ := dep hn
  have h : fnEv P W q k .no [x] = .exc ⟨0, none⟩ := h
  refine fn_runE (f := F_law_result) rfl rfl rfl ?_
  simp [F_law_result, st0, hf, hp, h, atI, ixN, mal, refd, told]
theorem resR1 {k : Nat} {f : FnI} {x : D} {s : Str} (hn : 1 ≤ n) (hf : P.fns[k]? = some f) (hp : f.ps.length = 1) (h : fnEv P W (n - 1) k .no [x] = .exc ⟨1, some (.str s)⟩) : fnEv P W n i_law_result .no [.fn k, .tup [x]] = .ok (.sh (refd s), []) := by
  obtain ⟨q, rfl⟩ := dep hn
  have h : fnEv P W q k .no [x] = .exc ⟨1, some (.str s)⟩ := h
  refine fn_runE (f := F_law_result) rfl rfl rfl ?_
  simp [F_law_result, st0, hf, hp, h, atI, ixN, mal, refd, told]
theorem resT1 {k : Nat} {f : FnI} {x : D} {d : D} (hn : 1 ≤ n) (hf : P.fns[k]? = some f) (hp : f.ps.length = 1) (h : fnEv P W (n - 1) k .no [x] = .ok (.sh d, [])) : fnEv P W n i_law_result .no [.fn k, .tup [x]] = .ok (.sh (told d), []) := by
  obtain ⟨q, rfl⟩ := dep hn
  have h : fnEv P W q k .no [x] = .ok (.sh d, []) := h
  refine fn_runE (f := F_law_result) rfl rfl rfl ?_
  simp [F_law_result, st0, hf, hp, h, atI, ixN, mal, refd, told]
theorem resM2 {k : Nat} {f : FnI} {x y : D} (hn : 1 ≤ n) (hf : P.fns[k]? = some f) (hp : f.ps.length = 2) (h : fnEv P W (n - 1) k .no [x, y] = .exc ⟨0, none⟩) : fnEv P W n i_law_result .no [.fn k, .tup [x, y]] = .ok (.sh mal, []) := by
  obtain ⟨q, rfl⟩ := dep hn
  have h : fnEv P W q k .no [x, y] = .exc ⟨0, none⟩ := h
  refine fn_runE (f := F_law_result) rfl rfl rfl ?_
  simp [F_law_result, st0, hf, hp, h, atI, ixN, mal, refd, told]
theorem resR2 {k : Nat} {f : FnI} {x y : D} {s : Str} (hn : 1 ≤ n) (hf : P.fns[k]? = some f) (hp : f.ps.length = 2) (h : fnEv P W (n - 1) k .no [x, y] = .exc ⟨1, some (.str s)⟩) : fnEv P W n i_law_result .no [.fn k, .tup [x, y]] = .ok (.sh (refd s), []) := by
  obtain ⟨q, rfl⟩ := dep hn
  have h : fnEv P W q k .no [x, y] = .exc ⟨1, some (.str s)⟩ := h
  refine fn_runE (f := F_law_result) rfl rfl rfl ?_
  simp [F_law_result, st0, hf, hp, h, atI, ixN, mal, refd, told]
theorem resT2 {k : Nat} {f : FnI} {x y : D} {d : D} (hn : 1 ≤ n) (hf : P.fns[k]? = some f) (hp : f.ps.length = 2) (h : fnEv P W (n - 1) k .no [x, y] = .ok (.sh d, [])) : fnEv P W n i_law_result .no [.fn k, .tup [x, y]] = .ok (.sh (told d), []) := by
  obtain ⟨q, rfl⟩ := dep hn
  have h : fnEv P W q k .no [x, y] = .ok (.sh d, []) := h
  refine fn_runE (f := F_law_result) rfl rfl rfl ?_
  simp [F_law_result, st0, hf, hp, h, atI, ixN, mal, refd, told]
theorem resM3 {k : Nat} {f : FnI} {x y z : D} (hn : 1 ≤ n) (hf : P.fns[k]? = some f) (hp : f.ps.length = 3) (h : fnEv P W (n - 1) k .no [x, y, z] = .exc ⟨0, none⟩) : fnEv P W n i_law_result .no [.fn k, .tup [x, y, z]] = .ok (.sh mal, []) := by
  obtain ⟨q, rfl⟩ := dep hn
  have h : fnEv P W q k .no [x, y, z] = .exc ⟨0, none⟩ := h
  refine fn_runE (f := F_law_result) rfl rfl rfl ?_
  simp [F_law_result, st0, hf, hp, h, atI, ixN, mal, refd, told]
theorem resR3 {k : Nat} {f : FnI} {x y z : D} {s : Str} (hn : 1 ≤ n) (hf : P.fns[k]? = some f) (hp : f.ps.length = 3) (h : fnEv P W (n - 1) k .no [x, y, z] = .exc ⟨1, some (.str s)⟩) : fnEv P W n i_law_result .no [.fn k, .tup [x, y, z]] = .ok (.sh (refd s), []) := by
  obtain ⟨q, rfl⟩ := dep hn
  have h : fnEv P W q k .no [x, y, z] = .exc ⟨1, some (.str s)⟩ := h
  refine fn_runE (f := F_law_result) rfl rfl rfl ?_
  simp [F_law_result, st0, hf, hp, h, atI, ixN, mal, refd, told]
theorem resT3 {k : Nat} {f : FnI} {x y z : D} {d : D} (hn : 1 ≤ n) (hf : P.fns[k]? = some f) (hp : f.ps.length = 3) (h : fnEv P W (n - 1) k .no [x, y, z] = .ok (.sh d, [])) : fnEv P W n i_law_result .no [.fn k, .tup [x, y, z]] = .ok (.sh (told d), []) := by
  obtain ⟨q, rfl⟩ := dep hn
  have h : fnEv P W q k .no [x, y, z] = .ok (.sh d, []) := h
  refine fn_runE (f := F_law_result) rfl rfl rfl ?_
  simp [F_law_result, st0, hf, hp, h, atI, ixN, mal, refd, told]
theorem resM4 {k : Nat} {f : FnI} {x y z u : D} (hn : 1 ≤ n) (hf : P.fns[k]? = some f) (hp : f.ps.length = 4) (h : fnEv P W (n - 1) k .no [x, y, z, u] = .exc ⟨0, none⟩) : fnEv P W n i_law_result .no [.fn k, .tup [x, y, z, u]] = .ok (.sh mal, []) := by
  obtain ⟨q, rfl⟩ := dep hn
  have h : fnEv P W q k .no [x, y, z, u] = .exc ⟨0, none⟩ := h
  refine fn_runE (f := F_law_result) rfl rfl rfl ?_
  simp [F_law_result, st0, hf, hp, h, atI, ixN, mal, refd, told]
theorem resR4 {k : Nat} {f : FnI} {x y z u : D} {s : Str} (hn : 1 ≤ n) (hf : P.fns[k]? = some f) (hp : f.ps.length = 4) (h : fnEv P W (n - 1) k .no [x, y, z, u] = .exc ⟨1, some (.str s)⟩) : fnEv P W n i_law_result .no [.fn k, .tup [x, y, z, u]] = .ok (.sh (refd s), []) := by
  obtain ⟨q, rfl⟩ := dep hn
  have h : fnEv P W q k .no [x, y, z, u] = .exc ⟨1, some (.str s)⟩ := h
  refine fn_runE (f := F_law_result) rfl rfl rfl ?_
  simp [F_law_result, st0, hf, hp, h, atI, ixN, mal, refd, told]
theorem resT4 {k : Nat} {f : FnI} {x y z u : D} {d : D} (hn : 1 ≤ n) (hf : P.fns[k]? = some f) (hp : f.ps.length = 4) (h : fnEv P W (n - 1) k .no [x, y, z, u] = .ok (.sh d, [])) : fnEv P W n i_law_result .no [.fn k, .tup [x, y, z, u]] = .ok (.sh (told d), []) := by
  obtain ⟨q, rfl⟩ := dep hn
  have h : fnEv P W q k .no [x, y, z, u] = .ok (.sh d, []) := h
  refine fn_runE (f := F_law_result) rfl rfl rfl ?_
  simp [F_law_result, st0, hf, hp, h, atI, ixN, mal, refd, told]
theorem resM5 {k : Nat} {f : FnI} {x y z u v : D} (hn : 1 ≤ n) (hf : P.fns[k]? = some f) (hp : f.ps.length = 5) (h : fnEv P W (n - 1) k .no [x, y, z, u, v] = .exc ⟨0, none⟩) : fnEv P W n i_law_result .no [.fn k, .tup [x, y, z, u, v]] = .ok (.sh mal, []) := by
  obtain ⟨q, rfl⟩ := dep hn
  have h : fnEv P W q k .no [x, y, z, u, v] = .exc ⟨0, none⟩ := h
  refine fn_runE (f := F_law_result) rfl rfl rfl ?_
  simp [F_law_result, st0, hf, hp, h, atI, ixN, mal, refd, told]
theorem resR5 {k : Nat} {f : FnI} {x y z u v : D} {s : Str} (hn : 1 ≤ n) (hf : P.fns[k]? = some f) (hp : f.ps.length = 5) (h : fnEv P W (n - 1) k .no [x, y, z, u, v] = .exc ⟨1, some (.str s)⟩) : fnEv P W n i_law_result .no [.fn k, .tup [x, y, z, u, v]] = .ok (.sh (refd s), []) := by
  obtain ⟨q, rfl⟩ := dep hn
  have h : fnEv P W q k .no [x, y, z, u, v] = .exc ⟨1, some (.str s)⟩ := h
  refine fn_runE (f := F_law_result) rfl rfl rfl ?_
  simp [F_law_result, st0, hf, hp, h, atI, ixN, mal, refd, told]
theorem resT5 {k : Nat} {f : FnI} {x y z u v : D} {d : D} (hn : 1 ≤ n) (hf : P.fns[k]? = some f) (hp : f.ps.length = 5) (h : fnEv P W (n - 1) k .no [x, y, z, u, v] = .ok (.sh d, [])) : fnEv P W n i_law_result .no [.fn k, .tup [x, y, z, u, v]] = .ok (.sh (told d), []) := by
  obtain ⟨q, rfl⟩ := dep hn
  have h : fnEv P W q k .no [x, y, z, u, v] = .ok (.sh d, []) := h
  refine fn_runE (f := F_law_result) rfl rfl rfl ?_
  simp [F_law_result, st0, hf, hp, h, atI, ixN, mal, refd, told]
theorem wholeI (hn : 1 ≤ n) (i : Int) : fnEv P W n i_law_is_whole .no [.int i] = .ok (.sh (.bl true), []) := by
  obtain ⟨q, rfl⟩ := dep hn
  refine fn_runE (f := F_law_is_whole) rfl rfl rfl ?_
  simp [F_law_is_whole, st0, isiD, isi1]
theorem sameI (hn : 2 ≤ n) (i j : Int) : fnEv P W n i_law_same .no [.int i, .int j] = .ok (.sh (.bl (decide (i = j))), []) := by
  obtain ⟨q, rfl⟩ := dep hn
  have e := wholeI (n := q + 1) (by omega) i
  refine fn_runE (f := F_law_same) rfl rfl rfl ?_
  simp [F_law_same, st0, isiD, isi1, PV.isNon, e]
theorem sameT (hn : 3 ≤ n) {l : List Nat} (hl : l.length < 100000) : fnEv P W n i_law_same .no [.tup (l.map fun (i : Nat) => .int (i : Int)), .tup (l.map fun (i : Nat) => .int (i : Int))] = .ok (.sh (.bl true), []) := by
  obtain ⟨q, rfl⟩ := dep hn
  have e := lc_seq (P := P) (cf := fnEv P W (q + 2)) (xs := List.range l.length) (fun (i : Nat) => .int (i : Int)) (fun _ => .bl true) (t := 2) (e := F_law_same_e0) (s := .rng (.cons (.bif .len (.cons (.var 1) .nil)) .nil)) (σ := [.sh (.tup (l.map fun (i : Nat) => .int (i : Int))), .sh (.tup (l.map fun (i : Nat) => .int (i : Int))), .un]) (c := .un)
    (src_range1 l.length (i := l.length) (by simp) (by omega) (by omega) (by omega)) rfl rfl (by simp; omega) (fun i hi => by
    have hi := List.mem_range.mp hi
    have i1 : atI (l.map fun (i : Nat) => D.int (i : Int)) (i : Int) = some (.int ((l.getD i 0 : Nat) : Int)) := by
      rw [PV.atI_nat (by simpa using hi)]
      simp [List.getD_eq_getElem?_getD, hi]
    have e := sameI (n := q + 2) (by omega) ((l.getD i 0 : Nat) : Int) ((l.getD i 0 : Nat) : Int)
    generalize ((l.getD i 0 : Nat) : Int) = z at *
    generalize (l.map fun (i : Nat) => D.int (i : Int)) = L at *
    simp [F_law_same_e0, i1, e])
  have ea := all_map (b := fun _ : Nat => true) (xs := List.range l.length)
  have el : (l.map fun (i : Nat) => D.int (i : Int)).length = l.length := by simp
  refine fn_runE (f := F_law_same) rfl rfl rfl ?_
  generalize (l.map fun (i : Nat) => D.int (i : Int)) = L at *
  generalize (List.range l.length).map (fun _ => D.bl true) = L2 at *
  simp [F_law_same, st0, isiD, isi1, e, ea, -ev_lc]
theorem saysB (hn : 1 ≤ n) (a b : Bool) : fnEv P W n i_law_says .no [.bl a, .bl b] = .ok (.sh (.bl (a == b)), []) := by
  obtain ⟨q, rfl⟩ := dep hn
  refine fn_runE (f := F_law_says) rfl rfl rfl ?_
  simp [F_law_says, st0, isiD, isi1]
theorem mal_ix : ixOf mal (.int 0) = .ok (.str "malformed") := rfl
abbrev malS : D := .str "malformed"
theorem mulM2 {cf : CF} : binD P cf .mul (.lst [malS]) (.int 2) = .ok (.ow [malS, malS]) := rfl
theorem eqtM2 {cf : CF} : eqT P cf (.lst [malS, malS]) (.lst [malS, malS]) = .ok true := by
  rw [eqT_of (p := .list [.str (Str.ofString "malformed"), .str (Str.ofString "malformed")]) (q := .list [.str (Str.ofString "malformed"), .str (Str.ofString "malformed")]) rfl rfl (by decide +kernel) (by decide +kernel)]
  kernel_rfl
theorem neM2 {cf : CF} : cmpD P cf .ne (.lst [malS, malS]) (.lst [malS, malS]) = .ok false := by
  show (eqT P cf _ _).map (!·) = _
  rw [eqtM2]
  rfl
theorem eqM2 {cf : CF} : cmpD P cf .eq (.lst [malS, malS]) (.lst [malS, malS]) = .ok true := eqtM2
theorem mulM3 {cf : CF} : binD P cf .mul (.lst [malS]) (.int 3) = .ok (.ow [malS, malS, malS]) := rfl
theorem eqtM3 {cf : CF} : eqT P cf (.lst [malS, malS, malS]) (.lst [malS, malS, malS]) = .ok true := by
  rw [eqT_of (p := .list [.str (Str.ofString "malformed"), .str (Str.ofString "malformed"), .str (Str.ofString "malformed")]) (q := .list [.str (Str.ofString "malformed"), .str (Str.ofString "malformed"), .str (Str.ofString "malformed")]) rfl rfl (by decide +kernel) (by decide +kernel)]
  kernel_rfl
theorem neM3 {cf : CF} : cmpD P cf .ne (.lst [malS, malS, malS]) (.lst [malS, malS, malS]) = .ok false := by
  show (eqT P cf _ _).map (!·) = _
  rw [eqtM3]
  rfl
theorem eqM3 {cf : CF} : cmpD P cf .eq (.lst [malS, malS, malS]) (.lst [malS, malS, malS]) = .ok true := eqtM3
theorem mulM4 {cf : CF} : binD P cf .mul (.lst [malS]) (.int 4) = .ok (.ow [malS, malS, malS, malS]) := rfl
theorem eqtM4 {cf : CF} : eqT P cf (.lst [malS, malS, malS, malS]) (.lst [malS, malS, malS, malS]) = .ok true := by
  rw [eqT_of (p := .list [.str (Str.ofString "malformed"), .str (Str.ofString "malformed"), .str (Str.ofString "malformed"), .str (Str.ofString "malformed")]) (q := .list [.str (Str.ofString "malformed"), .str (Str.ofString "malformed"), .str (Str.ofString "malformed"), .str (Str.ofString "malformed")]) rfl rfl (by decide +kernel) (by decide +kernel)]
  kernel_rfl
theorem neM4 {cf : CF} : cmpD P cf .ne (.lst [malS, malS, malS, malS]) (.lst [malS, malS, malS, malS]) = .ok false := by
  show (eqT P cf _ _).map (!·) = _
  rw [eqtM4]
  rfl
theorem eqM4 {cf : CF} : cmpD P cf .eq (.lst [malS, malS, malS, malS]) (.lst [malS, malS, malS, malS]) = .ok true := eqtM4
theorem mulM5 {cf : CF} : binD P cf .mul (.lst [malS]) (.int 5) = .ok (.ow [malS, malS, malS, malS, malS]) := rfl
theorem eqtM5 {cf : CF} : eqT P cf (.lst [malS, malS, malS, malS, malS]) (.lst [malS, malS, malS, malS, malS]) = .ok true := by
  rw [eqT_of (p := .list [.str (Str.ofString "malformed"), .str (Str.ofString "malformed"), .str (Str.ofString "malformed"), .str (Str.ofString "malformed"), .str (Str.ofString "malformed")]) (q := .list [.str (Str.ofString "malformed"), .str (Str.ofString "malformed"), .str (Str.ofString "malformed"), .str (Str.ofString "malformed"), .str (Str.ofString "malformed")]) rfl rfl (by decide +kernel) (by decide +kernel)]
  kernel_rfl
theorem neM5 {cf : CF} : cmpD P cf .ne (.lst [malS, malS, malS, malS, malS]) (.lst [malS, malS, malS, malS, malS]) = .ok false := by
  show (eqT P cf _ _).map (!·) = _
  rw [eqtM5]
  rfl
theorem eqM5 {cf : CF} : cmpD P cf .eq (.lst [malS, malS, malS, malS, malS]) (.lst [malS, malS, malS, malS, malS]) = .ok true := eqtM5
theorem mulM6 {cf : CF} : binD P cf .mul (.lst [malS]) (.int 6) = .ok (.ow [malS, malS, malS, malS, malS, malS]) := rfl
theorem eqtM6 {cf : CF} : eqT P cf (.lst [malS, malS, malS, malS, malS, malS]) (.lst [malS, malS, malS, malS, malS, malS]) = .ok true := by
  rw [eqT_of (p := .list [.str (Str.ofString "malformed"), .str (Str.ofString "malformed"), .str (Str.ofString "malformed"), .str (Str.ofString "malformed"), .str (Str.ofString "malformed"), .str (Str.ofString "malformed")]) (q := .list [.str (Str.ofString "malformed"), .str (Str.ofString "malformed"), .str (Str.ofString "malformed"), .str (Str.ofString "malformed"), .str (Str.ofString "malformed"), .str (Str.ofString "malformed")]) rfl rfl (by decide +kernel) (by decide +kernel)]
  kernel_rfl
theorem neM6 {cf : CF} : cmpD P cf .ne (.lst [malS, malS, malS, malS, malS, malS]) (.lst [malS, malS, malS, malS, malS, malS]) = .ok false := by
  show (eqT P cf _ _).map (!·) = _
  rw [eqtM6]
  rfl
theorem eqM6 {cf : CF} : cmpD P cf .eq (.lst [malS, malS, malS, malS, malS, malS]) (.lst [malS, malS, malS, malS, malS, malS]) = .ok true := eqtM6
theorem mulM7 {cf : CF} : binD P cf .mul (.lst [malS]) (.int 7) = .ok (.ow [malS, malS, malS, malS, malS, malS, malS]) := rfl
theorem eqtM7 {cf : CF} : eqT P cf (.lst [malS, malS, malS, malS, malS, malS, malS]) (.lst [malS, malS, malS, malS, malS, malS, malS]) = .ok true := by
  rw [eqT_of (p := .list [.str (Str.ofString "malformed"), .str (Str.ofString "malformed"), .str (Str.ofString "malformed"), .str (Str.ofString "malformed"), .str (Str.ofString "malformed"), .str (Str.ofString "malformed"), .str (Str.ofString "malformed")]) (q := .list [.str (Str.ofString "malformed"), .str (Str.ofString "malformed"), .str (Str.ofString "malformed"), .str (Str.ofString "malformed"), .str (Str.ofString "malformed"), .str (Str.ofString "malformed"), .str (Str.ofString "malformed")]) rfl rfl (by decide +kernel) (by decide +kernel)]
  kernel_rfl
theorem neM7 {cf : CF} : cmpD P cf .ne (.lst [malS, malS, malS, malS, malS, malS, malS]) (.lst [malS, malS, malS, malS, malS, malS, malS]) = .ok false := by
  show (eqT P cf _ _).map (!·) = _
  rw [eqtM7]
  rfl
theorem eqM7 {cf : CF} : cmpD P cf .eq (.lst [malS, malS, malS, malS, malS, malS, malS]) (.lst [malS, malS, malS, malS, malS, malS, malS]) = .ok true := eqtM7
theorem mulM8 {cf : CF} : binD P cf .mul (.lst [malS]) (.int 8) = .ok (.ow [malS, malS, malS, malS, malS, malS, malS, malS]) := rfl
theorem eqtM8 {cf : CF} : eqT P cf (.lst [malS, malS, malS, malS, malS, malS, malS, malS]) (.lst [malS, malS, malS, malS, malS, malS, malS, malS]) = .ok true := by
  rw [eqT_of (p := .list [.str (Str.ofString "malformed"), .str (Str.ofString "malformed"), .str (Str.ofString "malformed"), .str (Str.ofString "malformed"), .str (Str.ofString "malformed"), .str (Str.ofString "malformed"), .str (Str.ofString "malformed"), .str (Str.ofString "malformed")]) (q := .list [.str (Str.ofString "malformed"), .str (Str.ofString "malformed"), .str (Str.ofString "malformed"), .str (Str.ofString "malformed"), .str (Str.ofString "malformed"), .str (Str.ofString "malformed"), .str (Str.ofString "malformed"), .str (Str.ofString "malformed")]) rfl rfl (by decide +kernel) (by decide +kernel)]
  kernel_rfl
theorem neM8 {cf : CF} : cmpD P cf .ne (.lst [malS, malS, malS, malS, malS, malS, malS, malS]) (.lst [malS, malS, malS, malS, malS, malS, malS, malS]) = .ok false := by
  show (eqT P cf _ _).map (!·) = _
  rw [eqtM8]
  rfl
theorem eqM8 {cf : CF} : cmpD P cf .eq (.lst [malS, malS, malS, malS, malS, malS, malS, malS]) (.lst [malS, malS, malS, malS, malS, malS, malS, malS]) = .ok true := eqtM8
theorem mulM9 {cf : CF} : binD P cf .mul (.lst [malS]) (.int 9) = .ok (.ow [malS, malS, malS, malS, malS, malS, malS, malS, malS]) := rfl
theorem eqtM9 {cf : CF} : eqT P cf (.lst [malS, malS, malS, malS, malS, malS, malS, malS, malS]) (.lst [malS, malS, malS, malS, malS, malS, malS, malS, malS]) = .ok true := by
  rw [eqT_of (p := .list [.str (Str.ofString "malformed"), .str (Str.ofString "malformed"), .str (Str.ofString "malformed"), .str (Str.ofString "malformed"), .str (Str.ofString "malformed"), .str (Str.ofString "malformed"), .str (Str.ofString "malformed"), .str (Str.ofString "malformed"), .str (Str.ofString "malformed")]) (q := .list [.str (Str.ofString "malformed"), .str (Str.ofString "malformed"), .str (Str.ofString "malformed"), .str (Str.ofString "malformed"), .str (Str.ofString "malformed"), .str (Str.ofString "malformed"), .str (Str.ofString "malformed"), .str (Str.ofString "malformed"), .str (Str.ofString "malformed")]) rfl rfl (by decide +kernel) (by decide +kernel)]
  kernel_rfl
theorem neM9 {cf : CF} : cmpD P cf .ne (.lst [malS, malS, malS, malS, malS, malS, malS, malS, malS]) (.lst [malS, malS, malS, malS, malS, malS, malS, malS, malS]) = .ok false := by
  show (eqT P cf _ _).map (!·) = _
  rw [eqtM9]
  rfl
theorem eqM9 {cf : CF} : cmpD P cf .eq (.lst [malS, malS, malS, malS, malS, malS, malS, malS, malS]) (.lst [malS, malS, malS, malS, malS, malS, malS, malS, malS]) = .ok true := eqtM9
theorem mulR2 {cf : CF} {s : Str} : binD P cf .mul (.lst [refd s]) (.int 2) = .ok (.ow [refd s, refd s]) := rfl
theorem mulR3 {cf : CF} {s : Str} : binD P cf .mul (.lst [refd s]) (.int 3) = .ok (.ow [refd s, refd s, refd s]) := rfl
theorem mulR4 {cf : CF} {s : Str} : binD P cf .mul (.lst [refd s]) (.int 4) = .ok (.ow [refd s, refd s, refd s, refd s]) := rfl
theorem neO2 {cf : CF} : cmpD P cf .ne (.lst [refd "outside", refd "outside"]) (.lst [refd "outside", refd "outside"]) = .ok false := by
  show (eqT P cf _ _).map (!·) = _
  rw [eqT_of (p := .list [.tuple [.str (Str.ofString "refused"), .str (Str.ofString "outside")], .tuple [.str (Str.ofString "refused"), .str (Str.ofString "outside")]]) (q := .list [.tuple [.str (Str.ofString "refused"), .str (Str.ofString "outside")], .tuple [.str (Str.ofString "refused"), .str (Str.ofString "outside")]]) rfl rfl (by decide +kernel) (by decide +kernel)]
  kernel_rfl
end
end K21
set_option Elab.async false
set_option linter.all false
set_option maxRecDepth 100000
set_option maxHeartbeats 800000
namespace K21
open PySem L2 PV
theorem count_win : ∀ {p : List Rat}, p.Pairwise (· ≤ ·) → ∀ {m : Nat} {x : Rat}, m + 1 ≤ p.count x → ∃ j, j + m < p.length ∧ PV.cf p j = x ∧ PV.cf p (j + m) = x
  | [], _, m, x, h => by simp at h
  | y :: p, A, m, x, h => by
    by_cases e : y = x
    · subst e
      have hl : m < (y :: p).length := Nat.lt_of_lt_of_le (Nat.lt_of_lt_of_le (Nat.lt_succ_self m) h) List.count_le_length
      refine ⟨0, by omega, rfl, ?_⟩
      rw [Nat.zero_add]
      have h1 : y ≤ PV.cf (y :: p) m := pair_le A (i := 0) (j := m) (by omega) hl
      rcases Rat.le_iff_lt_or_eq.mp h1 with h1 | h1
      · exfalso
        have e2 : ((y :: p).drop m).count y = 0 := List.count_eq_zero.mpr fun hm => by
          obtain ⟨i, hi, e⟩ := List.mem_iff_getElem.mp hm
          rw [List.length_drop] at hi
          rw [List.getElem_drop] at e
          have := pair_le A (i := m) (j := m + i) (by omega) (by omega)
          rw [cf_in (show m + i < (y :: p).length by omega), e] at this
          exact absurd h1 (Rat.not_lt.mpr this)
        have e3 := List.count_append (a := y) (l₁ := (y :: p).take m) (l₂ := (y :: p).drop m)
        rw [List.take_append_drop, e2] at e3
        have e4 := List.count_le_length (a := y) (l := (y :: p).take m)
        rw [List.length_take] at e4
        omega
      · exact h1.symm
    · rw [List.count_cons_of_ne (by simpa using e)] at h
      obtain ⟨j, hj, h1, h2⟩ := count_win (List.pairwise_cons.mp A).2 h
      refine ⟨j + 1, by simp; omega, ?_, ?_⟩
      · rw [← h1]; rfl
      · rw [show j + 1 + m = j + m + 1 by omega, ← h2]; rfl
def descB (p : List Rat) : Bool := (List.range (p.length - 1)).any fun k => decide (PV.cf p (k + 1) < PV.cf p k)
theorem desc_asc {p : List Rat} : descB p = !asc p := by
  have e : asc p = (List.range (p.length - 1)).all fun k => decide (PV.cf p k ≤ PV.cf p (k + 1)) := by
    unfold asc
    rw [Bool.eq_iff_iff, List.all_eq_true, List.all_eq_true]
    constructor
    · intro h k hk
      have hk := List.mem_range.mp hk
      have := h (p[k], p[k + 1]) (by
        refine List.mem_iff_getElem.mpr ⟨k, by simp; omega, ?_⟩
        simp only [List.getElem_zip, List.getElem_drop]
        congr 2
        omega)
      rw [cf_in (by omega), cf_in (by omega)]
      exact this
    · intro h z hz
      obtain ⟨k, hk, rfl⟩ := List.mem_iff_getElem.mp hz
      simp only [List.length_zip, List.length_drop] at hk
      have := h k (List.mem_range.mpr (by omega))
      rw [cf_in (by omega), cf_in (by omega)] at this
      simp only [List.getElem_zip, List.getElem_drop]
      rw [show p[1 + k]'(by omega) = p[k + 1]'(by omega) by congr 1; omega]
      exact this
  rw [e]
  unfold descB
  rw [List.any_eq_not_all_not]
  congr 1
  congr 1
  funext k
  by_cases c : PV.cf p (k + 1) < PV.cf p k
  · simp [c, Rat.not_le.mpr c]
  · simp [c, Rat.not_lt.mp c]
theorem asc_pair {p : List Rat} (h : asc p = true) : p.Pairwise (· ≤ ·) := by
  rw [List.pairwise_iff_getElem]
  have st : ∀ k, k + 1 < p.length → PV.cf p k ≤ PV.cf p (k + 1) := fun k hk => by
    unfold asc at h
    rw [List.all_eq_true] at h
    have := h (p[k], p[k + 1]) (by
      refine List.mem_iff_getElem.mpr ⟨k, by simp; omega, ?_⟩
      simp only [List.getElem_zip, List.getElem_drop]
      congr 2
      omega)
    rw [cf_in (by omega), cf_in (by omega)]
    exact of_decide_eq_true this
  have go : ∀ m i, i + m < p.length → PV.cf p i ≤ PV.cf p (i + m) := fun m => by
    induction m with
    | zero => intro i _; exact Rat.le_refl
    | succ m ih =>
      intro i hi
      exact Rat.le_trans (ih i (by omega)) (st (i + m) (by omega))
  intro i j hi hj hij
  have := go (j - i) i (by omega)
  rw [show i + (j - i) = j by omega, cf_in hi, cf_in hj] at this
  exact this
def manyB (d : Nat) (p : List Rat) : Bool := p.any fun x => decide ((d : Int) + 1 < (p.count x : Nat))
theorem many_win {d : Nat} {p : List Rat} (A : p.Pairwise (· ≤ ·)) : (List.range (p.length - d - 1)).all (fun j => decide (PV.cf p j < PV.cf p (j + d + 1))) = !manyB d p := by
  unfold manyB
  rw [Bool.eq_iff_iff, List.all_eq_true, Bool.not_eq_true', List.any_eq_false]
  constructor
  · intro h x hx hc
    have hc := of_decide_eq_true hc
    obtain ⟨j, hj, h1, h2⟩ := count_win A (m := d + 1) (x := x) (by omega)
    have := of_decide_eq_true (h j (List.mem_range.mpr (by omega)))
    rw [show j + d + 1 = j + (d + 1) by omega, h1, h2] at this
    exact Rat.lt_irrefl this
  · intro h j hj
    have hj := List.mem_range.mp hj
    refine decide_eq_true (win_of A (m := d + 1) (fun x => ?_) (by omega))
    by_cases hx : x ∈ p
    · have := h x hx
      simp only [decide_eq_true_eq] at this
      omega
    · rw [List.count_eq_zero.mpr hx]; omega
section
variable {n : Nat}
theorem areR (hn : 6 ≤ n) {d : Nat} {p : List Rat} (hp : Sm10 p) (h6 : p.length ≤ 2000) : fnEv P W n i_law_are_knots .no [.int d, pD p] = .ok (.sh (.bl (isKn d p)), []) := by
  obtain ⟨m, rfl⟩ := dep hn
  have e1 := wholeI (n := m + 5) (by omega) d
  have e2 := lc_seq (P := P) (cf := fnEv P W (m + 5)) (xs := p) rD (fun _ => D.bl true) (t := 2) (e := F_law_are_knots_e0) (s := .seq (.var 1)) (σ := [.sh (.int d), .sh (pD p), .un, .un, .un]) (c := .un) (src_at (A := pD p) (by simp) rfl) rfl rfl (by omega) (fun x _ => by simp [F_law_are_knots_e0])
  have a2 := all_map (b := fun _ : Rat => true) (xs := p)
  have a2 : bifD .all [.lst (p.map fun _ => D.bl true)] = .ok (.sh (.bl true)) := by rw [a2]; simp
  have e3 := lc_seq (P := P) (cf := fnEv P W (m + 5)) (xs := List.range (p.length - 1)) (fun (i : Nat) => .int (i : Int)) (fun (k : Nat) => D.bl (decide (PV.cf p (k + 1) < PV.cf p k))) (t := 3) (e := F_law_are_knots_e1) (s := .rng (.cons (.bin .sub (.bif .len (.cons (.var 1) .nil)) (.con (.int 1))) .nil)) (σ := [.sh (.int d), .sh (pD p), .un, .un, .un]) (c := .un)
    (src_range1 (p.length - 1) (i := (p.length : Int) - 1) (by simp) (by omega) (by omega) (by omega)) rfl rfl (by simp; omega) (fun k hk => by
    have hk := List.mem_range.mp hk
    have i1 := ixK (p := p) (i := (k : Int)) k (by omega) (by omega) (by omega)
    have i2 := ixK (p := p) (i := (k : Int) + 1) (k + 1) (by omega) (by omega) (by omega)
    have := hp.cf k
    have := hp.cf (k + 1)
    have a1 := ltR (n := m + 5) (x := PV.cf p (k + 1)) (y := PV.cf p k) (by omega) (by omega)
    simp [F_law_are_knots_e1, i1, i2, a1, -ixOf_eq])
  have a3 := any_map (b := fun k : Nat => decide (PV.cf p (k + 1) < PV.cf p k)) (xs := List.range (p.length - 1))
  have a3 : bifD .any [.lst ((List.range (p.length - 1)).map fun (k : Nat) => D.bl (decide (PV.cf p (k + 1) < PV.cf p k)))] = .ok (.sh (.bl (!asc p))) := by rw [a3, ← desc_asc]; rfl
  have e4 := lc_seq (P := P) (cf := fnEv P W (m + 5)) (xs := p) rD (fun x => D.bl (decide ((d : Int) + 1 < (p.count x : Nat)))) (t := 2) (e := F_law_are_knots_e4) (s := .seq (.var 1)) (σ := [.sh (.int d), .sh (pD p), .un, .un, .un]) (c := .un) (src_at (A := pD p) (by simp) rfl) rfl rfl (by omega) (fun x _ => by
    have e := lcf_seq (P := P) (cf := fnEv P W (m + 5)) (xs := p) rD rD (fun y => decide (y = x)) (t := 4) (k := F_law_are_knots_e2) (e := F_law_are_knots_e3) (s := .seq (.var 1)) (σ := [.sh (.int d), .sh (pD p), .sh (rD x), .un, .un]) (c := .un)
      (src_at (A := pD p) (by simp) rfl) rfl rfl (by omega) (fun y hy => by
        have l1 := eqRR (n := m + 5) (by omega) (x := y) (y := x)
        exact ⟨by simp [F_law_are_knots_e2, l1], fun _ => by simp [F_law_are_knots_e3]⟩)
    have el : ((p.filter fun y => decide (y = x)).map rD).length = p.count x := by
      rw [List.length_map, List.count_eq_length_filter]
      rfl
    generalize (p.filter fun y => decide (y = x)).map rD = L at *
    simp [F_law_are_knots_e4, e, el, -ev_lcf])
  have a4 := any_map (b := fun x => decide ((d : Int) + 1 < (p.count x : Nat))) (xs := p)
  have a4 : bifD .any [.lst (p.map fun x => D.bl (decide ((d : Int) + 1 < (p.count x : Nat))))] = .ok (.sh (.bl (manyB d p))) := a4
  refine fn_runE (f := F_law_are_knots) rfl rfl rfl ?_
  generalize p.map (fun x => D.bl (decide ((d : Int) + 1 < (p.count x : Nat)))) = L4 at *
  generalize ((List.range (p.length - 1)).map fun (k : Nat) => D.bl (decide (PV.cf p (k + 1) < PV.cf p k))) = L3 at *
  generalize (p.map fun _ => D.bl true) = L2 at *
  unfold isKn
  by_cases c1 : d ≤ 8
  case neg =>
    have c1' : ¬ ((d : Int) ≤ 8) := by omega
    simp [F_law_are_knots, st0, e1, c1, c1', -ev_lc]
  have c1' : ((d : Int) ≤ 8) := by omega
  have m1 := mulI (P := P) (cf := fnEv P W (m + 5)) (i := 2) (j := d) (by omega) (by omega) (by omega) (by omega)
  by_cases c3 : 2 * d + 2 ≤ p.length ∧ p.length ≤ 60
  case neg =>
    by_cases c4 : 2 * (d : Int) + 2 ≤ p.length
    · have c5 : ¬ ((p.length : Int) ≤ 60) := by omega
      have c6 : ¬ (p.length ≤ 60) := by omega
      simp [F_law_are_knots, st0, isiD_pDt, e1, e2, a2, c1, c1', c4, c5, c6, m1, -ev_lc]
    · have c6 : ¬ (2 * d + 2 ≤ p.length) := by omega
      simp [F_law_are_knots, st0, e1, e2, a2, c1, c1', c4, c6, m1, -ev_lc]
  have c4 : 2 * (d : Int) + 2 ≤ p.length := by omega
  have c5 : (p.length : Int) ≤ 60 := by omega
  have o1 : cmpD P (fnEv P W (m + 5)) .le (.int (2 * (d : Int) + 2)) (.int p.length) = .ok true := by simp [c4]
  have o2 : cmpD P (fnEv P W (m + 5)) .le (.int p.length) (.int 60) = .ok true := by simp [c5]
  cases c2 : asc p with
  | false =>
    rw [c2] at a3
    simp [F_law_are_knots, st0, e1, e2, a2, e3, a3, c1, c1', c3, o1, o2, m1, -ev_lc]
  | true =>
    rw [c2] at a3
    rw [many_win (asc_pair c2)]
    have h1 := hp.cf d
    have h2 := hp.cf (p.length - d - 1)
    have i1 := ixK (p := p) (i := (d : Int)) d (by omega) (by omega) (by omega)
    have i2 := ixK (p := p) (i := (p.length : Int) - d - 1) (p.length - d - 1) (by omega) (by omega) (by omega)
    have el := ltR (n := m + 5) (x := PV.cf p d) (y := PV.cf p (p.length - d - 1)) (by omega) (by omega)
    cases c8 : manyB d p with
    | true =>
      rw [c8] at a4
      simp [F_law_are_knots, st0, e1, e2, a2, e3, a3, e4, a4, c1, c1', c3, o1, o2, m1, -ev_lc]
    | false =>
      rw [c8] at a4
      simp [F_law_are_knots, st0, e1, e2, a2, e3, a3, e4, a4, c1, c1', c3, o1, o2, m1, i1, i2, el, -ev_lc, -ixOf_eq]
end
end K21
set_option Elab.async false
set_option linter.all false
set_option maxRecDepth 100000
set_option maxHeartbeats 800000
namespace K21
open PySem L2 PV
def Pair (x y : D) : Prop := ∃ b, ∀ n, 7 ≤ n → fnEv P W n i_is_knots .no [x, y] = .ok (.sh (.bl b), []) ∧ fnEv P W n i_law_are_knots .no [x, y] = .ok (.sh (.bl b), [])
theorem pair_row {d : Nat} {p : List Rat} (hp : Sm10 p) (h6 : p.length ≤ 2000) : Pair (.int d) (pD p) := ⟨isKn d p, fun n hn => ⟨knR (by omega) hp (by omega) (by omega), areR (by omega) hp h6⟩⟩
theorem row_bad {n : Nat} (hn : 1 ≤ n) {y : D} (h : isiD .tup y = .ok false) : fnEv P W n i_is_ratio_row .no [y] = .ok (.sh (.bl false), []) := by
  obtain ⟨m, rfl⟩ := dep hn
  refine fn_runE (f := F_is_ratio_row) rfl rfl rfl ?_
  simp [F_is_ratio_row, st0, h]
theorem pair_noT {d : Nat} (hd : d ≤ 8) {y : D} (h : isiD .tup y = .ok false) : Pair (.int d) y := ⟨false, fun n hn => by
  obtain ⟨m, rfl⟩ := dep hn
  have e1 := countI (n := m + 6) (by omega) d 0 8
  have e2 := row_bad (n := m + 6) (by omega) h
  have e3 := wholeI (n := m + 6) (by omega) d
  have c1 : ((d : Int) ≤ 8) := by omega
  constructor
  · refine fn_runE (f := F_is_knots) rfl rfl rfl ?_
    simp [F_is_knots, st0, e1, e2, c1]
  · refine fn_runE (f := F_law_are_knots) rfl rfl rfl ?_
    simp [F_law_are_knots, st0, e3, h, c1]⟩
theorem pair_ints {d : Nat} (hd : d ≤ 8) : Pair (.int d) (.tup [.int 1, .int 1, .int 1, .int 1, .int 1, .int 1, .int 1, .int 1, .int 1]) := ⟨false, fun n hn => by
  obtain ⟨m, rfl⟩ := dep hn
  have e1 := countI (n := m + 6) (by omega) d 0 8
  have e2 : fnEv P W (m + 6) i_is_ratio_row .no [.tup [.int 1, .int 1, .int 1, .int 1, .int 1, .int 1, .int 1, .int 1, .int 1]] = .ok (.sh (.bl false), []) := rfl
  have e3 := wholeI (n := m + 6) (by omega) d
  have c1 : ((d : Int) ≤ 8) := by omega
  have e4 := lc_seq (P := P) (cf := fnEv P W (m + 6)) (xs := List.replicate 9 (1 : Int)) D.int (fun _ => D.bl false) (t := 2) (e := F_law_are_knots_e0) (s := .seq (.var 1)) (σ := [.sh (.int d), .sh (.tup [.int 1, .int 1, .int 1, .int 1, .int 1, .int 1, .int 1, .int 1, .int 1]), .un, .un, .un]) (c := .un) (src_at (A := .tup [.int 1, .int 1, .int 1, .int 1, .int 1, .int 1, .int 1, .int 1, .int 1]) (by simp) rfl) rfl rfl (by decide) (fun x _ => by simp [F_law_are_knots_e0, isiD, isi1])
  have a4 : bifD .all [.lst ((List.replicate 9 (1 : Int)).map fun _ => D.bl false)] = .ok (.sh (.bl false)) := rfl
  have ht : isiD .tup (.tup [.int 1, .int 1, .int 1, .int 1, .int 1, .int 1, .int 1, .int 1, .int 1]) = .ok true := rfl
  constructor
  · refine fn_runE (f := F_is_knots) rfl rfl rfl ?_
    generalize D.tup [.int 1, .int 1, .int 1, .int 1, .int 1, .int 1, .int 1, .int 1, .int 1] = T at *
    simp [F_is_knots, st0, e1, e2, c1]
  · refine fn_runE (f := F_law_are_knots) rfl rfl rfl ?_
    generalize D.tup [.int 1, .int 1, .int 1, .int 1, .int 1, .int 1, .int 1, .int 1, .int 1] = T at *
    generalize (List.replicate 9 (1 : Int)).map (fun _ => D.bl false) = L at *
    simp [F_law_are_knots, st0, e3, ht, c1, e4, a4, -ev_lc]⟩
theorem pair_deg {x y : D} (hx : x = .int (-1) ∨ x = .int 9 ∨ x = .non ∨ x = .bl true) : Pair x y := ⟨false, fun n hn => by
  obtain ⟨m, rfl⟩ := dep hn
  rcases hx with rfl | rfl | rfl | rfl
  · exact ⟨rfl, rfl⟩
  · exact ⟨rfl, rfl⟩
  · exact ⟨rfl, rfl⟩
  · exact ⟨rfl, rfl⟩⟩
theorem bt_rows {p : List Rat} (hB : ∀ x ∈ p, Bd 2 24 x) : Sm10 p := fun x hx => Nat.le_trans ((hB x hx).sz (by decide) (b := 5) (by decide)) (by decide)
/-- the loop over pairs -/
theorem b1_ok {n : Nat} (hn : 14 ≤ n) {x y : D} (hp : Pair x y) {c0 c1 c2 c3 c4 c5 c6 c7 c8 c9 : Cell} (h7 : asg c7 = true) (h8 : asg c8 = true) (h9 : asg c9 = true) :
    ∃ b, forF P (fnEv P W n) W (.tp [7, 8]) F_law_b1 (.tup [x, y]) [c0, c1, c2, c3, c4, c5, c6, c7, c8, c9, .un, .un, .un, .un, .un, .un, .un, .un, .un, .un, .un, .un] = .ok (.nx, [c0, c1, c2, c3, c4, c5, c6, .sh x, .sh y, .sh (.bl b), .un, .un, .un, .un, .un, .un, .un, .un, .un, .un, .un, .un]) := by
  obtain ⟨b, hb⟩ := hp
  obtain ⟨k1, k2⟩ := hb n (by omega)
  have s1 := saysB (n := n) (by omega) b b
  refine ⟨b, ?_⟩
  cases b with
  | true => simp [forF_eq, F_law_b1, h7, h8, h9, k1, k2, s1]
  | false =>
    have kx : ∀ j, 8 ≤ j → fnEv P W j i_check_knots .no [x, y] = .exc ⟨0, none⟩ := fun j hj => knX (by omega) (hb (j - 1) (by omega)).1
    have r1 := resM2 (n := n) (by omega) (f := F_space_size) (k := i_space_size) rfl rfl (sizeX (by omega) (kx _ (by omega)))
    have r2 := resM2 (n := n) (by omega) (f := F_ground) (k := i_ground) rfl rfl (grndX (by omega) (kx _ (by omega)))
    have r3 := resM2 (n := n) (by omega) (f := F_breaks) (k := i_breaks) rfl rfl (brksX (by omega) (kx _ (by omega)))
    have r4 := resM2 (n := n) (by omega) (f := F_spans) (k := i_spans) rfl rfl (spsX (by omega) (kx _ (by omega)))
    have r5 := resM2 (n := n) (by omega) (f := F_space_dimension) (k := i_space_dimension) rfl rfl (dimX (by omega) (kx _ (by omega)))
    have r6 := resM3 (n := n) (by omega) (f := F_span_at) (k := i_span_at) rfl rfl (spatX (by omega) (z := rD ((0 : Int) : Rat)) (kx _ (by omega)))
    have r7 := resM3 (n := n) (by omega) (f := F_smoothness) (k := i_smoothness) rfl rfl (smoX (by omega) (z := rD ((0 : Int) : Rat)) (kx _ (by omega)))
    have z0 := fun σ => mk1R (n := n) (a := 0) (σ := σ) (by omega)
    have q5 := mulM5 (cf := fnEv P W n)
    have q2 := mulM2 (cf := fnEv P W n)
    have p5 := neM5 (cf := fnEv P W n)
    have p2 := neM2 (cf := fnEv P W n)
    generalize ((0 : Int) : Rat) = z at *
    simp [forF_eq, F_law_b1, h7, h8, h9, k1, k2, s1, lcL_cons, lcE_eq, addL_ok, F_law_e0, F_law_e1, r1, r2, r3, r4, r5, r6, r7, mal_ix, z0, q5, q2, p5, p2, -ixOf_eq]
end K21
set_option Elab.async false
set_option linter.all false
set_option maxRecDepth 100000
set_option maxHeartbeats 800000
namespace K21
open PySem L2 PV
theorem rough_ok {n : Nat} (hn : 3 ≤ n) {ds : List D} (hs : StOk ds) {d : Nat} (hd : d < 5) {c0 c3 : Cell} {t : List Cell} : ∃ ds' r c5, StOk ds' ∧ Sm10 r ∧ r.length ≤ 1000 ∧ asg c5 = true ∧
    exS P (fnEv P W n) W F_law_s4 (c0 :: .ow ds :: .sh (.int d) :: c3 :: .ow [] :: .un :: t) = .ok (.nx, c0 :: .ow ds' :: .sh (.int d) :: c3 :: .ow (r.map rD) :: c5 :: t) := by
  obtain ⟨σ', e, ds', r, c5, g, hr, hl, h5, rfl⟩ := for_idx (r := fun (i : Nat) => D.int (i : Int)) (fun i σ => ∃ ds r c5, StOk ds ∧ Sm10 r ∧ r.length ≤ 10 * i ∧ asg c5 = true ∧ σ = c0 :: .ow ds :: .sh (.int d) :: c3 :: .ow (r.map rD) :: c5 :: t) (m := 5) (f := forF P (fnEv P W n) W (.v 5) F_law_b0) (σ := c0 :: .ow ds :: .sh (.int d) :: c3 :: .ow [] :: .un :: t) ⟨ds, [], .un, hs, nofun, by simp, rfl, rfl⟩ (by
    rintro i σ hi ⟨ds, r, c5, g, hr, hl, h5, rfl⟩
    obtain ⟨u, d1, e1, u0, u1, g1⟩ := takeI (n := n) (by omega) g ((d : Int) + 3) (by omega) (by omega)
    have m1 := fun σ => mk1R (n := n) (a := (i : Int)) (σ := σ) (by omega)
    have j1 := mulL1 (cf := fnEv P W n) (x := ((i : Int) : Rat)) (j := u) (by omega) (by omega)
    have hb : bt ((i : Int) : Rat) ≤ 10 := bt_int (by omega)
    generalize ((i : Int) : Rat) = z at *
    have z1 := addLL (P := P) (cf := fnEv P W n) (i := r.map rD) (j := (List.replicate u.toNat z).map rD) (by simp; omega)
    rw [← List.map_append] at z1
    refine ⟨_, ?_, d1, r ++ List.replicate u.toNat z, .sh (.int (i : Int)), g1, fun x hx => ?_, by simp; omega, rfl, rfl⟩
    · generalize r ++ List.replicate u.toNat z = r' at *
      generalize (List.replicate u.toNat z).map rD = L at *
      generalize (i : Int) = i' at *
      simp (disch := first | omega | (simp; done) | (simp; omega) | (simp [*]; done) | fail) [forF_eq, F_law_b0, h5, e1, m1, j1, z1, mulI, fdvI, modI, appF_ok, extF_ok, -appF_eq, -extF_eq, -ixOf_eq, -ev_lc, -ev_lcf]
    · rcases List.mem_append.mp hx with hx | hx
      · exact hr x hx
      · rw [(List.mem_replicate.mp hx).2]; exact hb)
  refine ⟨ds', r, c5, g, hr, by omega, h5, ?_⟩
  exact for_rng_run (ds := [.int 5]) (σ1 := c0 :: .ow ds :: .sh (.int d) :: c3 :: .ow [] :: .un :: t) (by simp) (rngA_1 (k := 5) (by decide)) e
theorem s8_ok {n : Nat} (hn : 14 ≤ n) {c0 c1 c2 c3 c4 c5 : Cell} {T : List D} (hT : ∀ z ∈ T, ∃ x y, z = .tup [x, y] ∧ Pair x y) : ∃ c7 c8 c9, asg c7 = true ∧ asg c8 = true ∧ asg c9 = true ∧
    exS P (fnEv P W n) W F_law_s8 [c0, c1, c2, c3, c4, c5, .ow T, .un, .un, .un, .un, .un, .un, .un, .un, .un, .un, .un, .un, .un, .un, .un] = .ok (.nx, [c0, c1, c2, c3, c4, c5, .ow T, c7, c8, c9, .un, .un, .un, .un, .un, .un, .un, .un, .un, .un, .un, .un]) := by
  obtain ⟨σ', e, _, c7, c8, c9, h7, h8, h9, rfl⟩ := forL_inv (f := forF P (fnEv P W n) W (.tp [7, 8]) F_law_b1) (I := fun rest σ => (∀ z ∈ rest, ∃ x y, z = .tup [x, y] ∧ Pair x y) ∧ ∃ c7 c8 c9, asg c7 = true ∧ asg c8 = true ∧ asg c9 = true ∧ σ = [c0, c1, c2, c3, c4, c5, .lk T, c7, c8, c9, .un, .un, .un, .un, .un, .un, .un, .un, .un, .un, .un, .un]) (by
    rintro z rest σ ⟨hz, c7, c8, c9, h7, h8, h9, rfl⟩
    obtain ⟨x, y, rfl, hp⟩ := hz z (List.mem_cons_self ..)
    obtain ⟨b, e⟩ := b1_ok (n := n) hn hp (c0 := c0) (c1 := c1) (c2 := c2) (c3 := c3) (c4 := c4) (c5 := c5) (c6 := .lk T) h7 h8 h9
    exact ⟨_, e, fun w hw => hz w (List.mem_cons_of_mem _ hw), _, _, _, rfl, rfl, rfl, rfl⟩) T [c0, c1, c2, c3, c4, c5, .lk T, .un, .un, .un, .un, .un, .un, .un, .un, .un, .un, .un, .un, .un, .un, .un] ⟨hT, _, _, _, rfl, rfl, rfl, rfl⟩
  refine ⟨c7, c8, c9, h7, h8, h9, ?_⟩
  simp [F_law_s8, e]
theorem s12_ok {n : Nat} (hn : 3 ≤ n) {p : List Rat} (hp : Sm10 p) (A : p.Pairwise (· ≤ ·)) (h6 : p.length ≤ 1000) {lo hi : Rat} (b1 : bt lo ≤ 10) (b2 : bt hi ≤ 10) {c0 c1 c2 c4 c5 c6 c7 c8 c9 c10 c11 : Cell} {t : List Cell} : ∃ c15, asg c15 = true ∧
    exS P (fnEv P W n) W F_law_s12 (c0 :: c1 :: c2 :: .sh (pD p) :: c4 :: c5 :: c6 :: c7 :: c8 :: c9 :: c10 :: c11 :: .sh (rD lo) :: .sh (rD hi) :: .ow [] :: .un :: t) = .ok (.nx, c0 :: c1 :: c2 :: .sh (pD p) :: c4 :: c5 :: c6 :: c7 :: c8 :: c9 :: c10 :: c11 :: .sh (rD lo) :: .sh (rD hi) :: .ow ((brkN lo hi p p.length).map rD) :: c15 :: t) := by
  obtain ⟨σ', e, c15, h15, rfl⟩ := for_idx (r := fun (i : Nat) => rD (PV.cf p i)) (fun i σ => ∃ c15, asg c15 = true ∧ σ = c0 :: c1 :: c2 :: .sh (pD p) :: c4 :: c5 :: c6 :: c7 :: c8 :: c9 :: c10 :: c11 :: .sh (rD lo) :: .sh (rD hi) :: .ow ((brkN lo hi p i).map rD) :: c15 :: t) (m := p.length) (f := forF P (fnEv P W n) W (.v 15) F_law_b2) (σ := c0 :: c1 :: c2 :: .sh (pD p) :: c4 :: c5 :: c6 :: c7 :: c8 :: c9 :: c10 :: c11 :: .sh (rD lo) :: .sh (rD hi) :: .ow [] :: .un :: t) ⟨.un, rfl, by rw [brkN_zero]; rfl⟩ (by
    rintro i σ hi' ⟨c15, h15, rfl⟩
    have b3 := hp.cf i
    have a1 := ltR (n := n) (x := PV.cf p i) (y := lo) (by omega) (by omega)
    have a2 := ltR (n := n) (x := hi) (y := PV.cf p i) (by omega) (by omega)
    have a3 := ninL (n := n) (by omega) (x := PV.cf p i) (ys := brkN lo hi p i)
    have hL := brkN_le (lo := lo) (hi := hi) (p := p) i (by omega)
    refine ⟨_, ?_, .sh (rD (PV.cf p i)), rfl, rfl⟩
    rw [brkN_succ hi']
    generalize brkN lo hi p i = f at *
    unfold brkS
    have lf : (f.map rD).length = f.length := by simp
    have g1 : appF (rD (PV.cf p i)) (f.map rD) = some (f.map rD ++ [rD (PV.cf p i)]) := appF_ok (by rw [lf]; omega)
    by_cases c1 : PV.cf p i < lo
    · rw [if_neg (fun z => absurd c1 (Rat.not_lt.mpr z.1))]
      simp (disch := first | omega | (simp; done) | (simp; omega) | (simp [*]; done) | fail) [forF_eq, F_law_b2, h15, a1, c1, mulI, fdvI, modI, appF_ok, extF_ok, -appF_eq, -extF_eq, -ixOf_eq, -ev_lc, -ev_lcf]
    · by_cases c2 : hi < PV.cf p i
      · rw [if_neg (fun z => absurd c2 (Rat.not_lt.mpr z.2.1))]
        simp (disch := first | omega | (simp; done) | (simp; omega) | (simp [*]; done) | fail) [forF_eq, F_law_b2, h15, a1, a2, c1, c2, mulI, fdvI, modI, appF_ok, extF_ok, -appF_eq, -extF_eq, -ixOf_eq, -ev_lc, -ev_lcf]
      · by_cases c3 : PV.cf p i ∈ f
        · rw [if_neg (fun z => z.2.2 c3)]
          simp (disch := first | omega | (simp; done) | (simp; omega) | (simp [*]; done) | fail) [forF_eq, F_law_b2, h15, a1, a2, a3, c1, c2, c3, mulI, fdvI, modI, appF_ok, extF_ok, -appF_eq, -extF_eq, -ixOf_eq, -ev_lc, -ev_lcf]
        · rw [if_pos ⟨Rat.not_lt.mp c1, Rat.not_lt.mp c2, c3⟩, List.map_append, List.map_singleton]
          generalize f.map rD = L at *
          simp (disch := first | omega | (simp; done) | (simp; omega) | (simp [*]; done) | fail) [forF_eq, F_law_b2, h15, a1, a2, a3, c1, c2, c3, g1, mulI, fdvI, modI, appF_ok, extF_ok, -appF_eq, -extF_eq, -ixOf_eq, -ev_lc, -ev_lcf])
  rw [← range_rD] at e
  refine ⟨c15, h15, ?_⟩
  generalize (brkN lo hi p p.length).map rD = L at *
  simp [F_law_s12, e]
end K21
set_option Elab.async false
set_option linter.all false
set_option maxRecDepth 100000
set_option maxHeartbeats 1600000
namespace K21
open PySem L2 PV
theorem start_ok {ns : List Int} (h : ns.length ≤ 63) (hb : ∀ z ∈ ns, z.natAbs.log2 ≤ 1048576) : ∃ ds, StOk ds ∧ fnEv P W 24 i_law_state .no [.ro (ns.map D.int)] = .ok (.ow ds, []) := by
  obtain ⟨ds, e, g⟩ := state_ev (P := P) (w := W) (n := 23) (k := i_law_state) (f := F_law_state) rfl rfl rfl rfl h hb
  exact ⟨ds, g, e⟩
theorem bits_of {N M b : Nat} {p : List Rat} (hN : 0 < N) (h : M + N ≤ 2 ^ b) (hB : ∀ x ∈ p, Bd N M x) : ∀ x ∈ p, bt x ≤ b := fun x hx => (hB x hx).sz hN h
theorem law (ns : List Int) (h : ns.length ≤ 63) (hb : ∀ z ∈ ns, z.natAbs.log2 ≤ 1048576) : ∃ w, fnEv P w 25 i_law .no [.ro (ns.map D.int)] = .ok (.sh (.bl true), []) := by
  refine ⟨W, ?_⟩
  obtain ⟨d0, g0, e0⟩ := start_ok h hb
  obtain ⟨u, d1, e1, u0, u1, g1⟩ := takeI (n := 24) (by omega) g0 5 (by decide) (by decide)
  obtain ⟨d, rfl⟩ : ∃ d : Nat, u = d := ⟨u.toNat, by omega⟩
  have hd : d < 5 := by omega
  obtain ⟨p, d2, e2, K, hB, g2⟩ := knots_of_ok (n := 24) (by omega) g1 hd
  have hp := bt_rows hB
  have hl := K.lo
  have hh := K.hi
  obtain ⟨d3, r, c5, g3, hr, hrl, h5, e3⟩ := rough_ok (n := 24) (by omega) g2 hd (c0 := .sh (.ro (ns.map D.int))) (c3 := .sh (pD p)) (t := List.replicate 16 .un)
  refine fn_go (f := F_law) (σ := .sh (.ro (ns.map D.int)) :: List.replicate 21 .un) rfl rfl rfl ?_
  have hbody : F_law.body = .cons F_law_s0 (.cons F_law_s1 (.cons F_law_s2 (.cons F_law_s3 (.cons F_law_s4 (.cons F_law_s5 (.cons F_law_s6 (.cons F_law_s7 (.cons F_law_s8 (.cons F_law_s9 (.cons F_law_s10 (.cons F_law_s11 (.cons F_law_s12 (.cons F_law_s13 (.cons F_law_s14 (.cons F_law_s15 (.cons F_law_s16 (.cons F_law_s17 (.cons F_law_s18 (.cons F_law_s19 (.cons F_law_s20 (.cons F_law_s21 (.cons F_law_s22 (.cons F_law_s23 .nil))))))))))))))))))))))) := rfl
  rw [hbody]
  generalize ns.map D.int = NS at *
  generalize hc0 : Cell.sh (.ro NS) = c0 at *
  refine .step (σ' := c0 :: .ow d0 :: List.replicate 20 .un) (by subst hc0; simp (disch := first | omega | (simp; done) | (simp; omega) | (simp [*]; done) | fail) [F_law_s0, e0, mulI, fdvI, modI, appF_ok, extF_ok, -appF_eq, -extF_eq, -ixOf_eq, -ev_lc, -ev_lcf]) ?_
  refine .step (σ' := c0 :: .ow d1 :: .sh (.int d) :: List.replicate 19 .un) (by simp (disch := first | omega | (simp; done) | (simp; omega) | (simp [*]; done) | fail) [F_law_s1, e1, mulI, fdvI, modI, appF_ok, extF_ok, -appF_eq, -extF_eq, -ixOf_eq, -ev_lc, -ev_lcf]) ?_
  refine .step (σ' := c0 :: .ow d2 :: .sh (.int d) :: .sh (pD p) :: List.replicate 18 .un) (by simp (disch := first | omega | (simp; done) | (simp; omega) | (simp [*]; done) | fail) [F_law_s2, e2, mulI, fdvI, modI, appF_ok, extF_ok, -appF_eq, -extF_eq, -ixOf_eq, -ev_lc, -ev_lcf]) ?_
  refine .step (σ' := c0 :: .ow d2 :: .sh (.int d) :: .sh (pD p) :: .ow [] :: .un :: List.replicate 16 .un) (by simp (disch := first | omega | (simp; done) | (simp; omega) | (simp [*]; done) | fail) [F_law_s3, mulI, fdvI, modI, appF_ok, extF_ok, -appF_eq, -extF_eq, -ixOf_eq, -ev_lc, -ev_lcf]) ?_
  refine .step e3 ?_
  refine .step (σ' := c0 :: .ow d3 :: .sh (.int d) :: .sh (pD p) :: .sh (pD r) :: c5 :: List.replicate 16 .un) (by simp (disch := first | omega | (simp; done) | (simp; omega) | (simp [*]; done) | fail) [F_law_s5, mulI, fdvI, modI, appF_ok, extF_ok, -appF_eq, -extF_eq, -ixOf_eq, -ev_lc, -ev_lcf]; rfl) ?_
  -- the pairs
  have K1 := K.n_lt
  have bl : bt (PV.cf p (p.length - 1)) ≤ 5 := (hB _ (cf_mem (by omega))).sz (by decide) (by decide)
  have i1 := ixPn (p := p) (i := -1) (by decide) (by omega)
  rw [show ((-1 : Int) + p.length).toNat = p.length - 1 by omega] at i1
  have m1 := fun σ => mk1R (n := 24) (a := 1) (σ := σ) (by omega)
  have b1 : bt ((1 : Int) : Rat) ≤ 10 := bt_int (by decide)
  have hb2 := bt_add (PV.cf p (p.length - 1)) ((1 : Int) : Rat)
  have b1' : bt ((1 : Int) : Rat) ≤ 1 := bt_int (by decide)
  have a1 := addR (n := 24) (x := PV.cf p (p.length - 1)) (y := ((1 : Int) : Rat)) (by omega) (by omega)
  have t1 := @t1_pD
  have a2 := addPP (cf := fnEv P W 24) (p := p) (q := [PV.cf p (p.length - 1) + ((1 : Int) : Rat)]) (by simp; omega)
  have x2 := mulI (P := P) (cf := fnEv P W 24) (i := 2) (j := (d : Int)) (by omega) (by omega) (by omega) (by omega)
  have c1 : cutR p none (some (2 * (d : Int) + 1)) = p.take (2 * d + 1) := by rw [cutR_to (by omega)]; congr 1
  have s1 := @slcP p none (some (2 * (d : Int) + 1))
  rw [c1] at s1
  have y1 := mulPI (cf := fnEv P W 24) (p := [((1 : Int) : Rat)]) (j := 2 * (d : Int) + 2) (by simp) (by omega) (by omega)
  rw [show (2 * (d : Int) + 2).toNat = 2 * d + 2 by omega, rep1] at y1
  have y2 : binD P (fnEv P W 24) .mul (.tup [.int 1]) (.int 9) = .ok (.sh (.tup [.int 1, .int 1, .int 1, .int 1, .int 1, .int 1, .int 1, .int 1, .int 1])) := rfl
  have y3 := mulPI (cf := fnEv P W 24) (p := p) (j := 20) (by omega) (by omega) (by omega)
  have w2 : Sm10 (p ++ [PV.cf p (p.length - 1) + ((1 : Int) : Rat)]) := fun x hx => by
    rcases List.mem_append.mp hx with hx | hx
    · exact hp x hx
    · rw [List.mem_singleton.mp hx]; omega
  have l3 : (List.replicate (20 : Int).toNat p).flatten.length ≤ 1200 := by
    have : ∀ m : Nat, (List.replicate m p).flatten.length = m * p.length := fun m => by
      induction m with
      | zero => simp
      | succ m ih => rw [List.replicate_succ, List.flatten_cons, List.length_append, ih, Nat.succ_mul]; omega
    rw [this]
    show 20 * p.length ≤ 1200
    omega
  have w3 : Sm10 (List.replicate (20 : Int).toNat p).flatten := fun x hx => by
    obtain ⟨l, hl, hx⟩ := List.mem_flatten.mp hx
    rw [(List.mem_replicate.mp hl).2] at hx
    exact hp x hx
  have w4 : Sm10 (List.replicate (2 * d + 2) ((1 : Int) : Rat)) := fun x hx => by rw [(List.mem_replicate.mp hx).2]; exact b1
  have pp0 : Pair (.int d) (pD p) := pair_row hp (by omega)
  have pp1 : Pair (.int d) (pD r) := pair_row hr (by omega)
  have pp2 : Pair (.int ((d : Int) + 1)) (pD p) := pair_row (d := d + 1) hp (by omega)
  have pp3 : Pair (.int d) (.lst (p.map rD)) := pair_noT (by omega) rfl
  have pp4 : Pair (.int d) (pD p.reverse) := pair_row (fun x hx => hp x (List.mem_reverse.mp hx)) (by simp; omega)
  have pp5 : Pair (.int d) (pD (p ++ [PV.cf p (p.length - 1) + ((1 : Int) : Rat)])) := pair_row w2 (by simp; omega)
  have pp6 : Pair (.int d) (pD (p.take (2 * d + 1))) := pair_row (fun x hx => hp x (List.mem_of_mem_take hx)) (by simp; omega)
  have pp7 : Pair (.int d) (pD (List.replicate (2 * d + 2) ((1 : Int) : Rat))) := pair_row w4 (by simp; omega)
  have pp8 : Pair (.int d) (pD (List.replicate (20 : Int).toNat p).flatten) := pair_row w3 (by omega)
  generalize hP8 : (List.replicate (20 : Int).toNat p).flatten = P8 at *
  generalize hP7 : List.replicate (2 * d + 2) ((1 : Int) : Rat) = P7 at *
  generalize hP5 : p ++ [PV.cf p (p.length - 1) + ((1 : Int) : Rat)] = P5 at *
  generalize hz1 : ((1 : Int) : Rat) = z1 at *
  let T : List D := [.tup [.int d, pD p], .tup [.int d, pD r], .tup [.int ((d : Int) + 1), pD p], .tup [.int d, .lst (p.map rD)], .tup [.int d, pD p.reverse], .tup [.int d, pD P5], .tup [.int d, pD (p.take (2 * d + 1))]]
  let T2 : List D := [.tup [.int d, pD P7], .tup [.int (-1), pD p], .tup [.int 9, pD p], .tup [.non, pD p], .tup [.bl true, pD p], .tup [.int d, .non], .tup [.int d, .tup [.int 1, .int 1, .int 1, .int 1, .int 1, .int 1, .int 1, .int 1, .int 1]], .tup [.int d, pD P8]]
  refine .step (σ' := c0 :: .ow d3 :: .sh (.int d) :: .sh (pD p) :: .sh (pD r) :: c5 :: .ow T :: List.replicate 15 .un) (by
    show _ = R.ok (Fl.nx, c0 :: .ow d3 :: .sh (.int d) :: .sh (pD p) :: .sh (pD r) :: c5 :: .ow [.tup [.int d, pD p], .tup [.int d, pD r], .tup [.int ((d : Int) + 1), pD p], .tup [.int d, .lst (p.map rD)], .tup [.int d, pD p.reverse], .tup [.int d, pD P5], .tup [.int d, pD (p.take (2 * d + 1))]] :: List.replicate 15 .un)
    simp (disch := first | omega | (simp; done) | (simp; omega) | (simp [*]; done) | fail) [F_law_s6, i1, m1, a1, t1, a2, x2, s1, mulI, fdvI, modI, appF_ok, extF_ok, -appF_eq, -extF_eq, -ixOf_eq, -ev_lc, -ev_lcf]) ?_
  refine .step (σ' := c0 :: .ow d3 :: .sh (.int d) :: .sh (pD p) :: .sh (pD r) :: c5 :: .ow (T ++ T2) :: List.replicate 15 .un) (by
    have aT := addLL (P := P) (cf := fnEv P W 24) (i := T) (j := T2) (by simp [T, T2])
    have hT2 : T2 = [.tup [.int d, pD P7], .tup [.int (-1), pD p], .tup [.int 9, pD p], .tup [.non, pD p], .tup [.bl true, pD p], .tup [.int d, .non], .tup [.int d, .tup [.int 1, .int 1, .int 1, .int 1, .int 1, .int 1, .int 1, .int 1, .int 1]], .tup [.int d, pD P8]] := rfl
    generalize T = T at *
    rw [hT2] at aT ⊢
    generalize D.tup [.int 1, .int 1, .int 1, .int 1, .int 1, .int 1, .int 1, .int 1, .int 1] = ones at *
    generalize hR : T ++ _ = TT at *
    simp (disch := first | omega | (simp; done) | (simp; omega) | (simp [*]; done) | fail) [F_law_s7, m1, t1, x2, y1, y2, y3, aT, mulI, fdvI, modI, appF_ok, extF_ok, -appF_eq, -extF_eq, -ixOf_eq, -ev_lc, -ev_lcf]) ?_
  obtain ⟨c7, c8, c9, h7, h8, h9, e8⟩ := s8_ok (n := 24) (by omega) (c0 := c0) (c1 := .ow d3) (c2 := .sh (.int d)) (c3 := .sh (pD p)) (c4 := .sh (pD r)) (c5 := c5) (T := T ++ T2) (by
    intro z hz
    simp only [T, T2, List.cons_append, List.nil_append, List.mem_cons, List.not_mem_nil, or_false] at hz
    rcases hz with rfl | rfl | rfl | rfl | rfl | rfl | rfl | rfl | rfl | rfl | rfl | rfl | rfl | rfl | rfl
    · exact ⟨_, _, rfl, pp0⟩
    · exact ⟨_, _, rfl, pp1⟩
    · exact ⟨_, _, rfl, pp2⟩
    · exact ⟨_, _, rfl, pp3⟩
    · exact ⟨_, _, rfl, pp4⟩
    · exact ⟨_, _, rfl, pp5⟩
    · exact ⟨_, _, rfl, pp6⟩
    · exact ⟨_, _, rfl, pp7⟩
    · exact ⟨_, _, rfl, pair_deg (.inl rfl)⟩
    · exact ⟨_, _, rfl, pair_deg (.inr (.inl rfl))⟩
    · exact ⟨_, _, rfl, pair_deg (.inr (.inr (.inl rfl)))⟩
    · exact ⟨_, _, rfl, pair_deg (.inr (.inr (.inr rfl)))⟩
    · exact ⟨_, _, rfl, pair_noT (by omega) rfl⟩
    · exact ⟨_, _, rfl, pair_ints (by omega)⟩
    · exact ⟨_, _, rfl, pp8⟩)
  refine .step e8 ?_
  generalize T ++ T2 = TT at *
  clear pp0 pp1 pp2 pp3 pp4 pp5 pp6 pp7 pp8 e8 w2 w3 w4 y1 y2 y3 s1 c1 T T2 a1 a2 m1 t1 i1
  -- what knots tell
  have hN : (p.length : Int) - d - 1 = ((p.length - d - 1 : Nat) : Int) := by omega
  have j1 := ixK (p := p) (i := (d : Int)) d (by omega) (by omega) (by omega)
  have j2 := ixK (p := p) (i := (p.length : Int) - d - 1) (p.length - d - 1) (by omega) (by omega) (by omega)
  obtain ⟨lo, hlo⟩ : ∃ lo, lo = PV.cf p d := ⟨_, rfl⟩
  obtain ⟨hi, hhi⟩ : ∃ hi, hi = PV.cf p (p.length - d - 1) := ⟨_, rfl⟩
  rw [← hlo] at j1
  rw [← hhi] at j2
  have q1 : bt lo ≤ 10 := by rw [hlo]; exact hp.cf d
  have q2 : bt hi ≤ 10 := by rw [hhi]; exact hp.cf _
  refine .step (σ' := [c0, .ow d3, .sh (.int d), .sh (pD p), .sh (pD r), c5, .ow TT, c7, c8, c9, .un, .sh (.int ((p.length : Int) - d - 1)), .un, .un, .un, .un, .un, .un, .un, .un, .un, .un]) (by simp (disch := first | omega | (simp; done) | (simp; omega) | (simp [*]; done) | fail) [F_law_s9, mulI, fdvI, modI, appF_ok, extF_ok, -appF_eq, -extF_eq, -ixOf_eq, -ev_lc, -ev_lcf]) ?_
  refine .step (σ' := [c0, .ow d3, .sh (.int d), .sh (pD p), .sh (pD r), c5, .ow TT, c7, c8, c9, .un, .sh (.int ((p.length : Int) - d - 1)), .sh (rD lo), .sh (rD hi), .un, .un, .un, .un, .un, .un, .un, .un]) (by simp (disch := first | omega | (simp; done) | (simp; omega) | (simp [*]; done) | fail) [F_law_s10, j1, j2, mulI, fdvI, modI, appF_ok, extF_ok, -appF_eq, -extF_eq, -ixOf_eq, -ev_lc, -ev_lcf]) ?_
  refine .step (σ' := [c0, .ow d3, .sh (.int d), .sh (pD p), .sh (pD r), c5, .ow TT, c7, c8, c9, .un, .sh (.int ((p.length : Int) - d - 1)), .sh (rD lo), .sh (rD hi), .ow [], .un, .un, .un, .un, .un, .un, .un]) (by simp (disch := first | omega | (simp; done) | (simp; omega) | (simp [*]; done) | fail) [F_law_s11, mulI, fdvI, modI, appF_ok, extF_ok, -appF_eq, -extF_eq, -ixOf_eq, -ev_lc, -ev_lcf]) ?_
  obtain ⟨c15, h15, e12⟩ := s12_ok (n := 24) (by omega) hp K.asc (by omega) q1 q2 (c0 := c0) (c1 := .ow d3) (c2 := .sh (.int d)) (c4 := .sh (pD r)) (c5 := c5) (c6 := .ow TT) (c7 := c7) (c8 := c8) (c9 := c9) (c10 := .un) (c11 := .sh (.int ((p.length : Int) - d - 1))) (t := [.un, .un, .un, .un, .un, .un])
  refine .step e12 ?_
  have hbrk : brkN lo hi p p.length = brk d p := by rw [hlo, hhi]; rfl
  rw [hbrk]
  clear e12
  have e13 : ev P (fnEv P W 24) (.lcf (.rng (.cons (.var 2) (.cons (.var 11) .nil))) (.v 17) F_law_e2 F_law_e3) [c0, .ow d3, .sh (.int d), .sh (pD p), .sh (pD r), c5, .ow TT, c7, c8, c9, .un, .sh (.int ((p.length : Int) - d - 1)), .sh (rD lo), .sh (rD hi), .ow ((brk d p).map rD), c15, .un, .un, .un, .un, .un, .un] = .ok (.ow (iL (spn d p)), [c0, .ow d3, .sh (.int d), .sh (pD p), .sh (pD r), c5, .ow TT, c7, c8, c9, .un, .sh (.int ((p.length : Int) - d - 1)), .sh (rD lo), .sh (rD hi), .ow ((brk d p).map rD), c15, .un, .un, .un, .un, .un, .un]) := by
    have e := lcf_seq (P := P) (cf := fnEv P W 24) (xs := List.range (p.length - 2 * d - 1)) (fun (i : Nat) => .int ((d : Int) + i)) (fun (i : Nat) => .int ((d : Int) + i)) (fun i => decide (PV.cf p (d + i) < PV.cf p (d + i + 1))) (t := 17) (k := F_law_e2) (e := F_law_e3) (s := .rng (.cons (.var 2) (.cons (.var 11) .nil))) (σ := [c0, .ow d3, .sh (.int d), .sh (pD p), .sh (pD r), c5, .ow TT, c7, c8, c9, .un, .sh (.int ((p.length : Int) - d - 1)), .sh (rD lo), .sh (rD hi), .ow ((brk d p).map rD), c15, .un, .un, .un, .un, .un, .un]) (c := .un)
      (src_range2 (p.length - 2 * d - 1) (lo := d) (hi := (p.length : Int) - d - 1) (by simp) (by omega) (by omega) (by omega) (by omega) (by omega)) rfl rfl (by simp; omega) (fun i hi => by
        have hi := List.mem_range.mp hi
        have i1 := ixK (p := p) (i := (d : Int) + i) (d + i) (by omega) (by omega) (by omega)
        have i2 := ixK (p := p) (i := (d : Int) + i + 1) (d + i + 1) (by omega) (by omega) (by omega)
        have := hp.cf (d + i)
        have := hp.cf (d + i + 1)
        have l1 := ltR (n := 24) (x := PV.cf p (d + i)) (y := PV.cf p (d + i + 1)) (by omega) (by omega)
        refine ⟨?_, fun _ => by simp [F_law_e3]⟩
        generalize (d : Int) + i = w at *
        simp [F_law_e2, i1, i2, l1, -ixOf_eq])
    rw [e]
    unfold iL spn
    rw [List.filter_map, List.map_map]
    rfl
  refine .step (σ' := [c0, .ow d3, .sh (.int d), .sh (pD p), .sh (pD r), c5, .ow TT, c7, c8, c9, .un, .sh (.int ((p.length : Int) - d - 1)), .sh (rD lo), .sh (rD hi), .ow ((brk d p).map rD), c15, .ow (iL (spn d p)), .un, .un, .un, .un, .un]) (by simp (disch := first | omega | (simp; done) | (simp; omega) | (simp [*]; done) | fail) [F_law_s13, e13, mulI, fdvI, modI, appF_ok, extF_ok, -appF_eq, -extF_eq, -ixOf_eq, -ev_lc, -ev_lcf]) ?_
  clear e13
  -- s14
  have k1 := sizeR (n := 24) (by omega) hp K
  have k2 := grndR (n := 24) (by omega) hp K
  have k3 := brksR (n := 24) (by omega) hp K
  have k4 := spsR (n := 24) (by omega) hp K
  rw [← hlo, ← hhi] at k2
  have k5 := sameI (n := 24) (by omega) ((p.length : Int) - d - 1) ((p.length : Int) - d - 1)
  have k6 := sameT (n := 24) (by omega) (l := spn d p) (by have := spn_len (d := d) (p := p); omega)
  have k6 : fnEv P W 24 i_law_same .no [.tup (iL (spn d p)), .tup (iL (spn d p))] = .ok (.sh (.bl true), []) := k6
  have k7 := nePP (n := 24) (by omega) (x := [lo, hi]) (y := [lo, hi])
  have k8 := nePP (n := 24) (by omega) (x := brk d p) (y := brk d p)
  have t2 := @t2_pD
  have hB2 : D.tup ((brk d p).map rD) = pD (brk d p) := rfl
  refine .step (σ' := [c0, .ow d3, .sh (.int d), .sh (pD p), .sh (pD r), c5, .ow TT, c7, c8, c9, .un, .sh (.int ((p.length : Int) - d - 1)), .sh (rD lo), .sh (rD hi), .ow ((brk d p).map rD), c15, .ow (iL (spn d p)), .un, .un, .un, .un, .un]) (by
    generalize (brk d p).map rD = BL at *
    generalize iL (spn d p) = SL at *
    generalize (p.length : Int) - d - 1 = N at *
    simp (disch := first | omega | (simp; done) | (simp; omega) | (simp [*]; done) | fail) [F_law_s14, k1, k2, k3, k4, k5, k6, k7, k8, t2, hB2, mulI, fdvI, modI, appF_ok, extF_ok, -appF_eq, -extF_eq, -ixOf_eq, -ev_lc, -ev_lcf]) ?_
  clear k1 k2 k3 k4 k5 k6 k7 k8
  -- s15
  have hE := K.brk_eq
  have hlen : (brk d p).length = (spn d p).length + 1 := by rw [hE]; simp
  have hdl : (brk d p).dropLast = (spn d p).map (PV.cf p) := by rw [hE, List.dropLast_concat]
  have hns := K.spn_pos
  have lsp := spn_len (d := d) (p := p)
  have e15 : ev P (fnEv P W 24) (.lc (.seq (.var 16)) (.v 17) F_law_e4) [c0, .ow d3, .sh (.int d), .sh (pD p), .sh (pD r), c5, .ow TT, c7, c8, c9, .un, .sh (.int ((p.length : Int) - d - 1)), .sh (rD lo), .sh (rD hi), .ow ((brk d p).map rD), c15, .ow (iL (spn d p)), .un, .un, .un, .un, .un] = .ok (.ow (((spn d p).map (PV.cf p)).map rD), [c0, .ow d3, .sh (.int d), .sh (pD p), .sh (pD r), c5, .ow TT, c7, c8, c9, .un, .sh (.int ((p.length : Int) - d - 1)), .sh (rD lo), .sh (rD hi), .ow ((brk d p).map rD), c15, .ow (iL (spn d p)), .un, .un, .un, .un, .un]) := by
    rw [List.map_map]
    refine lc_lk (xs := spn d p) (fun (i : Nat) => .int (i : Int)) (rD ∘ PV.cf p) (q := 16) (src_own rfl) rfl rfl rfl (by decide) (by omega) (fun i hi => ?_)
    obtain ⟨g1, g2, _⟩ := spn_mem hi
    have i1 := ixK (p := p) (i := (i : Int)) i (by omega) (by omega) (by omega)
    generalize (i : Int) = i' at *
    simp [F_law_e4, i1, -ixOf_eq]
  have k1 := neLL (n := 24) (by omega) (x := (spn d p).map (PV.cf p)) (y := (spn d p).map (PV.cf p))
  have k2 := @slcL (brk d p) none (some (-1))
  rw [cutR_last, hdl] at k2
  have l1 : ((brk d p).map rD).length = (spn d p).length + 1 := by rw [List.length_map, hlen]
  have l2 : (iL (spn d p)).length = (spn d p).length := iL_len
  refine .step (σ' := [c0, .ow d3, .sh (.int d), .sh (pD p), .sh (pD r), c5, .ow TT, c7, c8, c9, .un, .sh (.int ((p.length : Int) - d - 1)), .sh (rD lo), .sh (rD hi), .ow ((brk d p).map rD), c15, .ow (iL (spn d p)), .un, .un, .un, .un, .un]) (by
    generalize (brk d p).map rD = BL at *
    generalize ((spn d p).map (PV.cf p)).map rD = CL at *
    generalize iL (spn d p) = SL at *
    generalize (p.length : Int) - d - 1 = N at *
    have z : ((spn d p).length : Int) + 1 - 1 = (spn d p).length := by omega
    simp (disch := first | omega | (simp; done) | (simp; omega) | (simp [*]; done) | fail) [F_law_s15, e15, k1, k2, l1, l2, z, mulI, fdvI, modI, appF_ok, extF_ok, -appF_eq, -extF_eq, -ixOf_eq, -ev_lc, -ev_lcf]) ?_
  clear e15 k1 k2
  -- s16
  obtain ⟨x, d4, e16, x1, x2', hxB, g4⟩ := numberR (n := 24) (by omega) g3 K hB
  rw [← hlo] at x1
  rw [← hhi] at x2'
  have hxb : bt x ≤ 10 := hxB.sz (by decide) (by decide)
  refine .step (σ' := [c0, .ow d4, .sh (.int d), .sh (pD p), .sh (pD r), c5, .ow TT, c7, c8, c9, .un, .sh (.int ((p.length : Int) - d - 1)), .sh (rD lo), .sh (rD hi), .ow ((brk d p).map rD), .sh (rD x), .ow (iL (spn d p)), .un, .un, .un, .un, .un]) (by
    generalize (brk d p).map rD = BL at *
    simp (disch := first | omega | (simp; done) | (simp; omega) | (simp [*]; done) | fail) [F_law_s16, e16, h15, mulI, fdvI, modI, appF_ok, extF_ok, -appF_eq, -extF_eq, -ixOf_eq, -ev_lc, -ev_lcf]) ?_
  -- s17
  have k1 := spatR (n := 24) (by omega) hp K (x := x) (by omega) hns (by rw [← hlo]; exact x1) (by rw [← hhi]; exact x2')
  have k2 := pieceR (n := 24) (by omega) (d := d) hp (x := x) (by omega) (by omega) (by omega) hns
  have lh : lo ≤ hi := by rw [hlo, hhi]; exact Rat.le_of_lt K.gnd
  have k3 := spatR (n := 24) (by omega) hp K (x := hi) (by omega) hns (by rw [← hlo]; exact lh) (by rw [← hhi]; exact Rat.le_refl)
  have k4 := spatR (n := 24) (by omega) hp K (x := lo) (by omega) hns (by rw [← hlo]; exact Rat.le_refl) (by rw [← hhi]; exact lh)
  have k5 : pc d p hi = (spn d p).getD ((spn d p).length - 1) 0 := by rw [hhi]; exact K.pc_end
  have k6 : pc d p lo = (spn d p).getD 0 0 := by rw [hlo]; exact K.pc_start
  rw [k5] at k3
  rw [k6] at k4
  have k7 := sameI (n := 24) (by omega) (pc d p x : Nat) (pc d p x : Nat)
  have j3 := ixILn (l := spn d p) hns
  have j4 := ixIL (l := spn d p) (i := 0) 0 rfl hns
  refine .step (σ' := [c0, .ow d4, .sh (.int d), .sh (pD p), .sh (pD r), c5, .ow TT, c7, c8, c9, .un, .sh (.int ((p.length : Int) - d - 1)), .sh (rD lo), .sh (rD hi), .ow ((brk d p).map rD), .sh (rD x), .ow (iL (spn d p)), .un, .un, .un, .un, .un]) (by
    generalize (brk d p).map rD = BL at *
    generalize iL (spn d p) = SL at *
    generalize (p.length : Int) - d - 1 = N at *
    generalize ((pc d p x : Nat) : Int) = PX at *
    generalize (((spn d p).getD ((spn d p).length - 1) 0 : Nat) : Int) = PH at *
    generalize (((spn d p).getD 0 0 : Nat) : Int) = PL at *
    simp (disch := first | omega | (simp; done) | (simp; omega) | (simp [*]; done) | fail) [F_law_s17, k1, k2, k3, k4, k7, j3, j4, -ixOf_eq, mulI, -ev_lc, -ev_lcf]) ?_
  clear k1 k2 k3 k4 k5 k6 k7 j3 j4
  -- s18
  have y9 : bt (((1 : Int) : Rat) / ((9 : Int) : Rat)) ≤ 10 := bt_frac (by decide) (by decide)
  have y9p : 0 < ((1 : Int) : Rat) / ((9 : Int) : Rat) := by decide +kernel
  have m9 := fun σ => mk2R (n := 24) (a := 1) (b := 9) (σ := σ) (by omega) (by omega) (by omega) (by omega)
  generalize ((1 : Int) : Rat) / ((9 : Int) : Rat) = z9 at *
  have a9 := subR (n := 24) (x := lo) (y := z9) (by omega) (by omega)
  have b9 := addR (n := 24) (x := hi) (y := z9) (by omega) (by omega)
  have f1 := bt_sub lo z9
  have f2 := bt_add hi z9
  have o1 := resR3 (n := 24) (by omega) (f := F_span_at) (k := i_span_at) rfl rfl (spatO (n := 23) (by omega) hp K (x := lo - z9) (by omega) (.inl (by rw [← hlo]; grind)))
  have o2 := resR3 (n := 24) (by omega) (f := F_span_at) (k := i_span_at) rfl rfl (spatO (n := 23) (by omega) hp K (x := hi + z9) (by omega) (.inr (by rw [← hhi]; grind)))
  have n2 := neO2 (cf := fnEv P W 24)
  have u2 := mulR2 (cf := fnEv P W 24) (s := "outside")
  have rd : D.tup [.str "refused", .str "outside"] = refd "outside" := rfl
  refine .step (σ' := [c0, .ow d4, .sh (.int d), .sh (pD p), .sh (pD r), c5, .ow TT, c7, c8, c9, .un, .sh (.int ((p.length : Int) - d - 1)), .sh (rD lo), .sh (rD hi), .ow ((brk d p).map rD), .sh (rD x), .ow (iL (spn d p)), .un, .un, .un, .un, .un]) (by
    generalize (brk d p).map rD = BL at *
    generalize iL (spn d p) = SL at *
    generalize (p.length : Int) - d - 1 = N at *
    generalize lo - z9 = v1 at *
    generalize hi + z9 = v2 at *
    simp [F_law_s18, lcL_cons, lcE_eq, addL_ok, F_law_e5, m9, a9, b9, o1, o2, rd, u2, n2, -ixOf_eq]) ?_
  clear o1 o2 n2 u2 rd a9 b9 m9 f1 f2
  -- s19
  obtain ⟨v, d5, e19, v0, v1, g5⟩ := takeI (n := 24) (by omega) g4 (p.length : Int) (by omega) (by omega)
  have i19 := ixK (p := p) (i := v) v.toNat rfl (by omega) (by omega)
  generalize PV.cf p v.toNat = own at *
  refine .step (σ' := [c0, .ow d5, .sh (.int d), .sh (pD p), .sh (pD r), c5, .ow TT, c7, c8, c9, .un, .sh (.int ((p.length : Int) - d - 1)), .sh (rD lo), .sh (rD hi), .ow ((brk d p).map rD), .sh (rD x), .ow (iL (spn d p)), .un, .un, .sh (rD own), .un, .un]) (by
    generalize (brk d p).map rD = BL at *
    generalize iL (spn d p) = SL at *
    simp (disch := first | omega | (simp; done) | (simp; omega) | (simp [*]; done) | fail) [F_law_s19, e19, i19, mulI, fdvI, modI, appF_ok, extF_ok, -appF_eq, -extF_eq, -ixOf_eq, -ev_lc, -ev_lcf]) ?_
  -- s20
  have e20 := lcf_seq (P := P) (cf := fnEv P W 24) (xs := p) rD rD (fun y => decide (y = own)) (t := 18) (k := F_law_e6) (e := F_law_e7) (s := .seq (.var 3)) (σ := [c0, .ow d5, .sh (.int d), .sh (pD p), .sh (pD r), c5, .ow TT, c7, c8, c9, .un, .sh (.int ((p.length : Int) - d - 1)), .sh (rD lo), .sh (rD hi), .ow ((brk d p).map rD), .sh (rD x), .ow (iL (spn d p)), .un, .un, .sh (rD own), .un, .un]) (c := .un)
    (src_at (A := pD p) (by simp) rfl) rfl rfl (by omega) (fun y hy => by
      have l1 := eqRR (n := 24) (by omega) (x := y) (y := own)
      exact ⟨by simp [F_law_e6, l1], fun _ => by simp [F_law_e7]⟩)
  have el : ((p.filter fun y => decide (y = own)).map rD).length = p.count own := by
    rw [List.length_map, List.count_eq_length_filter]
    rfl
  refine .step (σ' := [c0, .ow d5, .sh (.int d), .sh (pD p), .sh (pD r), c5, .ow TT, c7, c8, c9, .un, .sh (.int ((p.length : Int) - d - 1)), .sh (rD lo), .sh (rD hi), .ow ((brk d p).map rD), .sh (rD x), .ow (iL (spn d p)), .un, .un, .sh (rD own), .sh (.int (p.count own : Nat)), .un]) (by
    generalize (p.filter fun y => decide (y = own)).map rD = L at *
    generalize (brk d p).map rD = BL at *
    generalize iL (spn d p) = SL at *
    generalize (p.length : Int) - d - 1 = N at *
    simp (disch := first | omega | (simp; done) | (simp; omega) | (simp [*]; done) | fail) [F_law_s20, e20, el, mulI, fdvI, modI, appF_ok, extF_ok, -appF_eq, -extF_eq, -ixOf_eq, -ev_lc, -ev_lcf]) ?_
  clear e20 el
  -- s21
  have y7 : bt (((1 : Int) : Rat) / ((7 : Int) : Rat)) ≤ 10 := bt_frac (by decide) (by decide)
  have m7 := fun σ => mk2R (n := 24) (a := 1) (b := 7) (σ := σ) (by omega) (by omega) (by omega) (by omega)
  have no7 : p.count (lo - ((1 : Int) : Rat) / ((7 : Int) : Rat)) = 0 := List.count_eq_zero.mpr fun hm => by
    obtain ⟨a, ea, _⟩ := hB _ hm
    obtain ⟨b, eb, _⟩ := hB _ (cf_mem (p := p) (i := d) (by omega))
    rw [← hlo] at eb
    have e7 : ((1 : Int) : Rat) / ((7 : Int) : Rat) * 7 = 1 := by decide +kernel
    generalize ((1 : Int) : Rat) / ((7 : Int) : Rat) = w at *
    have t2 : (((2 : Nat) : Rat)) = 2 := rfl
    rw [t2] at ea eb
    have : (7 * a : Rat) = 7 * b - 2 := by
      rw [← ea, ← eb]
      grind
    have : ((7 * a : Int) : Rat) = ((7 * b - 2 : Int) : Rat) := by
      rw [Rat.intCast_mul, Rat.intCast_sub, Rat.intCast_mul]
      exact this
    have := Rat.intCast_inj.mp this
    omega
  generalize ((1 : Int) : Rat) / ((7 : Int) : Rat) = z7 at *
  have a7 := subR (n := 24) (x := lo) (y := z7) (by omega) (by omega)
  have k1 := multR (n := 24) (by omega) (p := p) (by omega) own
  have k2 := smoR (n := 24) (by omega) hp K own
  have k3 := smoR (n := 24) (by omega) hp K (lo - z7)
  rw [no7] at k3
  have k4 := sameI (n := 24) (by omega) (p.count own : Nat) (p.count own : Nat)
  have k5 := sameI (n := 24) (by omega) ((d : Int) - (p.count own : Nat)) ((d : Int) - (p.count own : Nat))
  have k6 : (d : Int) - ((0 : Nat) : Int) = d := by omega
  rw [k6] at k3
  refine .step (σ' := [c0, .ow d5, .sh (.int d), .sh (pD p), .sh (pD r), c5, .ow TT, c7, c8, c9, .un, .sh (.int ((p.length : Int) - d - 1)), .sh (rD lo), .sh (rD hi), .ow ((brk d p).map rD), .sh (rD x), .ow (iL (spn d p)), .un, .un, .sh (rD own), .sh (.int (p.count own : Nat)), .un]) (by
    generalize (brk d p).map rD = BL at *
    generalize iL (spn d p) = SL at *
    generalize (p.length : Int) - d - 1 = N at *
    generalize ((p.count own : Nat) : Int) = M at *
    simp (disch := first | omega | (simp; done) | (simp; omega) | (simp [*]; done) | fail) [F_law_s21, m7, a7, k1, k2, k3, k4, k5, mulI, fdvI, modI, appF_ok, extF_ok, -appF_eq, -extF_eq, -ixOf_eq, -ev_lc, -ev_lcf]) ?_
  clear k1 k2 k3 k4 k5 m7 a7
  -- s22
  have k1 := dimR (n := 24) (by omega) hp K
  rw [← hlo, ← hhi] at k1
  have e22 := lcf_seq (P := P) (cf := fnEv P W 24) (xs := p) rD rD (fun x => decide (lo < x ∧ x < hi)) (t := 18) (k := F_law_e8) (e := F_law_e9) (s := .seq (.var 3)) (σ := [c0, .ow d5, .sh (.int d), .sh (pD p), .sh (pD r), c5, .ow TT, c7, c8, c9, .un, .sh (.int ((p.length : Int) - d - 1)), .sh (rD lo), .sh (rD hi), .ow ((brk d p).map rD), .sh (rD x), .ow (iL (spn d p)), .un, .un, .sh (rD own), .sh (.int (p.count own : Nat)), .un]) (c := .un)
    (src_at (A := pD p) (by simp) rfl) rfl rfl (by omega) (fun y hy => by
      have b3 := hp y hy
      have a1 := ltR (n := 24) (x := lo) (y := y) (by omega) (by omega)
      have a2 := ltR (n := 24) (x := y) (y := hi) (by omega) (by omega)
      refine ⟨?_, fun _ => by simp [F_law_e9]⟩
      by_cases c : lo < y <;> simp [F_law_e8, a1, a2, c])
  have el : ((p.filter fun x => decide (lo < x ∧ x < hi)).map rD).length = (p.filter fun x => decide (lo < x ∧ x < hi)).length := List.length_map ..
  have k2 := sameI (n := 24) (by omega) ((d : Int) + 1 + ((p.filter fun x => decide (lo < x ∧ x < hi)).length : Nat)) ((d : Int) + 1 + ((p.filter fun x => decide (lo < x ∧ x < hi)).length : Nat))
  refine .step (σ' := [c0, .ow d5, .sh (.int d), .sh (pD p), .sh (pD r), c5, .ow TT, c7, c8, c9, .un, .sh (.int ((p.length : Int) - d - 1)), .sh (rD lo), .sh (rD hi), .ow ((brk d p).map rD), .sh (rD x), .ow (iL (spn d p)), .un, .un, .sh (rD own), .sh (.int (p.count own : Nat)), .un]) (by
    generalize (p.filter fun x => decide (lo < x ∧ x < hi)).map rD = L at *
    generalize (p.filter fun x => decide (lo < x ∧ x < hi)).length = M at *
    generalize (brk d p).map rD = BL at *
    generalize iL (spn d p) = SL at *
    generalize (p.length : Int) - d - 1 = N at *
    simp (disch := first | omega | (simp; done) | (simp; omega) | (simp [*]; done) | fail) [F_law_s22, e22, el, k1, k2, mulI, fdvI, modI, appF_ok, extF_ok, -appF_eq, -extF_eq, -ixOf_eq, -ev_lc, -ev_lcf]) ?_
  clear e22 el k1 k2
  -- s23
  have r1 := resM3 (n := 24) (by omega) (f := F_span_at) (k := i_span_at) rfl rfl (spatZ (n := 23) (by omega) hp K (z := .int 1) rfl)
  have r2 := resM3 (n := 24) (by omega) (f := F_span_at) (k := i_span_at) rfl rfl (spatZ (n := 23) (by omega) hp K (z := .non) rfl)
  have r3 := resM3 (n := 24) (by omega) (f := F_smoothness) (k := i_smoothness) rfl rfl (smoZ (n := 23) (by omega) hp K (z := .int 1) rfl)
  have n3 := eqM3 (cf := fnEv P W 24)
  have u3 := mulM3 (cf := fnEv P W 24)
  refine .cons ?_
  generalize (brk d p).map rD = BL at *
  generalize iL (spn d p) = SL at *
  generalize (p.length : Int) - d - 1 = N at *
  simp [F_law_s23, lcL_cons, lcE_eq, addL_ok, F_law_e10, mal_ix, r1, r2, r3, u3, n3, -ixOf_eq]
end K21
set_option Elab.async false
set_option linter.all false
set_option maxRecDepth 100000
set_option maxHeartbeats 0
namespace K21
open PySem PySem.Spec PyProof.Rows L2 PV
def top (i : Nat) : Stmt := PySem.Challenge.pw_splineroads_k21_whole_knots.main.body.getD i (.Pass ⟨0, 0, 0, 0⟩)
def d0 : He.DefD := ⟨("_wall", none), "_wall", "_wall", defArgs (top 0), defBody (top 0), defScope (top 0), [], []⟩
def d1 : He.DefD := ⟨("is_integer", none), "is_integer", "is_integer", defArgs (top 6), defBody (top 6), defScope (top 6), [], []⟩
def d2 : He.DefD := ⟨("is_count", none), "is_count", "is_count", defArgs (top 7), defBody (top 7), defScope (top 7), [], []⟩
def d3 : He.DefD := ⟨("common", none), "common", "common", defArgs (top 8), defBody (top 8), defScope (top 8), [], []⟩
def d4 : He.DefD := ⟨("Ratio", some "__init__"), "__init__", "Ratio.__init__", defArgs (inClass (top 10) 0), defBody (inClass (top 10) 0), defScope (inClass (top 10) 0), [.int 1], []⟩
def d5 : He.DefD := ⟨("Ratio", some "__add__"), "__add__", "Ratio.__add__", defArgs (inClass (top 10) 1), defBody (inClass (top 10) 1), defScope (inClass (top 10) 1), [], []⟩
def d6 : He.DefD := ⟨("Ratio", some "__sub__"), "__sub__", "Ratio.__sub__", defArgs (inClass (top 10) 2), defBody (inClass (top 10) 2), defScope (inClass (top 10) 2), [], []⟩
def d7 : He.DefD := ⟨("Ratio", some "__mul__"), "__mul__", "Ratio.__mul__", defArgs (inClass (top 10) 3), defBody (inClass (top 10) 3), defScope (inClass (top 10) 3), [], []⟩
def d8 : He.DefD := ⟨("Ratio", some "__neg__"), "__neg__", "Ratio.__neg__", defArgs (inClass (top 10) 4), defBody (inClass (top 10) 4), defScope (inClass (top 10) 4), [], []⟩
def d9 : He.DefD := ⟨("Ratio", some "__eq__"), "__eq__", "Ratio.__eq__", defArgs (inClass (top 10) 5), defBody (inClass (top 10) 5), defScope (inClass (top 10) 5), [], []⟩
def d10 : He.DefD := ⟨("Ratio", some "__lt__"), "__lt__", "Ratio.__lt__", defArgs (inClass (top 10) 6), defBody (inClass (top 10) 6), defScope (inClass (top 10) 6), [], []⟩
def d11 : He.DefD := ⟨("Ratio", some "__le__"), "__le__", "Ratio.__le__", defArgs (inClass (top 10) 7), defBody (inClass (top 10) 7), defScope (inClass (top 10) 7), [], []⟩
def d12 : He.DefD := ⟨("Ratio", some "over"), "over", "Ratio.over", defArgs (inClass (top 10) 9), defBody (inClass (top 10) 9), defScope (inClass (top 10) 9), [], []⟩
def d13 : He.DefD := ⟨("Ratio", some "times"), "times", "Ratio.times", defArgs (inClass (top 10) 10), defBody (inClass (top 10) 10), defScope (inClass (top 10) 10), [], []⟩
def d14 : He.DefD := ⟨("Ratio", some "sign"), "sign", "Ratio.sign", defArgs (inClass (top 10) 11), defBody (inClass (top 10) 11), defScope (inClass (top 10) 11), [], []⟩
def d15 : He.DefD := ⟨("Ratio", some "is_zero"), "is_zero", "Ratio.is_zero", defArgs (inClass (top 10) 12), defBody (inClass (top 10) 12), defScope (inClass (top 10) 12), [], []⟩
def d16 : He.DefD := ⟨("Ratio", some "is_whole"), "is_whole", "Ratio.is_whole", defArgs (inClass (top 10) 13), defBody (inClass (top 10) 13), defScope (inClass (top 10) 13), [], []⟩
def d17 : He.DefD := ⟨("Ratio", some "floor"), "floor", "Ratio.floor", defArgs (inClass (top 10) 14), defBody (inClass (top 10) 14), defScope (inClass (top 10) 14), [], []⟩
def d18 : He.DefD := ⟨("Ratio", some "size"), "size", "Ratio.size", defArgs (inClass (top 10) 15), defBody (inClass (top 10) 15), defScope (inClass (top 10) 15), [], []⟩
def d19 : He.DefD := ⟨("check_ratio", none), "check_ratio", "check_ratio", defArgs (top 11), defBody (top 11), defScope (top 11), [], []⟩
def d20 : He.DefD := ⟨("is_ratio_row", none), "is_ratio_row", "is_ratio_row", defArgs (top 12), defBody (top 12), defScope (top 12), [], []⟩
def d21 : He.DefD := ⟨("is_ascending", none), "is_ascending", "is_ascending", defArgs (top 13), defBody (top 13), defScope (top 13), [], []⟩
def d22 : He.DefD := ⟨("is_knots", none), "is_knots", "is_knots", defArgs (top 17), defBody (top 17), defScope (top 17), [], []⟩
def d23 : He.DefD := ⟨("check_knots", none), "check_knots", "check_knots", defArgs (top 18), defBody (top 18), defScope (top 18), [], []⟩
def d24 : He.DefD := ⟨("space_size", none), "space_size", "space_size", defArgs (top 19), defBody (top 19), defScope (top 19), [], []⟩
def d25 : He.DefD := ⟨("ground", none), "ground", "ground", defArgs (top 20), defBody (top 20), defScope (top 20), [], []⟩
def d26 : He.DefD := ⟨("ground_of", none), "ground_of", "ground_of", defArgs (top 21), defBody (top 21), defScope (top 21), [], []⟩
def d27 : He.DefD := ⟨("breaks", none), "breaks", "breaks", defArgs (top 22), defBody (top 22), defScope (top 22), [], []⟩
def d28 : He.DefD := ⟨("breaks_of", none), "breaks_of", "breaks_of", defArgs (top 23), defBody (top 23), defScope (top 23), [], []⟩
def d29 : He.DefD := ⟨("multiplicity", none), "multiplicity", "multiplicity", defArgs (top 24), defBody (top 24), defScope (top 24), [], []⟩
def d30 : He.DefD := ⟨("spans", none), "spans", "spans", defArgs (top 25), defBody (top 25), defScope (top 25), [], []⟩
def d31 : He.DefD := ⟨("spans_of", none), "spans_of", "spans_of", defArgs (top 26), defBody (top 26), defScope (top 26), [], []⟩
def d32 : He.DefD := ⟨("span_at", none), "span_at", "span_at", defArgs (top 27), defBody (top 27), defScope (top 27), [], []⟩
def d33 : He.DefD := ⟨("span_of", none), "span_of", "span_of", defArgs (top 28), defBody (top 28), defScope (top 28), [], []⟩
def d34 : He.DefD := ⟨("smoothness", none), "smoothness", "smoothness", defArgs (top 29), defBody (top 29), defScope (top 29), [], []⟩
def d35 : He.DefD := ⟨("space_dimension", none), "space_dimension", "space_dimension", defArgs (top 30), defBody (top 30), defScope (top 30), [], []⟩
def d36 : He.DefD := ⟨("_law_state", none), "_law_state", "_law_state", defArgs (top 32), defBody (top 32), defScope (top 32), [], []⟩
def d37 : He.DefD := ⟨("_law_take", none), "_law_take", "_law_take", defArgs (top 33), defBody (top 33), defScope (top 33), [], []⟩
def d38 : He.DefD := ⟨("_law_says", none), "_law_says", "_law_says", defArgs (top 34), defBody (top 34), defScope (top 34), [], []⟩
def d39 : He.DefD := ⟨("_law_is_whole", none), "_law_is_whole", "_law_is_whole", defArgs (top 35), defBody (top 35), defScope (top 35), [], []⟩
def d40 : He.DefD := ⟨("_law_same", none), "_law_same", "_law_same", defArgs (top 36), defBody (top 36), defScope (top 36), [], []⟩
def d41 : He.DefD := ⟨("_law_result", none), "_law_result", "_law_result", defArgs (top 37), defBody (top 37), defScope (top 37), [], []⟩
def d42 : He.DefD := ⟨("_law_knots_of", none), "_law_knots_of", "_law_knots_of", defArgs (top 38), defBody (top 38), defScope (top 38), [], []⟩
def d43 : He.DefD := ⟨("_law_piece_places", none), "_law_piece_places", "_law_piece_places", defArgs (top 39), defBody (top 39), defScope (top 39), [], []⟩
def d44 : He.DefD := ⟨("_law_piece_of", none), "_law_piece_of", "_law_piece_of", defArgs (top 40), defBody (top 40), defScope (top 40), [], []⟩
def d45 : He.DefD := ⟨("_law_ground_number", none), "_law_ground_number", "_law_ground_number", defArgs (top 41), defBody (top 41), defScope (top 41), [], []⟩
def d46 : He.DefD := ⟨("_law_are_knots", none), "_law_are_knots", "_law_are_knots", defArgs (top 42), defBody (top 42), defScope (top 42), [], []⟩
def d47 : He.DefD := ⟨("law", none), "law", "law", defArgs (top 43), defBody (top 43), defScope (top 43), [], []⟩
def di1 : He.DefD := ⟨("Refused", some "__init__"), "__init__", "Refused.__init__", defArgs (inClass (top 4) 0), defBody (inClass (top 4) 0), defScope (inClass (top 4) 0), [], []⟩
theorem sci1 : FnScope ["self", "reason"] ["self", "reason"] di1.scope := ⟨rfl, rfl, rfl, by decide +kernel, rfl, by decide +kernel, by decide +kernel⟩
theorem ri1 : IniRow ⟨"Refused", some "reason"⟩ "reason" baseN di1 ["self", "reason"] := ⟨rfl, rfl, rfl, fun _ _ _ _ _ _ us hl => match us, hl with | [_, _], _ => rfl, fun prog w K mg base CX fI b fd F hg T =>
  FunD.ok (k := 0) F sci1 (fun vs H Q E ⟨a, C, y, e, _⟩ => by rw [e]; rfl) fun cdv A outer s H vs Q E hr ⟨a, C, y, e, TC, no, ea, q⟩ => by
    subst e
    refine ⟨_, pss_cons (ps_expr (pe_binit (x := baseN) rfl hg rfl T (pa_cons (pe_var (i := 0) rfl (.inl rfl)) (pa_cons (pe_var (i := 1) rfl (.inl rfl)) pa_nil)) rfl rfl rfl)) (pss_one (ps_ost (pe_var (i := 0) rfl (.inl rfl)) (pe_var (i := 1) rfl (.inl rfl)))), ?_⟩
    exact ⟨_, rfl, _, rfl, a, C, _, rfl, by simp, TC, ea, _, rfl, _, rfl, a, C, rfl, TC, no, .inl ⟨ea, q⟩⟩⟩
def fn : List He.DefD := [d0, d1, d2, d3, d4, d5, d6, d7, d8, d9, d10, d11, d12, d13, d14, d15, d16, d17, d18, d19, d20, d21, d22, d23, d24, d25, d26, d27, d28, d29, d30, d31, d32, d33, d34, d35, d36, d37, d38, d39, d40, d41, d42, d43, d44, d45, d46, d47, di1]
theorem r0 : Row P frs F_wall d0 := ⟨fun _ => rfl, rfl, rfl, by decide +kernel, by decide +kernel, fun _ _ _ _ _ _ _ us hl => match us, hl with | [_], _ => rfl, fun h => absurd rfl h⟩
theorem r1 : Row P frs F_is_integer d1 := ⟨fun _ => rfl, rfl, rfl, by decide +kernel, by decide +kernel, fun _ _ _ _ _ _ _ us hl => match us, hl with | [_], _ => rfl, fun h => absurd rfl h⟩
theorem r2 : Row P frs F_is_count d2 := ⟨fun _ => rfl, rfl, rfl, by decide +kernel, by decide +kernel, fun _ _ _ _ _ _ _ us hl => match us, hl with | [_, _, _], _ => rfl, fun h => absurd rfl h⟩
theorem r3 : Row P frs F_common d3 := ⟨fun _ => rfl, rfl, rfl, by decide +kernel, by decide +kernel, fun _ _ _ _ _ _ _ us hl => match us, hl with | [_, _], _ => rfl, fun h => absurd rfl h⟩
theorem r4 : Row P frs F_Ratio_init d4 := ⟨(fun h => by cases h), rfl, rfl, by decide +kernel, by decide +kernel, fun h => absurd h (by simp [F_Ratio_init]), fun _ K fd g F => ⟨by
  obtain ⟨ds, v, b⟩ := FunD.binds1 (ps := F_Ratio_init.ps) F 3 1 nofun rfl (fun T kV doc pm an cdv ct us its h1 h2 => match us, its, h1, h2 with | [_, _, _], [_], _, _ => ⟨_, rfl, rfl⟩)
  cases v
  exact b, FunD.binds1 (ps := F_Ratio_init.ps) F 2 0 nofun rfl (fun T kV doc pm an cdv ct us its h1 h2 => match us, its, h1, h2 with | [_, _], [_], _, _ => ⟨_, rfl, rfl⟩)⟩⟩
theorem r5 : Row P frs F_Ratio_add d5 := ⟨(fun h => by cases h), rfl, rfl, by decide +kernel, by decide +kernel, fun _ _ _ _ _ _ _ us hl => match us, hl with | [_, _], _ => rfl, fun h => absurd rfl h⟩
theorem r6 : Row P frs F_Ratio_sub d6 := ⟨(fun h => by cases h), rfl, rfl, by decide +kernel, by decide +kernel, fun _ _ _ _ _ _ _ us hl => match us, hl with | [_, _], _ => rfl, fun h => absurd rfl h⟩
theorem r7 : Row P frs F_Ratio_mul d7 := ⟨(fun h => by cases h), rfl, rfl, by decide +kernel, by decide +kernel, fun _ _ _ _ _ _ _ us hl => match us, hl with | [_, _], _ => rfl, fun h => absurd rfl h⟩
theorem r8 : Row P frs F_Ratio_neg d8 := ⟨(fun h => by cases h), rfl, rfl, by decide +kernel, by decide +kernel, fun _ _ _ _ _ _ _ us hl => match us, hl with | [_], _ => rfl, fun h => absurd rfl h⟩
theorem r9 : Row P frs F_Ratio_eq d9 := ⟨(fun h => by cases h), rfl, rfl, by decide +kernel, by decide +kernel, fun _ _ _ _ _ _ _ us hl => match us, hl with | [_, _], _ => rfl, fun h => absurd rfl h⟩
theorem r10 : Row P frs F_Ratio_lt d10 := ⟨(fun h => by cases h), rfl, rfl, by decide +kernel, by decide +kernel, fun _ _ _ _ _ _ _ us hl => match us, hl with | [_, _], _ => rfl, fun h => absurd rfl h⟩
theorem r11 : Row P frs F_Ratio_le d11 := ⟨(fun h => by cases h), rfl, rfl, by decide +kernel, by decide +kernel, fun _ _ _ _ _ _ _ us hl => match us, hl with | [_, _], _ => rfl, fun h => absurd rfl h⟩
theorem r12 : Row P frs F_Ratio_over d12 := ⟨(fun h => by cases h), rfl, rfl, by decide +kernel, by decide +kernel, fun _ _ _ _ _ _ _ us hl => match us, hl with | [_, _], _ => rfl, fun h => absurd rfl h⟩
theorem r13 : Row P frs F_Ratio_times d13 := ⟨(fun h => by cases h), rfl, rfl, by decide +kernel, by decide +kernel, fun _ _ _ _ _ _ _ us hl => match us, hl with | [_, _], _ => rfl, fun h => absurd rfl h⟩
theorem r14 : Row P frs F_Ratio_sign d14 := ⟨(fun h => by cases h), rfl, rfl, by decide +kernel, by decide +kernel, fun _ _ _ _ _ _ _ us hl => match us, hl with | [_], _ => rfl, fun h => absurd rfl h⟩
theorem r15 : Row P frs F_Ratio_is_zero d15 := ⟨(fun h => by cases h), rfl, rfl, by decide +kernel, by decide +kernel, fun _ _ _ _ _ _ _ us hl => match us, hl with | [_], _ => rfl, fun h => absurd rfl h⟩
theorem r16 : Row P frs F_Ratio_is_whole d16 := ⟨(fun h => by cases h), rfl, rfl, by decide +kernel, by decide +kernel, fun _ _ _ _ _ _ _ us hl => match us, hl with | [_], _ => rfl, fun h => absurd rfl h⟩
theorem r17 : Row P frs F_Ratio_floor d17 := ⟨(fun h => by cases h), rfl, rfl, by decide +kernel, by decide +kernel, fun _ _ _ _ _ _ _ us hl => match us, hl with | [_], _ => rfl, fun h => absurd rfl h⟩
theorem r18 : Row P frs F_Ratio_size d18 := ⟨(fun h => by cases h), rfl, rfl, by decide +kernel, by decide +kernel, fun _ _ _ _ _ _ _ us hl => match us, hl with | [_], _ => rfl, fun h => absurd rfl h⟩
theorem r19 : Row P frs F_check_ratio d19 := ⟨fun _ => rfl, rfl, rfl, by decide +kernel, by decide +kernel, fun _ _ _ _ _ _ _ us hl => match us, hl with | [_], _ => rfl, fun h => absurd rfl h⟩
theorem r20 : Row P frs F_is_ratio_row d20 := ⟨fun _ => rfl, rfl, rfl, by decide +kernel, by decide +kernel, fun _ _ _ _ _ _ _ us hl => match us, hl with | [_], _ => rfl, fun h => absurd rfl h⟩
theorem r21 : Row P frs F_is_ascending d21 := ⟨fun _ => rfl, rfl, rfl, by decide +kernel, by decide +kernel, fun _ _ _ _ _ _ _ us hl => match us, hl with | [_], _ => rfl, fun h => absurd rfl h⟩
theorem r22 : Row P frs F_is_knots d22 := ⟨fun _ => rfl, rfl, rfl, by decide +kernel, by decide +kernel, fun _ _ _ _ _ _ _ us hl => match us, hl with | [_, _], _ => rfl, fun h => absurd rfl h⟩
theorem r23 : Row P frs F_check_knots d23 := ⟨fun _ => rfl, rfl, rfl, by decide +kernel, by decide +kernel, fun _ _ _ _ _ _ _ us hl => match us, hl with | [_, _], _ => rfl, fun h => absurd rfl h⟩
theorem r24 : Row P frs F_space_size d24 := ⟨fun _ => rfl, rfl, rfl, by decide +kernel, by decide +kernel, fun _ _ _ _ _ _ _ us hl => match us, hl with | [_, _], _ => rfl, fun h => absurd rfl h⟩
theorem r25 : Row P frs F_ground d25 := ⟨fun _ => rfl, rfl, rfl, by decide +kernel, by decide +kernel, fun _ _ _ _ _ _ _ us hl => match us, hl with | [_, _], _ => rfl, fun h => absurd rfl h⟩
theorem r26 : Row P frs F_ground_of d26 := ⟨fun _ => rfl, rfl, rfl, by decide +kernel, by decide +kernel, fun _ _ _ _ _ _ _ us hl => match us, hl with | [_, _], _ => rfl, fun h => absurd rfl h⟩
theorem r27 : Row P frs F_breaks d27 := ⟨fun _ => rfl, rfl, rfl, by decide +kernel, by decide +kernel, fun _ _ _ _ _ _ _ us hl => match us, hl with | [_, _], _ => rfl, fun h => absurd rfl h⟩
theorem r28 : Row P frs F_breaks_of d28 := ⟨fun _ => rfl, rfl, rfl, by decide +kernel, by decide +kernel, fun _ _ _ _ _ _ _ us hl => match us, hl with | [_, _], _ => rfl, fun h => absurd rfl h⟩
theorem r29 : Row P frs F_multiplicity d29 := ⟨fun _ => rfl, rfl, rfl, by decide +kernel, by decide +kernel, fun _ _ _ _ _ _ _ us hl => match us, hl with | [_, _], _ => rfl, fun h => absurd rfl h⟩
theorem r30 : Row P frs F_spans d30 := ⟨fun _ => rfl, rfl, rfl, by decide +kernel, by decide +kernel, fun _ _ _ _ _ _ _ us hl => match us, hl with | [_, _], _ => rfl, fun h => absurd rfl h⟩
theorem r31 : Row P frs F_spans_of d31 := ⟨fun _ => rfl, rfl, rfl, by decide +kernel, by decide +kernel, fun _ _ _ _ _ _ _ us hl => match us, hl with | [_, _], _ => rfl, fun h => absurd rfl h⟩
theorem r32 : Row P frs F_span_at d32 := ⟨fun _ => rfl, rfl, rfl, by decide +kernel, by decide +kernel, fun _ _ _ _ _ _ _ us hl => match us, hl with | [_, _, _], _ => rfl, fun h => absurd rfl h⟩
theorem r33 : Row P frs F_span_of d33 := ⟨fun _ => rfl, rfl, rfl, by decide +kernel, by decide +kernel, fun _ _ _ _ _ _ _ us hl => match us, hl with | [_, _, _], _ => rfl, fun h => absurd rfl h⟩
theorem r34 : Row P frs F_smoothness d34 := ⟨fun _ => rfl, rfl, rfl, by decide +kernel, by decide +kernel, fun _ _ _ _ _ _ _ us hl => match us, hl with | [_, _, _], _ => rfl, fun h => absurd rfl h⟩
theorem r35 : Row P frs F_space_dimension d35 := ⟨fun _ => rfl, rfl, rfl, by decide +kernel, by decide +kernel, fun _ _ _ _ _ _ _ us hl => match us, hl with | [_, _], _ => rfl, fun h => absurd rfl h⟩
theorem r36 : Row P frs F_law_state d36 := ⟨fun _ => rfl, rfl, rfl, by decide +kernel, by decide +kernel, fun _ _ _ _ _ _ _ us hl => match us, hl with | [_], _ => rfl, fun h => absurd rfl h⟩
theorem r37 : Row P frs F_law_take d37 := ⟨fun _ => rfl, rfl, rfl, by decide +kernel, by decide +kernel, fun _ _ _ _ _ _ _ us hl => match us, hl with | [_, _], _ => rfl, fun h => absurd rfl h⟩
theorem r38 : Row P frs F_law_says d38 := ⟨fun _ => rfl, rfl, rfl, by decide +kernel, by decide +kernel, fun _ _ _ _ _ _ _ us hl => match us, hl with | [_, _], _ => rfl, fun h => absurd rfl h⟩
theorem r39 : Row P frs F_law_is_whole d39 := ⟨fun _ => rfl, rfl, rfl, by decide +kernel, by decide +kernel, fun _ _ _ _ _ _ _ us hl => match us, hl with | [_], _ => rfl, fun h => absurd rfl h⟩
theorem r40 : Row P frs F_law_same d40 := ⟨fun _ => rfl, rfl, rfl, by decide +kernel, by decide +kernel, fun _ _ _ _ _ _ _ us hl => match us, hl with | [_, _], _ => rfl, fun h => absurd rfl h⟩
theorem r41 : Row P frs F_law_result d41 := ⟨fun _ => rfl, rfl, rfl, by decide +kernel, by decide +kernel, fun _ _ _ _ _ _ _ us hl => match us, hl with | [_, _], _ => rfl, fun h => absurd rfl h⟩
theorem r42 : Row P frs F_law_knots_of d42 := ⟨fun _ => rfl, rfl, rfl, by decide +kernel, by decide +kernel, fun _ _ _ _ _ _ _ us hl => match us, hl with | [_, _], _ => rfl, fun h => absurd rfl h⟩
theorem r43 : Row P frs F_law_piece_places d43 := ⟨fun _ => rfl, rfl, rfl, by decide +kernel, by decide +kernel, fun _ _ _ _ _ _ _ us hl => match us, hl with | [_, _], _ => rfl, fun h => absurd rfl h⟩
theorem r44 : Row P frs F_law_piece_of d44 := ⟨fun _ => rfl, rfl, rfl, by decide +kernel, by decide +kernel, fun _ _ _ _ _ _ _ us hl => match us, hl with | [_, _, _], _ => rfl, fun h => absurd rfl h⟩
theorem r45 : Row P frs F_law_ground_number d45 := ⟨fun _ => rfl, rfl, rfl, by decide +kernel, by decide +kernel, fun _ _ _ _ _ _ _ us hl => match us, hl with | [_, _, _], _ => rfl, fun h => absurd rfl h⟩
theorem r46 : Row P frs F_law_are_knots d46 := ⟨fun _ => rfl, rfl, rfl, by decide +kernel, by decide +kernel, fun _ _ _ _ _ _ _ us hl => match us, hl with | [_, _], _ => rfl, fun h => absurd rfl h⟩
theorem r47 : Row P frs F_law d47 := ⟨fun _ => rfl, rfl, rfl, by decide +kernel, by decide +kernel, fun _ _ _ _ _ _ _ us hl => match us, hl with | [_], _ => rfl, fun h => absurd rfl h⟩
theorem inis : ∀ E ∈ P.exs, ∀ f, E.fld = some f → ∃ d ps, d ∈ fn ∧ IniRow E f baseN d ps := by
  intro E hE f hf
  simp only [P, List.mem_cons, List.not_mem_nil, or_false] at hE
  rcases hE with rfl | rfl
  · cases hf
  · cases hf; exact ⟨di1, _, by simp [fn], ri1⟩
theorem rows : Rows P frs fn := ⟨inis, fun C hC => clsRow_of (List.all_eq_true.mp (show P.cls.all (clsRowB P fn) = true by decide +kernel) C hC), by decide +kernel, by decide +kernel, (fun k f d h1 h2 => match k, h1, h2 with
  | 0, h1, h2 => by obtain rfl := Option.some.inj (show some F_wall = some f from h1); obtain rfl := Option.some.inj (show some d0 = some d from h2); exact r0
  | 1, h1, h2 => by obtain rfl := Option.some.inj (show some F_is_integer = some f from h1); obtain rfl := Option.some.inj (show some d1 = some d from h2); exact r1
  | 2, h1, h2 => by obtain rfl := Option.some.inj (show some F_is_count = some f from h1); obtain rfl := Option.some.inj (show some d2 = some d from h2); exact r2
  | 3, h1, h2 => by obtain rfl := Option.some.inj (show some F_common = some f from h1); obtain rfl := Option.some.inj (show some d3 = some d from h2); exact r3
  | 4, h1, h2 => by obtain rfl := Option.some.inj (show some F_Ratio_init = some f from h1); obtain rfl := Option.some.inj (show some d4 = some d from h2); exact r4
  | 5, h1, h2 => by obtain rfl := Option.some.inj (show some F_Ratio_add = some f from h1); obtain rfl := Option.some.inj (show some d5 = some d from h2); exact r5
  | 6, h1, h2 => by obtain rfl := Option.some.inj (show some F_Ratio_sub = some f from h1); obtain rfl := Option.some.inj (show some d6 = some d from h2); exact r6
  | 7, h1, h2 => by obtain rfl := Option.some.inj (show some F_Ratio_mul = some f from h1); obtain rfl := Option.some.inj (show some d7 = some d from h2); exact r7
  | 8, h1, h2 => by obtain rfl := Option.some.inj (show some F_Ratio_neg = some f from h1); obtain rfl := Option.some.inj (show some d8 = some d from h2); exact r8
  | 9, h1, h2 => by obtain rfl := Option.some.inj (show some F_Ratio_eq = some f from h1); obtain rfl := Option.some.inj (show some d9 = some d from h2); exact r9
  | 10, h1, h2 => by obtain rfl := Option.some.inj (show some F_Ratio_lt = some f from h1); obtain rfl := Option.some.inj (show some d10 = some d from h2); exact r10
  | 11, h1, h2 => by obtain rfl := Option.some.inj (show some F_Ratio_le = some f from h1); obtain rfl := Option.some.inj (show some d11 = some d from h2); exact r11
  | 12, h1, h2 => by obtain rfl := Option.some.inj (show some F_Ratio_over = some f from h1); obtain rfl := Option.some.inj (show some d12 = some d from h2); exact r12
  | 13, h1, h2 => by obtain rfl := Option.some.inj (show some F_Ratio_times = some f from h1); obtain rfl := Option.some.inj (show some d13 = some d from h2); exact r13
  | 14, h1, h2 => by obtain rfl := Option.some.inj (show some F_Ratio_sign = some f from h1); obtain rfl := Option.some.inj (show some d14 = some d from h2); exact r14
  | 15, h1, h2 => by obtain rfl := Option.some.inj (show some F_Ratio_is_zero = some f from h1); obtain rfl := Option.some.inj (show some d15 = some d from h2); exact r15
  | 16, h1, h2 => by obtain rfl := Option.some.inj (show some F_Ratio_is_whole = some f from h1); obtain rfl := Option.some.inj (show some d16 = some d from h2); exact r16
  | 17, h1, h2 => by obtain rfl := Option.some.inj (show some F_Ratio_floor = some f from h1); obtain rfl := Option.some.inj (show some d17 = some d from h2); exact r17
  | 18, h1, h2 => by obtain rfl := Option.some.inj (show some F_Ratio_size = some f from h1); obtain rfl := Option.some.inj (show some d18 = some d from h2); exact r18
  | 19, h1, h2 => by obtain rfl := Option.some.inj (show some F_check_ratio = some f from h1); obtain rfl := Option.some.inj (show some d19 = some d from h2); exact r19
  | 20, h1, h2 => by obtain rfl := Option.some.inj (show some F_is_ratio_row = some f from h1); obtain rfl := Option.some.inj (show some d20 = some d from h2); exact r20
  | 21, h1, h2 => by obtain rfl := Option.some.inj (show some F_is_ascending = some f from h1); obtain rfl := Option.some.inj (show some d21 = some d from h2); exact r21
  | 22, h1, h2 => by obtain rfl := Option.some.inj (show some F_is_knots = some f from h1); obtain rfl := Option.some.inj (show some d22 = some d from h2); exact r22
  | 23, h1, h2 => by obtain rfl := Option.some.inj (show some F_check_knots = some f from h1); obtain rfl := Option.some.inj (show some d23 = some d from h2); exact r23
  | 24, h1, h2 => by obtain rfl := Option.some.inj (show some F_space_size = some f from h1); obtain rfl := Option.some.inj (show some d24 = some d from h2); exact r24
  | 25, h1, h2 => by obtain rfl := Option.some.inj (show some F_ground = some f from h1); obtain rfl := Option.some.inj (show some d25 = some d from h2); exact r25
  | 26, h1, h2 => by obtain rfl := Option.some.inj (show some F_ground_of = some f from h1); obtain rfl := Option.some.inj (show some d26 = some d from h2); exact r26
  | 27, h1, h2 => by obtain rfl := Option.some.inj (show some F_breaks = some f from h1); obtain rfl := Option.some.inj (show some d27 = some d from h2); exact r27
  | 28, h1, h2 => by obtain rfl := Option.some.inj (show some F_breaks_of = some f from h1); obtain rfl := Option.some.inj (show some d28 = some d from h2); exact r28
  | 29, h1, h2 => by obtain rfl := Option.some.inj (show some F_multiplicity = some f from h1); obtain rfl := Option.some.inj (show some d29 = some d from h2); exact r29
  | 30, h1, h2 => by obtain rfl := Option.some.inj (show some F_spans = some f from h1); obtain rfl := Option.some.inj (show some d30 = some d from h2); exact r30
  | 31, h1, h2 => by obtain rfl := Option.some.inj (show some F_spans_of = some f from h1); obtain rfl := Option.some.inj (show some d31 = some d from h2); exact r31
  | 32, h1, h2 => by obtain rfl := Option.some.inj (show some F_span_at = some f from h1); obtain rfl := Option.some.inj (show some d32 = some d from h2); exact r32
  | 33, h1, h2 => by obtain rfl := Option.some.inj (show some F_span_of = some f from h1); obtain rfl := Option.some.inj (show some d33 = some d from h2); exact r33
  | 34, h1, h2 => by obtain rfl := Option.some.inj (show some F_smoothness = some f from h1); obtain rfl := Option.some.inj (show some d34 = some d from h2); exact r34
  | 35, h1, h2 => by obtain rfl := Option.some.inj (show some F_space_dimension = some f from h1); obtain rfl := Option.some.inj (show some d35 = some d from h2); exact r35
  | 36, h1, h2 => by obtain rfl := Option.some.inj (show some F_law_state = some f from h1); obtain rfl := Option.some.inj (show some d36 = some d from h2); exact r36
  | 37, h1, h2 => by obtain rfl := Option.some.inj (show some F_law_take = some f from h1); obtain rfl := Option.some.inj (show some d37 = some d from h2); exact r37
  | 38, h1, h2 => by obtain rfl := Option.some.inj (show some F_law_says = some f from h1); obtain rfl := Option.some.inj (show some d38 = some d from h2); exact r38
  | 39, h1, h2 => by obtain rfl := Option.some.inj (show some F_law_is_whole = some f from h1); obtain rfl := Option.some.inj (show some d39 = some d from h2); exact r39
  | 40, h1, h2 => by obtain rfl := Option.some.inj (show some F_law_same = some f from h1); obtain rfl := Option.some.inj (show some d40 = some d from h2); exact r40
  | 41, h1, h2 => by obtain rfl := Option.some.inj (show some F_law_result = some f from h1); obtain rfl := Option.some.inj (show some d41 = some d from h2); exact r41
  | 42, h1, h2 => by obtain rfl := Option.some.inj (show some F_law_knots_of = some f from h1); obtain rfl := Option.some.inj (show some d42 = some d from h2); exact r42
  | 43, h1, h2 => by obtain rfl := Option.some.inj (show some F_law_piece_places = some f from h1); obtain rfl := Option.some.inj (show some d43 = some d from h2); exact r43
  | 44, h1, h2 => by obtain rfl := Option.some.inj (show some F_law_piece_of = some f from h1); obtain rfl := Option.some.inj (show some d44 = some d from h2); exact r44
  | 45, h1, h2 => by obtain rfl := Option.some.inj (show some F_law_ground_number = some f from h1); obtain rfl := Option.some.inj (show some d45 = some d from h2); exact r45
  | 46, h1, h2 => by obtain rfl := Option.some.inj (show some F_law_are_knots = some f from h1); obtain rfl := Option.some.inj (show some d46 = some d from h2); exact r46
  | 47, h1, h2 => by obtain rfl := Option.some.inj (show some F_law = some f from h1); obtain rfl := Option.some.inj (show some d47 = some d from h2); exact r47
  | k + 48, h1, _ => by cases (show (none : Option FnI) = some f from h1)), by decide +kernel⟩
def loose : List Str := (["_wall", "Fault", "Malformed", "Refused", "is_integer", "is_count", "common", "Ratio", "check_ratio", "is_ratio_row", "is_ascending", "MOST_DEGREE", "MOST_KNOTS", "is_knots", "check_knots", "space_size", "ground", "ground_of", "breaks", "breaks_of", "multiplicity", "spans", "spans_of", "span_at"] : List Str) ++ (["span_of", "smoothness", "space_dimension", "_law_state", "_law_take", "_law_says", "_law_is_whole", "_law_same", "_law_result", "_law_knots_of", "_law_piece_places", "_law_piece_of", "_law_ground_number", "_law_are_knots"] : List Str)
abbrev Rr : PySem.W.OpenRow := PySem.W.OpenLaw.row PySem.Challenge.rw_splineroads_k21_whole_knots
abbrev hk : PySem.W.Hook := hookX 4 (faOf P frs) fn (xOf P)
def ob (s : PySem.W.SharedT) : AlX := obsXG 4 (faOf P frs) fn (xOf P) (HandSHeadRun.getT s)
theorem ob_eq (s : PySem.W.SharedT) : ob s = hk.obs s.abs := obsXG_eq (HandSHeadRun.getT_eq s)
theorem run (w : World) : HandSHeadRun.RunEq Rr (PySem.W.view Rr.prog [43]) hk ob 3000 loose w := by
  intro os
  kernel_rfl
end K21
open PySem PySem.W PySem.Calls PyProof.Rows
theorem PySem.Challenge.cw_splineroads_k21_whole_knots_holds : PySem.Challenge.rw_splineroads_k21_whole_knots.Holds := by
  w_on; o_law
  refine HandSHeadRun.head_any (r := OpenLaw.row PySem.Challenge.rw_splineroads_k21_whole_knots) (q := view (OpenLaw.row PySem.Challenge.rw_splineroads_k21_whole_knots).prog [43]) (H := K21.hk) (ob := K21.ob) (M := 3000) (loose := K21.loose) (d := HandSHeadRun.topDef (OpenLaw.row PySem.Challenge.rw_splineroads_k21_whole_knots).prog 43) (kwd := []) K21.ob_eq
    (by kernel_rfl) (fun s => by kernel_rfl) K21.run (by kernel_rfl) (by kernel_rfl) (by kernel_rfl) (by rfl) (by first | assumption | decide +kernel) (by decide +kernel) ⟨rfl, rfl, rfl, rfl, rfl, by decide +kernel⟩ ?hw ?hc
  case hw => w_witness2
  case hc =>
    refine PV.walk_ofEB (CX := L2.CX0) (x := ("script" : PySem.Str)) (n := 63) (k := 225) rfl (by decide) rfl ⟨rfl, by decide, by decide⟩ (fun w mg fa h hs hN hfa => PV.hF_of (n := 25) (m := 4) (lk := 47) (most := 63) (prog := (PySem.Challenge.rw_splineroads_k21_whole_knots).prog) K21.rows rfl rfl rfl rfl rfl rfl K21.law w mg fa h hs hN hfa) ?hCX
    case hCX => exact fun _ _ _ _ z => z
