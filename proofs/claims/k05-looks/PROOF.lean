import PyProof.Rows.All
import Wide.All
import OpenK.AllK
import Wide.FinOn
import HandS.ForMost
import HandS.ForExc
import HandS.TupAny
import HandS.Deep
import HandS.Zip
import HandS.Strs
import HandS.IsInst
import HandS.CallSlots
import KE.GoesEnum
import KE.KRevSl
import HandS.FStr
import HandS.Property
import HandS.ClsMeth
import HandS.MakeKw
import HandS.CallRecv
import HandS.RaiseMore
import KE.GoesZip
import KE.GoesMore
import HandS.Star
import HandS.Defaults
import KE.RegKIsAll
import PySem.Challenge.RW_shiftlogs_k05_looks_tests_and_changes_to
set_option Elab.async false
set_option linter.all false
set_option maxRecDepth 100000
set_option maxHeartbeats 4000000
/-! ShCore: plain data, the small language, what it does. -/
namespace Sh
open PySem

/-- data: what a value is, whatever stands where -/
inductive D where
  | non | bl (b : Bool) | int (i : Int) | str (x : Str) | lst (xs : List D) | tup (xs : List D) | obj (c : Str) (fs : List (Str × D)) | loc (n : Nat) | ty (n : String) | cls (c : Str)
/-- what a slot holds, what an expression gives: frozen data, or a list that nobody else holds -/
inductive RV where
  | fz (d : D) | own (ds : List D)
def RV.d : RV → D
  | .fz d => d
  | .own ds => .lst ds
abbrev Rho := List (Option RV)
/-- the law's bag of draws -/
structure Bag where
  cells : List Int
  pos : Nat
  big : Int
  seed : Int
  many : Int
def Bag.Ok (b : Bag) : Prop := 0 ≤ b.seed ∧ b.seed < 2147483497 ∧ b.cells.length ≤ 1000
inductive Ob where
  | bag (b : Bag) | ins (c : Str) (fs : List (Str × RV)) | dead
structure Mem where
  objs : List Ob
structure Err where
  cls : Str
  fs : List (Str × D)
inductive Res (α : Type) where
  | ok (a : α) (ρ : Rho) (S : Mem) | exc (x : Err) (ρ : Rho) (S : Mem) | bad
def Res.bind {α β : Type} (r : Res α) (f : α → Rho → Mem → Res β) : Res β := match r with
  | .ok a ρ S => f a ρ S
  | .exc x ρ S => .exc x ρ S
  | .bad => .bad
def Res.map {α β : Type} (r : Res α) (f : α → β) : Res β := match r with
  | .ok a ρ S => .ok (f a) ρ S
  | .exc x ρ S => .exc x ρ S
  | .bad => .bad
@[simp] theorem Res.bind_ok {α β : Type} (a : α) (ρ : Rho) (S : Mem) (f : α → Rho → Mem → Res β) : (Res.ok a ρ S).bind f = f a ρ S := rfl
@[simp] theorem Res.bind_exc {α β : Type} (x : Err) (ρ : Rho) (S : Mem) (f : α → Rho → Mem → Res β) : (Res.exc x ρ S).bind f = .exc x ρ S := rfl
@[simp] theorem Res.bind_bad {α β : Type} (f : α → Rho → Mem → Res β) : (Res.bad : Res α).bind f = .bad := rfl
@[simp] theorem Res.map_ok {α β : Type} (a : α) (ρ : Rho) (S : Mem) (f : α → β) : (Res.ok a ρ S).map f = .ok (f a) ρ S := rfl
@[simp] theorem Res.map_exc {α β : Type} (x : Err) (ρ : Rho) (S : Mem) (f : α → β) : (Res.exc x ρ S).map f = .exc x ρ S := rfl
@[simp] theorem Res.map_bad {α β : Type} (f : α → β) : (Res.bad : Res α).map f = .bad := rfl
inductive FRes where
  | ok (r : RV) (S : Mem) | exc (x : Err) (S : Mem) | bad
abbrev Fn := List D → Mem → FRes
/-- a call seen from a frame -/
def FRes.res (r : FRes) (ρ : Rho) : Res RV := match r with
  | .ok v S => .ok v ρ S
  | .exc x S => .exc x ρ S
  | .bad => .bad
@[simp] theorem FRes.res_ok (v : RV) (S : Mem) (ρ : Rho) : (FRes.ok v S).res ρ = .ok v ρ S := rfl
@[simp] theorem FRes.res_exc (x : Err) (S : Mem) (ρ : Rho) : (FRes.exc x S).res ρ = .exc x ρ S := rfl
@[simp] theorem FRes.res_bad (ρ : Rho) : FRes.bad.res ρ = .bad := rfl
inductive SRes where
  | nx (ρ : Rho) (S : Mem) | rt (r : RV) (S : Mem) | bk (ρ : Rho) (S : Mem) | ct (ρ : Rho) (S : Mem) | exc (x : Err) (ρ : Rho) (S : Mem) | bad
structure Tab where
  fn : Nat → Option Fn
  fnk : Nat → List Str → Nat → Option (Fn × List Nat)
  gl : Nat → Option D
  isF : Str → Str → Bool
  mt : Str → Str → Option Fn
  nw : Nat → Nat → Option (Str × Fn × List D × Bool)
  nk : Nat → List Str → Nat → Option (Str × Fn × List Nat × List D × Bool)
  oc : Str → Bool
  sm : Str → Str → Option Fn
  pr : Str → Str → Option Fn
  cn : Str → Str → Option D
  sub : Str → Str → Option Bool
  mtk : Str → Str → List Str → Nat → Option (Fn × List Nat)

/-! ### the language -/
inductive Blt where
  | len | int | all | list | tuple | str | repr | min
  deriving DecidableEq
inductive Tg where
  | name (i : Nat) | tup (is : List Nat)
mutual
inductive LE where
  | var (i : Nat) | non | bl (b : Bool) | int (i : Int) | str (x : Str) | glob (x : Nat)
  | bin (op : Operator) (a b : LE) | neg (a : LE)
  | cmp (op : CmpOp) (a b : LE) | chn (op op2 : CmpOp) (a b c : LE)
  | and (a b : LE) | or (a b : LE) | not (a : LE) | ite (c a b : LE)
  | tup (es : LEs) | lst (es : LEs)
  | idx (a i : LE) | slc (a : LE) (lo hi : LEo)
  | call (f : Nat) (es : LEs) | callk (f : Nat) (n : Nat) (es : LEs) (ks : List Str) (kes : LEs) | bcl (b : Blt) (es : LEs) | isi (a : LE) (tys : List String)
  | fld (a : LE) (f : Str) | mth (a : LE) (m : Str) (es : LEs)
  | rep (es : LEs) (k : LE) | join (s : LE) (a : LE) | lc (vs : List Nat) (elt : LE) (tg : Tg) (it : LI) (cs : LEs)
  | lc2 (vs vs1 : List Nat) (elt : LE) (tg : Tg) (it : LI) (cs : LEs) (tg1 : Tg) (it1 : LI) (cs1 : LEs)
  | isc (a : LE) (k : Nat) | ixo (a e : LE) | mthk (a : LE) (m : Str) (n : Nat) (es : LEs) (ks : List Str) (kes : LEs) | rev (a : LE) | fmt (a : LE) | fst (es : LEs) | lens (a : LE) | lend (f j : Nat)
inductive LEs where
  | nil | cons (e : LE) (es : LEs) | star (e : LE) (es : LEs)
inductive LEo where
  | no | so (e : LE)
inductive LI where
  | seq (e : LE) | rng (a : LE) | zip (a b : LE) | enm (a : LE)
end
mutual
inductive LS where
  | asg (i : Nat) (e : LE) | par (i j : Nat) (a b : LE) | exp (e : LE) | ret (e : LE) | rtm (i : Nat) | retN
  | iff (c : LE) (a b : LSs) | pass | tas (is : List Nat) (e : LE)
  | forr (tg : Tg) (it : LI) (b : LSs) | stop | apd (i : Nat) (e : LE) | brk | cnt | whl (c : LE) (b : LSs) | sfd (i : Nat) (f : Str) (e : LE) | sfm (i : Nat) (f : Str) (j : Nat) | apx (a e : LE) | ins (i : Nat) (ie e : LE) | sst (i : Nat) (ie e : LE)
inductive LSs where
  | nil | cons (s : LS) (ss : LSs)
end

def LEs.len : LEs → Nat
  | .nil => 0
  | .cons _ es => es.len + 1
  | .star _ es => es.len + 1
/-! ### what the operators do -/
abbrev LINE : Nat := 16777216
mutual
def D.py : D → PyData
  | .non => .none | .bl b => .bool b | .int i => .int i | .str x => .str x | .lst xs => .list (D.pys xs) | .tup xs => .tuple (D.pys xs) | .obj _ _ => .none | .loc _ => .none | .ty _ => .none | .cls _ => .none
def D.pys : List D → List PyData
  | [] => []
  | d :: ds => d.py :: D.pys ds
end
mutual
def D.plain : D → Bool
  | .non => true | .bl _ => true | .int _ => true | .str _ => true | .lst xs => D.plains xs | .tup xs => D.plains xs | .obj _ _ => false | .loc _ => false | .ty _ => false | .cls _ => false
def D.plains : List D → Bool
  | [] => true
  | d :: ds => d.plain && D.plains ds
end
def D.eqOk (d : D) : Bool := d.plain && SeqAt.shaped d.py
def D.eqv (d e : D) : Bool := PyData.eqv d.py e.py
def mulOk (i j : Int) : Bool := decide (i.natAbs < 2 ^ 64) || decide (j.natAbs < 2 ^ 64)
def opBin : Operator → D → D → Option RV
  | .Add, .int i, .int j => some (.fz (.int (i + j)))
  | .Add, .str x, .str y => if x.length + y.length ≤ LINE then some (.fz (.str (x ++ y))) else none
  | .Add, .lst xs, .lst ys => if xs.length + ys.length ≤ LINE then some (.own (xs ++ ys)) else none
  | .Add, .tup xs, .tup ys => if xs.length + ys.length ≤ LINE then some (.fz (.tup (xs ++ ys))) else none
  | .Sub, .int i, .int j => some (.fz (.int (i - j)))
  | .Mult, .int i, .int j => if mulOk i j then some (.fz (.int (i * j))) else none
  | .FloorDiv, .int i, .int j => if 0 < j.toNat ∧ j.toNat < 1073741824 then some (.fz (.int (i / j))) else none
  | .Mod, .int i, .int j => if 0 < j.toNat then some (.fz (.int (i % j))) else none
  | .Pow, .int i, .int j => if j = j.toNat ∧ j.toNat ≤ 1000000 ∧ i.natAbs < 2 ^ 64 then some (.fz (.int (i ^ j.toNat))) else none
  | _, _, _ => none
def anyEqv (d : D) : List D → Bool
  | [] => false
  | e :: es => e.eqv d || anyEqv d es
/-- one sign -/
def sgn (c : Nat) : Str := ⟨#[c]⟩
def D.isNon : D → Bool
  | .non => true
  | _ => false
def opCmp : CmpOp → D → D → Option Bool
  | .Lt, .int i, .int j => some (decide (i < j))
  | .LtE, .int i, .int j => some (decide (i ≤ j))
  | .Gt, .int i, .int j => some (decide (j < i))
  | .GtE, .int i, .int j => some (decide (j ≤ i))
  | .Eq, d, e => if d.eqOk && e.eqOk then some (d.eqv e) else none
  | .NotEq, d, e => if d.eqOk && e.eqOk then some (!d.eqv e) else none
  | .Is, d, .non => some d.isNon
  | .IsNot, d, .non => some (!d.isNon)
  | .In, .str ⟨cs⟩, .str z => match cs.toList with | [c] => some (decide (c ∈ z.cps.toList)) | _ => none
  | .In, d, .lst es => if d.eqOk && (D.lst es).eqOk then some (anyEqv d es) else none
  | .NotIn, d, .lst es => if d.eqOk && (D.lst es).eqOk then some (!anyEqv d es) else none
  | .In, d, .tup es => if d.eqOk && (D.tup es).eqOk then some (anyEqv d es) else none
  | _, _, _ => none
/-- a test's answer -/
def tst : RV → Option Bool
  | .fz (.bl b) => some b
  | _ => none
/-- an item by its place, from the left or from the right -/
def opIdx : D → D → Option RV
  | .lst xs, .int i => (L2.atI xs i).map .fz
  | .tup xs, .int i => (L2.atI xs i).map .fz
  | .str z, .int i => if z.length ≤ LINE then (L2.atI z.cps.toList i).map fun c => .fz (.str (sgn c)) else none
  | _, _ => none
def cutD (xs : List D) (lo hi : Option Int) : List D := (xs.drop (HT.sIx xs.length 0 lo)).take (HT.sIx xs.length xs.length hi - HT.sIx xs.length 0 lo)
def opSlc : D → Option Int → Option Int → Option RV
  | .lst xs, lo, hi => some (.own (cutD xs lo hi))
  | .tup xs, lo, hi => some (.fz (.tup (cutD xs lo hi)))
  | .str z, lo, hi => if z.length ≤ LINE then some (.fz (.str (L2.cutS z lo hi))) else none
  | _, _, _ => none
def allBl : List D → Option Bool
  | [] => some true
  | .bl b :: ds => (allBl ds).map (b && ·)
  | _ => none
/-- the least of whole numbers -/
def minD : Int → List D → Option Int
  | i, [] => some i
  | i, .int j :: ds => minD (if j < i then j else i) ds
  | _, _ => none
/-- the first place of an equal one -/
def firstD (d : D) : List D → Option Nat
  | [] => none
  | e :: es => if e.eqv d = true then some 0 else (firstD d es).map (· + 1)
def opIxo (es : List D) (d : D) : Option RV := if d.eqOk && (D.lst es).eqOk then (firstD d es).map fun (j : Nat) => .fz (.int (j : Int)) else none
def opBcl : Blt → List D → Option RV
  | .len, [.lst xs] => some (.fz (.int xs.length))
  | .len, [.tup xs] => some (.fz (.int xs.length))
  | .len, [.str z] => if z.length ≤ LINE then some (.fz (.int z.length)) else none
  | .int, [.int i] => some (.fz (.int i))
  | .all, [.lst xs] => (allBl xs).map fun b => .fz (.bl b)
  | .list, [.lst xs] => some (.own xs)
  | .list, [.tup xs] => some (.own xs)
  | .tuple, [.lst xs] => some (.fz (.tup xs))
  | .tuple, [.tup xs] => some (.fz (.tup xs))
  | .str, [.int i] => if i.natAbs.log2 < 1920 then some (.fz (.str (toString i))) else none
  | .str, [.str x] => some (.fz (.str x))
  | .min, [.int i, .int j] => some (.fz (.int (if j < i then j else i)))
  | .min, [.lst (.int i :: ds)] => (minD i ds).map fun k => .fz (.int k)
  | _, _ => none
/-- isinstance against built-in types -/
def isTy : D → String → Option Bool
  | .non, t => some (t == "NoneType")
  | .bl _, t => some (t == "bool" || t == "int")
  | .int _, t => some (t == "int")
  | .str _, t => some (t == "str")
  | .lst _, t => some (t == "list")
  | .tup _, t => some (t == "tuple")
  | _, _ => none
def isTys (d : D) : List String → Option Bool
  | [] => some false
  | t :: ts => match isTy d t, isTys d ts with
    | some a, some b => some (a || b)
    | _, _ => none
def seqOf : D → Option (List D)
  | .lst xs => some xs
  | .tup xs => some xs
  | _ => none
def strsOf : List D → Option (List Str)
  | [] => some []
  | .str x :: ds => (strsOf ds).map (x :: ·)
  | _ => none
/-- how many different ones stand among the first i -/
def cntS (xs : List Str) : Nat → Nat
  | 0 => 0
  | i + 1 => if (xs.take i).any (· == xs.getD i Str.empty) = true then cntS xs i else cntS xs i + 1
def opRep (xs : List D) : D → Option RV
  | .int k => if k = k.toNat ∧ k.toNat < 2 ^ 62 ∧ xs.length * k.toNat ≤ LINE then some (.own (List.replicate k.toNat xs).flatten) else none
  | _ => none
def opJoin : D → D → Option RV
  | .str z, .lst ds => match strsOf ds with
    | some xs => if (xs.map (·.length)).sum + xs.length * z.length ≤ LINE then some (.fz (.str (Txt.join z xs))) else none
    | none => none
  | _, _ => none
/-- len(set(xs)) of texts -/
def opLens : D → Option RV
  | .lst ds => match strsOf ds with
    | some xs => if xs.length ≤ 1000 then some (.fz (.int (cntS xs xs.length : Nat))) else none
    | none => none
  | _ => none
def zipD : List D → List D → List D
  | x :: xs, y :: ys => .tup [x, y] :: zipD xs ys
  | _, _ => []
def itemsOf : D → Option (List D)
  | .lst xs => some xs
  | .tup xs => some xs
  | .str z => some (z.cps.toList.map fun c => .str (sgn c))
  | _ => none
def rngD (n : Nat) : List D := (List.range n).map fun (i : Nat) => D.int (i : Int)
def opRng : D → Option (List D)
  | .int j => if j.natAbs ≤ LINE then some (rngD j.toNat) else none
  | _ => none
def enumD : Nat → List D → List D
  | _, [] => []
  | i, x :: xs => .tup [.int (i : Int), x] :: enumD (i + 1) xs
def opEnm : D → Option (List D)
  | .lst xs => some (enumD 0 xs)
  | .tup xs => some (enumD 0 xs)
  | _ => none
def opRev : D → Option RV
  | .lst xs => some (.own xs.reverse)
  | _ => none
def opFmt : D → Option RV
  | .str y => if y.length ≤ LINE then some (.fz (.str y)) else none
  | .int i => if i.natAbs.log2 < 1920 then some (.fz (.str (toString i))) else none
  | _ => none
def opZip : D → D → Option (List D)
  | .lst xs, .lst ys => some (zipD xs ys)
  | .tup xs, .tup ys => some (zipD xs ys)
  | .tup xs, .lst ys => some (zipD xs ys)
  | _, _ => none
def wipeE (ρ : Rho) : List Nat → Rho
  | [] => ρ
  | v :: vs => (wipeE ρ vs).set v none
def backE (ρ0 ρ : Rho) : List Nat → Rho
  | [] => ρ
  | v :: vs => (backE ρ0 ρ vs).set v (ρ0[v]?.getD none)
def setAll (ρ : Rho) : List Nat → List D → Option Rho
  | [], [] => some ρ
  | i :: is, d :: ds => setAll (ρ.set i (some (.fz d))) is ds
  | _, _ => none
def Tg.put (d : D) (ρ : Rho) : Tg → Option Rho
  | .name i => some (ρ.set i (some (.fz d)))
  | .tup is => match d with
    | .tup ds => setAll ρ is ds
    | _ => none
def ofO {α : Type} (o : Option α) (ρ : Rho) (S : Mem) : Res α := match o with
  | some a => .ok a ρ S
  | none => .bad
@[simp] theorem ofO_some {α : Type} (a : α) (ρ : Rho) (S : Mem) : ofO (some a) ρ S = .ok a ρ S := rfl
@[simp] theorem ofO_none {α : Type} (ρ : Rho) (S : Mem) : ofO (none : Option α) ρ S = .bad := rfl
/-- no exception leaves a comprehension -/
def noX {α : Type} : Res α → Res α
  | .exc _ _ _ => .bad
  | r => r
@[simp] theorem noX_ok {α : Type} (a : α) (ρ : Rho) (S : Mem) : noX (.ok a ρ S) = .ok a ρ S := rfl
@[simp] theorem noX_bad {α : Type} : noX (.bad : Res α) = .bad := rfl
def tstR (r : Res RV) : Res Bool := r.bind fun x ρ S => ofO (tst x) ρ S
@[simp] theorem tstR_bl (b : Bool) (ρ : Rho) (S : Mem) : tstR (.ok (.fz (.bl b)) ρ S) = .ok b ρ S := rfl
/-- a comprehension's turns: f gives the item to be added, or none -/
def lcLoop (vs : List Nat) (f : D → Rho → Mem → Res (Option D)) : List D → List D → Rho → Mem → Res (List D)
  | [], acc, ρ, S => .ok acc ρ S
  | d :: ds, acc, ρ, S => (noX (f d (wipeE ρ vs) S)).bind fun o ρ S => match o with
    | none => lcLoop vs f ds acc ρ S
    | some y => if acc.length < LINE then lcLoop vs f ds (acc ++ [y]) ρ S else .bad
/-- .. of two clauses: p gives the second source's items, or none -/
def lc2Loop (vs vs1 : List Nat) (p : D → Rho → Mem → Res (Option (List D))) (f : D → Rho → Mem → Res (Option D)) : List D → List D → Rho → Mem → Res (List D)
  | [], acc, ρ, S => .ok acc ρ S
  | d :: ds, acc, ρ, S => (noX (p d (wipeE ρ vs) S)).bind fun o ρ S => match o with
    | none => lc2Loop vs vs1 p f ds acc ρ S
    | some es => (lcLoop vs1 f es acc ρ S).bind fun acc ρ S => lc2Loop vs vs1 p f ds acc ρ S
/-- the arguments in the parameters' order -/
def pick {α : Type} : List Nat → List α → Option (List α)
  | [], _ => some []
  | i :: is, xs => match xs[i]?, pick is xs with
    | some x, some ys => some (x :: ys)
    | _, _ => none
def noOwn (ρ : Rho) (vs : List Nat) : Bool := vs.all fun v => match ρ[v]? with
  | some (some (.own _)) => false
  | _ => true
def rdV (i : Nat) (ρ : Rho) (S : Mem) : Res RV := match ρ[i]? with
  | some (some (.fz d)) => .ok (.fz d) ρ S
  | some (some (.own ds)) => .ok (.fz (.lst ds)) (ρ.set i (some (.fz (.lst ds)))) S
  | _ => .bad
def rdB (i : Nat) (ρ : Rho) (S : Mem) : Res D := match ρ[i]? with
  | some (some r) => .ok r.d ρ S
  | _ => .bad
def frzFs : List (Str × RV) → List (Str × D)
  | [] => []
  | (f, r) :: fs => (f, r.d) :: frzFs fs
mutual
/-- no list within -/
def D.nol : D → Bool
  | .non => true | .bl _ => true | .int _ => true | .str _ => true | .lst _ => false | .tup xs => D.nols xs | .obj _ fs => D.nolf fs | .loc _ => true | .ty _ => true | .cls _ => true
def D.nols : List D → Bool
  | [] => true
  | d :: ds => d.nol && D.nols ds
def D.nolf : List (Str × D) → Bool
  | [] => true
  | (_, d) :: ds => d.nol && D.nolf ds
end
def RV.nol : RV → Bool
  | .fz d => d.nol
  | .own ds => D.nols ds
def Ob.nol : Ob → Bool
  | .bag _ => true
  | .dead => true
  | .ins _ fs => fs.all fun p => p.2.nol
/-- an object is made: it stays as it is behind __init__, or it may change -/
def newFn (c : Str) (fn : Fn) (dv : List D) (z : Bool) : Fn := fun ds S => match fn (.loc S.objs.length :: (ds ++ dv)) ⟨S.objs ++ [.ins c []]⟩ with
  | .ok (.fz .non) S' => if z = true then (match S'.objs[S.objs.length]? with
      | some (.ins c' fs) => if c' = c then .ok (.fz (.obj c (frzFs fs))) ⟨S'.objs.set S.objs.length .dead⟩ else .bad
      | _ => .bad) else .ok (.fz (.loc S.objs.length)) S'
  | .exc x S' => .exc x S'
  | _ => .bad
/-- .. from a slot's own list, which is lent: nothing that is left behind may hold it -/
def lendFn (c : Str) (fn : Fn) (ds : List D) (S : Mem) : FRes := match fn [.loc S.objs.length, .lst ds] ⟨S.objs ++ [.ins c []]⟩ with
  | .ok (.fz .non) S' => if S'.objs.all Ob.nol = true then (match S'.objs[S.objs.length]? with
      | some (.ins c' fs) => if c' = c then .ok (.fz (.obj c (frzFs fs))) ⟨S'.objs.set S.objs.length .dead⟩ else .bad
      | _ => .bad) else .bad
  | _ => .bad
/-- an object's field -/
def fldOf (T : Tab) (S : Mem) : D → Str → Option RV
  | .obj c fs, f => if T.isF c f = true then (fs.lookup f).map .fz else none
  | .loc n, f => match S.objs[n]? with
    | some (.ins c fs) => if T.isF c f = true then (match fs.lookup f with
      | some (.fz d) => some (.fz d)
      | _ => none) else none
    | _ => none
  | .cls c, f => (T.cn c f).map .fz
  | _, _ => none
/-- an object's class -/
def clsOf (S : Mem) : D → Option Str
  | .obj c _ => some c
  | .loc n => match S.objs[n]? with
    | some (.ins c _) => some c
    | _ => none
  | _ => none
def smOf (T : Tab) (S : Mem) (x : D) (m : Str) : Option Fn := match clsOf S x with
  | some c => T.sm c m
  | none => none
def prOf (T : Tab) (S : Mem) (x : D) (m : Str) : Option Fn := match clsOf S x with
  | some c => T.pr c m
  | none => none
/-- == and != by the class's own -/
def eqM (T : Tab) (S : Mem) : CmpOp → D → Option (Fn × Bool)
  | .Eq, x => (smOf T S x "__eq__").map (·, false)
  | .NotEq, x => (smOf T S x "__eq__").map (·, true)
  | _, _ => none
/-- y's class is not below x's -/
def firstOk (T : Tab) (S : Mem) (x y : D) : Bool := match clsOf S x with
  | some c => match y with
    | .obj c' _ => T.oc c' && (c' == c || T.sub c' c == some false)
    | .loc n => match S.objs[n]? with
      | some (.ins c' _) => T.oc c' && (c' == c || T.sub c' c == some false)
      | _ => false
    | .ty _ => false
    | .cls _ => false
    | _ => true
  | none => false
def cmpM (T : Tab) (op : CmpOp) (x y : D) (ρ : Rho) (S : Mem) : Res Bool := match eqM T S op x with
  | some (fn, ng) => if firstOk T S x y = true then (noX ((fn [x, y] S).res ρ)).bind fun r ρ S => (ofO (tst r) ρ S).map fun k => k != ng else .bad
  | none => .bad
def bclM (T : Tab) (S : Mem) : Blt → List D → Option Fn
  | .len, [x] => smOf T S x "__len__"
  | .repr, [x] => smOf T S x "__repr__"
  | _, _ => none
def bclR : Blt → RV → Option RV
  | .len, .fz (.int n) => if n = n.toNat ∧ n.toNat ≤ LINE then some (.fz (.int n)) else none
  | .repr, .fz (.str x) => some (.fz (.str x))
  | _, _ => none
/-- isinstance against an own class -/
def iscOf (T : Tab) (S : Mem) (x : D) (c : Str) : Option Bool := if T.oc c = false then none else match x with
  | .obj c' _ => if T.oc c' = false then none else if c' = c then some true else T.sub c' c
  | .loc n => match S.objs[n]? with
    | some (.ins c' _) => if T.oc c' = false then none else if c' = c then some true else T.sub c' c
    | _ => none
  | .ty _ => none
  | .cls _ => none
  | _ => some false
/-- the method that an object's class has -/
def mthOf (T : Tab) (S : Mem) : D → Str → Option (Str × Fn)
  | .obj c fs, m => if (fs.lookup m).isNone = true then (T.mt c m).map (c, ·) else none
  | .loc n, m => match S.objs[n]? with
    | some (.ins c fs) => if (fs.lookup m).isNone = true then (T.mt c m).map (c, ·) else none
    | _ => none
  | _, _ => none
def mkOf (T : Tab) (S : Mem) (x : D) (m : Str) (ks : List Str) (n : Nat) : Option (Fn × List Nat) := match mthOf T S x m with
  | some (c, _) => T.mtk c m ks n
  | none => none
mutual
/-- an expression -/
def den (T : Tab) : LE → Rho → Mem → Res RV
  | .var i, ρ, S => rdV i ρ S
  | .non, ρ, S => .ok (.fz .non) ρ S
  | .bl b, ρ, S => .ok (.fz (.bl b)) ρ S
  | .int i, ρ, S => .ok (.fz (.int i)) ρ S
  | .str x, ρ, S => .ok (.fz (.str x)) ρ S
  | .glob x, ρ, S => (ofO (T.gl x) ρ S).map .fz
  | .bin op a b, ρ, S => (denB T a ρ S).bind fun x ρ S => (denB T b ρ S).bind fun y ρ S => ofO (opBin op x y) ρ S
  | .neg a, ρ, S => (denB T a ρ S).bind fun x ρ S => match x with
    | .int i => .ok (.fz (.int (-i))) ρ S
    | _ => .bad
  | .cmp op a b, ρ, S => (denB T a ρ S).bind fun x ρ S => if (eqM T S op x).isSome = true then ((den T b ρ S).map RV.d).bind fun y ρ S => (cmpM T op x y ρ S).map fun k => .fz (.bl k)
      else (denB T b ρ S).bind fun y ρ S => (ofO (opCmp op x y) ρ S).map fun k => .fz (.bl k)
  | .chn op op2 a b c, ρ, S => (denB T a ρ S).bind fun x ρ S => (denB T b ρ S).bind fun y ρ S => (ofO (opCmp op x y) ρ S).bind fun k ρ S =>
      if k = true then (denB T c ρ S).bind fun z ρ S => (ofO (opCmp op2 y z) ρ S).map fun k => .fz (.bl k) else .ok (.fz (.bl false)) ρ S
  | .and a b, ρ, S => (tstR (den T a ρ S)).bind fun k ρ S => if k = true then den T b ρ S else .ok (.fz (.bl false)) ρ S
  | .or a b, ρ, S => (tstR (den T a ρ S)).bind fun k ρ S => if k = true then .ok (.fz (.bl true)) ρ S else den T b ρ S
  | .not a, ρ, S => (tstR (den T a ρ S)).bind fun k ρ S => .ok (.fz (.bl (!k))) ρ S
  | .ite c a b, ρ, S => (tstR (den T c ρ S)).bind fun k ρ S => if k = true then den T a ρ S else den T b ρ S
  | .tup es, ρ, S => (denEs T es ρ S).bind fun ds ρ S => if ds.length ≤ LINE then .ok (.fz (.tup ds)) ρ S else .bad
  | .lst es, ρ, S => (denEs T es ρ S).bind fun ds ρ S => if ds.length ≤ LINE then .ok (.own ds) ρ S else .bad
  | .rep es k, ρ, S => (denEs T es ρ S).bind fun ds ρ S => (if ds.length ≤ LINE then .ok ds ρ S else .bad : Res (List D)).bind fun ds ρ S => (denB T k ρ S).bind fun y ρ S => ofO (opRep ds y) ρ S
  | .idx a i, ρ, S => (denB T a ρ S).bind fun x ρ S => (denB T i ρ S).bind fun y ρ S => ofO (opIdx x y) ρ S
  | .slc a lo hi, ρ, S => (denB T a ρ S).bind fun x ρ S => (denO T lo ρ S).bind fun l ρ S => (denO T hi ρ S).bind fun u ρ S => ofO (opSlc x l u) ρ S
  | .call f es, ρ, S => match T.fn f with
    | some m => (denEs T es ρ S).bind fun ds ρ S => (m ds S).res ρ
    | none => match T.nw f es.len with
      | some (c, fn, dv, z) => (denEs T es ρ S).bind fun ds ρ S => (newFn c fn dv z ds S).res ρ
      | none => .bad
  | .lens a, ρ, S => (denB T a ρ S).bind fun x ρ S => ofO (opLens x) ρ S
  | .lend f j, ρ, S => match T.nw f 1, ρ[j]? with
    | some (c, fn, [], true), some (some (.own ds)) => (lendFn c fn ds S).res ρ
    | _, _ => .bad
  | .callk f n es ks kes, ρ, S => match T.fnk f ks n with
    | some (m, perm) => (denEs T es ρ S).bind fun ds ρ S => (denEs T kes ρ S).bind fun zs ρ S => (ofO (if ds.length = n ∧ zs.length = ks.length then pick perm (ds ++ zs) else none) ρ S).bind fun xs ρ S => (m xs S).res ρ
    | none => match T.nk f ks n with
      | some (c, fn, perm, dv, z) => (denEs T es ρ S).bind fun ds ρ S => (denEs T kes ρ S).bind fun zs ρ S => (ofO (if ds.length = n ∧ zs.length = ks.length then pick perm (ds ++ zs ++ dv) else none) ρ S).bind fun xs ρ S => (newFn c fn [] z xs S).res ρ
      | none => .bad
  | .fld a f, ρ, S => (denB T a ρ S).bind fun x ρ S => match prOf T S x f with
    | some fn => noX ((fn [x] S).res ρ)
    | none => ofO (fldOf T S x f) ρ S
  | .mth a m es, ρ, S => ((den T a ρ S).map RV.d).bind fun x ρ S => match mthOf T S x m with
    | some (_, fn) => (denEs T es ρ S).bind fun ds ρ S => (fn (x :: ds) S).res ρ
    | none => .bad
  | .bcl b es, ρ, S => (denBs T es ρ S).bind fun ds ρ S => match bclM T S b ds with
    | some fn => (noX ((fn ds S).res ρ)).bind fun r ρ S => ofO (bclR b r) ρ S
    | none => ofO (opBcl b ds) ρ S
  | .isc a k, ρ, S => (denB T a ρ S).bind fun x ρ S => match T.gl k with
    | some (.cls c) => (ofO (iscOf T S x c) ρ S).map fun k => .fz (.bl k)
    | _ => .bad
  | .ixo a e, ρ, S => (denB T a ρ S).bind fun x ρ S => match x with
    | .lst ds => (denB T e ρ S).bind fun y ρ S => ofO (opIxo ds y) ρ S
    | _ => .bad
  | .mthk a m n es ks kes, ρ, S => ((den T a ρ S).map RV.d).bind fun x ρ S => match mkOf T S x m ks n with
    | some (fn, perm) => (denEs T es ρ S).bind fun ds ρ S => (denEs T kes ρ S).bind fun zs ρ S => (ofO (if ds.length = n ∧ zs.length = ks.length then pick perm (ds ++ zs) else none) ρ S).bind fun xs ρ S => (fn (x :: xs) S).res ρ
    | none => .bad
  | .rev a, ρ, S => (denB T a ρ S).bind fun x ρ S => ofO (opRev x) ρ S
  | .fmt a, ρ, S => (denB T a ρ S).bind fun x ρ S => ofO (opFmt x) ρ S
  | .fst es, ρ, S => (denF T es Str.empty ρ S).map fun x => .fz (.str x)
  | .isi a tys, ρ, S => (denB T a ρ S).bind fun x ρ S => (ofO (isTys x tys) ρ S).map fun k => .fz (.bl k)
  | .join s a, ρ, S => (denB T s ρ S).bind fun x ρ S => (denB T a ρ S).bind fun y ρ S => ofO (opJoin x y) ρ S
  | .lc vs elt tg it cs, ρ, S => (denI T it ρ S).bind fun ds ρ S => if noOwn ρ vs = false then .bad else
      (lcLoop vs (fun d ρ S => (ofO (tg.put d ρ) ρ S).bind fun ρ' _ S => (denC T cs ρ' S).bind fun k ρ S => if k = true then (den T elt ρ S).bind fun y ρ S => .ok (some y.d) ρ S else .ok none ρ S) ds [] ρ S).bind fun acc ρ' S =>
      .ok (.own acc) (backE ρ ρ' vs) S
  | .lc2 vs vs1 elt tg it cs tg1 it1 cs1, ρ, S => (denI T it ρ S).bind fun ds ρ S => if noOwn ρ vs = false then .bad else
      (lc2Loop vs vs1 (fun d ρ S => (ofO (tg.put d ρ) ρ S).bind fun ρ' _ S => (denC T cs ρ' S).bind fun k ρ S => if k = true then (denI T it1 ρ S).bind fun es ρ S => .ok (some es) ρ S else .ok none ρ S)
        (fun d ρ S => (ofO (tg1.put d ρ) ρ S).bind fun ρ' _ S => (denC T cs1 ρ' S).bind fun k ρ S => if k = true then (den T elt ρ S).bind fun y ρ S => .ok (some y.d) ρ S else .ok none ρ S) ds [] ρ S).bind fun acc ρ' S =>
      .ok (.own acc) (backE ρ ρ' vs) S
/-- an expression that is only looked at -/
def denB (T : Tab) : LE → Rho → Mem → Res D
  | .var i, ρ, S => rdB i ρ S
  | e, ρ, S => (den T e ρ S).map RV.d
def denEs (T : Tab) : LEs → Rho → Mem → Res (List D)
  | .nil, ρ, S => .ok [] ρ S
  | .cons e es, ρ, S => (den T e ρ S).bind fun x ρ S => (denEs T es ρ S).bind fun xs ρ S => .ok (x.d :: xs) ρ S
  | .star e es, ρ, S => ((den T e ρ S).map RV.d).bind fun x ρ S => (ofO (seqOf x) ρ S).bind fun ys ρ S => (denEs T es ρ S).bind fun xs ρ S => .ok (ys ++ xs) ρ S
def denBs (T : Tab) : LEs → Rho → Mem → Res (List D)
  | .nil, ρ, S => .ok [] ρ S
  | .cons e es, ρ, S => (denB T e ρ S).bind fun x ρ S => (denBs T es ρ S).bind fun xs ρ S => .ok (x :: xs) ρ S
  | .star _ _, _, _ => .bad
/-- the tests of a comprehension -/
def denC (T : Tab) : LEs → Rho → Mem → Res Bool
  | .nil, ρ, S => .ok true ρ S
  | .cons e es, ρ, S => (tstR (den T e ρ S)).bind fun k ρ S => if k = true then denC T es ρ S else .ok false ρ S
  | .star _ _, _, _ => .bad
/-- the parts of a formatted text -/
def denF (T : Tab) : LEs → Str → Rho → Mem → Res Str
  | .nil, acc, ρ, S => .ok acc ρ S
  | .cons e es, acc, ρ, S => (den T e ρ S).bind fun x ρ S => match x with
    | .fz (.str y) => if acc.length + y.length ≤ LINE then denF T es (acc ++ y) ρ S else .bad
    | _ => .bad
  | .star _ _, _, _, _ => .bad
def denO (T : Tab) : LEo → Rho → Mem → Res (Option Int)
  | .no, ρ, S => .ok none ρ S
  | .so e, ρ, S => (denB T e ρ S).bind fun x ρ S => match x with
    | .int i => .ok (some i) ρ S
    | _ => .bad
def denI (T : Tab) : LI → Rho → Mem → Res (List D)
  | .seq e, ρ, S => (denB T e ρ S).bind fun x ρ S => ofO (itemsOf x) ρ S
  | .rng a, ρ, S => (denB T a ρ S).bind fun x ρ S => ofO (opRng x) ρ S
  | .enm a, ρ, S => (denB T a ρ S).bind fun x ρ S => ofO (opEnm x) ρ S
  | .zip a b, ρ, S => (denB T a ρ S).bind fun x ρ S => (denB T b ρ S).bind fun y ρ S => ofO (opZip x y) ρ S
end
/-- what a loop walks: nobody changes it meanwhile -/
def denIF (T : Tab) : LI → Rho → Mem → Res (List D)
  | .seq e, ρ, S => ((den T e ρ S).map RV.d).bind fun x ρ S => ofO (itemsOf x) ρ S
  | .rng a, ρ, S => ((den T a ρ S).map RV.d).bind fun x ρ S => ofO (opRng x) ρ S
  | .enm a, ρ, S => ((den T a ρ S).map RV.d).bind fun x ρ S => ofO (opEnm x) ρ S
  | .zip a b, ρ, S => ((den T a ρ S).map RV.d).bind fun x ρ S => ((den T b ρ S).map RV.d).bind fun y ρ S => ofO (opZip x y) ρ S
def forLoop (tg : Tg) (f : Rho → Mem → SRes) : List D → Rho → Mem → SRes
  | [], ρ, S => .nx ρ S
  | d :: ds, ρ, S => match tg.put d ρ with
    | none => .bad
    | some ρ => match f ρ S with
      | .nx ρ S => forLoop tg f ds ρ S
      | .ct ρ S => forLoop tg f ds ρ S
      | .bk ρ S => .nx ρ S
      | r => r
def whLoop (tc : Rho → Mem → Res Bool) (f : Rho → Mem → SRes) : Nat → Rho → Mem → SRes
  | 0, _, _ => .bad
  | n + 1, ρ, S => match tc ρ S with
    | .ok k ρ S => if k = true then
        match f ρ S with
        | .nx ρ S => whLoop tc f n ρ S
        | .ct ρ S => whLoop tc f n ρ S
        | .bk ρ S => .nx ρ S
        | r => r
      else .nx ρ S
    | .exc x ρ S => .exc x ρ S
    | .bad => .bad
def putR (f : Str) (x : RV) : List (Str × RV) → List (Str × RV)
  | [] => [(f, x)]
  | p :: ps => if p.1 = f then (f, x) :: ps else p :: putR f x ps
/-- a field of the object in slot i -/
def sfdO (T : Tab) (i : Nat) (f : Str) (d : D) (ρ : Rho) (S : Mem) : Option Mem := match ρ[i]? with
  | some (some (.fz (.loc n))) => match S.objs[n]? with
    | some (.ins c fs) => if T.isF c f = true ∧ fs.length < 1000 then some ⟨S.objs.set n (.ins c (putR f (.fz d) fs))⟩ else none
    | _ => none
  | _ => none
/-- a slot's own list becomes a field's -/
def sfmO (T : Tab) (i : Nat) (f : Str) (j : Nat) (ρ : Rho) (S : Mem) : Option (Rho × Mem) := match ρ[i]?, ρ[j]? with
  | some (some (.fz (.loc n))), some (some (.own ds)) => match S.objs[n]? with
    | some (.ins c fs) => if T.isF c f = true ∧ fs.length < 1000 then some (ρ.set j none, ⟨S.objs.set n (.ins c (putR f (.own ds) fs))⟩) else none
    | _ => none
  | _, _ => none
abbrev WTURNS : Nat := 1000000
def apdO (i : Nat) (d : D) (ρ : Rho) : Option Rho := match ρ[i]? with
  | some (some (.own ds)) => if ds.length < LINE then some (ρ.set i (some (.own (ds ++ [d])))) else none
  | _ => none
/-- the list in slot i, one item at a place -/
def sstO (i : Nat) (k d : D) (ρ : Rho) : Option Rho := match ρ[i]?, k with
  | some (some (.own ds)), .int k => (L2.ixN ds.length k).map fun j => ρ.set i (some (.own (ds.set j d)))
  | _, _ => none
/-- .. one more at a place -/
def insO (i : Nat) (k d : D) (ρ : Rho) : Option Rho := match ρ[i]?, k with
  | some (some (.own ds)), .int k => if ds.length < LINE ∧ k = k.toNat ∧ k.toNat ≤ LINE then some (ρ.set i (some (.own (ds.take k.toNat ++ [d] ++ ds.drop k.toNat)))) else none
  | _, _ => none
def ownAt (i : Nat) (ρ : Rho) : Bool := match ρ[i]? with
  | some (some (.own _)) => true
  | _ => false
mutual
def denS (T : Tab) : LS → Rho → Mem → SRes
  | .stop, _, _ => .bad
  | .brk, ρ, S => .bk ρ S
  | .cnt, ρ, S => .ct ρ S
  | .whl c b, ρ, S => whLoop (fun ρ S => tstR (den T c ρ S)) (denSs T b) WTURNS ρ S
  | .sfd i f e, ρ, S => match den T e ρ S with
    | .ok r ρ S => match sfdO T i f r.d ρ S with
      | some S' => .nx ρ S'
      | none => .bad
    | .exc x ρ S => .exc x ρ S
    | .bad => .bad
  | .sfm i f j, ρ, S => match sfmO T i f j ρ S with
    | some p => .nx p.1 p.2
    | none => .bad
  | .sst i ie e, ρ, S => match den T e ρ S with
    | .ok r ρ S => if ownAt i ρ = false then .bad else match denB T ie ρ S with
      | .ok k ρ S => match sstO i k r.d ρ with
        | some ρ => .nx ρ S
        | none => .bad
      | .exc x ρ S => .exc x ρ S
      | .bad => .bad
    | .exc x ρ S => .exc x ρ S
    | .bad => .bad
  | .ins i ie e, ρ, S => if ownAt i ρ = false then .bad else match denB T ie ρ S with
    | .ok k ρ S => match den T e ρ S with
      | .ok r ρ S => match insO i k r.d ρ with
        | some ρ => .nx ρ S
        | none => .bad
      | .exc x ρ S => .exc x ρ S
      | .bad => .bad
    | .exc x ρ S => .exc x ρ S
    | .bad => .bad
  | .apx a e, ρ, S => match (den T a ρ S).bind fun x ρ S => match x with
      | .own ds => if ds.length < LINE then den T e ρ S else .bad
      | _ => .bad with
    | .ok _ ρ S => .nx ρ S
    | .exc x ρ S => .exc x ρ S
    | .bad => .bad
  | .apd i e, ρ, S => if ownAt i ρ = false then .bad else match den T e ρ S with
    | .ok r ρ S => match apdO i r.d ρ with
      | some ρ => .nx ρ S
      | none => .bad
    | .exc x ρ S => .exc x ρ S
    | .bad => .bad
  | .forr tg it b, ρ, S => match denIF T it ρ S with
    | .ok ds ρ S => forLoop tg (denSs T b) ds ρ S
    | .exc x ρ S => .exc x ρ S
    | .bad => .bad
  | .asg i e, ρ, S => match den T e ρ S with
    | .ok r ρ S => .nx (ρ.set i (some r)) S
    | .exc x ρ S => .exc x ρ S
    | .bad => .bad
  | .par i j a b, ρ, S => match (den T a ρ S).bind fun x ρ S => (den T b ρ S).bind fun y ρ S => .ok (x, y) ρ S with
    | .ok (x, y) ρ S => .nx ((ρ.set i (some x)).set j (some y)) S
    | .exc x ρ S => .exc x ρ S
    | .bad => .bad
  | .tas is e, ρ, S => match den T e ρ S with
    | .ok r ρ S => match Tg.put r.d ρ (.tup is) with
      | some ρ => .nx ρ S
      | none => .bad
    | .exc x ρ S => .exc x ρ S
    | .bad => .bad
  | .exp e, ρ, S => match den T e ρ S with
    | .ok _ ρ S => .nx ρ S
    | .exc x ρ S => .exc x ρ S
    | .bad => .bad
  | .ret e, ρ, S => match den T e ρ S with
    | .ok r _ S => .rt r S
    | .exc x ρ S => .exc x ρ S
    | .bad => .bad
  | .rtm i, ρ, S => match ρ[i]? with
    | some (some r) => .rt r S
    | _ => .bad
  | .retN, _, S => .rt (.fz .non) S
  | .iff c a b, ρ, S => match tstR (den T c ρ S) with
    | .ok k ρ S => if k = true then denSs T a ρ S else denSs T b ρ S
    | .exc x ρ S => .exc x ρ S
    | .bad => .bad
  | .pass, ρ, S => .nx ρ S
def denSs (T : Tab) : LSs → Rho → Mem → SRes
  | .nil, ρ, S => .nx ρ S
  | .cons s ss, ρ, S => match denS T s ρ S with
    | .nx ρ S => denSs T ss ρ S
    | r => r
end
/-- a def: np parameters, n slots, its body -/
def denDef (T : Tab) (np n : Nat) (b : LSs) : Fn := fun ds S =>
  if ds.length = np then
    match denSs T b (ds.map (fun d => some (.fz d)) ++ List.replicate (n - ds.length) none) S with
    | .nx _ S => .ok (.fz .non) S
    | .rt r S => .ok r S
    | .exc x _ S => .exc x S
    | _ => .bad
  else .bad
end Sh


/-! ShKit: what the kit has for lists, for tuples too; xs[::-1]; comparisons, len, repr of objects. -/
namespace Sh
open PySem PySem.Spec PyProof.Rows L2
/-! ### enumerate(tuple) -/
set_option maxHeartbeats 4000000 in
theorem meets_enumerate_newT {v : Value} {o : Obj} {H : Heap → Prop} (B : Begins v o H) :
    Meets (Builtin.«enumerate.__new__» ⟨[.type "enumerate", v], []⟩) (fun _ R s => H s.heap ∧
      R (.ok (.ret (.ref (s.heap.push o).objs.size))) { s with heap := (s.heap.push o).push { cls := .type "enumerate", data := .fields #[.none, .bool false, .ref s.heap.objs.size, rawInt 0, .none, .none] } }) :=
  .of_wp fun prog w A R s h => by
    obtain ⟨hp, g, d, tk, os⟩ := s; obtain ⟨h1, h⟩ := h
    have hsub := sub_enumerate
    have q1 : ∀ {A' : Around} {E : Value → Shared → Prop} {Q : Value → Shared → Prop}, Q (.ref hp.objs.size) ⟨hp.push o, g, d, tk, os⟩ → wpAny (model prog w) A' (pyIter v) Q E ⟨hp, g, d, tk, os⟩ :=
      fun q => B.iter prog w _ _ ⟨hp, g, d, tk, os⟩ _ h1 q
    wp_walk using q1
    refine wpAny_stack_any fun st => wpAny_pure ?_
    split
    · rename_i c _ _ _ _ _
      cases (c == Value.type "enumerate")
      · wp_walk using q1
        exact ⟨_, rfl, h⟩
      · wp_walk using q1
        exact ⟨_, rfl, h⟩
    · wp_walk using q1
      exact ⟨_, rfl, h⟩
theorem call_enumerate_tup {prog : Program} {w : World} {A : Around} {E : Value → Shared → Prop} {s : Shared} {t : Addr} {items : Array Value} {Q : Value → Shared → Prop} (hT : s.heap.IsTuple t items)
    (h : ∀ h', IsEnum h' (s.heap.objs.size + 1) s.heap.objs.size 0 .none → h'.IsTupleIter s.heap.objs.size t 0 → h'.objs.size = s.heap.objs.size + 2 →
      (∀ b o, s.heap.get? b = some o → h'.get? b = some o) → Q (.ref (s.heap.objs.size + 1)) { s with heap := h' }) :
    wpAny (model prog w) A (call (.type "enumerate") [.ref t]) Q E s := by
  have B := begins_tuple t items
  refine callType_new F.called_enumerate (by decide) (F.typeCall_enumerate_1 _) (F.newCall_enumerate_1 _) (fun obj => F.args_object_init_2 obj _) F.entry_enumerate_new
    (meets_enumerate_newT B) ⟨hT, ?_⟩
  have hz : (s.heap.push { cls := .type "tuple_iterator", data := .fields #[.ref t, .int 0 0] }).objs.size = s.heap.objs.size + 1 := Heap.size_push ..
  show _ ∧ _
  rw [hz]
  have he : IsEnum ((s.heap.push { cls := .type "tuple_iterator", data := .fields #[.ref t, .int 0 0] }).push
      { cls := .type "enumerate", data := .fields #[.none, .bool false, .ref s.heap.objs.size, rawInt 0, .none, .none] }) (s.heap.objs.size + 1) s.heap.objs.size 0 .none := by
    have := Heap.get?_push_size (s.heap.push { cls := .type "tuple_iterator", data := .fields #[.ref t, .int 0 0] })
      (o := { cls := .type "enumerate", data := .fields #[.none, .bool false, .ref s.heap.objs.size, rawInt 0, .none, .none] }) rfl
    rw [hz] at this; exact this
  refine ⟨⟨_, he, rfl⟩, h _ he ⟨_, Heap.get?_push_of_some _ (Heap.get?_push_size _ rfl), rfl, rfl⟩ (by rw [Heap.size_push, hz]) fun b o x => Heap.get?_push_of_some _ (Heap.get?_push_of_some _ x)⟩
/-- the tuple at a, each item in a new pair -/
def IteT (K : PySem.W.Frag) (a : Addr) : It :=
  ⟨fun i H => ∃ (xs : List V) (x : V), SqT K H a xs ∧ xs[i]? = some x, fun i H v H' => ∃ T x, v = .ref T ∧ H T = none ∧ H' = upd H T (.tup [.int (i : Nat), x]) ∧ ∀ xs, SqT K H a xs → xs[i]? = some x, fun i H => ∃ xs : List V, SqT K H a xs ∧ xs.length ≤ i⟩
theorem turn_enumT {P : Program} {w : World} {K : PySem.W.Frag} {elts : List Expr} {kk : Nat} {tpos : Pos} (a e it : Addr) :
    Turn P w K (.Tuple elts kk tpos) (IteT K a) [e, it] e (fun i h => (∃ old, IsEnum h e it ((i : Nat) : Int) old) ∧ h.IsTupleIter it a i ∧ e ≠ it) where
  mem := by simp
  obj := fun i h st b hb => by
    obtain ⟨⟨old, he⟩, ⟨o, ho, hc, hd⟩, _⟩ := st
    have e' : b = e ∨ b = it := by simpa using hb
    rcases e' with z | z
    · rw [z]; exact ⟨_, he, fun v q => nomatch q⟩
    · rw [z]; exact ⟨o, ho, fun v q => by rw [hd] at q; cases q⟩
  keep := fun i h h' st k => let ⟨⟨old, he⟩, hi, hne⟩ := st; ⟨⟨old, k e (by simp) _ he⟩, hi.at fun o q => k it (by simp) o q, hne⟩
  item := by
    intro X hP hw hK hc i pins s σ H E I hf st hg
    subst hP hw hK
    obtain ⟨⟨old, he⟩, hit, hne⟩ := st
    obtain ⟨xs, x, hq, hx⟩ := hg
    obtain ⟨its, rv, p, hz⟩ := I.tuple hq
    obtain ⟨u, hu, ru⟩ := rv.get hx
    have hel : e < s.heap.objs.size := Heap.lt_size he
    have hil : it < s.heap.objs.size := by obtain ⟨_, q, _⟩ := hit; exact Heap.lt_size q
    have pT : s.heap.IsTuple a its.toArray := p
    have hta : a ≠ it := fun z => by
      obtain ⟨o, h1, h2, _⟩ := id pT
      obtain ⟨o2, h3, h4, _⟩ := id hit
      rw [z] at h1
      rw [h1] at h3
      cases h3
      rw [h2] at h4
      exact absurd h4 (by decide)
    have hea : e ≠ a := fun z => by
      obtain ⟨o, h1, h2, _⟩ := id pT
      have he' : s.heap.get? e = some _ := he
      rw [← z] at h1
      rw [h1] at he'
      cases he'
      exact absurd h2 (by simp)
    have D := Draws.tuple (prog := X.prog) (w := X.w) (A := X.A.in1) (I.ok.hd hc) it a hta its.toArray
    refine wpAny_pyNext_enum_itemC (old := old) D he ⟨hit, pT⟩ (by
      have := (List.getElem?_eq_some_iff.mp hu).1
      simpa using this) hne (by simp [hne, hea]) fun x' h' tk hP' ho hst' hT hsz hk => ?_
    have ex : x' = u := by
      have h1 : its.toArray[i]? = some x' := hP'
      have h2 : its.toArray[i]? = some u := by simpa using hu
      rw [h1] at h2
      exact Option.some.inj h2
    subst ex
    refine ⟨_, rfl, wpAny_letOwnedTupleGo_enum (s := { s with heap := h', toks := tk + 1 }) ho fun h'' he' sb => ?_⟩
    have hT2 : h''.get? s.heap.objs.size = some { cls := .type "tuple", data := .seq #[.int i tk, x'] } := (sb.2 _ (Nat.ne_of_gt hel)).trans hT
    have new : ObjOk X.prog X.w (upd H s.heap.objs.size (.tup [.int (i : Nat), x])) h'' s.heap.objs.size (.tup [.int (i : Nat), x]) :=
      ⟨by show 2 ≤ sizeLine; decide, [.int i tk, x'], .cons ⟨_, rfl⟩ (.cons ru .nil), ⟨_, hT2, rfl, _, rfl⟩⟩
    have I1 : Inv X pins σ (upd H s.heap.objs.size (.tup [.int (i : Nat), x])) { s with heap := h'', toks := tk + 1 } :=
      I.turnedNew (ch := [e, it]) (fun b ob hb q => (sb.2 b (fun z => hb (by simp [z]))).trans (hk b ob (fun z => hb (by simp [z])) (fun z => hb (by simp [z])) q)) hf (Nat.le_refl _) new
    refine ⟨.ref s.heap.objs.size, _, I1, rfl, ⟨_, x, rfl, I.hok.fresh (Nat.le_refl _), rfl, fun ys hy => by rw [I.tuple_inj hy hq]; exact hx⟩, ⟨⟨x', ?_⟩, hst'.1.at fun o q => (sb.2 it (Ne.symm hne)).trans q, hne⟩, fun b hb => ?_⟩
    · have e1 : ((i + 1 : Nat) : Int) = (i : Int) + 1 := by omega
      rw [e1]; exact he'
    · have hb' : b < s.heap.objs.size := by
        have e' : b = e ∨ b = it := by simpa using hb
        rcases e' with z | z
        · rw [z]; exact hel
        · rw [z]; exact hil
      rw [upd_ne (Nat.ne_of_lt hb')]
      exact (hf b hb).1
  done := by
    intro X hP hw hK hc i pins s σ H E I hf st hg
    subst hP hw hK
    obtain ⟨⟨old, he⟩, hit, hne⟩ := st
    obtain ⟨xs, hq, hx⟩ := hg
    obtain ⟨its, rv, p, hz⟩ := I.tuple hq
    obtain ⟨f0, f1, f2, f3, f4, f5⟩ := hf it (by simp)
    have hl := rv.length
    have pT : s.heap.IsTuple a its.toArray := p
    have hta : a ≠ it := fun z => by
      obtain ⟨o, h1, h2, _⟩ := id pT
      obtain ⟨o2, h3, h4, _⟩ := id hit
      rw [z] at h1
      rw [h1] at h3
      cases h3
      rw [h2] at h4
      exact absurd h4 (by decide)
    have hT : s.TypeIs (.ref e) "enumerate" := ⟨_, he, rfl⟩
    unfold pyNext
    refine wpAny_bind (wpAny_attempt (wpAny_callSpecial?_slot (name := Str.ofString "__next__") hT F.slot_enumerate_next
      (wpAny_call_entry F.slot_enumerate_next hT F.entry_enumerate_next ?_ (F.args_enumerate_next_1 _))))
    show wpAny _ _ (field (.ref e) 2 >>= _) _ _ _
    refine wpAny_bind (wpAny_field he rfl (x := .ref it) rfl ?_)
    refine wpAny_bind (wpAny_nextOf_tuple_end (I.ok.hd hc) hit pT (by simp; omega) fun h' x he' hx' => ?_)
    obtain ⟨o, ho, hcl⟩ := hx'
    refine wpAny_bind (wpAny_isInstance (T := "StopIteration") (b := true) ⟨o, ho, hcl⟩ isSubtype_stop ?_)
    exact wpAny_pure ⟨rfl, I.turned (t' := s.toks) (fun b o hb e => he' b o hb e) f0 f1 f3 f4 f5⟩
  self := fun A i s Q E st h => let ⟨⟨_, he⟩, _⟩ := st; wpAny_pyIter_enum he h
/-- enumerate of a list or of a tuple -/
def iEnumA (K : PySem.W.Frag) (ta : TA) : TI := fun σ H R => ta σ H fun vs H1 => ∃ a xs, vs = [.ref a] ∧ ((SqL K H1 a xs ∧ R (Ite K a) H1) ∨ (SqT K H1 a xs ∧ R (IteT K a) H1))
theorem pi_enumA {X : Cx} {e : Expr} {ta : TA} {p pos tpos : Pos} {elts : List Expr} {kk : Nat} (hg : Gl X "enumerate") (hm : X.mg "enumerate" = none) (ha : PA X [e] ta) (hs : starEach [e] X.env = [(false, eval e X.env)] := by rfl) :
    PI X (.Tuple elts kk tpos) (.Call (.Name "enumerate" p) [e] [] pos) (iEnumA X.K ta) := by
  refine ⟨fun pins s σ H R I h => ?_⟩
  refine Call_ (ld_blt I hg hm boot_enumerate (PyProof.Rows.callWith_type1 (thn (ha.run pos pins s σ H _ I h) fun us s1 ⟨vs, H1, I1, r1, q1⟩ => ?_) hs rfl))
  obtain ⟨a, xs, ex, q⟩ := q1
  subst ex
  cases r1 with
  | cons r rr =>
    cases rr
    cases r
    have fp : ∀ b ∈ [s1.heap.objs.size + 1, s1.heap.objs.size], FpOk X pins H1 b := fun b hb => by
      have e' : b = s1.heap.objs.size + 1 ∨ b = s1.heap.objs.size := by simpa using hb
      have hle : s1.heap.objs.size ≤ b := by
        rcases e' with z | z
        · rw [z]; exact Nat.le_add_right _ _
        · rw [z]; exact Nat.le_refl _
      exact I1.fpOk hle (I1.hok.fresh hle)
    rcases q with ⟨hq, q⟩ | ⟨hq, q⟩
    · obtain ⟨its, rv, p', hz⟩ := I1.list hq
      refine call_enumerate_list p'.isList fun h' he hit hsz hk => wpAny_pyIter_enum he ?_
      have I2 : Inv X pins σ H1 { s1 with heap := h' } := I1.kept (t' := s1.toks) hk
      exact ⟨s1.heap.objs.size + 1, [s1.heap.objs.size + 1, s1.heap.objs.size], _, _, H1, rfl, I2, turn_enum a (s1.heap.objs.size + 1) s1.heap.objs.size, ⟨⟨.none, he⟩, hit, Nat.succ_ne_self _⟩, fp, q⟩
    · obtain ⟨its, rv, p', hz⟩ := I1.tuple hq
      have pT : s1.heap.IsTuple a its.toArray := p'
      refine call_enumerate_tup pT fun h' he hit hsz hk => wpAny_pyIter_enum he ?_
      have I2 : Inv X pins σ H1 { s1 with heap := h' } := I1.kept (t' := s1.toks) hk
      exact ⟨s1.heap.objs.size + 1, [s1.heap.objs.size + 1, s1.heap.objs.size], _, _, H1, rfl, I2, turn_enumT a (s1.heap.objs.size + 1) s1.heap.objs.size, ⟨⟨.none, he⟩, hit, Nat.succ_ne_self _⟩, fp, q⟩
/-! ### xs[::-1] -/
def tRev (K : PySem.W.Frag) (te : TE) : TE := fun σ H Q => te σ H fun x H1 => ∃ a xs, x = .ref a ∧ SqL K H1 a xs ∧ ∀ p, H1 p = none → Q (.ref p) (upd H1 p (.lst xs.reverse))
theorem pe_rev {X : Cx} {e : Expr} {te : TE} {p1 p2 p3 pos : Pos} {j : Nat} (he : PE X e te) : PE X (.Subscript e (.Slice none none (some (.UnaryOp .USub (.Constant (.int 1) j p1) p2)) p3) pos) (tRev X.K te) := by
  refine ⟨fun pins s σ H Q I h => ?_⟩
  refine Subscript_ (thn (he.run pins s σ H _ I h) fun v s1 ⟨x, H1, I1, r1, a, xs, ex, hq, q1⟩ => ?_)
  subst ex
  obtain rfl : v = Value.ref a := r1
  refine wpAny_Slice ?_
  rw [evalPart_none]
  refine wpAny_pure (wpAny_pure ?_)
  have pn : PE X (.UnaryOp .USub (.Constant (.int 1) j p1) p2) (fun σ H Q => Q (.int (-1)) H) := ⟨fun pins s σ H Q I q => (pe_un un_neg pe_int).run pins s σ H Q I ⟨1, rfl, q⟩⟩
  show wpAny _ _ (eval _ X.env) _ _ _
  refine thn (pn.run pins s1 σ H1 (fun x H2 => x = .int (-1) ∧ H2 = H1) I1 ⟨rfl, rfl⟩) fun u s2 ⟨z, H2, I2, rz, ez, eh⟩ => ?_
  subst ez eh
  obtain ⟨tk, rfl⟩ := (show ∃ t, u = Value.int (-1) t from rz)
  obtain ⟨its, r, ht, hz⟩ := I2.list hq
  have hlen := r.length
  have I4 : Inv X pins σ H2 { s2 with heap := s2.heap.push { cls := .type "slice", data := .fields #[.none, .none, .int (-1) tk] } } := I2.kept (t' := s2.toks) fun b ob q => Heap.get?_push_of_some _ q
  obtain ⟨its', r', ht', hz'⟩ := I4.list hq
  have hlen' := r'.length
  show wpAny (model X.prog X.w) X.A (subscriptTail e _ (.ref a) (.ref s2.heap.objs.size)) (EP X pins σ Q) X.xe { s2 with heap := s2.heap.push { cls := .type "slice", data := .fields #[.none, .none, .int (-1) tk] } }
  refine tail_any (T := "list") (ops := [.ref a, .ref s2.heap.objs.size]) ht'.isList.typeIs slot_list_getitem.lookup ?_ (by with_unfolding_all rfl)
  refine wpAny_getItem_list_slice ht'.isList (Heap.IsSliceOf.new ..) .none .none (.int (-1) tk) (by simp) ?_ (by rw [List.size_toArray] <;> omega)
  rw [PySem.W.krv_pick]
  refine ⟨.ref _, _, I4.laid (t' := s2.toks) (o := .lst xs.reverse) (fun b ob q => Heap.get?_push_of_some _ q) (Nat.le_refl _) ?_, rfl, q1 _ (I4.hok.fresh (Nat.le_refl _))⟩
  refine ⟨by rw [List.length_reverse]; omega, its'.reverse, 0, ?_, Heap.get?_push_size _ rfl⟩
  exact r'.reverse
/-! ### != by an own == -/
theorem ne_K {prog : Program} {w : World} {A : Around} {E : Value → Shared → Prop} {s : Shared} {K : PySem.W.Frag} {x C L f : Addr} {h₀ : Heap} {m : Str → Option Value} {ox : Obj} {od : Option Obj} {b tb : Value} {Q : Value → Shared → Prop}
    (hu : A.units + 1 < cLine) (F : Fr h₀ L s.heap m) (X₀ : K.In h₀) (I : PySem.W.InstAt s.heap x ox C od) (hb : PySem.W.Looks (model prog w) s.heap (typeOf b) tb) (hn : PySem.W.notFirst K C tb = true)
    (hs : PySem.W.findIn K (.ref C) "__ne__" = some (some (.builtin "object.__ne__"))) (he : PySem.W.findIn K (.ref C) "__eq__" = some (some (.ref f))) (hf : PySem.W.isFn K (.ref f) = true) (hm : PySem.W.mroIn K C (.type "object") = some true)
    (h : wpAny (model prog w) A.in1 (call (.ref f) [.ref x, b]) (fun v s' => ∃ k, v = .bool k ∧ Q (.bool (!k)) s') E s) : wpAny (model prog w) A (richCompare .NotEq (.ref x) b) Q E s := by
  have X := X₀.keeps F.keep
  have hu0 : A.units < cLine := Nat.lt_of_succ_lt hu
  have body : wpAny (model prog w) A.in1 (Builtin.«object.__ne__» ⟨[.ref x, b], []⟩) (fun fin s' => ∃ v, fin = .done (.ret v) ∧ (v ≠ .notImplemented ∧ Q v s')) E s := by
    unfold Builtin.«object.__ne__»
    refine wpAny_bind (m := slotArgs "__ne__" 1 _) (wpAny_pure ?_)
    refine wpAny_bind (wpAny_cRoomFor (A := A.in1) hu ?_)
    refine wpAny_bind (m := callSpecialIfBound? (.ref x) (Str.ofString "__eq__") _) (PySem.W.ifBound_K X I he hf (wpAny_mono h (fun v s' hv => ?_) fun _ _ e => e))
    obtain ⟨k, rfl, q⟩ := hv
    refine wpAny_bind (m := truthy _) (wpAny_pure ?_)
    exact wpAny_pure ⟨_, rfl, by simp, q⟩
  have one : wpAny (model prog w) A (tryCompare (.ref x) "__ne__" b) (fun r s' => ∃ v, r = some v ∧ Q v s') E s := by
    unfold tryCompare
    have go : wpAny (model prog w) A (call (.builtin "object.__ne__") [.ref x, b]) (fun v s' => v ≠ .notImplemented ∧ Q v s') E s := by
      refine wpAny_call (codeAny_call_builtin PySem.F.cmp_object.ne.plain PySem.F.cmpEntry_ne ?_)
      simp only [checkBuiltinCall, PySem.F.cmpKind_ne, PySem.F.cmpSplit_ne]
      refine wpAny_bind ?_
      unfold isInstance
      refine wpAny_bind (I.type.here ((PySem.W.looks_mroIn X hm).here ?_))
      simp only [Bool.not_true, Bool.false_eq_true, if_false]
      have ha := PySem.F.cmpArgs_ne (.ref x) b
      cases hsig : Manifest.signature? "object.__ne__" with
      | none =>
        refine wpAny_pure (wpAny_mono body (fun fin s' ⟨v, e, q⟩ => ?_) fun _ _ e => e)
        subst e
        exact q
      | some sig =>
        simp only [argsOk, hsig] at ha
        have h2 : Bind.checkArgs "object.__ne__" sig ⟨[.ref x, b], []⟩ = pure () := ha
        show wpAny _ _ (Bind.checkArgs "object.__ne__" sig ⟨[.ref x, b], []⟩) _ E _
        rw [h2]
        refine wpAny_pure (wpAny_mono body (fun fin s' ⟨v, e, q⟩ => ?_) fun _ _ e => e)
        subst e
        exact q
    have fin : wpAny (model prog w) A (call (.builtin "object.__ne__") ([.ref x] ++ [b]) >>= fun v => pure (some v)) (fun r s' => ∃ v, r = some v ∧ v ≠ .notImplemented ∧ Q v s') E s := wpAny_bind (wpAny_mono go (fun v s' h' => wpAny_pure ⟨v, rfl, h'⟩) fun _ _ h' => h')
    have sp : wpAny (model prog w) A (callSpecialIfBound? (.ref x) "__ne__" [b]) (fun r s' => ∃ v, r = some v ∧ v ≠ .notImplemented ∧ Q v s') E s := by
      simp only [callSpecialIfBound?, bindSpecialIfBound?]
      refine wpAny_holding (wpAny_bind (wpAny_bind (wpAny_bind (I.type.here ((PySem.W.looks_findIn X hs).here ?_)))))
      simp only [PySem.F.cmp_object.ne.bind]
      refine wpAny_bind (wpAny_askSetting (wpAny_ite ?_))
      split
      · exact wpAny_bind (wpAny_pure (wpAny_pure fin))
      · exact wpAny_tryCatch (wpAny_bind (wpAny_pure (wpAny_pure fin)))
    refine wpAny_bind (wpAny_mono sp (fun r s' ⟨v, e, n, q⟩ => ?_) fun _ _ e => e)
    subst e
    cases v <;> first | exact (n rfl).elim | exact wpAny_pure ⟨_, rfl, q⟩
  unfold richCompare
  simp only [oneThing_ref]
  refine wpAny_holding (wpAny_bind (wpAny_cRoomFor hu0 ?_))
  refine wpAny_bind (I.type.here (wpAny_bind (hb.here ?_)))
  split
  · rename_i q
    have e : PySem.W.subIn K tb (.ref C) = some false := by
      rcases Bool.or_eq_true_iff.mp hn with e | e
      · rw [beq_iff_eq.mp e] at q; simp at q
      · exact beq_iff_eq.mp e
    refine wpAny_bind ((PySem.W.looks_subIn X e).here ?_)
    simp only [Bool.false_eq_true, if_false]
    refine wpAny_bind (wpAny_mono one (fun r s' z => ?_) fun _ _ e => e)
    obtain ⟨v, rfl, hq⟩ := z
    exact wpAny_pure hq
  · refine wpAny_bind (wpAny_pure ?_)
    simp only [Bool.false_eq_true, if_false]
    refine wpAny_bind (wpAny_mono one (fun r s' z => ?_) fun _ _ e => e)
    obtain ⟨v, rfl, hq⟩ := z
    exact wpAny_pure hq
/-! ### x in a tuple of data -/
theorem op_inT {X : Cx} (hu : X.A.units + 65 < cLine) : OpR X (compareOp .In) (fun x y H Q => ∃ d ds, Dp X.K H x d ∧ Dp X.K H y (.tuple ds) ∧ SeqAt.shaped d = true ∧ SeqAt.shaped (.tuple ds) = true ∧ Q (.bl (ds.any fun z => PyData.eqv z d)) H) := by
  intro pins s σ H x y v u Q I rx ry h
  obtain ⟨d, ds, hd, he, sd, se, q⟩ := h
  obtain ⟨as, r1⟩ := Dp.reads I d x v hd rx
  obtain ⟨bs, r2⟩ := Dp.reads I (.tuple ds) y u he ry
  exact SeqAt.in_tuple_reads r2 r1 (SeqAt.canLay_of_shaped se) (SeqAt.canLay_of_shaped sd) (room_in_shaped sd hu) ⟨.bl _, H, I, rfl, q⟩
end Sh


/-! ShSet: len(set(xs)), xs a list of texts: how many different ones. -/
namespace Sh
open PySem PySem.Spec PyProof.Rows L2
theorem cntS_le (xs : List Str) : ∀ i, cntS xs i ≤ i
  | 0 => Nat.le_refl _
  | i + 1 => by
    have := cntS_le xs i
    unfold cntS
    split <;> omega
section
variable {prog : Program} {w : World} {A : Around} {R : Result → Shared → Prop} {I : Addr} {fp wr : List Addr} {G : Array GenState → Array GenState → Prop} {n : Nat} {P : Nat → Value → Prop} {St : Nat → Shared → Prop}
theorem setOf_move {h h' : Heap} {a : Addr} {f : Str → Bool} {k : Nat} (S : h.SetOf (PySem.strKind prog w) a f k) (e : ∀ o, h.get? a = some o → h'.get? a = some o) : h'.SetOf (PySem.strKind prog w) a f k :=
  let ⟨o, es, ep, t, ho, r⟩ := S
  ⟨o, es, ep, t, e o ho, r⟩
theorem snoc_any {xs : List Str} {i : Nat} (h : i < xs.length) (y : Str) : ((xs.take i).any (· == y) || decide (y = xs.getD i Str.empty)) = (xs.take (i + 1)).any (· == y) := by
  rw [List.take_add_one, List.getElem?_eq_getElem h, List.any_append, List.getD_eq_getElem?_getD, List.getElem?_eq_getElem h]
  congr 1
  show decide (y = xs[i]) = ([xs[i]].any (· == y))
  by_cases e : y = xs[i]
  · simp [e]
  · have : (xs[i] == y) = false := by simpa using fun z : xs[i] = y => e z.symm
    simp [e, this]
theorem fill (W : WalksS prog w A.in1 I fp wr G n P St) (a : Addr) (ha : a ∉ fp) (xs : List Str) (hx : xs.length = n) (hb : n + 1 < scanBound) (hv : ∀ i v, P i v → ∃ t, v = .str (xs.getD i Str.empty) t) :
    ∀ (k i : Nat) (s : Shared), i + k = n → St i s → s.heap.SetOf (PySem.strKind prog w) a (fun y => (xs.take i).any (· == y)) (cntS xs i) →
      (∀ s', Moved (a :: wr) G s s' → s'.heap.SetOf (PySem.strKind prog w) a (fun y => (xs.take n).any (· == y)) (cntS xs n) → R (.ok (.ret .none)) s') →
      codeAny (model prog w) A (.builtin "set.update.loop" ⟨[.ref a, .ref I], []⟩) R s := by
  have hw : a ∉ wr := fun h => ha (W.sub _ h)
  have wide : ∀ b ∈ wr, b ∈ a :: wr := fun b h => List.mem_cons_of_mem _ h
  intro k
  induction k with
  | zero =>
    intro i s hi st hS q
    have : i = n := by omega
    subst this
    refine codeAny_builtin PyProof.Rows.F.entry_set_update_loop ?_
    rw [Around.under_plainId PyProof.Rows.F.plain_set_update_loop _]
    show wpAny _ A.in1 (pyNext (.ref I) >>= _) _ _ s
    refine wpAny_bind (W.done s _ _ st fun s' hm => ?_)
    show wpAny _ A.in1 (ret Value.none) _ _ s'
    exact wpAny_pure (q s' (hm.mono wide) (setOf_move hS fun o e => hm.heap a o hw e))
  | succ k ih =>
    intro i s hi st hS q
    have lt : i < n := by omega
    refine codeAny_builtin PyProof.Rows.F.entry_set_update_loop ?_
    rw [Around.under_plainId PyProof.Rows.F.plain_set_update_loop _]
    show wpAny _ A.in1 (pyNext (.ref I) >>= _) _ _ s
    refine wpAny_bind (W.item i s _ _ lt st fun v s' hP st' hm => ?_)
    obtain ⟨t, rfl⟩ := hv i v hP
    have hS' := setOf_move (h' := s'.heap) hS fun o e => hm.heap a o hw e
    have cl := cntS_le xs i
    show wpAny _ A.in1 (holding [Value.str (xs.getD i Str.empty) t] (setAdd a (.str (xs.getD i Str.empty) t)) >>= _) _ _ s'
    refine wpAny_bind (wpAny_holding ?_)
    unfold setAdd
    refine wpAny_holding ?_
    refine wpAny_bind ((PySem.strKind prog w).pyHash (k := xs.getD i Str.empty) (strKind_is _ _ _ _) ?_)
    refine wpAny_setAddHashed_of (knd := PySem.strKind prog w) (s := { s' with toks := s'.toks + 1 }) (strKind_is _ _ _ _) rfl hS' (by omega) fun h' hsb hS2 => ?_
    have hS3 : h'.SetOf (PySem.strKind prog w) a (fun y => (xs.take (i + 1)).any (· == y)) (cntS xs (i + 1)) := SetOf_congr hS2 (fun y => snoc_any (by omega) y) rfl
    refine wpAny_pure ⟨plainId_quiet PyProof.Rows.F.plain_set_update_loop _, ih (i + 1) _ (by omega) (W.frame _ s' _ _ st' (Nat.le_succ _) fun b hbf o e => ?_) hS3 fun s2 hm2 hE => ?_⟩
    · rw [hsb.2 b fun z : b = a => ha (by rw [← z]; exact hbf)]
      exact e
    · refine q s2 (Moved.trans W.gtrans ((hm.mono wide).then_heap (Nat.le_succ _) fun b o hbn e => ?_) hm2) hE
      rw [hsb.2 b fun z : b = a => hbn (by rw [z]; exact List.mem_cons_self)]
      exact e
end
section
variable {prog : Program} {w : World} {A : Around} {E : Value → Shared → Prop} {s : Shared}
abbrev newSet (led : Bool) : Obj := { cls := .type "set", dict := none, data := .set #[] 0 (.fresh 0 0 led) }
/-- set(l), l a list of texts -/
theorem set_texts {l : Addr} {items : Array Value} {xs : List Str} {Q : Value → Shared → Prop} (hh : A.handled = none) (hl : s.heap.IsList l items) (hi : PyProof.Rows.StrsAre items.toList xs) (hb : items.size + 1 < scanBound)
    (h : ∀ (h' : Heap) (tk : Nat), h'.SetOf (PySem.strKind prog w) s.heap.objs.size (fun y => (xs.take items.size).any (· == y)) (cntS xs items.size) → (∀ b o, s.heap.get? b = some o → h'.get? b = some o) → Q (.ref s.heap.objs.size) { s with heap := h', toks := tk }) :
    wpAny (model prog w) A (call (.type "set") [.ref l]) Q E s := by
  obtain ⟨c, tl, hmro⟩ := PySem.F.called_set.mro
  have hmade := PySem.F.called_set.made
  have hsub := PySem.F.called_set.sub
  have h1 := PySem.F.called_set.notType
  have h2 := PySem.F.called_set.canCreate
  have hct := PySem.F.typeCall_set_1 (.ref l)
  refine wpAny_call (codeAny_of_tree ?_)
  show wpAny _ _ (callAny (.type "set") _) _ _ _
  refine wpAny_pure ⟨Code.quiet_builtin _ (by decide +kernel), codeAny_builtin PySem.F.entry_type_call ?_⟩
  rw [Around.under_plain (weight_type_call_type "set" [.ref l] []) rfl]
  repeat (any_goals (first | assumption | wp_step))
  refine codeAny_mono (code_set_new_1 (.ref l) (E := E) (Q₁ := fun x s1 => ∃ led : Bool, x = .ref s.heap.objs.size ∧ s1 = { s with heap := s.heap.push (newSet led) }) fun led => ⟨led, rfl, rfl⟩) fun r s1 hr => ?_
  rcases r with e | fl
  · exact hr
  rcases fl with obj | _ | _ | _ <;> first | exact hr.elim | skip
  obtain ⟨led, rfl, rfl⟩ := hr
  have hS : (s.heap.push (newSet led)).get? s.heap.objs.size = some (newSet led) := Heap.get?_push_size _ rfl
  have hT : Shared.TypeIs { s with heap := s.heap.push (newSet led) } (.ref s.heap.objs.size) "set" := ⟨_, hS, rfl⟩
  have hli := PySem.F.called_set.init.lookup
  have hbi := PySem.F.called_set.init.bind (.ref s.heap.objs.size)
  repeat (any_goals (first | assumption | wp_step))
  refine codeAny_mono (codeAny_call_builtin (R := wants (fun r s2 => r = .none ∧ ∃ h' tk, s2 = { s with heap := h', toks := tk } ∧ h'.SetOf (PySem.strKind prog w) s.heap.objs.size (fun y => (xs.take items.size).any (· == y)) (cntS xs items.size) ∧ ∀ b o, s.heap.get? b = some o → h'.get? b = some o) E)
    PySem.F.called_set.init.plain PySem.F.entry_set_init (check_set_init_1 hT ?_)) fun r2 s2 hr2 => ?_
  · have hl0 := hl
    obtain ⟨⟨ocls, odict, odata, oslots⟩, hol, hcl, nl, hdl⟩ := hl0
    simp only at hcl hdl
    subst hcl hdl
    have lt : l < s.heap.objs.size := Heap.lt_size hol
    have hol' : (s.heap.push (newSet led)).get? l = some { cls := .type "list", dict := odict, data := .seq items nl, slots := oslots } := Heap.get?_push_of_some _ hol
    have hl1 : (s.heap.push (newSet led)).IsList l items := ⟨_, hol', rfl, nl, rfl⟩
    have hsls := PySem.F.sub_list_set
    have hslf := PySem.F.sub_list_frozenset
    have hne : (Value.type "list" == Value.type "dict") = false := by decide
    unfold Builtin.«set.__init__» noKeywords Builtin.Frozenset.updateFrom
    generalize hPI : pyIter = PI
    wp_walk
    subst hPI
    refine wpAny_pyIter_list hl1 (wpAny_bind (wpAny_runValue ?_))
    have hz : (s.heap.push (newSet led)).objs.size = s.heap.objs.size + 1 := Heap.size_push ..
    have hx : xs.length = items.size := by rw [← StrsAre.len_eq hi, Array.length_toList]
    refine fill ((Walks.list (show A.in1.in1.in1.handled = none by simp [hh]) _ l (Nat.ne_of_lt (by rw [hz]; exact Nat.lt_succ_of_lt lt)) items).toS) s.heap.objs.size (by
        rw [hz]
        simp only [List.mem_cons, List.not_mem_nil, or_false, not_or]
        exact ⟨Nat.ne_of_lt (Nat.lt_succ_self _), Nat.ne_of_gt lt⟩) xs hx hb
      (fun i v hv => SS.strs_at hi i v (by rw [Array.getElem?_toList]; exact hv)) items.size 0 _ (Nat.zero_add _) ⟨⟨_, Heap.get?_push_size _ rfl, rfl, rfl⟩, hl1.push _⟩ ?s0 ?sn
    case s0 => exact SetOf_congr ((setObjOf_fresh (knd := PySem.strKind prog w) led).setOf (Heap.get?_push_of_some _ hS) (by unfold scanBound; omega)) (fun _ => rfl) rfl
    case sn =>
      intro s' hm hE
      obtain ⟨h', g', d', tk', os'⟩ := s'
      obtain rfl : g' = s.gens := hm.gens
      obtain rfl : d' = s.drawn := hm.drawn
      obtain rfl : os' = s.os := hm.os
      show wpAny _ _ _ _ _ _
      refine wpAny_pure ?_
      show wpAny _ _ (ret Value.none) _ _ _
      refine wpAny_pure ⟨rfl, h', tk', rfl, hE, fun b o e => ?_⟩
      have hb0 := Heap.lt_size e
      exact hm.heap b o (by
        rw [hz]
        simp only [List.mem_cons, List.not_mem_nil, or_false, not_or]
        exact ⟨Nat.ne_of_lt hb0, Nat.ne_of_lt (Nat.lt_succ_of_lt hb0)⟩) (Heap.get?_push_of_some _ (Heap.get?_push_of_some _ e))
  · rcases r2 with e | fl
    · exact hr2
    rcases fl with r | _ | _ | _ <;> first | exact hr2.elim | skip
    obtain ⟨rfl, h', tk, rfl, hE, hk⟩ := hr2
    repeat (any_goals (first | assumption | wp_step))
    exact h _ _ hE hk
end
section
variable {X : Cx}
theorem strsAre : ∀ {ys : List Str} {us : List Value}, Vals (ys.map V.str) us → StrsAre us ys
  | [], _, .nil => .nil
  | y :: ys, _, .cons r t => by
    obtain ⟨k, rfl⟩ := r
    exact .cons y k (strsAre t)
/-- len(set(xs)) -/
def tLens (K : PySem.W.Frag) (ta : TE) : TE := fun σ H Q => ta σ H fun x H1 => ∃ (l : Addr) (xs : List Str), x = .ref l ∧ SqL K H1 l (xs.map V.str) ∧ xs.length ≤ 1000 ∧ Q (.int (cntS xs xs.length : Nat)) H1
theorem pe_lens {a : Expr} {ta : TE} {p p2 q pos : Pos} (hc : X.calm = true) (hg : Gl X "len") (hm : X.mg "len" = none) (hg2 : Gl X "set") (hm2 : X.mg "set" = none) (ha : PE X a ta)
    (na : starEach [a] X.env = (false, eval a X.env) :: starEach [] X.env := by rfl) : PE X (.Call (.Name "len" p) [.Call (.Name "set" p2) [a] [] q] [] pos) (tLens X.K ta) := by
  refine ⟨fun pins s σ H Q I h => ?_⟩
  refine Call_ (ld_blt I hg hm boot_len (PyProof.Rows.callWith_builtin1 (PyProof.Rows.args_cons ?_ rfl) rfl rfl))
  refine Call_ (ld_blt I hg2 hm2 boot_set (PyProof.Rows.callWith_type1 (PyProof.Rows.args_cons (thn (ha.run pins s σ H _ I h) fun v s1 ⟨x, H1, I1, r1, q1⟩ => PyProof.Rows.args_nil ?_) na) na rfl))
  obtain ⟨l, xs, rfl, hq, hl, q1⟩ := q1
  cases r1
  obtain ⟨its, r, pl, hz⟩ := I1.list hq
  have hn : its.toArray.size = xs.length := by rw [List.size_toArray, ← r.length, List.length_map]
  have cl := cntS_le xs xs.length
  refine set_texts (I1.ok.hd hc) pl.isList (by simpa using strsAre r) (by rw [hn]; unfold scanBound; omega) fun h' tk hS hk => PyProof.Rows.args_nil ?_
  rw [hn] at hS
  obtain ⟨o, es, ep, t, ho, hex, hd, _, _, _, hf, he⟩ := hS
  have I2 : Inv X pins σ H1 { s1 with heap := h', toks := tk } := I1.kept fun b o e => hk b o e
  exact call_len_set ho hex hd hf (by rw [he]; omega) ⟨.int (cntS xs xs.length : Nat), H1, I2.tok _, ⟨_, by rw [he]⟩, q1⟩
end
end Sh


/-! ShZip: zip of a tuple with a list. -/
namespace Sh
open PySem PySem.Spec PyProof.Rows L2 RZ
/-- the tuple at a and the list at b, the items in new pairs -/
def ItzM (K : PySem.W.Frag) (a b : Addr) : It :=
  ⟨fun i H => ∃ (xs ys : List V) (x y : V), SqT K H a xs ∧ SqL K H b ys ∧ xs[i]? = some x ∧ ys[i]? = some y,
    fun i H v H' => ∃ T x y, v = .ref T ∧ H T = none ∧ H' = upd H T (.tup [x, y]) ∧ (∀ xs, SqT K H a xs → xs[i]? = some x) ∧ ∀ ys, SqL K H b ys → ys[i]? = some y,
    fun i H => ∃ xs ys : List V, SqT K H a xs ∧ SqL K H b ys ∧ i = min xs.length ys.length⟩
theorem sepM {z TI TO i1 i2 a b : Addr} (D : ZipApart z TI TO i1 i2 a b) : ZipSep2 z TI TO i1 i2 [i1, a] [i2, b] := by
  have h := D
  constructor
  all_goals first
    | exact D.TIz
    | exact D.TOz
    | exact D.TITO
    | exact D.TIi1
    | exact D.TIi2
    | exact List.mem_cons_self
    | (simp only [List.mem_cons, List.not_mem_nil, or_false, not_or]
       first
         | exact ⟨D.i1z.symm, D.l1z.symm⟩
         | exact ⟨D.i2z.symm, D.l2z.symm⟩
         | exact ⟨D.TOi1, D.l1TO.symm⟩
         | exact ⟨D.TOi2, D.l2TO.symm⟩
         | exact ⟨D.i12, D.l2i1.symm⟩
         | exact ⟨D.i12.symm, D.l1i2.symm⟩)
theorem turn_zipM {P : Program} {w : World} {K : PySem.W.Frag} {elts : List Expr} {kk : Nat} {tpos : Pos} {a b z TI TO i1 i2 : Addr} (D : ZipApart z TI TO i1 i2 a b) :
    Turn P w K (.Tuple elts kk tpos) (ItzM K a b) [z, TI, TO, i1, i2] z (fun i h => IsZip h z TI TO .none ∧ IsTupOf2 h TI (.ref i1) (.ref i2) ∧ (∃ x y, IsTupOf2 h TO x y) ∧ h.IsTupleIter i1 a i ∧ h.IsListIter i2 b i) where
  mem := by simp
  obj := fun i h st c hc => by
    obtain ⟨hz, hTI, ⟨x, y, hTO⟩, ⟨o1, e1, _, d1⟩, ⟨o2, e2, _, d2⟩⟩ := st
    simp only [List.mem_cons, List.not_mem_nil, or_false] at hc
    rcases hc with rfl | rfl | rfl | rfl | rfl
    · exact ⟨_, hz, fun v q => nomatch q⟩
    · exact ⟨_, hTI, fun v q => nomatch q⟩
    · exact ⟨_, hTO, fun v q => nomatch q⟩
    · exact ⟨o1, e1, fun v q => by rw [d1] at q; cases q⟩
    · exact ⟨o2, e2, fun v q => by rw [d2] at q; cases q⟩
  keep := fun i h h' st k => by
    obtain ⟨hz, hTI, ⟨x, y, hTO⟩, h1, h2⟩ := st
    exact ⟨k z (by simp) _ hz, k TI (by simp) _ hTI, ⟨x, y, k TO (by simp) _ hTO⟩, h1.at fun o q => k i1 (by simp) o q, h2.at fun o q => k i2 (by simp) o q⟩
  item := by
    intro X hP hw hK hc i pins s σ H E I hf st hg
    subst hP hw hK
    obtain ⟨hz, hTI, ⟨x0, y0, hTO⟩, h1, h2⟩ := st
    obtain ⟨xs, ys, x, y, hqx, hqy, hx, hy⟩ := hg
    obtain ⟨its, rv, p, _⟩ := I.tuple hqx
    obtain ⟨its2, rv2, p2, _⟩ := I.list hqy
    obtain ⟨u, hu, ru⟩ := rv.get hx
    obtain ⟨u2, hu2, ru2⟩ := rv2.get hy
    have hzl : z < s.heap.objs.size := Heap.lt_size hz
    have hh : X.A.in1.handled = none := by simp [I.ok.hd hc]
    have lt1 : i < its.toArray.size := by simpa using (List.getElem?_eq_some_iff.mp hu).1
    have lt2 : i < its2.toArray.size := by simpa using (List.getElem?_eq_some_iff.mp hu2).1
    refine wpAny_pyNext_zipD2_item (sepM D) (Draws.tuple hh i1 a D.l1i1 its.toArray) (Draws.list hh i2 b D.l2i2 its2.toArray) hz hTI hTO ⟨h1, p⟩ ⟨h2, p2.isList⟩ lt1 lt2 fun v1 v2 h' tk e1 e2 z' TO' s1 s2 hT hsz hk => ?_
    obtain rfl : u = v1 := by
      have e1 : its.toArray[i]? = some v1 := e1
      rw [List.getElem?_toArray, hu] at e1
      exact Option.some.inj e1
    obtain rfl : u2 = v2 := by
      have e2 : its2.toArray[i]? = some v2 := e2
      rw [List.getElem?_toArray, hu2] at e2
      exact Option.some.inj e2
    refine ⟨_, rfl, wpAny_letOwnedTupleGo_zip (s := { s with heap := h', toks := tk }) z' fun h'' z'' sb => ?_⟩
    have hT2 : h''.get? s.heap.objs.size = some { cls := .type "tuple", data := .seq #[u, u2] } := (sb.2 _ (Nat.ne_of_gt hzl)).trans hT
    have new : ObjOk X.prog X.w (upd H s.heap.objs.size (.tup [x, y])) h'' s.heap.objs.size (.tup [x, y]) :=
      ⟨by show 2 ≤ sizeLine; decide, [u, u2], .cons ru (.cons ru2 .nil), ⟨_, hT2, rfl, _, rfl⟩⟩
    have I1 : Inv X pins σ (upd H s.heap.objs.size (.tup [x, y])) { s with heap := h'', toks := tk } :=
      I.turnedNew (t' := tk) (ch := [z, TI, TO, i1, i2]) (fun c o hb q => (sb.2 c (fun q' => hb (by simp [q']))).trans (hk c o (fun q' => hb (by simp [q'])) (fun q' => hb (by simp [q'])) (fun q' => hb (by simp [q'])) (fun q' => hb (by simp [q'])) q)) hf (Nat.le_refl _) new
    refine ⟨.ref s.heap.objs.size, _, I1, rfl, ⟨_, x, y, rfl, I.hok.fresh (Nat.le_refl _), rfl, fun l hl => by rw [I.tuple_inj hl hqx]; exact hx, fun l hl => by rw [I.list_inj hl hqy]; exact hy⟩, ⟨z'', ?_, ⟨u, u2, ?_⟩, ?_, ?_⟩, fun c hcm => ?_⟩
    · exact (sb.2 _ D.TIz).trans (hk _ _ D.TIz D.TITO D.TIi1 D.TIi2 hTI)
    · exact (sb.2 _ D.TOz).trans TO'
    · exact s1.1.at fun o q => (sb.2 _ D.i1z).trans q
    · exact s2.1.at fun o q => (sb.2 _ D.i2z).trans q
    · have hlt : c < s.heap.objs.size := by
        simp only [List.mem_cons, List.not_mem_nil, or_false] at hcm
        rcases hcm with rfl | rfl | rfl | rfl | rfl
        · exact hzl
        · exact Heap.lt_size hTI
        · exact Heap.lt_size hTO
        · obtain ⟨_, e1, _⟩ := h1; exact Heap.lt_size e1
        · obtain ⟨_, e2, _⟩ := h2; exact Heap.lt_size e2
      rw [upd_ne (Nat.ne_of_lt hlt)]
      exact (hf c hcm).1
  done := by
    intro X hP hw hK hc i pins s σ H E I hf st hg
    subst hP hw hK
    obtain ⟨hz, hTI, ⟨x0, y0, hTO⟩, h1, h2⟩ := st
    obtain ⟨xs, ys, hqx, hqy, hend⟩ := hg
    obtain ⟨its, rv, p, _⟩ := I.tuple hqx
    obtain ⟨its2, rv2, p2, _⟩ := I.list hqy
    have l1 : its.toArray.size = xs.length := by rw [List.size_toArray, rv.length]
    have l2 : its2.toArray.size = ys.length := by rw [List.size_toArray, rv2.length]
    have hh : X.A.in1.handled = none := by simp [I.ok.hd hc]
    exact wpAny_pyNext_zipD2_end (sepM D) (Draws.tuple hh i1 a D.l1i1 its.toArray) (Draws.list hh i2 b D.l2i2 its2.toArray) hz hTI hTO ⟨h1, p⟩ ⟨h2, p2.isList⟩ (by rw [l1]; omega) (by rw [l2]; omega) (by rw [l1, l2]; omega) fun h' tk hk => ⟨rfl, I.turnedL (t' := tk) (ch := [z, TI, TO, i1, i2]) (fun c o hb q =>
      hk c o (fun q' => hb (by simp [q'])) (fun q' => hb (by simp [q'])) (fun q' => hb (by simp [q'])) (fun q' => hb (by simp [q'])) q) hf⟩
  self := fun A i s Q E st h => wpAny_pyIter_zip st.1 h
def iZipM (K : PySem.W.Frag) (ta : TA) : TI := fun σ H R => ta σ H fun vs H1 => ∃ a b xs ys, vs = [.ref a, .ref b] ∧ SqT K H1 a xs ∧ SqL K H1 b ys ∧ R (ItzM K a b) H1
theorem run_zipM {X : Cx} {pins : List (Addr × Obj)} {s1 : Shared} {σ : L2.St} {H1 : Hp} {R : It → Hp → Prop} {elts : List Expr} {kk : Nat} {tpos : Pos} {a b : Addr} {xs ys : List V} (I1 : Inv X pins σ H1 s1) (hqx : SqT X.K H1 a xs) (hqy : SqL X.K H1 b ys) (q : R (ItzM X.K a b) H1) :
    wpAny (model X.prog X.w) X.A (call (.type "zip") [.ref a, .ref b]) (fun v s2 => wpAny (model X.prog X.w) X.A (pyIter v) (PIE X pins σ (.Tuple elts kk tpos) R) X.xe s2) X.xe s1 := by
  obtain ⟨its, rv, p1, _⟩ := I1.tuple hqx
  obtain ⟨its2, rv2, p2, _⟩ := I1.list hqy
  obtain ⟨o1, ho1, _⟩ := id p1
  have fresh : ∀ c, c ∈ [s1.heap.objs.size + 4, s1.heap.objs.size + 2, s1.heap.objs.size + 3, s1.heap.objs.size, s1.heap.objs.size + 1] → FpOk X pins H1 c := fun c hcm => by
    have hle : s1.heap.objs.size ≤ c := by
      simp only [List.mem_cons, List.not_mem_nil, or_false] at hcm
      rcases hcm with z | z | z | z | z <;> rw [z] <;> first | exact Nat.le_refl _ | exact Nat.le_add_right _ _
    exact I1.fpOk hle (I1.hok.fresh hle)
  refine zip_begins2 (begins_tuple a its.toArray) (begins_list b its2.toArray) p1 p2.isList fun h' hz hTI hTO g1 g2 hsz hk => wpAny_pyIter_zip hz ?_
  have I2 : Inv X pins σ H1 { s1 with heap := h' } := I1.kept (t' := s1.toks) hk
  exact ⟨s1.heap.objs.size + 4, [s1.heap.objs.size + 4, s1.heap.objs.size + 2, s1.heap.objs.size + 3, s1.heap.objs.size, s1.heap.objs.size + 1], _, _, H1, rfl, I2, turn_zipM (PySem.W.ktu_apart s1.heap.objs.size a b (Heap.lt_size ho1) p2.lt), ⟨hz, hTI, ⟨_, _, hTO⟩, ⟨_, g1, rfl, rfl⟩, ⟨_, g2, rfl, rfl⟩⟩, fresh, q⟩
/-- zip of two lists, of two tuples, of a tuple with a list -/
def iZipX (K : PySem.W.Frag) (ta : TA) : TI := fun σ H R => ta σ H fun vs H1 => ∃ a b xs ys, vs = [.ref a, .ref b] ∧ ((SqL K H1 a xs ∧ SqL K H1 b ys ∧ R (Itz K a b) H1) ∨ (SqT K H1 a xs ∧ SqT K H1 b ys ∧ R (ItzT K a b) H1) ∨ (SqT K H1 a xs ∧ SqL K H1 b ys ∧ R (ItzM K a b) H1))
theorem pi_zipX {X : Cx} {e e2 : Expr} {ta : TA} {p pos tpos : Pos} {elts : List Expr} {kk : Nat} (hg : Gl X "zip") (hm : X.mg "zip" = none) (ha : PA X [e, e2] ta)
    (hs : starEach [e, e2] X.env = (false, eval e X.env) :: starEach [e2] X.env := by rfl) (hpl : (backTo pos (starEach [e2] X.env)).any (·.1) = false := by rfl) :
    PI X (.Tuple elts kk tpos) (.Call (.Name "zip" p) [e, e2] [] pos) (iZipX X.K ta) := by
  refine ⟨fun pins s σ H R I h => ?_⟩
  refine Call_ (ld_blt I hg hm PyProof.Rows.boot_zip (PyProof.Rows.callWith_type1 (thn (ha.run pos pins s σ H _ I h) fun us s1 ⟨vs, H1, I1, r1, q1⟩ => ?_) hs hpl))
  obtain ⟨a, b, xs, ys, ex, q1⟩ := q1
  subst ex
  cases r1 with
  | cons r rr =>
    cases rr with
    | cons r' rr =>
      cases rr
      cases r
      cases r'
      have fresh : ∀ c, c ∈ [s1.heap.objs.size + 4, s1.heap.objs.size + 2, s1.heap.objs.size + 3, s1.heap.objs.size, s1.heap.objs.size + 1] → FpOk X pins H1 c := fun c hcm => by
        have hle : s1.heap.objs.size ≤ c := by
          simp only [List.mem_cons, List.not_mem_nil, or_false] at hcm
          rcases hcm with z | z | z | z | z <;> rw [z] <;> first | exact Nat.le_refl _ | exact Nat.le_add_right _ _
        exact I1.fpOk hle (I1.hok.fresh hle)
      rcases q1 with ⟨hqx, hqy, q⟩ | ⟨hqx, hqy, q⟩ | ⟨hqx, hqy, q⟩
      · obtain ⟨its, rv, p1, _⟩ := I1.list hqx
        obtain ⟨its2, rv2, p2, _⟩ := I1.list hqy
        refine call_zip_2 p1.isList p2.isList fun h' hz hTI hTO h1 h2 hsz hk => wpAny_pyIter_zip hz ?_
        exact ⟨_, _, _, _, H1, rfl, I1.kept (t' := s1.toks) hk, turn_zip (PySem.W.ktu_apart s1.heap.objs.size a b p1.lt p2.lt), ⟨hz, hTI, ⟨_, _, hTO⟩, h1, h2⟩, fresh, q⟩
      · obtain ⟨its, rv, p1, _⟩ := I1.tuple hqx
        obtain ⟨its2, rv2, p2, _⟩ := I1.tuple hqy
        obtain ⟨o1, ho1, _⟩ := id p1
        obtain ⟨o2, ho2, _⟩ := id p2
        refine call_zipT (show s1.heap.IsTuple a its.toArray from p1) (show s1.heap.IsTuple b its2.toArray from p2) fun h' hz hTI hTO h1 h2 hsz hk => wpAny_pyIter_zip hz ?_
        exact ⟨_, _, _, _, H1, rfl, I1.kept (t' := s1.toks) hk, turn_zipT (PySem.W.ktu_apart s1.heap.objs.size a b (Heap.lt_size ho1) (Heap.lt_size ho2)), ⟨hz, hTI, ⟨_, _, hTO⟩, h1, h2⟩, fresh, q⟩
      · exact run_zipM I1 hqx hqy q
end Sh


/-! ShRep: what stands for data in a heap; the ghost's owners; states; outcomes. -/
namespace Sh
open PySem PySem.Spec PyProof.Rows L2

inductive Own where
  | free | frz | slot (i : Nat) | obj (n : Nat) | sub (n : Nat) (f : Str) | tmp | out
  deriving DecidableEq
/-- who owns an address; where the objects stand -/
structure Gh where
  O : Addr → Own
  L : List Addr
def Gh.set (G : Gh) (a : Addr) (o : Own) : Gh := { G with O := fun b => if b = a then o else G.O b }
theorem Gh.set_same {G : Gh} {a : Addr} {o : Own} : (G.set a o).O a = o := if_pos rfl
theorem Gh.set_ne {G : Gh} {a b : Addr} {o : Own} (h : b ≠ a) : (G.set a o).O b = G.O b := if_neg h
/-- the context: the written part, where the classes stand, the table, what is let out -/
structure Ct where
  K : PySem.W.Frag
  cad : Str → Option Addr
def noH : Hp := fun _ => none
def FL (C : Ct) (G : Gh) (H : Hp) (a : Addr) (xs : List V) : Prop := (G.O a = .frz ∧ Rd H a (.lst xs)) ∨ SqL C.K noH a xs
def FT (C : Ct) (G : Gh) (H : Hp) (a : Addr) (xs : List V) : Prop := (G.O a = .frz ∧ H a = some (.tup xs)) ∨ SqT C.K noH a xs
theorem noRd {a : Addr} {u : HO} (h : Rd noH a u) : False := by
  rcases h with h | ⟨_, h⟩ <;> cases h
theorem FL.seq {C : Ct} {G : Gh} {H : Hp} {a : Addr} {xs : List V} (h : FL C G H a xs) : SqL C.K H a xs := by
  rcases h with h | h
  · exact .inl h.2
  · rcases h with h | h
    · exact (noRd h).elim
    · exact .inr h
theorem FT.seq {C : Ct} {G : Gh} {H : Hp} {a : Addr} {xs : List V} (h : FT C G H a xs) : SqT C.K H a xs := by
  rcases h with h | h
  · exact .inl (.inl h.2)
  · rcases h with h | h
    · exact (noRd h).elim
    · exact .inr h
mutual
inductive Rep (C : Ct) (G : Gh) (H : Hp) : V → D → Prop
  | non : Rep C G H .non .non
  | bl (b : Bool) : Rep C G H (.bl b) (.bl b)
  | int (i : Int) : Rep C G H (.int i) (.int i)
  | str (x : Str) : Rep C G H (.str x) (.str x)
  | ty (n : String) : Rep C G H (.ty n) (.ty n)
  | lst {a : Addr} {xs : List V} {ds : List D} : FL C G H a xs → Reps C G H xs ds → Rep C G H (.ref a) (.lst ds)
  | tup {a : Addr} {xs : List V} {ds : List D} : FT C G H a xs → Reps C G H xs ds → Rep C G H (.ref a) (.tup ds)
  | obj {a A dx : Addr} {c : Str} {fs : List (Str × V)} {ds : List (Str × D)} : G.O a = .frz → H a = some (.ins A dx fs) → C.cad c = some A → RepF C G H fs ds → Rep C G H (.ref a) (.obj c ds)
  | loc {a : Addr} {n : Nat} : G.L[n]? = some a → Rep C G H (.ref a) (.loc n)
  | cls {A : Addr} {c : Str} : C.cad c = some A → Rep C G H (.ref A) (.cls c)
inductive Reps (C : Ct) (G : Gh) (H : Hp) : List V → List D → Prop
  | nil : Reps C G H [] []
  | cons {v : V} {vs : List V} {d : D} {ds : List D} : Rep C G H v d → Reps C G H vs ds → Reps C G H (v :: vs) (d :: ds)
inductive RepF (C : Ct) (G : Gh) (H : Hp) : List (Str × V) → List (Str × D) → Prop
  | nil : RepF C G H [] []
  | cons {f : Str} {v : V} {vs : List (Str × V)} {d : D} {ds : List (Str × D)} : Rep C G H v d → RepF C G H vs ds → RepF C G H ((f, v) :: vs) ((f, d) :: ds)
end
/-- what stands frozen stays -/
structure ExF (G : Gh) (H : Hp) (G' : Gh) (H' : Hp) : Prop where
  frz : ∀ a, G.O a = .frz → G'.O a = .frz ∧ H' a = H a
  pre : ∃ l, G'.L = G.L ++ l
/-- .. and what belongs to somebody else -/
structure ExC (G : Gh) (H : Hp) (G' : Gh) (H' : Hp) : Prop extends ExF G H G' H' where
  out : ∀ a, G.O a = .out → G'.O a = .out ∧ H' a = H a
/-- .. and the slots' lists stay as they are, some are frozen -/
structure ExE (G : Gh) (H : Hp) (G' : Gh) (H' : Hp) : Prop extends ExC G H G' H' where
  slt : ∀ a i, G.O a = .slot i → (G'.O a = .slot i ∨ G'.O a = .frz) ∧ H' a = H a
theorem ExC.refl (G : Gh) (H : Hp) : ExC G H G H := ⟨⟨fun _ h => ⟨h, rfl⟩, [], by simp⟩, fun _ h => ⟨h, rfl⟩⟩
theorem ExE.refl (G : Gh) (H : Hp) : ExE G H G H := ⟨.refl G H, fun _ _ h => ⟨.inl h, rfl⟩⟩
theorem ExC.trans {G G1 G2 : Gh} {H H1 H2 : Hp} (a : ExC G H G1 H1) (b : ExC G1 H1 G2 H2) : ExC G H G2 H2 :=
  ⟨⟨fun x h => ⟨(b.frz x (a.frz x h).1).1, (b.frz x (a.frz x h).1).2.trans (a.frz x h).2⟩, let ⟨l, e⟩ := a.pre; let ⟨m, e2⟩ := b.pre; ⟨l ++ m, by rw [e2, e, List.append_assoc]⟩⟩,
    fun x h => ⟨(b.out x (a.out x h).1).1, (b.out x (a.out x h).1).2.trans (a.out x h).2⟩⟩
theorem ExE.trans {G G1 G2 : Gh} {H H1 H2 : Hp} (a : ExE G H G1 H1) (b : ExE G1 H1 G2 H2) : ExE G H G2 H2 :=
  ⟨a.toExC.trans b.toExC, fun x i h => by
    obtain ⟨h1 | h1, e1⟩ := a.slt x i h
    · exact ⟨(b.slt x i h1).1, (b.slt x i h1).2.trans e1⟩
    · exact ⟨.inr (b.frz x h1).1, (b.frz x h1).2.trans e1⟩⟩
theorem rdSame {H H' : Hp} {a : Addr} {u : HO} (e : H' a = H a) (h : Rd H a u) : Rd H' a u := by
  unfold Rd at h ⊢
  rw [e]
  exact h
section
variable {C : Ct} {G G' : Gh} {H H' : Hp}
theorem FL.mono {a : Addr} {xs : List V} (e : ExF G H G' H') (h : FL C G H a xs) : FL C G' H' a xs := h.imp (fun z => ⟨(e.frz a z.1).1, rdSame (e.frz a z.1).2 z.2⟩) id
theorem FT.mono {a : Addr} {xs : List V} (e : ExF G H G' H') (h : FT C G H a xs) : FT C G' H' a xs := h.imp (fun z => ⟨(e.frz a z.1).1, (e.frz a z.1).2.trans z.2⟩) id
mutual
theorem Rep.mono (e : ExF G H G' H') : ∀ (d : D) (v : V), Rep C G H v d → Rep C G' H' v d
  | .non, _, h => by cases h; exact .non
  | .bl _, _, h => by cases h; exact .bl _
  | .int _, _, h => by cases h; exact .int _
  | .str _, _, h => by cases h; exact .str _
  | .ty _, _, h => by cases h; exact .ty _
  | .cls _, _, h => by cases h with | cls h1 => exact .cls h1
  | .lst ds, _, h => by
    cases h with
    | lst h1 h2 => exact .lst (h1.mono e) (Reps.mono e ds _ h2)
  | .tup ds, _, h => by
    cases h with
    | tup h1 h2 => exact .tup (h1.mono e) (Reps.mono e ds _ h2)
  | .obj c ds, _, h => by
    cases h with
    | obj h1 h2 h3 h4 => exact .obj (e.frz _ h1).1 ((e.frz _ h1).2.trans h2) h3 (RepF.mono e ds _ h4)
  | .loc n, _, h => by
    cases h with
    | loc h1 =>
      obtain ⟨l, q⟩ := e.pre
      exact .loc (by rw [q]; exact List.getElem?_append_left (List.getElem?_eq_some_iff.mp h1).1 ▸ h1)
theorem Reps.mono (e : ExF G H G' H') : ∀ (ds : List D) (vs : List V), Reps C G H vs ds → Reps C G' H' vs ds
  | [], _, h => by cases h; exact .nil
  | d :: ds, _, h => by
    cases h with
    | cons h1 h2 => exact .cons (Rep.mono e d _ h1) (Reps.mono e ds _ h2)
theorem RepF.mono (e : ExF G H G' H') : ∀ (ds : List (Str × D)) (vs : List (Str × V)), RepF C G H vs ds → RepF C G' H' vs ds
  | [], _, h => by cases h; exact .nil
  | (f, d) :: ds, _, h => by
    cases h with
    | cons h1 h2 => exact .cons (Rep.mono e d _ h1) (RepF.mono e ds _ h2)
end
theorem Reps.length : ∀ {ds : List D} {vs : List V}, Reps C G H vs ds → vs.length = ds.length
  | [], _, h => by cases h; rfl
  | d :: ds, _, h => by
    cases h with
    | cons h1 h2 => simp [Reps.length h2]
theorem Reps.get : ∀ {ds : List D} {vs : List V} {i : Nat} {d : D}, Reps C G H vs ds → ds[i]? = some d → ∃ v, vs[i]? = some v ∧ Rep C G H v d
  | [], _, _, _, _, e => by simp at e
  | x :: ds, _, 0, d, h, e => by
    cases h with
    | cons h1 h2 =>
      simp at e
      subst e
      exact ⟨_, rfl, h1⟩
  | x :: ds, _, i + 1, d, h, e => by
    cases h with
    | cons h1 h2 =>
      obtain ⟨v, e1, r⟩ := Reps.get (i := i) h2 (by simpa using e)
      exact ⟨v, by simpa using e1, r⟩
theorem Reps.getV : ∀ {ds : List D} {vs : List V} {i : Nat} {v : V}, Reps C G H vs ds → vs[i]? = some v → ∃ d, ds[i]? = some d ∧ Rep C G H v d := fun {ds vs i v} h e => by
  have hi : i < ds.length := by rw [← h.length]; exact (List.getElem?_eq_some_iff.mp e).1
  obtain ⟨v', e', r⟩ := h.get (List.getElem?_eq_getElem hi)
  rw [e] at e'
  cases e'
  exact ⟨_, List.getElem?_eq_getElem hi, r⟩
theorem Reps.append : ∀ {ds es : List D} {vs us : List V}, Reps C G H vs ds → Reps C G H us es → Reps C G H (vs ++ us) (ds ++ es)
  | [], _, _, _, h, k => by cases h; exact k
  | d :: ds, _, _, _, h, k => by
    cases h with
    | cons h1 h2 => exact .cons h1 (Reps.append h2 k)
theorem Reps.take : ∀ {ds : List D} {vs : List V} (n : Nat), Reps C G H vs ds → Reps C G H (vs.take n) (ds.take n)
  | _, _, 0, _ => by simp; exact .nil
  | [], _, _ + 1, h => by cases h; exact .nil
  | d :: ds, _, n + 1, h => by
    cases h with
    | cons h1 h2 => exact .cons h1 (Reps.take n h2)
theorem Reps.drop : ∀ {ds : List D} {vs : List V} (n : Nat), Reps C G H vs ds → Reps C G H (vs.drop n) (ds.drop n)
  | _, _, 0, h => by simpa using h
  | [], _, _ + 1, h => by cases h; exact .nil
  | d :: ds, _, n + 1, h => by
    cases h with
    | cons h1 h2 => exact Reps.drop n h2
theorem Reps.one {v : V} {d : D} (h : Rep C G H v d) : Reps C G H [v] [d] := .cons h .nil
mutual
theorem Rep.dp : ∀ (d : D) (v : V), Rep C G H v d → d.plain = true → Dp C.K H v d.py
  | .non, _, h, _ => by cases h; exact .non
  | .bl _, _, h, _ => by cases h; exact .bl _
  | .int _, _, h, _ => by cases h; exact .int _
  | .str _, _, h, _ => by cases h; exact .str _
  | .ty _, _, _, p => by cases p
  | .lst ds, _, h, p => by
    cases h with
    | lst h1 h2 => exact .lst h1.seq (Reps.dp ds _ h2 p)
  | .tup ds, _, h, p => by
    cases h with
    | tup h1 h2 => exact .tup h1.seq (Reps.dp ds _ h2 p)
  | .obj _ _, _, _, p => by cases p
  | .loc _, _, _, p => by cases p
  | .cls _, _, _, p => by cases p
theorem Reps.dp : ∀ (ds : List D) (vs : List V), Reps C G H vs ds → D.plains ds = true → DpAll C.K H vs (D.pys ds)
  | [], _, h, _ => by cases h; exact .nil
  | d :: ds, _, h, p => by
    have p' := (Bool.and_eq_true_iff.mp (show (d.plain && D.plains ds) = true from p))
    cases h with
    | cons h1 h2 => exact .cons (Rep.dp d _ h1 p'.1) (Reps.dp ds _ h2 p'.2)
end
end
section
variable (C : Ct) (G : Gh) (H : Hp)
/-- what is looked at: frozen, or a slot's own list -/
def RepB (v : V) (d : D) : Prop := Rep C G H v d ∨ ∃ a xs ds i, v = .ref a ∧ d = .lst ds ∧ G.O a = .slot i ∧ H a = some (.lst xs) ∧ Reps C G H xs ds
/-- what an expression gives -/
def RepR (v : V) : RV → Prop
  | .fz d => Rep C G H v d
  | .own ds => ∃ a xs, v = .ref a ∧ G.O a = .tmp ∧ H a = some (.lst xs) ∧ Reps C G H xs ds
def SlotOk (i : Nat) (ov : Option (Option V)) : RV → Prop
  | .fz d => ∃ v, ov = some (some v) ∧ Rep C G H v d
  | .own ds => ∃ a xs, ov = some (some (.ref a)) ∧ G.O a = .slot i ∧ H a = some (.lst xs) ∧ Reps C G H xs ds
def FldOk (n : Nat) (f : Str) (v : V) : RV → Prop
  | .fz d => Rep C G H v d
  | .own ds => ∃ a xs, v = .ref a ∧ G.O a = .sub n f ∧ H a = some (.lst xs) ∧ Reps C G H xs ds
def FldsOk (n : Nat) (fs : List (Str × RV)) (vs : List (Str × V)) : Prop := Paired (fun (p : Str × RV) (q : Str × V) => p.1 = q.1 ∧ FldOk C G H n p.1 q.2 p.2) fs vs
def cellsStr : Str := ⟨#[99]⟩
def ObOk (n : Nat) (a : Addr) : Ob → Prop
  | .dead => True
  | .bag b => G.O a = .obj n ∧ ∃ c, H a = some (.lst [.ref c, .int b.pos, .int b.big, .int b.seed, .int b.many]) ∧ G.O c = .sub n cellsStr ∧ H c = some (.lst (b.cells.map .int)) ∧ b.Ok
  | .ins c fs => G.O a = .obj n ∧ ∃ A dx vs, C.cad c = some A ∧ H a = some (.ins A dx vs) ∧ FldsOk C G H n fs vs
structure SatS (S : Mem) : Prop where
  fr : ∀ a, H a = none → G.O a = .free
  ll : G.L.length = S.objs.length
  ob : ∀ n o, S.objs[n]? = some o → ∃ a, G.L[n]? = some a ∧ ObOk C G H n a o
structure Sat (σ : L2.St) (ρ : Rho) (S : Mem) : Prop extends SatS C G H S where
  sl : ∀ i r, ρ[i]? = some (some r) → SlotOk C G H i σ[i]? r
  ln : ρ.length = σ.length
end
section
variable {C : Ct} {G G' : Gh} {H H' : Hp} {σ : L2.St} {ρ ρ' : Rho} {S : Mem}
theorem RepB.mono {v : V} {d : D} (e : ExE G H G' H') (h : RepB C G H v d) : RepB C G' H' v d := by
  rcases h with h | ⟨a, xs, ds, i, rfl, rfl, h1, h2, h3⟩
  · exact .inl (Rep.mono e.toExF d v h)
  · obtain ⟨q | q, e1⟩ := e.slt a i h1
    · exact .inr ⟨a, xs, ds, i, rfl, rfl, q, e1.trans h2, Reps.mono e.toExF ds xs h3⟩
    · exact .inl (.lst (.inl ⟨q, .inl (e1.trans h2)⟩) (Reps.mono e.toExF ds xs h3))
theorem RepB.dp {v : V} {d : D} (h : RepB C G H v d) (p : d.plain = true) : Dp C.K H v d.py := by
  rcases h with h | ⟨a, xs, ds, i, rfl, rfl, h1, h2, h3⟩
  · exact Rep.dp d v h p
  · exact .lst (SqL.of h2) (Reps.dp ds xs h3 p)
theorem RepB.lst {v : V} {ds : List D} (h : RepB C G H v (.lst ds)) : ∃ a xs, v = .ref a ∧ SqL C.K H a xs ∧ Reps C G H xs ds := by
  rcases h with h | ⟨a, xs, es, i, rfl, e, h1, h2, h3⟩
  · cases h with
    | lst h1 h2 => exact ⟨_, _, rfl, h1.seq, h2⟩
  · cases e
    exact ⟨_, _, rfl, SqL.of h2, h3⟩
theorem RepB.rep {v : V} {d : D} (h : RepB C G H v d) (n : ∀ ds, d ≠ .lst ds) : Rep C G H v d := by
  rcases h with h | ⟨a, xs, ds, i, rfl, e, h1, h2, h3⟩
  · exact h
  · exact (n ds e).elim
/-- what is frozen or an object's is kept -/
def KeepC (G : Gh) (H : Hp) (G' : Gh) (H' : Hp) : Prop := G'.L = G.L ∧ ∀ a, (G.O a = .frz ∨ (∃ n, G.O a = .obj n) ∨ ∃ n f, G.O a = .sub n f) → G'.O a = G.O a ∧ H' a = H a
theorem KeepC.exF (k : KeepC G H G' H') : ExF G H G' H' := ⟨fun a h => ⟨(k.2 a (.inl h)).1.trans h, (k.2 a (.inl h)).2⟩, [], by rw [k.1]; simp⟩
/-- the owners but the temporaries are kept, and what they own -/
def Keep (G : Gh) (H : Hp) (G' : Gh) (H' : Hp) : Prop := G'.L = G.L ∧ ∀ a, G.O a ≠ .free → G.O a ≠ .tmp → G'.O a = G.O a ∧ H' a = H a
theorem Keep.exE (k : Keep G H G' H') : ExE G H G' H' :=
  ⟨⟨⟨fun a h => ⟨(k.2 a (by rw [h]; decide) (by rw [h]; decide)).1.trans h, (k.2 a (by rw [h]; decide) (by rw [h]; decide)).2⟩, [], by rw [k.1]; simp⟩,
    fun a h => ⟨(k.2 a (by rw [h]; decide) (by rw [h]; decide)).1.trans h, (k.2 a (by rw [h]; decide) (by rw [h]; decide)).2⟩⟩,
    fun a i h => ⟨.inl ((k.2 a (by rw [h]; simp) (by rw [h]; simp)).1.trans h), (k.2 a (by rw [h]; simp) (by rw [h]; simp)).2⟩⟩
theorem Keep.keepC (k : Keep G H G' H') : KeepC G H G' H' := ⟨k.1, fun a h => by
  rcases h with h | ⟨n, h⟩ | ⟨n, f, h⟩ <;> exact k.2 a (by rw [h]; simp) (by rw [h]; simp)⟩
/-- what is frozen or the object n's is kept -/
def KeepN (n : Nat) (G : Gh) (H : Hp) (G' : Gh) (H' : Hp) : Prop := (∃ l, G'.L = G.L ++ l) ∧ ∀ a, (G.O a = .frz ∨ G.O a = .obj n ∨ ∃ f, G.O a = .sub n f) → G'.O a = G.O a ∧ H' a = H a
theorem KeepC.keepN (k : KeepC G H G' H') (n : Nat) : KeepN n G H G' H' := ⟨⟨[], by rw [k.1]; simp⟩, fun a h => k.2 a (by
  rcases h with h | h | ⟨f, h⟩
  · exact .inl h
  · exact .inr (.inl ⟨n, h⟩)
  · exact .inr (.inr ⟨n, f, h⟩))⟩
theorem KeepN.exF {n : Nat} (k : KeepN n G H G' H') : ExF G H G' H' := ⟨fun a h => ⟨(k.2 a (.inl h)).1.trans h, (k.2 a (.inl h)).2⟩, k.1⟩
theorem FldOk.keep {n : Nat} (k : KeepN n G H G' H') {f : Str} {v : V} : ∀ {r : RV}, FldOk C G H n f v r → FldOk C G' H' n f v r
  | .fz d, h => Rep.mono k.exF d v h
  | .own ds, ⟨a, xs, e, h1, h2, h3⟩ => ⟨a, xs, e, (k.2 a (.inr (.inr ⟨_, h1⟩))).1.trans h1, (k.2 a (.inr (.inr ⟨_, h1⟩))).2.trans h2, Reps.mono k.exF ds xs h3⟩
theorem ObOk.keep {n : Nat} (k : KeepN n G H G' H') {a : Addr} : ∀ {o : Ob}, ObOk C G H n a o → ObOk C G' H' n a o
  | .dead, _ => trivial
  | .bag b, ⟨h1, c, h2, h3, h4, h5⟩ => ⟨(k.2 a (.inr (.inl h1))).1.trans h1, c, (k.2 a (.inr (.inl h1))).2.trans h2,
      (k.2 c (.inr (.inr ⟨_, h3⟩))).1.trans h3, (k.2 c (.inr (.inr ⟨_, h3⟩))).2.trans h4, h5⟩
  | .ins c fs, ⟨h1, A, dx, vs, h2, h3, h4⟩ => ⟨(k.2 a (.inr (.inl h1))).1.trans h1, A, dx, vs, h2, (k.2 a (.inr (.inl h1))).2.trans h3, L2.Paired.mapP h4 fun p q z => ⟨z.1, z.2.keep k⟩⟩
theorem SatS.keepC (s : SatS C G H S) (k : KeepC G H G' H') (fr : ∀ a, H' a = none → G'.O a = .free) : SatS C G' H' S :=
  ⟨fr, by rw [k.1]; exact s.ll, fun n o e => let ⟨a, e1, h⟩ := s.ob n o e; ⟨a, by rw [k.1]; exact e1, h.keep (k.keepN n)⟩⟩
/-- one object is another one; nothing else has changed -/
theorem SatS.upd1 (s : SatS C G H S) {n : Nat} {a : Addr} {o' : Ob} (ha : G.L[n]? = some a) (ho : G.O a = .obj n) (hH : ∀ x, x ≠ a → H x ≠ none → H' x = H x) (hn : H' a ≠ none) (new : ObOk C G H' n a o') : SatS C G H' ⟨S.objs.set n o'⟩ := by
  refine ⟨fun x hx => ?_, ?_, fun m o hm => ?_⟩
  · have : x ≠ a := fun e => hn (by rw [← e]; exact hx)
    refine s.fr x (Classical.byContradiction fun q => q ?_)
    rw [← hH x this q]
    exact hx
  · show G.L.length = (S.objs.set n o').length
    rw [List.length_set]
    exact s.ll
  · have hm : (S.objs.set n o')[m]? = some o := hm
    by_cases e : m = n
    · subst e
      have hl := (List.getElem?_eq_some_iff.mp hm).1
      rw [List.length_set] at hl
      rw [List.getElem?_set_self hl] at hm
      cases hm
      exact ⟨a, ha, new⟩
    · rw [List.getElem?_set_ne (Ne.symm e)] at hm
      obtain ⟨b, hb, q⟩ := s.ob m o hm
      refine ⟨b, hb, q.keep ⟨⟨[], by simp⟩, fun x hx => ⟨rfl, hH x (fun z => ?_) fun z => ?_⟩⟩⟩
      · rw [z, ho] at hx
        rcases hx with h | h | ⟨f, h⟩ <;> cases h
        exact e rfl
      · rw [s.fr x z] at hx
        rcases hx with h | h | ⟨f, h⟩ <;> cases h
theorem SatS.keep (s : SatS C G H S) (k : Keep G H G' H') (fr : ∀ a, H' a = none → G'.O a = .free) : SatS C G' H' S := s.keepC k.keepC fr
theorem SlotOk.keep (k : Keep G H G' H') {i : Nat} {ov : Option (Option V)} : ∀ {r : RV}, SlotOk C G H i ov r → SlotOk C G' H' i ov r
  | .fz d, ⟨v, e, h⟩ => ⟨v, e, Rep.mono k.exE.toExF d v h⟩
  | .own ds, ⟨a, xs, e, h1, h2, h3⟩ => ⟨a, xs, e, (k.2 a (by rw [h1]; simp) (by rw [h1]; simp)).1.trans h1, (k.2 a (by rw [h1]; simp) (by rw [h1]; simp)).2.trans h2, Reps.mono k.exE.toExF ds xs h3⟩
theorem Sat.keep (s : Sat C G H σ ρ S) (k : Keep G H G' H') (fr : ∀ a, H' a = none → G'.O a = .free) : Sat C G' H' σ ρ S :=
  ⟨s.toSatS.keep k fr, fun i r e => (s.sl i r e).keep k, s.ln⟩
/-- a new object -/
theorem Sat.new (s : Sat C G H σ ρ S) {p : Addr} {o : HO} {w : Own} (hp : H p = none) : Keep G H (G.set p w) (upd H p o) ∧ Sat C (G.set p w) (upd H p o) σ ρ S := by
  have hf := s.fr p hp
  have k : Keep G H (G.set p w) (upd H p o) := ⟨rfl, fun a h1 h2 => by
    have ne : a ≠ p := fun e => h1 (by rw [e]; exact hf)
    exact ⟨Gh.set_ne ne, upd_ne ne⟩⟩
  refine ⟨k, s.keep k fun a e => ?_⟩
  by_cases ha : a = p
  · subst ha
    rw [upd_same] at e
    cases e
  · rw [upd_ne ha] at e
    rw [Gh.set_ne ha]
    exact s.fr a e
/-- a temporary is frozen, or given another owner -/
theorem Sat.retmp (s : Sat C G H σ ρ S) {p : Addr} {w : Own} (hp : G.O p = .tmp) : Keep G H (G.set p w) H ∧ Sat C (G.set p w) H σ ρ S := by
  have k : Keep G H (G.set p w) H := ⟨rfl, fun a h1 h2 => by
    have ne : a ≠ p := fun e => h2 (by rw [e]; exact hp)
    exact ⟨Gh.set_ne ne, rfl⟩⟩
  refine ⟨k, s.keep k fun a e => ?_⟩
  by_cases ha : a = p
  · subst ha
    have := s.fr a e
    rw [hp] at this
    cases this
  · rw [Gh.set_ne ha]
    exact s.fr a e
/-- what an expression gave, frozen -/
theorem RepR.freeze {v : V} {r : RV} (s : Sat C G H σ ρ S) (h : RepR C G H v r) : ∃ G', ExE G H G' H ∧ Sat C G' H σ ρ S ∧ Rep C G' H v r.d := by
  cases r with
  | fz d => exact ⟨G, .refl G H, s, h⟩
  | own ds =>
    obtain ⟨a, xs, rfl, h1, h2, h3⟩ := h
    obtain ⟨k, s'⟩ := s.retmp (w := .frz) h1
    exact ⟨_, k.exE, s', .lst (.inl ⟨Gh.set_same, .inl h2⟩) (Reps.mono k.exE.toExF ds xs h3)⟩
/-- an exception on its way -/
def ErrOk (C : Ct) (G : Gh) (H : Hp) (c : Value) (d : Option Addr) (x : Err) : Prop :=
  ∃ A e vs, c = .ref A ∧ C.cad x.cls = some A ∧ d = some e ∧ H e = some (.xd vs) ∧ (∀ f, match x.fs.lookup f with
    | some y => ∃ v, vs.lookup f = some v ∧ Rep C G H v y
    | none => vs.lookup f = none)
end
/-- an outcome: where it is right, P of what it gives; where an exception leaves, W -/
def At {α β : Type} (C : Ct) (W : WX) (σ : L2.St) (G : Gh) (H : Hp) (r : Res α) (R : Gh → Hp → β → α → Prop) (Q : β → Hp → Prop) : Prop := match r with
  | .ok a ρ S => ∀ b G' H', ExE G H G' H' → Sat C G' H' σ ρ S → R G' H' b a → Q b H'
  | .exc x ρ S => ∀ c d G' H', ExE G H G' H' → Sat C G' H' σ ρ S → ErrOk C G' H' c d x → W c d σ H'
  | .bad => False
def Tr {α β : Type} (C : Ct) (W : WX) (m : Rho → Mem → Res α) (R : Gh → Hp → β → α → Prop) : L2.St → Hp → (β → Hp → Prop) → Prop := fun σ H Q => ∃ G ρ S, Sat C G H σ ρ S ∧ At C W σ G H (m ρ S) R Q
section
variable {C : Ct} {W : WX} {σ : L2.St} {G G1 : Gh} {H H1 : Hp} {α β γ δ : Type} {R : Gh → Hp → β → α → Prop} {Q : β → Hp → Prop} {r : Res α}
theorem At.ext (h : At C W σ G H r R Q) (e : ExE G H G1 H1) : At C W σ G1 H1 r R Q := by
  cases r with
  | ok a ρ S => exact fun b G' H' e' s q => h b G' H' (e.trans e') s q
  | exc x ρ S => exact fun c d G' H' e' s q => h c d G' H' (e.trans e') s q
  | bad => exact h
theorem At.bind {r1 : Res γ} {R1 : Gh → Hp → δ → γ → Prop} {f : γ → Rho → Mem → Res α} (h : At C W σ G H (r1.bind f) R Q) :
    At C W σ G H r1 R1 fun b1 H1 => ∃ G1 ρ1 S1 a1, ExE G H G1 H1 ∧ Sat C G1 H1 σ ρ1 S1 ∧ R1 G1 H1 b1 a1 ∧ At C W σ G1 H1 (f a1 ρ1 S1) R Q := by
  cases r1 with
  | ok a ρ S => exact fun b G' H' e s q => ⟨G', ρ, S, a, e, s, q, At.ext h e⟩
  | exc x ρ S => exact h
  | bad => exact h
theorem At.mono {Q' : β → Hp → Prop} (h : At C W σ G H r R Q) (hq : ∀ b H, Q b H → Q' b H) : At C W σ G H r R Q' := by
  cases r with
  | ok a ρ S => exact fun b G' H' e s q => hq _ _ (h b G' H' e s q)
  | exc x ρ S => exact h
  | bad => exact h
theorem At.map {f : α → γ} {R1 : Gh → Hp → δ → γ → Prop} {Q1 : δ → Hp → Prop} (h : At C W σ G H (r.map f) R1 Q1) (hr : ∀ G' H' ρ S b a, ExE G H G' H' → Sat C G' H' σ ρ S → R G' H' b a → (∀ c G2, ExE G' H' G2 H' → Sat C G2 H' σ ρ S → R1 G2 H' c (f a) → Q1 c H') → Q b H') : At C W σ G H r R Q := by
  cases r with
  | ok a ρ S => exact fun b G' H' e s q => hr G' H' ρ S b a e s q fun c G2 e2 s2 q2 => h c G2 H' (e.trans e2) s2 q2
  | exc x ρ S => exact h
  | bad => exact h
/-- raw to frozen -/
theorem Tr.freeze {m : Rho → Mem → Res RV} {Q : VK} (h : Tr C W (fun ρ S => (m ρ S).map RV.d) (Rep C) σ H Q) : Tr C W m (RepR C) σ H Q := by
  obtain ⟨G, ρ, S, s, h⟩ := h
  refine ⟨G, ρ, S, s, At.map h fun G' H' ρ' S' b a e s' r k => ?_⟩
  obtain ⟨G2, e2, s2, r2⟩ := r.freeze s'
  exact k b G2 e2 s2 r2
end
end Sh


/-! ShExp: from the syntax tree to the small language; the operators. -/
namespace Sh
open PySem PySem.Spec PyProof.Rows L2

/-- where a name stands: the slots' names, the scope, which cells may be stored -/
structure CC where
  F : List Str
  N : List Str
  sc : Scope
  fn : Str → Bool
def nameOk (x : Str) : Bool := !(x == ("__debug__" : Str)) && !(x == ("__classdict__" : Str)) && !(x == ("__name__" : Str))
def isVis (c : CC) (x : Str) : Bool := match c.sc.names.lookup x with
  | some .local => true
  | some .cell => true
  | some .free => true
  | _ => false
def isGlob (c : CC) (x : Str) : Bool := match c.sc.names.lookup x with
  | some .globalImplicit => true
  | _ => false
def ixOf (N : List Str) (x : Str) : Option Nat := match N with
  | [] => none
  | y :: ys => if y = x then some 0 else (ixOf ys x).map (· + 1)
theorem ixOf_get {N : List Str} {x : Str} {i : Nat} (h : ixOf N x = some i) : N[i]? = some x := by
  induction N generalizing i with
  | nil => cases h
  | cons y ys ih =>
    unfold ixOf at h
    split at h
    · rename_i e
      cases h
      simp [e]
    · cases e : ixOf ys x with
      | none => rw [e] at h; cases h
      | some j =>
        rw [e] at h
        cases h
        simpa using ih e
def bltOf (x : Str) : Option Blt := if x = "len" then some .len else if x = "int" then some .int else if x = "all" then some .all else if x = "list" then some .list else if x = "tuple" then some .tuple else if x = "str" then some .str else if x = "repr" then some .repr else if x = "min" then some .min else none
def bltNames : List Str := ["len", "int", "all", "list", "tuple", "isinstance", "str", "bool", "range", "zip", "enumerate", "repr", "min", "set"]
def tyOf (x : Str) : Option String := if x = "int" then some "int" else if x = "list" then some "list" else if x = "tuple" then some "tuple" else if x = "str" then some "str" else if x = "bool" then some "bool" else none
def o1 {α β : Type} (f : α → β) (x : Option α) : Option β := x.map f
def o2 {α β γ : Type} (f : α → β → γ) (x : Option α) (y : Option β) : Option γ := x.bind fun a => y.map (f a)
def o3 {α β γ δ : Type} (f : α → β → γ → δ) (x : Option α) (y : Option β) (z : Option γ) : Option δ := x.bind fun a => y.bind fun b => z.map (f a b)
theorem o1_some {α β : Type} {f : α → β} {x : Option α} {l : β} (h : o1 f x = some l) : ∃ a, x = some a ∧ l = f a := by
  cases x with
  | none => cases h
  | some a => cases h; exact ⟨a, rfl, rfl⟩
theorem o2_some {α β γ : Type} {f : α → β → γ} {x : Option α} {y : Option β} {l : γ} (h : o2 f x y = some l) : ∃ a b, x = some a ∧ y = some b ∧ l = f a b := by
  cases x with
  | none => cases h
  | some a =>
    cases y with
    | none => cases h
    | some b => cases h; exact ⟨a, b, rfl, rfl, rfl⟩
theorem o3_some {α β γ δ : Type} {f : α → β → γ → δ} {x : Option α} {y : Option β} {z : Option γ} {l : δ} (h : o3 f x y z = some l) : ∃ a b c, x = some a ∧ y = some b ∧ z = some c ∧ l = f a b c := by
  cases x with
  | none => cases h
  | some a =>
    cases y with
    | none => cases h
    | some b =>
      cases z with
      | none => cases h
      | some c => cases h; exact ⟨a, b, c, rfl, rfl, rfl, rfl⟩
def compL (f : Expr → Option LE) : List Expr → Option LEs
  | [] => some .nil
  | e :: es => o2 .cons (f e) (compL f es)
/-- the items of a display: with stars -/
def compLS (f : Expr → Option LE) : List Expr → Option LEs
  | [] => some .nil
  | .Starred e _ :: es => o2 .star (f e) (compLS f es)
  | e :: es => o2 .cons (f e) (compLS f es)
def compB (f : Expr → Option LE) (g : LE → LE → LE) : List Expr → Option LE
  | [] => none
  | [e] => f e
  | e :: es => o2 g (f e) (compB f g es)
def compO (f : Expr → Option LE) : Option Expr → Option LEo
  | none => some .no
  | some e => (f e).map .so
def compK (f : Expr → Option LE) : List Keyword → Option (List Str × LEs)
  | [] => some ([], .nil)
  | ⟨some x, e, _⟩ :: r => o2 (fun l (p : List Str × LEs) => (x :: p.1, LEs.cons l p.2)) (f e) (compK f r)
  | _ => none
def tyE (c : CC) : Expr → Option String
  | .Name x _ => if isGlob c x then tyOf x else none
  | _ => none
def tysE (c : CC) : Expr → Option (List String)
  | .Name x p => (tyE c (.Name x p)).map fun t => [t]
  | _ => none
def slotN (c : CC) (x : Str) : Option Nat := if isVis c x then ixOf c.N x else none
/-- a name that may be stored -/
def stoN (c : CC) (x : Str) : Option Nat := match c.sc.names.lookup x with
  | some .local => ixOf c.N x
  | some .cell => if c.fn x then ixOf c.N x else none
  | _ => none
def stoNs (c : CC) : List Expr → Option (List Nat)
  | [] => some []
  | .Name x _ :: es => o2 List.cons (stoN c x) (stoNs c es)
  | _ => none
def compT (c : CC) : Expr → Option Tg
  | .Name x _ => (stoN c x).map .name
  | .Tuple es _ _ => (stoNs c es).map .tup
  | _ => none
/-- the names that a block has for itself, with their slots -/
def ownOf (N : List Str) : List (Str × NameKind) → List (Str × Nat)
  | [] => []
  | (x, k) :: r => match k, ixOf N x with
    | .local, some i => (x, i) :: ownOf N r
    | .cell, some i => (x, i) :: ownOf N r
    | _, _ => ownOf N r
def Tg.slots : Tg → List Nat
  | .name i => [i]
  | .tup is => is
def tgIn (vs : List Nat) : Option Tg → Bool
  | some t => t.slots.all fun i => vs.contains i
  | none => false
def compI (c : CC) (f : Expr → Option LE) : Expr → Option LI
  | .Call (.Name x _) [a] [] _ => if x = "range" then (if isGlob c x then (f a).map .rng else none) else if x = "enumerate" then (if isGlob c x then (f a).map .enm else none) else none
  | .Call (.Name x _) [a, b] [] _ => if x = "zip" then (if isGlob c x then o2 .zip (f a) (f b) else none) else none
  | e => (f e).map .seq
/-- pairs go to a target of several names -/
def zipTg : Expr → Expr → Bool
  | .Call (.Name _ _) [_, _] [] _, .Tuple _ _ _ => true
  | .Call (.Name _ _) [_, _] [] _, _ => false
  | .Call (.Name _ _) [_] [] _, .Tuple _ _ _ => true
  | .Call (.Name x _) [_] [] _, _ => x == "range"
  | _, _ => true
/-- what an attribute is asked of -/
def baseOk : Expr → Bool
  | .Name _ _ => true
  | .Call (.Name x _) [] [] _ => x != ("super" : Str)
  | .ListComp _ _ _ _ => true
  | .Attribute _ _ _ => true
  | .Subscript _ _ _ => true
  | .Call (.Name _ _) (_ :: _) _ _ => true
  | .Call (.Attribute _ _ _) _ _ _ => true
  | _ => false
def noSlice : Expr → Bool
  | .Slice _ _ _ _ => false
  | .Starred _ _ => false
  | _ => true
/-- the tests of a clause: none or one -/
def compIf (f : Expr → Option LE) : List Expr → Option LEs
  | [] => some .nil
  | [t] => compL f [t]
  | _ => none
/-- len(set(a)) -/
def lensOf (f : Str) : List Expr → Option Expr
  | [.Call (.Name g _) [a] [] _] => if f = "len" then (if g = "set" then some a else none) else none
  | _ => none
/-- a list that is changed behind the call -/
def lendOf (c : CC) : List Expr → Option Nat
  | [.Name y _] => if y = "_law_given" then (if nameOk y && isVis c y then ixOf c.N y else none) else none
  | _ => none
/-- an expression of the tree as one of the small language -/
def comp : Nat → CC → Expr → Option LE
  | 0, _, _ => none
  | n + 1, c, e => match e with
    | .Name x _ => if nameOk x then (if isVis c x then (ixOf c.N x).map .var else if isGlob c x then (ixOf c.F x).map .glob else none) else none
    | .Constant .none _ _ => some .non
    | .Constant (.bool b) _ _ => some (.bl b)
    | .Constant (.int i) _ _ => some (.int i)
    | .Constant (.str x) _ _ => some (.str x)
    | .BinOp (.List es _) .Mult b _ => o2 .rep (compL (comp n c) es) (comp n c b)
    | .BinOp a op b _ => o2 (.bin op) (comp n c a) (comp n c b)
    | .UnaryOp .USub a _ => o1 .neg (comp n c a)
    | .UnaryOp .Not a _ => o1 .not (comp n c a)
    | .Compare a [op] [b] _ => if behindInMarks op b then none else o2 (.cmp op) (comp n c a) (comp n c b)
    | .Compare a [op, op2] [b, d] _ => if lastMarks [op, op2] [b, d] then none else o3 (.chn op op2) (comp n c a) (comp n c b) (comp n c d)
    | .BoolOp .And es _ => compB (comp n c) .and es
    | .BoolOp .Or es _ => compB (comp n c) .or es
    | .IfExp t a b _ => o3 .ite (comp n c t) (comp n c a) (comp n c b)
    | .Tuple es _ _ => o1 .tup (compLS (comp n c) es)
    | .List es _ => o1 .lst (compLS (comp n c) es)
    | .Subscript a (.Slice none none (some (.UnaryOp .USub (.Constant (.int 1) _ _) _)) _) _ => o1 .rev (comp n c a)
    | .FormattedValue a (-1) none _ => o1 .fmt (comp n c a)
    | .JoinedStr (a :: b :: es) _ => o1 .fst (compL (comp n c) (a :: b :: es))
    | .Subscript a (.Slice lo hi none _) _ => o3 .slc (comp n c a) (compO (comp n c) lo) (compO (comp n c) hi)
    | .Subscript a i _ => if noSlice i then o2 .idx (comp n c a) (comp n c i) else none
    | .Call (.Name f _) es [] _ => if nameOk f && isGlob c f then
        (if f = "isinstance" then (match es with
          | [a, .Name x _] => if isGlob c x then (match tyOf x with
            | some t => o1 (fun l => LE.isi l [t]) (comp n c a)
            | none => if nameOk x then o2 (fun l k => LE.isc l k) (comp n c a) (ixOf c.F x) else none) else none
          | [a, .Tuple [.Name x _, .Name y _] _ _] => o3 (fun l t u => LE.isi l [t, u]) (comp n c a) (if isGlob c x then tyOf x else none) (if isGlob c y then tyOf y else none)
          | _ => none)
        else match lensOf f es with
          | some a => if isGlob c "set" then o1 .lens (comp n c a) else none
          | none => match bltOf f with
          | some b => o1 (.bcl b) (match es with | [] => none | _ => compL (comp n c) es)
          | none => match lendOf c es with
            | some j => o1 (fun i => LE.lend i j) (ixOf c.F f)
            | none => o2 .call (ixOf c.F f) (compL (comp n c) es))
      else none
    | .Call (.Name f _) es (k :: ks) _ => if nameOk f && isGlob c f then o3 (fun i l (p : List Str × LEs) => LE.callk i es.length l p.1 p.2) (ixOf c.F f) (compL (comp n c) es) (compK (comp n c) (k :: ks)) else none
    | .Call (.Attribute s m apos) [a] [] cpos => if m = "join" then (if apos.endLine == cpos.line then (match s with
        | .Constant (.str x) _ _ => o1 (.join (.str x)) (comp n c a)
        | _ => none) else none)
        else if m = "index" then (if baseOk s && (apos.endLine == cpos.line) then o2 .ixo (comp n c s) (comp n c a) else none)
        else if baseOk s && (apos.endLine == cpos.line) then o2 (fun l es => LE.mth l m es) (comp n c s) (compL (comp n c) [a]) else none
    | .Call (.Attribute s m apos) es [] cpos => if baseOk s && (apos.endLine == cpos.line) && decide (es.length < 29) then o2 (fun l es => LE.mth l m es) (comp n c s) (compL (comp n c) es) else none
    | .Call (.Attribute s m apos) es (k :: ks) cpos => if baseOk s && (apos.endLine == cpos.line) && decide (es.length + ks.length < 27) then o3 (fun l es' (p : List Str × LEs) => LE.mthk l m es.length es' p.1 p.2) (comp n c s) (compL (comp n c) es) (compK (comp n c) (k :: ks)) else none
    | .Attribute a f _ => if baseOk a then o1 (fun l => LE.fld l f) (comp n c a) else none
    | .ListComp elt [⟨tg, it, ifs, 0⟩] scope _ =>
      if blkC c.N c.sc scope (ownOf c.N scope.names) && tgIn ((ownOf c.N scope.names).map (·.2)) (compT ⟨c.F, c.N, relS scope c.sc, fun x => scope.names.lookup x == some .cell⟩ tg) && zipTg it tg then
        o2 (fun (p : LE × Tg) (q : LI × LEs) => LE.lc ((ownOf c.N scope.names).map (·.2)) p.1 p.2 q.1 q.2)
          (o2 Prod.mk (comp n ⟨c.F, c.N, relS scope c.sc, fun x => scope.names.lookup x == some .cell⟩ elt) (compT ⟨c.F, c.N, relS scope c.sc, fun x => scope.names.lookup x == some .cell⟩ tg))
          (o2 Prod.mk (compI c (comp n c) it) (match ifs with
            | [] => some .nil
            | [t] => compL (comp n ⟨c.F, c.N, relS scope c.sc, fun x => scope.names.lookup x == some .cell⟩) [t]
            | _ => none))
      else none
    | .ListComp elt [⟨tg, it, ifs, 0⟩, ⟨tg1, it1, ifs1, 0⟩] scope _ =>
      if blkC c.N c.sc scope (ownOf c.N scope.names) && tgIn ((ownOf c.N scope.names).map (·.2)) (compT ⟨c.F, c.N, relS scope c.sc, fun x => scope.names.lookup x == some .cell⟩ tg) && tgIn ((ownOf c.N scope.names).map (·.2)) (compT ⟨c.F, c.N, relS scope c.sc, fun x => scope.names.lookup x == some .cell⟩ tg1) && zipTg it tg && zipTg it1 tg1 then
        o2 (fun (p : (LE × Tg) × (LI × LEs)) (q : Tg × (LI × LEs)) => LE.lc2 ((ownOf c.N scope.names).map (·.2)) q.1.slots p.1.1 p.1.2 p.2.1 p.2.2 q.1 q.2.1 q.2.2)
          (o2 Prod.mk (o2 Prod.mk (comp n ⟨c.F, c.N, relS scope c.sc, fun x => scope.names.lookup x == some .cell⟩ elt) (compT ⟨c.F, c.N, relS scope c.sc, fun x => scope.names.lookup x == some .cell⟩ tg))
            (o2 Prod.mk (compI c (comp n c) it) (compIf (comp n ⟨c.F, c.N, relS scope c.sc, fun x => scope.names.lookup x == some .cell⟩) ifs)))
          (o2 Prod.mk (compT ⟨c.F, c.N, relS scope c.sc, fun x => scope.names.lookup x == some .cell⟩ tg1)
            (o2 Prod.mk (compI ⟨c.F, c.N, relS scope c.sc, fun x => scope.names.lookup x == some .cell⟩ (comp n ⟨c.F, c.N, relS scope c.sc, fun x => scope.names.lookup x == some .cell⟩) it1) (compIf (comp n ⟨c.F, c.N, relS scope c.sc, fun x => scope.names.lookup x == some .cell⟩) ifs1)))
      else none
    | _ => none

/-! ### promises -/
def spOf (C : Ct) (np : Nat) (m : Fn) : Sp := fun vs H Q E => vs.length = np ∧ ∃ ds G S, Reps C G H vs ds ∧ SatS C G H S ∧ (∀ a i, G.O a ≠ .slot i) ∧
  match m ds S with
  | .ok r S' => ∀ v G' H', ExC G H G' H' → SatS C G' H' S' → (∀ a i, G'.O a ≠ .slot i) → RepR C G' H' v r → Q v H'
  | .exc x S' => ∀ c d G' H', ExC G H G' H' → SatS C G' H' S' → (∀ a i, G'.O a ≠ .slot i) → ErrOk C G' H' c d x → E c d H'
  | .bad => False
/-- what is known of a class -/
structure CI (K : PySem.W.Frag) (A : Addr) : Prop where
  cl : Cls K A
  ha : PySem.W.findIn K (.ref A) "__class__" = some (some (.builtin "object.__class__"))
  hn : PySem.W.specialIn K (.builtin "object.__class__") "__get__" = some (some (.builtin "getset_descriptor.__get__"))
  ht : PySem.W.takesIn K (.builtin "object.__class__") = some true
  hm : PySem.W.mroIn K A (.type "object") = some true
  kt : ∀ t, t ∈ ["NoneType", "bool", "int", "str", "list", "tuple"] → PySem.W.kitOne K (.type t) (.ref A) = some false ∧ PySem.W.notFirst K A (.type t) = true
/-- a def, its names and its promise, at a lower level -/
def FnAt (P : Program) (w : World) (K : PySem.W.Frag) (mg : Str → Option Value) (base : Heap) (cad : Str → Option Addr) (n : Nat) (f : Addr) (fd : FuncData) (ps : List Str) (fn : Fn) : Prop :=
  FnOk P w K mg base (L2.CX P w) n f fd ps (spOf ⟨K, cad⟩ ps.length fn) ∧ Binds K fd ps [] ∧ ∀ ds S, fn ds S ≠ .bad → ds.length = ps.length
structure TabOk (P : Program) (w : World) (K : PySem.W.Frag) (mg : Str → Option Value) (base : Heap) (cad : Str → Option Addr) (F : List Str) (T : Tab) (n : Nat) : Prop where
  fn : ∀ i m, T.fn i = some m → ∀ f, F[i]? = some f → ∃ a fd ps, mg f = some (.ref a) ∧ PySem.W.keepIn K (.ref a) = true ∧ FnOk P w K mg base (L2.CX P w) n a fd ps (spOf ⟨K, cad⟩ ps.length m) ∧ Binds K fd ps [] ∧ ∀ ds S, m ds S ≠ .bad → ds.length = ps.length
  fnk : ∀ i ks n' m perm, T.fnk i ks n' = some (m, perm) → ∀ f, F[i]? = some f → ∃ a fd ps, mg f = some (.ref a) ∧ PySem.W.keepIn K (.ref a) = true ∧ FnOk P w K mg base (L2.CX P w) n a fd ps (spOf ⟨K, cad⟩ ps.length m) ∧
    (∀ (s : Shared) (us ws xs : List Value), K.In s.heap → us.length = n' → ws.length = ks.length → pick perm (us ++ ws) = some xs → xs.length = ps.length → BindsTo s fd ⟨us, ks.zip ws⟩ (ps.zip xs)) ∧ ∀ ds S, m ds S ≠ .bad → ds.length = ps.length
  gl : ∀ i d, T.gl i = some d → ∀ x, F[i]? = some x → ∃ u v, mg x = some u ∧ RelV v u ∧ ∀ G H, Rep ⟨K, cad⟩ G H v d
  bl : ∀ b, b ∈ bltNames → mg b = none
  nw : ∀ i k c fn dv z, T.nw i k = some (c, fn, dv, z) → ∀ f, F[i]? = some f → ∃ A fi fd ps dvs ds, mg f = some (.ref A) ∧ cad c = some A ∧ Mk K A fi ∧ (∃ j, j + 1 ≤ n ∧ FnOk P w K mg base (L2.CX P w) j fi fd ps (spOf ⟨K, cad⟩ ps.length fn)) ∧ Binds K fd ps ds ∧ Vals dvs ds ∧ (∀ G H, Reps ⟨K, cad⟩ G H dvs dv) ∧ ∀ ds S, fn ds S ≠ .bad → ds.length = ps.length
  nk : ∀ i ks n' c fn perm dv z, T.nk i ks n' = some (c, fn, perm, dv, z) → ∀ f, F[i]? = some f → ∃ A fi fd ps dvs dls, mg f = some (.ref A) ∧ cad c = some A ∧ Mk K A fi ∧ (∃ j, j + 1 ≤ n ∧ FnOk P w K mg base (L2.CX P w) j fi fd ps (spOf ⟨K, cad⟩ ps.length fn)) ∧
    (∀ (s : Shared) (x : Value) (us ws xs : List Value), K.In s.heap → us.length = n' → ws.length = ks.length → pick perm (us ++ ws ++ dls) = some xs → xs.length + 1 = ps.length → BindsTo s fd ⟨x :: us, ks.zip ws⟩ (ps.zip (x :: xs))) ∧ Vals dvs dls ∧ (∀ G H, Reps ⟨K, cad⟩ G H dvs dv) ∧ ∀ ds S, fn ds S ≠ .bad → ds.length = ps.length
  ci : ∀ c A, T.oc c = true → cad c = some A → CI K A
  na : ∀ c f A, T.isF c f = true → cad c = some A → Cls K A ∧ NoAttr K A f
  mt : ∀ c m fn, T.mt c m = some fn → ∀ A, cad c = some A → Cls K A ∧ ∃ f fd ps, Meth K A m f ∧ FnAt P w K mg base cad n f fd ps fn
  sm : ∀ c m fn, T.sm c m = some fn → ∀ A, cad c = some A → CI K A ∧ (m = ("__eq__" : Str) → PySem.W.findIn K (.ref A) "__ne__" = some (some (.builtin "object.__ne__"))) ∧ ∃ f fd ps j, Meth K A m f ∧ j + 1 ≤ n ∧ FnAt P w K mg base cad j f fd ps fn
  pr : ∀ c m fn, T.pr c m = some fn → ∀ A, cad c = some A → Cls K A ∧ ∃ p g fd ps j, PropOf K A m p g ∧ j + 1 ≤ n ∧ FnAt P w K mg base cad j g fd ps fn
  cn : ∀ c f d, T.cn c f = some d → ∀ A, cad c = some A → ∃ mc v u, ClX.CRead K A mc ∧ ClX.CVal K A mc f v u ∧ ∀ G H, Rep ⟨K, cad⟩ G H v d
  mtk : ∀ c m ks n' fn perm, T.mtk c m ks n' = some (fn, perm) → ∀ A, cad c = some A → Cls K A ∧ ∃ f fd ps, Meth K A m f ∧ FnOk P w K mg base (L2.CX P w) n f fd ps (spOf ⟨K, cad⟩ ps.length fn) ∧
    (∀ (s : Shared) (x : Value) (us ws xs : List Value), K.In s.heap → us.length = n' → ws.length = ks.length → pick perm (us ++ ws) = some xs → xs.length + 1 = ps.length → BindsTo s fd ⟨x :: us, ks.zip ws⟩ (ps.zip (x :: xs))) ∧ ∀ ds S, fn ds S ≠ .bad → ds.length = ps.length
  sub : ∀ c c' b, T.sub c c' = some b → ∀ A A', cad c = some A → cad c' = some A' → PySem.W.kitOne K (.ref A) (.ref A') = some b ∧ (b = false → PySem.W.notFirst K A' (.ref A) = true)
abbrev ct (X : Cx) (cad : Str → Option Addr) : Ct := ⟨X.K, cad⟩
structure Good (X : Cx) (cad : Str → Option Addr) (T : Tab) (W : WX) (n : Nat) (c : CC) : Prop where
  N : X.N = c.N
  sc : X.env.scope = c.sc
  nd : X.N.Nodup
  fn : ∀ x, c.fn x = true → X.fn x = true
  calm : X.calm = true
  room : Room n X.A
  tk : Takes X W
  tab : TabOk X.prog X.w X.K X.mg X.base cad c.F T n

theorem PE.weak {X : Cx} {e : Expr} {t t' : TE} (p : PE X e t) (h : ∀ σ H Q, t' σ H Q → t σ H Q) : PE X e t' := ⟨fun pins s σ H Q I q => p.run pins s σ H Q I (h _ _ _ q)⟩
theorem PT.weak {X : Cx} {e : Expr} {t t' : TT} (p : PT X e t) (h : ∀ σ H Q, t' σ H Q → t σ H Q) : PT X e t' := ⟨fun pins s σ H Q I q => p.run pins s σ H Q I (h _ _ _ q)⟩
theorem PW.weak {X : Cx} {e : Expr} {t t' : TT} (p : PW X e t) (h : ∀ σ H Q, t' σ H Q → t σ H Q) : PW X e t' := ⟨fun wh pins s σ H Q I q => p.run wh pins s σ H Q I (h _ _ _ q)⟩
theorem PA.weak {X : Cx} {e : List Expr} {t t' : TA} (p : PA X e t) (h : ∀ σ H Q, t' σ H Q → t σ H Q) : PA X e t' := ⟨fun pos pins s σ H Q I q => p.run pos pins s σ H Q I (h _ _ _ q)⟩
theorem PI.weak {X : Cx} {tg e : Expr} {t t' : TI} (p : PI X tg e t) (h : ∀ σ H Q, t' σ H Q → t σ H Q) : PI X tg e t' := ⟨fun pins s σ H Q I q => p.run pins s σ H Q I (h _ _ _ q)⟩
theorem PO.weak {X : Cx} {e : Option Expr} {t t' : TO} (p : PO X e t) (h : ∀ σ H Q, t' σ H Q → t σ H Q) : PO X e t' := ⟨fun pins s σ H Q I q => p.run pins s σ H Q I (h _ _ _ q)⟩

/-! ### the operators, by what stands for the data -/
section
variable {X : Cx} {cad : Str → Option Addr} {W : WX}
/-- a state in which two values stand for data -/
def St2 (C : Ct) (W : WX) (x y : V) (H : Hp) (f : D → D → Option RV) (Q : VK) : Prop :=
  ∃ σ G ρ S d e, Sat C G H σ ρ S ∧ RepB C G H x d ∧ RepB C G H y e ∧ At C W σ G H (ofO (f d e) ρ S) (RepR C) Q
/-- a new tuple stands for .. -/
theorem new_tup {C : Ct} {σ : L2.St} {ρ : Rho} {S : Mem} {G : Gh} {H : Hp} {p : Addr} {vs : List V} {ds : List D} {Q : VK} (s : Sat C G H σ ρ S) (hp : H p = none) (r : Reps C G H vs ds) (h : At C W σ G H (.ok (.fz (.tup ds)) ρ S) (RepR C) Q) : Q (.ref p) (upd H p (.tup vs)) := by
  obtain ⟨k, s'⟩ := s.new (o := .tup vs) (w := .frz) hp
  exact h _ _ _ k.exE s' (.tup (.inl ⟨Gh.set_same, upd_same⟩) (Reps.mono k.exE.toExF ds vs r))
theorem new_lst {C : Ct} {σ : L2.St} {ρ : Rho} {S : Mem} {G : Gh} {H : Hp} {p : Addr} {vs : List V} {ds : List D} {Q : VK} (s : Sat C G H σ ρ S) (hp : H p = none) (r : Reps C G H vs ds) (h : At C W σ G H (.ok (.own ds) ρ S) (RepR C) Q) : Q (.ref p) (upd H p (.lst vs)) := by
  obtain ⟨k, s'⟩ := s.new (o := .lst vs) (w := .tmp) hp
  exact h _ _ _ k.exE s' ⟨p, vs, rfl, Gh.set_same, upd_same, Reps.mono k.exE.toExF ds vs r⟩
theorem here {C : Ct} {σ : L2.St} {ρ : Rho} {S : Mem} {G : Gh} {H : Hp} {v : V} {d : D} {Q : VK} (s : Sat C G H σ ρ S) (r : Rep C G H v d) (h : At C W σ G H (.ok (.fz d) ρ S) (RepR C) Q) : Q v H := h _ _ _ (.refl G H) s r
theorem bint {C : Ct} {G : Gh} {H : Hp} {v : V} {i : Int} (h : RepB C G H v (.int i)) : v = .int i := by
  have := h.rep (fun _ e => nomatch e)
  cases this
  rfl
theorem bstr {C : Ct} {G : Gh} {H : Hp} {v : V} {x : Str} (h : RepB C G H v (.str x)) : v = .str x := by
  have := h.rep (fun _ e => nomatch e)
  cases this
  rfl
theorem bnon {C : Ct} {G : Gh} {H : Hp} {v : V} (h : RepB C G H v .non) : v = .non := by
  have := h.rep (fun _ e => nomatch e)
  cases this
  rfl
theorem btup {C : Ct} {G : Gh} {H : Hp} {v : V} {ds : List D} (h : RepB C G H v (.tup ds)) : ∃ a xs, v = .ref a ∧ FT C G H a xs ∧ Reps C G H xs ds := by
  have := h.rep (fun _ e => nomatch e)
  cases this with
  | tup h1 h2 => exact ⟨_, _, rfl, h1, h2⟩
theorem LINE_le {n : Nat} (h : n ≤ LINE) : n ≤ sizeLine := by rw [sizeLine_eq]; exact h
theorem reps_rep {C : Ct} {G : Gh} {H : Hp} {xs : List V} {ds : List D} (r : Reps C G H xs ds) : ∀ n : Nat, Reps C G H (List.replicate n xs).flatten (List.replicate n ds).flatten
  | 0 => .nil
  | n + 1 => by
    rw [List.replicate_succ, List.replicate_succ, List.flatten_cons, List.flatten_cons]
    exact r.append (reps_rep r n)
/-- list + list, also locked ones -/
theorem op_catL : OpR X (binaryOp .Add) (fun x y H Q => ∃ l b xs zs, x = .ref l ∧ y = .ref b ∧ SqL X.K H l xs ∧ SqL X.K H b zs ∧ xs.length + zs.length ≤ sizeLine ∧ ∀ p, H p = none → Q (.ref p) (upd H p (.lst (xs ++ zs)))) := by
  intro pins s σ H x y v u Q I rx ry h
  obtain ⟨l, b, xs, zs, rfl, rfl, hH, hB, hz, q⟩ := h
  cases rx
  cases ry
  obtain ⟨its, r, pl, z⟩ := I.list hH
  obtain ⟨its2, r2, pl2, z2⟩ := I.list hB
  obtain ⟨⟨cls, dd, data, sl⟩, ho, hc, n, hd⟩ := pl.isList
  obtain ⟨⟨cls2, dd2, data2, sl2⟩, ho2, hc2, n2, hd2⟩ := pl2.isList
  simp only at hc hd hc2 hd2
  subst hc hd hc2 hd2
  have hl := r.length
  have hl2 := r2.length
  have e : its.toArray ++ its2.toArray = (its ++ its2).toArray := by simp
  refine concat_meets ⟨_, ho, rfl⟩ ⟨_, ho2, rfl⟩ noFill_list_add seq_list_add PySem.F.slot_list_add PySem.F.entry_list_add (PySem.F.args_list_add_2 _ _) (list_addW l b its.toArray its2.toArray n n2 dd dd2 sl sl2 (by rw [List.size_toArray, List.size_toArray]; omega)) ⟨ho, ho2, ?_⟩
  rw [e]
  exact ⟨.ref _, _, I.lnew (t' := s.toks) (r.append r2) (by rw [List.length_append]; omega), rfl, q _ I.fresh⟩
theorem mulOk_C {i j : Int} (h : mulOk i j = true) : CMul i j := by
  unfold mulOk at h
  simp only [Bool.or_eq_true, decide_eq_true_eq] at h
  unfold CMul
  omega
/-- a two-place operation on data -/
theorem op_bin {op : Operator} : OpR X (binaryOp op) (fun x y H Q => St2 (ct X cad) W x y H (opBin op) Q) := by
  intro pins s σ H x y v u Q I rx ry h
  obtain ⟨σ', G, ρ, S, d, e, sat, hx, hy, h⟩ := h
  unfold opBin at h
  split at h
  · have e1 := bint hx; have e2 := bint hy; subst e1 e2
    exact op_add pins s σ H _ _ v u Q I rx ry ⟨_, _, rfl, rfl, here sat (.int _) h⟩
  · have e1 := bstr hx; have e2 := bstr hy; subst e1 e2
    split at h
    · rename_i hz
      exact op_add_str pins s σ H _ _ v u Q I rx ry ⟨_, _, rfl, rfl, LINE_le hz, here sat (.str _) h⟩
    · exact h.elim
  · obtain ⟨a, xs, rfl, hs, r⟩ := hx.lst
    obtain ⟨b, ys, rfl, hs2, r2⟩ := hy.lst
    split at h
    · rename_i hz
      exact op_catL pins s σ H _ _ v u Q I rx ry ⟨_, _, xs, ys, rfl, rfl, hs, hs2, LINE_le (by rw [r.length, r2.length]; exact hz), fun p hp => new_lst sat hp (r.append r2) h⟩
    · exact h.elim
  · obtain ⟨a, xs, rfl, hs, r⟩ := btup hx
    obtain ⟨b, ys, rfl, hs2, r2⟩ := btup hy
    split at h
    · rename_i hz
      have l1 := r.length
      have l2 := r2.length
      refine op_catA pins s σ H _ _ v u Q I rx ry ⟨_, _, xs, ys, rfl, rfl, hs.seq, hs2.seq, LINE_le (by rw [l1, l2]; exact hz), fun e => ?_, fun _ e => ?_, fun _ _ p hp => new_tup sat hp (r.append r2) h⟩
      · subst e
        cases r
        exact here sat (.tup hs2 r2) h
      · subst e
        cases r2
        rw [List.append_nil] at h
        exact here sat (.tup hs r) h
    · exact h.elim
  · have e1 := bint hx; have e2 := bint hy; subst e1 e2
    exact op_sub pins s σ H _ _ v u Q I rx ry ⟨_, _, rfl, rfl, here sat (.int _) h⟩
  · have e1 := bint hx; have e2 := bint hy; subst e1 e2
    split at h
    · rename_i hz
      exact op_mul pins s σ H _ _ v u Q I rx ry ⟨_, _, rfl, rfl, mulOk_C hz, here sat (.int _) h⟩
    · exact h.elim
  · have e1 := bint hx; have e2 := bint hy; subst e1 e2
    split at h
    · rename_i hz
      exact op_fdiv pins s σ H _ _ v u Q I rx ry ⟨_, _, rfl, rfl, ⟨by omega, by omega⟩, here sat (.int _) h⟩
    · exact h.elim
  · have e1 := bint hx; have e2 := bint hy; subst e1 e2
    split at h
    · rename_i hz
      exact op_mod pins s σ H _ _ v u Q I rx ry ⟨_, _, rfl, rfl, by omega, here sat (.int _) h⟩
    · exact h.elim
  · have e1 := bint hx; have e2 := bint hy; subst e1 e2
    split at h
    · rename_i hz
      exact op_pow pins s σ H _ _ v u Q I rx ry ⟨_, _, rfl, rfl, ⟨by omega, by omega, by omega⟩, here sat (.int _) h⟩
    · exact h.elim
  · exact h.elim
end
end Sh


/-! ShOps: comparisons, places, slices, built-ins by what stands for the data. -/
namespace Sh
open PySem PySem.Spec PyProof.Rows L2
section
variable {X : Cx} {cad : Str → Option Addr} {W : WX}
theorem room65 {n : Nat} {A : Around} (r : Room n A) : A.units + 65 < cLine := by have := r.un; omega
def StC (C : Ct) (x y : V) (H : Hp) (op : CmpOp) (Q : VK) : Prop :=
  ∃ σ G ρ S d e k, Sat C G H σ ρ S ∧ RepB C G H x d ∧ RepB C G H y e ∧ opCmp op d e = some k ∧ Q (.bl k) H
theorem anyEqv_eq (d : D) : ∀ ds : List D, ((D.pys ds).any fun z => PyData.eqv z d.py) = anyEqv d ds
  | [] => rfl
  | e :: es => by
    show (PyData.eqv e.py d.py || (D.pys es).any fun z => PyData.eqv z d.py) = (e.eqv d || anyEqv d es)
    rw [anyEqv_eq d es]
    rfl
theorem eqOk_1 {d : D} (h : d.eqOk = true) : d.plain = true := (Bool.and_eq_true_iff.mp h).1
theorem eqOk_2 {d : D} (h : d.eqOk = true) : SeqAt.shaped d.py = true := (Bool.and_eq_true_iff.mp h).2
theorem isNon {C : Ct} {G : Gh} {H : Hp} {v : V} {d : D} (h : RepB C G H v d) : decide (v = .non) = d.isNon := by
  rcases h with h | ⟨a, xs, ds, i, rfl, rfl, _⟩
  · cases h <;> simp [D.isNon]
  · simp [D.isNon]
theorem op_cmp {n : Nat} (hr : Room n X.A) {op : CmpOp} : OpR X (compareOp op) (fun x y H Q => StC (ct X cad) x y H op Q) := by
  intro pins s σ H x y v u Q I rx ry h
  obtain ⟨σ', G, ρ, S, d, e, k, sat, hx, hy, h, q⟩ := h
  have hu := hr.units
  have hu5 := room65 hr
  unfold opCmp at h
  split at h
  · have e1 := bint hx; have e2 := bint hy; subst e1 e2
    cases h
    exact op_lt pins s σ H _ _ v u Q I rx ry ⟨_, _, rfl, rfl, q⟩
  · have e1 := bint hx; have e2 := bint hy; subst e1 e2
    cases h
    exact op_le pins s σ H _ _ v u Q I rx ry ⟨_, _, rfl, rfl, q⟩
  · have e1 := bint hx; have e2 := bint hy; subst e1 e2
    cases h
    exact op_gt pins s σ H _ _ v u Q I rx ry ⟨_, _, rfl, rfl, q⟩
  · have e1 := bint hx; have e2 := bint hy; subst e1 e2
    cases h
    exact op_ge pins s σ H _ _ v u Q I rx ry ⟨_, _, rfl, rfl, q⟩
  · split at h
    · rename_i hz
      have hz := Bool.and_eq_true_iff.mp hz
      cases h
      exact op_eqD hu pins s σ H _ _ v u Q I rx ry ⟨_, _, hx.dp (eqOk_1 hz.1), hy.dp (eqOk_1 hz.2), eqOk_2 hz.1, eqOk_2 hz.2, q⟩
    · cases h
  · split at h
    · rename_i hz
      have hz := Bool.and_eq_true_iff.mp hz
      cases h
      exact op_neD hu pins s σ H _ _ v u Q I rx ry ⟨_, _, hx.dp (eqOk_1 hz.1), hy.dp (eqOk_1 hz.2), eqOk_2 hz.1, eqOk_2 hz.2, q⟩
    · cases h
  · have e2 := bnon hy; subst e2
    cases h
    exact op_isN pins s σ H _ _ v u Q I rx ry ⟨rfl, by rw [isNon hx]; exact q⟩
  · have e2 := bnon hy; subst e2
    cases h
    exact op_notN pins s σ H _ _ v u Q I rx ry ⟨rfl, by rw [isNon hx]; exact q⟩
  · have e1 := bstr hx; have e2 := bstr hy; subst e1 e2
    split at h
    · rename_i cs z zz c hc
      cases h
      have : cs = #[c] := by
        rw [← Array.toArray_toList (xs := cs), hc]
      subst this
      exact op_in_sign pins s σ H _ _ v u Q I rx ry ⟨_, _, rfl, rfl, q⟩
    · cases h
  · split at h
    · rename_i hz
      have hz := Bool.and_eq_true_iff.mp hz
      cases h
      exact op_inD hu5 pins s σ H _ _ v u Q I rx ry ⟨_, _, hx.dp (eqOk_1 hz.1), hy.dp (eqOk_1 hz.2), eqOk_2 hz.1, eqOk_2 hz.2, by rw [anyEqv_eq]; exact q⟩
    · cases h
  · split at h
    · rename_i hz
      have hz := Bool.and_eq_true_iff.mp hz
      cases h
      exact op_notInD hu5 pins s σ H _ _ v u Q I rx ry ⟨_, _, hx.dp (eqOk_1 hz.1), hy.dp (eqOk_1 hz.2), eqOk_2 hz.1, eqOk_2 hz.2, by rw [anyEqv_eq]; exact q⟩
    · cases h
  · split at h
    · rename_i hz
      have hz := Bool.and_eq_true_iff.mp hz
      cases h
      exact op_inT hu5 pins s σ H _ _ v u Q I rx ry ⟨_, _, hx.dp (eqOk_1 hz.1), hy.dp (eqOk_1 hz.2), eqOk_2 hz.1, eqOk_2 hz.2, by rw [anyEqv_eq]; exact q⟩
    · cases h
  · cases h
/-! ### places and slices -/
theorem atI_rep {C : Ct} {G : Gh} {H : Hp} {xs : List V} {ds : List D} {i : Int} {d : D} (r : Reps C G H xs ds) (h : atI ds i = some d) : ∃ v, atI xs i = some v ∧ Rep C G H v d := by
  unfold atI at h ⊢
  rw [r.length]
  cases e : ixN ds.length i with
  | none => rw [e] at h; cases h
  | some j =>
    rw [e] at h
    exact r.get h
theorem op_idx : IxR X (fun x y H Q => St2 (ct X cad) W x y H opIdx Q) := by
  intro value slice pins s σ H x y v u Q I rx ry h hs
  obtain ⟨σ', G, ρ, S, d, e, sat, hx, hy, h⟩ := h
  unfold opIdx at h
  split at h
  · have e2 := bint hy; subst e2
    obtain ⟨a, xs, rfl, hl, r⟩ := hx.lst
    rename_i ds i
    cases e : atI ds i with
    | none => rw [e] at h; exact h.elim
    | some z =>
      rw [e] at h
      obtain ⟨w, hw, rw'⟩ := atI_rep r e
      exact ix_list value slice pins s σ H _ _ v u Q I rx ry ⟨_, _, _, _, rfl, rfl, hl, hw, here sat rw' h⟩ hs
  · have e2 := bint hy; subst e2
    obtain ⟨a, xs, rfl, hl, r⟩ := btup hx
    rename_i ds i
    cases e : atI ds i with
    | none => rw [e] at h; exact h.elim
    | some z =>
      rw [e] at h
      obtain ⟨w, hw, rw'⟩ := atI_rep r e
      exact ix_tup value slice pins s σ H _ _ v u Q I rx ry ⟨_, _, _, _, rfl, rfl, hl.seq, hw, here sat rw' h⟩ hs
  · have e1 := bstr hx; have e2 := bint hy; subst e1 e2
    split at h
    · rename_i z i hz
      cases e : atI z.cps.toList i with
      | none => rw [e] at h; exact h.elim
      | some c =>
        rw [e] at h
        exact ix_str value slice pins s σ H _ _ v u Q I rx ry ⟨_, _, c, rfl, rfl, LINE_le hz, e, here sat (.str _) h⟩ hs
    · exact h.elim
  · exact h.elim
theorem cut_reps {C : Ct} {G : Gh} {H : Hp} {xs : List V} {ds : List D} (r : Reps C G H xs ds) (lo hi : Option Int) : Reps C G H (cutV xs lo hi) (cutD ds lo hi) := by
  unfold cutV cutD
  rw [r.length]
  exact (r.drop _).take _
theorem cutD_whole {ds : List D} {lo hi : Option Int} (h : HT.sIx ds.length 0 lo = 0 ∧ HT.sIx ds.length ds.length hi = ds.length) : cutD ds lo hi = ds := by
  unfold cutD
  rw [h.1, h.2]
  simp
def StL (C : Ct) (W : WX) (x : V) (lo hi : Option Int) (H : Hp) (Q : VK) : Prop :=
  ∃ σ G ρ S d, Sat C G H σ ρ S ∧ RepB C G H x d ∧ At C W σ G H (ofO (opSlc d lo hi) ρ S) (RepR C) Q
theorem op_slc : SlR X (fun x lo hi H Q => StL (ct X cad) W x lo hi H Q) := by
  intro pins s σ H x v vl vu lo hi sl Q I rx hs pl pu h
  obtain ⟨σ', G, ρ, S, d, sat, hx, h⟩ := h
  unfold opSlc at h
  split at h
  · obtain ⟨a, xs, rfl, hl, r⟩ := hx.lst
    exact sl_list pins s σ H _ v vl vu lo hi sl Q I rx hs pl pu ⟨_, _, rfl, hl, fun p hp => new_lst sat hp (cut_reps r lo hi) h⟩
  · obtain ⟨a, xs, rfl, hl, r⟩ := btup hx
    refine sl_tupA pins s σ H _ v vl vu lo hi sl Q I rx hs pl pu ⟨_, _, rfl, hl.seq, fun e => ?_, fun _ p hp => new_tup sat hp (cut_reps r lo hi) h⟩
    rw [r.length] at e
    rw [cutD_whole e] at h
    exact here sat (.tup hl r) h
  · have e1 := bstr hx; subst e1
    split at h
    · rename_i z hz
      exact sl_str pins s σ H _ v vl vu lo hi sl Q I rx hs pl pu ⟨_, rfl, LINE_le hz, here sat (.str _) h⟩
    · exact h.elim
  · exact h.elim
/-! ### built-ins -/
inductive RepBs (C : Ct) (G : Gh) (H : Hp) : List V → List D → Prop
  | nil : RepBs C G H [] []
  | cons {v : V} {vs : List V} {d : D} {ds : List D} : RepB C G H v d → RepBs C G H vs ds → RepBs C G H (v :: vs) (d :: ds)
theorem RepBs.mono {C : Ct} {G G' : Gh} {H H' : Hp} (e : ExE G H G' H') : ∀ {vs : List V} {ds : List D}, RepBs C G H vs ds → RepBs C G' H' vs ds
  | _, _, .nil => .nil
  | _, _, .cons h t => .cons (h.mono e) (t.mono e)
def StB (C : Ct) (W : WX) (xs : List V) (H : Hp) (f : List D → Option RV) (Q : VK) : Prop :=
  ∃ σ G ρ S ds, Sat C G H σ ρ S ∧ RepBs C G H xs ds ∧ At C W σ G H (ofO (f ds) ρ S) (RepR C) Q
theorem one_of {C : Ct} {G : Gh} {H : Hp} {vs : List V} {d : D} (h : RepBs C G H vs [d]) : ∃ v, vs = [v] ∧ RepB C G H v d := by
  cases h with
  | cons h t => cases t; exact ⟨_, rfl, h⟩
theorem allBl_reps {C : Ct} {G : Gh} {H : Hp} : ∀ {ds : List D} {xs : List V} {b : Bool}, Reps C G H xs ds → allBl ds = some b → ∃ bs : List Bool, xs = bs.map V.bl ∧ bs.all id = b
  | [], _, _, h, e => by
    cases h
    cases e
    exact ⟨[], rfl, rfl⟩
  | d :: ds, _, b, h, e => by
    cases h with
    | cons h1 h2 =>
      cases d with
      | bl k =>
        cases h1
        cases e2 : allBl ds with
        | none => simp [allBl, e2] at e
        | some c =>
          obtain ⟨bs, rfl, q⟩ := allBl_reps h2 e2
          simp only [allBl, e2, Option.map_some, Option.some.injEq] at e
          exact ⟨k :: bs, rfl, by simp only [List.all_cons, id, q]; exact e⟩
      | _ => simp [allBl] at e
theorem op_len : CallR X (.builtin "len") (fun xs H Q => StB (ct X cad) W xs H (opBcl .len) Q) := by
  intro pins s σ H xs us Q I rx h
  obtain ⟨σ', G, ρ, S, ds, sat, hx, h⟩ := h
  unfold opBcl at h
  split at h <;> try exact h.elim
  · obtain ⟨v, rfl, hv⟩ := one_of hx
    obtain ⟨a, ys, rfl, hl, r⟩ := hv.lst
    rw [← r.length] at h
    exact call_len pins s σ H _ us Q I rx ⟨_, _, rfl, .inl ⟨_, hl, rfl⟩, here sat (.int _) h⟩
  · obtain ⟨v, rfl, hv⟩ := one_of hx
    obtain ⟨a, ys, rfl, hl, r⟩ := btup hv
    rw [← r.length] at h
    exact call_len pins s σ H _ us Q I rx ⟨_, _, rfl, .inr ⟨_, hl.seq, rfl⟩, here sat (.int _) h⟩
  · obtain ⟨v, rfl, hv⟩ := one_of hx
    have e1 := bstr hv; subst e1
    split at h
    · rename_i hz
      exact call_len pins s σ H _ us Q I rx ⟨_, _, rfl, ⟨LINE_le hz, rfl⟩, here sat (.int _) h⟩
    · exact h.elim
  all_goals contradiction
theorem op_int : CallR X (.type "int") (fun xs H Q => StB (ct X cad) W xs H (opBcl .int) Q) := by
  intro pins s σ H xs us Q I rx h
  obtain ⟨σ', G, ρ, S, ds, sat, hx, h⟩ := h
  unfold opBcl at h
  split at h <;> try exact h.elim
  all_goals first | contradiction | skip
  obtain ⟨v, rfl, hv⟩ := one_of hx
  have e1 := bint hv; subst e1
  exact call_int1 pins s σ H _ us Q I rx (.inl ⟨_, rfl, here sat (.int _) h⟩)
theorem op_all (hc : X.calm = true) : CallR X (.builtin "all") (fun xs H Q => StB (ct X cad) W xs H (opBcl .all) Q) := by
  intro pins s σ H xs us Q I rx h
  obtain ⟨σ', G, ρ, S, ds, sat, hx, h⟩ := h
  unfold opBcl at h
  split at h <;> try exact h.elim
  all_goals first | contradiction | skip
  obtain ⟨v, rfl, hv⟩ := one_of hx
  obtain ⟨a, ys, rfl, hl, r⟩ := hv.lst
  have key : ∀ zs, Reps (ct X cad) G H ys zs → At (ct X cad) W σ' G H (ofO ((allBl zs).map fun b => RV.fz (.bl b)) ρ S) (RepR (ct X cad)) Q → wpAny (model X.prog X.w) X.A (call (.builtin "all") us) (EP X pins σ Q) X.xe s := fun zs r h => by
    cases e : allBl zs with
    | none => rw [e] at h; exact h.elim
    | some b =>
      rw [e] at h
      obtain ⟨bs, rfl, q⟩ := allBl_reps r e
      exact cr_all hc pins s σ H _ us Q I rx ⟨_, bs, rfl, hl, by rw [q]; exact here sat (.bl _) h⟩
  exact key _ r h
theorem op_list : CallR X (.type "list") (fun xs H Q => StB (ct X cad) W xs H (opBcl .list) Q) := by
  intro pins s σ H xs us Q I rx h
  obtain ⟨σ', G, ρ, S, ds, sat, hx, h⟩ := h
  unfold opBcl at h
  split at h <;> try exact h.elim
  all_goals first | contradiction | skip
  · obtain ⟨v, rfl, hv⟩ := one_of hx
    obtain ⟨a, ys, rfl, hl, r⟩ := hv.lst
    exact call_list_of pins s σ H _ us Q I rx ⟨_, _, rfl, .inl hl, fun p hp => new_lst sat hp r h⟩
  · obtain ⟨v, rfl, hv⟩ := one_of hx
    obtain ⟨a, ys, rfl, hl, r⟩ := btup hv
    exact call_list_of pins s σ H _ us Q I rx ⟨_, _, rfl, .inr hl.seq, fun p hp => new_lst sat hp r h⟩
theorem op_tuple : CallR X (.type "tuple") (fun xs H Q => StB (ct X cad) W xs H (opBcl .tuple) Q) := by
  intro pins s σ H xs us Q I rx h
  obtain ⟨σ', G, ρ, S, ds, sat, hx, h⟩ := h
  unfold opBcl at h
  split at h <;> try exact h.elim
  all_goals first | contradiction | skip
  · obtain ⟨v, rfl, hv⟩ := one_of hx
    obtain ⟨a, ys, rfl, hl, r⟩ := hv.lst
    exact call_tuple_of pins s σ H _ us Q I rx ⟨_, _, rfl, .inl ⟨hl, fun p hp => new_tup sat hp r h⟩⟩
  · obtain ⟨v, rfl, hv⟩ := one_of hx
    obtain ⟨a, ys, rfl, hl, r⟩ := btup hv
    exact call_tuple_of pins s σ H _ us Q I rx ⟨_, _, rfl, .inr ⟨hl.seq, here sat (.tup hl r) h⟩⟩
theorem op_str : CallR X (.type "str") (fun xs H Q => StB (ct X cad) W xs H (opBcl .str) Q) := by
  intro pins s σ H xs us Q I rx h
  obtain ⟨σ', G, ρ, S, ds, sat, hx, h⟩ := h
  unfold opBcl at h
  split at h <;> try exact h.elim
  all_goals first | contradiction | skip
  · obtain ⟨v, rfl, hv⟩ := one_of hx
    have e1 := bint hv; subst e1
    split at h
    · rename_i hz
      exact call_str_int pins s σ H _ us Q I rx ⟨_, rfl, hz, here sat (.str _) h⟩
    · exact h.elim
  · obtain ⟨v, rfl, hv⟩ := one_of hx
    have e1 := bstr hv; subst e1
    exact SkE.call_str_str pins s σ H _ us Q I rx ⟨_, rfl, here sat (.str _) h⟩
theorem minD_rep {C : Ct} {G : Gh} {H : Hp} : ∀ {ds : List D} {vs : List V} {i m : Int}, Reps C G H vs ds → minD i ds = some m → ∃ ns : List Int, vs = ns.map V.int ∧ (m = i ∨ m ∈ ns) ∧ m ≤ i ∧ ∀ y ∈ ns, m ≤ y
  | [], _, i, m, r, h => by
    cases r
    cases h
    exact ⟨[], rfl, .inl rfl, Int.le_refl _, fun y hy => by cases hy⟩
  | d :: ds, _, i, m, r, h => by
    cases r with
    | cons r1 r2 =>
      cases d with
      | int j =>
        cases r1
        obtain ⟨ns, rfl, h1, h2, h3⟩ := minD_rep r2 (show minD (if j < i then j else i) ds = some m from h)
        refine ⟨j :: ns, rfl, ?_, ?_, fun y hy => ?_⟩
        · rcases h1 with h1 | h1
          · split at h1
            · exact .inr (by simp [h1])
            · exact .inl h1
          · exact .inr (List.mem_cons_of_mem _ h1)
        · split at h2 <;> omega
        · rcases List.mem_cons.mp hy with rfl | hy
          · split at h2 <;> omega
          · exact h3 y hy
      | _ => cases h
theorem op_min (hc : X.calm = true) : CallR X (.builtin "min") (fun xs H Q => StB (ct X cad) W xs H (opBcl .min) Q) := by
  intro pins s σ H xs us Q I rx h
  obtain ⟨σ', G, ρ, S, ds, sat, hx, h⟩ := h
  unfold opBcl at h
  split at h <;> first | contradiction | (exact h.elim) | skip
  · cases hx with
    | cons h1 h2 =>
      cases h2 with
      | cons h2 h3 =>
        cases h3
        have e1 := bint h1; have e2 := bint h2; subst e1 e2
        exact call_min2 hc pins s σ H _ us Q I rx ⟨_, _, rfl, here sat (.int _) h⟩
  · obtain ⟨v, rfl, hv⟩ := one_of hx
    obtain ⟨a, ys, rfl, hl, r⟩ := hv.lst
    rename_i i ds _
    cases r with
    | cons r1 r2 =>
      cases r1
      cases e : minD i ds with
      | none => rw [e] at h; exact h.elim
      | some m =>
        rw [e] at h
        obtain ⟨ns, rfl, k1, k2, k3⟩ := minD_rep r2 e
        refine cr_min hc pins s σ H _ us Q I rx ⟨a, i :: ns, rfl, hl, by simp, fun y hy hle => ?_⟩
        have : y = m := by
          rcases List.mem_cons.mp hy with rfl | hy
          · rcases k1 with rfl | k1
            · rfl
            · have := hle m (List.mem_cons_of_mem _ k1); omega
          · have h1 := k3 y hy
            rcases k1 with rfl | k1
            · have := hle m List.mem_cons_self; omega
            · have := hle m (List.mem_cons_of_mem _ k1); omega
        subst this
        exact here sat (.int _) h
/-! ### isinstance -/
def tyn : D → Option String
  | .non => some "NoneType" | .bl _ => some "bool" | .int _ => some "int" | .str _ => some "str" | .lst _ => some "list" | .tup _ => some "tuple" | _ => none
theorem tyX_of {G : Gh} {H : Hp} {v : V} {d : D} {t : String} (h : RepB (ct X cad) G H v d) (e : tyn d = some t) : TyX X.K H v (.type t) := by
  rcases h with h | ⟨a, xs, ds, i, rfl, rfl, h1, h2, h3⟩
  · cases h with
    | non => cases e; exact .base .non
    | bl b => cases e; exact .base (.bl _)
    | int b => cases e; exact .base (.int _)
    | str b => cases e; exact .base (.str _)
    | ty n => cases e
    | lst h1 h2 =>
      cases e
      rcases h1 with ⟨_, (h1 | ⟨o, h1⟩)⟩ | (h1 | ⟨o, its, n, h1, h3, _⟩)
      · exact .base (.lst h1)
      · exact .base (.frz h1)
      · exact (noRd h1).elim
      · exact .kList h1 h3
    | tup h1 h2 =>
      cases e
      rcases h1 with ⟨_, h1⟩ | (h1 | ⟨o, its, n, h1, h3, _⟩)
      · exact .base (.tup h1)
      · exact (noRd h1).elim
      · exact .kTuple h1 h3
    | obj => cases e
    | loc => cases e
    | cls => cases e
  · cases e
    exact .base (.lst h2)
def tyAll : List String := ["int", "bool", "str", "list", "tuple"]
theorem kitB_is : ∀ a ∈ ["NoneType", "bool", "int", "str", "list", "tuple"], ∀ t ∈ tyAll, kitB a t = some (a == t || (a == "bool" && t == "int")) := by decide +kernel
theorem isTy_kit {K : PySem.W.Frag} {d : D} {a t : String} {k : Bool} (e : tyn d = some a) (ht : t ∈ tyAll) (h : isTy d t = some k) : PySem.W.kitOne K (.type a) (.type t) = some k := by
  refine kit_ty ?_
  have ha : a ∈ ["NoneType", "bool", "int", "str", "list", "tuple"] := by
    cases d <;> simp only [tyn, Option.some.injEq, reduceCtorEq] at e <;> subst e <;> simp
  rw [kitB_is a ha t ht, ← h]
  have ht' : t = "int" ∨ t = "bool" ∨ t = "str" ∨ t = "list" ∨ t = "tuple" := by simpa [tyAll] using ht
  cases d <;> simp only [tyn, Option.some.injEq, reduceCtorEq] at e <;> subst e <;> rcases ht' with rfl | rfl | rfl | rfl | rfl <;> rfl
theorem isTy_tyn {d : D} {t : String} {k : Bool} (h : isTy d t = some k) : ∃ a, tyn d = some a := by
  cases d <;> first | exact ⟨_, rfl⟩ | cases h
end
end Sh


/-! ShSnd: the walk keeps what the small language says, construct by construct. -/
namespace Sh
open PySem PySem.Spec PyProof.Rows L2
def Eqv {α : Type} : Gh → Hp → α → α → Prop := fun _ _ b a => b = a
section
variable (X : Cx) (cad : Str → Option Addr) (T : Tab) (W : WX)
abbrev EOk (e : Expr) (l : LE) : Prop := PE X e (Tr (ct X cad) W (den T l) (RepR (ct X cad)))
abbrev BOk (e : Expr) (l : LE) : Prop := PE X e (Tr (ct X cad) W (denB T l) (RepB (ct X cad)))
abbrev TOk (e : Expr) (l : LE) : Prop := PT X e (Tr (ct X cad) W (fun ρ S => tstR (den T l ρ S)) Eqv)
abbrev WOk (e : Expr) (l : LE) : Prop := PW X e (Tr (ct X cad) W (fun ρ S => tstR (den T l ρ S)) Eqv)
abbrev AOk (es : List Expr) (l : LEs) : Prop := PA X es (Tr (ct X cad) W (denEs T l) (Reps (ct X cad)))
abbrev ABk (es : List Expr) (l : LEs) : Prop := PA X es (Tr (ct X cad) W (denBs T l) (RepBs (ct X cad)))
end
section
variable {X : Cx} {cad : Str → Option Addr} {T : Tab} {W : WX} {σ : L2.St} {H : Hp}
/-- the state behind what has been done -/
abbrev Hr (C : Ct) (W : WX) (σ : L2.St) {α β : Type} (m : Rho → Mem → Res α) (R : Gh → Hp → β → α → Prop) (H : Hp) (Q : β → Hp → Prop) : Prop := ∃ G ρ S, Sat C G H σ ρ S ∧ At C W σ G H (m ρ S) R Q
theorem Tr.mono {α β : Type} {C : Ct} {m : Rho → Mem → Res α} {R : Gh → Hp → β → α → Prop} {Q Q' : β → Hp → Prop} (h : Tr C W m R σ H Q) (hq : ∀ b H, Q b H → Q' b H) : Tr C W m R σ H Q' :=
  let ⟨G, ρ, S, s, a⟩ := h
  ⟨G, ρ, S, s, a.mono hq⟩
/-- first one, then what hangs on it -/
theorem Tr.seq {α β γ δ : Type} {C : Ct} {m : Rho → Mem → Res γ} {f : γ → Rho → Mem → Res α} {R : Gh → Hp → β → α → Prop} {R1 : Gh → Hp → δ → γ → Prop} {Q : β → Hp → Prop} {Q1 : δ → Hp → Prop} (h : Tr C W (fun ρ S => (m ρ S).bind f) R σ H Q)
    (hq : ∀ b H1 G1 ρ1 S1 a, Sat C G1 H1 σ ρ1 S1 → R1 G1 H1 b a → At C W σ G1 H1 (f a ρ1 S1) R Q → Q1 b H1) : Tr C W m R1 σ H Q1 :=
  let ⟨G, ρ, S, s, a⟩ := h
  ⟨G, ρ, S, s, (At.bind a).mono fun b H1 ⟨G1, ρ1, S1, a1, e, s1, r1, q1⟩ => hq b H1 G1 ρ1 S1 a1 s1 r1 q1⟩
/-- .. two in a row, the first one's data still standing -/
theorem Tr.seq2 {α β γ δ γ' δ' : Type} {C : Ct} {m : Rho → Mem → Res γ} {m2 : Rho → Mem → Res γ'} {f : γ → γ' → Rho → Mem → Res α} {R : Gh → Hp → β → α → Prop} {R1 : Gh → Hp → δ → γ → Prop} {R2 : Gh → Hp → δ' → γ' → Prop} {Q : β → Hp → Prop} {Q1 : δ → δ' → Hp → Prop}
    (h : Tr C W (fun ρ S => (m ρ S).bind fun a ρ S => (m2 ρ S).bind fun b ρ S => f a b ρ S) R σ H Q) (hm : ∀ {G H G' H' b a}, ExE G H G' H' → R1 G H b a → R1 G' H' b a)
    (hq : ∀ b c H1 G1 ρ1 S1 a d, Sat C G1 H1 σ ρ1 S1 → R1 G1 H1 b a → R2 G1 H1 c d → At C W σ G1 H1 (f a d ρ1 S1) R Q → Q1 b c H1) : Tr C W m R1 σ H fun b H1 => Tr C W m2 R2 σ H1 fun c H2 => Q1 b c H2 :=
  Tr.seq h fun b H1 G1 ρ1 S1 a s1 r1 h1 => ⟨G1, ρ1, S1, s1, (At.bind h1).mono fun c H2 ⟨G2, ρ2, S2, d, e2, s2, r2, h2⟩ => hq b c H2 G2 ρ2 S2 a d s2 (hm e2 r1) r2 h2⟩
theorem repB_mono {C : Ct} {G G' : Gh} {H H' : Hp} {b : V} {a : D} (e : ExE G H G' H') (h : RepB C G H b a) : RepB C G' H' b a := h.mono e
theorem rep_mono {C : Ct} {G G' : Gh} {H H' : Hp} {b : V} {a : D} (e : ExE G H G' H') (h : Rep C G H b a) : Rep C G' H' b a := Rep.mono e.toExF _ _ h

/-! ### from raw to looked at, from raw to a test -/
theorem denB_eq {l : LE} (h : ∀ i, l ≠ .var i) (ρ : Rho) (S : Mem) : denB T l ρ S = (den T l ρ S).map RV.d := by
  cases l <;> first | (exact absurd rfl (h _)) | simp only [denB]
theorem bok_of {e : Expr} {l : LE} (h : ∀ i, l ≠ .var i) (p : EOk X cad T W e l) : BOk X cad T W e l := by
  refine PE.weak p fun σ H Q q => ?_
  obtain ⟨G, ρ, S, s, q⟩ := q
  rw [denB_eq h] at q
  refine Tr.freeze ⟨G, ρ, S, s, ?_⟩
  show At _ W σ G H ((den T l ρ S).map RV.d) (Rep _) Q
  cases e : den T l ρ S with
  | ok a ρ' S' =>
    rw [e] at q
    exact fun b G' H' e s r => q b G' H' e s (.inl r)
  | exc x ρ' S' =>
    rw [e] at q
    exact q
  | bad =>
    rw [e] at q
    exact q
/-- a raw answer that is tested -/
theorem tst_of {α β : Type} {C : Ct} {G : Gh} {H : Hp} {σ : L2.St} {v : V} {a : RV} {ρ : Rho} {S : Mem} {f : Bool → Rho → Mem → Res α} {R : Gh → Hp → β → α → Prop} {Q : β → Hp → Prop} (r : RepR C G H v a) (h : At C W σ G H ((ofO (tst a) ρ S).bind f) R Q) : ∃ k, v = .bl k ∧ At C W σ G H (f k ρ S) R Q := by
  cases a with
  | own ds => exact h.elim
  | fz d =>
    cases d with
    | bl k =>
      cases r
      exact ⟨k, rfl, h⟩
    | _ => exact h.elim
theorem bind_assoc {α β γ : Type} (r : Res α) (f : α → Rho → Mem → Res β) (g : β → Rho → Mem → Res γ) : (r.bind f).bind g = r.bind fun a ρ S => (f a ρ S).bind g := by
  cases r <;> rfl
theorem bind_ok {α : Type} (r : Res α) : (r.bind fun a ρ S => .ok a ρ S) = r := by
  cases r <;> rfl
/-- a raw expression whose value is tested -/
theorem Tr.tst {α β : Type} {C : Ct} {m : Rho → Mem → Res RV} {f : Bool → Rho → Mem → Res α} {R : Gh → Hp → β → α → Prop} {Q : β → Hp → Prop} {Q1 : VK} (h : Tr C W (fun ρ S => (tstR (m ρ S)).bind f) R σ H Q)
    (hq : ∀ k H1 G1 ρ1 S1, Sat C G1 H1 σ ρ1 S1 → At C W σ G1 H1 (f k ρ1 S1) R Q → Q1 (.bl k) H1) : Tr C W m (RepR C) σ H Q1 := by
  obtain ⟨G, ρ, S, s, h⟩ := h
  dsimp only at h
  unfold tstR at h
  rw [bind_assoc] at h
  refine ⟨G, ρ, S, s, (At.bind h).mono fun v H1 ⟨G1, ρ1, S1, a1, e, s1, r1, q1⟩ => ?_⟩
  obtain ⟨k, rfl, q⟩ := tst_of r1 q1
  exact hq k H1 G1 ρ1 S1 s1 q
/-- the same by a test -/
theorem Tr.tstT {α β : Type} {C : Ct} {m : Rho → Mem → Res RV} {f : Bool → Rho → Mem → Res α} {R : Gh → Hp → β → α → Prop} {Q : β → Hp → Prop} {Q1 : Bool → Hp → Prop} (h : Tr C W (fun ρ S => (tstR (m ρ S)).bind f) R σ H Q)
    (hq : ∀ k H1 G1 ρ1 S1, Sat C G1 H1 σ ρ1 S1 → At C W σ G1 H1 (f k ρ1 S1) R Q → Q1 k H1) : Tr C W (fun ρ S => tstR (m ρ S)) Eqv σ H Q1 :=
  Tr.seq h fun b H1 G1 ρ1 S1 a s1 r1 q1 => by
    cases r1
    exact hq _ _ _ _ _ s1 q1
theorem tok_val {e : Expr} {l : LE} (he : ∀ whole, isTrue e X.env whole = (do let v ← whole; standAt e.pos; holding [v] (truthy v))) (p : EOk X cad T W e l) : TOk X cad T W e l := by
  refine PT.weak (pt_val p he) fun σ H Q q => ?_
  obtain ⟨G, ρ, S, s, q⟩ := q
  refine Tr.tst (f := fun k ρ S => .ok k ρ S) (R := Eqv) ⟨G, ρ, S, s, by dsimp only at q ⊢; rw [bind_ok]; exact q⟩ fun k H1 G1 ρ1 S1 s1 q1 => ⟨k, rfl, q1 k G1 H1 (.refl _ _) s1 rfl⟩
theorem At.okE {α : Type} {C : Ct} {G : Gh} {H : Hp} {a : α} {ρ : Rho} {S : Mem} {Q : α → Hp → Prop} (s : Sat C G H σ ρ S) (h : At C W σ G H (.ok a ρ S) Eqv Q) : Q a H := h a G H (.refl _ _) s rfl

/-! ### names -/
theorem Sat.slotFrz {C : Ct} {G : Gh} {ρ : Rho} {S : Mem} {i : Nat} {a : Addr} {xs : List V} {ds : List D} (s : Sat C G H σ ρ S) (hi : σ[i]? = some (some (.ref a))) (ho : G.O a = .slot i) (hH : H a = some (.lst xs)) (r : Reps C G H xs ds) :
    ExE G H (G.set a .frz) H ∧ Sat C (G.set a .frz) H σ (ρ.set i (some (.fz (.lst ds)))) S ∧ Rep C (G.set a .frz) H (.ref a) (.lst ds) := by
  have ne : ∀ b, G.O b ≠ .slot i → b ≠ a := fun b h e => h (by rw [e]; exact ho)
  have e : ExE G H (G.set a .frz) H := by
    refine ⟨⟨⟨fun b h => ⟨?_, rfl⟩, [], by simp [Gh.set]⟩, fun b h => ⟨?_, rfl⟩⟩, fun b j h => ⟨?_, rfl⟩⟩
    · rw [Gh.set_ne (ne b (by rw [h]; simp))]; exact h
    · rw [Gh.set_ne (ne b (by rw [h]; simp))]; exact h
    · by_cases q : b = a
      · subst q; exact .inr Gh.set_same
      · rw [Gh.set_ne q]; exact .inl h
  have kc : KeepC G H (G.set a .frz) H := ⟨rfl, fun b h => ⟨Gh.set_ne (ne b (by rcases h with h | ⟨n, h⟩ | ⟨n, f, h⟩ <;> rw [h] <;> simp)), rfl⟩⟩
  have rp : Rep C (G.set a .frz) H (.ref a) (.lst ds) := .lst (.inl ⟨Gh.set_same, .inl hH⟩) (Reps.mono e.toExF ds xs r)
  refine ⟨e, ⟨s.toSatS.keepC kc fun b hb => ?_, fun j rv hj => ?_, by rw [List.length_set]; exact s.ln⟩, rp⟩
  · have hne : b ≠ a := fun q => by rw [q, hH] at hb; cases hb
    rw [Gh.set_ne hne]
    exact s.fr b hb
  · by_cases hji : j = i
    · subst hji
      have hl : j < ρ.length := by
        have := (List.getElem?_eq_some_iff.mp hj).1
        simpa using this
      rw [List.getElem?_set_self hl] at hj
      cases hj
      exact ⟨_, hi, rp⟩
    · rw [List.getElem?_set_ne (Ne.symm hji)] at hj
      have q := s.sl j rv hj
      cases rv with
      | fz d =>
        obtain ⟨v, h1, h2⟩ := q
        exact ⟨v, h1, Rep.mono e.toExF d v h2⟩
      | own es =>
        obtain ⟨b, ys, h1, h2, h3, h4⟩ := q
        have hb : b ≠ a := fun z => by rw [z, ho] at h2; cases h2; exact hji rfl
        exact ⟨b, ys, h1, by rw [Gh.set_ne hb]; exact h2, h3, Reps.mono e.toExF es ys h4⟩
theorem vis_of {n : Nat} {c : CC} {x : Str} (g : Good X cad T W n c) (h : isVis c x = true) : Vis X.env.scope x := by
  unfold isVis at h
  rw [← g.sc] at h
  unfold Vis
  split at h
  · rename_i e; exact .inl e
  · rename_i e; exact .inr (.inl e)
  · rename_i e; exact .inr (.inr e)
  · cases h
theorem glob_of {n : Nat} {c : CC} {x : Str} (g : Good X cad T W n c) (h : isGlob c x = true) : Gl X x := by
  unfold isGlob at h
  rw [← g.sc] at h
  unfold Gl PySem.Env.kindOf
  split at h
  · rename_i e; exact e
  · cases h
theorem nameOk_1 {x : Str} (h : nameOk x = true) : (x == ("__debug__" : Str)) = false ∧ (x == ("__classdict__" : Str)) = false ∧ x ≠ "__name__" := by
  unfold nameOk at h
  simp only [Bool.and_eq_true, Bool.not_eq_true'] at h
  refine ⟨h.1.1, h.1.2, fun e => ?_⟩
  have := h.2
  rw [e] at this
  simp at this
theorem ix_of {n : Nat} {c : CC} {x : Str} {i : Nat} (g : Good X cad T W n c) (h : ixOf c.N x = some i) : X.N[i]? = some x := by
  rw [g.N]
  exact ixOf_get h
theorem var_E {n : Nat} {c : CC} {x : Str} {i : Nat} {pos : Pos} (g : Good X cad T W n c) (hn : nameOk x = true) (hv : isVis c x = true) (hi : ixOf c.N x = some i) : EOk X cad T W (.Name x pos) (.var i) := by
  obtain ⟨h1, h2, _⟩ := nameOk_1 hn
  refine PE.weak (pe_var (ix_of g hi) (vis_of g hv) h1 h2) fun σ H Q q => ?_
  obtain ⟨G, ρ, S, s, q⟩ := q
  unfold den rdV at q
  split at q
  · rename_i d e
    obtain ⟨v, e1, r⟩ := s.sl i _ e
    exact ⟨v, e1, q v G H (.refl _ _) s r⟩
  · rename_i ds e
    obtain ⟨a, xs, e1, ho, hH, r⟩ := s.sl i _ e
    obtain ⟨ex, s', rp⟩ := s.slotFrz e1 ho hH r
    exact ⟨_, e1, q _ _ H ex s' rp⟩
  · exact q.elim
theorem var_B {n : Nat} {c : CC} {x : Str} {i : Nat} {pos : Pos} (g : Good X cad T W n c) (hn : nameOk x = true) (hv : isVis c x = true) (hi : ixOf c.N x = some i) : BOk X cad T W (.Name x pos) (.var i) := by
  obtain ⟨h1, h2, _⟩ := nameOk_1 hn
  refine PE.weak (pe_var (ix_of g hi) (vis_of g hv) h1 h2) fun σ H Q q => ?_
  obtain ⟨G, ρ, S, s, q⟩ := q
  unfold denB rdB at q
  split at q
  · rename_i r e
    have so := s.sl i _ e
    cases r with
    | fz d =>
      obtain ⟨v, e1, r⟩ := so
      exact ⟨v, e1, q v G H (.refl _ _) s (.inl r)⟩
    | own ds =>
      obtain ⟨a, xs, e1, ho, hH, r⟩ := so
      exact ⟨_, e1, q _ G H (.refl _ _) s (.inr ⟨a, xs, ds, i, rfl, rfl, ho, hH, r⟩)⟩
  · exact q.elim
theorem glob_E {n : Nat} {c : CC} {x : Str} {pos : Pos} (g : Good X cad T W n c) (hn : nameOk x = true) {i : Nat} (hg : isGlob c x = true) (hi : ixOf c.F x = some i) : EOk X cad T W (.Name x pos) (.glob i) := by
  obtain ⟨h1, h2, _⟩ := nameOk_1 hn
  refine ⟨fun pins s σ H Q I q => ?_⟩
  obtain ⟨G, ρ, S, sat, q⟩ := q
  unfold den at q
  cases e : T.gl i with
  | none => rw [e] at q; exact q.elim
  | some d =>
    obtain ⟨u, v, hm, r, rp⟩ := g.tab.gl i d e x (ixOf_get hi)
    rw [e] at q
    exact (pe_glob (glob_of g hg) hm r h1).run pins s σ H Q I (q v G H (.refl _ _) sat (rp G H))
/-! ### constants -/
theorem con_E {e : Expr} {l : LE} {v : V} {d : D} (hp : PE X e (tC v)) (hd : ∀ ρ S, den T l ρ S = .ok (.fz d) ρ S) (r : ∀ G H, Rep (ct X cad) G H v d) : EOk X cad T W e l := by
  refine PE.weak hp fun σ H Q q => ?_
  obtain ⟨G, ρ, S, s, q⟩ := q
  rw [hd] at q
  exact q v G H (.refl _ _) s (r G H)
/-! ### operators -/
theorem bin_E {a b : Expr} {op : Operator} {la lb : LE} {pos : Pos} (ha : BOk X cad T W a la) (hb : BOk X cad T W b lb) : EOk X cad T W (.BinOp a op b pos) (.bin op la lb) :=
  PE.weak (pe_op (op_bin (W := W) (cad := cad)) ha hb) fun σ H Q q => by
    simp only [Tr, den] at q
    exact Tr.seq2 q repB_mono fun b c H1 G1 ρ1 S1 a d s r1 r2 h => ⟨σ, G1, ρ1, S1, a, d, s, r1, r2, h⟩
theorem neg_E {a : Expr} {la : LE} {pos : Pos} (ha : BOk X cad T W a la) : EOk X cad T W (.UnaryOp .USub a pos) (.neg la) :=
  PE.weak (pe_un un_neg ha) fun σ H Q q => by
    simp only [Tr, den] at q
    refine Tr.seq q fun b H1 G1 ρ1 S1 a s r h => ?_
    cases a with
    | int i => exact ⟨i, bint r, h _ G1 H1 (.refl _ _) s (.int _)⟩
    | _ => exact (show False from h).elim
theorem cmp_st {σ : L2.St} {G : Gh} {H : Hp} {ρ : Rho} {S : Mem} {x y : V} {d e : D} {op : CmpOp} {Q : VK} (s : Sat (ct X cad) G H σ ρ S) (r1 : RepB (ct X cad) G H x d) (r2 : RepB (ct X cad) G H y e) (h : At (ct X cad) W σ G H ((ofO (opCmp op d e) ρ S).map fun k => RV.fz (.bl k)) (RepR (ct X cad)) Q) : StC (ct X cad) x y H op Q := by
  cases q : opCmp op d e with
  | none => rw [q] at h; exact h.elim
  | some k =>
    rw [q] at h
    exact ⟨σ, G, ρ, S, d, e, k, s, r1, r2, q, h _ G H (.refl _ _) s (.bl _)⟩
theorem map_eq_bind {α β : Type} (r : Res α) (f : α → β) : r.map f = r.bind fun a ρ S => .ok (f a) ρ S := by
  cases r <;> rfl
theorem tstR_map (r : Res Bool) : tstR (r.map fun k => RV.fz (.bl k)) = r := by
  cases r <;> rfl
theorem tstR_bind {α : Type} (r : Res α) (f : α → Rho → Mem → Res RV) : tstR (r.bind f) = r.bind fun a ρ S => tstR (f a ρ S) := by
  cases r <;> rfl
end
end Sh


/-! ShSnd2: the walk, further constructs. -/
namespace Sh
open PySem PySem.Spec PyProof.Rows L2
section
variable {X : Cx} {cad : Str → Option Addr} {T : Tab} {W : WX} {σ : L2.St} {H : Hp} {n : Nat} {a b d e : Expr} {la lb ld l : LE} {pos : Pos}
theorem chn_rd {op op2 : CmpOp} (hr : Room n X.A) {α β : Type} {R : Gh → Hp → β → α → Prop} {Q : β → Hp → Prop} {Q1 : VK} {f : Bool → Rho → Mem → Res α}
    (q : Tr (ct X cad) W (fun ρ S => (denB T la ρ S).bind fun x ρ S => (denB T lb ρ S).bind fun y ρ S => (ofO (opCmp op x y) ρ S).bind fun k ρ S => if k = true then (denB T ld ρ S).bind fun z ρ S => (ofO (opCmp op2 y z) ρ S).bind f else f false ρ S) R σ H Q)
    (hf : ∀ k G H ρ S, Sat (ct X cad) G H σ ρ S → At (ct X cad) W σ G H (f k ρ S) R Q → Q1 (.bl k) H) :
    tChain (fun x y H Q => StC (ct X cad) x y H op Q) (fun x y H Q => StC (ct X cad) x y H op2 Q) (Tr (ct X cad) W (denB T la) (RepB (ct X cad))) (Tr (ct X cad) W (denB T lb) (RepB (ct X cad))) (Tr (ct X cad) W (denB T ld) (RepB (ct X cad))) σ H Q1 := by
  refine Tr.seq2 q repB_mono fun x y H1 G1 ρ1 S1 da db s r1 r2 h => ?_
  cases ek : opCmp op da db with
  | none => rw [ek] at h; exact h.elim
  | some k =>
    rw [ek] at h
    refine ⟨σ, G1, ρ1, S1, da, db, k, s, r1, r2, ek, k, rfl, ?_⟩
    simp only [ofO_some, Res.bind_ok] at h
    cases k with
    | false =>
      rw [if_neg (by decide)] at h
      exact iteF (hf false _ _ _ _ s h)
    | true =>
      rw [if_pos rfl] at h
      refine iteT ⟨G1, ρ1, S1, s, (At.bind h).mono fun z H2 ⟨G2, ρ2, S2, dd, e2, s2, r3, h2⟩ => ?_⟩
      cases ek2 : opCmp op2 db dd with
      | none => rw [ek2] at h2; exact h2.elim
      | some k2 =>
        rw [ek2] at h2
        exact ⟨σ, G2, ρ2, S2, db, dd, k2, s2, r2.mono e2, r3, ek2, hf k2 _ _ _ _ s2 h2⟩
theorem chn_E {op op2 : CmpOp} (hr : Room n X.A) (ha : BOk X cad T W a la) (hb : BOk X cad T W b lb) (hd : BOk X cad T W d ld) (hm : lastMarks [op, op2] [b, d] = false) : EOk X cad T W (.Compare a [op, op2] [b, d] pos) (.chn op op2 la lb ld) :=
  PE.weak (pe_chain (op_cmp (cad := cad) hr) (op_cmp (cad := cad) hr) ha hb hd hm) fun σ H Q q => by
    simp only [Tr, den, map_eq_bind] at q
    exact chn_rd hr (f := fun k ρ S => .ok (RV.fz (D.bl k)) ρ S) q fun k G H ρ S s h => h _ G H (.refl _ _) s (.bl _)
theorem tstR_ite {c : Prop} [Decidable c] (x y : Res RV) : tstR (if c then x else y) = if c then tstR x else tstR y := by split <;> rfl
theorem chn_T {op op2 : CmpOp} (hr : Room n X.A) (ha : BOk X cad T W a la) (hb : BOk X cad T W b lb) (hd : BOk X cad T W d ld) (hm : lastMarks [op, op2] [b, d] = false) : TOk X cad T W (.Compare a [op, op2] [b, d] pos) (.chn op op2 la lb ld) :=
  PT.weak (pt_chain (op_cmp (cad := cad) hr) (op_cmp (cad := cad) hr) ha hb hd hm) fun σ H Q q => by
    simp only [Tr, den, map_eq_bind, tstR_bind, tstR_ite, tstR_bl] at q
    exact chn_rd hr (f := fun k ρ S => .ok k ρ S) (Q1 := fun x H' => ∃ k, x = .bl k ∧ Q k H') q fun k G H ρ S s h => ⟨k, rfl, h k G H (.refl _ _) s rfl⟩
/-! ### and, or, not, if -/
theorem and_E {es : List Expr} (ha : EOk X cad T W a la) (hb : EOk X cad T W (.BoolOp .And (b :: es) pos) lb) : EOk X cad T W (.BoolOp .And (a :: b :: es) pos) (.and la lb) :=
  PE.weak (pe_and ha hb) fun σ H Q q => by
    simp only [Tr, den] at q
    refine Tr.tst q fun k H1 G1 ρ1 S1 s h => ⟨k, rfl, ?_⟩
    cases k with
    | true =>
      rw [if_pos rfl] at h
      exact iteT ⟨G1, ρ1, S1, s, h⟩
    | false =>
      rw [if_neg (by decide)] at h
      exact iteF (h _ G1 H1 (.refl _ _) s (.bl _))
theorem or_E {es : List Expr} (ha : EOk X cad T W a la) (hb : EOk X cad T W (.BoolOp .Or (b :: es) pos) lb) : EOk X cad T W (.BoolOp .Or (a :: b :: es) pos) (.or la lb) :=
  PE.weak (pe_or ha hb) fun σ H Q q => by
    simp only [Tr, den] at q
    refine Tr.tst q fun k H1 G1 ρ1 S1 s h => ⟨k, rfl, ?_⟩
    cases k with
    | true =>
      rw [if_pos rfl] at h
      exact iteT (h _ G1 H1 (.refl _ _) s (.bl _))
    | false =>
      rw [if_neg (by decide)] at h
      exact iteF ⟨G1, ρ1, S1, s, h⟩
theorem and_W {es : List Expr} (ha : TOk X cad T W a la) (hb : WOk X cad T W (.BoolOp .And (b :: es) pos) lb) : WOk X cad T W (.BoolOp .And (a :: b :: es) pos) (.and la lb) :=
  PW.weak (pw_and ha hb) fun σ H Q q => by
    simp only [Tr, den, tstR_bind, tstR_ite, tstR_bl] at q
    refine Tr.tstT q fun k H1 G1 ρ1 S1 s h => ?_
    cases k with
    | true =>
      rw [if_pos rfl] at h
      exact iteT ⟨G1, ρ1, S1, s, h⟩
    | false =>
      rw [if_neg (by decide)] at h
      exact iteF (At.okE s h)
theorem or_W {es : List Expr} (ha : TOk X cad T W a la) (hb : WOk X cad T W (.BoolOp .Or (b :: es) pos) lb) : WOk X cad T W (.BoolOp .Or (a :: b :: es) pos) (.or la lb) :=
  PW.weak (pw_or ha hb) fun σ H Q q => by
    simp only [Tr, den, tstR_bind, tstR_ite, tstR_bl] at q
    refine Tr.tstT q fun k H1 G1 ρ1 S1 s h => ?_
    cases k with
    | true =>
      rw [if_pos rfl] at h
      exact iteT (At.okE s h)
    | false =>
      rw [if_neg (by decide)] at h
      exact iteF ⟨G1, ρ1, S1, s, h⟩
theorem not_E (ha : EOk X cad T W a la) : EOk X cad T W (.UnaryOp .Not a pos) (.not la) :=
  PE.weak (pe_not ha) fun σ H Q q => by
    simp only [Tr, den] at q
    exact Tr.tst q fun k H1 G1 ρ1 S1 s h => ⟨k, rfl, h _ G1 H1 (.refl _ _) s (.bl _)⟩
theorem not_T (ha : TOk X cad T W a la) : TOk X cad T W (.UnaryOp .Not a pos) (.not la) :=
  PT.weak (pt_not ha) fun σ H Q q => by
    simp only [Tr, den, tstR_bind, tstR_bl] at q
    exact Tr.tstT q fun k H1 G1 ρ1 S1 s h => At.okE s h
theorem ite_E (ht : TOk X cad T W d ld) (ha : EOk X cad T W a la) (hb : EOk X cad T W b lb) : EOk X cad T W (.IfExp d a b pos) (.ite ld la lb) :=
  PE.weak (pe_ifExp ht ha hb) fun σ H Q q => by
    simp only [Tr, den] at q
    refine Tr.tstT q fun k H1 G1 ρ1 S1 s h => ?_
    cases k with
    | true =>
      rw [if_pos rfl] at h
      exact iteT ⟨G1, ρ1, S1, s, h⟩
    | false =>
      rw [if_neg (by decide)] at h
      exact iteF ⟨G1, ρ1, S1, s, h⟩
theorem ite_T (ht : TOk X cad T W d ld) (ha : TOk X cad T W a la) (hb : TOk X cad T W b lb) : TOk X cad T W (.IfExp d a b pos) (.ite ld la lb) := by
  refine ⟨fun pins s σ H Q I q => ?_⟩
  simp only [Tr, den, tstR_bind, tstR_ite] at q
  refine isTrue_IfExp (thn (ht.run pins s σ H (fun k H1 => if k = true then Tr (ct X cad) W (fun ρ S => tstR (den T la ρ S)) Eqv σ H1 Q else Tr (ct X cad) W (fun ρ S => tstR (den T lb ρ S)) Eqv σ H1 Q) I (Tr.tstT q fun k H1 G1 ρ1 S1 s h => ?_)) fun k s1 ⟨H1, I1, q1⟩ => ?_)
  · cases k with
    | true =>
      rw [if_pos rfl] at h
      exact iteT ⟨G1, ρ1, S1, s, h⟩
    | false =>
      rw [if_neg (by decide)] at h
      exact iteF ⟨G1, ρ1, S1, s, h⟩
  · cases k with
    | true =>
      rw [if_pos rfl] at q1
      exact ha.run pins s1 σ H1 Q I1 q1
    | false =>
      rw [if_neg (by decide)] at q1
      exact hb.run pins s1 σ H1 Q I1 q1
/-! ### argument lists -/
/-- an expression without a star ahead -/
def Plain (e : Expr) : Prop := ∀ (rest : List Expr) (env : PySem.Env), starEach (e :: rest) env = (false, eval e env) :: starEach rest env
theorem plain_any : ∀ {es : List Expr} {env : PySem.Env} {pos : Pos}, (∀ e ∈ es, Plain e) → (backTo pos (starEach es env)).any (·.1) = false
  | [], _, _, _ => rfl
  | e :: es, env, pos, h => by
    rw [h e List.mem_cons_self es env]
    show (false || (backTo pos (starEach es env)).any (·.1)) = false
    rw [plain_any fun x hx => h x (List.mem_cons_of_mem _ hx)]
    rfl
theorem repsF_mono {C : Ct} {G G' : Gh} {H H' : Hp} {b : List V} {a : List D} (e : ExE G H G' H') (h : Reps C G H b a) : Reps C G' H' b a := Reps.mono e.toExF _ _ h
theorem nil_A : AOk X cad T W [] .nil :=
  PA.weak pa_nil fun σ H Q q => by
    obtain ⟨G, ρ, S, s, q⟩ := q
    simp only [denEs] at q
    exact q [] G H (.refl _ _) s .nil
theorem nil_AB : ABk X cad T W [] .nil :=
  PA.weak pa_nil fun σ H Q q => by
    obtain ⟨G, ρ, S, s, q⟩ := q
    simp only [denBs] at q
    exact q [] G H (.refl _ _) s .nil
theorem cons_A {es : List Expr} {ls : LEs} (hp : Plain e) (he : EOk X cad T W e l) (hs : AOk X cad T W es ls) : AOk X cad T W (e :: es) (.cons l ls) :=
  PA.weak (pa_cons he hs (hp es _)) fun σ H Q q => by
    simp only [Tr, denEs] at q
    refine Tr.freeze ?_
    obtain ⟨G, ρ, S, s, q⟩ := q
    have q' : At (ct X cad) W σ G H (((den T l ρ S).map RV.d).bind fun x ρ S => (denEs T ls ρ S).bind fun xs ρ S => .ok (x :: xs) ρ S) (Reps (ct X cad)) Q := by
      rw [map_eq_bind, bind_assoc]
      exact q
    refine Tr.seq2 (m := fun ρ S => (den T l ρ S).map RV.d) (f := fun x xs ρ S => .ok (x :: xs) ρ S) (R := Reps (ct X cad)) (Q := Q) ⟨G, ρ, S, s, q'⟩ rep_mono fun x xs H1 G1 ρ1 S1 da ds s1 r1 r2 h => ?_
    exact h _ G1 H1 (.refl _ _) s1 (.cons r1 r2)
theorem cons_AB {es : List Expr} {ls : LEs} (hp : Plain e) (he : BOk X cad T W e l) (hs : ABk X cad T W es ls) : ABk X cad T W (e :: es) (.cons l ls) :=
  PA.weak (pa_cons he hs (hp es _)) fun σ H Q q => by
    simp only [Tr, denBs] at q
    exact Tr.seq2 q repB_mono fun x xs H1 G1 ρ1 S1 da ds s1 r1 r2 h => h _ G1 H1 (.refl _ _) s1 (.cons r1 r2)
/-! ### displays -/
theorem tup_E {es : List Expr} {ls : LEs} {k : Nat} (h : AOk X cad T W es ls) : EOk X cad T W (.Tuple es k pos) (.tup ls) :=
  PE.weak (pe_tup h) fun σ H Q q => by
    simp only [Tr, den] at q
    refine Tr.seq q fun xs H1 G1 ρ1 S1 ds s r h => ?_
    split at h
    · rename_i hz
      exact ⟨LINE_le (by rw [r.length]; exact hz), fun p hp => new_tup s hp r h⟩
    · exact h.elim
theorem lst_E {es : List Expr} {ls : LEs} (h : AOk X cad T W es ls) : EOk X cad T W (.List es pos) (.lst ls) :=
  PE.weak (pe_lst h) fun σ H Q q => by
    simp only [Tr, den] at q
    refine Tr.seq q fun xs H1 G1 ρ1 S1 ds s r h => ?_
    split at h
    · rename_i hz
      exact ⟨LINE_le (by rw [r.length]; exact hz), fun p hp => new_lst s hp r h⟩
    · exact h.elim
theorem rep_E {es : List Expr} {ls : LEs} {p2 : Pos} (h : AOk X cad T W es ls) (hb : BOk X cad T W b lb) : EOk X cad T W (.BinOp (.List es p2) .Mult b pos) (.rep ls lb) :=
  PE.weak (pe_op op_rep (pe_lst h) hb) fun σ H Q q => by
    simp only [Tr, den] at q
    refine Tr.seq q fun xs H1 G1 ρ1 S1 ds s r h => ?_
    split at h
    · rename_i hz
      rw [Res.bind_ok] at h
      refine ⟨LINE_le (by rw [r.length]; exact hz), fun p hp => ?_⟩
      obtain ⟨k, s'⟩ := s.new (o := .lst xs) (w := .frz) hp
      refine ⟨_, ρ1, S1, s', (At.bind (At.ext h k.exE)).mono fun y H2 ⟨G2, ρ2, S2, dy, e2, s2, r2, h2⟩ => ?_⟩
      cases dy with
      | int i =>
        have hy := bint r2
        unfold opRep at h2
        simp only at h2
        split at h2
        · rename_i hz2
          have hH := (e2.frz p Gh.set_same).2.trans upd_same
          exact ⟨p, i, xs, rfl, hy, hH, by omega, by omega, LINE_le (by rw [r.length]; exact hz2.2.2), fun p2 hp2 => new_lst s2 hp2 (reps_rep (Reps.mono e2.toExF _ _ (Reps.mono k.exE.toExF _ _ r)) _) h2⟩
        · exact h2.elim
      | _ => exact (show False from h2).elim
    · exact h.elim
/-! ### places, slices -/
theorem idx_E (ha : BOk X cad T W a la) (hb : BOk X cad T W b lb) (hs : PlainIx b) : EOk X cad T W (.Subscript a b pos) (.idx la lb) :=
  PE.weak (pe_ix (op_idx (W := W) (cad := cad)) ha hb hs) fun σ H Q q => by
    simp only [Tr, den] at q
    exact Tr.seq2 q repB_mono fun b c H1 G1 ρ1 S1 a d s r1 r2 h => ⟨σ, G1, ρ1, S1, a, d, s, r1, r2, h⟩
abbrev OOk (X : Cx) (cad : Str → Option Addr) (T : Tab) (W : WX) (e : Option Expr) (l : LEo) : Prop := PO X e (Tr (ct X cad) W (denO T l) Eqv)
theorem no_O : OOk X cad T W none .no :=
  PO.weak po_none fun σ H Q q => by
    obtain ⟨G, ρ, S, s, q⟩ := q
    simp only [denO] at q
    exact q none G H (.refl _ _) s rfl
theorem so_O (h : BOk X cad T W e l) : OOk X cad T W (some e) (.so l) :=
  PO.weak (po_some h) fun σ H Q q => by
    simp only [Tr, denO] at q
    refine Tr.seq q fun x H1 G1 ρ1 S1 d s r h => ?_
    cases d with
    | int i => exact ⟨i, bint r, h (some i) G1 H1 (.refl _ _) s rfl⟩
    | _ => exact (show False from h).elim
theorem slc_E {lo hi : Option Expr} {ll lh : LEo} {p2 : Pos} (ha : BOk X cad T W a la) (hl : OOk X cad T W lo ll) (hh : OOk X cad T W hi lh) : EOk X cad T W (.Subscript a (.Slice lo hi none p2) pos) (.slc la ll lh) :=
  PE.weak (pe_slice (op_slc (W := W) (cad := cad)) ha hl hh) fun σ H Q q => by
    simp only [Tr, den] at q
    refine Tr.seq q fun x H1 G1 ρ1 S1 d s r h => ⟨G1, ρ1, S1, s, (At.bind h).mono fun u H2 ⟨G2, ρ2, S2, l, e2, s2, r2, h2⟩ => ⟨G2, ρ2, S2, s2, (At.bind h2).mono fun w H3 ⟨G3, ρ3, S3, m, e3, s3, r3, h3⟩ => ?_⟩⟩
    cases r2
    cases r3
    exact ⟨σ, G3, ρ3, S3, d, s3, (r.mono e2).mono e3, h3⟩
/-! ### calls -/
def Gh.call (G : Gh) : Gh := { G with O := fun a => match G.O a with | .slot _ => .out | o => o }
def Gh.back (G G' : Gh) : Gh := { G' with O := fun a => match G.O a with | .slot i => .slot i | _ => G'.O a }
theorem Gh.call_ns {G : Gh} (a : Addr) (i : Nat) : G.call.O a ≠ .slot i := by
  show (match G.O a with | .slot _ => Own.out | o => o) ≠ _
  split
  · simp
  · rename_i h; exact h i
theorem Gh.call_eq {G : Gh} {a : Addr} (h : ∀ i, G.O a ≠ .slot i) : G.call.O a = G.O a := by
  show (match G.O a with | .slot _ => Own.out | o => o) = _
  split
  · rename_i i e; exact (h i e).elim
  · rfl
theorem Gh.call_slot {G : Gh} {a : Addr} {i : Nat} (h : G.O a = .slot i) : G.call.O a = .out := by
  show (match G.O a with | .slot _ => Own.out | o => o) = _
  rw [h]
theorem Gh.back_eq {G G' : Gh} {a : Addr} (h : ∀ i, G.O a ≠ .slot i) : (G.back G').O a = G'.O a := by
  show (match G.O a with | .slot i => Own.slot i | _ => G'.O a) = _
  split
  · rename_i i e; exact (h i e).elim
  · rfl
theorem Gh.back_slot {G G' : Gh} {a : Addr} {i : Nat} (h : G.O a = .slot i) : (G.back G').O a = .slot i := by
  show (match G.O a with | .slot i => Own.slot i | _ => G'.O a) = _
  rw [h]
section
variable {C : Ct} {G G' : Gh} {H' : Hp} {ρ : Rho} {S S' : Mem}
theorem call_keepC : KeepC G H G.call H := ⟨rfl, fun a h => ⟨Gh.call_eq fun i => by rcases h with h | ⟨n, h⟩ | ⟨n, f, h⟩ <;> rw [h] <;> simp, rfl⟩⟩
theorem Sat.enter (s : Sat C G H σ ρ S) : SatS C G.call H S := s.toSatS.keepC call_keepC fun a h => by
  have q := s.fr a h
  rw [Gh.call_eq fun i => by rw [q]; simp]
  exact q
/-- behind a call -/
theorem back_ext (s : Sat C G H σ ρ S) (e : ExC G.call H G' H') : ExE G H (G.back G') H' := by
  refine ⟨⟨⟨fun a h => ?_, e.pre⟩, fun a h => ?_⟩, fun a i h => ?_⟩
  · have ns : ∀ i, G.O a ≠ .slot i := fun i => by rw [h]; simp
    rw [Gh.back_eq ns]
    exact e.frz a (by rw [Gh.call_eq ns]; exact h)
  · have ns : ∀ i, G.O a ≠ .slot i := fun i => by rw [h]; simp
    rw [Gh.back_eq ns]
    exact e.out a (by rw [Gh.call_eq ns]; exact h)
  · exact ⟨.inl (Gh.back_slot h), (e.out a (Gh.call_slot h)).2⟩
theorem back_keepC (e : ExC G.call H G' H') : KeepC G' H' (G.back G') H' := ⟨rfl, fun a h => ⟨Gh.back_eq (fun i q => by
  have z := (e.out a (Gh.call_slot q)).1
  rcases h with h | ⟨n, h⟩ | ⟨n, f, h⟩ <;> rw [z] at h <;> cases h), rfl⟩⟩
theorem back_sat (s : Sat C G H σ ρ S) (e : ExC G.call H G' H') (s' : SatS C G' H' S') : Sat C (G.back G') H' σ ρ S' := by
  have ex := back_ext s e
  refine ⟨s'.keepC (back_keepC e) fun a h => ?_, fun i r hr => ?_, s.ln⟩
  · have q := s'.fr a h
    rw [Gh.back_eq fun i z => ?_]
    · exact q
    · have z1 := e.out a (Gh.call_slot z)
      rw [z1.1] at q
      cases q
  · have so := s.sl i r hr
    cases r with
    | fz d =>
      obtain ⟨v, h1, h2⟩ := so
      exact ⟨v, h1, Rep.mono ex.toExF d v h2⟩
    | own ds =>
      obtain ⟨a, xs, h1, h2, h3, h4⟩ := so
      exact ⟨a, xs, h1, Gh.back_slot h2, (ex.slt a i h2).2.trans h3, Reps.mono ex.toExF ds xs h4⟩
theorem back_rep (e : ExC G.call H G' H') {v : V} {r : RV} (h : RepR C G' H' v r) : RepR C (G.back G') H' v r := by
  have k := back_keepC e
  cases r with
  | fz d => exact Rep.mono k.exF d v h
  | own ds =>
    obtain ⟨a, xs, h1, h2, h3, h4⟩ := h
    refine ⟨a, xs, h1, ?_, h3, Reps.mono k.exF ds xs h4⟩
    rw [Gh.back_eq fun i z => ?_]
    · exact h2
    · rw [(e.out a (Gh.call_slot z)).1] at h2
      cases h2
theorem back_err (e : ExC G.call H G' H') {c : Value} {d : Option Addr} {x : Err} (h : ErrOk C G' H' c d x) : ErrOk C (G.back G') H' c d x := by
  have k := back_keepC e
  obtain ⟨A, p, vs, h1, h2, h3, h4, h5⟩ := h
  refine ⟨A, p, vs, h1, h2, h3, h4, fun f => ?_⟩
  have q := h5 f
  split at q
  · rename_i y e
    obtain ⟨v, q1, q2⟩ := q
    exact ⟨v, q1, Rep.mono k.exF y v q2⟩
  · rename_i e
    exact q
end
/-- what a call wants of the callee, from what is wanted behind it -/
theorem call_sp {np : Nat} {m : Fn} {xs : List V} {ds : List D} {G : Gh} {H : Hp} {ρ : Rho} {S : Mem} {Q : VK} (hl : xs.length = np) (s : Sat (ct X cad) G H σ ρ S) (r : Reps (ct X cad) G H xs ds) (h : At (ct X cad) W σ G H ((m ds S).res ρ) (RepR (ct X cad)) Q) :
    spOf (ct X cad) np m xs H Q (fun c d H' => W c d σ H') := by
  refine ⟨hl, ds, G.call, S, Reps.mono call_keepC.exF _ _ r, s.enter, fun a i => Gh.call_ns a i, ?_⟩
  cases e : m ds S with
  | ok v S' =>
    rw [e] at h
    exact fun w G' H' ex s' _ rv => h w _ H' (back_ext s ex) (back_sat s ex s') (back_rep ex rv)
  | exc x S' =>
    rw [e] at h
    exact fun c d G' H' ex s' _ rv => h c d _ H' (back_ext s ex) (back_sat s ex s') (back_err ex rv)
  | bad =>
    rw [e] at h
    exact h
end
end Sh


/-! ShNew: objects are made. -/
namespace Sh
open PySem PySem.Spec PyProof.Rows L2
section
variable {C : Ct} {G : Gh} {H : Hp} {σ : L2.St} {ρ : Rho} {S : Mem}
/-- a new object stands, without fields -/
theorem Sat.newObj (s : Sat C G H σ ρ S) {x dx A : Addr} {c : Str} (hx : H x = none) (hd : H dx = none) (ne : dx ≠ x) (hc : C.cad c = some A) :
    ∃ G1, ExE G H G1 (upd (upd H dx (.own x)) x (.ins A dx [])) ∧ Sat C G1 (upd (upd H dx (.own x)) x (.ins A dx [])) σ ρ ⟨S.objs ++ [.ins c []]⟩ ∧ G1.L[S.objs.length]? = some x := by
  have ox := s.fr x hx
  have od := s.fr dx hd
  have hs : ∀ b, H b ≠ none → upd (upd H dx (.own x)) x (.ins A dx []) b = H b := fun b hb => by
    rw [upd_ne (fun e => hb (by rw [e]; exact hx)), upd_ne (fun e => hb (by rw [e]; exact hd))]
  have nf : ∀ b, G.O b ≠ .free → H b ≠ none := fun b hb e => hb (s.fr b e)
  let G1 : Gh := ⟨fun b => if b = x then .obj S.objs.length else G.O b, G.L ++ [x]⟩
  have oG : ∀ b, G.O b ≠ .free → G1.O b = G.O b := fun b hb => if_neg fun e => hb (by rw [e]; exact ox)
  have both : ∀ b, G.O b ≠ .free → G1.O b = G.O b ∧ upd (upd H dx (.own x)) x (.ins A dx []) b = H b := fun b hb => ⟨oG b hb, hs b (nf b hb)⟩
  have ex : ExE G H G1 (upd (upd H dx (.own x)) x (.ins A dx [])) := by
    refine ⟨⟨⟨fun b h => ?_, [x], rfl⟩, fun b h => ?_⟩, fun b i h => ?_⟩
    · exact ⟨(both b (by rw [h]; simp)).1.trans h, (both b (by rw [h]; simp)).2⟩
    · exact ⟨(both b (by rw [h]; simp)).1.trans h, (both b (by rw [h]; simp)).2⟩
    · exact ⟨.inl ((both b (by rw [h]; simp)).1.trans h), (both b (by rw [h]; simp)).2⟩
  have kp : ∀ n, KeepN n G H G1 (upd (upd H dx (.own x)) x (.ins A dx [])) := fun n => ⟨⟨[x], rfl⟩, fun b hb => both b (by rcases hb with h | h | ⟨f, h⟩ <;> rw [h] <;> simp)⟩
  have hL : G1.L[S.objs.length]? = some x := by
    show (G.L ++ [x])[_]? = _
    rw [← s.ll, List.getElem?_append_right (Nat.le_refl _), Nat.sub_self]
    rfl
  refine ⟨G1, ex, ⟨⟨fun b hb => ?_, ?_, fun n o ho => ?_⟩, fun i r hi => ?_, s.ln⟩, hL⟩
  · have n1 : b ≠ x := fun e => by rw [e, upd_same] at hb; cases hb
    rw [upd_ne n1] at hb
    have n2 : b ≠ dx := fun e => by rw [e, upd_same] at hb; cases hb
    rw [upd_ne n2] at hb
    show (if b = x then _ else _) = _
    rw [if_neg n1]
    exact s.fr b hb
  · show (G.L ++ [x]).length = (S.objs ++ [_]).length
    rw [List.length_append, List.length_append, s.ll]
    rfl
  · have ho : (S.objs ++ [Ob.ins c []])[n]? = some o := ho
    by_cases hn : n < S.objs.length
    · rw [List.getElem?_append_left hn] at ho
      obtain ⟨a, ha, q⟩ := s.ob n o ho
      exact ⟨a, by show (G.L ++ [x])[n]? = _; rw [List.getElem?_append_left (by rw [s.ll]; exact hn)]; exact ha, q.keep (kp n)⟩
    · have hn' : n = S.objs.length := by
        have := (List.getElem?_eq_some_iff.mp ho).1
        simp at this
        omega
      subst hn'
      rw [List.getElem?_append_right (Nat.le_refl _), Nat.sub_self] at ho
      cases ho
      exact ⟨x, hL, if_pos rfl, A, dx, [], hc, upd_same, .nil⟩
  · have so := s.sl i r hi
    cases r with
    | fz d =>
      obtain ⟨v, h1, h2⟩ := so
      exact ⟨v, h1, Rep.mono ex.toExF d v h2⟩
    | own es =>
      obtain ⟨b, ys, h1, h2, h3, h4⟩ := so
      exact ⟨b, ys, h1, (oG b (by rw [h2]; simp)).trans h2, (both b (by rw [h2]; simp)).2.trans h3, Reps.mono ex.toExF es ys h4⟩
theorem frzFs_rep {n : Nat} {G2 : Gh} (ex : ExF G H G2 H) (hs : ∀ a f, G.O a = .sub n f → G2.O a = .frz) : ∀ {fs : List (Str × RV)} {vs : List (Str × V)}, FldsOk C G H n fs vs → RepF C G2 H vs (frzFs fs)
  | [], _, h => by
    cases h
    exact .nil
  | (f, r) :: fs, _, h => by
    cases h with
    | cons h1 h2 =>
      rename_i q vs
      obtain ⟨k, w⟩ := q
      obtain ⟨e1, h1⟩ := h1
      dsimp only at e1 h1
      subst e1
      refine .cons ?_ (frzFs_rep ex hs h2)
      cases r with
      | fz d => exact Rep.mono ex d w h1
      | own ds =>
        obtain ⟨a, xs, y1, y2, y3, y4⟩ := h1
        subst y1
        exact .lst (.inl ⟨hs _ _ y2, .inl y3⟩) (Reps.mono ex ds xs y4)
/-- an object that nobody changes any more -/
theorem Sat.frzObj (s : Sat C G H σ ρ S) {n : Nat} {x : Addr} {c : Str} {fs : List (Str × RV)} (ho : S.objs[n]? = some (.ins c fs)) (hL : G.L[n]? = some x) :
    ∃ G2, ExE G H G2 H ∧ Sat C G2 H σ ρ ⟨S.objs.set n .dead⟩ ∧ Rep C G2 H (.ref x) (.obj c (frzFs fs)) := by
  obtain ⟨a, q1, q2⟩ := s.ob n _ ho
  rw [hL] at q1
  cases q1
  obtain ⟨q3, A, dx, vs, q4, q5, q6⟩ := q2
  have hex : ∃ G2 : Gh, G2.L = G.L ∧ (∀ b, G.O b ≠ .obj n → (∀ f, G.O b ≠ .sub n f) → G2.O b = G.O b) ∧ G2.O x = .frz ∧ (∀ b f, G.O b = .sub n f → G2.O b = .frz) ∧ ∀ b, b ≠ x → G2.O b = G.O b ∨ ∃ f, G.O b = .sub n f := by
    refine ⟨{ G with O := fun b => if b = x then .frz else match G.O b with | .sub m f => if m = n then .frz else .sub m f | o => o }, rfl, fun b h1 h2 => ?_, if_pos rfl, fun b f h => ?_, fun b hb => ?_⟩
    · show (if b = x then _ else _) = _
      rw [if_neg fun e => h1 (by rw [e]; exact q3)]
      split
      · rename_i m f e
        rw [if_neg fun z => h2 f (by rw [e, z]), e]
      · rfl
    · show (if b = x then _ else _) = _
      split
      · rfl
      · rw [h]
        exact if_pos rfl
    · show (if b = x then _ else _) = _ ∨ _
      rw [if_neg hb]
      split
      · rename_i m f e
        by_cases z : m = n
        · subst z; exact .inr ⟨f, e⟩
        · rw [if_neg z]; exact .inl e.symm
      · exact .inl rfl
  obtain ⟨G2, hGL, both, hx, hsub, hor⟩ := hex
  have ex : ExE G H G2 H := ⟨⟨⟨fun b h => ⟨(both b (by rw [h]; simp) (by rw [h]; simp)).trans h, rfl⟩, [], by rw [hGL]; simp⟩, fun b h => ⟨(both b (by rw [h]; simp) (by rw [h]; simp)).trans h, rfl⟩⟩, fun b i h => ⟨.inl ((both b (by rw [h]; simp) (by rw [h]; simp)).trans h), rfl⟩⟩
  refine ⟨G2, ex, ⟨⟨fun b hb => ?_, ?_, fun m o hm => ?_⟩, fun i r hi => ?_, s.ln⟩, .obj hx q5 q4 (frzFs_rep ex.toExF hsub q6)⟩
  · have := s.fr b hb
    rw [both b (by rw [this]; simp) (by rw [this]; simp)]
    exact this
  · show G2.L.length = (S.objs.set n .dead).length
    rw [List.length_set, hGL]
    exact s.ll
  · have hm : (S.objs.set n Ob.dead)[m]? = some o := hm
    by_cases e : m = n
    · subst e
      have hl := (List.getElem?_eq_some_iff.mp ho).1
      rw [List.getElem?_set_self hl] at hm
      cases hm
      exact ⟨x, by rw [hGL]; exact hL, trivial⟩
    · rw [List.getElem?_set_ne (Ne.symm e)] at hm
      obtain ⟨b, h1, h2⟩ := s.ob m o hm
      have kn : KeepN m G H G2 H := ⟨⟨[], by rw [hGL]; simp⟩, fun b hb => ⟨both b (by
        rcases hb with h | h | ⟨f, h⟩
        · rw [h]; simp
        · rw [h]; intro z; cases z; exact e rfl
        · rw [h]; simp) (by
        rcases hb with h | h | ⟨f, h⟩
        · rw [h]; simp
        · rw [h]; simp
        · rw [h]; intro f2 z; cases z; exact e rfl), rfl⟩⟩
      exact ⟨b, by rw [hGL]; exact h1, h2.keep kn⟩
  · have so := s.sl i r hi
    cases r with
    | fz d =>
      obtain ⟨v, h1, h2⟩ := so
      exact ⟨v, h1, Rep.mono ex.toExF d v h2⟩
    | own es =>
      obtain ⟨b, ys, h1, h2, h3, h4⟩ := so
      exact ⟨b, ys, h1, (both b (by rw [h2]; simp) (by rw [h2]; simp)).trans h2, h3, Reps.mono ex.toExF es ys h4⟩
/-! ### a slot's own list, lent to a call -/
/-- what holds no list does not look at the lists -/
theorem noList {G G2 : Gh} {b : Addr} {xs : List V} {u : HO} (h : H b = some u) (hn : ∀ ys, u ≠ .lst ys) {a : Addr} (ha : H a = some (.lst xs)) : b ≠ a := fun e => by
  rw [e, ha] at h
  cases h
  exact hn _ rfl
mutual
theorem Rep.nol {G2 : Gh} {a : Addr} {xs : List V} (ha : H a = some (.lst xs)) (k : ∀ b, b ≠ a → G.O b = .frz → G2.O b = .frz) (hL : G2.L = G.L) : ∀ (d : D) (v : V), d.nol = true → Rep C G H v d → Rep C G2 H v d
  | .non, _, _, h => by cases h; exact .non
  | .bl _, _, _, h => by cases h; exact .bl _
  | .int _, _, _, h => by cases h; exact .int _
  | .str _, _, _, h => by cases h; exact .str _
  | .ty _, _, _, h => by cases h; exact .ty _
  | .cls _, _, _, h => by cases h with | cls h1 => exact .cls h1
  | .lst ds, _, n, h => by cases n
  | .tup ds, _, n, h => by
    cases h with
    | tup h1 h2 =>
      refine .tup ?_ (Reps.nol ha k hL ds _ n h2)
      rcases h1 with ⟨h1, h3⟩ | h1
      · exact .inl ⟨k _ (noList (G := G) (G2 := G2) h3 (fun _ => by simp) ha) h1, h3⟩
      · exact .inr h1
  | .obj c ds, _, n, h => by
    cases h with
    | obj h1 h2 h3 h4 => exact .obj (k _ (noList (G := G) (G2 := G2) h2 (fun _ => by simp) ha) h1) h2 h3 (RepF.nol ha k hL ds _ n h4)
  | .loc n, _, _, h => by
    cases h with
    | loc h1 => exact .loc (by rw [hL]; exact h1)
theorem Reps.nol {G2 : Gh} {a : Addr} {xs : List V} (ha : H a = some (.lst xs)) (k : ∀ b, b ≠ a → G.O b = .frz → G2.O b = .frz) (hL : G2.L = G.L) : ∀ (ds : List D) (vs : List V), D.nols ds = true → Reps C G H vs ds → Reps C G2 H vs ds
  | [], _, _, h => by cases h; exact .nil
  | d :: ds, _, n, h => by
    have n' := Bool.and_eq_true_iff.mp (show (d.nol && D.nols ds) = true from n)
    cases h with
    | cons h1 h2 => exact .cons (Rep.nol ha k hL d _ n'.1 h1) (Reps.nol ha k hL ds _ n'.2 h2)
theorem RepF.nol {G2 : Gh} {a : Addr} {xs : List V} (ha : H a = some (.lst xs)) (k : ∀ b, b ≠ a → G.O b = .frz → G2.O b = .frz) (hL : G2.L = G.L) : ∀ (ds : List (Str × D)) (vs : List (Str × V)), D.nolf ds = true → RepF C G H vs ds → RepF C G2 H vs ds
  | [], _, _, h => by cases h; exact .nil
  | (f, d) :: ds, _, n, h => by
    have n' := Bool.and_eq_true_iff.mp (show (d.nol && D.nolf ds) = true from n)
    cases h with
    | cons h1 h2 => exact .cons (Rep.nol ha k hL d _ n'.1 h1) (RepF.nol ha k hL ds _ n'.2 h2)
end
/-- the ghost of such a call -/
def Gh.lend (G : Gh) (a : Addr) : Gh := G.call.set a .frz
theorem lend_enter (s : Sat C G H σ ρ S) {a : Addr} {i : Nat} {xs : List V} (ha : G.O a = .slot i) (hH : H a = some (.lst xs)) : SatS C (G.lend a) H S ∧ (∀ b j, (G.lend a).O b ≠ .slot j) ∧ ExF G H (G.lend a) H ∧ (G.lend a).O a = .frz ∧ (G.lend a).L = G.L := by
  have ho : G.call.O a = .out := Gh.call_slot ha
  have ne : ∀ b, G.call.O b ≠ .out → b ≠ a := fun b h e => h (by rw [e]; exact ho)
  have k : KeepC G.call H (G.lend a) H := ⟨rfl, fun b h => ⟨Gh.set_ne (ne b (by rcases h with h | ⟨n, h⟩ | ⟨n, f, h⟩ <;> rw [h] <;> simp)), rfl⟩⟩
  refine ⟨s.enter.keepC k fun b hb => ?_, fun b j => ?_, ⟨fun b hb => ?_, [], ?_⟩, Gh.set_same, rfl⟩
  · have : b ≠ a := fun e => by rw [e, hH] at hb; cases hb
    show (G.call.set a .frz).O b = _
    rw [Gh.set_ne this]
    exact s.enter.fr b hb
  · by_cases e : b = a
    · rw [e]; show (G.call.set a .frz).O a ≠ _; rw [Gh.set_same]; simp
    · show (G.call.set a .frz).O b ≠ _; rw [Gh.set_ne e]; exact Gh.call_ns b j
  · have q := (call_keepC (G := G) (H := H)).2 b (.inl hb)
    exact ⟨(k.2 b (.inl (q.1.trans hb))).1.trans (q.1.trans hb), rfl⟩
  · show G.L = _; simp
/-- behind it -/
theorem lend_back {G' : Gh} {H' : Hp} {S' : Mem} (s : Sat C G H σ ρ S) {a : Addr} {i : Nat} {xs : List V} (ha : G.O a = .slot i) (hH : H a = some (.lst xs)) (e : ExC (G.lend a) H G' H') (s' : SatS C G' H' S') (hn : S'.objs.all Ob.nol = true) :
    ExE G H (G.back G') H' ∧ Sat C (G.back G') H' σ ρ S' := by
  have oa : G'.O a = .frz ∧ H' a = H a := e.frz a Gh.set_same
  have hH' : H' a = some (.lst xs) := oa.2.trans hH
  have lo : ∀ b, b ≠ a → (G.lend a).O b = G.call.O b := fun b hb => Gh.set_ne hb
  have nea : ∀ b, (∀ j, G.O b ≠ .slot j) → b ≠ a := fun b h z => h i (by rw [z]; exact ha)
  have ex : ExE G H (G.back G') H' := by
    refine ⟨⟨⟨fun b h => ?_, ?_⟩, fun b h => ?_⟩, fun b j h => ?_⟩
    · have ns : ∀ j, G.O b ≠ .slot j := fun j => by rw [h]; simp
      rw [Gh.back_eq ns]
      exact e.frz b (by rw [lo b (nea b ns), Gh.call_eq ns]; exact h)
    · exact e.pre
    · have ns : ∀ j, G.O b ≠ .slot j := fun j => by rw [h]; simp
      rw [Gh.back_eq ns]
      exact e.out b (by rw [lo b (nea b ns), Gh.call_eq ns]; exact h)
    · refine ⟨.inl (Gh.back_slot h), ?_⟩
      by_cases z : b = a
      · rw [z]; exact oa.2
      · exact (e.out b (by rw [lo b z]; exact Gh.call_slot h)).2
  have bo : ∀ b, b ≠ a → G'.O b ≠ .out → (G.back G').O b = G'.O b := fun b h1 h2 => Gh.back_eq fun j z => h2 (e.out b (by rw [lo b h1]; exact Gh.call_slot z)).1
  have kf : ∀ b, b ≠ a → G'.O b = .frz → (G.back G').O b = .frz := fun b h1 h2 => (bo b h1 (by rw [h2]; simp)).trans h2
  have hL : (G.back G').L = G'.L := rfl
  have nf : ∀ b, G'.O b ≠ .frz → b ≠ a := fun b h z => h (by rw [z]; exact oa.1)
  refine ⟨ex, ⟨⟨fun b hb => ?_, s'.ll, fun n o ho => ?_⟩, fun j r hr => ?_, s.ln⟩⟩
  · have q := s'.fr b hb
    rw [bo b (nf b (by rw [q]; simp)) (by rw [q]; simp)]
    exact q
  · obtain ⟨b, h1, h2⟩ := s'.ob n o ho
    refine ⟨b, h1, ?_⟩
    have hno : o.nol = true := List.all_eq_true.mp hn o (List.mem_of_getElem? ho)
    cases o with
    | dead => trivial
    | bag g =>
      obtain ⟨y1, c, y2, y3, y4, y5⟩ := h2
      exact ⟨(bo b (nf b (by rw [y1]; simp)) (by rw [y1]; simp)).trans y1, c, y2, (bo c (nf c (by rw [y3]; simp)) (by rw [y3]; simp)).trans y3, y4, y5⟩
    | ins c fs =>
      obtain ⟨y1, A, dx, vs, y2, y3, y4⟩ := h2
      refine ⟨(bo b (nf b (by rw [y1]; simp)) (by rw [y1]; simp)).trans y1, A, dx, vs, y2, y3, ?_⟩
      have hfs : ∀ p ∈ fs, p.2.nol = true := List.all_eq_true.mp hno
      clear y3 h1 ho hno
      unfold FldsOk at y4 ⊢
      induction y4 with
      | nil => exact .nil
      | cons z1 z2 ih =>
        rename_i p q ps qs
        refine .cons ⟨z1.1, ?_⟩ (ih fun p hp => hfs p (List.mem_cons_of_mem _ hp))
        have hp := hfs p List.mem_cons_self
        obtain ⟨f, r⟩ := p
        cases r with
        | fz d => exact Rep.nol hH' kf hL d _ hp z1.2
        | own ds =>
          obtain ⟨c2, ys, w1, w2, w3, w4⟩ := z1.2
          exact ⟨c2, ys, w1, (bo c2 (nf c2 (by rw [w2]; simp)) (by rw [w2]; simp)).trans w2, w3, Reps.nol hH' kf hL ds _ hp w4⟩
  · have so := s.sl j r hr
    cases r with
    | fz d =>
      obtain ⟨v, h1, h2⟩ := so
      exact ⟨v, h1, Rep.mono ex.toExF d v h2⟩
    | own ds =>
      obtain ⟨b, ys, h1, h2, h3, h4⟩ := so
      exact ⟨b, ys, h1, Gh.back_slot h2, (ex.slt b j h2).2.trans h3, Reps.mono ex.toExF ds ys h4⟩
end
end Sh


/-! ShCall: calls of defs and of built-ins. -/
namespace Sh
open PySem PySem.Spec PyProof.Rows L2
section
variable {X : Cx} {cad : Str → Option Addr} {T : Tab} {W : WX} {σ : L2.St} {H : Hp} {n : Nat} {c : CC} {a b d e : Expr} {la lb ld l : LE} {pos p : Pos}
theorem passW (g : Good X cad T W n c) (σ : L2.St) : PassesAt (L2.CX X.prog X.w) X σ (fun c d H' => W c d σ H') := fun pins H s e s' I q => g.tk e s' (XE.of_call I (fun cls d H' h => h) q)
theorem run_S {f : Addr} {fd : FuncData} {ps : List Str} {m : Fn} {pins : List (Addr × Obj)} {s : Shared} {us : List Value} {vs : List V} {ds : List D} {G : Gh} {ρ : Rho} {S : Mem} {Q : VK} (g : Good X cad T W n c) (F : FnOk X.prog X.w X.K X.mg X.base (L2.CX X.prog X.w) n f fd ps (spOf (ct X cad) ps.length m)) (hb : Binds X.K fd ps [])
    (I : L2.Inv X pins σ H s) (r : Vals vs us) (hl : vs.length = ps.length) (sat : Sat (ct X cad) G H σ ρ S) (rr : Reps (ct X cad) G H vs ds) (h : At (ct X cad) W σ G H ((m ds S).res ρ) (RepR (ct X cad)) Q) : wpAny (model X.prog X.w) X.A (call (.ref f) us) (EP X pins σ Q) X.xe s :=
  run_fnSD (E := fun σ c d H' => W c d σ H') (dvs := []) (ds := []) F g.room hb .nil (passW g σ) I r (by rw [List.append_nil]; exact call_sp hl sat rr h)
theorem bad_or {α β : Type} {C : Ct} {G : Gh} {ρ : Rho} {r : FRes} {R : Gh → Hp → β → RV → Prop} {Q : β → Hp → Prop} (h : At C W σ G H (r.res ρ) R Q) : r ≠ .bad := fun e => by
  rw [e] at h
  exact h
/-- a class is called: what its __init__ lets out is wished for at the caller's slots -/
theorem run_makeSD {CX : CXT} {k : Nat} {CA f : Addr} {fd : FuncData} {ps : List Str} {sp : Sp} {dvs : List V} {ds : List Value} {E : XK} {pins : List (Addr × Obj)} {s : Shared} {Q : VK} {us : List Value} {vs : List V} (M : Mk X.K CA f) (F : FnOk X.prog X.w X.K X.mg X.base CX k f fd ps sp) (hr : Room (k + 1) X.A) (hb : Binds X.K fd ps ds) (hd : Vals dvs ds)
    (hx : PassesAt CX X σ E) (I : L2.Inv X pins σ H s) (r : Vals vs us)
    (h : ∀ x dx, H x = none → H dx = none → dx ≠ x → sp (.ref x :: (vs ++ dvs)) (upd (upd H dx (.own x)) x (.ins CA dx [])) (fun v H2 => v = .non ∧ Q (.ref x) H2) E) :
    wpAny (model X.prog X.w) X.A (call (.ref CA) us) (EP X pins σ Q) X.xe s := by
  have hq := h (s.heap.objs.size + 1) s.heap.objs.size (I.hok.fresh (Nat.le_succ _)) (I.hok.fresh (Nat.le_refl _)) (Nat.ne_of_lt (Nat.lt_succ_self _))
  have I2 := Inv.made (C := CA) I
  have r2 : Vals (V.ref (s.heap.objs.size + 1) :: (vs ++ dvs)) (Value.ref (s.heap.objs.size + 1) :: (us ++ ds)) := .cons rfl (r.append hd)
  have hl : (Value.ref (s.heap.objs.size + 1) :: us ++ ds).length = ps.length := by
    have e := r2.length
    rw [F.len _ _ _ _ hq] at e
    exact e.symm
  refine wpAny_call (make_map (f := f) I.kIn M.makes M.init (beq_iff_eq.mp M.fn) (codeAny_mono (F.run _ X.stack _ _ ⟨Value.ref (s.heap.objs.size + 1) :: us, []⟩ (Value.ref (s.heap.objs.size + 1) :: (us ++ ds)) _ _ E (hr.make CA us [])
    (I2.env0.make CA us []) (hb _ (Value.ref (s.heap.objs.size + 1) :: us) I2.kIn hl) r2 hq) fun r s' hq' => ?_))
  cases r with
  | error e => exact hx pins _ _ e s' I2 hq'
  | ok fl =>
    cases fl with
    | ret u =>
      obtain ⟨v, H', I3, rv, ev, q3⟩ := I2.after hq'
      subst ev
      exact ⟨rv, ⟨V.ref (s.heap.objs.size + 1), H', I3, rfl, q3⟩⟩
    | next => exact False.elim hq'
    | brk => exact False.elim hq'
    | cont => exact False.elim hq'
/-- what __init__ is to do, from what is wanted of the new object -/
theorem new_sp {G : Gh} {ρ : Rho} {S : Mem} {Q : VK} {cn : Str} {fn : Fn} {dv : List D} {z : Bool} {A : Addr} {np : Nat} {vs dvs : List V} {ds : List D} (hA : cad cn = some A) (hdv : ∀ G H, Reps (ct X cad) G H dvs dv) (hbad : ∀ ds S, fn ds S ≠ .bad → ds.length = np)
    (sat : Sat (ct X cad) G H σ ρ S) (rr : Reps (ct X cad) G H vs ds) (h : At (ct X cad) W σ G H ((newFn cn fn dv z ds S).res ρ) (RepR (ct X cad)) Q) (x dx : Addr) (hx : H x = none) (hdx : H dx = none) (hne : dx ≠ x) :
    spOf (ct X cad) np fn (.ref x :: (vs ++ dvs)) (upd (upd H dx (.own x)) x (.ins A dx [])) (fun v H2 => v = .non ∧ Q (.ref x) H2) (fun c d H' => W c d σ H') := by
  obtain ⟨G1, ex, s1, hL⟩ := sat.newObj hx hdx hne hA (c := cn)
  have nb : fn (.loc S.objs.length :: (ds ++ dv)) ⟨S.objs ++ [.ins cn []]⟩ ≠ .bad := fun e => by
    unfold newFn at h
    rw [e] at h
    exact h
  have r1 : Reps (ct X cad) G1 (upd (upd H dx (.own x)) x (.ins A dx [])) (.ref x :: (vs ++ dvs)) (.loc S.objs.length :: (ds ++ dv)) := .cons (.loc hL) ((Reps.mono ex.toExF _ _ rr).append (hdv _ _))
  refine call_sp (by rw [← hbad _ _ nb]; exact r1.length) s1 r1 ?_
  unfold newFn at h
  cases e : fn (.loc S.objs.length :: (ds ++ dv)) ⟨S.objs ++ [.ins cn []]⟩ with
  | bad => exact (nb e).elim
  | exc y S' =>
    rw [e] at h
    exact fun c d G' H' e' s' q => h c d G' H' (ex.trans e') s' q
  | ok v S' =>
    rw [e] at h
    intro v1 G2 H2 e2 s2 rv
    cases v with
    | own _ => exact h.elim
    | fz d =>
      cases d <;> first | (exact h.elim) | skip
      cases rv
      refine ⟨rfl, ?_⟩
      have hL2 : G2.L[S.objs.length]? = some x := by
        obtain ⟨l, q⟩ := e2.pre
        rw [q]
        exact List.getElem?_append_left (List.getElem?_eq_some_iff.mp hL).1 ▸ hL
      cases z with
      | false =>
        simp only [Bool.false_eq_true, if_false] at h
        exact h (.ref x) G2 H2 (ex.trans e2) s2 (.loc hL2)
      | true =>
        simp only [if_true] at h
        split at h
        · rename_i c2 fs ho
          split at h
          · rename_i ec
            subst ec
            obtain ⟨G3, e3, s3, r3⟩ := s2.frzObj ho hL2
            exact h (.ref x) G3 H2 ((ex.trans e2).trans e3) s3 r3
          · exact h.elim
        · exact h.elim
theorem run_N {f : Str} {fi : Nat} {pins : List (Addr × Obj)} {s : Shared} {us : List Value} {vs : List V} {ds : List D} {G : Gh} {ρ : Rho} {S : Mem} {Q : VK} {cn : Str} {fn : Fn} {dv : List D} {z : Bool} {A a fa : Addr} {fd : FuncData} {ps : List Str} {dvs : List V} {dls : List Value} (g : Good X cad T W n c)
    (hA : cad cn = some A) (M : Mk X.K A fa) (F : ∃ j, j + 1 ≤ n ∧ FnOk X.prog X.w X.K X.mg X.base (L2.CX X.prog X.w) j fa fd ps (spOf (ct X cad) ps.length fn)) (hb : Binds X.K fd ps dls) (hd : Vals dvs dls) (hdv : ∀ G H, Reps (ct X cad) G H dvs dv) (hbad : ∀ ds S, fn ds S ≠ .bad → ds.length = ps.length)
    (I : L2.Inv X pins σ H s) (r : Vals vs us) (sat : Sat (ct X cad) G H σ ρ S) (rr : Reps (ct X cad) G H vs ds) (h : At (ct X cad) W σ G H ((newFn cn fn dv z ds S).res ρ) (RepR (ct X cad)) Q) : wpAny (model X.prog X.w) X.A (call (.ref A) us) (EP X pins σ Q) X.xe s := by
  obtain ⟨j, hj, F⟩ := F
  exact run_makeSD (E := fun c d H' => W c d σ H') M F (g.room.mono hj) hb hd (passW g σ) I r fun x dx hx hdx hne => new_sp hA hdv hbad sat rr h x dx hx hdx hne
/-- .. with arguments by name -/
theorem run_NK {pins : List (Addr × Obj)} {s : Shared} {us ws uz : List Value} {ks : List Str} {vz : List V} {ds : List D} {G : Gh} {ρ : Rho} {S : Mem} {Q : VK} {cn : Str} {fn : Fn} {z : Bool} {A fa : Addr} {fd : FuncData} {ps : List Str} (g : Good X cad T W n c)
    (hA : cad cn = some A) (M : Mk X.K A fa) (F : ∃ j, j + 1 ≤ n ∧ FnOk X.prog X.w X.K X.mg X.base (L2.CX X.prog X.w) j fa fd ps (spOf (ct X cad) ps.length fn)) (hb : ∀ (s : Shared) (x : Value), X.K.In s.heap → BindsTo s fd ⟨x :: us, ks.zip ws⟩ (ps.zip (x :: uz))) (hbad : ∀ ds S, fn ds S ≠ .bad → ds.length = ps.length)
    (I : L2.Inv X pins σ H s) (r : Vals vz uz) (sat : Sat (ct X cad) G H σ ρ S) (rr : Reps (ct X cad) G H vz ds) (h : At (ct X cad) W σ G H ((newFn cn fn [] z ds S).res ρ) (RepR (ct X cad)) Q) : wpAny (model X.prog X.w) X.A (call (.ref A) us (ks.zip ws)) (EP X pins σ Q) X.xe s := by
  obtain ⟨j, hj, F⟩ := F
  have hr := g.room.mono hj
  have hq := new_sp (dvs := []) (dv := []) hA (fun _ _ => .nil) hbad sat rr h (s.heap.objs.size + 1) s.heap.objs.size (I.hok.fresh (Nat.le_succ _)) (I.hok.fresh (Nat.le_refl _)) (Nat.ne_of_lt (Nat.lt_succ_self _))
  rw [List.append_nil] at hq
  have I2 := Inv.made (C := A) I
  have r2 : Vals (V.ref (s.heap.objs.size + 1) :: vz) (Value.ref (s.heap.objs.size + 1) :: uz) := .cons rfl r
  refine wpAny_call (make_map (f := fa) I.kIn M.makes M.init (beq_iff_eq.mp M.fn) (codeAny_mono (F.run _ X.stack _ _ ⟨Value.ref (s.heap.objs.size + 1) :: us, ks.zip ws⟩ (Value.ref (s.heap.objs.size + 1) :: uz) _ _ _ (hr.make A us (ks.zip ws))
    (I2.env0.make A us (ks.zip ws)) (hb _ _ I2.kIn) r2 hq) fun r s' hq' => ?_))
  cases r with
  | error e => exact passW g σ pins _ _ e s' I2 hq'
  | ok fl =>
    cases fl with
    | ret u =>
      obtain ⟨v, H', I3, rv, ev, q3⟩ := I2.after hq'
      subst ev
      exact ⟨rv, ⟨V.ref (s.heap.objs.size + 1), H', I3, rfl, q3⟩⟩
    | next => exact False.elim hq'
    | brk => exact False.elim hq'
    | cont => exact False.elim hq'
/-- .. what __init__ is to do when a slot's own list is lent -/
theorem lend_sp {G : Gh} {ρ : Rho} {S : Mem} {Q : VK} {cn : Str} {fn : Fn} {A a : Addr} {np i : Nat} {ds : List D} (hA : cad cn = some A) (hbad : ∀ ds S, fn ds S ≠ .bad → ds.length = np)
    (sat : Sat (ct X cad) G H σ ρ S) (hr : ρ[i]? = some (some (.own ds))) (h : At (ct X cad) W σ G H ((lendFn cn fn ds S).res ρ) (RepR (ct X cad)) Q) (ha : σ[i]? = some (some (.ref a))) (x dx : Addr) (hx : H x = none) (hdx : H dx = none) (hne : dx ≠ x) :
    spOf (ct X cad) np fn [.ref x, .ref a] (upd (upd H dx (.own x)) x (.ins A dx [])) (fun v H2 => v = .non ∧ Q (.ref x) H2) (fun c d H' => W c d σ H') := by
  obtain ⟨G1, ex, s1, hL⟩ := sat.newObj hx hdx hne hA (c := cn)
  obtain ⟨a', xs, e1, e2, e3, e4⟩ := s1.sl i _ hr
  rw [ha] at e1
  cases e1
  have nb : fn [.loc S.objs.length, .lst ds] ⟨S.objs ++ [.ins cn []]⟩ ≠ .bad := fun e => by
    unfold lendFn at h
    rw [e] at h
    exact h
  obtain ⟨t1, t2, t3, t4, t5⟩ := lend_enter s1 e2 e3
  refine ⟨(hbad _ _ nb : (2 : Nat) = np), [.loc S.objs.length, .lst ds], G1.lend a, ⟨S.objs ++ [.ins cn []]⟩, .cons (.loc (by rw [t5]; exact hL)) (.cons (.lst (.inl ⟨t4, .inl e3⟩) (Reps.mono t3 _ _ e4)) .nil), t1, t2, ?_⟩
  unfold lendFn at h
  cases e : fn [.loc S.objs.length, .lst ds] ⟨S.objs ++ [.ins cn []]⟩ with
  | bad => exact (nb e).elim
  | exc y S' => rw [e] at h; exact h.elim
  | ok v S' =>
    rw [e] at h
    intro v1 G2 H2 ex2 s2 _ rv
    cases v with
    | own _ => exact h.elim
    | fz d =>
      cases d <;> first | (exact h.elim) | skip
      cases rv
      refine ⟨rfl, ?_⟩
      dsimp only at h
      split at h
      · rename_i hn
        obtain ⟨ex3, s3⟩ := lend_back s1 e2 e3 ex2 s2 hn
        have hL2 : (G1.back G2).L[S.objs.length]? = some x := by
          obtain ⟨l, q⟩ := ex3.pre
          rw [q]
          exact List.getElem?_append_left (List.getElem?_eq_some_iff.mp hL).1 ▸ hL
        split at h
        · rename_i c2 fs ho
          split at h
          · rename_i ec
            subst ec
            obtain ⟨G3, e5, s5, r5⟩ := s3.frzObj ho hL2
            exact h (.ref x) G3 H2 ((ex.trans ex3).trans e5) s5 r5
          · exact h.elim
        · exact h.elim
      · exact h.elim
theorem lend_E {f y : Str} {fi j : Nat} {py : Pos} (g : Good X cad T W n c) (hf : nameOk f = true) (hg : isGlob c f = true) (hfi : ixOf c.F f = some fi) (hy : nameOk y = true) (hv : isVis c y = true) (hj : ixOf c.N y = some j) : EOk X cad T W (.Call (.Name f p) [.Name y py] [] pos) (.lend fi j) := by
  refine ⟨fun pins s σ H Q I q => ?_⟩
  obtain ⟨h1, h2, h3⟩ := nameOk_1 hf
  obtain ⟨y1, y2, y3⟩ := nameOk_1 hy
  simp only [Tr, den] at q
  obtain ⟨G, ρ, S, sat, q⟩ := q
  split at q
  · rename_i cn fn ds en er
    obtain ⟨A, fa, fd, ps, dvs, dls, m1, m2, m3, m4, m5, m6, m7, m8⟩ := g.tab.nw fi 1 cn fn [] true en f (ixOf_get hfi)
    refine wpAny_Call_Name_kw (ld_glob I (glob_of g hg) m1 ?_ h1)
    obtain ⟨a, xs, e1, e2, e3, e4⟩ := sat.sl j _ er
    have pa : PA X [.Name y py] _ := pa_cons (pe_var (pos := py) (ix_of g hj) (vis_of g hv) y1 y2) pa_nil
    have hA := pa.run pos pins s σ H (fun vs H1 => vs = [.ref a] ∧ H1 = H) I ⟨_, e1, rfl, rfl⟩
    have hdv : dvs = [] := by
      have := (m7 G H).length
      exact List.eq_nil_of_length_eq_zero this
    subst hdv
    have hpl : ∀ es, starEach (Expr.Name y py :: es) X.env = (false, eval (.Name y py) X.env) :: starEach es X.env := fun _ => rfl
    refine PySem.W.callWith_K (h₀ := X.base) I.ok.mod.kin m3.kp (thn hA fun us s1 ⟨vs, H1, I1, r, k1, k2⟩ => ⟨I1.kIn, ?_⟩) (hpl []) (plain_any fun x hx => (List.not_mem_nil hx).elim)
    subst k1 k2
    obtain ⟨jj, hjj, F⟩ := m4
    exact run_makeSD (E := fun c d H' => W c d σ H') m3 F (g.room.mono hjj) m5 m6 (passW g σ) I1 r fun x dx hx hdx hne => lend_sp m2 m8 sat er q e1 x dx hx hdx hne
  · exact q.elim
theorem call_E {f : Str} {fi : Nat} {es : List Expr} {ls : LEs} (g : Good X cad T W n c) (hf : nameOk f = true) (hg : isGlob c f = true) (hfi : ixOf c.F f = some fi) (hp : ∀ e ∈ es, Plain e) (hnil : es = [] → ls = .nil) (h : AOk X cad T W es ls) : EOk X cad T W (.Call (.Name f p) es [] pos) (.call fi ls) := by
  refine ⟨fun pins s σ H Q I q => ?_⟩
  obtain ⟨h1, h2, h3⟩ := nameOk_1 hf
  simp only [Tr, den] at q
  obtain ⟨G, ρ, S, sat, q⟩ := q
  cases e : T.fn fi with
  | none =>
    rw [e] at q
    dsimp only at q
    cases e2 : T.nw fi ls.len with
    | none => rw [e2] at q; exact q.elim
    | some k =>
      obtain ⟨cn, fn, dv, z⟩ := k
      rw [e2] at q
      dsimp only at q
      obtain ⟨A, fa, fd, ps, dvs, dls, m1, m2, m3, m4, m5, m6, m7, m8⟩ := g.tab.nw fi ls.len cn fn dv z e2 f (ixOf_get hfi)
      refine wpAny_Call_Name_kw (ld_glob I (glob_of g hg) m1 ?_ h1)
      have hA := h.run pos pins s σ H (fun vs H1 => ∃ G1 ρ1 S1 ds, Sat (ct X cad) G1 H1 σ ρ1 S1 ∧ Reps (ct X cad) G1 H1 vs ds ∧ At (ct X cad) W σ G1 H1 ((newFn cn fn dv z ds S1).res ρ1) (RepR (ct X cad)) Q) I
        ⟨G, ρ, S, sat, (At.bind q).mono fun vs H1 ⟨G1, ρ1, S1, ds, e1, s1, r1, q1⟩ => ⟨G1, ρ1, S1, ds, s1, r1, q1⟩⟩
      cases es with
      | nil =>
        refine PySem.W.callWith_K0 I.kIn m3.kp ?_
        rw [hnil rfl] at q
        simp only [denEs, Res.bind_ok] at q
        exact run_N (f := f) (fi := fi) (a := A) g m2 m3 m4 m5 m6 m7 m8 I .nil sat .nil q
      | cons e1 es =>
        refine PySem.W.callWith_K (h₀ := X.base) I.ok.mod.kin m3.kp (thn hA fun us s1 ⟨vs, H1, I1, r, G1, ρ1, S1, ds, sat1, r1, q1⟩ => ⟨I1.kIn, ?_⟩) (hp e1 List.mem_cons_self es _) (plain_any fun x hx => hp x (List.mem_cons_of_mem _ hx))
        exact run_N (f := f) (fi := fi) (a := A) g m2 m3 m4 m5 m6 m7 m8 I1 r sat1 r1 q1
  | some m =>
    rw [e] at q
    obtain ⟨a, fd, ps, hm, hk, F, hb, hbad⟩ := g.tab.fn fi m e f (ixOf_get hfi)
    refine wpAny_Call_Name_kw (ld_glob I (glob_of g hg) hm ?_ h1)
    have hA := h.run pos pins s σ H (fun vs H1 => ∃ G1 ρ1 S1 ds, Sat (ct X cad) G1 H1 σ ρ1 S1 ∧ Reps (ct X cad) G1 H1 vs ds ∧ At (ct X cad) W σ G1 H1 ((m ds S1).res ρ1) (RepR (ct X cad)) Q) I
      ⟨G, ρ, S, sat, (At.bind q).mono fun vs H1 ⟨G1, ρ1, S1, ds, e1, s1, r1, q1⟩ => ⟨G1, ρ1, S1, ds, s1, r1, q1⟩⟩
    cases es with
    | nil =>
      refine PySem.W.callWith_K0 I.kIn hk ?_
      rw [hnil rfl] at q
      simp only [denEs, Res.bind_ok] at q
      exact run_S g F hb I .nil (by rw [← hbad _ _ (bad_or (α := RV) q)]; rfl) sat .nil q
    | cons e1 es =>
      refine PySem.W.callWith_K (h₀ := X.base) I.ok.mod.kin hk (thn hA fun us s1 ⟨vs, H1, I1, r, G1, ρ1, S1, ds, sat1, r1, q1⟩ => ⟨I1.kIn, ?_⟩) (hp e1 List.mem_cons_self es _) (plain_any fun x hx => hp x (List.mem_cons_of_mem _ hx))
      exact run_S g F hb I1 r (by rw [← hbad _ _ (bad_or (α := RV) q1)]; exact r1.length) sat1 r1 q1
theorem pick_rel {α β : Type} {R : α → β → Prop} {xs : List α} {ys : List β} (h : PySem.Paired R xs ys) : ∀ {is : List Nat} {zs : List α}, pick is xs = some zs → ∃ ws, pick is ys = some ws ∧ PySem.Paired R zs ws
  | [], zs, e => by
    cases e
    exact ⟨[], rfl, .nil⟩
  | i :: is, zs, e => by
    unfold pick at e
    cases e1 : xs[i]? with
    | none => rw [e1] at e; cases e
    | some x =>
      cases e2 : pick is xs with
      | none => rw [e1, e2] at e; cases e
      | some xs' =>
        rw [e1, e2] at e
        cases e
        obtain ⟨ws, h1, h2⟩ := pick_rel h e2
        obtain ⟨y, h3, h4⟩ := paired_get h e1
        exact ⟨y :: ws, by unfold pick; rw [h3, h1], .cons h4 h2⟩
where
  paired_get {α β : Type} {R : α → β → Prop} {x : α} : ∀ {xs : List α} {ys : List β} {i : Nat}, PySem.Paired R xs ys → xs[i]? = some x → ∃ y, ys[i]? = some y ∧ R x y
  | _, _, _, .nil, e => by simp at e
  | _, _, 0, .cons r _, e => by simp at e; subst e; exact ⟨_, rfl, r⟩
  | _, _, i + 1, .cons _ t, e => by
    obtain ⟨y, h1, h2⟩ := paired_get (i := i) t (by simpa using e)
    exact ⟨y, by simpa using h1, h2⟩
theorem reps_paired {C : Ct} {G : Gh} : ∀ {ds : List D} {vs : List V}, Reps C G H vs ds → PySem.Paired (fun d v => Rep C G H v d) ds vs
  | [], _, h => by cases h; exact .nil
  | d :: ds, _, h => by
    cases h with
    | cons h1 h2 => exact .cons h1 (reps_paired h2)
theorem paired_reps {C : Ct} {G : Gh} : ∀ {ds : List D} {vs : List V}, PySem.Paired (fun d v => Rep C G H v d) ds vs → Reps C G H vs ds
  | _, _, .nil => .nil
  | _, _, .cons r t => .cons r (paired_reps t)
abbrev KOk (X : Cx) (cad : Str → Option Addr) (T : Tab) (W : WX) (es : List Keyword) (l : LEs) : Prop := PK X es (Tr (ct X cad) W (denEs T l) (Reps (ct X cad)))
theorem PK.weak {X : Cx} {e : List Keyword} {t t' : TA} (p : PK X e t) (h : ∀ σ H Q, t' σ H Q → t σ H Q) : PK X e t' := ⟨fun pos pins s σ H Q I q => p.run pos pins s σ H Q I (h _ _ _ q)⟩
theorem nil_K : KOk X cad T W [] .nil :=
  PK.weak pk_nil fun σ H Q q => by
    obtain ⟨G, ρ, S, s, q⟩ := q
    simp only [denEs] at q
    exact q [] G H (.refl _ _) s .nil
theorem cons_K {es : List Keyword} {ls : LEs} {nm : Option Str} {kp : Pos} (he : EOk X cad T W e l) (hs : KOk X cad T W es ls) : KOk X cad T W (⟨nm, e, kp⟩ :: es) (.cons l ls) :=
  PK.weak (pk_cons he hs) fun σ H Q q => by
    simp only [Tr, denEs] at q
    refine Tr.freeze ?_
    obtain ⟨G, ρ, S, s, q⟩ := q
    have q' : At (ct X cad) W σ G H (((den T l ρ S).map RV.d).bind fun x ρ S => (denEs T ls ρ S).bind fun xs ρ S => .ok (x :: xs) ρ S) (Reps (ct X cad)) Q := by
      rw [map_eq_bind, bind_assoc]
      exact q
    refine Tr.seq2 (m := fun ρ S => (den T l ρ S).map RV.d) (f := fun x xs ρ S => .ok (x :: xs) ρ S) (R := Reps (ct X cad)) (Q := Q) ⟨G, ρ, S, s, q'⟩ rep_mono fun x xs H1 G1 ρ1 S1 da ds s1 r1 r2 h => ?_
    exact h _ G1 H1 (.refl _ _) s1 (.cons r1 r2)
theorem kws_all : ∀ {ks : List Keyword} {pos : Pos} {env : PySem.Env} {f : Expr → Option LE} {x : List Str × LEs}, compK f ks = some x → (backToKw pos (keywordEach ks env)).all (·.1.isSome) = true ∧ (backToKw pos (keywordEach ks env)).filterMap (·.1) = x.1 ∧ (backToKw pos (keywordEach ks env)).any (·.1.isNone) = false
  | [], pos, env, f, x, h => by cases h; exact ⟨rfl, rfl, rfl⟩
  | ⟨none, e, p⟩ :: r, pos, env, f, x, h => by cases h
  | ⟨some y, e, p⟩ :: r, pos, env, f, x, h => by
    unfold compK at h
    obtain ⟨l, q, h1, h2, rfl⟩ := o2_some h
    obtain ⟨a1, a2, a3⟩ := kws_all (pos := pos) (env := env) h2
    refine ⟨?_, ?_, ?_⟩
    · show (true && (backToKw pos (keywordEach r env)).all (·.1.isSome)) = true
      rw [a1]; rfl
    · show y :: (backToKw pos (keywordEach r env)).filterMap (·.1) = y :: q.1
      rw [a2]
    · show (false || (backToKw pos (keywordEach r env)).any (·.1.isNone)) = false
      rw [a3]; rfl
/-- a call by name, whatever is called -/
theorem callk_go {f : Str} {es : List Expr} {ls kls : LEs} {ks : List Str} {kws : List Keyword} {cf : Expr → Option LE} {a : Addr} {pins : List (Addr × Obj)} {s : Shared} {Q : VK} {k : List D → List D → Rho → Mem → Res RV} {G : Gh} {ρ : Rho} {S : Mem} (g : Good X cad T W n c) (hf : nameOk f = true) (hg : isGlob c f = true) (hp : ∀ e ∈ es, Plain e) (hnil : es = [] → ls = .nil) (h : AOk X cad T W es ls)
    (hk : KOk X cad T W kws kls) (hkw : compK cf kws = some (ks, kls)) (hm : X.mg f = some (.ref a)) (hkp : PySem.W.keepIn X.K (.ref a) = true) (I : L2.Inv X pins σ H s) (sat : Sat (ct X cad) G H σ ρ S) (q : At (ct X cad) W σ G H ((denEs T ls ρ S).bind fun ds ρ S => (denEs T kls ρ S).bind fun zs ρ S => k ds zs ρ S) (RepR (ct X cad)) Q)
    (hrun : ∀ {s2 : Shared} {us ws : List Value} {vs zs : List V} {ds es' : List D} {H2 : Hp} {G2 : Gh} {ρ2 : Rho} {S2 : Mem}, L2.Inv X pins σ H2 s2 → Vals vs us → Vals zs ws → Sat (ct X cad) G2 H2 σ ρ2 S2 → Reps (ct X cad) G2 H2 vs ds → Reps (ct X cad) G2 H2 zs es' → At (ct X cad) W σ G2 H2 (k ds es' ρ2 S2) (RepR (ct X cad)) Q → wpAny (model X.prog X.w) X.A (call (.ref a) us (ks.zip ws)) (EP X pins σ Q) X.xe s2) :
    wpAny (model X.prog X.w) X.A (eval (.Call (.Name f p) es kws pos) X.env) (EP X pins σ Q) X.xe s := by
  obtain ⟨h1, h2, h3⟩ := nameOk_1 hf
  obtain ⟨a1, a2, a3⟩ := kws_all (pos := pos) (env := X.env) hkw
  refine wpAny_Call_Name_kw (ld_glob I (glob_of g hg) hm ?_ h1)
  have fin : ∀ {s1 : Shared} {us : List Value} {vs : List V} {H1 : Hp} {G1 : Gh} {ρ1 : Rho} {S1 : Mem} {ds : List D}, L2.Inv X pins σ H1 s1 → Vals vs us → Sat (ct X cad) G1 H1 σ ρ1 S1 → Reps (ct X cad) G1 H1 vs ds →
      At (ct X cad) W σ G1 H1 ((denEs T kls ρ1 S1).bind fun zs ρ S => k ds zs ρ S) (RepR (ct X cad)) Q →
      wpAny (model X.prog X.w) X.A (evalAll ((backToKw pos (keywordEach kws X.env)).map (·.2))) (fun ws s2 => X.K.In s2.heap ∧ wpAny (model X.prog X.w) X.A (call (.ref a) us (((backToKw pos (keywordEach kws X.env)).filterMap (·.1)).zip ws)) (EP X pins σ Q) X.xe s2) X.xe s1 := by
    intro s1 us vs H1 G1 ρ1 S1 ds I1 r sat1 r1 q1
    refine thn (hk.run pos pins s1 σ H1 (fun zs H2 => ∃ G2 ρ2 S2 es', ExE G1 H1 G2 H2 ∧ Sat (ct X cad) G2 H2 σ ρ2 S2 ∧ Reps (ct X cad) G2 H2 zs es' ∧ At (ct X cad) W σ G2 H2 (k ds es' ρ2 S2) (RepR (ct X cad)) Q) I1
      ⟨G1, ρ1, S1, sat1, (At.bind q1).mono fun zs H2 ⟨G2, ρ2, S2, es', e2, s2, r2, q2⟩ => ⟨G2, ρ2, S2, es', e2, s2, r2, q2⟩⟩) fun ws s2 ⟨zs, H2, I2, rz, G2, ρ2, S2, es', e2, sat2, r2, q2⟩ => ⟨I2.kIn, ?_⟩
    rw [a2]
    exact hrun I2 r rz sat2 (Reps.mono e2.toExF _ _ r1) r2 q2
  cases es with
  | nil =>
    rw [hnil rfl] at q
    simp only [denEs, Res.bind_ok] at q
    exact PySem.W.callWith_KW0 (h₀ := X.base) I.ok.mod.kin hkp a1 (fin I .nil sat .nil q) (by show (false || (backToKw pos (keywordEach kws X.env)).any (·.1.isNone)) = false; rw [a3]; rfl)
  | cons e1 es =>
    have hA := h.run pos pins s σ H (fun vs H1 => ∃ G1 ρ1 S1 ds, Sat (ct X cad) G1 H1 σ ρ1 S1 ∧ Reps (ct X cad) G1 H1 vs ds ∧ At (ct X cad) W σ G1 H1 ((denEs T kls ρ1 S1).bind fun zs ρ S => k ds zs ρ S) (RepR (ct X cad)) Q) I
      ⟨G, ρ, S, sat, (At.bind q).mono fun vs H1 ⟨G1, ρ1, S1, ds, e1, s1, r1, q1⟩ => ⟨G1, ρ1, S1, ds, s1, r1, q1⟩⟩
    exact PySem.W.callWith_KW (h₀ := X.base) I.ok.mod.kin hkp a1 (thn hA fun us s1 ⟨vs, H1, I1, r, G1, ρ1, S1, ds, sat1, r1, q1⟩ => fin I1 r sat1 r1 q1) (by rw [plain_any hp, a3]; rfl) (hp e1 List.mem_cons_self es _)
theorem callk_E {f : Str} {fi : Nat} {es : List Expr} {ls kls : LEs} {ks : List Str} {kws : List Keyword} {cf : Expr → Option LE} (g : Good X cad T W n c) (hf : nameOk f = true) (hg : isGlob c f = true) (hfi : ixOf c.F f = some fi) (hp : ∀ e ∈ es, Plain e) (hnil : es = [] → ls = .nil) (h : AOk X cad T W es ls)
    (hk : KOk X cad T W kws kls) (hkw : compK cf kws = some (ks, kls)) : EOk X cad T W (.Call (.Name f p) es kws pos) (.callk fi es.length ls ks kls) := by
  refine ⟨fun pins s σ H Q I q => ?_⟩
  simp only [Tr, den] at q
  obtain ⟨G, ρ, S, sat, q⟩ := q
  cases e : T.fnk fi ks es.length with
  | none =>
    rw [e] at q
    dsimp only at q
    cases e2 : T.nk fi ks es.length with
    | none => rw [e2] at q; exact q.elim
    | some k =>
      obtain ⟨cn, fn, perm, dv, z⟩ := k
      rw [e2] at q
      dsimp only at q
      obtain ⟨A, fa, fd, ps, dvs, dls, m1, m2, m3, m4, m5, m6, m7, m8⟩ := g.tab.nk fi ks _ cn fn perm dv z e2 f (ixOf_get hfi)
      refine callk_go g hf hg hp hnil h hk hkw m1 m3.kp I sat q fun {s2 us ws vs zs ds es' H2 G2 ρ2 S2} I2 r rz sat2 r1 r2 q2 => ?_
      split at q2
      · rename_i hz
        cases ep : pick perm (ds ++ es' ++ dv) with
        | none => rw [ep] at q2; exact q2.elim
        | some xs =>
          rw [ep] at q2
          simp only [ofO_some, Res.bind_ok] at q2
          have rr : Reps (ct X cad) G2 H2 (vs ++ zs ++ dvs) (ds ++ es' ++ dv) := (r1.append r2).append (m7 _ _)
          obtain ⟨vz, hv1, hv2⟩ := pick_rel (reps_paired rr) ep
          obtain ⟨uz, hu1, hu2⟩ := pick_rel ((r.append rz).append m6) hv1
          have nb : fn (.loc S2.objs.length :: (xs ++ [])) ⟨S2.objs ++ [.ins cn []]⟩ ≠ .bad := fun e => by
            unfold newFn at q2
            rw [e] at q2
            exact q2
          have hxl := m8 _ _ nb
          rw [List.append_nil] at hxl
          have rvz := paired_reps hv2
          have hul : uz.length + 1 = ps.length := by rw [← hxl, List.length_cons, ← rvz.length, hu2.length]
          have hlw : ws.length = ks.length := by rw [← rz.length, r2.length]; exact hz.2
          have hlu : us.length = es.length := by rw [← r.length, r1.length]; exact hz.1
          exact run_NK g m2 m3 m4 (fun s x hin => m5 s x us ws uz hin hlu hlw hu1 hul) m8 I2 hu2 sat2 rvz q2
      · exact q2.elim
  | some mp =>
    obtain ⟨m, perm⟩ := mp
    rw [e] at q
    obtain ⟨a, fd, ps, hm, hkp, F, hb, hbad⟩ := g.tab.fnk fi ks _ m perm e f (ixOf_get hfi)
    refine callk_go g hf hg hp hnil h hk hkw hm hkp I sat q fun {s2 us ws vs zs ds es' H2 G2 ρ2 S2} I2 r rz sat2 r1 r2 q2 => ?_
    split at q2
    · rename_i hz
      cases ep : pick perm (ds ++ es') with
      | none => rw [ep] at q2; exact q2.elim
      | some xs =>
        rw [ep] at q2
        simp only [ofO_some, Res.bind_ok] at q2
        have rr : Reps (ct X cad) G2 H2 (vs ++ zs) (ds ++ es') := r1.append r2
        obtain ⟨vz, hv1, hv2⟩ := pick_rel (reps_paired rr) ep
        obtain ⟨uz, hu1, hu2⟩ := pick_rel (r.append rz) hv1
        have hxl := hbad _ _ (bad_or (α := RV) q2)
        have rvz := paired_reps hv2
        have hvl : vz.length = ps.length := by rw [← hxl]; exact rvz.length
        have hul : uz.length = ps.length := by rw [← hvl]; exact hu2.length.symm
        have hlw : ws.length = ks.length := by rw [← rz.length, r2.length]; exact hz.2
        have hlu : us.length = es.length := by rw [← r.length, r1.length]; exact hz.1
        refine wpAny_call (codeAny_mono (F.run X.A X.stack s2 H2 ⟨us, ks.zip ws⟩ uz vz Q (fun c d H' => W c d σ H') g.room I2.env0 (hb s2 us ws uz I2.kIn hlu hlw hu1 hul) hu2 (call_sp hvl sat2 rvz q2)) fun r s' hq => ?_)
        cases r with
        | error e => exact passW g σ pins H2 s2 e s' I2 hq
        | ok fl =>
          cases fl with
          | ret u => exact I2.after hq
          | next => exact False.elim hq
          | brk => exact False.elim hq
          | cont => exact False.elim hq
    · exact q2.elim
end
end Sh


/-! ShDun: special methods, properties, types of values. -/
namespace Sh
open PySem PySem.Spec PyProof.Rows L2
section
variable {X : Cx} {cad : Str → Option Addr} {T : Tab} {W : WX} {σ σ' : L2.St} {H : Hp} {n : Nat} {c : CC}
abbrev E0 : XK := fun _ _ _ => False
theorem noX_At {C : Ct} {G : Gh} {r : Res RV} {Q : VK} (h : At C W σ G H (noX r) (RepR C) Q) : At C (fun _ _ _ _ => False) σ G H r (RepR C) Q := by
  cases r with
  | ok a ρ S => exact h
  | exc x ρ S => exact h.elim
  | bad => exact h
/-- a def runs at A; no exception leaves it -/
theorem run_D {A : Around} {j : Nat} {f : Addr} {fd : FuncData} {ps : List Str} {fn : Fn} {pins : List (Addr × Obj)} {s : Shared} {E : Value → Shared → Prop} {us : List Value} {vs : List V} {ds : List D} {G : Gh} {ρ : Rho} {S : Mem} {Q : VK} (F : FnAt X.prog X.w X.K X.mg X.base cad j f fd ps fn) (hr : Room j A) (e0 : Env0 X.prog X.w X.K X.mg X.base A X.stack s H)
    (I : L2.Inv X pins σ H s) (r : Vals vs us) (sat : Sat (ct X cad) G H σ' ρ S) (rr : Reps (ct X cad) G H vs ds) (h : At (ct X cad) W σ' G H (noX ((fn ds S).res ρ)) (RepR (ct X cad)) Q) : wpAny (model X.prog X.w) A (call (.ref f) us) (EP X pins σ Q) E s := by
  obtain ⟨F, hb, hbad⟩ := F
  have h0 := noX_At h
  have hl : vs.length = ps.length := by rw [← hbad _ _ (bad_or (α := RV) h0)]; exact rr.length
  have hu : us.length = ps.length := by rw [← hl]; exact r.length.symm
  have sp := call_sp hl sat rr h0
  refine wpAny_call (codeAny_mono (F.run A X.stack s H ⟨us, []⟩ us vs Q E0 hr e0 (by
    have := hb s us I.kIn (by simpa using hu)
    simpa using this) r sp) fun r s' hq => ?_)
  cases r with
  | error e =>
    obtain ⟨_, _, _, _, _, _, _, _, _, _, _, _, z⟩ := hq
    exact z.elim
  | ok fl =>
    cases fl with
    | ret u => exact I.after hq
    | next => exact False.elim hq
    | brk => exact False.elim hq
    | cont => exact False.elim hq
/-- the class of an object, and where it stands -/
theorem cls_at {G : Gh} {ρ : Rho} {S : Mem} {v : V} {d : D} {cc : Str} (s : Sat (ct X cad) G H σ ρ S) (r : Rep (ct X cad) G H v d) (h : clsOf S d = some cc) : ∃ A b dx fs, cad cc = some A ∧ v = .ref b ∧ H b = some (.ins A dx fs) := by
  cases d with
  | obj c2 fs =>
    cases r with
    | obj h1 h2 h3 h4 =>
      cases h
      exact ⟨_, _, _, _, h3, rfl, h2⟩
  | loc n2 =>
    cases r with
    | loc h1 =>
      unfold clsOf at h
      dsimp only at h
      split at h
      · rename_i c2 fs ho
        cases h
        obtain ⟨a2, q1, q2⟩ := s.ob n2 _ ho
        rw [h1] at q1
        cases q1
        obtain ⟨q3, A, dx, vs, q4, q5, q6⟩ := q2
        exact ⟨_, _, _, _, q4, rfl, q5⟩
      · cases h
  | _ => cases h
theorem sm_at {S : Mem} {d : D} {m : Str} {fn : Fn} (h : smOf T S d m = some fn) : ∃ cc, clsOf S d = some cc ∧ T.sm cc m = some fn := by
  unfold smOf at h
  split at h
  · rename_i cc e
    exact ⟨cc, e, h⟩
  · cases h
theorem pr_at {S : Mem} {d : D} {m : Str} {fn : Fn} (h : prOf T S d m = some fn) : ∃ cc, clsOf S d = some cc ∧ T.pr cc m = some fn := by
  unfold prOf at h
  split at h
  · rename_i cc e
    exact ⟨cc, e, h⟩
  · cases h
theorem b_rep {C : Ct} {G : Gh} {S : Mem} {v : V} {d : D} {cc : Str} (h : clsOf S d = some cc) (r : RepB C G H v d) : Rep C G H v d := r.rep fun ds e => by rw [e] at h; cases h
/-! ### len, repr of objects -/
def StM (T : Tab) (C : Ct) (W : WX) (b : Blt) (xs : List V) (H : Hp) (Q : VK) : Prop :=
  ∃ σ G ρ S v x fn, xs = [v] ∧ Sat C G H σ ρ S ∧ Rep C G H v x ∧ bclM T S b [x] = some fn ∧ At C W σ G H ((noX ((fn [x] S).res ρ)).bind fun r ρ S => ofO (bclR b r) ρ S) (RepR C) Q
theorem bclM_at {S : Mem} {ds : List D} {b : Blt} {fn : Fn} (h : bclM T S b ds = some fn) : ∃ x m, ds = [x] ∧ smOf T S x m = some fn ∧ ((b = .len ∧ m = ("__len__" : Str)) ∨ (b = .repr ∧ m = ("__repr__" : Str))) := by
  unfold bclM at h
  split at h
  · exact ⟨_, _, rfl, h, .inl ⟨rfl, rfl⟩⟩
  · exact ⟨_, _, rfl, h, .inr ⟨rfl, rfl⟩⟩
  · cases h
/-- what a special method gives, checked -/
theorem bclR_At {C : Ct} {G : Gh} {ρ : Rho} {S : Mem} {b : Blt} {r : Res RV} {Q : VK} (h : At C W σ G H ((noX r).bind fun r ρ S => ofO (bclR b r) ρ S) (RepR C) Q) :
    At C W σ G H (noX r) (RepR C) fun v H' => (b = .len ∧ ∃ n : Int, v = .int n ∧ (0 ≤ n ∧ n < 2 ^ 63) ∧ Q v H') ∨ (b = .repr ∧ ∃ x : Str, v = .str x ∧ Q v H') := by
  refine (At.bind h).mono fun v H1 ⟨G1, ρ1, S1, a, e1, s1, r1, q⟩ => ?_
  cases a with
  | own ds => cases b <;> exact q.elim
  | fz d =>
    cases b <;> cases d <;> first | (exact q.elim) | skip
    · rename_i k
      have q : At C W σ G1 H1 (ofO (if k = k.toNat ∧ k.toNat ≤ LINE then some (RV.fz (.int k)) else none) ρ1 S1) (RepR C) Q := q
      split at q
      · rename_i hz
        cases r1
        have h1 := hz.1
        have h2 : k.toNat ≤ 16777216 := hz.2
        exact .inl ⟨rfl, k, rfl, by omega, q _ G1 H1 (.refl _ _) s1 (.int _)⟩
      · exact q.elim
    · rename_i y
      cases r1
      exact .inr ⟨rfl, y, rfl, q _ G1 H1 (.refl _ _) s1 (.str _)⟩
theorem op_lenM (g : Good X cad T W n c) : CallR X (.builtin "len") (StM T (ct X cad) W .len) := by
  intro pins s σ H xs us Q I rx h
  obtain ⟨σ', G, ρ, S, v, x, fn, rfl, sat, r, e, h⟩ := h
  obtain ⟨x', m, ex, e1, e2⟩ := bclM_at e
  cases ex
  rcases e2 with ⟨_, rfl⟩ | ⟨z, _⟩
  · obtain ⟨cc, e3, e4⟩ := sm_at e1
    obtain ⟨A, b, dx, fs, e5, rfl, e6⟩ := cls_at sat r e3
    obtain ⟨ci, _, f, fd, ps, j, hm, hj, F⟩ := g.tab.sm cc _ fn e4 A e5
    obtain ⟨u, rfl, ru⟩ := vals1 rx
    obtain rfl : u = Value.ref b := ru
    obtain ⟨mA, O, _⟩ := ins_get I.hok e6
    obtain ⟨od, J, _⟩ := O.look
    obtain ⟨m2, hF⟩ := I.fr
    refine PySem.W.len_K hF I.ok.mod.kin J hm.at_ hm.fn ?_
    have hr : Room (j + 1) X.A := g.room.mono hj
    refine wpAny_mono (run_D (us := [.ref b]) (vs := [.ref b]) F hr.in1 I.env0.in1 I (.cons rfl .nil) sat (.cons r .nil) (bclR_At (ρ := ρ) (S := S) h)) (fun w s' z => ?_) fun _ _ e => e
    obtain ⟨z', H', I', rz, qz⟩ := z
    rcases qz with ⟨_, k, rfl, hk, q⟩ | ⟨z, _⟩
    · obtain ⟨t, rfl⟩ := (show ∃ t, w = Value.int k t from rz)
      exact ⟨hk, .int k, H', I'.tok _, ⟨_, rfl⟩, q⟩
    · cases z
  · cases z
theorem op_reprM (g : Good X cad T W n c) : CallR X (.builtin "repr") (StM T (ct X cad) W .repr) := by
  intro pins s σ H xs us Q I rx h
  obtain ⟨σ', G, ρ, S, v, x, fn, rfl, sat, r, e, h⟩ := h
  obtain ⟨x', m, ex, e1, e2⟩ := bclM_at e
  cases ex
  rcases e2 with ⟨z, _⟩ | ⟨_, rfl⟩
  · cases z
  · obtain ⟨cc, e3, e4⟩ := sm_at e1
    obtain ⟨A, b, dx, fs, e5, rfl, e6⟩ := cls_at sat r e3
    obtain ⟨ci, _, f, fd, ps, j, hm, hj, F⟩ := g.tab.sm cc _ fn e4 A e5
    obtain ⟨u, rfl, ru⟩ := vals1 rx
    obtain rfl : u = Value.ref b := ru
    obtain ⟨mA, O, _⟩ := ins_get I.hok e6
    obtain ⟨od, J, _⟩ := O.look
    obtain ⟨m2, hF⟩ := I.fr
    have hr : Room (j + 1) X.A := g.room.mono hj
    refine PySem.W.repr_K hr.in1.units0 hF I.ok.mod.kin J hm.at_ hm.fn ?_
    refine wpAny_mono (run_D (us := [.ref b]) (vs := [.ref b]) F hr.in1 I.env0.in1 I (.cons rfl .nil) sat (.cons r .nil) (bclR_At (ρ := ρ) (S := S) h)) (fun w s' z => ?_) fun _ _ e => e
    obtain ⟨z', H', I', rz, qz⟩ := z
    rcases qz with ⟨z, _⟩ | ⟨_, k, rfl, q⟩
    · cases z
    · obtain ⟨t, rfl⟩ := (show ∃ t, w = Value.str k t from rz)
      exact ⟨.str k, H', I', ⟨_, rfl⟩, q⟩
/-! ### types of values -/
def tyvOf (cad : Str → Option Addr) (S : Mem) (d : D) : Option Value := match clsOf S d with
  | some c => (cad c).map .ref
  | none => (tyn' d).map .type
where
  tyn' : D → Option String
    | .non => some "NoneType" | .bl _ => some "bool" | .int _ => some "int" | .str _ => some "str" | .lst _ => some "list" | .tup _ => some "tuple" | _ => none
/-- what stands for data has its type -/
theorem tyX_all {G : Gh} {ρ : Rho} {S : Mem} {v : V} {d : D} (g : Good X cad T W n c) (s : Sat (ct X cad) G H σ ρ S) (r : RepB (ct X cad) G H v d) (hoc : ∀ cc, clsOf S d = some cc → T.oc cc = true) (hno : (∃ cc, clsOf S d = some cc) ∨ ∃ t, tyn d = some t) :
    (∃ cc A, clsOf S d = some cc ∧ T.oc cc = true ∧ cad cc = some A ∧ TyX X.K H v (.ref A)) ∨ ∃ t, tyn d = some t ∧ clsOf S d = none ∧ TyX X.K H v (.type t) := by
  rcases hno with ⟨cc, e⟩ | ⟨t, e⟩
  · obtain ⟨A, b, dx, fs, e5, rfl, e6⟩ := cls_at s (b_rep e r) e
    have ci := g.tab.ci cc A (hoc cc e) e5
    exact .inl ⟨cc, A, e, hoc cc e, e5, .base (.ins e6 ci.cl ci.ha ci.hn ci.ht ci.hm)⟩
  · refine .inr ⟨t, e, ?_, tyX_of r e⟩
    cases d <;> first | rfl | cases e
theorem tyn_in {d : D} {t : String} (e : tyn d = some t) : t ∈ ["NoneType", "bool", "int", "str", "list", "tuple"] := by
  cases d <;> simp only [tyn, Option.some.injEq, reduceCtorEq] at e <;> subst e <;> simp
/-! ### == and != by an own == -/
def StE (T : Tab) (C : Ct) (W : WX) (op : CmpOp) (x y : V) (H : Hp) (Q : VK) : Prop :=
  ∃ σ G ρ S d e, Sat C G H σ ρ S ∧ RepB C G H x d ∧ Rep C G H y e ∧ At C W σ G H ((cmpM T op d e ρ S).map fun k => RV.fz (.bl k)) (RepR C) Q
theorem first_cl {S : Mem} {d e : D} {cc : Str} (h : firstOk T S d e = true) (hc : clsOf S d = some cc) : (∃ c', clsOf S e = some c' ∧ T.oc c' = true ∧ (c' = cc ∨ T.sub c' cc = some false)) ∨ (clsOf S e = none ∧ ∃ t, tyn e = some t) := by
  unfold firstOk at h
  rw [hc] at h
  dsimp only at h
  cases e with
  | obj c' fs =>
    simp only [Bool.and_eq_true, Bool.or_eq_true, beq_iff_eq] at h
    exact .inl ⟨c', rfl, h.1, h.2⟩
  | loc m =>
    dsimp only at h
    split at h
    · rename_i c' fs ho
      simp only [Bool.and_eq_true, Bool.or_eq_true, beq_iff_eq] at h
      exact .inl ⟨c', by show (match S.objs[m]? with | some (.ins c _) => some c | _ => none) = _; rw [ho], h.1, h.2⟩
    · cases h
  | ty _ => cases h
  | cls _ => cases h
  | _ => exact .inr ⟨rfl, _, rfl⟩
theorem op_cmpE (g : Good X cad T W n c) {op : CmpOp} : OpR X (compareOp op) (fun x y H Q => StE T (ct X cad) W op x y H Q) := by
  intro pins s σ H x y v u Q I rx ry h
  obtain ⟨σ', G, ρ, S, d, e, sat, hx, hy, h⟩ := h
  unfold cmpM at h
  cases q : eqM T S op d with
  | none => rw [q] at h; exact h.elim
  | some p =>
    obtain ⟨fn, ng⟩ := p
    rw [q] at h
    dsimp only at h
    split at h
    · rename_i hf
      have hop : smOf T S d ("__eq__" : Str) = some fn ∧ ((op = .Eq ∧ ng = false) ∨ (op = .NotEq ∧ ng = true)) := by
        unfold eqM at q
        split at q
        · cases z : smOf T S d ("__eq__" : Str) with
          | none => rw [z] at q; cases q
          | some k => rw [z] at q; cases q; exact ⟨rfl, .inl ⟨rfl, rfl⟩⟩
        · cases z : smOf T S d ("__eq__" : Str) with
          | none => rw [z] at q; cases q
          | some k => rw [z] at q; cases q; exact ⟨rfl, .inr ⟨rfl, rfl⟩⟩
        · cases q
      obtain ⟨hs, hop⟩ := hop
      obtain ⟨cc, e3, e4⟩ := sm_at hs
      have hx' := b_rep e3 hx
      obtain ⟨A, b, dx, fs, e5, rfl, e6⟩ := cls_at sat hx' e3
      obtain ⟨ci, hne, f, fd, ps, j, hm, hj, F⟩ := g.tab.sm cc _ fn e4 A e5
      obtain rfl : v = Value.ref b := rx
      obtain ⟨mA, O, _⟩ := ins_get I.hok e6
      obtain ⟨od, J, _⟩ := O.look
      obtain ⟨m2, hF⟩ := I.fr
      have hr : Room (j + 1) X.A := g.room.mono hj
      -- the type of y
      have ty : ∃ tb, TyX X.K H y tb ∧ PySem.W.notFirst X.K A tb = true := by
        rcases first_cl hf e3 with ⟨c', h1, h2, h3⟩ | ⟨h1, t, h2⟩
        · rcases tyX_all g sat (.inl hy) (fun z hz => by rw [h1] at hz; cases hz; exact h2) (.inl ⟨c', h1⟩) with ⟨c2, A2, k1, k2, k3, k4⟩ | ⟨t, k1, k2, k3⟩
          · rw [h1] at k1
            cases k1
            refine ⟨_, k4, ?_⟩
            rcases h3 with rfl | h3
            · rw [e5] at k3
              cases k3
              simp [PySem.W.notFirst]
            · exact (g.tab.sub _ _ _ h3 _ _ k3 e5).2 rfl
          · rw [h1] at k2
            cases k2
        · exact ⟨_, tyX_of (.inl hy) h2, (ci.kt t (tyn_in h2)).2⟩
      obtain ⟨tb, ty, nf⟩ := ty
      obtain ⟨P, Z, p, _⟩ := kit_of I ry ty
      have hb := Z.ty (model X.prog X.w) _ I.kIn p
      have run : ∀ {A' : Around} {E : Value → Shared → Prop}, Room j A' → Env0 X.prog X.w X.K X.mg X.base A' X.stack s H → wpAny (model X.prog X.w) A' (call (.ref f) [.ref b, u]) (EP X pins σ fun z H' => ∃ k, z = .bl k ∧ Q (.bl (k != ng)) H') E s := fun {A' E} hr' e0 => by
        refine run_D (W := W) (us := [.ref b, u]) (vs := [.ref b, y]) F hr' e0 I (.cons rfl (.cons ry .nil)) sat (.cons hx' (.cons hy .nil)) ?_
        rw [map_eq_bind, bind_assoc] at h
        refine (At.bind h).mono fun z H1 ⟨G1, ρ1, S1, a, e1, s1, r1, q1⟩ => ?_
        rw [← map_eq_bind] at q1
        cases a with
        | own ds => exact q1.elim
        | fz dd =>
          cases dd with
          | bl k =>
            cases r1
            exact ⟨k, rfl, q1 _ G1 H1 (.refl _ _) s1 (.bl _)⟩
          | _ => exact q1.elim
      rcases hop with ⟨rfl, rfl⟩ | ⟨rfl, rfl⟩
      · show wpAny _ _ (richCompare .Eq _ _) _ _ _
        refine PySem.W.cmp_K (op := .Eq) (tb := tb) g.room.units0 hF I.ok.mod.kin J hb nf hm.at_ hm.fn ?_
        refine wpAny_mono (run (hr.mono (Nat.le_succ _)) I.env0) (fun w s' z => ?_) fun _ _ e => e
        obtain ⟨z', H', I', rz, k, rfl, qz⟩ := z
        cases (show w = Value.bool k from rz)
        exact ⟨.bl k, H', I', rfl, by simpa using qz⟩
      · show wpAny _ _ (richCompare .NotEq _ _) _ _ _
        refine ne_K (by have := hr.in1.units0; exact this) hF I.ok.mod.kin J hb nf (hne rfl) hm.at_ hm.fn ci.hm ?_
        refine wpAny_mono (run hr.in1 I.env0.in1) (fun w s' z => ?_) fun _ _ e => e
        obtain ⟨z', H', I', rz, k, rfl, qz⟩ := z
        exact ⟨k, rz, .bl (!k), H', I', rfl, by simpa using qz⟩
    · exact h.elim
end
end Sh


/-! ShCall2: built-ins, isinstance, join. -/
namespace Sh
open PySem PySem.Spec PyProof.Rows L2
section
variable {X : Cx} {cad : Str → Option Addr} {T : Tab} {W : WX} {σ : L2.St} {H : Hp} {n : Nat} {c : CC} {a b d e : Expr} {la lb ld l : LE} {pos p : Pos}
theorem bcl_st {f : List D → Option RV} {xs : List V} {G : Gh} {ρ : Rho} {S : Mem} {ds : List D} {Q : VK} (s : Sat (ct X cad) G H σ ρ S) (r : RepBs (ct X cad) G H xs ds) (h : At (ct X cad) W σ G H (ofO (f ds) ρ S) (RepR (ct X cad)) Q) : StB (ct X cad) W xs H f Q := ⟨σ, G, ρ, S, ds, s, r, h⟩
theorem op_noM {f : Value} {b : Blt} (h1 : b ≠ .len) (h2 : b ≠ .repr) : CallR X f (StM T (ct X cad) W b) := by
  intro pins s σ H xs us Q I rx h
  obtain ⟨σ', G, ρ, S, v, x, fn, rfl, sat, r, e, h⟩ := h
  obtain ⟨x', m, ex, e1, e2⟩ := bclM_at e
  rcases e2 with ⟨z, _⟩ | ⟨z, _⟩
  · exact (h1 z).elim
  · exact (h2 z).elim
theorem op_reprB : CallR X (.builtin "repr") (fun xs H Q => StB (ct X cad) W xs H (opBcl .repr) Q) := by
  intro pins s σ H xs us Q I rx h
  obtain ⟨σ', G, ρ, S, ds, sat, hx, h⟩ := h
  unfold opBcl at h
  split at h <;> first | contradiction | exact h.elim
theorem bcl_E {x : Str} {bt : Blt} {e1 : Expr} {es : List Expr} {ls : LEs} (g : Good X cad T W n c) (hx : bltOf x = some bt) (hn : nameOk x = true) (hg : isGlob c x = true) (hp : ∀ e ∈ e1 :: es, Plain e) (h : ABk X cad T W (e1 :: es) ls) : EOk X cad T W (.Call (.Name x p) (e1 :: es) [] pos) (.bcl bt ls) := by
  obtain ⟨h1, h2, h3⟩ := nameOk_1 hn
  have hs := hp e1 List.mem_cons_self es X.env
  have ha := plain_any (es := es) (env := X.env) (pos := pos) fun y hy => hp y (List.mem_cons_of_mem _ hy)
  have fin : ∀ σ H Q, Tr (ct X cad) W (den T (.bcl bt ls)) (RepR (ct X cad)) σ H Q → tCB (fun xs H Q => StB (ct X cad) W xs H (opBcl bt) Q ∨ StM T (ct X cad) W bt xs H Q) (Tr (ct X cad) W (denBs T ls) (RepBs (ct X cad))) σ H Q := fun σ H Q q => by
    simp only [Tr, den] at q
    refine Tr.seq q fun xs H1 G1 ρ1 S1 ds s r h => ?_
    cases e : bclM T S1 bt ds with
    | none =>
      rw [e] at h
      exact .inl (bcl_st s r h)
    | some fn =>
      rw [e] at h
      obtain ⟨x, m, rfl, e1, e2⟩ := bclM_at e
      obtain ⟨v, rfl, hv⟩ := one_of r
      obtain ⟨cc, e3, e4⟩ := sm_at e1
      exact .inr ⟨σ, G1, ρ1, S1, v, x, fn, rfl, s, b_rep e3 hv, e, h⟩
  unfold bltOf at hx
  split at hx
  · rename_i e; subst e; cases hx
    exact PE.weak (pe_callB ((op_len (W := W) (cad := cad)).or (op_lenM g)) (glob_of g hg) (g.tab.bl _ (by decide +kernel)) (by decide +kernel) h h3 h1 hs ha) fin
  split at hx
  · rename_i e; subst e; cases hx
    exact PE.weak (pe_callTy ((op_int (W := W) (cad := cad)).or (op_noM (by simp) (by simp))) (glob_of g hg) (g.tab.bl _ (by decide +kernel)) (by decide +kernel) h h3 h1 hs ha) fin
  split at hx
  · rename_i e; subst e; cases hx
    exact PE.weak (pe_callB ((op_all (W := W) (cad := cad) g.calm).or (op_noM (by simp) (by simp))) (glob_of g hg) (g.tab.bl _ (by decide +kernel)) (by decide +kernel) h h3 h1 hs ha) fin
  split at hx
  · rename_i e; subst e; cases hx
    exact PE.weak (pe_callTy ((op_list (W := W) (cad := cad)).or (op_noM (by simp) (by simp))) (glob_of g hg) (g.tab.bl _ (by decide +kernel)) (by decide +kernel) h h3 h1 hs ha) fin
  split at hx
  · rename_i e; subst e; cases hx
    exact PE.weak (pe_callTy ((op_tuple (W := W) (cad := cad)).or (op_noM (by simp) (by simp))) (glob_of g hg) (g.tab.bl _ (by decide +kernel)) (by decide +kernel) h h3 h1 hs ha) fin
  split at hx
  · rename_i e; subst e; cases hx
    exact PE.weak (pe_callTy ((op_str (W := W) (cad := cad)).or (op_noM (by simp) (by simp))) (glob_of g hg) (g.tab.bl _ (by decide +kernel)) (by decide +kernel) h h3 h1 hs ha) fin
  split at hx
  · rename_i e; subst e; cases hx
    exact PE.weak (pe_callB ((op_reprB (W := W) (cad := cad)).or (op_reprM g)) (glob_of g hg) (g.tab.bl _ (by decide +kernel)) (by decide +kernel) h h3 h1 hs ha) fin
  split at hx
  · rename_i e; subst e; cases hx
    exact PE.weak (pe_callB ((op_min (W := W) (cad := cad) g.calm).or (op_noM (by simp) (by simp))) (glob_of g hg) (g.tab.bl _ (by decide +kernel)) (by decide +kernel) h h3 h1 hs ha) fin
  cases hx
/-! ### isinstance -/
theorem tyOf_in {x : Str} {t : String} (h : tyOf x = some t) : x = (t : Str) ∧ t ∈ tyAll ∧ bootBuiltins x = some (.type t) ∧ x ∈ bltNames ∧ nameOk x = true := by
  unfold tyOf at h
  split at h
  · rename_i e; subst e; cases h; exact ⟨rfl, by decide, by decide +kernel, by decide +kernel, by decide +kernel⟩
  split at h
  · rename_i e; subst e; cases h; exact ⟨rfl, by decide, by decide +kernel, by decide +kernel, by decide +kernel⟩
  split at h
  · rename_i e; subst e; cases h; exact ⟨rfl, by decide, by decide +kernel, by decide +kernel, by decide +kernel⟩
  split at h
  · rename_i e; subst e; cases h; exact ⟨rfl, by decide, by decide +kernel, by decide +kernel, by decide +kernel⟩
  split at h
  · rename_i e; subst e; cases h; exact ⟨rfl, by decide, by decide +kernel, by decide +kernel, by decide +kernel⟩
  cases h
theorem ty_P {x : Str} {t : String} (g : Good X cad T W n c) (hg : isGlob c x = true) (h : tyOf x = some t) : PE X (.Name x p) (tC (.ty t)) := by
  obtain ⟨h1, h2, h3, h4, h5⟩ := tyOf_in h
  exact pe_bltn (glob_of g hg) (g.tab.bl _ h4) h3 rfl (nameOk_1 h5).2.2 (nameOk_1 h5).1
theorem name_plain {x : Str} : Plain (.Name x p) := fun _ _ => rfl
theorem isi1_E {x : Str} {t : String} {p1 p2 : Pos} (g : Good X cad T W n c) (hgi : isGlob c ("isinstance" : Str) = true) (hp : Plain a) (hg : isGlob c x = true) (ht : tyOf x = some t) (h : BOk X cad T W a la) : EOk X cad T W (.Call (.Name ("isinstance" : Str) p1) [a, .Name x p2] [] pos) (.isi la [t]) := by
  refine PE.weak (pe_callB call_isi (glob_of g hgi) (g.tab.bl _ (by decide +kernel)) (by decide +kernel) (pa_cons h (pa_cons (ty_P g hg ht) pa_nil) (hp _ _)) (by decide +kernel) (by decide +kernel) (hp _ _) rfl) fun σ H Q q => ?_
  simp only [Tr, den] at q
  refine Tr.seq q fun v H1 G1 ρ1 S1 d s r h => ?_
  show rIsi X.K [v, .ty t] H1 Q
  cases e : isTys d [t] with
  | none => rw [e] at h; exact h.elim
  | some k =>
    rw [e] at h
    unfold isTys at e
    cases e1 : isTy d t with
    | none => rw [e1] at e; cases e
    | some k1 =>
      rw [e1] at e
      simp only [isTys, Bool.or_false, Option.some.injEq] at e
      subst e
      obtain ⟨tn, htn⟩ := isTy_tyn e1
      exact ⟨v, _, _, _, k1, rfl, .ty t, tyX_of r htn, isTy_kit htn (tyOf_in ht).2.1 e1, h _ G1 H1 (.refl _ _) s (.bl _)⟩
/-- a class by its name -/
theorem cls_P {x : Str} {k : Nat} (g : Good X cad T W n c) (hn : nameOk x = true) (hg : isGlob c x = true) (hk : ixOf c.F x = some k) : PE X (.Name x p) (fun σ H Q => ∃ A cc, T.gl k = some (.cls cc) ∧ cad cc = some A ∧ Q (.ref A) H) := by
  refine ⟨fun pins s σ H Q I q => ?_⟩
  obtain ⟨A, cc, e, ec, q⟩ := q
  obtain ⟨u, v, hm, r, rp⟩ := g.tab.gl k _ e x (ixOf_get hk)
  have rp := rp ⟨fun _ => .free, []⟩ H
  cases rp with
  | cls h1 =>
    have h1 : cad cc = _ := h1
    rw [show cad cc = some A from ec] at h1
    cases h1
    exact (pe_glob (glob_of g hg) hm r (nameOk_1 hn).1).run pins s σ H Q I q
/-- isinstance(x, C), C an own class -/
theorem isc_E {x : Str} {k : Nat} {p1 p2 : Pos} (g : Good X cad T W n c) (hgi : isGlob c ("isinstance" : Str) = true) (hp : Plain a) (hn : nameOk x = true) (hg : isGlob c x = true) (hk : ixOf c.F x = some k) (h : BOk X cad T W a la) : EOk X cad T W (.Call (.Name ("isinstance" : Str) p1) [a, .Name x p2] [] pos) (.isc la k) := by
  refine PE.weak (pe_callB call_isi (glob_of g hgi) (g.tab.bl _ (by decide +kernel)) (by decide +kernel) (pa_cons h (pa_cons (cls_P g hn hg hk) pa_nil) (hp _ _)) (by decide +kernel) (by decide +kernel) (hp _ _) rfl) fun σ H Q q => ?_
  simp only [Tr, den] at q
  refine Tr.seq q fun v H1 G1 ρ1 S1 d s r h => ?_
  cases e : T.gl k with
  | none => rw [e] at h; exact h.elim
  | some dd =>
    rw [e] at h
    cases dd <;> first | (exact h.elim) | skip
    rename_i cc
    dsimp only at h
    obtain ⟨u, v2, hm, r2, rp⟩ := g.tab.gl k _ e x (ixOf_get hk)
    have rp := rp G1 H1
    cases rp with
    | cls ec =>
      rename_i A
      refine ⟨A, cc, rfl, ec, ?_⟩
      cases e1 : iscOf T S1 d cc with
      | none => rw [e1] at h; exact h.elim
      | some b =>
        rw [e1] at h
        have q1 : Q (.bl b) H1 := h _ G1 H1 (.refl _ _) s (.bl _)
        unfold iscOf at e1
        split at e1
        · cases e1
        rename_i hoc
        have hoc : T.oc cc = true := by simpa using hoc
        have own : ∀ c', clsOf S1 d = some c' → T.oc c' = true → (c' = cc ∧ b = true) ∨ T.sub c' cc = some b → rIsi X.K [v, .ref A] H1 Q := fun c' k1 k2 k3 => by
          rcases tyX_all g s r (fun z hz => by rw [k1] at hz; cases hz; exact k2) (.inl ⟨c', k1⟩) with ⟨c2, A2, j1, j2, j3, j4⟩ | ⟨t, j1, j2, j3⟩
          · rw [k1] at j1
            cases j1
            refine ⟨v, _, _, _, b, rfl, .own A, j4, ?_, q1⟩
            rcases k3 with ⟨rfl, rfl⟩ | k3
            · rw [show cad c' = some A from ec] at j3
              cases j3
              unfold PySem.W.kitOne
              simp
            · exact (g.tab.sub _ _ _ k3 _ _ j3 ec).1
          · rw [k1] at j2
            cases j2
        have oth : ∀ t, tyn d = some t → b = false → rIsi X.K [v, .ref A] H1 Q := fun t k1 k2 => by
          subst k2
          exact ⟨v, _, _, _, false, rfl, .own A, tyX_of r k1, ((g.tab.ci cc A hoc ec).kt t (tyn_in k1)).1, q1⟩
        cases d with
        | obj c' fs =>
          dsimp only at e1
          split at e1
          · cases e1
          rename_i h2
          have h2 : T.oc c' = true := by simpa using h2
          split at e1
          · rename_i h3
            cases e1
            exact own c' rfl h2 (.inl ⟨h3, rfl⟩)
          · exact own c' rfl h2 (.inr e1)
        | loc m =>
          dsimp only at e1
          split at e1
          · rename_i c' fs ho
            have hcl : clsOf S1 (.loc m) = some c' := by
              show (match S1.objs[m]? with | some (.ins c _) => some c | _ => none) = _
              rw [ho]
            split at e1
            · cases e1
            rename_i h2
            have h2 : T.oc c' = true := by simpa using h2
            split at e1
            · rename_i h3
              cases e1
              exact own c' hcl h2 (.inl ⟨h3, rfl⟩)
            · exact own c' hcl h2 (.inr e1)
          · cases e1
        | ty _ => cases e1
        | cls _ => cases e1
        | _ => exact oth _ rfl (by cases e1; rfl)
theorem isi2_E {x y : Str} {t u : String} {p1 p2 p3 p4 : Pos} {kk : Nat} (g : Good X cad T W n c) (hgi : isGlob c ("isinstance" : Str) = true) (hp : Plain a) (hg : isGlob c x = true) (ht : tyOf x = some t) (hg2 : isGlob c y = true) (ht2 : tyOf y = some u) (h : BOk X cad T W a la) :
    EOk X cad T W (.Call (.Name ("isinstance" : Str) p1) [a, .Tuple [.Name x p2, .Name y p3] kk p4] [] pos) (.isi la [t, u]) := by
  refine PE.weak (pe_callB call_isiT (glob_of g hgi) (g.tab.bl _ (by decide +kernel)) (by decide +kernel) (pa_cons h (pa_cons (pe_tup (pa_cons (ty_P g hg ht) (pa_cons (ty_P g hg2 ht2) pa_nil))) pa_nil) (hp _ _)) (by decide +kernel) (by decide +kernel) (hp _ _) rfl) fun σ H Q q => ?_
  simp only [Tr, den] at q
  refine Tr.seq q fun v H1 G1 ρ1 S1 d s r h => ?_
  show 2 ≤ sizeLine ∧ ∀ p, H1 p = none → rIsiT X.K [v, .ref p] (upd H1 p (.tup [.ty t, .ty u])) Q
  refine ⟨LINE_le (by decide), fun p hp => ?_⟩
  cases e : isTys d [t, u] with
  | none => rw [e] at h; exact h.elim
  | some k =>
    rw [e] at h
    unfold isTys at e
    cases e1 : isTy d t with
    | none => rw [e1] at e; cases e
    | some k1 =>
      cases e2 : isTy d u with
      | none => rw [e1] at e; simp [isTys, e2] at e
      | some k2 =>
        rw [e1] at e
        simp only [isTys, e2, Bool.or_false, Option.some.injEq] at e
        subst e
        obtain ⟨tn, htn⟩ := isTy_tyn e1
        obtain ⟨kp, s'⟩ := s.new (o := .tup [.ty t, .ty u]) (w := .frz) hp
        refine ⟨v, p, [.ty t, .ty u], _, [.type t, .type u], k1 || k2, rfl, upd_same, .cons (.ty t) (.cons (.ty u) .nil), tyX_of (r.mono kp.exE) htn, ?_, h _ _ _ kp.exE s' (.bl _)⟩
        refine kitAny_cons (isTy_kit htn (tyOf_in ht).2.1 e1) (fun hk => kitAny_cons (isTy_kit htn (tyOf_in ht2).2.1 e2) (fun hk2 => ?_) fun hk2 => ?_) fun hk => ?_
        · rw [hk, hk2]; rfl
        · rw [hk2]; simp
        · rw [hk]; rfl
/-! ### join -/
theorem strsOf_reps {C : Ct} {G : Gh} : ∀ {ds : List D} {vs : List V} {xs : List Str}, Reps C G H vs ds → strsOf ds = some xs → vs = xs.map V.str
  | [], _, _, h, e => by cases h; cases e; rfl
  | d :: ds, _, xs, h, e => by
    cases h with
    | cons h1 h2 =>
      cases d with
      | str x =>
        cases h1
        cases e2 : strsOf ds with
        | none => simp [strsOf, e2] at e
        | some ys =>
          simp only [strsOf, e2, Option.map_some, Option.some.injEq] at e
          subst e
          rw [strsOf_reps h2 e2]
          rfl
      | _ => simp [strsOf] at e
theorem join_E {x : Str} {j : Nat} {p1 p2 : Pos} (hp : Plain a) (h : BOk X cad T W a la) (hline : (p2.endLine == pos.line) = true) : EOk X cad T W (.Call (.Attribute (.Constant (.str x) j p1) ("join" : Str) p2) [a] [] pos) (.join (.str x) la) := by
  refine PE.weak (pe_join pe_str h (hp _ _) rfl hline) fun σ H Q q => ?_
  simp only [Tr, den, denB, Res.map_ok, Res.bind_ok, RV.d] at q
  show (∃ a, V.str x = .str a) ∧ _
  refine ⟨⟨x, rfl⟩, Tr.seq q fun v H1 G1 ρ1 S1 d s r h => ?_⟩
  unfold opJoin at h
  split at h
  · rename_i zz dss e2
    cases e2
    obtain ⟨l, vs, rfl, hl, rr⟩ := r.lst
    split at h
    · rename_i xs ex
      split at h
      · rename_i hz
        have := strsOf_reps rr ex
        subst this
        exact ⟨x, l, xs, rfl, rfl, .inl hl, hz, h _ G1 H1 (.refl _ _) s (.str _)⟩
      · exact h.elim
    · exact h.elim
  · exact h.elim
end
end Sh


/-! ShIter: what a loop walks; targets. -/
namespace Sh
open PySem PySem.Spec PyProof.Rows L2 RZ
abbrev GR := Gh → Hp → Gh → Hp → Prop
/-- J gives the data ds, one a turn, as long as the state goes by R -/
structure Wks (C : Ct) (R : GR) (G : Gh) (H : Hp) (J : It) (ds : List D) : Prop where
  goes : ∀ i G1 H1, i < ds.length → R G H G1 H1 → J.go i H1
  stops : ∀ G1 H1, R G H G1 H1 → J.stop ds.length H1
  yields : ∀ i x G1 H1 H2 σ ρ S, i < ds.length → R G H G1 H1 → Sat C G1 H1 σ ρ S → J.yld i H1 x H2 → ∃ G2 d, Keep G1 H1 G2 H2 ∧ Sat C G2 H2 σ ρ S ∧ ds[i]? = some d ∧ Rep C G2 H2 x d
/-- how a source is looked at -/
structure RvOk (C : Ct) (R : GR) (Rv : Gh → Hp → V → D → Prop) : Prop where
  ex : ∀ {G H G1 H1}, R G H G1 H1 → ExF G H G1 H1
  lst : ∀ {G H v ds}, Rv G H v (.lst ds) → ∃ a xs, v = .ref a ∧ (∀ G1 H1, R G H G1 H1 → SqL C.K H1 a xs) ∧ SqL C.K H a xs ∧ Reps C G H xs ds
  tup : ∀ {G H v ds}, Rv G H v (.tup ds) → ∃ a xs, v = .ref a ∧ FT C G H a xs ∧ Reps C G H xs ds
  str : ∀ {G H v x}, Rv G H v (.str x) → v = .str x
  int : ∀ {G H v x}, Rv G H v (.int x) → v = .int x
  mono : ∀ {G H G1 H1 v d}, ExE G H G1 H1 → Rv G H v d → Rv G1 H1 v d
/-- what is frozen and the slots' lists stand -/
structure ExL (G : Gh) (H : Hp) (G' : Gh) (H' : Hp) : Prop extends ExF G H G' H' where
  slt : ∀ a i, G.O a = .slot i → (G'.O a = .slot i ∨ G'.O a = .frz) ∧ H' a = H a
theorem ExE.exL {G G' : Gh} {H H' : Hp} (e : ExE G H G' H') : ExL G H G' H' := ⟨e.toExF, e.slt⟩
theorem ExL.refl (G : Gh) (H : Hp) : ExL G H G H := (ExE.refl G H).exL
theorem ExL.trans {G G1 G2 : Gh} {H H1 H2 : Hp} (a : ExL G H G1 H1) (b : ExL G1 H1 G2 H2) : ExL G H G2 H2 :=
  ⟨⟨fun x h => ⟨(b.frz x (a.frz x h).1).1, (b.frz x (a.frz x h).1).2.trans (a.frz x h).2⟩, let ⟨l, e⟩ := a.pre; let ⟨m, e2⟩ := b.pre; ⟨l ++ m, by rw [e2, e, List.append_assoc]⟩⟩, fun x i h => by
    obtain ⟨h1 | h1, e1⟩ := a.slt x i h
    · exact ⟨(b.slt x i h1).1, (b.slt x i h1).2.trans e1⟩
    · exact ⟨.inr (b.frz x h1).1, (b.frz x h1).2.trans e1⟩⟩
theorem rvB {C : Ct} : RvOk C ExL (RepB C) where
  ex := fun e => e.toExF
  lst := fun h => by
    rcases h with h | ⟨a, xs, es, i, rfl, e, h1, h2, h3⟩
    · cases h with
      | lst h1 h2 => exact ⟨_, _, rfl, fun G1 H1 e => (h1.mono e.toExF).seq, h1.seq, h2⟩
    · cases e
      exact ⟨_, _, rfl, fun G1 H1 e => SqL.of ((e.slt _ _ h1).2.trans h2), SqL.of h2, h3⟩
  tup := fun h => btup h
  str := fun h => bstr h
  int := fun h => bint h
  mono := fun e h => h.mono e
theorem rvF {C : Ct} : RvOk C ExC (Rep C) where
  ex := fun e => e.toExF
  lst := fun h => by
    cases h with
    | lst h1 h2 => exact ⟨_, _, rfl, fun G1 H1 e => (h1.mono e.toExF).seq, h1.seq, h2⟩
  tup := fun h => btup (.inl h)
  str := fun h => bstr (.inl h)
  int := fun h => bint (.inl h)
  mono := fun e h => rep_mono e h
section
variable {C : Ct} {R : GR} {Rv : Gh → Hp → V → D → Prop} {G : Gh} {H : Hp}
theorem keep_refl : Keep G H G H := ⟨rfl, fun _ _ _ => ⟨rfl, rfl⟩⟩
/-- .. later on -/
theorem Wks.later {R : GR} {G2 : Gh} {H2 : Hp} {J : It} {ds : List D} (w : Wks C R G H J ds) (t : ∀ G' H', R G2 H2 G' H' → R G H G' H') : Wks C R G2 H2 J ds :=
  ⟨fun i G1 H1 hi e => w.goes i G1 H1 hi (t _ _ e), fun G1 H1 e => w.stops G1 H1 (t _ _ e), fun i x G1 H1 H2' σ ρ S hi e s y => w.yields i x G1 H1 H2' σ ρ S hi (t _ _ e) s y⟩
theorem wks_list {a : Addr} {xs : List V} {ds : List D} (k : RvOk C R Rv) (st : ∀ G1 H1, R G H G1 H1 → SqL C.K H1 a xs) (r : Reps C G H xs ds) : Wks C R G H (Itl C.K a) ds where
  goes := fun i G1 H1 hi e => ⟨xs, xs[i]'(by rw [r.length]; exact hi), st G1 H1 e, by simp⟩
  stops := fun G1 H1 e => ⟨xs, st G1 H1 e, by rw [r.length]; exact Nat.le_refl _⟩
  yields := fun i x G1 H1 H2 σ ρ S hi e s y => by
    obtain ⟨e2, y⟩ := y
    subst e2
    obtain ⟨d, hd, rd⟩ := r.getV (y xs (st G1 _ e))
    exact ⟨G1, d, keep_refl, s, hd, Rep.mono (k.ex e) d x rd⟩
theorem wks_tup {a : Addr} {xs : List V} {ds : List D} (k : RvOk C R Rv) (st : FT C G H a xs) (r : Reps C G H xs ds) : Wks C R G H (Itt C.K a) ds where
  goes := fun i G1 H1 hi e => ⟨xs, xs[i]'(by rw [r.length]; exact hi), (st.mono (k.ex e)).seq, by simp⟩
  stops := fun G1 H1 e => ⟨xs, (st.mono (k.ex e)).seq, by rw [r.length]; exact Nat.le_refl _⟩
  yields := fun i x G1 H1 H2 σ ρ S hi e s y => by
    obtain ⟨e2, y⟩ := y
    subst e2
    obtain ⟨d, hd, rd⟩ := r.getV (y xs (st.mono (k.ex e)).seq)
    exact ⟨G1, d, keep_refl, s, hd, Rep.mono (k.ex e) d x rd⟩
theorem wks_str {z : Str} : Wks C R G H (Its z) (z.cps.toList.map fun c => .str (sgn c)) where
  goes := fun i G1 H1 hi e => by
    have : i < z.cps.size := by simpa using hi
    exact this
  stops := fun G1 H1 e => by show z.cps.size ≤ _; simp
  yields := fun i x G1 H1 H2 σ ρ S hi e s y => by
    obtain ⟨e2, c, hc, e3⟩ := y
    subst e2 e3
    exact ⟨G1, .str (sgn c), keep_refl, s, by rw [List.getElem?_map, Array.getElem?_toList, hc]; rfl, .str _⟩
theorem wks_rng {n : Nat} : Wks C R G H (Itr 0 n) (rngD n) where
  goes := fun i G1 H1 hi e => by
    have : i < n := by simpa [rngD] using hi
    exact this
  stops := fun G1 H1 e => by show n ≤ _; simp [rngD]
  yields := fun i x G1 H1 H2 σ ρ S hi e s y => by
    obtain ⟨e2, e3⟩ := y
    subst e2 e3
    have hi' : i < n := by simpa [rngD] using hi
    refine ⟨G1, .int (i : Int), keep_refl, s, ?_, ?_⟩
    · unfold rngD
      rw [List.getElem?_map, List.getElem?_range hi']
      rfl
    · rw [Int.zero_add]
      exact .int _
theorem zipD_get : ∀ {xs ys : List D} {i : Nat} {x y : D}, xs[i]? = some x → ys[i]? = some y → (zipD xs ys)[i]? = some (.tup [x, y])
  | [], _, _, _, _, h, _ => by simp at h
  | _ :: _, [], _, _, _, _, h => by simp at h
  | a :: xs, b :: ys, 0, x, y, h, k => by
    simp at h k
    subst h k
    rfl
  | a :: xs, b :: ys, i + 1, x, y, h, k => by
    have := zipD_get (i := i) (xs := xs) (ys := ys) (by simpa using h) (by simpa using k)
    simpa [zipD] using this
theorem zipD_length : ∀ (xs ys : List D), (zipD xs ys).length = min xs.length ys.length
  | [], _ => by simp [zipD]
  | _ :: _, [] => by simp [zipD]
  | a :: xs, b :: ys => by
    simp only [zipD, List.length_cons, zipD_length xs ys]
    omega
/-- a new pair -/
theorem pair_new {σ : L2.St} {ρ : Rho} {S : Mem} {t : Addr} {x y : V} {d e : D} (s : Sat C G H σ ρ S) (ht : H t = none) (r1 : Rep C G H x d) (r2 : Rep C G H y e) : ∃ G2, Keep G H G2 (upd H t (.tup [x, y])) ∧ Sat C G2 (upd H t (.tup [x, y])) σ ρ S ∧ Rep C G2 (upd H t (.tup [x, y])) (.ref t) (.tup [d, e]) := by
  obtain ⟨k, s'⟩ := s.new (o := .tup [x, y]) (w := .frz) ht
  exact ⟨_, k, s', .tup (.inl ⟨Gh.set_same, upd_same⟩) (.cons (Rep.mono k.exE.toExF _ _ r1) (.cons (Rep.mono k.exE.toExF _ _ r2) .nil))⟩
theorem wks_zip {a b : Addr} {xs ys : List V} {ds es : List D} (k : RvOk C R Rv) (st : ∀ G1 H1, R G H G1 H1 → SqL C.K H1 a xs) (st2 : ∀ G1 H1, R G H G1 H1 → SqL C.K H1 b ys) (r : Reps C G H xs ds) (r2 : Reps C G H ys es) : Wks C R G H (Itz C.K a b) (zipD ds es) where
  goes := fun i G1 H1 hi e => by
    rw [zipD_length] at hi
    exact ⟨xs, ys, xs[i]'(by rw [r.length]; omega), ys[i]'(by rw [r2.length]; omega), st G1 H1 e, st2 G1 H1 e, by simp, by simp⟩
  stops := fun G1 H1 e => ⟨xs, ys, st G1 H1 e, st2 G1 H1 e, by rw [zipD_length, r.length, r2.length]; omega⟩
  yields := fun i x G1 H1 H2 σ ρ S hi e s y => by
    obtain ⟨t, u, v, rfl, ht, rfl, h1, h2⟩ := y
    obtain ⟨d, hd, rd⟩ := r.getV (h1 xs (st G1 _ e))
    obtain ⟨d2, hd2, rd2⟩ := r2.getV (h2 ys (st2 G1 _ e))
    obtain ⟨G2, q1, q2, q3⟩ := pair_new s ht (Rep.mono (k.ex e) d u rd) (Rep.mono (k.ex e) d2 v rd2)
    exact ⟨G2, _, q1, q2, zipD_get hd hd2, q3⟩
theorem enumD_get : ∀ {xs : List D} {i k : Nat} {x : D}, xs[i]? = some x → (enumD k xs)[i]? = some (.tup [.int ((k + i : Nat) : Int), x])
  | [], _, _, _, h => by simp at h
  | a :: xs, 0, k, x, h => by
    simp at h
    subst h
    rfl
  | a :: xs, i + 1, k, x, h => by
    have := enumD_get (i := i) (k := k + 1) (xs := xs) (x := x) (by simpa using h)
    have e : k + 1 + i = k + (i + 1) := by omega
    rw [e] at this
    simpa [enumD] using this
theorem enumD_len : ∀ (k : Nat) (xs : List D), (enumD k xs).length = xs.length
  | _, [] => rfl
  | k, x :: xs => by simp [enumD, enumD_len (k + 1) xs]
theorem wks_enm {a : Addr} {xs : List V} {ds : List D} (k : RvOk C R Rv) (st : ∀ G1 H1, R G H G1 H1 → SqL C.K H1 a xs) (r : Reps C G H xs ds) : Wks C R G H (Ite C.K a) (enumD 0 ds) where
  goes := fun i G1 H1 hi e => by
    rw [enumD_len] at hi
    exact ⟨xs, xs[i]'(by rw [r.length]; exact hi), st G1 H1 e, by simp⟩
  stops := fun G1 H1 e => ⟨xs, st G1 H1 e, by rw [enumD_len, r.length]; exact Nat.le_refl _⟩
  yields := fun i x G1 H1 H2 σ ρ S hi e s y => by
    obtain ⟨t, u, rfl, ht, rfl, h1⟩ := y
    obtain ⟨d, hd, rd⟩ := r.getV (h1 xs (st G1 _ e))
    obtain ⟨G2, q1, q2, q3⟩ := pair_new s ht (.int (i : Nat)) (Rep.mono (k.ex e) d u rd)
    refine ⟨G2, _, q1, q2, ?_, q3⟩
    have := enumD_get (k := 0) hd
    rw [Nat.zero_add] at this
    exact this
theorem wks_enmT {a : Addr} {xs : List V} {ds : List D} (k : RvOk C R Rv) (st : FT C G H a xs) (r : Reps C G H xs ds) : Wks C R G H (IteT C.K a) (enumD 0 ds) where
  goes := fun i G1 H1 hi e => by
    rw [enumD_len] at hi
    exact ⟨xs, xs[i]'(by rw [r.length]; exact hi), (st.mono (k.ex e)).seq, by simp⟩
  stops := fun G1 H1 e => ⟨xs, (st.mono (k.ex e)).seq, by rw [enumD_len, r.length]; exact Nat.le_refl _⟩
  yields := fun i x G1 H1 H2 σ ρ S hi e s y => by
    obtain ⟨t, u, rfl, ht, rfl, h1⟩ := y
    obtain ⟨d, hd, rd⟩ := r.getV (h1 xs (st.mono (k.ex e)).seq)
    obtain ⟨G2, q1, q2, q3⟩ := pair_new s ht (.int (i : Nat)) (Rep.mono (k.ex e) d u rd)
    refine ⟨G2, _, q1, q2, ?_, q3⟩
    have := enumD_get (k := 0) hd
    rw [Nat.zero_add] at this
    exact this
theorem wks_zipM {a b : Addr} {xs ys : List V} {ds es : List D} (k : RvOk C R Rv) (st : FT C G H a xs) (st2 : ∀ G1 H1, R G H G1 H1 → SqL C.K H1 b ys) (r : Reps C G H xs ds) (r2 : Reps C G H ys es) : Wks C R G H (ItzM C.K a b) (zipD ds es) where
  goes := fun i G1 H1 hi e => by
    rw [zipD_length] at hi
    exact ⟨xs, ys, xs[i]'(by rw [r.length]; omega), ys[i]'(by rw [r2.length]; omega), (st.mono (k.ex e)).seq, st2 G1 H1 e, by simp, by simp⟩
  stops := fun G1 H1 e => ⟨xs, ys, (st.mono (k.ex e)).seq, st2 G1 H1 e, by rw [zipD_length, r.length, r2.length]⟩
  yields := fun i x G1 H1 H2 σ ρ S hi e s y => by
    obtain ⟨t, u, v, rfl, ht, rfl, h1, h2⟩ := y
    obtain ⟨d, hd, rd⟩ := r.getV (h1 xs (st.mono (k.ex e)).seq)
    obtain ⟨d2, hd2, rd2⟩ := r2.getV (h2 ys (st2 G1 H1 e))
    obtain ⟨G2, q1, q2, q3⟩ := pair_new s ht (Rep.mono (k.ex e) d u rd) (Rep.mono (k.ex e) d2 v rd2)
    exact ⟨G2, _, q1, q2, zipD_get hd hd2, q3⟩
theorem wks_zipT {a b : Addr} {xs ys : List V} {ds es : List D} (k : RvOk C R Rv) (st : FT C G H a xs) (st2 : FT C G H b ys) (r : Reps C G H xs ds) (r2 : Reps C G H ys es) : Wks C R G H (ItzT C.K a b) (zipD ds es) where
  goes := fun i G1 H1 hi e => by
    rw [zipD_length] at hi
    exact ⟨xs, ys, xs[i]'(by rw [r.length]; omega), ys[i]'(by rw [r2.length]; omega), (st.mono (k.ex e)).seq, (st2.mono (k.ex e)).seq, by simp, by simp⟩
  stops := fun G1 H1 e => ⟨xs, ys, (st.mono (k.ex e)).seq, (st2.mono (k.ex e)).seq, by rw [zipD_length, r.length, r2.length]; omega⟩
  yields := fun i x G1 H1 H2 σ ρ S hi e s y => by
    obtain ⟨t, u, v, rfl, ht, rfl, h1, h2⟩ := y
    obtain ⟨d, hd, rd⟩ := r.getV (h1 xs (st.mono (k.ex e)).seq)
    obtain ⟨d2, hd2, rd2⟩ := r2.getV (h2 ys (st2.mono (k.ex e)).seq)
    obtain ⟨G2, q1, q2, q3⟩ := pair_new s ht (Rep.mono (k.ex e) d u rd) (Rep.mono (k.ex e) d2 v rd2)
    exact ⟨G2, _, q1, q2, zipD_get hd hd2, q3⟩
end
section
variable {X : Cx} {cad : Str → Option Addr} {T : Tab} {W : WX} {R : GR} {Rv : Gh → Hp → V → D → Prop} {tg a b : Expr} {m m2 : Rho → Mem → Res D} {pos p : Pos}
/-- a source, of whatever kind -/
theorem seq_I (k : RvOk (ct X cad) R Rv) (h : PE X a (Tr (ct X cad) W m Rv)) : PI X tg a (Tr (ct X cad) W (fun ρ S => (m ρ S).bind fun x ρ S => ofO (itemsOf x) ρ S) (Wks (ct X cad) R)) := by
  refine ⟨fun pins s σ H Q I q => ?_⟩
  obtain ⟨G, ρ, S, sat, q⟩ := q
  dsimp only at q
  cases e : m ρ S with
  | bad => rw [e] at q; exact q.elim
  | exc x ρ1 S1 =>
    refine (pi_list h).run pins s σ H Q I ⟨G, ρ, S, sat, ?_⟩
    rw [e] at q ⊢
    exact q
  | ok d ρ1 S1 =>
    rw [e] at q
    simp only [Res.bind_ok] at q
    have go : ∀ {Q1 : VK}, (∀ v G' H', ExE G H G' H' → Sat (ct X cad) G' H' σ ρ1 S1 → Rv G' H' v d → Q1 v H') → Tr (ct X cad) W m Rv σ H Q1 := fun {Q1} z => ⟨G, ρ, S, sat, by rw [e]; exact z⟩
    cases d with
    | lst ds =>
      refine (pi_list h).run pins s σ H Q I (go fun v G' H' ex s' r => ?_)
      obtain ⟨l, xs, rfl, st, hl, rr⟩ := k.lst r
      exact ⟨l, rfl, ⟨xs, hl⟩, q _ G' H' ex s' (wks_list k st rr)⟩
    | tup ds =>
      refine (pi_tup h).run pins s σ H Q I (go fun v G' H' ex s' r => ?_)
      obtain ⟨l, xs, rfl, hl, rr⟩ := k.tup r
      exact ⟨l, rfl, ⟨xs, hl.seq⟩, q _ G' H' ex s' (wks_tup k hl rr)⟩
    | str z =>
      refine (pi_str h).run pins s σ H Q I (go fun v G' H' ex s' r => ?_)
      exact ⟨z, k.str r, q _ G' H' ex s' wks_str⟩
    | _ => exact (show False from q).elim
theorem rng_I {n : Nat} {c : CC} (g : Good X cad T W n c) (hg : isGlob c ("range" : Str) = true) (hp : Plain a) (k : RvOk (ct X cad) R Rv) (h : PE X a (Tr (ct X cad) W m Rv)) :
    PI X tg (.Call (.Name ("range" : Str) p) [a] [] pos) (Tr (ct X cad) W (fun ρ S => (m ρ S).bind fun x ρ S => ofO (opRng x) ρ S) (Wks (ct X cad) R)) :=
  PI.weak (pi_range1 (glob_of g hg) (g.tab.bl _ (by decide +kernel)) (pa_cons h pa_nil (hp _ _)) (hp _ _)) fun σ H Q q => by
    refine Tr.seq q fun v H1 G1 ρ1 S1 d s r h => ?_
    cases d with
    | int j =>
      unfold opRng at h
      dsimp only at h
      split at h
      · rename_i hz
        have hz' : j.natAbs ≤ 16777216 := hz
        exact ⟨j, by rw [k.int r], by omega, by omega, h _ G1 H1 (.refl _ _) s wks_rng⟩
      · exact h.elim
    | _ => exact (show False from h).elim
theorem enm_I {n : Nat} {c : CC} {elts : List Expr} {kk : Nat} {tpos : Pos} (g : Good X cad T W n c) (hg : isGlob c ("enumerate" : Str) = true) (hp : Plain a) (k : RvOk (ct X cad) R Rv) (h : PE X a (Tr (ct X cad) W m Rv)) :
    PI X (.Tuple elts kk tpos) (.Call (.Name ("enumerate" : Str) p) [a] [] pos) (Tr (ct X cad) W (fun ρ S => (m ρ S).bind fun x ρ S => ofO (opEnm x) ρ S) (Wks (ct X cad) R)) :=
  PI.weak (pi_enumA (glob_of g hg) (g.tab.bl _ (by decide +kernel)) (pa_cons h pa_nil (hp _ _)) (hp _ _)) fun σ H Q q => by
    refine Tr.seq q fun v H1 G1 ρ1 S1 d s r h => ?_
    cases d with
    | lst ds =>
      obtain ⟨l, xs, rfl, st, hl, rr⟩ := k.lst r
      exact ⟨l, xs, rfl, .inl ⟨hl, h _ G1 H1 (.refl _ _) s (wks_enm k st rr)⟩⟩
    | tup ds =>
      obtain ⟨l, xs, rfl, hl, rr⟩ := k.tup r
      exact ⟨l, xs, rfl, .inr ⟨hl.seq, h _ G1 H1 (.refl _ _) s (wks_enmT k hl rr)⟩⟩
    | _ => exact (show False from h).elim
theorem zip_I {n : Nat} {c : CC} {elts : List Expr} {kk : Nat} {tpos : Pos} (g : Good X cad T W n c) (hg : isGlob c ("zip" : Str) = true) (hp : Plain a) (hp2 : Plain b) (k : RvOk (ct X cad) R Rv) (h : PE X a (Tr (ct X cad) W m Rv)) (h2 : PE X b (Tr (ct X cad) W m2 Rv)) :
    PI X (.Tuple elts kk tpos) (.Call (.Name ("zip" : Str) p) [a, b] [] pos) (Tr (ct X cad) W (fun ρ S => (m ρ S).bind fun x ρ S => (m2 ρ S).bind fun y ρ S => ofO (opZip x y) ρ S) (Wks (ct X cad) R)) :=
  PI.weak (pi_zipX (glob_of g hg) (g.tab.bl _ (by decide +kernel)) (pa_cons h (pa_cons h2 pa_nil (hp2 _ _)) (hp _ _)) (hp _ _) (plain_any (es := [b]) fun x hx => by simp at hx; subst hx; exact hp2)) fun σ H Q q => by
    refine Tr.seq2 (Q1 := fun x y H2 => ∃ a b xs ys, [x, y] = [V.ref a, V.ref b] ∧ ((SqL X.K H2 a xs ∧ SqL X.K H2 b ys ∧ Q (Itz X.K a b) H2) ∨ (SqT X.K H2 a xs ∧ SqT X.K H2 b ys ∧ Q (ItzT X.K a b) H2) ∨ (SqT X.K H2 a xs ∧ SqL X.K H2 b ys ∧ Q (ItzM X.K a b) H2))) q k.mono fun x y H1 G1 ρ1 S1 d e s r1 r2 h => ?_
    unfold opZip at h
    split at h
    · obtain ⟨l, xs, rfl, st, hl, rr⟩ := k.lst r1
      obtain ⟨l2, ys, rfl, st2, hl2, rr2⟩ := k.lst r2
      exact ⟨l, l2, xs, ys, rfl, .inl ⟨hl, hl2, h _ G1 H1 (.refl _ _) s (wks_zip k st st2 rr rr2)⟩⟩
    · obtain ⟨l, xs, rfl, hl, rr⟩ := k.tup r1
      obtain ⟨l2, ys, rfl, hl2, rr2⟩ := k.tup r2
      exact ⟨l, l2, xs, ys, rfl, .inr (.inl ⟨hl.seq, hl2.seq, h _ G1 H1 (.refl _ _) s (wks_zipT k hl hl2 rr rr2)⟩)⟩
    · obtain ⟨l, xs, rfl, hl, rr⟩ := k.tup r1
      obtain ⟨l2, ys, rfl, st2, hl2, rr2⟩ := k.lst r2
      exact ⟨l, l2, xs, ys, rfl, .inr (.inr ⟨hl.seq, hl2, h _ G1 H1 (.refl _ _) s (wks_zipM k hl st2 rr rr2)⟩)⟩
    · exact h.elim
end
end Sh


/-! ShLc: targets, comprehensions. -/
namespace Sh
open PySem PySem.Spec PyProof.Rows L2 RZ
section
variable {C : Ct} {G : Gh} {H : Hp} {σ : L2.St} {ρ ρ' : Rho} {S : Mem}
/-- a slot takes frozen data -/
theorem Sat.put (s : Sat C G H σ ρ S) {i : Nat} {v : V} {d : D} (r : Rep C G H v d) : Sat C G H (σ.set i (some v)) (ρ.set i (some (.fz d))) S := by
  refine ⟨s.toSatS, fun j x hj => ?_, by rw [List.length_set, List.length_set]; exact s.ln⟩
  have hjl := (List.getElem?_eq_some_iff.mp hj).1
  rw [List.length_set] at hjl
  by_cases e : j = i
  · subst e
    rw [List.getElem?_set_self hjl] at hj
    cases hj
    exact ⟨v, by rw [List.getElem?_set_self (by rw [← s.ln]; exact hjl)], r⟩
  · rw [List.getElem?_set_ne (Ne.symm e)] at hj
    rw [List.getElem?_set_ne (Ne.symm e)]
    exact s.sl j x hj
/-- σ' is σ but for the slots is -/
structure But (is : List Nat) (σ σ' : L2.St) : Prop where
  len : σ'.length = σ.length
  at_ : ∀ j, j ∉ is → σ'[j]? = σ[j]?
theorem But.refl (is : List Nat) (σ : L2.St) : But is σ σ := ⟨rfl, fun _ _ => rfl⟩
theorem But.set {is : List Nat} {σ σ1 : L2.St} {i : Nat} {v : Option V} (b : But is (σ.set i v) σ1) (hi : i ∈ is) : But is σ σ1 :=
  ⟨by rw [b.len, List.length_set], fun j hj => by rw [b.at_ j hj, List.getElem?_set_ne]; rintro rfl; exact hj hi⟩
def gNames : List Nat → TGs
  | [] => gNil
  | i :: is => gCons (gName i) (gNames is)
def gOf (K : PySem.W.Frag) : Tg → TG
  | .name i => gName i
  | .tup is => gTup K is.length (gNames is)
theorem names_put {js : List Nat} : ∀ {is : List Nat} {σ : L2.St} {ρ ρ' : Rho} {vs : List V} {ds : List D} {Q : L2.St → Hp → Prop}, Sat C G H σ ρ S → Reps C G H vs ds → setAll ρ is ds = some ρ' → (∀ i ∈ is, i ∈ js) → (∀ σ', Sat C G H σ' ρ' S → But js σ σ' → Q σ' H) → gNames is vs σ H Q
  | [], σ, ρ, ρ', vs, ds, Q, s, r, e, hj, h => by
    cases ds with
    | nil =>
      cases r
      cases e
      exact ⟨rfl, h σ s (.refl _ _)⟩
    | cons d ds => cases e
  | i :: is, σ, ρ, ρ', vs, ds, Q, s, r, e, hj, h => by
    cases ds with
    | nil => cases e
    | cons d ds =>
      cases r with
      | cons r1 r2 => exact ⟨_, _, rfl, names_put (s.put r1) r2 e (fun k hk => hj k (List.mem_cons_of_mem _ hk)) fun σ' s' b => h σ' s' (b.set (hj i List.mem_cons_self))⟩
theorem tg_put {t : Tg} {v : V} {d : D} {js : List Nat} {Q : L2.St → Hp → Prop} (s : Sat C G H σ ρ S) (r : Rep C G H v d) (e : t.put d ρ = some ρ') (hj : ∀ i ∈ t.slots, i ∈ js) (h : ∀ σ', Sat C G H σ' ρ' S → But js σ σ' → Q σ' H) : gOf C.K t v σ H Q := by
  cases t with
  | name i =>
    cases e
    exact h _ (s.put r) ((But.refl js _).set (hj i List.mem_cons_self))
  | tup is =>
    cases d with
    | tup ds =>
      cases r with
      | tup h1 h2 =>
        refine ⟨_, _, rfl, h1.seq, ?_, names_put s h2 e hj h⟩
        rw [h2.length]
        exact setAll_len e
    | _ => cases e
where
  setAll_len : ∀ {is : List Nat} {ρ ρ' : Rho} {ds : List D}, setAll ρ is ds = some ρ' → ds.length = is.length
  | [], _, _, [], _ => rfl
  | [], _, _, _ :: _, e => by cases e
  | _ :: _, _, _, [], e => by cases e
  | i :: is, ρ, ρ', d :: ds, e => by simp [setAll_len (is := is) (ds := ds) e]
theorem wipeE_len (ρ : Rho) : ∀ vs : List Nat, (wipeE ρ vs).length = ρ.length
  | [] => rfl
  | v :: vs => by unfold wipeE; rw [List.length_set, wipeE_len ρ vs]
theorem wipeE_get {ρ : Rho} {i : Nat} {x : RV} : ∀ {vs : List Nat}, (wipeE ρ vs)[i]? = some (some x) → ρ[i]? = some (some x) ∧ i ∉ vs
  | [], h => ⟨h, by simp⟩
  | v :: vs, h => by
    unfold wipeE at h
    by_cases e : i = v
    · subst e
      rw [List.getElem?_set] at h
      simp at h
    · rw [List.getElem?_set_ne (Ne.symm e)] at h
      obtain ⟨h1, h2⟩ := wipeE_get h
      exact ⟨h1, by simp [e, h2]⟩
theorem wipe_out {σ : L2.St} {i : Nat} : ∀ {vs : List Nat}, i ∉ vs → (wipe σ vs)[i]? = σ[i]?
  | [], _ => rfl
  | v :: vs, h => by
    unfold wipe
    have : i ≠ v := fun e => h (by simp [e])
    rw [List.getElem?_set_ne (Ne.symm this), wipe_out fun z => h (List.mem_cons_of_mem _ z)]
theorem wipe_in {σ : L2.St} {i : Nat} : ∀ {vs : List Nat}, i ∈ vs → i < σ.length → (wipe σ vs)[i]? = some none
  | [], h, _ => by cases h
  | v :: vs, h, hl => by
    unfold wipe
    by_cases e : i = v
    · subst e
      rw [List.getElem?_set_self (by rw [wipe_length]; exact hl)]
    · rw [List.getElem?_set_ne (Ne.symm e)]
      exact wipe_in ((List.mem_cons.mp h).resolve_left e) hl
theorem Sat.wipe (s : Sat C G H σ ρ S) (vs : List Nat) : Sat C G H (L2.wipe σ vs) (wipeE ρ vs) S := by
  refine ⟨s.toSatS, fun i r h => ?_, by rw [wipeE_len, wipe_length]; exact s.ln⟩
  obtain ⟨h1, h2⟩ := wipeE_get h
  rw [wipe_out h2]
  exact s.sl i r h1
theorem But.wipe {vs : List Nat} {σ σ' : L2.St} (b : But vs σ σ') : L2.wipe σ' vs = L2.wipe σ vs := by
  apply List.ext_getElem?
  intro i
  by_cases hi : i ∈ vs
  · by_cases hl : i < σ.length
    · rw [wipe_in hi hl, wipe_in hi (by rw [b.len]; exact hl)]
    · rw [List.getElem?_eq_none (by rw [wipe_length, b.len]; omega), List.getElem?_eq_none (by rw [wipe_length]; omega)]
  · rw [wipe_out hi, wipe_out hi, b.at_ i hi]
theorem wipe_wipe (σ : L2.St) (vs : List Nat) : L2.wipe (L2.wipe σ vs) vs = L2.wipe σ vs :=
  But.wipe ⟨wipe_length σ vs, fun j hj => wipe_out hj⟩
theorem backE_len (ρ0 ρ : Rho) : ∀ vs : List Nat, (backE ρ0 ρ vs).length = ρ.length
  | [] => rfl
  | v :: vs => by unfold backE; rw [List.length_set, backE_len ρ0 ρ vs]
theorem backE_out {ρ0 ρ : Rho} {i : Nat} : ∀ {vs : List Nat}, i ∉ vs → (backE ρ0 ρ vs)[i]? = ρ[i]?
  | [], _ => rfl
  | v :: vs, h => by
    unfold backE
    have : i ≠ v := fun e => h (by simp [e])
    rw [List.getElem?_set_ne (Ne.symm this), backE_out fun z => h (List.mem_cons_of_mem _ z)]
theorem backE_in {ρ0 ρ : Rho} {i : Nat} : ∀ {vs : List Nat}, i ∈ vs → i < ρ.length → (backE ρ0 ρ vs)[i]? = some (ρ0[i]?.getD none)
  | [], h, _ => by cases h
  | v :: vs, h, hl => by
    unfold backE
    by_cases e : i = v
    · subst e
      rw [List.getElem?_set_self (by rw [backE_len]; exact hl)]
    · rw [List.getElem?_set_ne (Ne.symm e)]
      exact backE_in ((List.mem_cons.mp h).resolve_left e) hl
theorem noOwn_at {ρ : Rho} {vs : List Nat} {i : Nat} {ds : List D} (h : noOwn ρ vs ≠ false) (hi : i ∈ vs) : ρ[i]? ≠ some (some (.own ds)) := fun e => by
  have h' : noOwn ρ vs = true := by cases q : noOwn ρ vs <;> simp_all
  unfold noOwn at h'
  have := List.all_eq_true.mp h' i hi
  rw [e] at this
  cases this
/-- behind a comprehension's block -/
theorem Sat.unwipe {G0 : Gh} {H0 : Hp} {ρ0 : Rho} {S0 : Mem} {vs : List Nat} (s0 : Sat C G0 H0 σ ρ0 S0) (no : noOwn ρ0 vs ≠ false) (e : ExE G0 H0 G H) (s : Sat C G H (L2.wipe σ vs) ρ S) : Sat C G H σ (backE ρ0 ρ vs) S := by
  have hl : ρ.length = σ.length := by rw [s.ln, wipe_length]
  refine ⟨s.toSatS, fun i r h => ?_, by rw [backE_len]; exact hl⟩
  by_cases hi : i ∈ vs
  · have hil := (List.getElem?_eq_some_iff.mp h).1
    rw [backE_len] at hil
    rw [backE_in hi hil] at h
    have h' : ρ0[i]? = some (some r) := by
      cases q : ρ0[i]? with
      | none => rw [q] at h; cases h
      | some o => rw [q] at h; simpa using h
    have so := s0.sl i r h'
    cases r with
    | fz d =>
      obtain ⟨v, h1, h2⟩ := so
      exact ⟨v, h1, Rep.mono e.toExF d v h2⟩
    | own ds => exact (noOwn_at no hi h').elim
  · rw [backE_out hi] at h
    have so := s.sl i r h
    rw [wipe_out hi] at so
    exact so
/-- within a block: no exception, other slots; what is wanted stays said of the start (Gb, Hb) -/
theorem At.bindX {α β γ δ : Type} {W : WX} {σ σ2 : L2.St} {Gb : Gh} {Hb : Hp} {r1 : Res γ} {R : Gh → Hp → β → α → Prop} {R1 : Gh → Hp → δ → γ → Prop} {f : γ → Rho → Mem → Res α} {Q : β → Hp → Prop} (h : At C W σ Gb Hb ((noX r1).bind f) R Q) :
    At C (fun _ _ _ _ => False) σ2 G H r1 R1 fun b1 H1 => ∃ G1 ρ1 S1 a1, ExE G H G1 H1 ∧ Sat C G1 H1 σ2 ρ1 S1 ∧ R1 G1 H1 b1 a1 ∧ At C W σ Gb Hb (f a1 ρ1 S1) R Q := by
  cases r1 with
  | ok a ρ S => exact fun b G' H' e s q => ⟨G', ρ, S, a, e, s, q, h⟩
  | exc x ρ S => exact h.elim
  | bad => exact h
theorem wipeE_out {ρ : Rho} {i : Nat} : ∀ {vs : List Nat}, i ∉ vs → (wipeE ρ vs)[i]? = ρ[i]?
  | [], _ => rfl
  | v :: vs, h => by
    unfold wipeE
    have : i ≠ v := fun e => h (by simp [e])
    rw [List.getElem?_set_ne (Ne.symm this), wipeE_out fun z => h (List.mem_cons_of_mem _ z)]
theorem backE_wipeE (ρ0 ρ : Rho) (vs : List Nat) : backE ρ0 (wipeE ρ vs) vs = backE ρ0 ρ vs := by
  apply List.ext_getElem?
  intro i
  by_cases hi : i ∈ vs
  · by_cases hl : i < ρ.length
    · rw [backE_in hi (by rw [wipeE_len]; exact hl), backE_in hi hl]
    · rw [List.getElem?_eq_none (by rw [backE_len, wipeE_len]; omega), List.getElem?_eq_none (by rw [backE_len]; omega)]
  · rw [backE_out hi, backE_out hi, wipeE_out hi]
theorem noX_bind {α β : Type} (r : Res α) (f : α → Rho → Mem → Res β) : noX (r.bind f) = (noX r).bind fun a ρ S => noX (f a ρ S) := by
  cases r <;> rfl
theorem noX_noX {α : Type} (r : Res α) : noX (noX r) = noX r := by cases r <;> rfl
theorem noX_ofO {α : Type} (o : Option α) (ρ : Rho) (S : Mem) : noX (ofO o ρ S) = ofO o ρ S := by cases o <;> rfl
end
section
variable {X : Cx} {cad : Str → Option Addr} {T : Tab} {W : WX} {n : Nat} {c : CC}
abbrev W0 : WX := fun _ _ _ _ => False
/-- the block's context -/
def CC.blk (c : CC) (scope : Scope) : CC := ⟨c.F, c.N, relS scope c.sc, fun x => scope.names.lookup x == some .cell⟩
theorem Good.blk (g : Good X cad T W n c) (s : Shared) (H : Hp) (scope : Scope) (A : Addr) (cl : List (Str × Addr)) (fp : List Addr) : Good (X.blk s H scope (compEnvC scope cl A X.env) fp) cad T W0 n (c.blk scope) where
  N := g.N
  sc := by
    show relS scope X.env.scope = relS scope c.sc
    rw [g.sc]
  nd := g.nd
  fn := fun x h => h
  calm := g.calm
  room := g.room
  tk := takes0
  tab := g.tab
/-- the tests of a comprehension -/
abbrev CkOk (X : Cx) (cad : Str → Option Addr) (T : Tab) (es : List Expr) (l : LEs) : Prop := PTs X es (Tr (ct X cad) W0 (denC T l) Eqv)
theorem PTs.weak {X : Cx} {e : List Expr} {t t' : TT} (p : PTs X e t) (h : ∀ σ H Q, t' σ H Q → t σ H Q) : PTs X e t' := ⟨fun pins s σ H Q I q => p.run pins s σ H Q I (h _ _ _ q)⟩
theorem ck_nil : CkOk X cad T [] .nil :=
  PTs.weak pts_nil fun σ H Q q => by
    obtain ⟨G, ρ, S, s, q⟩ := q
    simp only [denC] at q
    exact q true G H (.refl _ _) s rfl
theorem ck_one {e : Expr} {l : LE} (h : TOk X cad T W0 e l) : CkOk X cad T [e] (.cons l .nil) :=
  PTs.weak (pts_one h) fun σ H Q q => by
    simp only [Tr, denC] at q
    refine Tr.tstT q fun k H1 G1 ρ1 S1 s h => ?_
    cases k with
    | true =>
      rw [if_pos rfl] at h
      exact At.okE s h
    | false =>
      rw [if_neg (by decide)] at h
      exact At.okE s h
theorem reps_snoc {C : Ct} {G : Gh} {H : Hp} {xs : List V} {ds : List D} {v : V} {d : D} (r : Reps C G H xs ds) (h : Rep C G H v d) : Reps C G H (xs ++ [v]) (ds ++ [d]) := r.append (.one h)
/-- a turn: the target, the tests, the item -/
def turnF (T : Tab) (tg : Tg) (cs : LEs) (le : LE) : Sh.D → Rho → Mem → Res (Option Sh.D) := fun d ρ S => (ofO (tg.put d ρ) ρ S).bind fun ρ' _ S => (denC T cs ρ' S).bind fun k ρ S => if k = true then (den T le ρ S).bind fun y ρ S => .ok (some y.d) ρ S else .ok none ρ S
/-- the turns of a clause: the list at D grows -/
theorem lc_turns {vs : List Nat} {le : LE} {tg : Tg} {cs : LEs} (ht : ∀ i ∈ tg.slots, i ∈ vs) {σ σ2 : L2.St} {D : Addr} {J : It} {ds : List Sh.D} {G1 G2 : Gh} {H1 H2 : Hp} {ρ2 : Rho} {S2 : Mem} {acc : List Sh.D} {xs : List V} {k : List Sh.D → Rho → Mem → Res RV} {Q : VK} {Nx : Hp → Prop}
    (hGD : G1.O D = .free) (e2 : ExE G1 H1 G2 H2) (wk : Wks (ct X cad) ExL G2 H2 J ds) (s2 : Sat (ct X cad) G2 H2 σ2 ρ2 S2) (hO : G2.O D = .out) (hH : H2 D = some (.lst xs)) (ra : Reps (ct X cad) G2 H2 xs acc)
    (q : At (ct X cad) W σ G1 H1 ((lcLoop vs (turnF T tg cs le) ds acc ρ2 S2).bind k) (RepR (ct X cad)) Q)
    (fin : ∀ G' H' ρ' S' acc' xs', ExE G1 H1 G' H' → Sat (ct X cad) G' H' (wipe σ2 vs) (wipeE ρ' vs) S' → ρ'.length = σ2.length → G'.O D = .out → H' D = some (.lst xs') → Reps (ct X cad) G' H' xs' acc' → At (ct X cad) W σ G1 H1 (k acc' ρ' S') (RepR (ct X cad)) Q → Nx H') :
    ∃ W1 : Nat → Nat → Hp → Prop, (∃ m, W1 0 m H2) ∧ ∀ j m H, W1 j m H → (J.stop j H ∧ Nx H) ∨ (J.go j H ∧ ∃ Nx1 : Hp → Prop, (∀ H', Nx1 H' → ∃ m', m' < m ∧ W1 (j + 1) m' H') ∧ ∀ x H', J.yld j H x H' →
      gOf X.K tg x (wipe σ2 vs) H' fun σ3 H5 => wipe σ3 vs = wipe σ2 vs ∧ Tr (ct X cad) W0 (denC T cs) Eqv σ3 H5 fun b H6 => if b = true then Tr (ct X cad) W0 (den T le) (RepR (ct X cad)) σ3 H6 fun y H7 => ∃ acc, H7 D = some (.lst acc) ∧ acc.length < sizeLine ∧ Nx1 (upd H7 D (.lst (acc ++ [y]))) else Nx1 H6) := by
  let Pv : Nat → Hp → Prop := fun i Hi => ∃ Gi ρi Si acc xs, i ≤ ds.length ∧ ExE G1 H1 Gi Hi ∧ ExL G2 H2 Gi Hi ∧ Sat (ct X cad) Gi Hi (wipe σ2 vs) (wipeE ρi vs) Si ∧ ρi.length = σ2.length ∧ Gi.O D = .out ∧ Hi D = some (.lst xs) ∧ Reps (ct X cad) Gi Hi xs acc ∧
    At (ct X cad) W σ G1 H1 ((lcLoop vs (turnF T tg cs le) (ds.drop i) acc ρi Si).bind k) (RepR (ct X cad)) Q
  refine ⟨fun i m Hi => m = ds.length - i ∧ Pv i Hi, ⟨ds.length, by simp, G2, ρ2, S2, acc, xs, Nat.zero_le _, e2, .refl _ _, s2.wipe vs, s2.ln, hO, hH, ra, by rw [List.drop_zero]; exact q⟩, ?_⟩
  rintro i m Hi ⟨rfl, Gi, ρi, Si, acc, xs, hi, ei, li, si, hln, hO, hHD, ra, qi⟩
  by_cases hlt : i < ds.length
  · right
    refine ⟨wk.goes i Gi Hi hlt li, Pv (i + 1), fun H' p => ⟨ds.length - (i + 1), by omega, rfl, p⟩, fun x H' y => ?_⟩
    obtain ⟨G2', d, k2, sat2, hd, rd⟩ := wk.yields i x Gi Hi H' _ _ _ hlt li si y
    have hdr : ds.drop i = d :: ds.drop (i + 1) := by
      rw [List.drop_eq_getElem_cons hlt]
      congr 1
      have := List.getElem?_eq_getElem hlt
      rw [hd] at this
      exact (Option.some.inj this).symm
    rw [hdr] at qi
    unfold lcLoop at qi
    rw [bind_assoc] at qi
    have e2 := k2.exE
    have q2 := qi
    have hO2 : G2'.O D = .out ∧ H' D = some (.lst xs) := ⟨(e2.out D hO).1, (e2.out D hO).2.trans hHD⟩
    -- the target
    cases hp : tg.put d (wipeE ρi vs) with
    | none =>
      simp only [turnF, hp, ofO_none, Res.bind_bad, noX_bad] at q2
      exact q2.elim
    | some ρt =>
      refine tg_put (js := vs) sat2 rd hp ht fun σt st bt => ⟨?_, ?_⟩
      · rw [bt.wipe, wipe_wipe]
      · simp only [turnF, hp, ofO_some, Res.bind_ok, noX_bind, bind_assoc] at q2
        refine ⟨G2', ρt, Si, st, (At.bindX q2).mono fun k' H3 ⟨G3, ρ3, S3, k'', e3, s3, rk, q3⟩ => ?_⟩
        cases rk
        have hl3 : ρ3.length = σ2.length := by rw [s3.ln, bt.len, wipe_length]
        have w3 : wipe σt vs = wipe σ2 vs := by rw [bt.wipe, wipe_wipe]
        cases k' with
        | false =>
          rw [if_neg (by decide), noX_ok, Res.bind_ok] at q3
          refine iteF ⟨G3, ρ3, S3, acc, xs, hlt, (ei.trans e2).trans e3, (li.trans e2.exL).trans e3.exL, by rw [← w3]; exact s3.wipe vs, hl3, (e3.out D hO2.1).1, (e3.out D hO2.1).2.trans hO2.2, Reps.mono (e2.trans e3).toExF _ _ ra, q3⟩
        | true =>
          rw [if_pos rfl, noX_bind, bind_assoc] at q3
          refine iteT ⟨G3, ρ3, S3, s3, (At.bindX q3).mono fun v H4 ⟨G4, ρ4, S4, y, e4, s4, ry, q4⟩ => ?_⟩
          rw [noX_ok, Res.bind_ok] at q4
          dsimp only at q4
          obtain ⟨G5, e5, s5, r5⟩ := ry.freeze s4
          have q5 := q4
          have e35 := e4.trans e5
          have hD5 : G5.O D = .out ∧ H4 D = some (.lst xs) := ⟨(e35.out D (e3.out D hO2.1).1).1, (e35.out D (e3.out D hO2.1).1).2.trans ((e3.out D hO2.1).2.trans hO2.2)⟩
          have e25 := (e2.trans e3).trans e35
          have ra5 := Reps.mono e25.toExF _ _ ra
          split at q5
          · rename_i hz
            have hlen : xs.length < sizeLine := by rw [sizeLine_eq, ra5.length]; exact hz
            refine ⟨xs, hD5.2, hlen, ?_⟩
            -- the list grows
            have neD : ∀ a, G5.O a ≠ .out → a ≠ D := fun a h z => h (by rw [z]; exact hD5.1)
            have exF6 : ExF G5 H4 G5 (upd H4 D (.lst (xs ++ [v]))) := ⟨fun a h => ⟨h, upd_ne (neD a (by rw [h]; simp))⟩, [], by simp⟩
            have exL6 : ExL G5 H4 G5 (upd H4 D (.lst (xs ++ [v]))) := ⟨exF6, fun a j h => ⟨.inl h, upd_ne (neD a (by rw [h]; simp))⟩⟩
            have kc6 : KeepC G5 H4 G5 (upd H4 D (.lst (xs ++ [v]))) := ⟨rfl, fun a h => ⟨rfl, upd_ne (neD a (by rcases h with h | ⟨n, h⟩ | ⟨n, f, h⟩ <;> rw [h] <;> simp))⟩⟩
            have s6 : Sat (ct X cad) G5 (upd H4 D (.lst (xs ++ [v]))) σt ρ4 S4 := by
              refine ⟨s5.toSatS.keepC kc6 fun a h => ?_, fun j r hj => ?_, s5.ln⟩
              · have : a ≠ D := fun z => by rw [z, upd_same] at h; cases h
                rw [upd_ne this] at h
                exact s5.fr a h
              · have so := s5.sl j r hj
                cases r with
                | fz d =>
                  obtain ⟨w, h1, h2⟩ := so
                  exact ⟨w, h1, Rep.mono exF6 d w h2⟩
                | own es =>
                  obtain ⟨b, ys, h1, h2, h3, h4⟩ := so
                  exact ⟨b, ys, h1, h2, by rw [upd_ne (neD b (by rw [h2]; simp))]; exact h3, Reps.mono exF6 es ys h4⟩
            -- against the start: D was nothing there
            have e15 : ExE G1 H1 G5 H4 := ((ei.trans e2).trans e3).trans e35
            have e16 : ExE G1 H1 G5 (upd H4 D (.lst (xs ++ [v]))) := by
              refine ⟨⟨⟨fun a h => ?_, e15.pre⟩, fun a h => ?_⟩, fun a j h => ?_⟩
              · have ne : a ≠ D := fun z => by rw [z, hGD] at h; cases h
                exact ⟨(e15.frz a h).1, by rw [upd_ne ne]; exact (e15.frz a h).2⟩
              · have ne : a ≠ D := fun z => by rw [z, hGD] at h; cases h
                exact ⟨(e15.out a h).1, by rw [upd_ne ne]; exact (e15.out a h).2⟩
              · have ne : a ≠ D := fun z => by rw [z, hGD] at h; cases h
                exact ⟨(e15.slt a j h).1, by rw [upd_ne ne]; exact (e15.slt a j h).2⟩
            refine ⟨G5, ρ4, S4, acc ++ [y.d], xs ++ [v], hlt, e16, (li.trans e25.exL).trans exL6, ?_, by rw [s4.ln, bt.len, wipe_length], hD5.1, upd_same, reps_snoc (Reps.mono exF6 _ _ ra5) (Rep.mono exF6 _ _ r5), ?_⟩
            · rw [← w3]
              exact s6.wipe vs
            · exact q5
          · exact q5.elim
  · left
    have hie : i = ds.length := by omega
    subst hie
    refine ⟨wk.stops Gi Hi li, ?_⟩
    rw [List.drop_length] at qi
    unfold lcLoop at qi
    rw [Res.bind_ok] at qi
    exact fin Gi Hi ρi Si acc xs ei si hln hO hHD ra qi
/-- the new list is handed out -/
theorem lc_end {vs : List Nat} {σ : L2.St} {D : Addr} {G1 Gi : Gh} {H1 Hi : Hp} {ρ1 ρi : Rho} {S1 Si : Mem} {acc : List Sh.D} {xs : List V} {Q : VK} (s1 : Sat (ct X cad) G1 H1 σ ρ1 S1) (no : noOwn ρ1 vs ≠ false) (hGD : G1.O D = .free) (ei : ExE G1 H1 Gi Hi) (si : Sat (ct X cad) Gi Hi (wipe σ vs) (wipeE ρi vs) Si) (hO : Gi.O D = .out) (hHD : Hi D = some (.lst xs)) (ra : Reps (ct X cad) Gi Hi xs acc)
    (qi : At (ct X cad) W σ G1 H1 (.ok (.own acc) (backE ρ1 ρi vs) Si) (RepR (ct X cad)) Q) : Q (.ref D) Hi := by
  have ne : ∀ a, Gi.O a ≠ .out → a ≠ D := fun a h z => h (by rw [z]; exact hO)
  have su := Sat.unwipe s1 no ei si
  rw [backE_wipeE] at su
  have kc : KeepC Gi Hi (Gi.set D .tmp) Hi := ⟨rfl, fun a h => ⟨Gh.set_ne (ne a (by rcases h with h | ⟨n, h⟩ | ⟨n, f, h⟩ <;> rw [h] <;> simp)), rfl⟩⟩
  refine qi (.ref D) (Gi.set D .tmp) Hi ⟨⟨⟨fun a h => ?_, ei.pre⟩, fun a h => ?_⟩, fun a j h => ?_⟩ ⟨su.toSatS.keepC kc fun a h => ?_, fun j r hj => ?_, su.ln⟩ ⟨D, xs, rfl, Gh.set_same, hHD, Reps.mono kc.exF _ _ ra⟩
  · have na : a ≠ D := fun z => by rw [z, hGD] at h; cases h
    rw [Gh.set_ne na]
    exact ei.frz a h
  · have na : a ≠ D := fun z => by rw [z, hGD] at h; cases h
    rw [Gh.set_ne na]
    exact ei.out a h
  · have na : a ≠ D := fun z => by rw [z, hGD] at h; cases h
    rw [Gh.set_ne na]
    exact ei.slt a j h
  · have na : a ≠ D := fun z => by rw [z, hHD] at h; cases h
    rw [Gh.set_ne na]
    exact su.fr a h
  · have so := su.sl j r hj
    cases r with
    | fz d =>
      obtain ⟨v, h1, h2⟩ := so
      exact ⟨v, h1, Rep.mono kc.exF d v h2⟩
    | own es =>
      obtain ⟨b, ys, h1, h2, h3, h4⟩ := so
      exact ⟨b, ys, h1, by rw [Gh.set_ne (ne b (by rw [h2]; simp))]; exact h2, h3, Reps.mono kc.exF es ys h4⟩
theorem no_of {b : Bool} (h : ¬ b = false) : b ≠ false := h
/-- [elt for tg in it if ..]: its reading -/
theorem lc_rd {tg : Tg} {vs : List Nat} {le : LE} {li : LI} {cs : LEs} (ht : ∀ i ∈ tg.slots, i ∈ vs) {σ : L2.St} {H : Hp} {Q : VK} (q : Tr (ct X cad) W (den T (.lc vs le tg li cs)) (RepR (ct X cad)) σ H Q) :
    tLc (Tr (ct X cad) W (denI T li) (Wks (ct X cad) ExL)) (gOf X.K tg) (Tr (ct X cad) W0 (denC T cs) Eqv) (Tr (ct X cad) W0 (den T le) (RepR (ct X cad))) vs σ H Q := by
  simp only [Tr, den] at q
  refine Tr.seq q fun J H1 G1 ρ1 S1 ds s1 wk q1 => ?_
  intro D hD
  split at q1
  · exact q1.elim
  rename_i no
  obtain ⟨k0, s2⟩ := s1.new (o := .lst []) (w := .out) hD
  have hGD : G1.O D = .free := s1.fr D hD
  exact lc_turns (T := T) (W := W) (σ := σ) (cs := cs) (le := le) ht hGD k0.exE (wk.later fun G' H' e => k0.exE.exL.trans e) s2 Gh.set_same upd_same .nil (k := fun acc ρ' S => .ok (.own acc) (backE ρ1 ρ' vs) S) q1 fun G' H' ρ' S' acc' xs' e s _ hO hH ra q' => lc_end s1 no hGD e s hO hH ra q'
theorem wipe_sub {σ : L2.St} {vs vs1 : List Nat} (h : ∀ i ∈ vs1, i ∈ vs) : L2.wipe (L2.wipe σ vs1) vs = L2.wipe σ vs :=
  But.wipe ⟨wipe_length σ vs1, fun j hj => wipe_out fun z => hj (h j z)⟩
theorem wipeE_in {ρ : Rho} {i : Nat} : ∀ {vs : List Nat}, i ∈ vs → i < ρ.length → (wipeE ρ vs)[i]? = some none
  | [], h, _ => by cases h
  | v :: vs, h, hl => by
    unfold wipeE
    by_cases e : i = v
    · subst e
      rw [List.getElem?_set_self (by rw [wipeE_len]; exact hl)]
    · rw [List.getElem?_set_ne (Ne.symm e)]
      exact wipeE_in ((List.mem_cons.mp h).resolve_left e) hl
theorem wipeE_sub {ρ : Rho} {vs vs1 : List Nat} (h : ∀ i ∈ vs1, i ∈ vs) : wipeE (wipeE ρ vs1) vs = wipeE ρ vs := by
  apply List.ext_getElem?
  intro i
  by_cases hi : i ∈ vs
  · by_cases hl : i < ρ.length
    · rw [wipeE_in hi (by rw [wipeE_len]; exact hl), wipeE_in hi hl]
    · rw [List.getElem?_eq_none (by rw [wipeE_len, wipeE_len]; omega), List.getElem?_eq_none (by rw [wipeE_len]; omega)]
  · rw [wipeE_out hi, wipeE_out hi, wipeE_out fun z => hi (h i z)]
/-- [elt for tg in it if .. for tg1 in it1 if ..]: its reading -/
theorem lc2_rd {tg tg1 : Tg} {vs : List Nat} {le : LE} {li li1 : LI} {cs cs1 : LEs} (ht : ∀ i ∈ tg.slots, i ∈ vs) (ht1 : ∀ i ∈ tg1.slots, i ∈ vs) {σ : L2.St} {H : Hp} {Q : VK} (q : Tr (ct X cad) W (den T (.lc2 vs tg1.slots le tg li cs tg1 li1 cs1)) (RepR (ct X cad)) σ H Q) :
    tLc2 (Tr (ct X cad) W (denI T li) (Wks (ct X cad) ExL)) (gOf X.K tg) (Tr (ct X cad) W0 (denC T cs) Eqv) (Tr (ct X cad) W0 (denI T li1) (Wks (ct X cad) ExL)) (gOf X.K tg1) (Tr (ct X cad) W0 (denC T cs1) Eqv) (Tr (ct X cad) W0 (den T le) (RepR (ct X cad))) vs tg1.slots σ H Q := by
  simp only [Tr, den] at q
  refine Tr.seq q fun J H1 G1 ρ1 S1 ds s1 wk q1 => ?_
  intro D hD
  split at q1
  · exact q1.elim
  rename_i no
  obtain ⟨k0, s2⟩ := s1.new (o := .lst []) (w := .out) hD
  have hGD : G1.O D = .free := s1.fr D hD
  let P : Sh.D → Rho → Mem → Res (Option (List Sh.D)) := fun d ρ S => (ofO (tg.put d ρ) ρ S).bind fun ρ' _ S => (denC T cs ρ' S).bind fun k ρ S => if k = true then (denI T li1 ρ S).bind fun es ρ S => .ok (some es) ρ S else .ok none ρ S
  have q1 : At (ct X cad) W σ G1 H1 ((lc2Loop vs tg1.slots P (turnF T tg1 cs1 le) ds [] ρ1 S1).bind fun acc ρ' S => .ok (.own acc) (backE ρ1 ρ' vs) S) (RepR (ct X cad)) Q := q1
  let Pv : Nat → Hp → Prop := fun i Hi => ∃ Gi ρi Si acc xs, i ≤ ds.length ∧ ExE G1 H1 Gi Hi ∧ Sat (ct X cad) Gi Hi (wipe σ vs) (wipeE ρi vs) Si ∧ ρi.length = σ.length ∧ Gi.O D = .out ∧ Hi D = some (.lst xs) ∧ Reps (ct X cad) Gi Hi xs acc ∧
    At (ct X cad) W σ G1 H1 ((lc2Loop vs tg1.slots P (turnF T tg1 cs1 le) (ds.drop i) acc ρi Si).bind fun acc ρ' S => .ok (.own acc) (backE ρ1 ρ' vs) S) (RepR (ct X cad)) Q
  refine ⟨fun i m Hi => m = ds.length - i ∧ Pv i Hi, ⟨ds.length, by simp, G1.set D .out, ρ1, S1, [], [], Nat.zero_le _, k0.exE, s2.wipe vs, s1.ln, Gh.set_same, upd_same, .nil, by rw [List.drop_zero]; exact q1⟩, ?_⟩
  rintro i m Hi ⟨rfl, Gi, ρi, Si, acc, xs, hi, ei, si, hln, hO, hHD, ra, qi⟩
  by_cases hlt : i < ds.length
  · right
    refine ⟨wk.goes i Gi Hi hlt ei.exL, Pv (i + 1), fun H' p => ⟨ds.length - (i + 1), by omega, rfl, p⟩, fun x H' y => ?_⟩
    obtain ⟨G2, d, k2, sat2, hd, rd⟩ := wk.yields i x Gi Hi H' _ _ _ hlt ei.exL si y
    have hdr : ds.drop i = d :: ds.drop (i + 1) := by
      rw [List.drop_eq_getElem_cons hlt]
      congr 1
      have := List.getElem?_eq_getElem hlt
      rw [hd] at this
      exact (Option.some.inj this).symm
    rw [hdr] at qi
    unfold lc2Loop at qi
    rw [bind_assoc] at qi
    have e2 := k2.exE
    have q2 := qi
    have hO2 : G2.O D = .out ∧ H' D = some (.lst xs) := ⟨(e2.out D hO).1, (e2.out D hO).2.trans hHD⟩
    cases hp : tg.put d (wipeE ρi vs) with
    | none =>
      simp only [P, hp, ofO_none, Res.bind_bad, noX_bad] at q2
      exact q2.elim
    | some ρt =>
      refine tg_put (js := vs) sat2 rd hp ht fun σt st bt => ⟨?_, ?_⟩
      · rw [bt.wipe, wipe_wipe]
      · simp only [P, hp, ofO_some, Res.bind_ok, noX_bind, bind_assoc] at q2
        refine ⟨G2, ρt, Si, st, (At.bindX q2).mono fun k' H3 ⟨G3, ρ3, S3, k'', e3, s3, rk, q3⟩ => ?_⟩
        cases rk
        have hl3 : ρ3.length = σ.length := by rw [s3.ln, bt.len, wipe_length]
        have w3 : wipe σt vs = wipe σ vs := by rw [bt.wipe, wipe_wipe]
        cases k' with
        | false =>
          rw [if_neg (by decide), noX_ok, Res.bind_ok] at q3
          exact iteF ⟨G3, ρ3, S3, acc, xs, hlt, (ei.trans e2).trans e3, by rw [← w3]; exact s3.wipe vs, hl3, (e3.out D hO2.1).1, (e3.out D hO2.1).2.trans hO2.2, Reps.mono (e2.trans e3).toExF _ _ ra, q3⟩
        | true =>
          rw [if_pos rfl, noX_bind, bind_assoc] at q3
          refine iteT ⟨G3, ρ3, S3, s3, (At.bindX q3).mono fun J1 H4 ⟨G4, ρ4, S4, es, e4, s4, wk1, q4⟩ => ?_⟩
          rw [noX_ok, Res.bind_ok] at q4
          dsimp only at q4
          rw [bind_assoc] at q4
          have e24 := (e2.trans e3).trans e4
          have hD4 : G4.O D = .out ∧ H4 D = some (.lst xs) := ⟨(e24.out D hO).1, (e24.out D hO).2.trans hHD⟩
          refine lc_turns (T := T) (W := W) (σ := σ) (cs := cs1) (le := le) (tg := tg1) (fun i h => h) hGD (ei.trans e24) wk1 s4 hD4.1 hD4.2 (Reps.mono e24.toExF _ _ ra) q4 fun G' H' ρ' S' acc' xs' e s hl hO' hH' ra' q' => ?_
          have sw := s.wipe vs
          rw [wipe_sub ht1, wipeE_sub ht1, w3] at sw
          exact ⟨G', ρ', S', acc', xs', hlt, e, sw, by rw [hl, bt.len, wipe_length], hO', hH', ra', q'⟩
  · left
    have hie : i = ds.length := by omega
    subst hie
    refine ⟨wk.stops Gi Hi ei.exL, ?_⟩
    rw [List.drop_length] at qi
    unfold lc2Loop at qi
    rw [Res.bind_ok] at qi
    exact lc_end s1 no hGD ei si hO hHD ra qi
end
end Sh


/-! ShObj: fields and methods of objects. -/
namespace Sh
open PySem PySem.Spec PyProof.Rows L2 RZ
section
variable {X : Cx} {cad : Str → Option Addr} {T : Tab} {W : WX} {n : Nat} {c : CC} {a e : Expr} {la l : LE} {pos p : Pos}
theorem base_of {o : Expr} {f : Str} {env : PySem.Env} (h : baseOk o = true) : attributeBase o f env (eval o env) = eval o env := by
  cases o with
  | Name _ _ => rfl
  | Attribute _ _ _ => rfl
  | Subscript _ _ _ => rfl
  | ListComp _ _ _ _ => rfl
  | Call g es ks q =>
    cases g with
    | Name _ _ =>
      cases es with
      | nil =>
        cases ks with
        | nil => exact abase_call h
        | cons _ _ => cases h
      | cons _ _ => rfl
    | Attribute _ _ _ => rfl
    | _ => cases h
  | _ => cases h
theorem repF_get {C : Ct} {G : Gh} {H : Hp} {f : Str} {d : D} : ∀ {fs : List (Str × V)} {ds : List (Str × D)}, RepF C G H fs ds → ds.lookup f = some d → ∃ v, fs.lookup f = some v ∧ Rep C G H v d
  | _, [], _, h => by cases h
  | _, (g, x) :: ds, r, h => by
    cases r with
    | cons r1 r2 =>
      rw [List.lookup_cons] at h
      rw [List.lookup_cons]
      split at h
      · cases h
        exact ⟨_, rfl, r1⟩
      · exact repF_get r2 h
theorem repF_none {C : Ct} {G : Gh} {H : Hp} {f : Str} : ∀ {fs : List (Str × V)} {ds : List (Str × D)}, RepF C G H fs ds → ds.lookup f = none → fs.lookup f = none
  | _, [], r, h => by cases r; rfl
  | _, (g, x) :: ds, r, h => by
    cases r with
    | cons r1 r2 =>
      rw [List.lookup_cons] at h
      rw [List.lookup_cons]
      split at h
      · cases h
      · exact repF_none r2 h
theorem fldsOk_get {C : Ct} {G : Gh} {H : Hp} {n : Nat} {f : Str} {x : RV} : ∀ {fs : List (Str × RV)} {vs : List (Str × V)}, FldsOk C G H n fs vs → fs.lookup f = some x → ∃ v, vs.lookup f = some v ∧ FldOk C G H n f v x
  | [], _, _, h => by cases h
  | (g, y) :: fs, _, r, h => by
    cases r with
    | cons r1 r2 =>
      rename_i q vs
      obtain ⟨k, w⟩ := q
      obtain ⟨e, r1⟩ := r1
      dsimp only at e r1
      subst e
      rw [List.lookup_cons] at h
      rw [List.lookup_cons]
      split at h
      · rename_i eq
        cases h
        have := eq_of_beq eq
        subst this
        exact ⟨_, rfl, r1⟩
      · exact fldsOk_get r2 h
theorem fldsOk_none {C : Ct} {G : Gh} {H : Hp} {n : Nat} {f : Str} : ∀ {fs : List (Str × RV)} {vs : List (Str × V)}, FldsOk C G H n fs vs → fs.lookup f = none → vs.lookup f = none
  | [], _, r, h => by cases r; rfl
  | (g, y) :: fs, _, r, h => by
    cases r with
    | cons r1 r2 =>
      rename_i q vs
      obtain ⟨k, w⟩ := q
      obtain ⟨e, r1⟩ := r1
      dsimp only at e r1
      subst e
      rw [List.lookup_cons] at h
      rw [List.lookup_cons]
      split at h
      · cases h
      · exact fldsOk_none r2 h
/-- what o.f is, field, property or the class's own -/
def tAttr (T : Tab) (C : Ct) (W : WX) (X : Cx) (f : Str) (x : V) (H : Hp) (Q : VK) : Prop :=
  ∃ σ G ρ S d, Sat C G H σ ρ S ∧ RepB C G H x d ∧ At C W σ G H (match prOf T S d f with
    | some fn => noX ((fn [d] S).res ρ)
    | none => ofO (fldOf T S d f) ρ S) (RepR C) Q
theorem attr_run {f : Str} {b : Bool} {pins : List (Addr × Obj)} {s : Shared} {σ : L2.St} {H : Hp} {x : V} {u : Value} {Q : VK} (g : Good X cad T W n c) (I : L2.Inv X pins σ H s) (rx : RelV x u) (h : tAttr T (ct X cad) W X f x H Q) : wpAny (model X.prog X.w) X.A (getAttr u f b) (EP X pins σ Q) X.xe s := by
  obtain ⟨σ', G, ρ, S, d, sat, r, h⟩ := h
  cases e : prOf T S d f with
  | some fn =>
    rw [e] at h
    dsimp only at h
    obtain ⟨cc, e3, e4⟩ := pr_at e
    have r' := b_rep e3 r
    obtain ⟨A, a, dx, fs, e5, rfl, e6⟩ := cls_at sat r' e3
    obtain ⟨cl, p, gt, fd, ps, j, hp, hj, F⟩ := g.tab.pr cc _ fn e4 A e5
    obtain rfl : u = Value.ref a := rx
    have h0 := noX_At h
    obtain ⟨F1, F2, F3⟩ := F
    have hl : ([V.ref a] : List V).length = ps.length := by rw [← F3 _ _ (bad_or (α := RV) h0)]; rfl
    have sp := call_sp hl sat (.cons r' .nil) h0
    exact getprop_ok (dvs := []) (ds := []) (E := E0) I e6 cl hp F1 (g.room.mono hj) F2 .nil (fun pins σ H s e s' I q => by
      obtain ⟨_, _, _, _, _, _, _, _, _, _, _, _, z⟩ := q
      exact z.elim) sp
  | none =>
    rw [e] at h
    dsimp only at h
    cases d with
    | obj cc fs =>
      have r := r.rep (fun _ e => nomatch e)
      cases r with
      | obj h1 h2 h3 h4 =>
        unfold fldOf at h
        dsimp only at h
        split at h
        · rename_i hf
          cases e : fs.lookup f with
          | none => rw [e] at h; exact h.elim
          | some d =>
            rw [e] at h
            obtain ⟨w, e1, rw1⟩ := repF_get h4 e
            have q := h w G H (.refl _ _) sat rw1
            obtain rfl := (show u = Value.ref _ from rx)
            exact getattr_ok I h2 (g.tab.na _ _ _ hf h3).1 (g.tab.na _ _ _ hf h3).2 e1 fun u' s2 I2 ru => ⟨w, H, I2, ru, q⟩
        · exact h.elim
    | loc m =>
      have r := r.rep (fun _ e => nomatch e)
      cases r with
      | loc h1 =>
        unfold fldOf at h
        dsimp only at h
        split at h
        · rename_i cc fs ho
          split at h
          · rename_i hf
            split at h
            · rename_i d e
              obtain ⟨a2, q1, q2⟩ := sat.ob m _ ho
              rw [h1] at q1
              cases q1
              obtain ⟨q3, A, dx, vs, q4, q5, q6⟩ := q2
              obtain ⟨w, e1, rw1⟩ := fldsOk_get q6 e
              have q := h w G H (.refl _ _) sat rw1
              obtain rfl := (show u = Value.ref _ from rx)
              exact getattr_ok I q5 (g.tab.na _ _ _ hf q4).1 (g.tab.na _ _ _ hf q4).2 e1 fun u' s2 I2 ru => ⟨w, H, I2, ru, q⟩
            · exact h.elim
          · exact h.elim
        · exact h.elim
    | cls cc =>
      have r := r.rep (fun _ e => nomatch e)
      cases r with
      | cls h1 =>
        unfold fldOf at h
        dsimp only at h
        cases e : T.cn cc f with
        | none => rw [e] at h; exact h.elim
        | some d =>
          rw [e] at h
          obtain ⟨mc, v, u2, k1, k2, k3⟩ := g.tab.cn cc f d e _ h1
          obtain rfl := (show u = Value.ref _ from rx)
          exact ClX.getcval_ok I k1 k2 fun s2 I2 => ⟨v, H, I2, k2.rel, h v G H (.refl _ _) sat (k3 G H)⟩
    | _ => exact (show False from h).elim
/-- o.f -/
theorem fld_E {f : Str} (g : Good X cad T W n c) (hb : baseOk a = true) (h : BOk X cad T W a la) : EOk X cad T W (.Attribute a f pos) (.fld la f) := by
  refine ⟨fun pins s σ H Q I q => ?_⟩
  simp only [Tr, den] at q
  refine attr_of (base_of hb) (thn (h.run pins s σ H (fun x H1 => tAttr T (ct X cad) W X f x H1 Q) I (Tr.seq q fun v H1 G1 ρ1 S1 d s r h => ⟨σ, G1, ρ1, S1, d, s, r, h⟩)) fun u s1 ⟨x, H1, I1, rx, q1⟩ => attr_run g I1 rx q1)
theorem frz_E (h : EOk X cad T W e l) : PE X e (Tr (ct X cad) W (fun ρ S => (den T l ρ S).map RV.d) (Rep (ct X cad))) := PE.weak h fun σ H Q q => Tr.freeze q
theorem meth_run {M : Model} {A : Around} {E : Value → Shared → Prop} {env : PySem.Env} {o : Expr} {name : Str} {apos : Pos} {es : List Expr} {Q : Value → Shared → Prop} {s : Shared} (hbase : attributeBase o name env (eval o env) = eval o env)
    (hp : (backTo pos (starEach es env)).any (·.1) = false) (hn : es.length < 29) (hline : (apos.endLine == pos.line) = true)
    (h : wpAny M A (eval o env) (fun ov s₁ => wpAny M A (getMethod ov name (do return (← importBound o env).getD true)) (fun fx s₂ => wpAny M A (callWith pos fx.1 fx.2 (backTo pos (starEach es env)) (backToKw pos (keywordEach [] env))) Q E s₂) E s₁) E s) :
    wpAny M A (eval (.Call (.Attribute o name apos) es [] pos) env) Q E s := by
  have hall : (backTo pos (starEach es env)).all (fun x => !x.1) = true := by
    rw [List.any_eq_false] at hp
    rw [List.all_eq_true]
    intro x hx
    have := hp x hx
    simpa using this
  have hform : methodCallForm (es.length + ([] : List Keyword).length) (backTo pos (starEach es env)) (backToKw pos (keywordEach [] env)) = true := by
    unfold methodCallForm
    rw [hall]
    simp only [List.length_nil, Nat.add_zero, Bool.true_and, Bool.and_eq_true, decide_eq_true_eq]
    refine ⟨rfl, ?_⟩
    show es.length + (if ((backToKw pos (keywordEach [] env)).isEmpty) = true then 0 else 1) < 30
    split <;> omega
  rw [arm_eval_Call, hbase]
  refine wpAny_bind (wpAny_mono h (fun ov s₁ h₁ => ?_) fun _ _ e => e)
  refine wpAny_bind (wpAny_standAt ?_)
  have hpos : methodCallPos true o env apos pos = pure pos := by unfold methodCallPos; simp [hline]
  unfold methodCall
  rw [hform]
  refine wpAny_bind (wpAny_holding (wpAny_mono (show wpAny M A (calleeOf true o env ov name) _ E s₁ from h₁) (fun fx s₂ h₂ => ?_) fun _ _ e => e))
  exact wpAny_bind (wpAny_of_eq hpos h₂)
/-- the class of what is called, and what stands there -/
theorem mth_at {G : Gh} {H : Hp} {σ : L2.St} {ρ : Rho} {S : Mem} {v : V} {d : D} {m cc : Str} {fn : Fn} (s : Sat (ct X cad) G H σ ρ S) (r : Rep (ct X cad) G H v d) (h : mthOf T S d m = some (cc, fn)) : T.mt cc m = some fn ∧ ∃ A b dx fs, cad cc = some A ∧ v = .ref b ∧ H b = some (.ins A dx fs) ∧ fs.lookup m = none := by
  cases d with
  | obj c2 fs =>
    cases r with
    | obj h1 h2 h3 h4 =>
      unfold mthOf at h
      dsimp only at h
      split at h
      · rename_i hn
        cases e : T.mt c2 m with
        | none => rw [e] at h; cases h
        | some f2 =>
          rw [e] at h
          cases h
          exact ⟨e, _, _, _, _, h3, rfl, h2, repF_none h4 (by simpa using hn)⟩
      · cases h
  | loc n2 =>
    cases r with
    | loc h1 =>
      unfold mthOf at h
      dsimp only at h
      split at h
      · rename_i c2 fs ho
        split at h
        · rename_i hn
          cases e : T.mt c2 m with
          | none => rw [e] at h; cases h
          | some f2 =>
            rw [e] at h
            cases h
            obtain ⟨a2, q1, q2⟩ := s.ob n2 _ ho
            rw [h1] at q1
            cases q1
            obtain ⟨q3, A, dx, vs, q4, q5, q6⟩ := q2
            exact ⟨e, _, _, _, _, q4, rfl, q5, fldsOk_none q6 (by simpa using hn)⟩
        · cases h
      · cases h
  | _ => cases h
/-- o.m(..) -/
theorem mth_E {m : Str} {apos : Pos} {es : List Expr} {ls : LEs} (g : Good X cad T W n c) (hb : baseOk a = true) (h0 : EOk X cad T W a la) (hp : ∀ e ∈ es, Plain e) (hnil : es = [] → ls = .nil) (h : AOk X cad T W es ls) (hn : es.length < 29) (hline : (apos.endLine == pos.line) = true) :
    EOk X cad T W (.Call (.Attribute a m apos) es [] pos) (.mth la m ls) := by
  refine ⟨fun pins s σ H Q I q => ?_⟩
  simp only [Tr, den] at q
  refine meth_run (base_of hb) (plain_any hp) hn hline (thn ((frz_E h0).run pins s σ H (fun v H1 => ∃ G1 ρ1 S1 d, Sat (ct X cad) G1 H1 σ ρ1 S1 ∧ Rep (ct X cad) G1 H1 v d ∧ At (ct X cad) W σ G1 H1 (match mthOf T S1 d m with
      | some (_, fn) => (denEs T ls ρ1 S1).bind fun ds ρ S => (fn (d :: ds) S).res ρ
      | none => .bad) (RepR (ct X cad)) Q) I (Tr.seq q fun v H1 G1 ρ1 S1 d s r h => ⟨G1, ρ1, S1, d, s, r, h⟩)) fun u s1 ⟨x, H1, I1, rx, G1, ρ1, S1, d, sat1, r1, q1⟩ => ?_)
  cases e : mthOf T S1 d m with
  | none => rw [e] at q1; exact q1.elim
  | some p =>
    obtain ⟨cc, fn⟩ := p
    rw [e] at q1
    dsimp only at q1
    obtain ⟨e1, A, b, dx, fs, e2, rfl, e3, e4⟩ := mth_at sat1 r1 e
    obtain rfl : u = Value.ref b := rx
    obtain ⟨hcl, f, fd, ps, hm, F, hb, hbad⟩ := g.tab.mt cc m fn e1 A e2
    refine getmeth_ok I1 e3 hcl hm e4 ?_
    have hA := h.run pos pins s1 σ H1 (fun vs H2 => ∃ G2 ρ2 S2 ds, Sat (ct X cad) G2 H2 σ ρ2 S2 ∧ Reps (ct X cad) G2 H2 (.ref b :: vs) (d :: ds) ∧ At (ct X cad) W σ G2 H2 ((fn (d :: ds) S2).res ρ2) (RepR (ct X cad)) Q) I1
      ⟨G1, ρ1, S1, sat1, (At.bind q1).mono fun vs H2 ⟨G2, ρ2, S2, ds, x2, s2, r2, q2⟩ => ⟨G2, ρ2, S2, ds, s2, .cons (Rep.mono x2.toExF d _ r1) r2, q2⟩⟩
    cases es with
    | nil =>
      rw [hnil rfl] at q1
      simp only [denEs, Res.bind_ok] at q1
      exact PySem.W.callWith_K0 (first := [.ref b]) I1.kIn hm.kp (run_S (us := [.ref b]) (vs := [.ref b]) g F hb I1 (.cons rfl .nil) (by rw [← hbad _ _ (bad_or (α := RV) q1)]; rfl) sat1 (.cons r1 .nil) q1)
    | cons e5 es =>
      refine PySem.W.callWith_K (first := [.ref b]) (h₀ := X.base) I1.ok.mod.kin hm.kp (thn hA fun us s2 ⟨vs, H2, I2, r, G2, ρ2, S2, ds, sat2, r2, q2⟩ => ⟨I2.kIn, ?_⟩) (hp e5 List.mem_cons_self es _) (plain_any fun x hx => hp x (List.mem_cons_of_mem _ hx))
      exact run_S (us := .ref b :: us) (vs := .ref b :: vs) g F hb I2 (.cons rfl r) (by rw [← hbad _ _ (bad_or (α := RV) q2)]; exact r2.length) sat2 r2 q2
/-! ### comparisons -/
/-- what stands right of a comparison: looked at, or frozen -/
theorem cmp_rhs {b : Expr} {lb : LE} (h : EOk X cad T W b lb) (hb : BOk X cad T W b lb) : PE X b (fun σ H Q => Tr (ct X cad) W (fun ρ S => (den T lb ρ S).map RV.d) (Rep (ct X cad)) σ H Q ∨ Tr (ct X cad) W (denB T lb) (RepB (ct X cad)) σ H Q) :=
  ⟨fun pins s σ H Q I q => by
    rcases q with q | q
    · exact (frz_E h).run pins s σ H Q I q
    · exact hb.run pins s σ H Q I q⟩
theorem cmp_op (g : Good X cad T W n c) {op : CmpOp} : OpR X (compareOp op) (fun x y H Q => StC (ct X cad) x y H op Q ∨ StE T (ct X cad) W op x y H Q) := OpR.or (op_cmp (cad := cad) g.room) (op_cmpE g)
theorem cmp_rd {op : CmpOp} {la lb : LE} {σ : L2.St} {H : Hp} {α : Type} {β : Type} {R : Gh → Hp → β → α → Prop} {Q : β → Hp → Prop} {Q1 : VK} {f : Bool → Rho → Mem → Res α}
    (q : Tr (ct X cad) W (fun ρ S => (denB T la ρ S).bind fun x ρ S => if (eqM T S op x).isSome = true then ((den T lb ρ S).map RV.d).bind fun y ρ S => (cmpM T op x y ρ S).bind f else (denB T lb ρ S).bind fun y ρ S => (ofO (opCmp op x y) ρ S).bind f) R σ H Q)
    (hq : ∀ k G H ρ S, Sat (ct X cad) G H σ ρ S → At (ct X cad) W σ G H (f k ρ S) R Q → Q1 (.bl k) H) :
    Tr (ct X cad) W (denB T la) (RepB (ct X cad)) σ H fun x H1 => (Tr (ct X cad) W (fun ρ S => (den T lb ρ S).map RV.d) (Rep (ct X cad)) σ H1 fun y H2 => StC (ct X cad) x y H2 op Q1 ∨ StE T (ct X cad) W op x y H2 Q1) ∨ Tr (ct X cad) W (denB T lb) (RepB (ct X cad)) σ H1 fun y H2 => StC (ct X cad) x y H2 op Q1 ∨ StE T (ct X cad) W op x y H2 Q1 := by
  refine Tr.seq q fun x H1 G1 ρ1 S1 d s1 r1 h1 => ?_
  split at h1
  · refine .inl ⟨G1, ρ1, S1, s1, (At.bind h1).mono fun y H2 ⟨G2, ρ2, S2, e, e2, s2, r2, h2⟩ => .inr ⟨σ, G2, ρ2, S2, d, e, s2, r1.mono e2, r2, ?_⟩⟩
    cases z : cmpM T op d e ρ2 S2 with
    | ok k ρ3 S3 =>
      rw [z] at h2
      intro v G3 H3 e3 s3 r3
      cases r3
      exact hq k G3 H3 ρ3 S3 s3 (At.ext h2 e3)
    | exc x ρ3 S3 =>
      rw [z] at h2
      exact h2
    | bad =>
      rw [z] at h2
      exact h2
  · refine .inr ⟨G1, ρ1, S1, s1, (At.bind h1).mono fun y H2 ⟨G2, ρ2, S2, e, e2, s2, r2, h2⟩ => .inl ?_⟩
    cases z : opCmp op d e with
    | none => rw [z] at h2; exact h2.elim
    | some k =>
      rw [z] at h2
      exact ⟨σ, G2, ρ2, S2, d, e, k, s2, r1.mono e2, r2, z, hq k G2 H2 ρ2 S2 s2 h2⟩
theorem cmp_E {a b : Expr} {op : CmpOp} {la lb : LE} {pos : Pos} (g : Good X cad T W n c) (ha : BOk X cad T W a la) (h : EOk X cad T W b lb) (hb : BOk X cad T W b lb) (hm : behindInMarks op b = false) : EOk X cad T W (.Compare a [op] [b] pos) (.cmp op la lb) :=
  PE.weak (pe_cmpR (cmp_op g) ha (cmp_rhs h hb) hm) fun σ H Q q => by
    simp only [Tr, den, map_eq_bind (f := fun k => RV.fz (D.bl k))] at q
    exact cmp_rd q fun k G H ρ S s h => h _ G H (.refl _ _) s (.bl _)
theorem cmp_T {a b : Expr} {op : CmpOp} {la lb : LE} {pos : Pos} (g : Good X cad T W n c) (ha : BOk X cad T W a la) (h : EOk X cad T W b lb) (hb : BOk X cad T W b lb) (hm : behindInMarks op b = false) : TOk X cad T W (.Compare a [op] [b] pos) (.cmp op la lb) := by
  refine PT.weak (pt_cmpR (cmp_op g) ha (cmp_rhs h hb) hm) fun σ H Q q => ?_
  simp only [Tr, den, map_eq_bind (f := fun k => RV.fz (D.bl k)), tstR_bind, tstR_ite, tstR_bl] at q
  exact cmp_rd (f := fun k ρ S => .ok k ρ S) (Q1 := fun z H' => ∃ k, z = .bl k ∧ Q k H') q fun k G H ρ S s h => ⟨k, rfl, h k G H (.refl _ _) s rfl⟩
/-! ### reversed, formatted -/
theorem reps_rev {C : Ct} {G : Gh} {H : Hp} : ∀ {ds : List D} {xs : List V}, Reps C G H xs ds → Reps C G H xs.reverse ds.reverse
  | [], _, h => by cases h; exact .nil
  | d :: ds, _, h => by
    cases h with
    | cons h1 h2 =>
      rw [List.reverse_cons, List.reverse_cons]
      exact (reps_rev h2).append (.one h1)
theorem rev_E {p1 p2 p3 : Pos} {j : Nat} (h : BOk X cad T W a la) : EOk X cad T W (.Subscript a (.Slice none none (some (.UnaryOp .USub (.Constant (.int 1) j p1) p2)) p3) pos) (.rev la) :=
  PE.weak (pe_rev h) fun σ H Q q => by
    simp only [Tr, den] at q
    refine Tr.seq q fun v H1 G1 ρ1 S1 d s r h => ?_
    cases d with
    | lst ds =>
      obtain ⟨a, xs, rfl, hl, rr⟩ := r.lst
      exact ⟨a, xs, rfl, hl, fun p hp => new_lst s hp (reps_rev rr) h⟩
    | _ => exact (show False from h).elim
theorem lens_E {p p2 q : Pos} (g : Good X cad T W n c) (hg : isGlob c "len" = true) (hg2 : isGlob c "set" = true) (hp : Plain a) (h : BOk X cad T W a la) : EOk X cad T W (.Call (.Name "len" p) [.Call (.Name "set" p2) [a] [] q] [] pos) (.lens la) := by
  refine PE.weak (pe_lens g.calm (glob_of g hg) (g.tab.bl _ (by decide +kernel)) (glob_of g hg2) (g.tab.bl _ (by decide +kernel)) h (hp _ _)) fun σ H Q q => ?_
  simp only [Tr, den] at q
  refine Tr.seq q fun v H1 G1 ρ1 S1 d s r h => ?_
  cases d with
  | lst ds =>
    obtain ⟨l, vs, rfl, hl, rr⟩ := r.lst
    unfold opLens at h
    dsimp only at h
    split at h
    · rename_i xs ex
      split at h
      · rename_i hz
        have := strsOf_reps rr ex
        subst this
        exact ⟨l, xs, rfl, hl, hz, h _ G1 H1 (.refl _ _) s (.int _)⟩
      · exact h.elim
    · exact h.elim
  | _ => exact (show False from h).elim
theorem fmt_E (h : BOk X cad T W a la) : EOk X cad T W (.FormattedValue a (-1) none pos) (.fmt la) :=
  PE.weak (pe_fmt h) fun σ H Q q => by
    simp only [Tr, den] at q
    refine Tr.seq q fun v H1 G1 ρ1 S1 d s r h => ?_
    unfold opFmt at h
    split at h
    · have e := bstr r; subst e
      split at h
      · rename_i hz
        exact .inl ⟨_, rfl, LINE_le hz, h _ G1 H1 (.refl _ _) s (.str _)⟩
      · exact h.elim
    · have e := bint r; subst e
      split at h
      · rename_i hz
        exact .inr ⟨_, rfl, hz, h _ G1 H1 (.refl _ _) s (.str _)⟩
      · exact h.elim
    · exact h.elim
/-- the parts of a formatted text -/
inductive FOk (X : Cx) (cad : Str → Option Addr) (T : Tab) (W : WX) : List Expr → LEs → Prop where
  | nil : FOk X cad T W [] .nil
  | cons {e : Expr} {l : LE} {es : List Expr} {ls : LEs} : EOk X cad T W e l → FOk X cad T W es ls → FOk X cad T W (e :: es) (.cons l ls)
def fTs (X : Cx) (cad : Str → Option Addr) (T : Tab) (W : WX) : LEs → List TE
  | .nil => []
  | .cons l ls => Tr (ct X cad) W (den T l) (RepR (ct X cad)) :: fTs X cad T W ls
  | .star _ _ => []
theorem fst_pj : ∀ {es : List Expr} {ls : LEs}, FOk X cad T W es ls → PJ X es (fTs X cad T W ls)
  | _, _, .nil => .nil
  | _, _, .cons h t => .cons h (fst_pj t)
theorem fst_rd {σ : L2.St} {Q : Str → Hp → Prop} : ∀ {es : List Expr} {ls : LEs} {acc : Str} {H : Hp}, FOk X cad T W es ls → Tr (ct X cad) W (denF T ls acc) Eqv σ H Q → tJs (fTs X cad T W ls) acc σ H Q
  | _, _, acc, H, .nil, q => by
    obtain ⟨G, ρ, S, s, q⟩ := q
    simp only [denF] at q
    exact q acc G H (.refl _ _) s rfl
  | _, _, acc, H, .cons h t, q => by
    simp only [Tr, denF] at q
    refine Tr.seq q fun v H1 G1 ρ1 S1 a s r h1 => ?_
    cases a with
    | own ds => exact h1.elim
    | fz d =>
      cases d with
      | str y =>
        dsimp only at h1
        split at h1
        · rename_i hz
          cases r
          exact ⟨y, rfl, LINE_le (by rw [Str.length_append]; exact hz), fst_rd t ⟨G1, ρ1, S1, s, h1⟩⟩
        · exact h1.elim
      | _ => exact h1.elim
theorem fst_E {v1 v2 : Expr} {es : List Expr} {ls : LEs} (h : FOk X cad T W (v1 :: v2 :: es) ls) : EOk X cad T W (.JoinedStr (v1 :: v2 :: es) pos) (.fst ls) :=
  PE.weak (pe_joined (fst_pj h)) fun σ H Q q => by
    refine fst_rd h ?_
    obtain ⟨G, ρ, S, s, q⟩ := q
    simp only [den] at q
    exact ⟨G, ρ, S, s, At.map (R := Eqv) (f := fun x => RV.fz (.str x)) q fun G' H' ρ' S' b a e s' r k => by
      cases r
      exact k (.str b) G' (.refl _ _) s' (.str _)⟩
/-! ### the place of an item -/
theorem pys_get : ∀ {ds : List D} {j : Nat} {d : D}, ds[j]? = some d → (D.pys ds)[j]? = some d.py
  | [], _, _, h => by simp at h
  | x :: ds, 0, d, h => by simp at h; subst h; rfl
  | x :: ds, j + 1, d, h => pys_get (ds := ds) (j := j) (by simpa using h)
theorem pys_getV : ∀ {ds : List D} {j : Nat} {z : PyData}, (D.pys ds)[j]? = some z → ∃ d, ds[j]? = some d ∧ z = d.py
  | [], j, _, h => by
    have : (D.pys []) = [] := rfl
    rw [this] at h
    simp at h
  | x :: ds, 0, z, h => by
    have h : some x.py = some z := h
    cases h
    exact ⟨x, rfl, rfl⟩
  | x :: ds, j + 1, z, h => pys_getV (ds := ds) (j := j) h
theorem firstD_at {d : D} : ∀ {ds : List D} {j : Nat}, firstD d ds = some j → (∃ e, ds[j]? = some e ∧ e.eqv d = true) ∧ ∀ m e, m < j → ds[m]? = some e → e.eqv d = false
  | [], _, h => by cases h
  | x :: ds, j, h => by
    unfold firstD at h
    split at h
    · rename_i hx
      cases h
      exact ⟨⟨x, rfl, hx⟩, fun m e hm => by omega⟩
    · rename_i hx
      cases e : firstD d ds with
      | none => rw [e] at h; cases h
      | some k =>
        rw [e] at h
        cases h
        obtain ⟨⟨e1, h1, h2⟩, h3⟩ := firstD_at e
        refine ⟨⟨e1, by simpa using h1, h2⟩, fun m e2 hm he => ?_⟩
        cases m with
        | zero =>
          simp at he
          subst he
          exact Bool.eq_false_iff.mpr hx
        | succ m => exact h3 m e2 (Nat.lt_of_succ_lt_succ hm) (by simpa using he)
theorem tyV_lst {K : PySem.W.Frag} {H : Hp} {a : Addr} {xs : List V} (h : SqL K H a xs) : tyV K "list" (.ref a) H := .inl ⟨rfl, xs, h⟩
theorem ixo_E {apos cpos : Pos} (g : Good X cad T W n c) (hb : baseOk a = true) (ha : BOk X cad T W a la) (h : BOk X cad T W e l) (hp : Plain e) (hline : (apos.endLine == cpos.line) = true) : EOk X cad T W (.Call (.Attribute a ("index" : Str) apos) [e] [] cpos) (.ixo la l) := by
  refine PE.weak (pe_bm (apos := apos) (cpos := cpos) PySem.F.plainAttrs_list PySem.F.slot_list_index PySem.F.type_list_index (mt_indexD (room65 g.room)) ha (pa_cons h pa_nil (hp _ _)) (hbase := base_of hb) (hfew := by rw [show starEach [e] X.env = (false, eval e X.env) :: starEach [] X.env from hp _ _]; rfl) (hline := hline) (hs := hp _ _)) fun σ H Q q => ?_
  simp only [Tr, den] at q
  obtain ⟨G, ρ, S, s, q⟩ := q
  refine ⟨G, ρ, S, s, ?_⟩
  cases hd : denB T la ρ S with
  | bad => rw [hd] at q; exact q
  | exc x ρ1 S1 => rw [hd] at q; exact q
  | ok d ρ1 S1 =>
    rw [hd] at q
    simp only [Res.bind_ok] at q
    cases d with
    | lst ds =>
      dsimp only at q
      intro v G1 H1 e1 s1 r1
      obtain ⟨A, xs, rfl, hs, rr⟩ := r1.lst
      refine ⟨tyV_lst hs, G1, ρ1, S1, s1, (At.bind (At.ext q e1)).mono fun w H2 ⟨G2, ρ2, S2, y, e2, s2, r2, q2⟩ => ?_⟩
      have r1' := r1.mono e2
      unfold opIxo at q2
      split at q2
      · rename_i hz
        have hz := Bool.and_eq_true_iff.mp hz
        cases e : firstD y ds with
        | none => rw [e] at q2; exact q2.elim
        | some j =>
          rw [e] at q2
          obtain ⟨⟨z, k1, k2⟩, k3⟩ := firstD_at e
          refine ⟨A, w, y.py, D.pys ds, j, z.py, rfl, rfl, r1'.dp (eqOk_1 hz.2), r2.dp (eqOk_1 hz.1), eqOk_2 hz.2, eqOk_2 hz.1, pys_get k1, k2, fun m z' hm hz' => ?_, q2 _ G2 H2 (.refl _ _) s2 (.int _)⟩
          obtain ⟨d2, k4, rfl⟩ := pys_getV hz'
          exact k3 m d2 hm k4
      · exact q2.elim
    | _ => exact (show False from q).elim
/-- o.m(.., k=..) -/
theorem meth_runK {M : Model} {A : Around} {E : Value → Shared → Prop} {env : PySem.Env} {o : Expr} {name : Str} {apos : Pos} {es : List Expr} {kws : List Keyword} {Q : Value → Shared → Prop} {s : Shared} (hbase : attributeBase o name env (eval o env) = eval o env)
    (hp : (backTo pos (starEach es env)).any (·.1) = false) (hall : (backToKw pos (keywordEach kws env)).all (·.1.isSome) = true) (hn : es.length + kws.length < 28) (hline : (apos.endLine == pos.line) = true)
    (h : wpAny M A (eval o env) (fun ov s₁ => wpAny M A (getMethod ov name (do return (← importBound o env).getD true)) (fun fx s₂ => wpAny M A (callWith pos fx.1 fx.2 (backTo pos (starEach es env)) (backToKw pos (keywordEach kws env))) Q E s₂) E s₁) E s) :
    wpAny M A (eval (.Call (.Attribute o name apos) es kws pos) env) Q E s := by
  have hall2 : (backTo pos (starEach es env)).all (fun x => !x.1) = true := by
    rw [List.any_eq_false] at hp
    rw [List.all_eq_true]
    intro x hx
    have := hp x hx
    simpa using this
  have hform : methodCallForm (es.length + kws.length) (backTo pos (starEach es env)) (backToKw pos (keywordEach kws env)) = true := by
    unfold methodCallForm
    rw [hall2, hall]
    simp only [Bool.true_and, Bool.and_eq_true, decide_eq_true_eq]
    split <;> omega
  rw [arm_eval_Call, hbase]
  refine wpAny_bind (wpAny_mono h (fun ov s₁ h₁ => ?_) fun _ _ e => e)
  refine wpAny_bind (wpAny_standAt ?_)
  have hpos : methodCallPos true o env apos pos = pure pos := by unfold methodCallPos; simp [hline]
  unfold methodCall
  rw [hform]
  refine wpAny_bind (wpAny_holding (wpAny_mono (show wpAny M A (calleeOf true o env ov name) _ E s₁ from h₁) (fun fx s₂ h₂ => ?_) fun _ _ e => e))
  exact wpAny_bind (wpAny_of_eq hpos h₂)
theorem kws_len : ∀ {ks : List Keyword} {f : Expr → Option LE} {x : List Str × LEs}, compK f ks = some x → ks.length = x.1.length
  | [], f, x, h => by cases h; rfl
  | ⟨none, e, p⟩ :: r, f, x, h => by cases h
  | ⟨some y, e, p⟩ :: r, f, x, h => by
    unfold compK at h
    obtain ⟨l, q, h1, h2, rfl⟩ := o2_some h
    simp [kws_len h2]
theorem mthk_E {m : Str} {apos : Pos} {es : List Expr} {ls kls : LEs} {ks : List Str} {kws : List Keyword} {cf : Expr → Option LE} (g : Good X cad T W n c) (hb : baseOk a = true) (h0 : EOk X cad T W a la) (hp : ∀ e ∈ es, Plain e) (hnil : es = [] → ls = .nil) (h : AOk X cad T W es ls) (hk : KOk X cad T W kws kls) (hkw : compK cf kws = some (ks, kls))
    (hn : es.length + kws.length < 28) (hline : (apos.endLine == pos.line) = true) : EOk X cad T W (.Call (.Attribute a m apos) es kws pos) (.mthk la m es.length ls ks kls) := by
  refine ⟨fun pins s σ H Q I q => ?_⟩
  obtain ⟨a1, a2, a3⟩ := kws_all (pos := pos) (env := X.env) hkw
  simp only [Tr, den] at q
  refine meth_runK (base_of hb) (plain_any hp) a1 hn hline (thn ((frz_E h0).run pins s σ H (fun v H1 => ∃ G1 ρ1 S1 d, Sat (ct X cad) G1 H1 σ ρ1 S1 ∧ Rep (ct X cad) G1 H1 v d ∧ At (ct X cad) W σ G1 H1 (match mkOf T S1 d m ks es.length with
      | some (fn, perm) => (denEs T ls ρ1 S1).bind fun ds ρ S => (denEs T kls ρ S).bind fun zs ρ S => (ofO (if ds.length = es.length ∧ zs.length = ks.length then pick perm (ds ++ zs) else none) ρ S).bind fun xs ρ S => (fn (d :: xs) S).res ρ
      | none => .bad) (RepR (ct X cad)) Q) I (Tr.seq q fun v H1 G1 ρ1 S1 d s r h => ⟨G1, ρ1, S1, d, s, r, h⟩)) fun u s1 ⟨x, H1, I1, rx, G1, ρ1, S1, d, sat1, r1, q1⟩ => ?_)
  cases e : mkOf T S1 d m ks es.length with
  | none => rw [e] at q1; exact q1.elim
  | some p =>
    obtain ⟨fn, perm⟩ := p
    rw [e] at q1
    dsimp only at q1
    have e0 : ∃ cc f0, mthOf T S1 d m = some (cc, f0) ∧ T.mtk cc m ks es.length = some (fn, perm) := by
      unfold mkOf at e
      split at e
      · rename_i cc f0 e0
        exact ⟨cc, f0, e0, e⟩
      · cases e
    obtain ⟨cc, f0, e0, e6⟩ := e0
    obtain ⟨e1, A, b, dx, fs, e2, rfl, e3, e4⟩ := mth_at sat1 r1 e0
    obtain rfl : u = Value.ref b := rx
    obtain ⟨hcl, f, fd, ps, hm, F, hbt, hbad⟩ := g.tab.mtk cc m ks _ fn perm e6 A e2
    refine getmeth_ok I1 e3 hcl hm e4 ?_
    -- behind the positional arguments: the keywords', the call
    have fin : ∀ {s2 : Shared} {us : List Value} {vs : List V} {H2 : Hp} {G2 : Gh} {ρ2 : Rho} {S2 : Mem} {ds : List D}, L2.Inv X pins σ H2 s2 → Vals vs us → ExE G1 H1 G2 H2 → Sat (ct X cad) G2 H2 σ ρ2 S2 → Reps (ct X cad) G2 H2 vs ds →
        At (ct X cad) W σ G2 H2 ((denEs T kls ρ2 S2).bind fun zs ρ S => (ofO (if ds.length = es.length ∧ zs.length = ks.length then pick perm (ds ++ zs) else none) ρ S).bind fun xs ρ S => (fn (d :: xs) S).res ρ) (RepR (ct X cad)) Q →
        wpAny (model X.prog X.w) X.A (evalAll ((backToKw pos (keywordEach kws X.env)).map (·.2))) (fun ws s3 => X.K.In s3.heap ∧ wpAny (model X.prog X.w) X.A (call (.ref f) (.ref b :: us) (((backToKw pos (keywordEach kws X.env)).filterMap (·.1)).zip ws)) (EP X pins σ Q) X.xe s3) X.xe s2 := by
      intro s2 us vs H2 G2 ρ2 S2 ds I2 r x2 sat2 r2 q2
      refine thn (hk.run pos pins s2 σ H2 (fun zs H3 => ∃ G3 ρ3 S3 es', ExE G2 H2 G3 H3 ∧ Sat (ct X cad) G3 H3 σ ρ3 S3 ∧ Reps (ct X cad) G3 H3 zs es' ∧ At (ct X cad) W σ G3 H3 ((ofO (if ds.length = es.length ∧ es'.length = ks.length then pick perm (ds ++ es') else none) ρ3 S3).bind fun xs ρ S => (fn (d :: xs) S).res ρ) (RepR (ct X cad)) Q) I2
        ⟨G2, ρ2, S2, sat2, (At.bind q2).mono fun zs H3 ⟨G3, ρ3, S3, es', e3, s3, r3, q3⟩ => ⟨G3, ρ3, S3, es', e3, s3, r3, q3⟩⟩) fun ws s3 ⟨zs, H3, I3, rz, G3, ρ3, S3, es', x3, sat3, r3, q3⟩ => ⟨I3.kIn, ?_⟩
      rw [a2]
      split at q3
      · rename_i hz
        cases ep : pick perm (ds ++ es') with
        | none => rw [ep] at q3; exact q3.elim
        | some xs =>
          rw [ep] at q3
          simp only [ofO_some, Res.bind_ok] at q3
          have rr : Reps (ct X cad) G3 H3 (vs ++ zs) (ds ++ es') := (Reps.mono x3.toExF _ _ r2).append r3
          obtain ⟨vz, hv1, hv2⟩ := pick_rel (reps_paired rr) ep
          obtain ⟨uz, hu1, hu2⟩ := pick_rel (r.append rz) hv1
          have hxl := hbad _ _ (bad_or (α := RV) q3)
          have rvz := paired_reps hv2
          have rs : Reps (ct X cad) G3 H3 (.ref b :: vz) (d :: xs) := .cons (Rep.mono (x2.trans x3).toExF d _ r1) rvz
          have hvl : (V.ref b :: vz).length = ps.length := by rw [← hxl]; exact rs.length
          have hul : uz.length + 1 = ps.length := by rw [← hvl, List.length_cons, hu2.length]
          have hlw : ws.length = ks.length := by rw [← rz.length, r3.length]; exact hz.2
          have hlu : us.length = es.length := by rw [← r.length, r2.length]; exact hz.1
          refine wpAny_call (codeAny_mono (F.run X.A X.stack s3 H3 ⟨.ref b :: us, ks.zip ws⟩ (.ref b :: uz) (.ref b :: vz) Q (fun c d H' => W c d σ H') g.room I3.env0 (hbt s3 (.ref b) us ws uz I3.kIn hlu hlw hu1 hul) (.cons rfl hu2) (call_sp hvl sat3 rs q3)) fun r s' hq => ?_)
          cases r with
          | error e => exact passW g σ pins H3 s3 e s' I3 hq
          | ok fl =>
            cases fl with
            | ret u => exact I3.after hq
            | next => exact False.elim hq
            | brk => exact False.elim hq
            | cont => exact False.elim hq
      · exact q3.elim
    cases es with
    | nil =>
      rw [hnil rfl] at q1
      simp only [denEs, Res.bind_ok] at q1
      exact PySem.W.callWith_KW0 (first := [.ref b]) (h₀ := X.base) I1.ok.mod.kin hm.kp a1 (fin I1 .nil (.refl _ _) sat1 .nil q1) (by show (false || (backToKw pos (keywordEach kws X.env)).any (·.1.isNone)) = false; rw [a3]; rfl)
    | cons e5 es =>
      have hA := h.run pos pins s1 σ H1 (fun vs H2 => ∃ G2 ρ2 S2 ds, ExE G1 H1 G2 H2 ∧ Sat (ct X cad) G2 H2 σ ρ2 S2 ∧ Reps (ct X cad) G2 H2 vs ds ∧ At (ct X cad) W σ G2 H2 ((denEs T kls ρ2 S2).bind fun zs ρ S => (ofO (if ds.length = (e5 :: es).length ∧ zs.length = ks.length then pick perm (ds ++ zs) else none) ρ S).bind fun xs ρ S => (fn (d :: xs) S).res ρ) (RepR (ct X cad)) Q) I1
        ⟨G1, ρ1, S1, sat1, (At.bind q1).mono fun vs H2 ⟨G2, ρ2, S2, ds, x2, s2, r2, q2⟩ => ⟨G2, ρ2, S2, ds, x2, s2, r2, q2⟩⟩
      exact PySem.W.callWith_KW (first := [.ref b]) (h₀ := X.base) I1.ok.mod.kin hm.kp a1 (thn hA fun us s2 ⟨vs, H2, I2, r, G2, ρ2, S2, ds, x2, sat2, r2, q2⟩ => fin I2 r x2 sat2 r2 q2) (by rw [plain_any hp, a3]; rfl) (hp e5 List.mem_cons_self es _)
end
end Sh


/-! ShMain: every expression that the small language takes. -/
namespace Sh
open PySem PySem.Spec PyProof.Rows L2 RZ
section
variable {X : Cx} {cad : Str → Option Addr} {T : Tab} {W : WX} {n : Nat} {c : CC}
theorem sto_ok {x : Str} {i : Nat} {pos : Pos} (g : Good X cad T W n c) (h : stoN c x = some i) : PG X (.Name x pos) (gName i) ∧ X.N[i]? = some x ∧ Loc X.env.scope x ∧ (X.fn x = true ∨ X.env.scope.names.lookup x = some .local) := by
  unfold stoN at h
  rw [← g.sc] at h
  split at h
  · rename_i e
    exact ⟨pg_name g.nd (ix_of g h) (.inl e) (.inr e), ix_of g h, .inl e, .inr e⟩
  · rename_i e
    split at h
    · rename_i hf
      exact ⟨pg_name g.nd (ix_of g h) (.inr e) (.inl (g.fn x hf)), ix_of g h, .inr e, .inl (g.fn x hf)⟩
    · cases h
  · cases h
theorem stos_ok (g : Good X cad T W n c) : ∀ {es : List Expr} {is : List Nat}, stoNs c es = some is → PGs X es (gNames is) ∧ (assignEach es X.env).length = is.length ∧ (assignEach es X.env).findIdx? (·.1) = none
  | [], is, h => by
    cases h
    exact ⟨pgs_nil, rfl, rfl⟩
  | .Name x p :: es, is, h => by
    unfold stoNs at h
    obtain ⟨i, js, h1, h2, rfl⟩ := o2_some h
    obtain ⟨a1, a2, a3⟩ := stos_ok g h2
    refine ⟨pgs_cons (sto_ok g h1).1 a1, ?_, ?_⟩
    · show (assignEach es X.env).length + 1 = js.length + 1
      rw [a2]
    · show ((false, _) :: assignEach es X.env).findIdx? (·.1) = none
      rw [List.findIdx?_cons]
      simp [a3]
theorem tg_ok {tg : Expr} {t : Tg} (g : Good X cad T W n c) (h : compT c tg = some t) : PG X tg (gOf X.K t) := by
  unfold compT at h
  split at h
  · rename_i x p
    cases e : stoN c x with
    | none => rw [e] at h; cases h
    | some i =>
      rw [e] at h
      cases h
      exact (sto_ok g e).1
  · rename_i es kk p
    cases e : stoNs c es with
    | none => rw [e] at h; cases h
    | some is =>
      rw [e] at h
      cases h
      obtain ⟨a1, a2, a3⟩ := stos_ok g e
      exact pg_tup g.calm a1 a2 a3
  · cases h
structure Snd (k : Nat) : Prop where
  run : ∀ {X : Cx} {cad : Str → Option Addr} {T : Tab} {W : WX} {n : Nat} {c : CC} {e : Expr} {l : LE}, Good X cad T W n c → comp k c e = some l → EOk X cad T W e l ∧ BOk X cad T W e l ∧ TOk X cad T W e l ∧ Plain e
theorem snd_A {k : Nat} (ih : Snd k) (g : Good X cad T W n c) : ∀ {es : List Expr} {ls : LEs}, compL (comp k c) es = some ls → AOk X cad T W es ls ∧ ABk X cad T W es ls ∧ (∀ e ∈ es, Plain e) ∧ (es = [] → ls = .nil)
  | [], ls, h => by
    cases h
    exact ⟨nil_A, nil_AB, fun e h => (List.not_mem_nil h).elim, fun _ => rfl⟩
  | e :: es, ls, h => by
    unfold compL at h
    obtain ⟨a, b, h1, h2, rfl⟩ := o2_some h
    obtain ⟨s1, s2, s3, s4⟩ := ih.run g h1
    obtain ⟨t1, t2, t3, t4⟩ := snd_A ih g h2
    exact ⟨cons_A s4 s1 t1, cons_AB s4 s2 t2, fun x hx => by
      rcases List.mem_cons.mp hx with rfl | hx
      · exact s4
      · exact t3 x hx, fun z => nomatch z⟩
theorem star_A {e : Expr} {es : List Expr} {l : LE} {ls : LEs} {p : Pos} (h : EOk X cad T W e l) (hs : AOk X cad T W es ls) : AOk X cad T W (.Starred e p :: es) (.star l ls) :=
  PA.weak (StX.pa_star (frz_E h) hs) fun σ H Q q => by
    simp only [Tr, denEs] at q
    refine Tr.seq q fun v H1 G1 ρ1 S1 d s r h => ?_
    have key : ∀ {xs : List V} {ds : List D}, Reps (ct X cad) G1 H1 xs ds → At (ct X cad) W σ G1 H1 ((denEs T ls ρ1 S1).bind fun xs ρ S => .ok (ds ++ xs) ρ S) (Reps (ct X cad)) Q → Tr (ct X cad) W (denEs T ls) (Reps (ct X cad)) σ H1 fun ys H2 => Q (xs ++ ys) H2 := fun rr q2 => ⟨G1, ρ1, S1, s, (At.bind q2).mono fun ys H2 ⟨G2, ρ2, S2, es, e2, s2, r2, q3⟩ => q3 _ G2 H2 (.refl _ _) s2 ((Reps.mono e2.toExF _ _ rr).append r2)⟩
    cases d with
    | lst ds =>
      cases r with
      | lst h1 h2 => exact ⟨_, _, rfl, .inr h1.seq, key h2 h⟩
    | tup ds =>
      cases r with
      | tup h1 h2 => exact ⟨_, _, rfl, .inl h1.seq, key h2 h⟩
    | _ => exact (show False from h).elim
theorem snd_F {k : Nat} (ih : Snd k) (g : Good X cad T W n c) : ∀ {es : List Expr} {ls : LEs}, compL (comp k c) es = some ls → FOk X cad T W es ls
  | [], ls, h => by
    cases h
    exact .nil
  | e :: es, ls, h => by
    unfold compL at h
    obtain ⟨a, b, h1, h2, rfl⟩ := o2_some h
    exact .cons (ih.run g h1).1 (snd_F ih g h2)
theorem snd_AS {k : Nat} (ih : Snd k) (g : Good X cad T W n c) : ∀ {es : List Expr} {ls : LEs}, compLS (comp k c) es = some ls → AOk X cad T W es ls
  | [], ls, h => by
    cases h
    exact nil_A
  | e :: es, ls, h => by
    unfold compLS at h
    split at h
    · rename_i q
      cases q
    · rename_i e2 p es2 q
      cases q
      obtain ⟨a, b, h1, h2, rfl⟩ := o2_some h
      exact star_A (ih.run g h1).1 (snd_AS ih g h2)
    · rename_i e2 es2 _ q
      cases q
      obtain ⟨a, b, h1, h2, rfl⟩ := o2_some h
      obtain ⟨s1, s2, s3, s4⟩ := ih.run g h1
      exact cons_A s4 s1 (snd_AS ih g h2)
theorem snd_K {k : Nat} (ih : Snd k) (g : Good X cad T W n c) : ∀ {ks : List Keyword} {p : List Str × LEs}, compK (comp k c) ks = some p → KOk X cad T W ks p.2
  | [], p, h => by
    cases h
    exact nil_K
  | ⟨none, e, q⟩ :: r, p, h => by cases h
  | ⟨some y, e, q⟩ :: r, p, h => by
    unfold compK at h
    obtain ⟨l, p', h1, h2, rfl⟩ := o2_some h
    exact cons_K (ih.run g h1).1 (snd_K ih g h2)
theorem snd_O {k : Nat} (ih : Snd k) (g : Good X cad T W n c) {o : Option Expr} {l : LEo} (h : compO (comp k c) o = some l) : OOk X cad T W o l := by
  cases o with
  | none => cases h; exact no_O
  | some e =>
    have h : (comp k c e).map LEo.so = some l := h
    cases q : comp k c e with
    | none => rw [q] at h; cases h
    | some a => rw [q] at h; cases h; exact so_O (ih.run g q).2.1
theorem pe_oneB {a : Expr} {op : BoolOp} {t : TE} {pos : Pos} (h : PE X a t) : PE X (.BoolOp op [a] pos) t := pe_one h
theorem snd_And {k : Nat} (ih : Snd k) (g : Good X cad T W n c) {pos : Pos} : ∀ {es : List Expr} {l : LE}, compB (comp k c) .and es = some l → EOk X cad T W (.BoolOp .And es pos) l ∧ WOk X cad T W (.BoolOp .And es pos) l
  | [], l, h => by cases h
  | [e], l, h => ⟨pe_oneB (ih.run g h).1, pw_and1 (ih.run g h).2.2.1⟩
  | e :: b :: es, l, h => by
    unfold compB at h
    obtain ⟨a, r, h1, h2, rfl⟩ := o2_some h
    obtain ⟨s1, s2, s3, s4⟩ := ih.run g h1
    obtain ⟨t1, t2⟩ := snd_And ih g (pos := pos) h2
    exact ⟨and_E s1 t1, and_W s3 t2⟩
theorem snd_Or {k : Nat} (ih : Snd k) (g : Good X cad T W n c) {pos : Pos} : ∀ {es : List Expr} {l : LE}, compB (comp k c) .or es = some l → EOk X cad T W (.BoolOp .Or es pos) l ∧ WOk X cad T W (.BoolOp .Or es pos) l
  | [], l, h => by cases h
  | [e], l, h => ⟨pe_oneB (ih.run g h).1, pw_or1 (ih.run g h).2.2.1⟩
  | e :: b :: es, l, h => by
    unfold compB at h
    obtain ⟨a, r, h1, h2, rfl⟩ := o2_some h
    obtain ⟨s1, s2, s3, s4⟩ := ih.run g h1
    obtain ⟨t1, t2⟩ := snd_Or ih g (pos := pos) h2
    exact ⟨or_E s1 t1, or_W s3 t2⟩
/-- what is walked -/
theorem snd_I {k : Nat} (ih : Snd k) (g : Good X cad T W n c) {e tg : Expr} {li : LI} (h : compI c (comp k c) e = some li) (hz : zipTg e tg = true) : PI X tg e (Tr (ct X cad) W (denI T li) (Wks (ct X cad) ExL)) ∧ (∀ x, foldedSetIterable e X.env x = pure x) := by
  unfold compI at h
  split at h
  · rename_i x p a pos
    split at h
    · rename_i ex
      subst ex
      split at h
      · rename_i hg
        cases q : comp k c a with
        | none => rw [q] at h; cases h
        | some l =>
          rw [q] at h
          cases h
          obtain ⟨s1, s2, s3, s4⟩ := ih.run g q
          exact ⟨PI.weak (rng_I g hg s4 rvB s2) fun σ H Q z => by simpa only [Tr, denI] using z, fun _ => rfl⟩
      · cases h
    · split at h
      · rename_i ex
        subst ex
        split at h
        · rename_i hg
          cases q : comp k c a with
          | none => rw [q] at h; cases h
          | some l =>
            rw [q] at h
            cases h
            obtain ⟨s1, s2, s3, s4⟩ := ih.run g q
            obtain ⟨es, kk, p2, rfl⟩ : ∃ es kk p, tg = .Tuple es kk p := by
              cases tg <;> first | exact ⟨_, _, _, rfl⟩ | cases hz
            exact ⟨PI.weak (enm_I g hg s4 rvB s2) fun σ H Q z => by simpa only [Tr, denI] using z, fun _ => rfl⟩
        · cases h
      · cases h
  · rename_i x p a b pos
    split at h
    · rename_i ex
      subst ex
      split at h
      · rename_i hg
        obtain ⟨la, lb, h1, h2, rfl⟩ := o2_some h
        obtain ⟨s1, s2, s3, s4⟩ := ih.run g h1
        obtain ⟨t1, t2, t3, t4⟩ := ih.run g h2
        obtain ⟨es, kk, p2, rfl⟩ : ∃ es kk p, tg = .Tuple es kk p := by
          cases tg <;> first | exact ⟨_, _, _, rfl⟩ | cases hz
        exact ⟨PI.weak (zip_I g hg s4 t4 rvB s2 t2) fun σ H Q z => by simpa only [Tr, denI] using z, fun _ => rfl⟩
      · cases h
    · cases h
  · cases q : comp k c e with
    | none => rw [q] at h; cases h
    | some l =>
      rw [q] at h
      cases h
      obtain ⟨s1, s2, s3, s4⟩ := ih.run g q
      refine ⟨PI.weak (seq_I rvB s2) fun σ H Q z => by simpa only [Tr, denI] using z, fun x => ?_⟩
      cases k with
      | zero => cases q
      | succ k => cases e <;> first | rfl | cases q
theorem plain_of {k : Nat} {c : CC} {e : Expr} {l : LE} (h : comp k c e = some l) : Plain e := by
  cases k with
  | zero => cases h
  | succ k => cases e <;> first | (intro _ _; rfl) | cases h
/-- a value that is neither looked up nor a test by itself -/
theorem val3 {e : Expr} {l : LE} (hv : ∀ i, l ≠ .var i) (he : ∀ whole, isTrue e X.env whole = (do let v ← whole; standAt e.pos; holding [v] (truthy v))) (p : EOk X cad T W e l) (pl : Plain e) : EOk X cad T W e l ∧ BOk X cad T W e l ∧ TOk X cad T W e l ∧ Plain e :=
  ⟨p, bok_of hv p, tok_val he p, pl⟩
theorem val3T {e : Expr} {l : LE} (hv : ∀ i, l ≠ .var i) (p : EOk X cad T W e l) (t : TOk X cad T W e l) (pl : Plain e) : EOk X cad T W e l ∧ BOk X cad T W e l ∧ TOk X cad T W e l ∧ Plain e :=
  ⟨p, bok_of hv p, t, pl⟩
theorem lc_E {k : Nat} (ih : Snd k) (g : Good X cad T W n c) {elt tg it : Expr} {ifs : List Expr} {scope : Scope} {le : LE} {t : Tg} {li : LI} {cs : LEs} {pos : Pos} (hb : blkC c.N c.sc scope (ownOf c.N scope.names) = true) (ht : compT (c.blk scope) tg = some t) (hin : ∀ i ∈ t.slots, i ∈ (ownOf c.N scope.names).map (·.2))
    (hz : zipTg it tg = true) (he : comp k (c.blk scope) elt = some le) (hi : compI c (comp k c) it = some li) (hc : ∀ {X' : Cx}, Good X' cad T W0 n (c.blk scope) → CkOk X' cad T ifs cs) :
    EOk X cad T W (.ListComp elt [⟨tg, it, ifs, 0⟩] scope pos) (.lc ((ownOf c.N scope.names).map (·.2)) le t li cs) := by
  obtain ⟨i1, i2⟩ := snd_I ih g hi hz
  have ok : BlkOk X.N X.env.scope scope (ownOf c.N scope.names) := by
    rw [g.N, g.sc]
    exact blkOk_by hb
  refine PE.weak (pe_lc (own := ownOf c.N scope.names) (g := gOf X.K t) (tt := Tr (ct X cad) W0 (denC T cs) Eqv) (te := Tr (ct X cad) W0 (den T le) (RepR (ct X cad))) g.calm g.nd i1 ok (fun s H A cl fp => tg_ok (g.blk s H scope A cl fp) ht) (fun s H A cl fp => hc (g.blk s H scope A cl fp)) (fun s H A cl fp => (ih.run (g.blk s H scope A cl fp) he).1) i2) fun σ H Q q => ?_
  exact lc_rd hin q
theorem if_ck {k : Nat} (ih : Snd k) (g : Good X cad T W0 n c) {ifs : List Expr} {cs : LEs} (h : compIf (comp k c) ifs = some cs) : CkOk X cad T ifs cs := by
  unfold compIf at h
  split at h
  · cases h
    exact ck_nil
  · unfold compL compL at h
    obtain ⟨l1, l2, h7, h8, rfl⟩ := o2_some h
    cases h8
    exact ck_one (ih.run g h7).2.2.1
  · cases h
theorem fold_any {k : Nat} {c' : CC} {e : Expr} {li : LI} (h : compI c' (comp k c') e = some li) (env : PySem.Env) (x : Value) : foldedSetIterable e env x = pure x := by
  cases e <;> first | rfl | skip
  all_goals
    unfold compI at h
    cases k <;> simp [comp] at h
theorem lc2_E {k : Nat} (ih : Snd k) (g : Good X cad T W n c) {elt tg it tg1 it1 : Expr} {ifs ifs1 : List Expr} {scope : Scope} {le : LE} {t t1 : Tg} {li li1 : LI} {cs cs1 : LEs} {pos : Pos} (hb : blkC c.N c.sc scope (ownOf c.N scope.names) = true) (ht : compT (c.blk scope) tg = some t) (ht1 : compT (c.blk scope) tg1 = some t1) (hin : ∀ i ∈ t.slots, i ∈ (ownOf c.N scope.names).map (·.2)) (hin1 : ∀ i ∈ t1.slots, i ∈ (ownOf c.N scope.names).map (·.2))
    (hz : zipTg it tg = true) (hz1 : zipTg it1 tg1 = true) (he : comp k (c.blk scope) elt = some le) (hi : compI c (comp k c) it = some li) (hi1 : compI (c.blk scope) (comp k (c.blk scope)) it1 = some li1) (hc : compIf (comp k (c.blk scope)) ifs = some cs) (hc1 : compIf (comp k (c.blk scope)) ifs1 = some cs1) :
    EOk X cad T W (.ListComp elt [⟨tg, it, ifs, 0⟩, ⟨tg1, it1, ifs1, 0⟩] scope pos) (.lc2 ((ownOf c.N scope.names).map (·.2)) t1.slots le t li cs t1 li1 cs1) := by
  obtain ⟨i1, i2⟩ := snd_I ih g hi hz
  have ok : BlkOk X.N X.env.scope scope (ownOf c.N scope.names) := by
    rw [g.N, g.sc]
    exact blkOk_by hb
  refine PE.weak (pe_lc2 (own := ownOf c.N scope.names) (vs1 := t1.slots) (g := gOf X.K t) (g1 := gOf X.K t1) (tt := Tr (ct X cad) W0 (denC T cs) Eqv) (tt1 := Tr (ct X cad) W0 (denC T cs1) Eqv) (wi1 := Tr (ct X cad) W0 (denI T li1) (Wks (ct X cad) ExL)) (te := Tr (ct X cad) W0 (den T le) (RepR (ct X cad))) g.calm g.nd i1 ok hin1 (fun s H A cl fp => tg_ok (g.blk s H scope A cl fp) ht) (fun s H A cl fp => if_ck ih (g.blk s H scope A cl fp) hc)
    (fun s H A cl fp => (snd_I ih (g.blk s H scope A cl fp) hi1 hz1).1) (fun s H A cl fp => tg_ok (g.blk s H scope A cl fp) ht1) (fun s H A cl fp => if_ck ih (g.blk s H scope A cl fp) hc1) (fun s H A cl fp => (ih.run (g.blk s H scope A cl fp) he).1) i2 (fold_any hi1)) fun σ H Q q => ?_
  exact lc2_rd hin hin1 q
theorem tgIn_all {vs : List Nat} {o : Option Tg} (h : tgIn vs o = true) : ∃ t, o = some t ∧ ∀ i ∈ t.slots, i ∈ vs := by
  cases o with
  | none => cases h
  | some t =>
    refine ⟨t, rfl, fun i hi => ?_⟩
    have := List.all_eq_true.mp (show (t.slots.all fun i => vs.contains i) = true from h) i hi
    simpa using this
theorem bcl_all {k : Nat} (ih : Snd k) {x : Str} {bt : Blt} {p pos : Pos} (g : Good X cad T W n c) (hx : bltOf x = some bt) (hn : nameOk x = true) (hg : isGlob c x = true) : ∀ {es : List Expr} {ls : LEs}, (match es with | [] => none | _ => compL (comp k c) es) = some ls → EOk X cad T W (.Call (.Name x p) es [] pos) (.bcl bt ls)
  | [], ls, h => by cases h
  | e1 :: es, ls, h => by
    obtain ⟨s1, s2, s3, s4⟩ := snd_A ih g h
    exact bcl_E g hx hn hg s3 s2
theorem slice_ix {i : Expr} (h : noSlice i = true) : PlainIx i := by
  intro o j
  cases i <;> first | rfl | cases h
/-- THE RULE: an expression that the small language takes does what it says -/
theorem sound : ∀ k : Nat, Snd k
  | 0 => ⟨fun g h => by cases h⟩
  | k + 1 => by
    have ih : Snd k := sound k
    refine ⟨fun {X cad T W n c e l} g h => ?_⟩
    have pl := plain_of h
    cases e with
    | Name x pos =>
      simp only [comp] at h
      split at h
      · rename_i hn
        split at h
        · rename_i hv
          cases q : ixOf c.N x with
          | none => rw [q] at h; cases h
          | some i =>
            rw [q] at h
            cases h
            have e1 := var_E (T := T) (W := W) (cad := cad) (pos := pos) g hn hv q
            exact ⟨e1, var_B g hn hv q, tok_val (fun _ => rfl) e1, pl⟩
        · split at h
          · rename_i hg
            cases q : ixOf c.F x with
            | none => rw [q] at h; cases h
            | some i =>
              rw [q] at h
              cases h
              exact val3 (by simp) (fun _ => rfl) (glob_E g hn hg q) pl
          · cases h
      · cases h
    | Constant k0 j pos =>
      cases k0 <;> simp only [comp] at h <;> cases h
      · exact val3 (by simp) (fun _ => rfl) (con_E pe_non (fun ρ S => by simp only [den]) fun _ _ => .non) pl
      · exact val3 (by simp) (fun _ => rfl) (con_E pe_bl (fun ρ S => by simp only [den]) fun _ _ => .bl _) pl
      · exact val3 (by simp) (fun _ => rfl) (con_E pe_int (fun ρ S => by simp only [den]) fun _ _ => .int _) pl
      · exact val3 (by simp) (fun _ => rfl) (con_E pe_str (fun ρ S => by simp only [den]) fun _ _ => .str _) pl
    | BinOp a op b pos =>
      simp only [comp] at h
      split at h <;> first | (cases h; done) | (rename_i q; cases q)
      · obtain ⟨ls, lb, h1, h2, rfl⟩ := o2_some h
        exact val3 (by simp) (fun _ => rfl) (rep_E (snd_A ih g h1).1 (ih.run g h2).2.1) pl
      · obtain ⟨la, lb, h1, h2, rfl⟩ := o2_some h
        exact val3 (by simp) (fun _ => rfl) (bin_E (ih.run g h1).2.1 (ih.run g h2).2.1) pl
    | UnaryOp op a pos =>
      cases op <;> simp only [comp] at h <;> try cases h
      · obtain ⟨la, h1, rfl⟩ := o1_some h
        obtain ⟨s1, s2, s3, s4⟩ := ih.run g h1
        exact val3T (by simp) (not_E s1) (not_T s3) pl
      · obtain ⟨la, h1, rfl⟩ := o1_some h
        exact val3 (by simp) (fun _ => rfl) (neg_E (ih.run g h1).2.1) pl
    | Compare a ops bs pos =>
      simp only [comp] at h
      split at h <;> first | (cases h; done) | (rename_i q; cases q)
      · split at h
        · cases h
        · rename_i hm
          obtain ⟨la, lb, h1, h2, rfl⟩ := o2_some h
          have hm := Bool.eq_false_iff.mpr hm
          exact val3T (by simp) (cmp_E g (ih.run g h1).2.1 (ih.run g h2).1 (ih.run g h2).2.1 hm) (cmp_T g (ih.run g h1).2.1 (ih.run g h2).1 (ih.run g h2).2.1 hm) pl
      · split at h
        · cases h
        · rename_i hm
          obtain ⟨la, lb, ld, h1, h2, h3, rfl⟩ := o3_some h
          have hm := Bool.eq_false_iff.mpr hm
          exact val3T (by simp) (chn_E g.room (ih.run g h1).2.1 (ih.run g h2).2.1 (ih.run g h3).2.1 hm) (chn_T g.room (ih.run g h1).2.1 (ih.run g h2).2.1 (ih.run g h3).2.1 hm) pl
    | BoolOp op es pos =>
      cases op <;> simp only [comp] at h
      · obtain ⟨s1, s2⟩ := snd_And ih g (pos := pos) h
        match es, h with
        | e1 :: e2 :: es, h =>
          obtain ⟨x, y, h1, h2, rfl⟩ := o2_some (show o2 LE.and (comp k c e1) (compB (comp k c) LE.and (e2 :: es)) = some l from h)
          exact val3T (by simp) s1 s2.pt pl
        | [e1], h => exact ⟨s1, ⟨fun pins s σ H Q I q => BoolOp_one ((ih.run g h).2.1.run pins s σ H Q I q)⟩, s2.pt, pl⟩
      · obtain ⟨s1, s2⟩ := snd_Or ih g (pos := pos) h
        match es, h with
        | e1 :: e2 :: es, h =>
          obtain ⟨x, y, h1, h2, rfl⟩ := o2_some (show o2 LE.or (comp k c e1) (compB (comp k c) LE.or (e2 :: es)) = some l from h)
          exact val3T (by simp) s1 s2.pt pl
        | [e1], h => exact ⟨s1, ⟨fun pins s σ H Q I q => BoolOp_one ((ih.run g h).2.1.run pins s σ H Q I q)⟩, s2.pt, pl⟩
    | IfExp t a b pos =>
      simp only [comp] at h
      obtain ⟨lt, la, lb, h1, h2, h3, rfl⟩ := o3_some h
      exact val3T (by simp) (ite_E (ih.run g h1).2.2.1 (ih.run g h2).1 (ih.run g h3).1) (ite_T (ih.run g h1).2.2.1 (ih.run g h2).2.2.1 (ih.run g h3).2.2.1) pl
    | Tuple es kk pos =>
      simp only [comp] at h
      obtain ⟨ls, h1, rfl⟩ := o1_some h
      exact val3 (by simp) (fun _ => rfl) (tup_E (snd_AS ih g h1)) pl
    | List es pos =>
      simp only [comp] at h
      obtain ⟨ls, h1, rfl⟩ := o1_some h
      exact val3 (by simp) (fun _ => rfl) (lst_E (snd_AS ih g h1)) pl
    | Subscript a i pos =>
      simp only [comp] at h
      split at h <;> first | (cases h; done) | (rename_i q; cases q)
      · obtain ⟨la, h1, rfl⟩ := o1_some h
        exact val3 (by simp) (fun _ => rfl) (rev_E (ih.run g h1).2.1) pl
      · obtain ⟨la, ll, lh, h1, h2, h3, rfl⟩ := o3_some h
        exact val3 (by simp) (fun _ => rfl) (slc_E (ih.run g h1).2.1 (snd_O ih g h2) (snd_O ih g h3)) pl
      · split at h
        · rename_i hs
          obtain ⟨la, li, h1, h2, rfl⟩ := o2_some h
          exact val3 (by simp) (fun _ => rfl) (idx_E (ih.run g h1).2.1 (ih.run g h2).2.1 (slice_ix hs)) pl
        · cases h
    | Call f es ks pos =>
      simp only [comp] at h
      split at h <;> first | (cases h; done) | (rename_i q; cases q)
      · split at h
        · rename_i hf
          have hf := Bool.and_eq_true_iff.mp hf
          split at h
          · rename_i ei
            subst ei
            split at h
            · split at h
              · rename_i hg
                split at h
                · rename_i t ht
                  obtain ⟨la, h1, rfl⟩ := o1_some h
                  exact val3 (by simp) (fun _ => rfl) (isi1_E g hf.2 (ih.run g h1).2.2.2 hg ht (ih.run g h1).2.1) pl
                · split at h
                  · rename_i hn
                    obtain ⟨la, k2, h1, h2, rfl⟩ := o2_some h
                    exact val3 (by simp) (fun _ => rfl) (isc_E g hf.2 (ih.run g h1).2.2.2 hn hg h2 (ih.run g h1).2.1) pl
                  · cases h
              · cases h
            · obtain ⟨la, t, u, h1, h2, h3, rfl⟩ := o3_some h
              split at h2
              · rename_i hg
                split at h3
                · rename_i hg2
                  exact val3 (by simp) (fun _ => rfl) (isi2_E g hf.2 (ih.run g h1).2.2.2 hg h2 hg2 h3 (ih.run g h1).2.1) pl
                · cases h3
              · cases h2
            · cases h
          · split at h
            · rename_i a0 ha0
              split at h
              · rename_i hgs
                obtain ⟨la, h1, rfl⟩ := o1_some h
                unfold lensOf at ha0
                split at ha0
                · split at ha0
                  · rename_i ef
                    split at ha0
                    · rename_i eg
                      cases ha0
                      subst ef eg
                      exact val3 (by simp) (fun _ => rfl) (lens_E g hf.2 hgs (ih.run g h1).2.2.2 (ih.run g h1).2.1) pl
                    · cases ha0
                  · cases ha0
                · cases ha0
              · cases h
            · split at h
              · rename_i bt hb
                obtain ⟨ls, h1, rfl⟩ := o1_some h
                exact val3 (by simp) (fun _ => rfl) (bcl_all ih g hb hf.1 hf.2 h1) pl
              · split at h
                · rename_i j hj
                  obtain ⟨fi, h0, rfl⟩ := o1_some h
                  unfold lendOf at hj
                  split at hj
                  · rename_i y py
                    split at hj
                    · split at hj
                      · rename_i hy
                        have hy := Bool.and_eq_true_iff.mp hy
                        exact val3 (by simp) (fun _ => rfl) (lend_E g hf.1 hf.2 h0 hy.1 hy.2 hj) pl
                      · cases hj
                    · cases hj
                  · cases hj
                · obtain ⟨fi, ls, h0, h1, rfl⟩ := o2_some h
                  obtain ⟨s1, s2, s3, s4⟩ := snd_A ih g h1
                  exact val3 (by simp) (fun _ => rfl) (call_E g hf.1 hf.2 h0 s3 s4 s1) pl
        · cases h
      · split at h
        · rename_i hf
          have hf := Bool.and_eq_true_iff.mp hf
          obtain ⟨fi, ls, p, h0, h1, h2, rfl⟩ := o3_some h
          obtain ⟨s1, s2, s3, s4⟩ := snd_A ih g h1
          exact val3 (by simp) (fun _ => rfl) (callk_E g hf.1 hf.2 h0 s3 s4 s1 (snd_K ih g h2) h2) pl
        · cases h
      · split at h
        · rename_i em
          split at h
          · rename_i hm
            split at h
            · obtain ⟨la, h1, rfl⟩ := o1_some h
              subst em
              exact val3 (by simp) (fun _ => rfl) (join_E (ih.run g h1).2.2.2 (ih.run g h1).2.1 hm) pl
            · cases h
          · cases h
        · split at h
          · rename_i ei
            subst ei
            split at h
            · rename_i hm
              have hm := Bool.and_eq_true_iff.mp hm
              obtain ⟨la, le, h1, h2, rfl⟩ := o2_some h
              exact val3 (by simp) (fun _ => rfl) (ixo_E g hm.1 (ih.run g h1).2.1 (ih.run g h2).2.1 (ih.run g h2).2.2.2 hm.2) pl
            · cases h
          · split at h
            · rename_i hm
              have hm := Bool.and_eq_true_iff.mp hm
              obtain ⟨la, ls, h1, h2, rfl⟩ := o2_some h
              obtain ⟨s1, s2, s3, s4⟩ := snd_A ih g h2
              exact val3 (by simp) (fun _ => rfl) (mth_E g hm.1 (ih.run g h1).1 s3 s4 s1 (by simp) hm.2) pl
            · cases h
      · split at h
        · rename_i hm
          simp only [Bool.and_eq_true, decide_eq_true_eq] at hm
          obtain ⟨la, ls, h1, h2, rfl⟩ := o2_some h
          obtain ⟨s1, s2, s3, s4⟩ := snd_A ih g h2
          exact val3 (by simp) (fun _ => rfl) (mth_E g hm.1.1 (ih.run g h1).1 s3 s4 s1 hm.2 hm.1.2) pl
        · cases h
      · split at h
        · rename_i hm
          simp only [Bool.and_eq_true, decide_eq_true_eq] at hm
          obtain ⟨la, ls, p, h1, h2, h3, rfl⟩ := o3_some h
          obtain ⟨s1, s2, s3, s4⟩ := snd_A ih g h2
          exact val3 (by simp) (fun _ => rfl) (mthk_E g hm.1.1 (ih.run g h1).1 s3 s4 s1 (snd_K ih g h3) h3 (by rw [List.length_cons]; omega) hm.1.2) pl
        · cases h
    | Attribute a f pos =>
      simp only [comp] at h
      split at h
      · rename_i hb
        obtain ⟨la, h1, rfl⟩ := o1_some h
        exact val3 (by simp) (fun _ => rfl) (fld_E g hb (ih.run g h1).2.1) pl
      · cases h
    | FormattedValue a cv sp pos =>
      simp only [comp] at h
      split at h <;> first | (cases h; done) | (rename_i q; cases q)
      obtain ⟨la, h1, rfl⟩ := o1_some h
      exact val3 (by simp) (fun _ => rfl) (fmt_E (ih.run g h1).2.1) pl
    | JoinedStr es pos =>
      simp only [comp] at h
      split at h <;> first | (cases h; done) | (rename_i q; cases q)
      obtain ⟨ls, h1, rfl⟩ := o1_some h
      exact val3 (by simp) (fun _ => rfl) (fst_E (snd_F ih g h1)) pl
    | ListComp elt gens scope pos =>
      simp only [comp] at h
      split at h <;> first | (cases h; done) | (rename_i q; cases q)
      split at h
      · rename_i hb
        simp only [Bool.and_eq_true] at hb
        obtain ⟨⟨hb, hin⟩, hz⟩ := hb
        obtain ⟨t, ht, hin⟩ := tgIn_all hin
        obtain ⟨p, r, h1, h2, rfl⟩ := o2_some h
        obtain ⟨le, t', h3, h4, rfl⟩ := o2_some h1
        obtain ⟨li, cs, h5, h6, rfl⟩ := o2_some h2
        rw [ht] at h4
        cases h4
        refine val3 (by simp) (fun _ => rfl) (lc_E ih g hb ht hin hz h3 h5 fun {X'} g' => ?_) pl
        split at h6
        · cases h6
          exact ck_nil
        · unfold compL compL at h6
          obtain ⟨l1, l2, h7, h8, rfl⟩ := o2_some h6
          cases h8
          exact ck_one (ih.run g' h7).2.2.1
        · cases h6
      · cases h
      split at h
      · rename_i hb
        simp only [Bool.and_eq_true] at hb
        obtain ⟨⟨⟨⟨hb, hin⟩, hin1⟩, hz⟩, hz1⟩ := hb
        obtain ⟨t, ht, hin⟩ := tgIn_all hin
        obtain ⟨t1, ht1, hin1⟩ := tgIn_all hin1
        obtain ⟨p, r, h1, h2, rfl⟩ := o2_some h
        obtain ⟨p1, p2, h3, h4, rfl⟩ := o2_some h1
        obtain ⟨le, t', h5, h6, rfl⟩ := o2_some h3
        obtain ⟨li, cs, h7, h8, rfl⟩ := o2_some h4
        obtain ⟨t1', q2, h9, h10, rfl⟩ := o2_some h2
        obtain ⟨li1, cs1, h11, h12, rfl⟩ := o2_some h10
        rw [ht] at h6
        cases h6
        rw [ht1] at h9
        cases h9
        exact val3 (by simp) (fun _ => rfl) (lc2_E ih g hb ht ht1 hin hin1 hz hz1 h5 h7 h11 h8 h12) pl
      · cases h
    | _ => simp only [comp] at h; cases h
end
end Sh


/-! ShStm: statements, defs. -/
namespace Sh
open PySem PySem.Spec PyProof.Rows L2 RZ
/-! ### from the tree -/
def noComp : Expr → Bool
  | .ListComp _ _ _ _ => false
  | .SetComp _ _ _ _ => false
  | .DictComp _ _ _ _ _ => false
  | _ => true
def isLoc (c : CC) (x : Str) : Bool := match c.sc.names.lookup x with
  | some .local => true
  | _ => false
/-- a comprehension that is stored within its own frame -/
def swapOk (c : CC) (x : Str) (px : Pos) : Expr → Bool
  | .ListComp _ _ scope pos => isLoc c x && (px.line == pos.line) && !(scope.names.any fun (n, k) => n == x && (k == .local || k == .cell))
  | _ => false
/-- pairs that are stored through a tuple -/
def noSwapT (c : CC) (es : List Expr) : Expr → Bool
  | .Tuple vs _ _ => vs.length != es.length || !(es.length == 2 || es.length == 3) || es.any fun
    | .Name x _ => !isLoc c x
    | _ => true
  | _ => true
/-- no star, no slice -/
def isSlot : Expr → Bool
  | .Starred _ _ => false
  | _ => true
def noTup : Expr → Bool
  | .Tuple _ _ _ => false
  | _ => true
/-- a list that a field takes over -/
def movOf (c : CC) : Expr → Option Nat
  | .Name y _ => if y = "found" then (if nameOk y && isVis c y then ixOf c.N y else none) else none
  | _ => none
mutual
def compS : Nat → CC → Stmt → Option LS
  | 0, _, _ => none
  | n + 1, c, st => match st with
    | .Assign [.Name x px] e _ => if noComp e || swapOk c x px e then o2 .asg (stoN c x) (comp (n + 1) c e) else none
    | .Assign [.Tuple [.Name x px, .Name y py] _ _] (.Tuple [a, b] k2 pt2) _ =>
      if isLoc c x && isLoc c y && (px.line == py.line) && !(x == y) && !([a, b].all (constantsAlone 8)) && !([a, b].all (foldedForSure 8)) then
        o2 (fun (p q : Nat × LE) => LS.par p.1 q.1 p.2 q.2) (o2 Prod.mk (ixOf c.N x) (comp (n + 1) c a)) (o2 Prod.mk (ixOf c.N y) (comp (n + 1) c b))
      else if noSwapT c [.Name x px, .Name y py] (.Tuple [a, b] k2 pt2) then o2 .tas (stoNs c [.Name x px, .Name y py]) (comp (n + 1) c (.Tuple [a, b] k2 pt2)) else none
    | .Assign [.Tuple es _ _] e _ => if noComp e && noSwapT c es e then o2 .tas (stoNs c es) (comp (n + 1) c e) else none
    | .Assign [.Attribute (.Name x _) f _] e _ => if nameOk x && isVis c x then (match movOf c e with
      | some j => o1 (fun i => LS.sfm i f j) (ixOf c.N x)
      | none => o2 (fun i l => LS.sfd i f l) (ixOf c.N x) (comp (n + 1) c e)) else none
    | .Assign [.Subscript (.Name x _) ix _] e _ => if nameOk x && isVis c x && noSlice ix && noComp e && noTup e then o3 (fun i a b => LS.sst i a b) (ixOf c.N x) (comp (n + 1) c ix) (comp (n + 1) c e) else none
    | .Break _ => some .brk
    | .Continue _ => some .cnt
    | .While t body [] _ => o2 LS.whl (comp (n + 1) c t) (compSs n c body)
    | .Expr (.Call (.Attribute (.Name x _) m apos) [a] [] cpos) _ => if m = "append" && apos.endLine == cpos.line && nameOk x && isVis c x && isSlot a then o2 LS.apd (ixOf c.N x) (comp (n + 1) c a) else none
    | .Expr (.Call (.Attribute (.Name x _) m apos) [ix, a] [] cpos) _ => if m = "insert" && apos.endLine == cpos.line && nameOk x && isVis c x && isSlot a && isSlot ix then o3 (fun i a b => LS.ins i a b) (ixOf c.N x) (comp (n + 1) c ix) (comp (n + 1) c a) else none
    | .Expr (.Call (.Attribute (.Call f es ks p) m apos) [a] [] cpos) _ => if m = "append" && apos.endLine == cpos.line && baseOk (.Call f es ks p) && isSlot a then o2 LS.apx (comp (n + 1) c (.Call f es ks p)) (comp (n + 1) c a) else none
    | .Expr e _ => if noComp e then o1 .exp (comp (n + 1) c e) else none
    | .Return (some e) _ => match movOf c e with
      | some j => some (.rtm j)
      | none => o1 .ret (comp (n + 1) c e)
    | .Return none _ => some .retN
    | .If t a b _ => o3 .iff (comp (n + 1) c t) (compSs n c a) (compSs n c b)
    | .Pass _ => some .pass
    | .For tg it body [] _ => if zipTg it tg then o3 LS.forr (compT c tg) (compI c (comp (n + 1) c) it) (compSs n c body) else none
    | .Raise _ _ _ => some .stop
    | _ => none
def compSs : Nat → CC → List Stmt → Option LSs
  | 0, _, _ => none
  | _ + 1, _, [] => some .nil
  | n + 1, c, s :: ss => o2 .cons (compS n c s) (compSs n c ss)
end

/-! ### outcomes -/
section
variable {C : Ct} {W : WX} {G G1 G2 : Gh} {H H1 H2 : Hp} {σ : L2.St} {ρ : Rho} {S : Mem}
def AtS (C : Ct) (W : WX) (G : Gh) (H : Hp) (r : SRes) (D : Ends) : Prop := match r with
  | .nx ρ S => ∀ σ G' H', ExC G H G' H' → Sat C G' H' σ ρ S → D.nx σ H'
  | .rt r S => ∀ v G' H', ExC G H G' H' → SatS C G' H' S → RepR C G' H' v r → D.rt v H'
  | .bk ρ S => ∀ σ G' H', ExC G H G' H' → Sat C G' H' σ ρ S → D.bk σ H'
  | .ct ρ S => ∀ σ G' H', ExC G H G' H' → Sat C G' H' σ ρ S → D.ct σ H'
  | .exc x ρ S => ∀ c d σ G' H', ExC G H G' H' → Sat C G' H' σ ρ S → ErrOk C G' H' c d x → W c d σ H'
  | .bad => False
def TrS (C : Ct) (W : WX) (m : Rho → Mem → SRes) : TS := fun D σ H => ∃ G ρ S, Sat C G H σ ρ S ∧ AtS C W G H (m ρ S) D
theorem AtS.ext {r : SRes} {D : Ends} (h : AtS C W G H r D) (e : ExC G H G1 H1) : AtS C W G1 H1 r D := by
  cases r with
  | nx ρ S => exact fun σ G' H' e' s => h σ G' H' (e.trans e') s
  | rt r S => exact fun v G' H' e' s q => h v G' H' (e.trans e') s q
  | bk ρ S => exact fun σ G' H' e' s => h σ G' H' (e.trans e') s
  | ct ρ S => exact fun σ G' H' e' s => h σ G' H' (e.trans e') s
  | exc x ρ S => exact fun c d σ G' H' e' s q => h c d σ G' H' (e.trans e') s q
  | bad => exact h
/-- a result that statements follow -/
def thenS {α : Type} (r : Res α) (f : α → Rho → Mem → SRes) : SRes := match r with
  | .ok a ρ S => f a ρ S
  | .exc x ρ S => .exc x ρ S
  | .bad => .bad
theorem AtS.bind {α β : Type} {r : Res α} {f : α → Rho → Mem → SRes} {D : Ends} {R : Gh → Hp → β → α → Prop} (h : AtS C W G H (thenS r f) D) :
    At C W σ G H r R fun b H1 => ∃ G1 ρ1 S1 a, ExE G H G1 H1 ∧ Sat C G1 H1 σ ρ1 S1 ∧ R G1 H1 b a ∧ AtS C W G H (f a ρ1 S1) D := by
  cases r with
  | ok a ρ S => exact fun b G' H' e s q => ⟨G', ρ, S, a, e, s, q, h⟩
  | exc x ρ S => exact fun c d G' H' e s q => h c d σ G' H' e.toExC s q
  | bad => exact h
theorem TrS.expr {α β : Type} {m : Rho → Mem → Res α} {f : α → Rho → Mem → SRes} {D : Ends} {R : Gh → Hp → β → α → Prop} {Q : β → Hp → Prop} (h : TrS C W (fun ρ S => thenS (m ρ S) f) D σ H)
    (hq : ∀ b H1 G G1 ρ1 S1 a, ExE G H G1 H1 → Sat C G1 H1 σ ρ1 S1 → R G1 H1 b a → AtS C W G H (f a ρ1 S1) D → Q b H1) : Tr C W m R σ H Q :=
  let ⟨G, ρ, S, s, a⟩ := h
  ⟨G, ρ, S, s, (AtS.bind a).mono fun b H1 ⟨G1, ρ1, S1, a1, e, s1, r1, q1⟩ => hq b H1 G G1 ρ1 S1 a1 e s1 r1 q1⟩
/-- what is held while something else is reckoned -/
def RepH (C : Ct) (G : Gh) (H : Hp) (v : V) : RV → Prop
  | .fz d => Rep C G H v d
  | .own ds => ∃ a xs, v = .ref a ∧ G.O a = .out ∧ H a = some (.lst xs) ∧ Reps C G H xs ds
theorem RepH.mono {v : V} {r : RV} (e : ExE G H G1 H1) (h : RepH C G H v r) : RepH C G1 H1 v r := by
  cases r with
  | fz d => exact rep_mono e h
  | own ds =>
    obtain ⟨a, xs, h1, h2, h3, h4⟩ := h
    exact ⟨a, xs, h1, (e.out a h2).1, (e.out a h2).2.trans h3, Reps.mono e.toExF ds xs h4⟩
/-- the owner of one address is another one; it was neither frozen nor an object's nor a slot's -/
theorem Sat.reown (s : Sat C G H σ ρ S) {a : Addr} {w : Own} (ha : G.O a = .tmp ∨ G.O a = .out) (hH : H a ≠ none) : KeepC G H (G.set a w) H ∧ Sat C (G.set a w) H σ ρ S := by
  have ne : ∀ b, G.O b ≠ .tmp → G.O b ≠ .out → b ≠ a := fun b h1 h2 e => by
    rw [e] at h1 h2
    rcases ha with h | h
    · exact h1 h
    · exact h2 h
  have kc : KeepC G H (G.set a w) H := ⟨rfl, fun b h => ⟨Gh.set_ne (ne b (by rcases h with h | ⟨n, h⟩ | ⟨n, f, h⟩ <;> rw [h] <;> simp) (by rcases h with h | ⟨n, h⟩ | ⟨n, f, h⟩ <;> rw [h] <;> simp)), rfl⟩⟩
  refine ⟨kc, s.toSatS.keepC kc fun b hb => ?_, fun j r hj => ?_, s.ln⟩
  · have : b ≠ a := fun z => hH (by rw [← z]; exact hb)
    rw [Gh.set_ne this]
    exact s.fr b hb
  · have so := s.sl j r hj
    cases r with
    | fz d =>
      obtain ⟨v, h1, h2⟩ := so
      exact ⟨v, h1, Rep.mono kc.exF d v h2⟩
    | own es =>
      obtain ⟨b, ys, h1, h2, h3, h4⟩ := so
      exact ⟨b, ys, h1, by rw [Gh.set_ne (ne b (by rw [h2]; simp) (by rw [h2]; simp))]; exact h2, h3, Reps.mono kc.exF es ys h4⟩
/-- the slot i takes what was reckoned -/
theorem Sat.putOwn (s : Sat C G H σ ρ S) {i : Nat} {a : Addr} {xs : List V} {ds : List D} (ho : G.O a = .slot i) (hH : H a = some (.lst xs)) (r : Reps C G H xs ds) : Sat C G H (σ.set i (some (.ref a))) (ρ.set i (some (.own ds))) S := by
  refine ⟨s.toSatS, fun j x hj => ?_, by rw [List.length_set, List.length_set]; exact s.ln⟩
  have hjl := (List.getElem?_eq_some_iff.mp hj).1
  rw [List.length_set] at hjl
  by_cases e : j = i
  · subst e
    rw [List.getElem?_set_self hjl] at hj
    cases hj
    exact ⟨a, xs, by rw [List.getElem?_set_self (by rw [← s.ln]; exact hjl)], ho, hH, r⟩
  · rw [List.getElem?_set_ne (Ne.symm e)] at hj
    rw [List.getElem?_set_ne (Ne.symm e)]
    exact s.sl j x hj
/-- a raw value to its slot -/
theorem Sat.putR (s : Sat C G H σ ρ S) {i : Nat} {v : V} {r : RV} (h : RepR C G H v r) : ∃ G', ExC G H G' H ∧ Sat C G' H (σ.set i (some v)) (ρ.set i (some r)) S := by
  cases r with
  | fz d => exact ⟨G, .refl G H, s.put h⟩
  | own ds =>
    obtain ⟨a, xs, rfl, h1, h2, h3⟩ := h
    obtain ⟨kc, s'⟩ := s.reown (w := .slot i) (.inl h1) (by rw [h2]; simp)
    refine ⟨_, ⟨kc.exF, fun b hb => ⟨?_, rfl⟩⟩, s'.putOwn Gh.set_same h2 (Reps.mono kc.exF _ _ h3)⟩
    rw [Gh.set_ne fun z => by rw [z, h1] at hb; cases hb]
    exact hb
end
section
variable {X : Cx} {cad : Str → Option Addr} {T : Tab} {W : WX} {n : Nat} {c : CC} {e : Expr} {l : LE} {pos p : Pos}
abbrev SOk (X : Cx) (cad : Str → Option Addr) (T : Tab) (W : WX) (st : Stmt) (l : LS) : Prop := PS X st (TrS (ct X cad) W (denS T l))
abbrev SsOk (X : Cx) (cad : Str → Option Addr) (T : Tab) (W : WX) (st : List Stmt) (l : LSs) : Prop := PSs X st (TrS (ct X cad) W (denSs T l))
theorem PS.weak {X : Cx} {e : Stmt} {t t' : TS} (p : PS X e t) (h : ∀ D σ H, t' D σ H → t D σ H) : PS X e t' := ⟨fun pins s σ H D I q => p.run pins s σ H D I (h _ _ _ q)⟩
theorem PSs.weak {X : Cx} {e : List Stmt} {t t' : TS} (p : PSs X e t) (h : ∀ D σ H, t' D σ H → t D σ H) : PSs X e t' := ⟨fun pins s σ H D I q => p.run pins s σ H D I (h _ _ _ q)⟩
theorem asg_eq {i : Nat} (ρ : Rho) (S : Mem) : denS T (.asg i l) ρ S = thenS (den T l ρ S) fun r ρ S => .nx (ρ.set i (some r)) S := by
  simp only [denS]
  cases den T l ρ S <;> rfl
theorem exp_eq (ρ : Rho) (S : Mem) : denS T (.exp l) ρ S = thenS (den T l ρ S) fun r ρ S => .nx ρ S := by
  simp only [denS]
  cases den T l ρ S <;> rfl
theorem ret_eq (ρ : Rho) (S : Mem) : denS T (.ret l) ρ S = thenS (den T l ρ S) fun r ρ S => .rt r S := by
  simp only [denS]
  cases den T l ρ S <;> rfl
theorem iff_eq {a b : LSs} (ρ : Rho) (S : Mem) : denS T (.iff l a b) ρ S = thenS (tstR (den T l ρ S)) fun k ρ S => if k = true then denSs T a ρ S else denSs T b ρ S := by
  simp only [denS]
  cases tstR (den T l ρ S) <;> rfl
theorem par_eq {i j : Nat} {la lb : LE} (ρ : Rho) (S : Mem) : denS T (.par i j la lb) ρ S = thenS ((den T la ρ S).bind fun x ρ S => (den T lb ρ S).bind fun y ρ S => .ok (x, y) ρ S) fun p ρ S => .nx ((ρ.set i (some p.1)).set j (some p.2)) S := by
  simp only [denS]
  cases (den T la ρ S).bind fun x ρ S => (den T lb ρ S).bind fun y ρ S => .ok (x, y) ρ S <;> rfl
theorem asg_rd {i : Nat} {D : Ends} {σ : L2.St} {H : Hp} (q : TrS (ct X cad) W (denS T (.asg i l)) D σ H) : tAsg (Tr (ct X cad) W (den T l) (RepR (ct X cad))) (gName i) D σ H := by
  simp only [TrS, asg_eq] at q
  refine TrS.expr q fun v H1 G G1 ρ1 S1 r e s1 rr h => ?_
  obtain ⟨G', ex, s'⟩ := s1.putR (i := i) rr
  exact h _ G' H1 (e.toExC.trans ex) s'
theorem sw_of {x : Str} {px : Pos} {ln : Nat} (he : noComp e = true) (env : PySem.Env) (o : Option Expr) : swapsWith e o ln env = pure false := by
  cases e <;> first | rfl | cases he
theorem asg_S {k : Nat} {x : Str} {px : Pos} {i : Nat} (g : Good X cad T W n c) (hi : stoN c x = some i) (h : EOk X cad T W e l) (hc : noComp e = true) : SOk X cad T W (.Assign [.Name x px] e pos) (.asg i l) := by
  obtain ⟨h1, h2, h3, h4⟩ := sto_ok (pos := px) g hi
  exact PS.weak (ps_set g.nd h2 h3 h (sw_of (x := x) (px := px) hc _ _) h4) fun D σ H q => asg_rd q
theorem loc_of {x : Str} (g : Good X cad T W n c) (h : isLoc c x = true) : X.env.scope.names.lookup x = some .local := by
  unfold isLoc at h
  rw [← g.sc] at h
  split at h
  · rename_i e; exact e
  · cases h
theorem lcasg_S {k : Nat} {x : Str} {px : Pos} {i : Nat} (g : Good X cad T W n c) (hi : stoN c x = some i) (h : comp (k + 1) c e = some l) (hc : swapOk c x px e = true) : SOk X cad T W (.Assign [.Name x px] e pos) (.asg i l) := by
  have ih : Snd k := sound k
  cases e with
  | ListComp elt gens scope pos2 =>
    unfold swapOk at hc
    simp only [Bool.and_eq_true, Bool.not_eq_true'] at hc
    obtain ⟨⟨hl, hln⟩, han⟩ := hc
    simp only [comp] at h
    split at h <;> first | (cases h; done) | (rename_i q; cases q)
    rename_i tg0 it0 ifs0
    split at h
    · rename_i hb
      simp only [Bool.and_eq_true] at hb
      obtain ⟨⟨hb, hin⟩, hz⟩ := hb
      obtain ⟨t, ht, hin⟩ := tgIn_all hin
      obtain ⟨p, r, h1, h2, rfl⟩ := o2_some h
      obtain ⟨le, t', h3, h4, rfl⟩ := o2_some h1
      obtain ⟨li, cs, h5, h6, rfl⟩ := o2_some h2
      rw [ht] at h4
      cases h4
      obtain ⟨i1, i2⟩ := snd_I ih g h5 hz
      have ok : BlkOk X.N X.env.scope scope (ownOf c.N scope.names) := by
        rw [g.N, g.sc]
        exact blkOk_by hb
      have hcs : ∀ {X' : Cx}, Good X' cad T W0 n (c.blk scope) → CkOk X' cad T ifs0 cs := fun {X'} g' => by
        split at h6
        · cases h6
          exact ck_nil
        · unfold compL compL at h6
          obtain ⟨l1, l2, h7, h8, rfl⟩ := o2_some h6
          cases h8
          exact ck_one (ih.run g' h7).2.2.1
        · cases h6
      have hloc := loc_of g hl
      refine ⟨fun pins s σ H D I q => (ps_setLc (i := i) (own := ownOf c.N scope.names) (g := gOf X.K t) (tt := Tr (ct X cad) W0 (denC T cs) Eqv) (te := Tr (ct X cad) W0 (den T le) (RepR (ct X cad))) g.calm g.nd (sto_ok (pos := px) g hi).2.1 hloc
        (sw_true I.ok.kind hloc hln han) i1 ok (fun s H A cl fp => tg_ok (g.blk s H scope A cl fp) ht) (fun s H A cl fp => hcs (g.blk s H scope A cl fp)) (fun s H A cl fp => (ih.run (g.blk s H scope A cl fp) h3).1) i2).run pins s σ H D I ?_⟩
      simp only [TrS, asg_eq] at q
      refine lc_rd hin (TrS.expr q fun v H1 G G1 ρ1 S1 r e s1 rr h => ?_)
      obtain ⟨G', ex, s'⟩ := s1.putR (i := i) rr
      exact h _ G' H1 (e.toExC.trans ex) s'
    · cases h
    rename_i tg0 it0 ifs0 tg1 it1 ifs1
    split at h
    · rename_i hb
      simp only [Bool.and_eq_true] at hb
      obtain ⟨⟨⟨⟨hb, hin⟩, hin1⟩, hz⟩, hz1⟩ := hb
      obtain ⟨t, ht, hin⟩ := tgIn_all hin
      obtain ⟨t1, ht1, hin1⟩ := tgIn_all hin1
      obtain ⟨p, r, h1, h2, rfl⟩ := o2_some h
      obtain ⟨p1, p2, h3, h4, rfl⟩ := o2_some h1
      obtain ⟨le, t', h5, h6, rfl⟩ := o2_some h3
      obtain ⟨li, cs, h7, h8, rfl⟩ := o2_some h4
      obtain ⟨t1', q2, h9, h10, rfl⟩ := o2_some h2
      obtain ⟨li1, cs1, h11, h12, rfl⟩ := o2_some h10
      rw [ht] at h6
      cases h6
      rw [ht1] at h9
      cases h9
      obtain ⟨i1, i2⟩ := snd_I ih g h7 hz
      have ok : BlkOk X.N X.env.scope scope (ownOf c.N scope.names) := by
        rw [g.N, g.sc]
        exact blkOk_by hb
      have hloc := loc_of g hl
      refine ⟨fun pins s σ H D I q => (ps_setLc2 (i := i) (own := ownOf c.N scope.names) (vs1 := t1.slots) (g := gOf X.K t) (g1 := gOf X.K t1) (tt := Tr (ct X cad) W0 (denC T cs) Eqv) (tt1 := Tr (ct X cad) W0 (denC T cs1) Eqv) (wi1 := Tr (ct X cad) W0 (denI T li1) (Wks (ct X cad) ExL)) (te := Tr (ct X cad) W0 (den T le) (RepR (ct X cad))) g.calm g.nd (sto_ok (pos := px) g hi).2.1 hloc
        (sw_true I.ok.kind hloc hln han) i1 ok hin1 (fun s H A cl fp => tg_ok (g.blk s H scope A cl fp) ht) (fun s H A cl fp => if_ck ih (g.blk s H scope A cl fp) h8) (fun s H A cl fp => (snd_I ih (g.blk s H scope A cl fp) h11 hz1).1) (fun s H A cl fp => tg_ok (g.blk s H scope A cl fp) ht1) (fun s H A cl fp => if_ck ih (g.blk s H scope A cl fp) h12) (fun s H A cl fp => (ih.run (g.blk s H scope A cl fp) h5).1) i2 (fold_any h11)).run pins s σ H D I ?_⟩
      simp only [TrS, asg_eq] at q
      refine lc2_rd hin hin1 (TrS.expr q fun v H1 G G1 ρ1 S1 r e s1 rr h => ?_)
      obtain ⟨G', ex, s'⟩ := s1.putR (i := i) rr
      exact h _ G' H1 (e.toExC.trans ex) s'
    · cases h
  | _ => cases hc
def isStar : Expr → Bool
  | .Starred _ _ => true
  | _ => false
theorem star_of {k : Nat} {c : CC} {e : Expr} {l : LE} (h : comp k c e = some l) : isStar e = false := by
  cases k with
  | zero => cases h
  | succ k => cases e <;> first | rfl | cases h
theorem swap_par {env : PySem.Env} {x y : Str} {a b : Expr} {px py pt pt2 : Pos} {kt k2 : Nat} (hk : env.scope.kind = .function) (hx : env.scope.names.lookup x = some .local) (hy : env.scope.names.lookup y = some .local) (hline : (px.line == py.line) = true) (hne : (x == y) = false)
    (hca : [a, b].all (constantsAlone 8) = false) (hff : [a, b].all (foldedForSure 8) = false) (hsa : isStar a = false) (hsb : isStar b = false) :
    swappedStores [.Tuple [.Name x px, .Name y py] kt pt] (.Tuple [a, b] k2 pt2) env = pure (some [x, y]) := by
  have kx : env.kindOf x = some .local := hx
  have ky : env.kindOf y = some .local := hy
  have hb : env.blockKind = .function := by unfold Env.blockKind; rw [hk]; rfl
  have hl' : (py.line == px.line) = true := by
    rw [beq_iff_eq] at hline ⊢
    exact hline.symm
  have hxy : ¬ y = x := fun e => by rw [e] at hne; simp at hne
  have hed : [x, y].eraseDups = [x, y] := by
    rw [List.eraseDups_cons]
    simp [hxy, List.eraseDups_cons]
  unfold swappedStores
  simp only [hb, List.filterMap_cons, List.filterMap_nil, kx, ky, hl', hed, hca, hff, Expr.pos, List.head?_cons, Option.map_some, Option.getD_some]
  simp [hca, hff]
  rw [if_neg (fun h => by
    rcases h with h | h
    · cases a <;> first | (cases h; done) | (cases hsa; done)
    · cases b <;> first | (cases h; done) | (cases hsb; done))]
  rw [hed]
  rfl
/-- what was reckoned is held while something else is reckoned; then both are stored -/
theorem hold {C : Ct} {G G1 : Gh} {H H1 : Hp} {σ : L2.St} {ρ : Rho} {S : Mem} {v : V} {r : RV} (s : Sat C G1 H1 σ ρ S) (h : RepR C G1 H1 v r) (e : ExE G H G1 H1) :
    ∃ G1', Sat C G1' H1 σ ρ S ∧ (∀ G2 H2, ExE G1' H1 G2 H2 → ExC G H G2 H2) ∧ ∀ G2 H2 ρ2 S2 i j w r2, ExE G1' H1 G2 H2 → Sat C G2 H2 σ ρ2 S2 → RepR C G2 H2 w r2 → ∃ G3, ExC G H G3 H2 ∧ Sat C G3 H2 ((σ.set i (some v)).set j (some w)) ((ρ2.set i (some r)).set j (some r2)) S2 := by
  cases r with
  | fz d =>
    refine ⟨G1, s, fun G2 H2 e2 => e.toExC.trans e2.toExC, fun G2 H2 ρ2 S2 i j w r2 e2 s2 h2 => ?_⟩
    obtain ⟨G3, ex, s3⟩ := (s2.put (i := i) (Rep.mono e2.toExF d v h)).putR (i := j) h2
    exact ⟨G3, (e.toExC.trans e2.toExC).trans ex, s3⟩
  | own ds =>
    obtain ⟨a, xs, rfl, h1, h2, h3⟩ := h
    obtain ⟨kc, s'⟩ := s.reown (w := .out) (.inl h1) (by rw [h2]; simp)
    have ex1 : ExC G H (G1.set a .out) H1 := by
      refine ⟨⟨fun b hb => ?_, e.pre⟩, fun b hb => ?_⟩
      · rw [Gh.set_ne fun z => by have := (e.frz b hb).1; rw [z, h1] at this; cases this]
        exact e.frz b hb
      · rw [Gh.set_ne fun z => by have := (e.out b hb).1; rw [z, h1] at this; cases this]
        exact e.out b hb
    refine ⟨_, s', fun G2 H2 e2 => ex1.trans e2.toExC, fun G2 H2 ρ2 S2 i j w r2 e2 s2 hr2 => ?_⟩
    have ho := e2.out a Gh.set_same
    have hH2 : H2 a = some (.lst xs) := ho.2.trans h2
    obtain ⟨kc2, s2'⟩ := s2.reown (w := .slot i) (.inr ho.1) (by rw [hH2]; simp)
    have rs := Reps.mono kc2.exF _ _ (Reps.mono e2.toExF _ _ (Reps.mono kc.exF _ _ h3))
    have s4 := s2'.putOwn (i := i) Gh.set_same hH2 rs
    have hr4 : RepR C (G2.set a (.slot i)) H2 w r2 := by
      cases r2 with
      | fz d => exact Rep.mono kc2.exF d w hr2
      | own es =>
        obtain ⟨b, ys, q1, q2, q3, q4⟩ := hr2
        exact ⟨b, ys, q1, by rw [Gh.set_ne fun z => by rw [z, ho.1] at q2; cases q2]; exact q2, q3, Reps.mono kc2.exF es ys q4⟩
    obtain ⟨G3, ex, s5⟩ := s4.putR (i := j) hr4
    refine ⟨G3, ExC.trans ⟨⟨fun b hb => ?_, ?_⟩, fun b hb => ?_⟩ ex, s5⟩
    · have n1 : b ≠ a := fun z => by have := (e.frz b hb).1; rw [z, h1] at this; cases this
      have q := e2.frz b (by rw [Gh.set_ne n1]; exact (e.frz b hb).1)
      rw [Gh.set_ne n1]
      exact ⟨q.1, q.2.trans (e.frz b hb).2⟩
    · obtain ⟨l, q1⟩ := e.pre
      obtain ⟨m, q2⟩ := e2.pre
      exact ⟨l ++ m, by show G2.L = _; rw [q2]; show G1.L ++ m = _; rw [q1, List.append_assoc]⟩
    · have n1 : b ≠ a := fun z => by have := (e.out b hb).1; rw [z, h1] at this; cases this
      have q := e2.out b (by rw [Gh.set_ne n1]; exact (e.out b hb).1)
      rw [Gh.set_ne n1]
      exact ⟨q.1, q.2.trans (e.out b hb).2⟩
theorem par_S {k : Nat} {x y : Str} {a b : Expr} {la lb : LE} {i j : Nat} {px py pt pt2 : Pos} {kt k2 : Nat} (g : Good X cad T W n c) (hx : isLoc c x = true) (hy : isLoc c y = true) (hi : ixOf c.N x = some i) (hj : ixOf c.N y = some j) (hline : (px.line == py.line) = true) (hne : (x == y) = false)
    (hca : [a, b].all (constantsAlone 8) = false) (hff : [a, b].all (foldedForSure 8) = false) (ha : comp k c a = some la) (hb : comp k c b = some lb) : SOk X cad T W (.Assign [.Tuple [.Name x px, .Name y py] kt pt] (.Tuple [a, b] k2 pt2) pos) (.par i j la lb) := by
  obtain ⟨a1, a2, a3, a4⟩ := (sound k).run g ha
  obtain ⟨b1, b2, b3, b4⟩ := (sound k).run g hb
  have hij : i ≠ j := fun e => by
    have h1 := ixOf_get hi
    have h2 := ixOf_get hj
    rw [e, h2] at h1
    cases h1
    simp at hne
  refine ⟨fun pins s σ H D I q => (ps_par g.calm g.nd (ix_of g hi) (ix_of g hj) hij (loc_of g hx) (loc_of g hy) (pa_cons a1 (pa_cons b1 pa_nil (b4 _ _)) (a4 _ _)) (swap_par I.ok.kind (loc_of g hx) (loc_of g hy) hline hne hca hff (star_of ha) (star_of hb))).run pins s σ H D I ?_⟩
  simp only [TrS, par_eq] at q
  obtain ⟨G, ρ, S, sat, q⟩ := q
  -- the first
  have q' : AtS (ct X cad) W G H (thenS (den T la ρ S) fun x ρ S => thenS (den T lb ρ S) fun y ρ S => .nx ((ρ.set i (some x)).set j (some y)) S) D := by
    cases h1 : den T la ρ S with
    | ok x ρ1 S1 =>
      rw [h1] at q
      simp only [Res.bind_ok] at q
      show AtS _ W G H (thenS (den T lb ρ1 S1) fun y ρ S => .nx ((ρ.set i (some x)).set j (some y)) S) D
      cases h2 : den T lb ρ1 S1 <;> rw [h2] at q <;> exact q
    | exc x ρ1 S1 => rw [h1] at q; exact q
    | bad => rw [h1] at q; exact q
  refine ⟨G, ρ, S, sat, (AtS.bind q').mono fun v H1 ⟨G1, ρ1, S1, r, e1, s1, rr, q1⟩ => ?_⟩
  obtain ⟨G1', s1', ex, fin⟩ := hold s1 rr e1
  refine ⟨G1', ρ1, S1, s1', ?_⟩
  have q1 : AtS (ct X cad) W G H (thenS (den T lb ρ1 S1) fun y ρ S => .nx ((ρ.set i (some r)).set j (some y)) S) D := q1
  cases h2 : den T lb ρ1 S1 with
  | ok y ρ2 S2 =>
    rw [h2] at q1
    exact fun w G2 H2 e2 s2 r2 => let ⟨G3, e3, s3⟩ := fin G2 H2 ρ2 S2 i j w y e2 s2 r2; ⟨v, w, rfl, q1 _ G3 H2 e3 s3⟩
  | exc x ρ2 S2 =>
    rw [h2] at q1
    exact fun c d G2 H2 e2 s2 r2 => q1 c d σ G2 H2 (ex G2 H2 e2) s2 r2
  | bad =>
    rw [h2] at q1
    exact q1
theorem names_len {c : CC} {env : PySem.Env} {l : Nat} (hs : env.scope = c.sc) : ∀ (es : List Expr), (es.any fun
    | .Name x _ => !isLoc c x
    | _ => true) = true → (es.filterMap fun
    | .Name id pos => if env.kindOf id == some .local && pos.line == l then some id else none
    | _ => none).length ≠ es.length
  | [], h => by cases h
  | e :: es, h => by
    have le := List.length_filterMap_le (fun
      | .Name id pos => if env.kindOf id == some .local && pos.line == l then some id else none
      | _ => (none : Option Str)) es
    rw [List.any_cons, Bool.or_eq_true] at h
    rw [List.filterMap_cons, List.length_cons]
    split
    · omega
    · rename_i e1
      rcases h with h | h
      · exfalso
        cases e <;> first | (cases e1; done) | skip
        rename_i id pos
        simp only at e1 h
        split at e1
        · rename_i hc
          rw [Bool.and_eq_true] at hc
          have hk : env.scope.names.lookup id = some .local := by simpa [Env.kindOf] using hc.1
          rw [hs] at hk
          unfold isLoc at h
          rw [hk] at h
          cases h
        · cases e1
      · have := names_len (l := l) hs es h
        rw [List.length_cons]
        omega
theorem swN {c : CC} {env : PySem.Env} {es : List Expr} {e : Expr} {kt : Nat} {pt : Pos} (hs : env.scope = c.sc) (h : noSwapT c es e = true) : swappedStores [.Tuple es kt pt] e env = pure none := by
  cases e <;> first | rfl | skip
  rename_i vs k2 p2
  unfold swappedStores
  simp only
  split
  · rfl
  split
  · rfl
  rename_i h1 h2
  simp only [noSwapT, Bool.or_eq_true] at h
  simp only [Bool.or_eq_true, not_or] at h1
  rcases h with (h | h) | h
  · exact (h1.1.2 h).elim
  · exact (h1.1.1 h).elim
  · have := names_len (l := (es.head?.map (·.pos.line)).getD 0) hs es h
    rw [if_pos]
    rw [Bool.or_eq_true]
    exact .inl (bne_iff_ne.mpr this)
theorem tas_eq {is : List Nat} (ρ : Rho) (S : Mem) : denS T (.tas is l) ρ S = thenS (den T l ρ S) fun r ρ S => match Tg.put r.d ρ (.tup is) with | some ρ => .nx ρ S | none => .bad := by
  simp only [denS]
  cases den T l ρ S <;> rfl
theorem tas_S {es : List Expr} {is : List Nat} {kt : Nat} {pt : Pos} (g : Good X cad T W n c) (hi : stoNs c es = some is) (h : EOk X cad T W e l) (hc : noComp e = true) (hn : noSwapT c es e = true) : SOk X cad T W (.Assign [.Tuple es kt pt] e pos) (.tas is l) := by
  obtain ⟨a1, a2, a3⟩ := stos_ok g hi
  have hs : swapsWithSole [.Tuple es kt pt] e pos.line X.env = pure false := by
    show swapsWith e (some (.Tuple es kt pt)) pos.line X.env = pure false
    exact sw_of (x := cellsStr) (px := pos) hc _ _
  refine PS.weak (ps_asg h (pg_tup g.calm a1 a2 a3) hs (swN g.sc hn)) fun D σ H q => ?_
  simp only [TrS, tas_eq] at q
  refine TrS.expr q fun v H1 G G1 ρ1 S1 r e s1 rr h => ?_
  cases r with
  | own ds => exact h.elim
  | fz d =>
    simp only [RV.d] at h
    cases hp : Tg.put d ρ1 (.tup is) with
    | none => rw [hp] at h; exact h.elim
    | some ρ2 =>
      rw [hp] at h
      exact tg_put (js := is) (t := .tup is) s1 rr hp (fun _ h => h) fun σ' s' _ => h σ' G1 H1 e.toExC s'
theorem exp_S (h : EOk X cad T W e l) (hc : noComp e = true) : SOk X cad T W (.Expr e pos) (.exp l) :=
  PS.weak (ps_expr h (sw_of (x := cellsStr) (px := pos) hc _ _)) fun D σ H q => by
    simp only [TrS, exp_eq] at q
    exact TrS.expr q fun v H1 G G1 ρ1 S1 r e s1 rr h => h _ G1 H1 e.toExC s1
theorem ret_S (h : EOk X cad T W e l) : SOk X cad T W (.Return (some e) pos) (.ret l) :=
  PS.weak (ps_ret h) fun D σ H q => by
    simp only [TrS, ret_eq] at q
    exact TrS.expr q fun v H1 G G1 ρ1 S1 r e s1 rr h => h v G1 H1 e.toExC s1.toSatS rr
theorem rtm_S {y : Str} {py : Pos} {i : Nat} (g : Good X cad T W n c) (hny : nameOk y = true) (hvy : isVis c y = true) (hj : ixOf c.N y = some i) : SOk X cad T W (.Return (some (.Name y py)) pos) (.rtm i) := by
  obtain ⟨y1, y2, _⟩ := nameOk_1 hny
  refine PS.weak (ps_ret (pe_var (pos := py) (ix_of g hj) (vis_of g hvy) y1 y2)) fun D σ H q => ?_
  obtain ⟨G, ρ, S, s, q⟩ := q
  simp only [denS] at q
  split at q
  · rename_i r hr
    have so := s.sl i r hr
    cases r with
    | fz d =>
      obtain ⟨v, h1, h2⟩ := so
      exact ⟨v, h1, q v G H (.refl _ _) s.toSatS h2⟩
    | own ds =>
      obtain ⟨a, xs, h1, h2, h3, h4⟩ := so
      have nb : ∀ b, G.O b ≠ .slot i → b ≠ a := fun b h z => h (by rw [z]; exact h2)
      have ex : ExC G H (G.set a .tmp) H := ⟨⟨fun b h => ⟨(Gh.set_ne (nb b (by rw [h]; simp))).trans h, rfl⟩, [], by show G.L = _; simp⟩, fun b h => ⟨(Gh.set_ne (nb b (by rw [h]; simp))).trans h, rfl⟩⟩
      refine ⟨_, h1, q _ (G.set a .tmp) H ex (s.toSatS.keepC ⟨rfl, fun b h => ⟨Gh.set_ne (nb b (by rcases h with h | ⟨n, h⟩ | ⟨n, f, h⟩ <;> rw [h] <;> simp)), rfl⟩⟩ fun b hb => ?_) ⟨a, xs, rfl, Gh.set_same, h3, Reps.mono ex.toExF _ _ h4⟩⟩
      have z := s.fr b hb
      exact (Gh.set_ne (nb b (by rw [z]; simp))).trans z
  · exact q.elim
theorem rtm_eq {i : Nat} (ρ : Rho) (S : Mem) : denS T (.rtm i) ρ S = match ρ[i]? with | some (some r) => .rt r S | _ => .bad := by
  simp only [denS] <;> rfl
theorem retN_S : SOk X cad T W (.Return none pos) .retN :=
  PS.weak ps_retN fun D σ H q => by
    obtain ⟨G, ρ, S, s, q⟩ := q
    simp only [denS] at q
    exact q .non G H (.refl _ _) s.toSatS .non
theorem pass_S : SOk X cad T W (.Pass pos) .pass :=
  PS.weak ps_pass fun D σ H q => by
    obtain ⟨G, ρ, S, s, q⟩ := q
    simp only [denS] at q
    exact q σ G H (.refl _ _) s
theorem iff_S {t : Expr} {lt : LE} {a b : List Stmt} {la lb : LSs} (ht : TOk X cad T W t lt) (ha : SsOk X cad T W a la) (hb : SsOk X cad T W b lb) : SOk X cad T W (.If t a b pos) (.iff lt la lb) :=
  PS.weak (ps_if ht ha hb) fun D σ H q => by
    simp only [TrS, iff_eq] at q
    refine TrS.expr q fun k H1 G G1 ρ1 S1 k' e s1 rk h => ?_
    cases rk
    have h := AtS.ext h e.toExC
    cases k with
    | true =>
      rw [if_pos rfl] at h
      exact iteT ⟨G1, ρ1, S1, s1, h⟩
    | false =>
      rw [if_neg (by decide)] at h
      exact iteF ⟨G1, ρ1, S1, s1, h⟩
theorem nil_Ss : SsOk X cad T W [] .nil :=
  PSs.weak pss_nil fun D σ H q => by
    obtain ⟨G, ρ, S, s, q⟩ := q
    simp only [denSs] at q
    exact q σ G H (.refl _ _) s
theorem cons_Ss {s : Stmt} {ss : List Stmt} {ls : LS} {lss : LSs} (h : SOk X cad T W s ls) (hs : SsOk X cad T W ss lss) : SsOk X cad T W (s :: ss) (.cons ls lss) :=
  PSs.weak (pss_cons h hs) fun D σ H q => by
    obtain ⟨G, ρ, S, sat, q⟩ := q
    simp only [denSs] at q
    refine ⟨G, ρ, S, sat, ?_⟩
    cases e : denS T ls ρ S with
    | nx ρ1 S1 =>
      rw [e] at q
      exact fun σ' G' H' ex s' => ⟨G', ρ1, S1, s', AtS.ext q ex⟩
    | rt r S1 => rw [e] at q; exact q
    | bk ρ1 S1 => rw [e] at q; exact q
    | ct ρ1 S1 => rw [e] at q; exact q
    | exc x ρ1 S1 => rw [e] at q; exact q
    | bad => rw [e] at q; exact q
end
section
variable {X : Cx} {cad : Str → Option Addr} {T : Tab} {W : WX} {n : Nat} {c : CC} {e : Expr} {l : LE} {pos p : Pos}
/-- nothing is promised of a statement that is never reached -/
theorem stop_S {st : Stmt} : SOk X cad T W st .stop := ⟨fun pins s σ H D I q => by
  obtain ⟨G, ρ, S, sat, q⟩ := q
  simp only [denS] at q
  exact q.elim⟩
/-- what a loop walks -/
theorem snd_IF {k : Nat} (g : Good X cad T W n c) {e tg : Expr} {li : LI} (h : compI c (comp k c) e = some li) (hz : zipTg e tg = true) : PI X tg e (Tr (ct X cad) W (denIF T li) (Wks (ct X cad) ExC)) ∧ (∀ x, foldedSetIterable e X.env x = pure x) := by
  have ih := sound k
  unfold compI at h
  split at h
  · rename_i x p a pos
    split at h
    · rename_i ex
      subst ex
      split at h
      · rename_i hg
        cases q : comp k c a with
        | none => rw [q] at h; cases h
        | some l =>
          rw [q] at h
          cases h
          obtain ⟨s1, s2, s3, s4⟩ := ih.run g q
          exact ⟨PI.weak (rng_I g hg s4 rvF (frz_E s1)) fun σ H Q z => by simpa only [Tr, denIF] using z, fun _ => rfl⟩
      · cases h
    · split at h
      · rename_i ex
        subst ex
        split at h
        · rename_i hg
          cases q : comp k c a with
          | none => rw [q] at h; cases h
          | some l =>
            rw [q] at h
            cases h
            obtain ⟨s1, s2, s3, s4⟩ := ih.run g q
            obtain ⟨es, kk, p2, rfl⟩ : ∃ es kk p, tg = .Tuple es kk p := by
              cases tg <;> first | exact ⟨_, _, _, rfl⟩ | cases hz
            exact ⟨PI.weak (enm_I g hg s4 rvF (frz_E s1)) fun σ H Q z => by simpa only [Tr, denIF] using z, fun _ => rfl⟩
        · cases h
      · cases h
  · rename_i x p a b pos
    split at h
    · rename_i ex
      subst ex
      split at h
      · rename_i hg
        obtain ⟨la, lb, h1, h2, rfl⟩ := o2_some h
        obtain ⟨s1, s2, s3, s4⟩ := ih.run g h1
        obtain ⟨t1, t2, t3, t4⟩ := ih.run g h2
        obtain ⟨es, kk, p2, rfl⟩ : ∃ es kk p, tg = .Tuple es kk p := by
          cases tg <;> first | exact ⟨_, _, _, rfl⟩ | cases hz
        exact ⟨PI.weak (zip_I g hg s4 t4 rvF (frz_E s1) (frz_E t1)) fun σ H Q z => by simpa only [Tr, denIF] using z, fun _ => rfl⟩
      · cases h
    · cases h
  · cases q : comp k c e with
    | none => rw [q] at h; cases h
    | some l =>
      rw [q] at h
      cases h
      obtain ⟨s1, s2, s3, s4⟩ := ih.run g q
      refine ⟨PI.weak (seq_I rvF (frz_E s1)) fun σ H Q z => by simpa only [Tr, denIF] using z, fun x => ?_⟩
      cases k with
      | zero => cases q
      | succ k => cases e <;> first | rfl | cases q
theorem for_eq {tg : Tg} {it : LI} {b : LSs} (ρ : Rho) (S : Mem) : denS T (.forr tg it b) ρ S = thenS (denIF T it ρ S) fun ds ρ S => forLoop tg (denSs T b) ds ρ S := by
  simp only [denS]
  cases denIF T it ρ S <;> rfl
theorem for_S {k : Nat} {tg it : Expr} {body : List Stmt} {t : Tg} {li : LI} {lb : LSs} (g : Good X cad T W n c) (po : PassesOwn (model X.prog X.w) X.A X.env X.xe) (hz : zipTg it tg = true) (h1 : compT c tg = some t) (h2 : compI c (comp k c) it = some li) (h3 : SsOk X cad T W body lb) :
    SOk X cad T W (.For tg it body [] pos) (.forr t li lb) := by
  obtain ⟨i1, i2⟩ := snd_IF g h2 hz
  refine PS.weak (ps_for po g.calm i1 (tg_ok g h1) h3 i2) fun D σ H q => ?_
  simp only [TrS, for_eq] at q
  refine TrS.expr q fun J H1 G G1 ρ1 S1 ds e s1 wk q1 => ?_
  let Pv : Nat → L2.St → Hp → Prop := fun i σi Hi => i ≤ ds.length ∧ ∃ Gi ρi Si, ExC G1 H1 Gi Hi ∧ Sat (ct X cad) Gi Hi σi ρi Si ∧ AtS (ct X cad) W Gi Hi (forLoop t (denSs T lb) (ds.drop i) ρi Si) D
  refine ⟨fun i m σi Hi => m = ds.length - i ∧ Pv i σi Hi, ⟨ds.length, by simp, Nat.zero_le _, G1, ρ1, S1, .refl _ _, s1, by rw [List.drop_zero]; exact AtS.ext q1 e.toExC⟩, ?_⟩
  rintro i m σi Hi ⟨rfl, hi, Gi, ρi, Si, ei, si, qi⟩
  by_cases hlt : i < ds.length
  · right
    refine ⟨wk.goes i Gi Hi hlt ei, Pv (i + 1), fun σ' H' p => ⟨ds.length - (i + 1), by omega, rfl, p⟩, fun x H' y => ?_⟩
    obtain ⟨G2, d, k2, sat2, hd, rd⟩ := wk.yields i x Gi Hi H' _ _ _ hlt ei si y
    have hdr : ds.drop i = d :: ds.drop (i + 1) := by
      rw [List.drop_eq_getElem_cons hlt]
      congr 1
      have := List.getElem?_eq_getElem hlt
      rw [hd] at this
      exact (Option.some.inj this).symm
    rw [hdr] at qi
    have e2 := k2.exE.toExC
    have q2 := AtS.ext qi e2
    unfold forLoop at q2
    cases hp : t.put d ρi with
    | none => rw [hp] at q2; exact q2.elim
    | some ρt =>
      rw [hp] at q2
      dsimp only at q2
      refine tg_put (js := t.slots) sat2 rd hp (fun _ h => h) fun σt st bt => ?_
      refine ⟨G2, ρt, Si, st, ?_⟩
      cases hb : denSs T lb ρt Si with
      | nx ρ3 S3 =>
        rw [hb] at q2
        exact fun σ3 G3 H3 e3 s3 => ⟨hlt, G3, ρ3, S3, (ei.trans e2).trans e3, s3, AtS.ext q2 e3⟩
      | ct ρ3 S3 =>
        rw [hb] at q2
        exact fun σ3 G3 H3 e3 s3 => ⟨hlt, G3, ρ3, S3, (ei.trans e2).trans e3, s3, AtS.ext q2 e3⟩
      | bk ρ3 S3 =>
        rw [hb] at q2
        exact fun σ3 G3 H3 e3 s3 => q2 σ3 G3 H3 e3 s3
      | rt r S3 => rw [hb] at q2; exact q2
      | exc x ρ3 S3 => rw [hb] at q2; exact q2
      | bad => rw [hb] at q2; exact q2.elim
  · left
    have hie : i = ds.length := by omega
    subst hie
    refine ⟨wk.stops Gi Hi ei, ?_⟩
    rw [List.drop_length] at qi
    exact qi σi Gi Hi (.refl _ _) si
theorem brk_S : SOk X cad T W (.Break pos) .brk :=
  PS.weak ps_break fun D σ H q => by
    obtain ⟨G, ρ, S, s, q⟩ := q
    simp only [denS] at q
    exact q σ G H (.refl _ _) s
theorem cnt_S : SOk X cad T W (.Continue pos) .cnt :=
  PS.weak ps_continue fun D σ H q => by
    obtain ⟨G, ρ, S, s, q⟩ := q
    simp only [denS] at q
    exact q σ G H (.refl _ _) s
theorem whl_S {t : Expr} {lt : LE} {body : List Stmt} {lb : LSs} (po : PassesOwn (model X.prog X.w) X.A X.env X.xe) (ht : TOk X cad T W t lt) (hb : SsOk X cad T W body lb) : SOk X cad T W (.While t body [] pos) (.whl lt lb) := by
  refine PS.weak (ps_while po ht hb) fun D σ H q => ?_
  simp only [TrS, denS] at q
  obtain ⟨G, ρ, S, s, q⟩ := q
  let tc : Rho → Mem → Res Bool := fun ρ S => tstR (den T lt ρ S)
  refine ⟨fun m σi Hi => ∃ Gi ρi Si, Sat (ct X cad) Gi Hi σi ρi Si ∧ AtS (ct X cad) W Gi Hi (whLoop tc (denSs T lb) m ρi Si) D, ⟨WTURNS, G, ρ, S, s, q⟩, ?_⟩
  rintro m σi Hi ⟨Gi, ρi, Si, si, qi⟩
  cases m with
  | zero => exact qi.elim
  | succ m =>
    have qi' : AtS (ct X cad) W Gi Hi (thenS (tc ρi Si) fun k ρ S => if k = true then (match denSs T lb ρ S with
        | .nx ρ S => whLoop tc (denSs T lb) m ρ S
        | .ct ρ S => whLoop tc (denSs T lb) m ρ S
        | .bk ρ S => .nx ρ S
        | r => r) else .nx ρ S) D := by
      unfold whLoop at qi
      cases e : tc ρi Si <;> rw [e] at qi <;> exact qi
    refine ⟨Gi, ρi, Si, si, (AtS.bind qi').mono fun k H1 ⟨G1, ρ1, S1, k', e1, s1, rk, h⟩ => ?_⟩
    cases rk
    have h := AtS.ext h e1.toExC
    cases k with
    | false =>
      rw [if_neg (by decide)] at h ⊢
      exact h σi G1 H1 (.refl _ _) s1
    | true =>
      rw [if_pos rfl] at h ⊢
      refine ⟨fun σ' H' => ∃ Gi ρi Si, Sat (ct X cad) Gi H' σ' ρi Si ∧ AtS (ct X cad) W Gi H' (whLoop tc (denSs T lb) m ρi Si) D, fun σ' H' p => ⟨m, by omega, p⟩, G1, ρ1, S1, s1, ?_⟩
      cases hb : denSs T lb ρ1 S1 with
      | nx ρ3 S3 =>
        rw [hb] at h
        exact fun σ3 G3 H3 e3 s3 => ⟨G3, ρ3, S3, s3, AtS.ext h e3⟩
      | ct ρ3 S3 =>
        rw [hb] at h
        exact fun σ3 G3 H3 e3 s3 => ⟨G3, ρ3, S3, s3, AtS.ext h e3⟩
      | bk ρ3 S3 =>
        rw [hb] at h
        exact fun σ3 G3 H3 e3 s3 => h σ3 G3 H3 e3 s3
      | rt r S3 => rw [hb] at h; exact h
      | exc x ρ3 S3 => rw [hb] at h; exact h
      | bad => rw [hb] at h; exact h.elim
/-- a slot's list is another one -/
theorem Sat.sup {C : Ct} {G : Gh} {H : Hp} {σ : L2.St} {ρ : Rho} {S : Mem} (s : Sat C G H σ ρ S) {i : Nat} {b : Addr} {ys zs : List V} {es : List D} (hi : σ[i]? = some (some (.ref b))) (ho : G.O b = .slot i) (hH : H b = some (.lst ys)) (r : Reps C G H zs es) :
    ExC G H G (upd H b (.lst zs)) ∧ Sat C G (upd H b (.lst zs)) σ (ρ.set i (some (.own es))) S := by
  have ne : ∀ a, G.O a ≠ .slot i → a ≠ b := fun a h z => h (by rw [z]; exact ho)
  have exF : ExF G H G (upd H b (.lst zs)) := ⟨fun a h => ⟨h, upd_ne (ne a (by rw [h]; simp))⟩, [], by simp⟩
  have kc : KeepC G H G (upd H b (.lst zs)) := ⟨rfl, fun a h => ⟨rfl, upd_ne (ne a (by rcases h with h | ⟨n, h⟩ | ⟨n, f, h⟩ <;> rw [h] <;> simp))⟩⟩
  refine ⟨⟨exF, fun a h => ⟨h, upd_ne (ne a (by rw [h]; simp))⟩⟩, s.toSatS.keepC kc fun a h => ?_, fun j x hj => ?_, by rw [List.length_set]; exact s.ln⟩
  · have : a ≠ b := fun z => by rw [z, upd_same] at h; cases h
    rw [upd_ne this] at h
    exact s.fr a h
  · have hjl := (List.getElem?_eq_some_iff.mp hj).1
    rw [List.length_set] at hjl
    by_cases e : j = i
    · subst e
      rw [List.getElem?_set_self hjl] at hj
      cases hj
      exact ⟨b, zs, hi, ho, upd_same, Reps.mono exF _ _ r⟩
    · rw [List.getElem?_set_ne (Ne.symm e)] at hj
      have so := s.sl j x hj
      cases x with
      | fz d =>
        obtain ⟨w, h1, h2⟩ := so
        exact ⟨w, h1, Rep.mono exF d w h2⟩
      | own es =>
        obtain ⟨a, us, h1, h2, h3, h4⟩ := so
        exact ⟨a, us, h1, h2, by rw [upd_ne (ne a (by rw [h2]; intro z; cases z; exact e rfl))]; exact h3, Reps.mono exF es us h4⟩
/-- a slot's list grows -/
theorem Sat.app {C : Ct} {G : Gh} {H : Hp} {σ : L2.St} {ρ : Rho} {S : Mem} (s : Sat C G H σ ρ S) {i : Nat} {b : Addr} {ys : List V} {ds : List D} {v : V} {d : D} (hi : σ[i]? = some (some (.ref b))) (ho : G.O b = .slot i) (hH : H b = some (.lst ys)) (r : Reps C G H ys ds) (rv : Rep C G H v d) :
    ExC G H G (upd H b (.lst (ys ++ [v]))) ∧ Sat C G (upd H b (.lst (ys ++ [v]))) σ (ρ.set i (some (.own (ds ++ [d])))) S := s.sup hi ho hH (reps_snoc r rv)
theorem Reps.set {C : Ct} {G : Gh} {H : Hp} {v : V} {d : D} : ∀ {ds : List D} {xs : List V} (j : Nat), Reps C G H xs ds → Rep C G H v d → Reps C G H (xs.set j v) (ds.set j d)
  | [], _, _, h, _ => by cases h; exact .nil
  | x :: ds, _, 0, h, r => by
    cases h with
    | cons h1 h2 => exact .cons r h2
  | x :: ds, _, j + 1, h, r => by
    cases h with
    | cons h1 h2 => exact .cons h1 (Reps.set j h2 r)
theorem fldsOk_put {C : Ct} {G G' : Gh} {H H' : Hp} {n : Nat} {f : Str} {v : V} {x : RV} (k : ∀ g w y, FldOk C G H n g w y → FldOk C G' H' n g w y) (hx : FldOk C G' H' n f v x) : ∀ {fs : List (Str × RV)} {vs : List (Str × V)}, FldsOk C G H n fs vs → FldsOk C G' H' n (putR f x fs) (putF f v vs)
  | [], _, h => by
    cases h
    exact .cons ⟨rfl, hx⟩ .nil
  | (g, y) :: fs, _, h => by
    cases h with
    | cons h1 h2 =>
      rename_i q vs
      obtain ⟨g2, w⟩ := q
      obtain ⟨e1, h1⟩ := h1
      dsimp only at e1 h1
      subst e1
      by_cases e : g = f
      · have q1 : putR f x ((g, y) :: fs) = (f, x) :: fs := if_pos e
        have q2 : putF f v ((g, w) :: vs) = (g, v) :: vs := if_pos e
        rw [q1, q2, e]
        exact .cons ⟨rfl, hx⟩ (L2.Paired.mapP h2 fun p q z => ⟨z.1, k _ _ _ z.2⟩)
      · have q1 : putR f x ((g, y) :: fs) = (g, y) :: putR f x fs := if_neg e
        have q2 : putF f v ((g, w) :: vs) = (g, w) :: putF f v vs := if_neg e
        rw [q1, q2]
        exact .cons ⟨rfl, k _ _ _ h1⟩ (fldsOk_put k hx h2)
theorem sfd_eq {i : Nat} {f : Str} (ρ : Rho) (S : Mem) : denS T (.sfd i f l) ρ S = thenS (den T l ρ S) fun r ρ S => match sfdO T i f r.d ρ S with | some S' => .nx ρ S' | none => .bad := by
  simp only [denS]
  cases den T l ρ S <;> rfl
theorem sfd_S {x f : Str} {i : Nat} {px p2 : Pos} (g : Good X cad T W n c) (hn : nameOk x = true) (hv : isVis c x = true) (hi : ixOf c.N x = some i) (h : EOk X cad T W e l) :
    SOk X cad T W (.Assign [.Attribute (.Name x px) f p2] e pos) (.sfd i f l) := by
  obtain ⟨n1, n2, _⟩ := nameOk_1 hn
  have hs : swapsWith e (some (.Attribute (.Name x px) f p2)) pos.line X.env = pure false := by cases e <;> rfl
  refine PS.weak (ps_fld (pe_var (pos := px) (ix_of g hi) (vis_of g hv) n1 n2) h hs) fun D σ H q => ?_
  simp only [TrS, sfd_eq] at q
  refine TrS.expr q fun v H1 G G1 ρ1 S1 r e s1 rr h => ?_
  obtain ⟨G2, e2, s2, rv⟩ := rr.freeze s1
  unfold sfdO at h
  split at h
  · rename_i S' eo
    split at eo
    · rename_i m hm
      split at eo
      · rename_i cc fs ho
        split at eo
        · rename_i hc
          cases eo
          obtain ⟨v0, f1, f2⟩ := s2.sl i _ hm
          cases f2 with
          | loc hL =>
            rename_i a
            obtain ⟨a2, q1, q2⟩ := s2.ob m _ ho
            rw [hL] at q1
            cases q1
            obtain ⟨q3, A, dx, vs, q4, q5, q6⟩ := q2
            have hlen : fs.length = vs.length := q6.length
            refine ⟨_, f1, a, A, dx, vs, rfl, q5, (g.tab.na _ _ _ hc.1 q4).1, (g.tab.na _ _ _ hc.1 q4).2, by rw [← hlen]; exact hc.2, ?_⟩
            have ne : ∀ b, G2.O b ≠ .obj m → b ≠ a := fun b hb z => hb (by rw [z]; exact q3)
            have exF : ExF G2 H1 G2 (upd H1 a (.ins A dx (putF f v vs))) := ⟨fun b hb => ⟨hb, upd_ne (ne b (by rw [hb]; simp))⟩, [], by simp⟩
            have ex : ExC G2 H1 G2 (upd H1 a (.ins A dx (putF f v vs))) := ⟨exF, fun b hb => ⟨hb, upd_ne (ne b (by rw [hb]; simp))⟩⟩
            have kf : ∀ g w y, FldOk (ct X cad) G2 H1 m g w y → FldOk (ct X cad) G2 (upd H1 a (.ins A dx (putF f v vs))) m g w y := fun g w y hy => by
              cases y with
              | fz d => exact Rep.mono exF d w hy
              | own ds =>
                obtain ⟨b, ys, y1, y2, y3, y4⟩ := hy
                exact ⟨b, ys, y1, y2, by rw [upd_ne (ne b (by rw [y2]; simp))]; exact y3, Reps.mono exF ds ys y4⟩
            refine h σ G2 _ ((e.toExC.trans e2.toExC).trans ex) ⟨s2.toSatS.upd1 hL q3 (fun b hb _ => upd_ne hb) (by rw [upd_same]; simp) ⟨q3, A, dx, _, q4, upd_same, fldsOk_put (x := .fz r.d) kf (Rep.mono exF _ _ rv) q6⟩, fun j y hj => ?_, s2.ln⟩
            have so := s2.sl j y hj
            cases y with
            | fz d =>
              obtain ⟨w, h1, h2⟩ := so
              exact ⟨w, h1, Rep.mono exF d w h2⟩
            | own es =>
              obtain ⟨b, ys, h1, h2, h3, h4⟩ := so
              exact ⟨b, ys, h1, h2, by rw [upd_ne (ne b (by rw [h2]; simp))]; exact h3, Reps.mono exF es ys h4⟩
        · cases eo
      · cases eo
    · cases eo
  · exact h.elim
theorem sfm_eq {i j : Nat} {f : Str} (ρ : Rho) (S : Mem) : denS T (.sfm i f j) ρ S = match sfmO T i f j ρ S with | some p => .nx p.1 p.2 | none => .bad := by
  simp only [denS] <;> cases sfmO T i f j ρ S <;> rfl
theorem sfm_S {x y f : Str} {i j : Nat} {px py p2 : Pos} (g : Good X cad T W n c) (hn : nameOk x = true) (hv : isVis c x = true) (hi : ixOf c.N x = some i) (hny : nameOk y = true) (hvy : isVis c y = true) (hj : ixOf c.N y = some j) :
    SOk X cad T W (.Assign [.Attribute (.Name x px) f p2] (.Name y py) pos) (.sfm i f j) := by
  obtain ⟨n1, n2, _⟩ := nameOk_1 hn
  obtain ⟨y1, y2, _⟩ := nameOk_1 hny
  refine PS.weak (ps_fld (pe_var (pos := px) (ix_of g hi) (vis_of g hv) n1 n2) (pe_var (pos := py) (ix_of g hj) (vis_of g hvy) y1 y2) rfl) fun D σ H q => ?_
  simp only [TrS, sfm_eq] at q
  obtain ⟨G, ρ, S, s, q⟩ := q
  unfold sfmO at q
  split at q
  · rename_i p eo
    split at eo
    · rename_i m ds hm hd
      split at eo
      · rename_i cc fs ho
        split at eo
        · rename_i hc
          cases eo
          obtain ⟨v0, f1, f2⟩ := s.sl i _ hm
          obtain ⟨b0, xs, e1, e2, e3, e4⟩ := s.sl j _ hd
          cases f2 with
          | loc hL =>
            rename_i a
            obtain ⟨a2, q1, q2⟩ := s.ob m _ ho
            rw [hL] at q1
            cases q1
            obtain ⟨q3, A, dx, vs, q4, q5, q6⟩ := q2
            have hlen : fs.length = vs.length := q6.length
            refine ⟨_, e1, _, f1, a, A, dx, vs, rfl, q5, (g.tab.na _ _ _ hc.1 q4).1, (g.tab.na _ _ _ hc.1 q4).2, by rw [← hlen]; exact hc.2, ?_⟩
            have nb : ∀ b, G.O b ≠ .slot j → b ≠ b0 := fun b h z => h (by rw [z]; exact e2)
            have na : ∀ b, G.O b ≠ .obj m → b ≠ a := fun b h z => h (by rw [z]; exact q3)
            have kp : ∀ b, G.O b ≠ .slot j → G.O b ≠ .obj m → (G.set b0 (.sub m f)).O b = G.O b ∧ upd H a (.ins A dx (putF f (.ref b0) vs)) b = H b := fun b h1 h2 => ⟨Gh.set_ne (nb b h1), upd_ne (na b h2)⟩
            have ab : b0 ≠ a := na b0 (by rw [e2]; simp)
            have exF : ExF G H (G.set b0 (.sub m f)) (upd H a (.ins A dx (putF f (.ref b0) vs))) := ⟨fun b h => ⟨(kp b (by rw [h]; simp) (by rw [h]; simp)).1.trans h, (kp b (by rw [h]; simp) (by rw [h]; simp)).2⟩, [], by show G.L = _; simp⟩
            have ex : ExC G H (G.set b0 (.sub m f)) (upd H a (.ins A dx (putF f (.ref b0) vs))) := ⟨exF, fun b h => ⟨(kp b (by rw [h]; simp) (by rw [h]; simp)).1.trans h, (kp b (by rw [h]; simp) (by rw [h]; simp)).2⟩⟩
            have kf : ∀ g w y, FldOk (ct X cad) G H m g w y → FldOk (ct X cad) (G.set b0 (.sub m f)) (upd H a (.ins A dx (putF f (.ref b0) vs))) m g w y := fun g w y hy => by
              cases y with
              | fz d => exact Rep.mono exF d w hy
              | own ds =>
                obtain ⟨b, ys, y1, y2, y3, y4⟩ := hy
                have k := kp b (by rw [y2]; simp) (by rw [y2]; simp)
                exact ⟨b, ys, y1, k.1.trans y2, k.2.trans y3, Reps.mono exF ds ys y4⟩
            refine q σ _ _ ex ⟨⟨fun b hb => ?_, ?_, fun n o hn => ?_⟩, fun i2 r hr => ?_, ?_⟩
            · have h1 : b ≠ a := fun z => by rw [z, upd_same] at hb; cases hb
              rw [upd_ne h1] at hb
              have h2 : b ≠ b0 := fun z => by rw [z, e3] at hb; cases hb
              rw [Gh.set_ne h2]
              exact s.fr b hb
            · show G.L.length = (S.objs.set m _).length
              rw [List.length_set]
              exact s.ll
            · have hn : (S.objs.set m _)[n]? = some o := hn
              by_cases z : n = m
              · subst z
                have hl := (List.getElem?_eq_some_iff.mp ho).1
                rw [List.getElem?_set_self hl] at hn
                cases hn
                exact ⟨a, hL, (Gh.set_ne ab.symm).trans q3, A, dx, _, q4, upd_same, fldsOk_put (x := .own ds) kf ⟨b0, xs, rfl, Gh.set_same, (upd_ne ab).trans e3, Reps.mono exF ds xs e4⟩ q6⟩
              · rw [List.getElem?_set_ne (Ne.symm z)] at hn
                obtain ⟨b, h1, h2⟩ := s.ob n o hn
                exact ⟨b, h1, h2.keep ⟨⟨[], by show G.L = _; simp⟩, fun b hb => kp b (by
                  rcases hb with h | h | ⟨f, h⟩ <;> rw [h] <;> simp) (by
                  rcases hb with h | h | ⟨f, h⟩
                  · rw [h]; simp
                  · rw [h]; intro w; cases w; exact z rfl
                  · rw [h]; simp)⟩⟩
            · have hr : (ρ.set j none)[i2]? = some (some r) := hr
              by_cases z : i2 = j
              · subst z
                rw [List.getElem?_set_self (List.getElem?_eq_some_iff.mp hd).1] at hr
                cases hr
              · rw [List.getElem?_set_ne (Ne.symm z)] at hr
                have so := s.sl i2 r hr
                cases r with
                | fz d =>
                  obtain ⟨w, h1, h2⟩ := so
                  exact ⟨w, h1, Rep.mono exF d w h2⟩
                | own es =>
                  obtain ⟨b, ys, h1, h2, h3, h4⟩ := so
                  have k := kp b (by rw [h2]; intro w; cases w; exact z rfl) (by rw [h2]; simp)
                  exact ⟨b, ys, h1, k.1.trans h2, k.2.trans h3, Reps.mono exF es ys h4⟩
            · show (ρ.set j none).length = _
              rw [List.length_set]
              exact s.ln
        · cases eo
      · cases eo
    · cases eo
  · exact q.elim
theorem apd_eq {i : Nat} (ρ : Rho) (S : Mem) : denS T (.apd i l) ρ S = if ownAt i ρ = false then .bad else thenS (den T l ρ S) fun r ρ S => match apdO i r.d ρ with | some ρ => .nx ρ S | none => .bad := by
  simp only [denS]
  cases den T l ρ S <;> rfl
theorem apd_S {x : Str} {i : Nat} {px apos cpos : Pos} (g : Good X cad T W n c) (hn : nameOk x = true) (hv : isVis c x = true) (hi : ixOf c.N x = some i) (h : EOk X cad T W e l) (hp : Plain e) (hline : (apos.endLine == cpos.line) = true) :
    SOk X cad T W (.Expr (.Call (.Attribute (.Name x px) ("append" : Str) apos) [e] [] cpos) pos) (.apd i l) := by
  obtain ⟨n1, n2, _⟩ := nameOk_1 hn
  have pe : PE X (.Call (.Attribute (.Name x px) ("append" : Str) apos) [e] [] cpos) _ := pe_bm (apos := apos) (cpos := cpos) PySem.F.plainAttrs_list PySem.F.slot_list_append PySem.F.type_list_append mt_append (pe_var (pos := px) (ix_of g hi) (vis_of g hv) n1 n2) (pa_cons h pa_nil (hp _ _)) (hfew := by rw [show starEach [e] X.env = (false, eval e X.env) :: starEach [] X.env from hp _ _]; rfl) (hline := hline) (hs := hp _ _)
  refine PS.weak (ps_expr pe (sw_of (x := cellsStr) (px := pos) rfl _ _)) fun D σ H q => ?_
  simp only [TrS, apd_eq] at q
  obtain ⟨G, ρ, S, s, q⟩ := q
  split at q
  · exact q.elim
  rename_i ow
  have : ∃ ds, ρ[i]? = some (some (.own ds)) := by
    unfold ownAt at ow
    split at ow
    · rename_i ds e; exact ⟨ds, e⟩
    · exact (ow rfl).elim
  obtain ⟨ds0, e0⟩ := this
  obtain ⟨a, xs, e1, ho, hH, r⟩ := s.sl i _ e0
  refine ⟨_, e1, .inl ⟨rfl, xs, SqL.of hH⟩, ?_⟩
  refine ⟨G, ρ, S, s, (AtS.bind q).mono fun v H1 ⟨G1, ρ1, S1, r1, ex, s1, rr, h1⟩ => ?_⟩
  obtain ⟨G2, e2, s2, rv⟩ := rr.freeze s1
  unfold apdO at h1
  cases e3 : ρ1[i]? with
  | none => rw [e3] at h1; exact h1.elim
  | some o =>
    rw [e3] at h1
    cases o with
    | none => exact h1.elim
    | some y =>
      cases y with
      | fz d => exact h1.elim
      | own ds =>
        dsimp only at h1
        split at h1
        · rename_i e4
          split at e4
          · rename_i hz
            cases e4
            obtain ⟨b, ys, f1, f2, f3, f4⟩ := s2.sl i _ e3
            rw [e1] at f1
            cases f1
            obtain ⟨x1, x2⟩ := s2.app e1 f2 f3 f4 rv
            exact ⟨a, ys, v, rfl, rfl, f3, by rw [sizeLine_eq, f4.length]; exact hz, h1 _ G2 _ ((ex.toExC.trans e2.toExC).trans x1) x2⟩
          · cases e4
        · exact h1.elim
theorem apx_eq {la : LE} (ρ : Rho) (S : Mem) : denS T (.apx la l) ρ S = thenS (den T la ρ S) fun x ρ S => match x with
    | .own ds => if ds.length < LINE then thenS (den T l ρ S) fun _ ρ S => .nx ρ S else .bad
    | _ => .bad := by
  simp only [denS]
  cases den T la ρ S with
  | ok x ρ1 S1 =>
    cases x with
    | fz d => rfl
    | own ds =>
      simp only [Res.bind_ok, thenS]
      by_cases hz : ds.length < LINE
      · simp only [if_pos hz]
        cases den T l ρ1 S1 <;> rfl
      · simp only [if_neg hz]
  | exc x ρ1 S1 => rfl
  | bad => rfl
/-- a new list is appended to and dropped -/
theorem apx_S {a : Expr} {la : LE} {apos cpos : Pos} (g : Good X cad T W n c) (hb : baseOk a = true) (h0 : EOk X cad T W a la) (h : EOk X cad T W e l) (hp : Plain e) (hline : (apos.endLine == cpos.line) = true) :
    SOk X cad T W (.Expr (.Call (.Attribute a ("append" : Str) apos) [e] [] cpos) pos) (.apx la l) := by
  have pe : PE X (.Call (.Attribute a ("append" : Str) apos) [e] [] cpos) _ := pe_bm (apos := apos) (cpos := cpos) PySem.F.plainAttrs_list PySem.F.slot_list_append PySem.F.type_list_append mt_append h0 (pa_cons h pa_nil (hp _ _)) (hbase := base_of hb) (hfew := by rw [show starEach [e] X.env = (false, eval e X.env) :: starEach [] X.env from hp _ _]; rfl) (hline := hline) (hs := hp _ _)
  refine PS.weak (ps_expr pe (sw_of (x := cellsStr) (px := pos) rfl _ _)) fun D σ H q => ?_
  simp only [TrS, apx_eq] at q
  refine TrS.expr q fun v H1 G G1 ρ1 S1 r e1 s1 rr h1 => ?_
  cases r with
  | fz d => exact h1.elim
  | own ds =>
    dsimp only at h1
    split at h1
    · rename_i hz
      obtain ⟨A, xs, rfl, r1, r2, r3⟩ := rr
      obtain ⟨kc, s1'⟩ := s1.reown (w := .out) (.inl r1) (by rw [r2]; simp)
      have ne : ∀ b w, G1.O b = w → w ≠ .tmp → b ≠ A := fun b w hb hw z => hw (by rw [← hb, z, r1])
      have ex1 : ExC G H (G1.set A .out) H1 := ⟨⟨fun b hb => by
        rw [Gh.set_ne (ne b _ (e1.frz b hb).1 (by simp))]
        exact e1.frz b hb, e1.pre⟩, fun b hb => by
        rw [Gh.set_ne (ne b _ (e1.out b hb).1 (by simp))]
        exact e1.out b hb⟩
      refine ⟨.inl ⟨rfl, xs, SqL.of r2⟩, G1.set A .out, ρ1, S1, s1', ?_⟩
      cases h2 : den T l ρ1 S1 with
      | bad => rw [h2] at h1; exact h1
      | exc x ρ2 S2 =>
        rw [h2] at h1
        exact fun c d G' H' e' s' q => h1 c d σ G' H' (ex1.trans e'.toExC) s' q
      | ok y ρ2 S2 =>
        rw [h2] at h1
        intro w G2 H2 e2 s2 rw2
        have o2 := e2.out A Gh.set_same
        have hH2 : H2 A = some (.lst xs) := o2.2.trans r2
        have neD : ∀ b, G2.O b ≠ .out → b ≠ A := fun b hb z => hb (by rw [z]; exact o2.1)
        have exF6 : ExF G2 H2 G2 (upd H2 A (.lst (xs ++ [w]))) := ⟨fun b hb => ⟨hb, upd_ne (neD b (by rw [hb]; simp))⟩, [], by simp⟩
        have kc6 : KeepC G2 H2 G2 (upd H2 A (.lst (xs ++ [w]))) := ⟨rfl, fun b hb => ⟨rfl, upd_ne (neD b (by rcases hb with h | ⟨n, h⟩ | ⟨n, f, h⟩ <;> rw [h] <;> simp))⟩⟩
        have s6 : Sat (ct X cad) G2 (upd H2 A (.lst (xs ++ [w]))) σ ρ2 S2 := by
          refine ⟨s2.toSatS.keepC kc6 fun b hb => ?_, fun j r hj => ?_, s2.ln⟩
          · have : b ≠ A := fun z => by rw [z, upd_same] at hb; cases hb
            rw [upd_ne this] at hb
            exact s2.fr b hb
          · have so := s2.sl j r hj
            cases r with
            | fz d =>
              obtain ⟨w, k1, k2⟩ := so
              exact ⟨w, k1, Rep.mono exF6 d w k2⟩
            | own es =>
              obtain ⟨b, ys, k1, k2, k3, k4⟩ := so
              exact ⟨b, ys, k1, k2, by rw [upd_ne (neD b (by rw [k2]; simp))]; exact k3, Reps.mono exF6 es ys k4⟩
        have ex2 := ex1.trans e2.toExC
        refine ⟨A, xs, w, rfl, rfl, hH2, by rw [sizeLine_eq, r3.length]; exact hz, h1 _ G2 _ ⟨⟨fun b hb => ?_, ex2.pre⟩, fun b hb => ?_⟩ s6⟩
        · rw [upd_ne (ne b _ (e1.frz b hb).1 (by simp))]
          exact ex2.frz b hb
        · rw [upd_ne (ne b _ (e1.out b hb).1 (by simp))]
          exact ex2.out b hb
    · exact h1.elim
theorem sst_eq {i : Nat} {li : LE} (ρ : Rho) (S : Mem) : denS T (.sst i li l) ρ S = thenS (den T l ρ S) fun r ρ S => if ownAt i ρ = false then .bad else thenS (denB T li ρ S) fun k ρ S => match sstO i k r.d ρ with | some ρ => .nx ρ S | none => .bad := by
  simp only [denS]
  cases den T l ρ S with
  | ok r ρ1 S1 =>
    simp only [thenS]
    by_cases hz : ownAt i ρ1 = false
    · simp only [if_pos hz]
    · simp only [if_neg hz]
      cases denB T li ρ1 S1 <;> rfl
  | exc x ρ1 S1 => rfl
  | bad => rfl
theorem own_of {i : Nat} {ρ : Rho} (ow : ¬ ownAt i ρ = false) : ∃ ds, ρ[i]? = some (some (.own ds)) := by
  unfold ownAt at ow
  split at ow
  · rename_i ds e; exact ⟨ds, e⟩
  · exact (ow rfl).elim
theorem sub_asg {o ix : Expr} {sp : Pos} {env : PySem.Env} (h : noSlice ix = true) (v : Value) : assign (.Subscript o ix sp) env v = (do
      let ov ← holding [v] (eval o env)
      let iv ← holding [v, ov] (eval ix env)
      standAt sp
      holding [v, ov, iv] (setItem ov iv v)
      release [v, ov, iv] []) := by
  cases ix <;> first | rfl | cases h
theorem sws_of {t e : Expr} {ln : Nat} {env : PySem.Env} (hc : noComp e = true) : swapsWithSole [t] e ln env = pure false := sw_of (x := cellsStr) (px := ⟨0, 0, 0, 0⟩) hc env (some t)
theorem sws_none {o ix : Expr} {sp : Pos} {e : Expr} {env : PySem.Env} : swappedStores [.Subscript o ix sp] e env = pure none := by
  cases e <;> rfl
/-- x[i] = e, x a list of one's own -/
theorem sst_S {x : Str} {i : Nat} {px sp : Pos} {ix : Expr} {li : LE} (g : Good X cad T W n c) (hn : nameOk x = true) (hv : isVis c x = true) (hi : ixOf c.N x = some i) (hx : BOk X cad T W ix li) (hns : noSlice ix = true) (h : EOk X cad T W e l) (hc : noComp e = true) : SOk X cad T W (.Assign [.Subscript (.Name x px) ix sp] e pos) (.sst i li l) := by
  obtain ⟨n1, n2, _⟩ := nameOk_1 hn
  refine PS.weak (ps_asg h (pg_sub (pe_var (pos := px) (ix_of g hi) (vis_of g hv) n1 n2) hx set_list (sub_asg hns)) (hs := sws_of hc) (hw := sws_none) (h1 := rfl)) fun D σ H q => ?_
  simp only [TrS, sst_eq] at q
  refine TrS.expr q fun v H1 G G1 ρ1 S1 r e1 s1 rr h1 => ?_
  split at h1
  · exact h1.elim
  rename_i ow
  obtain ⟨ds0, e0⟩ := own_of ow
  obtain ⟨G1', e1', s1', rv⟩ := rr.freeze s1
  obtain ⟨a, xs, k1, ho, hH, r0⟩ := s1'.sl i _ e0
  refine ⟨_, k1, G1', ρ1, S1, s1', ?_⟩
  have ex1 := e1.trans e1'
  cases hd : denB T li ρ1 S1 with
  | bad => rw [hd] at h1; exact h1
  | exc x ρ2 S2 =>
    rw [hd] at h1
    exact fun c d G' H' e' s' q => h1 c d σ G' H' (ex1.trans e').toExC s' q
  | ok k ρ2 S2 =>
    rw [hd] at h1
    intro w G2 H2 e2 s2 rk
    have h1 : AtS (ct X cad) W G H (match sstO i k r.d ρ2 with | some ρ => .nx ρ S2 | none => .bad) D := h1
    have rv2 := Rep.mono e2.toExF _ _ rv
    unfold sstO at h1
    cases e3 : ρ2[i]? with
    | none => rw [e3] at h1; exact h1.elim
    | some o =>
      rw [e3] at h1
      cases o with
      | none => exact h1.elim
      | some y =>
        cases y with
        | fz d => exact h1.elim
        | own ds =>
          cases k with
          | int kk =>
            dsimp only at h1
            cases hj : ixN ds.length kk with
            | none => rw [hj] at h1; exact h1.elim
            | some j =>
              rw [hj] at h1
              obtain ⟨b, ys, f1, f2, f3, f4⟩ := s2.sl i _ e3
              rw [k1] at f1
              cases f1
              have e4 := bint rk
              subst e4
              obtain ⟨x1, x2⟩ := s2.sup k1 f2 f3 (Reps.set j f4 rv2)
              exact ⟨a, ys, kk, j, rfl, rfl, f3, by rw [f4.length]; exact hj, h1 _ G2 _ ((ex1.trans e2).toExC.trans x1) x2⟩
          | _ => exact h1.elim
theorem ins_eq {i : Nat} {li : LE} (ρ : Rho) (S : Mem) : denS T (.ins i li l) ρ S = if ownAt i ρ = false then .bad else thenS (denB T li ρ S) fun k ρ S => thenS (den T l ρ S) fun r ρ S => match insO i k r.d ρ with | some ρ => .nx ρ S | none => .bad := by
  simp only [denS]
  by_cases hz : ownAt i ρ = false
  · simp only [if_pos hz]
  · simp only [if_neg hz]
    cases denB T li ρ S with
    | ok k ρ1 S1 =>
      simp only [thenS]
      cases den T l ρ1 S1 <;> rfl
    | exc x ρ1 S1 => rfl
    | bad => rfl
/-- x.insert(i, e), x a list of one's own -/
theorem ins_S {x : Str} {i : Nat} {px apos cpos : Pos} {ix : Expr} {li : LE} (g : Good X cad T W n c) (hn : nameOk x = true) (hv : isVis c x = true) (hi : ixOf c.N x = some i) (hx : BOk X cad T W ix li) (hpx : Plain ix) (h : EOk X cad T W e l) (hp : Plain e) (hline : (apos.endLine == cpos.line) = true) :
    SOk X cad T W (.Expr (.Call (.Attribute (.Name x px) ("insert" : Str) apos) [ix, e] [] cpos) pos) (.ins i li l) := by
  obtain ⟨n1, n2, _⟩ := nameOk_1 hn
  have hs : starEach [ix, e] X.env = (false, eval ix X.env) :: (false, eval e X.env) :: starEach [] X.env := by rw [hpx _ _, hp _ _]
  have pe : PE X (.Call (.Attribute (.Name x px) ("insert" : Str) apos) [ix, e] [] cpos) _ := pe_bm (apos := apos) (cpos := cpos) PySem.F.plainAttrs_list PySem.F.slot_list_insert PySem.F.type_list_insert mt_insert (pe_var (pos := px) (ix_of g hi) (vis_of g hv) n1 n2) (pa_cons hx (pa_cons h pa_nil (hp _ _)) (hpx _ _)) (hfew := by rw [hs]; rfl) (hline := hline) (hs := hpx _ _) (hplain := plain_any (es := [e]) fun z hz => by
    simp at hz
    subst hz
    exact hp)
  refine PS.weak (ps_expr pe (sw_of (x := cellsStr) (px := pos) rfl _ _)) fun D σ H q => ?_
  simp only [TrS, ins_eq] at q
  obtain ⟨G, ρ, S, s, q⟩ := q
  split at q
  · exact q.elim
  rename_i ow
  obtain ⟨ds0, e0⟩ := own_of ow
  obtain ⟨a, xs, k1, ho, hH, r⟩ := s.sl i _ e0
  refine ⟨_, k1, .inl ⟨rfl, xs, SqL.of hH⟩, ?_⟩
  refine ⟨G, ρ, S, s, (AtS.bind q).mono fun w H1 ⟨G1, ρ1, S1, k, ex, s1, rk, h1⟩ => ?_⟩
  have h1 : AtS (ct X cad) W G H (thenS (den T l ρ1 S1) fun r ρ S => match insO i k r.d ρ with | some ρ => .nx ρ S | none => .bad) D := h1
  refine ⟨G1, ρ1, S1, s1, ?_⟩
  cases hd : den T l ρ1 S1 with
  | bad => rw [hd] at h1; exact h1
  | exc x ρ2 S2 =>
    rw [hd] at h1
    exact fun c d G' H' e' s' q => h1 c d σ G' H' (ex.trans e').toExC s' q
  | ok r1 ρ2 S2 =>
    rw [hd] at h1
    intro v G2 H2 e2 s2 rr
    have h1 : AtS (ct X cad) W G H (match insO i k r1.d ρ2 with | some ρ => .nx ρ S2 | none => .bad) D := h1
    obtain ⟨G3, e3, s3, rv⟩ := rr.freeze s2
    unfold insO at h1
    cases e4 : ρ2[i]? with
    | none => rw [e4] at h1; exact h1.elim
    | some o =>
      rw [e4] at h1
      cases o with
      | none => exact h1.elim
      | some y =>
        cases y with
        | fz d => exact h1.elim
        | own ds =>
          cases k with
          | int kk =>
            dsimp only at h1
            split at h1
            · rename_i e5
              split at e5
              · rename_i hz
                cases e5
                obtain ⟨b, ys, f1, f2, f3, f4⟩ := s3.sl i _ e4
                rw [k1] at f1
                cases f1
                have e6 := bint rk
                subst e6
                have hk : kk.toNat ≤ 16777216 := hz.2.2
                have hk0 := hz.2.1
                obtain ⟨x1, x2⟩ := s3.sup k1 f2 f3 (((f4.take kk.toNat).append (.one rv)).append (f4.drop kk.toNat))
                exact ⟨a, ys, kk, v, rfl, rfl, f3, by rw [sizeLine_eq, f4.length]; exact hz.1, by omega, by omega, h1 _ G3 _ (((ex.trans e2).trans e3).toExC.trans x1) x2⟩
              · cases e5
            · exact h1.elim
          | _ => exact h1.elim
end
/-- THE RULE for statements -/
structure SndS (k : Nat) : Prop where
  one : ∀ {X : Cx} {cad : Str → Option Addr} {T : Tab} {W : WX} {n : Nat} {c : CC} {s : Stmt} {l : LS}, Good X cad T W n c → PassesOwn (model X.prog X.w) X.A X.env X.xe → compS k c s = some l → SOk X cad T W s l
  all : ∀ {X : Cx} {cad : Str → Option Addr} {T : Tab} {W : WX} {n : Nat} {c : CC} {s : List Stmt} {l : LSs}, Good X cad T W n c → PassesOwn (model X.prog X.w) X.A X.env X.xe → compSs k c s = some l → SsOk X cad T W s l
theorem soundS : ∀ k : Nat, SndS k
  | 0 => ⟨fun g po h => (by cases h), fun g po h => (by cases h)⟩
  | k + 1 => by
    have ih : SndS k := soundS k
    have sd := sound (k + 1)
    refine ⟨fun {X cad T W n c s l} g po h => ?_, fun {X cad T W n c s l} g po h => ?_⟩
    · unfold compS at h
      split at h
      · split at h
        · rename_i hc
          obtain ⟨i, le, h1, h2, rfl⟩ := o2_some h
          rcases Bool.or_eq_true_iff.mp hc with hc | hc
          · exact asg_S (k := k) g h1 (sd.run g h2).1 hc
          · exact lcasg_S g h1 h2 hc
        · cases h
      · split at h
        · rename_i hc
          simp only [Bool.and_eq_true, Bool.not_eq_true'] at hc
          obtain ⟨⟨⟨⟨⟨c1, c2⟩, c3⟩, c4⟩, c5⟩, c6⟩ := hc
          obtain ⟨p, q, h1, h2, rfl⟩ := o2_some h
          obtain ⟨i, la, h3, h4, rfl⟩ := o2_some h1
          obtain ⟨j, lb, h5, h6, rfl⟩ := o2_some h2
          exact par_S g c1 c2 h3 h5 c3 c4 c5 c6 h4 h6
        · split at h
          · rename_i hn
            obtain ⟨i, le, h1, h2, rfl⟩ := o2_some h
            exact tas_S g h1 (sd.run g h2).1 rfl hn
          · cases h
      · split at h
        · rename_i hc
          obtain ⟨i, le, h1, h2, rfl⟩ := o2_some h
          rw [Bool.and_eq_true] at hc
          exact tas_S g h1 (sd.run g h2).1 hc.1 hc.2
        · cases h
      · split at h
        · rename_i hc
          have hc := Bool.and_eq_true_iff.mp hc
          split at h
          · rename_i j hj
            obtain ⟨i, h1, rfl⟩ := o1_some h
            unfold movOf at hj
            split at hj
            · rename_i y py
              split at hj
              · split at hj
                · rename_i hy
                  have hy := Bool.and_eq_true_iff.mp hy
                  exact sfm_S g hc.1 hc.2 h1 hy.1 hy.2 hj
                · cases hj
              · cases hj
            · cases hj
          · obtain ⟨i, le, h1, h2, rfl⟩ := o2_some h
            exact sfd_S g hc.1 hc.2 h1 (sd.run g h2).1
        · cases h
      · split at h
        · rename_i hc
          simp only [Bool.and_eq_true] at hc
          obtain ⟨⟨⟨⟨c1, c2⟩, c3⟩, c4⟩, c5⟩ := hc
          obtain ⟨i, la, le, h1, h2, h3, rfl⟩ := o3_some h
          exact sst_S g c1 c2 h1 (sd.run g h2).2.1 c3 (sd.run g h3).1 c4
        · cases h
      · cases h
        exact brk_S
      · cases h
        exact cnt_S
      · obtain ⟨lt, lb, h1, h2, rfl⟩ := o2_some h
        exact whl_S po (sd.run g h1).2.2.1 (ih.all g po h2)
      · split at h
        · rename_i hc
          simp only [Bool.and_eq_true, decide_eq_true_eq] at hc
          obtain ⟨⟨⟨⟨c1, c2⟩, c3⟩, c4⟩, c5⟩ := hc
          obtain ⟨i, le, h1, h2, rfl⟩ := o2_some h
          subst c1
          exact apd_S g c3 c4 h1 (sd.run g h2).1 (sd.run g h2).2.2.2 c2
        · cases h
      · split at h
        · rename_i hc
          simp only [Bool.and_eq_true, decide_eq_true_eq] at hc
          obtain ⟨⟨⟨⟨⟨c1, c2⟩, c3⟩, c4⟩, c5⟩, c6⟩ := hc
          obtain ⟨i, la, le, h1, h2, h3, rfl⟩ := o3_some h
          subst c1
          exact ins_S g c3 c4 h1 (sd.run g h2).2.1 (sd.run g h2).2.2.2 (sd.run g h3).1 (sd.run g h3).2.2.2 c2
        · cases h
      · split at h
        · rename_i hc
          simp only [Bool.and_eq_true, decide_eq_true_eq] at hc
          obtain ⟨⟨⟨c1, c2⟩, c3⟩, c4⟩ := hc
          obtain ⟨la, le, h1, h2, rfl⟩ := o2_some h
          subst c1
          exact apx_S g c3 (sd.run g h1).1 (sd.run g h2).1 (sd.run g h2).2.2.2 c2
        · cases h
      · split at h
        · rename_i hc
          obtain ⟨le, h1, rfl⟩ := o1_some h
          exact exp_S (sd.run g h1).1 hc
        · cases h
      · split at h
        · rename_i j hj
          cases h
          unfold movOf at hj
          split at hj
          · rename_i y py
            split at hj
            · split at hj
              · rename_i hy
                have hy := Bool.and_eq_true_iff.mp hy
                exact rtm_S g hy.1 hy.2 hj
              · cases hj
            · cases hj
          · cases hj
        · obtain ⟨le, h1, rfl⟩ := o1_some h
          exact ret_S (sd.run g h1).1
      · cases h
        exact retN_S
      · obtain ⟨lt, la, lb, h1, h2, h3, rfl⟩ := o3_some h
        exact iff_S (sd.run g h1).2.2.1 (ih.all g po h2) (ih.all g po h3)
      · cases h
        exact pass_S
      · split at h
        · rename_i hz
          obtain ⟨t, li, lb, h1, h2, h3, rfl⟩ := o3_some h
          exact for_S g po hz h1 h2 (ih.all g po h3)
        · cases h
      · cases h
        exact stop_S
      · cases h
    · cases s with
      | nil =>
        cases h
        exact nil_Ss
      | cons s ss =>
        obtain ⟨a, b, h1, h2, rfl⟩ := o2_some (show o2 .cons (compS k c s) (compSs k c ss) = some l from h)
        exact cons_Ss (ih.one g po h1) (ih.all g po h2)
/-- a def's body -/
theorem def_body {P : Program} {w : World} {K : PySem.W.Frag} {mg : Str → Option Value} {base : Heap} {cad : Str → Option Addr} {T : Tab} {n k : Nat} {qual : Str} {sc : Scope} {body : List Stmt} {f : Addr} {GN N ps : List Str} {b : LSs} (S : FnScope N ps sc)
    (hc : compSs k ⟨GN, N, sc, fun _ => true⟩ body = some b) (tab : TabOk P w K mg base cad GN T n) (cdv : Value) (A : Around) (outer : List PySem.Env) (s : Shared) (H : Hp) (vs : List V) (Q : VK) (E : XK) (hr : Room n (A.deeper (envOfC qual sc s.heap.objs.size f cdv))) (h : spOf ⟨K, cad⟩ ps.length (denDef T ps.length N.length b) vs H Q E) :
    ∃ t, PSs (cxOf (L2.CX P w) P w K mg base N qual sc f cdv A outer s H E) body t ∧ t { nx := fun _ H' => Q .non H', rt := Q } (L2.start N vs) H := by
  have hpl : ps.length ≤ N.length := by have := congrArg List.length S.pre; rw [List.length_take] at this; omega
  obtain ⟨hl, ds, G, Sm, r, sat, ns, h⟩ := h
  have hdl : ds.length = ps.length := by rw [← hl]; exact r.length.symm
  have g : Good (cxOf (L2.CX P w) P w K mg base N qual sc f cdv A outer s H E) cad T (fun c d _ H => E c d H) n ⟨GN, N, sc, fun _ => true⟩ :=
    ⟨rfl, rfl, S.nd, fun _ _ => rfl, rfl, hr, takes_of rfl rfl rfl rfl, tab⟩
  refine ⟨_, (soundS k).all g (passes_of rfl) hc, G, ds.map (fun d => some (.fz d)) ++ List.replicate (N.length - ds.length) none, Sm, ⟨sat, fun i x hi => ?_, ?_⟩, ?_⟩
  · by_cases hid : i < ds.length
    · rw [List.getElem?_append_left (by simpa using hid), List.getElem?_map, List.getElem?_eq_getElem hid] at hi
      cases hi
      obtain ⟨v, hv, rv⟩ := r.get (List.getElem?_eq_getElem hid)
      refine ⟨v, ?_, rv⟩
      unfold L2.start
      rw [List.getElem?_append_left (by simpa [r.length] using hid), List.getElem?_map, hv]
      rfl
    · rw [List.getElem?_append_right (by simpa using hid), List.getElem?_replicate] at hi
      split at hi <;> cases hi
  · unfold L2.start
    rw [List.length_append, List.length_append, List.length_map, List.length_map, List.length_replicate, List.length_replicate, r.length]
  · unfold denDef at h
    rw [if_pos hdl] at h
    have nsl : ∀ {G' : Gh} {H' : Hp} {S' : Mem}, ExC G H G' H' → SatS ⟨K, cad⟩ G' H' S' → ∃ G2, ExC G H G2 H' ∧ SatS ⟨K, cad⟩ G2 H' S' ∧ (∀ a i, G2.O a ≠ .slot i) ∧ (∀ v r, RepR ⟨K, cad⟩ G' H' v r → RepR ⟨K, cad⟩ G2 H' v r) ∧ ∀ c d x, ErrOk ⟨K, cad⟩ G' H' c d x → ErrOk ⟨K, cad⟩ G2 H' c d x := fun {G' H' S'} ex s' => by
      have hk : ∀ a, (∀ i, G'.O a ≠ .slot i) → (match G'.O a with | .slot _ => Own.free | o => o) = G'.O a := fun a h => by
        split
        · rename_i i e; exact (h i e).elim
        · rfl
      have kc : KeepC G' H' { G' with O := fun a => match G'.O a with | .slot _ => .free | o => o } H' := ⟨rfl, fun a h => ⟨hk a (fun i e => by rcases h with h | ⟨n, h⟩ | ⟨n, f, h⟩ <;> rw [e] at h <;> cases h), rfl⟩⟩
      refine ⟨{ G' with O := fun a => match G'.O a with | .slot _ => .free | o => o }, ⟨⟨fun a h => ⟨?_, (ex.frz a h).2⟩, ex.pre⟩, fun a h => ⟨?_, (ex.out a h).2⟩⟩, s'.keepC kc fun a h => ?_, fun a i => ?_, fun v r h => ?_, fun c d x h => ?_⟩
      · have q := (ex.frz a h).1
        exact (hk a fun i e => by rw [q] at e; cases e).trans q
      · have q := (ex.out a h).1
        exact (hk a fun i e => by rw [q] at e; cases e).trans q
      · have q := s'.fr a h
        exact (hk a fun i e => by rw [q] at e; cases e).trans q
      · show (match G'.O a with | .slot _ => Own.free | o => o) ≠ _
        split
        · simp
        · rename_i h; exact h i
      · cases r with
        | fz d => exact Rep.mono kc.exF d v h
        | own es =>
          obtain ⟨b, ys, q1, q2, q3, q4⟩ := h
          exact ⟨b, ys, q1, (hk b fun i e => by rw [q2] at e; cases e).trans q2, q3, Reps.mono kc.exF es ys q4⟩
      · obtain ⟨A, p, vs, h1, h2, h3, h4, h5⟩ := h
        refine ⟨A, p, vs, h1, h2, h3, h4, fun f => ?_⟩
        have q := h5 f
        split at q
        · rename_i y e
          obtain ⟨v, q1, q2⟩ := q
          exact ⟨v, q1, Rep.mono kc.exF y v q2⟩
        · exact q
    cases e : denSs T b (ds.map (fun d => some (.fz d)) ++ List.replicate (N.length - ds.length) none) Sm with
    | nx ρ1 S1 =>
      rw [e] at h
      exact fun σ' G' H' ex s' => let ⟨G2, e2, s2, n2, r2, _⟩ := nsl ex s'.toSatS; h .non G2 H' e2 s2 n2 .non
    | rt r S1 =>
      rw [e] at h
      exact fun v G' H' ex s' rv => let ⟨G2, e2, s2, n2, r2, _⟩ := nsl ex s'; h v G2 H' e2 s2 n2 (r2 v r rv)
    | exc x ρ1 S1 =>
      rw [e] at h
      exact fun c d σ' G' H' ex s' q => let ⟨G2, e2, s2, n2, _, r2⟩ := nsl ex s'.toSatS; h c d G2 H' e2 s2 n2 (r2 c d x q)
    | bk ρ1 S1 => rw [e] at h; exact h.elim
    | ct ρ1 S1 => rw [e] at h; exact h.elim
    | bad => rw [e] at h; exact h.elim
/-- THE RULE for a def -/
theorem def_ok {P : Program} {w : World} {K : PySem.W.Frag} {mg : Str → Option Value} {base : Heap} {cad : Str → Option Addr} {T : Tab} {n k : Nat} {x qual : Str} {st : Stmt} {f : Addr} {fd : FuncData} {GN N ps : List Str} {b : LSs} (F : Fun K x qual st f fd) (S : FnScope N ps (defScope st))
    (hc : compSs k ⟨GN, N, defScope st, fun _ => true⟩ (defBody st) = some b) (tab : TabOk P w K mg base cad GN T n) : FnOk P w K mg base (L2.CX P w) (n + 1) f fd ps (spOf ⟨K, cad⟩ ps.length (denDef T ps.length N.length b)) :=
  F.okX S (fun vs H Q E h => h.1) fun cdv A outer s H vs Q E hr h => def_body S hc tab cdv A outer s H vs Q E hr h
/-- .. with defaults -/
theorem def_okD {P : Program} {w : World} {K : PySem.W.Frag} {mg : Str → Option Value} {base : Heap} {cad : Str → Option Addr} {T : Tab} {n k : Nat} {x qual : Str} {params : Arguments} {body : List Stmt} {sc : Scope} {dvs : List V} {kws : List (Str × V)} {f : Addr} {fd : FuncData} {GN N ps : List Str} {b : LSs} (F : FunD K x qual params body sc dvs kws f fd) (S : FnScope N ps sc)
    (hc : compSs k ⟨GN, N, sc, fun _ => true⟩ body = some b) (tab : TabOk P w K mg base cad GN T n) : FnOk P w K mg base (L2.CX P w) (n + 1) f fd ps (spOf ⟨K, cad⟩ ps.length (denDef T ps.length N.length b)) :=
  F.ok (CX := L2.CX P w) S (fun vs H Q E h => h.1) fun cdv A outer s H vs Q E hr h => def_body S hc tab cdv A outer s H vs Q E hr h
end Sh


/-! ShDraw: the bag of draws: what it gives, what stands for it. -/
namespace Sh
open PySem PySem.Spec PyProof.Rows L2 RZ
def seedOf (s : Int) (c : Int) : Int := (s * 47981 + c % 2147483423 + 71) % 2147483497
def drawSeed (ns : List Int) : Int := ns.foldl seedOf 5793
/-- a number is taken off the script -/
def Bag.step (b : Bag) : Bag :=
  if b.big = 0 ∧ b.pos < b.cells.length then
    { cells := b.cells, pos := b.pos + 1, big := if (10 : Int) ^ 18 ≤ b.cells.getD b.pos 0 then b.cells.getD b.pos 0 else b.big,
      seed := (b.seed * 36973 + b.cells.getD b.pos 0 % 2147483423 * 42767 + 83) % 2147483497, many := b.many + 1 }
  else { b with many := b.many + 1 }
def Bag.next (b : Bag) : Int := (b.seed ^ 3 + b.seed * 39119 + b.many * 1299709 + 70001) % 2147483497
def Bag.give (b : Bag) (k : Int) : Int × Bag :=
  if 0 < b.big then (b.big % k, { b with big := b.big / k })
  else ((b.next / 97 + b.next % 7883 * 67) % k, { b with seed := b.next })
def Bag.pull (b : Bag) (k : Int) : Int × Bag := b.step.give k
theorem Bag.pull_range (b : Bag) (k : Int) (hk : 0 < k) : 0 ≤ (b.pull k).1 ∧ (b.pull k).1 < k := by
  unfold Bag.pull Bag.give
  split
  · exact ⟨Int.emod_nonneg _ (by omega), Int.emod_lt_of_pos _ hk⟩
  · exact ⟨Int.emod_nonneg _ (by omega), Int.emod_lt_of_pos _ hk⟩
theorem mod_ok (x : Int) : 0 ≤ x % 2147483497 ∧ x % 2147483497 < 2147483497 := ⟨Int.emod_nonneg _ (by decide), Int.emod_lt_of_pos _ (by decide)⟩
theorem Bag.step_ok {b : Bag} (h : b.Ok) : b.step.Ok := by
  unfold Bag.step
  split
  · exact ⟨(mod_ok _).1, (mod_ok _).2, h.2.2⟩
  · exact h
theorem Bag.pull_ok {b : Bag} (h : b.Ok) (k : Int) : (b.pull k).2.Ok := by
  have q := Bag.step_ok h
  unfold Bag.pull Bag.give
  split
  · exact q
  · exact ⟨(mod_ok _).1, (mod_ok _).2, q.2.2⟩
theorem drawSeed_ok (ns : List Int) : 0 ≤ drawSeed ns ∧ drawSeed ns < 2147483497 := by
  unfold drawSeed
  have : ∀ (ns : List Int) (s : Int), (0 ≤ s ∧ s < 2147483497) → 0 ≤ ns.foldl seedOf s ∧ ns.foldl seedOf s < 2147483497 := by
    intro ns
    induction ns with
    | nil => intro s h; exact h
    | cons c cs ih => intro s h; exact ih _ (mod_ok _)
  exact this ns 5793 (by decide)
def intsOf : List D → Option (List Int)
  | [] => some []
  | .int i :: ds => (intsOf ds).map (i :: ·)
  | _ => none
def drawsFn : Fn := fun ds S => match ds with
  | [.lst xs] => match intsOf xs with
    | some ns => if ns.length ≤ 1000 then .ok (.fz (.loc S.objs.length)) ⟨S.objs ++ [.bag ⟨ns.take 63, 0, 0, drawSeed (ns.take 63), 0⟩]⟩ else .bad
    | none => .bad
  | _ => .bad
def pullFn : Fn := fun ds S => match ds with
  | [.loc n, .int k] => match S.objs[n]? with
    | some (.bag b) => if 0 < k.toNat ∧ k.toNat < 1073741824 then .ok (.fz (.int (b.pull k).1)) ⟨S.objs.set n (.bag (b.pull k).2)⟩ else .bad
    | _ => .bad
  | _ => .bad
/-- the bag's list at a, its numbers at c -/
structure BagAt (H : Hp) (a c : Addr) (b : Bag) : Prop where
  ls : H a = some (.lst [.ref c, .int b.pos, .int b.big, .int b.seed, .int b.many])
  cs : H c = some (.lst (b.cells.map .int))
  ne : a ≠ c
def spPull : Sp := fun vs H Q _ => ∃ (a c : Addr) (k : Int) (b : Bag), vs = [.ref a, .int k] ∧ BagAt H a c b ∧ b.Ok ∧ 0 < k ∧ k < 1073741824 ∧
  ∀ H', (∀ x, x ≠ a → H x ≠ none → H' x = H x) → BagAt H' a c (b.pull k).2 → Q (.int (b.pull k).1) H'
theorem intsOf_reps {C : Ct} {G : Gh} {H : Hp} : ∀ {ds : List D} {vs : List V} {ns : List Int}, Reps C G H vs ds → intsOf ds = some ns → vs = ns.map V.int
  | [], _, _, h, e => by cases h; cases e; rfl
  | d :: ds, _, ns, h, e => by
    cases h with
    | cons h1 h2 =>
      cases d with
      | int i =>
        cases h1
        cases e2 : intsOf ds with
        | none => simp [intsOf, e2] at e
        | some ms =>
          simp only [intsOf, e2, Option.map_some, Option.some.injEq] at e
          subst e
          rw [intsOf_reps h2 e2]
          rfl
      | _ => simp [intsOf] at e
theorem pull_spec {C : Ct} (vs : List V) (H : Hp) (Q : VK) (E : XK) (h : spOf C 2 pullFn vs H Q E) : spPull vs H Q E := by
  obtain ⟨hl, ds, G, S, r, sat, ns, h⟩ := h
  have hd : ∃ n k b, ds = [.loc n, .int k] ∧ S.objs[n]? = some (.bag b) ∧ 0 < k.toNat ∧ k.toNat < 1073741824 := by
    unfold pullFn at h
    split at h
    · rename_i e
      split at e
      · split at e
        · split at e
          · rename_i h1 h2
            exact ⟨_, _, _, rfl, h1, h2⟩
          · cases e
        · cases e
      · cases e
    · rename_i e
      split at e
      · split at e
        · split at e <;> cases e
        · cases e
      · cases e
    · exact h.elim
  obtain ⟨n, k, b, rfl, hb, hk⟩ := hd
  simp only [pullFn, hb, hk, and_self, if_true] at h
  cases r with
  | cons r1 r2 =>
    cases r2 with
    | cons r2 r3 =>
      cases r3
      cases r1 with
      | loc h1 =>
        cases r2
        obtain ⟨a, ha, ho, c, h2, h3, h4, h5⟩ := sat.ob n _ hb
        rw [h1] at ha
        cases ha
        refine ⟨_, c, k, b, rfl, ⟨h2, h4, fun e => ?_⟩, h5, by omega, by omega, fun H' hs hb' => ?_⟩
        · rw [e, h3] at ho; cases ho
        · refine h _ G H' ⟨⟨fun x hx => ⟨hx, hs x (fun e => ?_) fun z => ?_⟩, [], by simp⟩, fun x hx => ⟨hx, hs x (fun e => ?_) fun z => ?_⟩⟩ (sat.upd1 h1 ho hs (by rw [hb'.ls]; simp) ⟨ho, c, hb'.ls, h3, hb'.cs, Bag.pull_ok h5 k⟩) ns (.int _)
          · rw [e, ho] at hx; cases hx
          · rw [sat.fr x z] at hx; cases hx
          · rw [e, ho] at hx; cases hx
          · rw [sat.fr x z] at hx; cases hx
end Sh


namespace Sh
open PySem PySem.Spec PyProof.Rows L2
def top (i : Nat) : Stmt := PySem.Challenge.pw_shiftlogs_k05_looks_tests_and_changes_to.main.body.getD i (.Pass ⟨0, 0, 0, 0⟩)
abbrev sDraws : Stmt := top 16
abbrev sPull : Stmt := top 17
/-! the bag's two defs, by hand -/
section
variable {P : Program} {w : World} {K : PySem.W.Frag} {mg : Str → Option Value} {base : Heap}
theorem scPull : FnScope ["_law_bag", "_law_sides", "_law_cell", "_law_digit", "_law_seed"] ["_law_bag", "_law_sides"] (defScope sPull) := ⟨rfl, rfl, rfl, by decide +kernel, rfl, by decide +kernel, by decide +kernel⟩
/-- behind the first two statements -/
def rdGive (a c : Addr) (k : Int) (cells : List Int) : TS := fun D σ H => ∃ (o : Option V) (b : Bag), σ = [some (.ref a), some (.int k), o, none, none] ∧ H a = some (.lst [.ref c, .int b.pos, .int b.big, .int b.seed, .int b.many]) ∧ b.Ok ∧ 0 < k ∧ k < 1073741824 ∧ b.cells = cells ∧
  ∀ H', (∀ x, x ≠ a → H x ≠ none → H' x = H x) → H' a = some (.lst [.ref c, .int (b.give k).2.pos, .int (b.give k).2.big, .int (b.give k).2.seed, .int (b.give k).2.many]) → D.rt (.int (b.give k).1) H'
def rdStep (a c : Addr) (k : Int) (cells : List Int) : TS := fun D σ H => ∃ (b : Bag), σ = [some (.ref a), some (.int k), none, none, none] ∧ H a = some (.lst [.ref c, .int b.pos, .int b.big, .int b.seed, .int (b.many + 1)]) ∧ H c = some (.lst (cells.map .int)) ∧ a ≠ c ∧ b.Ok ∧ 0 < k ∧ k < 1073741824 ∧ b.cells = cells ∧
  ∀ H' o, (∀ x, x ≠ a → H x ≠ none → H' x = H x) → H' a = some (.lst [.ref c, .int b.step.pos, .int b.step.big, .int b.step.seed, .int b.step.many]) → D.nx [some (.ref a), some (.int k), o, none, none] H'
theorem dec_int0 {i : Int} (h : i = 0) : decide (V.int i = V.int 0) = true := by simp [h]
theorem dec_int1 {i : Int} (h : ¬ i = 0) : decide (V.int i = V.int 0) = false := by simp [h]
theorem ok_pull0 {f : Addr} {fd : FuncData} (F : Fun K "_law_pull" "_law_pull" sPull f fd) (zl : mg "len" = none) (zi : mg "int" = none) : FnOk P w K mg base (L2.CX P w) 1 f fd ["_law_bag", "_law_sides"] spPull := by
  refine F.okX scPull (fun vs H Q E h => ?_) (fun cdv A outer s H vs Q E hr h => ?_)
  · obtain ⟨a, c, k, b, rfl, _⟩ := h
    rfl
  · obtain ⟨a, c, k, b, rfl, hB, hok, hk0, hk1, kk⟩ := h
    refine ⟨_, pss_cons (ps_asg (pe_op op_add (pe_ix ix_list (pv 0) pe_int (fun _ _ => rfl)) pe_int) (pg_sub (pv 0) pe_int set_list))
      (pss_cons (PS.weak (t' := rdStep a c k b.cells) (ps_if (PW.pt (pw_and (pt_cmpR op_eq (pe_ix ix_list (pv 0) pe_int (fun _ _ => rfl)) pe_int (nomark _)) (pw_and1 (pt_cmpR op_lt (pe_ix ix_list (pv 0) pe_int (fun _ _ => rfl)) (pe_callB call_len_seq (by rfl) zl PySem.boot_len (pa_cons (pe_ix ix_list (pv 0) pe_int (fun _ _ => rfl)) pa_nil)) (nomark _)))))
        (pss_cons (ps_asg (pe_tup (pa_cons (pe_ix ix_list (pe_ix ix_list (pv 0) pe_int (fun _ _ => rfl)) (pe_ix ix_list (pv 0) pe_int (fun _ _ => rfl)) (fun _ _ => rfl)) (pa_cons (pe_op op_add (pe_ix ix_list (pv 0) pe_int (fun _ _ => rfl)) pe_int) pa_nil)))
            (pg_tup rfl (pgs_cons (pg_name (i := 2) scPull.nd rfl (Or.inl rfl)) (pgs_cons (pg_sub (pv 0) pe_int set_list) pgs_nil))))
        (pss_cons (ps_if (pt_cmpR op_ge (pv 2) (pe_op op_pow pe_int pe_int) (nomark _)) (pss_one (ps_asg (pv 2) (pg_sub (pv 0) pe_int set_list))) pss_nil)
        (pss_one (ps_asg (pe_op op_mod (pe_callTy call_int1 (by rfl) zi (by decide +kernel) (pa_cons (pe_op op_add (pe_op op_add (pe_op op_mul (pe_ix ix_list (pv 0) pe_int (fun _ _ => rfl)) pe_int) (pe_op op_mul (pe_op op_mod (pe_callTy call_int1 (by rfl) zi (by decide +kernel) (pa_cons (pv 2) pa_nil)) pe_int) pe_int)) pe_int) pa_nil)) pe_int)
            (pg_sub (pv 0) pe_int set_list)))))
        pss_nil) ?step)
      (PSs.weak (t' := rdGive a c k b.cells) (pss_cons (ps_if (pt_cmpR op_gt (pe_ix ix_list (pv 0) pe_int (fun _ _ => rfl)) pe_int (nomark _))
        (pss_cons (ps_asg (pe_tup (pa_cons (pe_op op_mod (pe_callTy call_int1 (by rfl) zi (by decide +kernel) (pa_cons (pe_ix ix_list (pv 0) pe_int (fun _ _ => rfl)) pa_nil)) (pv 1)) (pa_cons (pe_op op_fdiv (pe_ix ix_list (pv 0) pe_int (fun _ _ => rfl)) (pv 1)) pa_nil)))
            (pg_tup rfl (pgs_cons (pg_name (i := 3) scPull.nd rfl (Or.inl rfl)) (pgs_cons (pg_sub (pv 0) pe_int set_list) pgs_nil))))
        (pss_one (ps_ret (pv 3)))) pss_nil)
      (pss_cons (ps_set (i := 4) scPull.nd rfl (Or.inl rfl) (pe_ix ix_list (pv 0) pe_int (fun _ _ => rfl)))
      (pss_cons (ps_asg (pe_op op_mod (pe_callTy call_int1 (by rfl) zi (by decide +kernel) (pa_cons (pe_op op_add (pe_op op_add (pe_op op_add (pe_op op_pow (pv 4) pe_int) (pe_op op_mul (pv 4) pe_int)) (pe_op op_mul (pe_ix ix_list (pv 0) pe_int (fun _ _ => rfl)) pe_int)) pe_int) pa_nil)) pe_int)
            (pg_sub (pv 0) pe_int set_list))
      (pss_one (ps_ret (pe_op op_mod (pe_callTy call_int1 (by rfl) zi (by decide +kernel) (pa_cons (pe_op op_add (pe_op op_fdiv (pe_ix ix_list (pv 0) pe_int (fun _ _ => rfl)) pe_int) (pe_op op_mul (pe_op op_mod (pe_callTy call_int1 (by rfl) zi (by decide +kernel) (pa_cons (pe_ix ix_list (pv 0) pe_int (fun _ _ => rfl)) pa_nil)) pe_int) pe_int)) pa_nil)) (pv 1))))))) ?give)), ?main⟩
    case main =>
      have hb := hB.ls
      refine ⟨_, rfl, _, _, _, _, rfl, rfl, SqL.of hb, rfl, _, _, rfl, rfl, _, rfl, _, _, _, _, rfl, rfl, hb, rfl, ?_⟩
      generalize hH1 : upd H a (.lst _) = H1
      have hb1 : H1 a = some (.lst [.ref c, .int b.pos, .int b.big, .int b.seed, .int (b.many + 1)]) := by rw [← hH1]; exact upd_same
      have hs1 : ∀ x, x ≠ a → H1 x = H x := fun x hx => by rw [← hH1]; exact upd_ne hx
      refine ⟨b, rfl, hb1, (hs1 c hB.ne.symm).trans hB.cs, hB.ne, hok, hk0, hk1, rfl, fun H2 o hs2 hb2 => ⟨o, b.step, rfl, hb2, Bag.step_ok hok, hk0, hk1, ?_, fun H3 hs3 hb3 => kk H3 (fun x hx hn => ?_) ⟨hb3, ?_, hB.ne⟩⟩⟩
      · unfold Bag.step; split <;> rfl
      · have e1 := hs1 x hx
        have e2 := hs2 x hx (by rw [e1]; exact hn)
        exact ((hs3 x hx (by rw [e2, e1]; exact hn)).trans e2).trans e1
      · have e1 := hs1 c hB.ne.symm
        have hn : H c ≠ none := by rw [hB.cs]; simp
        have e2 := hs2 c hB.ne.symm (by rw [e1]; exact hn)
        rw [hs3 c hB.ne.symm (by rw [e2, e1]; exact hn), e2, e1]
        have : (b.pull k).2.cells = b.cells := by
          unfold Bag.pull Bag.give
          split <;> (show b.step.cells = b.cells; unfold Bag.step; split <;> rfl)
        rw [this]
        exact hB.cs
    case step =>
      rintro D σ H ⟨b, rfl, hb1, hc1, hne, hok, hk0, hk1, hcl, kk⟩
      refine ⟨_, rfl, _, _, _, _, rfl, rfl, SqL.of hb1, rfl, rfl, _, rfl, ?_⟩
      by_cases hbig : b.big = 0
      · rw [dec_int0 hbig]
        refine iteT ⟨_, rfl, _, _, _, _, rfl, rfl, SqL.of hb1, rfl, _, rfl, _, _, _, _, rfl, rfl, SqL.of hb1, rfl, _, _, rfl, .inl (SqL.of hc1), _, _, rfl, rfl, _, rfl, ?_⟩
        refine ite2 (fun hlt => ?_) (fun hlt => ?_)
        · have hlt : b.pos < b.cells.length := by
            have := of_decide_eq_true hlt
            rw [List.length_map, ← hcl] at this
            exact Int.ofNat_lt.mp this
          have hget : (b.cells.map V.int)[b.pos]? = some (.int (b.cells.getD b.pos 0)) := by
            rw [List.getElem?_map, List.getElem?_eq_getElem hlt, List.getD_eq_getElem?_getD, List.getElem?_eq_getElem hlt]
            rfl
          rw [← hcl] at hc1
          refine ⟨_, rfl, _, _, _, _, rfl, rfl, SqL.of hb1, rfl, _, rfl, _, _, _, _, rfl, rfl, SqL.of hb1, rfl, _, _, _, _, rfl, rfl, SqL.of hc1, atI_nat hget, _, rfl, _, _, _, _, rfl, rfl, SqL.of hb1, rfl, _, _, rfl, rfl, ?_⟩
          refine ⟨(show 2 ≤ sizeLine from LINE_le (by decide)), fun t ht => ?_⟩
          have nta : a ≠ t := ne_of_none hb1 ht
          refine ⟨_, _, rfl, SqT.of upd_same, rfl, _, _, rfl, _, _, rfl, _, rfl, _, _, _, _, rfl, rfl, (upd_ne nta).trans hb1, rfl, rfl, ?_⟩
          generalize hH2 : upd (upd H t _) a (.lst _) = H2
          have hb2 : H2 a = some (.lst [.ref c, .int ((b.pos : Int) + 1), .int b.big, .int b.seed, .int (b.many + 1)]) := by rw [← hH2]; exact upd_same
          have hs2 : ∀ x, x ≠ a → H x ≠ none → H2 x = H x := fun x hx hn => by rw [← hH2, upd_ne hx, upd_ne fun e => hn (by rw [e]; exact ht)]
          have he : b.step = { cells := b.cells, pos := b.pos + 1, big := if (10 : Int) ^ 18 ≤ b.cells.getD b.pos 0 then b.cells.getD b.pos 0 else b.big, seed := (b.seed * 36973 + b.cells.getD b.pos 0 % 2147483423 * 42767 + 83) % 2147483497, many := b.many + 1 } := by
            unfold Bag.step
            rw [if_pos ⟨hbig, hlt⟩]
          -- the seed
          have key : ∀ (Hx : Hp) (g : Int), Hx a = some (.lst [.ref c, .int ((b.pos : Int) + 1), .int g, .int b.seed, .int (b.many + 1)]) → (∀ x, x ≠ a → H x ≠ none → Hx x = H x) → g = b.step.big →
              ∃ y, y = (b.seed * 36973 + b.cells.getD b.pos 0 % 2147483423 * 42767 + 83) % 2147483497 ∧ ∀ o, D.nx [some (.ref a), some (.int k), o, none, none] (upd Hx a (.lst [.ref c, .int ((b.pos : Int) + 1), .int g, .int y, .int (b.many + 1)])) := fun Hx g hx hs hg => by
            refine ⟨_, rfl, fun o => kk _ o (fun x h1 h2 => (upd_ne h1).trans (hs x h1 h2)) (upd_same.trans ?_)⟩
            rw [hg, he]
            rfl
          have mul1 : CMul b.seed 36973 := .inr ⟨by decide, by decide⟩
          have mul2 : CMul (b.cells.getD b.pos 0 % 2147483423) 42767 := .inr ⟨by decide, by decide⟩
          refine ⟨_, rfl, _, _, rfl, rfl, ⟨by decide, by decide, by decide⟩, _, _, rfl, rfl, _, rfl, ?_⟩
          refine ite2 (fun hge => ?_) (fun hge => ?_)
          · have hge : (10 : Int) ^ 18 ≤ b.cells.getD b.pos 0 := of_decide_eq_true hge
            refine ⟨_, rfl, _, rfl, _, _, _, _, rfl, rfl, hb2, rfl, ?_⟩
            generalize hH3 : upd H2 a (.lst _) = H3
            have hb3 : H3 a = some (.lst [.ref c, .int ((b.pos : Int) + 1), .int (b.cells.getD b.pos 0), .int b.seed, .int (b.many + 1)]) := by rw [← hH3]; exact upd_same
            obtain ⟨y, hy, fin⟩ := key H3 _ hb3 (fun x h1 h2 => by rw [← hH3, upd_ne h1]; exact hs2 x h1 h2) (by rw [he]; exact (if_pos hge).symm)
            subst hy
            refine ⟨_, rfl, _, _, _, _, rfl, rfl, SqL.of hb3, rfl, _, _, rfl, rfl, mul1, _, rfl, .inl ⟨_, rfl, _, _, rfl, rfl, (by show (0 : Int) < 2147483423; decide), _, _, rfl, rfl, mul2, _, _, rfl, rfl, _, _, rfl, rfl, .inl ⟨_, rfl, _, _, rfl, rfl, (by show (0 : Int) < 2147483497; decide), _, rfl, _, _, _, _, rfl, rfl, hb3, rfl, ?_⟩⟩⟩
            exact fin _
          · have hge : ¬ (10 : Int) ^ 18 ≤ b.cells.getD b.pos 0 := fun h => hge (decide_eq_true h)
            obtain ⟨y, hy, fin⟩ := key H2 b.big hb2 hs2 (by rw [he]; exact (if_neg hge).symm)
            subst hy
            refine ⟨_, rfl, _, _, _, _, rfl, rfl, SqL.of hb2, rfl, _, _, rfl, rfl, mul1, _, rfl, .inl ⟨_, rfl, _, _, rfl, rfl, (by show (0 : Int) < 2147483423; decide), _, _, rfl, rfl, mul2, _, _, rfl, rfl, _, _, rfl, rfl, .inl ⟨_, rfl, _, _, rfl, rfl, (by show (0 : Int) < 2147483497; decide), _, rfl, _, _, _, _, rfl, rfl, hb2, rfl, ?_⟩⟩⟩
            exact fin _
        · refine kk H none (fun _ _ _ => rfl) ?_
          have : b.step = { b with many := b.many + 1 } := by
            unfold Bag.step
            rw [if_neg fun h => ?_]
            have := h.2
            rw [← hcl] at hlt
            simp at hlt
            omega
          rw [this]
          exact hb1
      · rw [dec_int1 hbig]
        refine iteF (kk H none (fun _ _ _ => rfl) ?_)
        have : b.step = { b with many := b.many + 1 } := by unfold Bag.step; rw [if_neg fun h => hbig h.1]
        rw [this]
        exact hb1
    case give =>
      rintro D σ H ⟨o, b, rfl, hb, hok, hk0, hk1, hcl, kk⟩
      refine ⟨_, rfl, _, _, _, _, rfl, rfl, SqL.of hb, rfl, _, _, rfl, rfl, _, rfl, ?_⟩
      refine ite2 (fun hg => ?_) (fun hg => ?_)
      · have hg : 0 < b.big := of_decide_eq_true hg
        have he : b.give k = (b.big % k, { b with big := b.big / k }) := by unfold Bag.give; rw [if_pos hg]
        refine ⟨_, rfl, _, _, _, _, rfl, rfl, SqL.of hb, rfl, .inl ⟨_, rfl, _, rfl, _, _, rfl, rfl, hk0, _, rfl, _, _, _, _, rfl, rfl, SqL.of hb, rfl, _, rfl, _, _, rfl, rfl, ⟨hk0, hk1⟩, ?_⟩⟩
        refine ⟨(show 2 ≤ sizeLine from LINE_le (by decide)), fun t ht => ?_⟩
        have nta : a ≠ t := ne_of_none hb ht
        refine ⟨_, _, rfl, SqT.of upd_same, rfl, _, _, rfl, _, _, rfl, _, rfl, _, _, _, _, rfl, rfl, (upd_ne nta).trans hb, rfl, rfl, _, rfl, ?_⟩
        have := kk (upd (upd H t (.tup [.int (b.big % k), .int (b.big / k)])) a (.lst [.ref c, .int b.pos, .int (b.big / k), .int b.seed, .int b.many])) (fun x h1 h2 => by rw [upd_ne h1, upd_ne fun e => h2 (by rw [e]; exact ht)]) (by rw [he]; exact upd_same)
        rw [he] at this
        exact this
      · have hg : ¬ 0 < b.big := fun h => hg (decide_eq_true h)
        have he : b.give k = ((b.next / 97 + b.next % 7883 * 67) % k, { b with seed := b.next }) := by unfold Bag.give; rw [if_neg hg]
        refine ⟨_, rfl, _, _, _, _, rfl, rfl, SqL.of hb, rfl, ?_⟩
        have hsd := hok
        have pw : CPow b.seed 3 := ⟨by decide, by decide, by have := hsd.1; have := hsd.2.1; omega⟩
        have mul1 : CMul b.seed 39119 := .inr ⟨by decide, by decide⟩
        have mul2 : CMul b.many 1299709 := .inr ⟨by decide, by decide⟩
        refine ⟨_, rfl, _, _, rfl, rfl, pw, _, rfl, _, _, rfl, rfl, mul1, _, _, rfl, rfl, _, rfl, _, _, _, _, rfl, rfl, SqL.of hb, rfl, _, _, rfl, rfl, mul2, _, _, rfl, rfl, _, _, rfl, rfl, .inl ⟨_, rfl, _, _, rfl, rfl, (by show (0 : Int) < 2147483497; decide), _, rfl, _, _, _, _, rfl, rfl, hb, rfl, ?_⟩⟩
        generalize hH2 : upd H a (.lst _) = H2
        have hb2 : H2 a = some (.lst [.ref c, .int b.pos, .int b.big, .int b.next, .int b.many]) := by rw [← hH2]; exact upd_same
        have hs2 : ∀ x, x ≠ a → H x ≠ none → H2 x = H x := fun x hx hn => by rw [← hH2, upd_ne hx]
        have mul3 : CMul (b.next % 7883) 67 := .inr ⟨by decide, by decide⟩
        refine ⟨_, rfl, _, _, _, _, rfl, rfl, SqL.of hb2, rfl, _, _, rfl, rfl, ⟨by decide, by decide⟩, _, rfl, _, _, _, _, rfl, rfl, SqL.of hb2, rfl, .inl ⟨_, rfl, _, _, rfl, rfl, (by show (0 : Int) < 7883; decide), _, _, rfl, rfl, mul3, _, _, rfl, rfl, .inl ⟨_, rfl, _, rfl, _, _, rfl, rfl, hk0, ?_⟩⟩⟩
        have := kk H2 hs2 (by rw [he]; exact hb2)
        rw [he] at this
        exact this
theorem ok_pull {f : Addr} {fd : FuncData} (cad : Str → Option Addr) (F : Fun K "_law_pull" "_law_pull" sPull f fd) (zl : mg "len" = none) (zi : mg "int" = none) : FnOk P w K mg base (L2.CX P w) 1 f fd ["_law_bag", "_law_sides"] (spOf ⟨K, cad⟩ 2 pullFn) :=
  (ok_pull0 F zl zi).imp fun vs H Q E h => pull_spec vs H Q E h
theorem scDraws : FnScope ["_law_script", "_law_seed", "_law_cell"] ["_law_script"] (defScope sDraws) := ⟨rfl, rfl, rfl, by decide +kernel, rfl, by decide +kernel, by decide +kernel⟩
def spDraws (K : PySem.W.Frag) : Sp := fun vs H Q _ => ∃ (a : Addr) (ns : List Int), vs = [.ref a] ∧ SqL K H a (ns.map V.int) ∧ ns.length ≤ 1000 ∧
  ∀ p c H', H p = none → H c = none → (∀ x, H x ≠ none → H' x = H x) → BagAt H' p c ⟨ns.take 63, 0, 0, drawSeed (ns.take 63), 0⟩ → Q (.ref p) H'
theorem cut63 (ns : List Int) : cutV (ns.map V.int) none (some 63) = (ns.take 63).map V.int := by
  unfold cutV
  rw [HT.sIx_none, List.drop_zero, Nat.sub_zero, List.map_take]
  have : HT.sIx (ns.map V.int).length (ns.map V.int).length (some (63 : Int)) = min 63 (ns.map V.int).length := HT.sIx_nat _ _ 63
  rw [this]
  exact (List.take_eq_take_min).symm
theorem ok_draws0 {f : Addr} {fd : FuncData} (F : Fun K "_law_draws" "_law_draws" sDraws f fd) (zl : mg "list" = none) (zi : mg "int" = none) : FnOk P w K mg base (L2.CX P w) 1 f fd ["_law_script"] (spDraws K) := by
  refine F.okX scDraws (fun vs H Q E h => ?_) (fun cdv A outer s H vs Q E hr h => ?_)
  · obtain ⟨a, ns, rfl, _⟩ := h
    rfl
  · obtain ⟨a, ns, rfl, hS, hlen, kk⟩ := h
    refine ⟨_, pss_cons (ps_set (i := 1) scDraws.nd rfl (Or.inl rfl) pe_int)
      (pss_cons (ps_for (passes_of rfl) rfl (pi_list (pe_slice sl_list (pv 0) po_none (po_some pe_int))) (pg_name (i := 2) scDraws.nd rfl (Or.inl rfl))
        (pss_one (ps_set (i := 1) scDraws.nd rfl (Or.inl rfl) (pe_op op_mod (pe_callTy call_int1 (by rfl) zi (by decide +kernel) (pa_cons (pe_op op_add (pe_op op_add (pe_op op_mul (pv 1) pe_int) (pe_op op_mod (pe_callTy call_int1 (by rfl) zi (by decide +kernel) (pa_cons (pv 2) pa_nil)) pe_int)) pe_int) pa_nil)) pe_int))))
      (pss_one (ps_ret (pe_lst (pa_cons (pe_callTy call_list_of (by rfl) zl (by decide +kernel) (pa_cons (pe_slice sl_list (pv 0) po_none (po_some pe_int)) pa_nil)) (pa_cons pe_int (pa_cons pe_int (pa_cons (pv 1) (pa_cons pe_int pa_nil))))))))), ?_⟩
    refine ⟨_, rfl, 63, rfl, a, _, rfl, hS, fun q hq => ?_⟩
    rw [cut63]
    generalize hH1 : upd H q _ = H1
    have hq1 : H1 q = some (.lst ((ns.take 63).map V.int)) := by rw [← hH1]; exact upd_same
    have hs1 : ∀ x, H x ≠ none → H1 x = H x := fun x hx => by rw [← hH1]; exact upd_ne fun e => hx (by rw [e]; exact hq)
    have same1 : Same H H1 := fun b o e => by rw [hs1 b (by rw [e]; simp)]; exact e
    refine ⟨q, rfl, ⟨_, SqL.of hq1⟩, for_list (K := K) (a := q) (xs := (ns.take 63).map V.int) (fun i σ H2 => H2 = H1 ∧ ∃ o, σ = [some (.ref a), some (.int (((ns.take 63).take i).foldl seedOf 5793)), o]) ⟨rfl, none, rfl⟩ (fun i σ H2 _ h => by rw [h.1]; exact SqL.of hq1) ?_ ?_⟩
    · rintro i y σ H2 hi ⟨rfl, o, rfl⟩
      have hil : i < (ns.take 63).length := by
        have := (List.getElem?_eq_some_iff.mp hi).1
        simpa using this
      have hy : y = .int ((ns.take 63)[i]) := by
        rw [List.getElem?_map, List.getElem?_eq_getElem hil] at hi
        exact (Option.some.inj hi).symm
      subst hy
      have mul1 : CMul (((ns.take 63).take i).foldl seedOf 5793) 47981 := .inr ⟨by decide, by decide⟩
      refine ⟨_, rfl, _, _, rfl, rfl, mul1, _, rfl, .inl ⟨_, rfl, _, _, rfl, rfl, (by show (0 : Int) < 2147483423; decide), _, _, rfl, rfl, _, _, rfl, rfl, .inl ⟨_, rfl, _, _, rfl, rfl, (by show (0 : Int) < 2147483497; decide), rfl, some (.int ((ns.take 63)[i])), ?_⟩⟩⟩
      rw [List.take_succ_eq_append_getElem hil, List.foldl_append]
      rfl
    · rintro σ H2 ⟨rfl, o, rfl⟩
      rw [List.length_map, List.take_length]
      refine ⟨_, rfl, 63, rfl, a, _, rfl, same1.seq hS, fun q2 hq2 => ⟨q2, _, rfl, .inl (SqL.of upd_same), fun c hc => ?_⟩⟩
      rw [cut63] at hc ⊢
      refine ⟨_, rfl, (show 5 ≤ sizeLine from LINE_le (by decide)), fun p hp => ?_⟩
      have hcp : p ≠ c := fun e => by rw [e, upd_same] at hp; cases hp
      have hc1 : H2 c = none := by
        by_cases e : c = q2
        · rw [e]; exact hq2
        · rw [upd_ne e] at hc; exact hc
      have hp2 : H2 p = none := by
        rw [upd_ne hcp] at hp
        by_cases e : p = q2
        · rw [e]; exact hq2
        · rw [upd_ne e] at hp; exact hp
      have back : ∀ x, H2 x = none → H x = none := fun x e => Classical.byContradiction fun z => by rw [hs1 x z] at e; exact z e
      refine kk p c _ (back p hp2) (back c hc1) (fun x hx => ?_) ⟨upd_same, ?_, hcp⟩
      · have e2 := hs1 x hx
        have n2 : H2 x ≠ none := by rw [e2]; exact hx
        rw [upd_ne fun e => n2 (by rw [e]; exact hp2), upd_ne fun e => n2 (by rw [e]; exact hc1), upd_ne fun e => n2 (by rw [e]; exact hq2)]
        exact e2
      · rw [upd_ne hcp.symm]
        exact upd_same
theorem draws_spec {cad : Str → Option Addr} (vs : List V) (H : Hp) (Q : VK) (E : XK) (h : spOf ⟨K, cad⟩ 1 drawsFn vs H Q E) : spDraws K vs H Q E := by
  obtain ⟨hl, ds, G, S, r, sat, ns, h⟩ := h
  have hd : ∃ xs is, ds = [.lst xs] ∧ intsOf xs = some is ∧ is.length ≤ 1000 := by
    unfold drawsFn at h
    split at h
    · rename_i e
      split at e
      · split at e
        · split at e
          · rename_i h1 h2
            exact ⟨_, _, rfl, h1, h2⟩
          · cases e
        · cases e
      · cases e
    · rename_i e
      split at e
      · split at e
        · split at e <;> cases e
        · cases e
      · cases e
    · exact h.elim
  obtain ⟨xs, is, rfl, h1, h2⟩ := hd
  simp only [drawsFn, h1, h2, if_true] at h
  cases r with
  | cons r1 r2 =>
    cases r2
    cases r1 with
    | lst hf hr =>
      have := intsOf_reps hr h1
      subst this
      refine ⟨_, is, rfl, hf.seq, h2, fun p c H' hp hc hs hB => ?_⟩
      have op := sat.fr p hp
      have oc := sat.fr c hc
      have nf : ∀ x, G.O x ≠ .free → H x ≠ none := fun x hx e => hx (sat.fr x e)
      let G' : Gh := ⟨fun x => if x = p then .obj S.objs.length else if x = c then .sub S.objs.length cellsStr else G.O x, G.L ++ [p]⟩
      have oG : ∀ x, G.O x ≠ .free → G'.O x = G.O x := fun x hx => by
        show (if x = p then _ else if x = c then _ else _) = _
        rw [if_neg fun e => hx (by rw [e]; exact op), if_neg fun e => hx (by rw [e]; exact oc)]
      have kp : ∀ n, KeepN n G H G' H' := fun n => ⟨⟨[p], rfl⟩, fun x hx => by
        have : G.O x ≠ .free := by rcases hx with h | h | ⟨f, h⟩ <;> rw [h] <;> simp
        exact ⟨oG x this, hs x (nf x this)⟩⟩
      refine h (.ref p) G' H' ⟨⟨fun x hx => ⟨(oG x (by rw [hx]; simp)).trans hx, hs x (nf x (by rw [hx]; simp))⟩, [p], rfl⟩, fun x hx => ⟨(oG x (by rw [hx]; simp)).trans hx, hs x (nf x (by rw [hx]; simp))⟩⟩ ⟨fun x hx => ?_, ?_, fun n o ho => ?_⟩ (fun x i => ?_) (.loc ?_)
      · have n1 : x ≠ p := fun e => by rw [e, hB.ls] at hx; cases hx
        have n2 : x ≠ c := fun e => by rw [e, hB.cs] at hx; cases hx
        show (if x = p then _ else if x = c then _ else _) = _
        rw [if_neg n1, if_neg n2]
        exact sat.fr x (Classical.byContradiction fun z => z (by rw [← hs x z]; exact hx))
      · show (G.L ++ [p]).length = (S.objs ++ [_]).length
        rw [List.length_append, List.length_append, sat.ll]
        rfl
      · have ho : (S.objs ++ [Ob.bag ⟨is.take 63, 0, 0, drawSeed (is.take 63), 0⟩])[n]? = some o := ho
        by_cases hn : n < S.objs.length
        · rw [List.getElem?_append_left hn] at ho
          obtain ⟨a, ha, q⟩ := sat.ob n o ho
          exact ⟨a, by show (G.L ++ [p])[n]? = _; rw [List.getElem?_append_left (by rw [sat.ll]; exact hn)]; exact ha, q.keep (kp n)⟩
        · have hn' : n = S.objs.length := by
            have := (List.getElem?_eq_some_iff.mp ho).1
            simp at this
            omega
          subst hn'
          rw [List.getElem?_append_right (Nat.le_refl _), Nat.sub_self] at ho
          cases ho
          refine ⟨p, by show (G.L ++ [p])[_]? = _; rw [← sat.ll, List.getElem?_append_right (Nat.le_refl _), Nat.sub_self]; rfl, if_pos rfl, c, hB.ls, ?_, hB.cs, (drawSeed_ok _).1, (drawSeed_ok _).2, ?_⟩
          · show (if c = p then _ else if c = c then _ else _) = _
            rw [if_neg hB.ne.symm, if_pos rfl]
          · show (is.take 63).length ≤ 1000
            rw [List.length_take]
            omega
      · show (if x = p then _ else if x = c then _ else _) ≠ _
        split
        · simp
        · split
          · simp
          · exact ns x i
      · show (G.L ++ [p])[_]? = _
        rw [← sat.ll, List.getElem?_append_right (Nat.le_refl _), Nat.sub_self]
        rfl
theorem ok_draws {f : Addr} {fd : FuncData} (cad : Str → Option Addr) (F : Fun K "_law_draws" "_law_draws" sDraws f fd) (zl : mg "list" = none) (zi : mg "int" = none) : FnOk P w K mg base (L2.CX P w) 1 f fd ["_law_script"] (spOf ⟨K, cad⟩ 1 drawsFn) :=
  (ok_draws0 F zl zi).imp fun vs H Q E h => draws_spec vs H Q E h
end
end Sh


/-! ShPure: reckoning with the small language: rules for simp, loops, texts, draws. -/
namespace Sh
open PySem PySem.Spec PyProof.Rows L2

/-! ### simp goes into what is reckoned first alone -/
theorem Res.bind_congr {α β : Type} {r r' : Res α} {f : α → Rho → Mem → Res β} (h : r = r') : r.bind f = r'.bind f := by rw [h]
theorem Res.map_congr {α β : Type} {r r' : Res α} {f : α → β} (h : r = r') : r.map f = r'.map f := by rw [h]
def SRes.seq (r : SRes) (f : Rho → Mem → SRes) : SRes := match r with
  | .nx ρ S => f ρ S
  | r => r
theorem SRes.seq_congr {r r' : SRes} {f : Rho → Mem → SRes} (h : r = r') : r.seq f = r'.seq f := by rw [h]
theorem thenS_congr {α : Type} {r r' : Res α} {f : α → Rho → Mem → SRes} (h : r = r') : thenS r f = thenS r' f := by rw [h]
@[simp] theorem seq_nx (ρ : Rho) (S : Mem) (f : Rho → Mem → SRes) : (SRes.nx ρ S).seq f = f ρ S := rfl
@[simp] theorem seq_rt (r : RV) (S : Mem) (f : Rho → Mem → SRes) : (SRes.rt r S).seq f = .rt r S := rfl
@[simp] theorem seq_exc (x : Err) (ρ : Rho) (S : Mem) (f : Rho → Mem → SRes) : (SRes.exc x ρ S).seq f = .exc x ρ S := rfl
@[simp] theorem thenS_ok {α : Type} (a : α) (ρ : Rho) (S : Mem) (f : α → Rho → Mem → SRes) : thenS (.ok a ρ S) f = f a ρ S := rfl
@[simp] theorem thenS_exc {α : Type} (x : Err) (ρ : Rho) (S : Mem) (f : α → Rho → Mem → SRes) : thenS (.exc x ρ S) f = .exc x ρ S := rfl
section
variable {T : Tab}
theorem e_nil (ρ : Rho) (S : Mem) : denSs T .nil ρ S = .nx ρ S := by simp only [denSs]
theorem e_cons (s : LS) (ss : LSs) (ρ : Rho) (S : Mem) : denSs T (.cons s ss) ρ S = (denS T s ρ S).seq (denSs T ss) := by
  simp only [denSs]
  cases denS T s ρ S <;> rfl
end
/-- what a def answers -/
def SRes.out : SRes → FRes
  | .nx _ S => .ok (.fz .non) S
  | .rt r S => .ok r S
  | .exc x _ S => .exc x S
  | _ => .bad
@[simp] theorem out_nx (ρ : Rho) (S : Mem) : (SRes.nx ρ S).out = .ok (.fz .non) S := rfl
@[simp] theorem out_rt (r : RV) (S : Mem) : (SRes.rt r S).out = .ok r S := rfl
@[simp] theorem out_exc (x : Err) (ρ : Rho) (S : Mem) : (SRes.exc x ρ S).out = .exc x S := rfl
theorem e_def {T : Tab} {np n : Nat} {b : LSs} {ds : List D} {S : Mem} (ρ : Rho) (h : ds.length = np) (hr : ds.map (fun d => some (.fz d)) ++ List.replicate (n - np) none = ρ) : denDef T np n b ds S = (denSs T b ρ S).out := by
  subst hr
  unfold denDef
  rw [if_pos h, h]
  cases denSs T b (ds.map (fun d => some (.fz d)) ++ List.replicate (n - np) none) S <;> rfl
theorem def_len {T : Tab} {np n : Nat} {b : LSs} (ds : List D) (S : Mem) (h : denDef T np n b ds S ≠ .bad) : ds.length = np := by
  unfold denDef at h
  split at h
  · assumption
  · exact (h rfl).elim

/-! ### what an expression is, one row a form (simp is not to open the turns of a comprehension) -/
def lcBody (T : Tab) (cs : LEs) (elt : LE) (tg : Tg) (d : D) (ρ : Rho) (S : Mem) : Res (Option D) := (ofO (tg.put d ρ) ρ S).bind fun ρ' _ S => (denC T cs ρ' S).bind fun k ρ S => if k = true then (den T elt ρ S).bind fun y ρ S => .ok (some y.d) ρ S else .ok none ρ S
def lcRun (vs : List Nat) (f : D → Rho → Mem → Res (Option D)) (ρ : Rho) (ds : List D) (S : Mem) : Res RV := if noOwn ρ vs = false then .bad else (lcLoop vs f ds [] ρ S).bind fun acc ρ' S => .ok (.own acc) (backE ρ ρ' vs) S
def ifM {α β : Type} (o : Option β) (a b : α) : α := if o.isSome = true then a else b
@[simp] theorem ifM_none {α β : Type} (a b : α) : ifM (none : Option β) a b = b := rfl
@[simp] theorem ifM_some {α β : Type} (x : β) (a b : α) : ifM (some x) a b = a := rfl
def lc2Body (T : Tab) (cs : LEs) (it1 : LI) (tg : Tg) (d : D) (ρ : Rho) (S : Mem) : Res (Option (List D)) := (ofO (tg.put d ρ) ρ S).bind fun ρ' _ S => (denC T cs ρ' S).bind fun k ρ S => if k = true then (denI T it1 ρ S).bind fun es ρ S => .ok (some es) ρ S else .ok none ρ S
def lc2Run (vs vs1 : List Nat) (p : D → Rho → Mem → Res (Option (List D))) (f : D → Rho → Mem → Res (Option D)) (ρ : Rho) (ds : List D) (S : Mem) : Res RV := if noOwn ρ vs = false then .bad else (lc2Loop vs vs1 p f ds [] ρ S).bind fun acc ρ' S => .ok (.own acc) (backE ρ ρ' vs) S
section
variable {T : Tab}
theorem q_lt (S : Mem) (x : D) : eqM T S .Lt x = none := rfl
theorem q_le (S : Mem) (x : D) : eqM T S .LtE x = none := rfl
theorem q_gt (S : Mem) (x : D) : eqM T S .Gt x = none := rfl
theorem q_ge (S : Mem) (x : D) : eqM T S .GtE x = none := rfl
theorem q_is (S : Mem) (x : D) : eqM T S .Is x = none := rfl
theorem q_nis (S : Mem) (x : D) : eqM T S .IsNot x = none := rfl
theorem q_in (S : Mem) (x : D) : eqM T S .In x = none := rfl
theorem q_nin (S : Mem) (x : D) : eqM T S .NotIn x = none := rfl
theorem q_eq (S : Mem) (x : D) : eqM T S .Eq x = (smOf T S x "__eq__").map (·, false) := rfl
theorem q_ne (S : Mem) (x : D) : eqM T S .NotEq x = (smOf T S x "__eq__").map (·, true) := rfl
theorem b_len (S : Mem) (x : D) : bclM T S .len [x] = smOf T S x "__len__" := rfl
theorem b_repr (S : Mem) (x : D) : bclM T S .repr [x] = smOf T S x "__repr__" := rfl
theorem b_int (S : Mem) (ds : List D) : bclM T S .int ds = none := by cases ds <;> rfl
theorem b_all (S : Mem) (ds : List D) : bclM T S .all ds = none := by cases ds <;> rfl
theorem b_list (S : Mem) (ds : List D) : bclM T S .list ds = none := by cases ds <;> rfl
theorem b_tuple (S : Mem) (ds : List D) : bclM T S .tuple ds = none := by cases ds <;> rfl
theorem b_str (S : Mem) (ds : List D) : bclM T S .str ds = none := by cases ds <;> rfl
theorem s_non (S : Mem) (m : Str) : smOf T S .non m = none := rfl
theorem s_bl (S : Mem) (b : Bool) (m : Str) : smOf T S (.bl b) m = none := rfl
theorem s_int (S : Mem) (b : Int) (m : Str) : smOf T S (.int b) m = none := rfl
theorem s_str (S : Mem) (b : Str) (m : Str) : smOf T S (.str b) m = none := rfl
theorem s_lst (S : Mem) (b : List D) (m : Str) : smOf T S (.lst b) m = none := rfl
theorem s_tup (S : Mem) (b : List D) (m : Str) : smOf T S (.tup b) m = none := rfl
theorem s_obj (S : Mem) (c : Str) (fs : List (Str × D)) (m : Str) : smOf T S (.obj c fs) m = T.sm c m := rfl
theorem p_obj (S : Mem) (c : Str) (fs : List (Str × D)) (m : Str) : prOf T S (.obj c fs) m = T.pr c m := rfl
theorem n_var (i : Nat) (ρ : Rho) (S : Mem) : den T (.var i) ρ S = rdV i ρ S := by simp only [den] <;> rfl
theorem n_non  (ρ : Rho) (S : Mem) : den T (.non) ρ S = .ok (.fz .non) ρ S := by simp only [den] <;> rfl
theorem n_bl (b : Bool) (ρ : Rho) (S : Mem) : den T (.bl b) ρ S = .ok (.fz (.bl b)) ρ S := by simp only [den] <;> rfl
theorem n_int (i : Int) (ρ : Rho) (S : Mem) : den T (.int i) ρ S = .ok (.fz (.int i)) ρ S := by simp only [den] <;> rfl
theorem n_str (x : Str) (ρ : Rho) (S : Mem) : den T (.str x) ρ S = .ok (.fz (.str x)) ρ S := by simp only [den] <;> rfl
theorem n_glob (x : Nat) (ρ : Rho) (S : Mem) : den T (.glob x) ρ S = (ofO (T.gl x) ρ S).map .fz := by simp only [den] <;> rfl
theorem n_bin (op : Operator) (a b : LE) (ρ : Rho) (S : Mem) : den T (.bin op a b) ρ S = (denB T a ρ S).bind fun x ρ S => (denB T b ρ S).bind fun y ρ S => ofO (opBin op x y) ρ S := by simp only [den] <;> rfl
theorem n_neg (a : LE) (ρ : Rho) (S : Mem) : den T (.neg a) ρ S = ((denB T a ρ S).bind fun x ρ S => match x with
    | .int i => .ok (.fz (.int (-i))) ρ S
    | _ => .bad) := by simp only [den] <;> rfl
theorem n_cmp (op : CmpOp) (a b : LE) (ρ : Rho) (S : Mem) : den T (.cmp op a b) ρ S = (denB T a ρ S).bind fun x ρ S => ifM (eqM T S op x) (((den T b ρ S).map RV.d).bind fun y ρ S => (cmpM T op x y ρ S).map fun k => .fz (.bl k)) ((denB T b ρ S).bind fun y ρ S => (ofO (opCmp op x y) ρ S).map fun k => .fz (.bl k)) := by simp only [den] <;> rfl
theorem n_isc (a : LE) (k : Nat) (ρ : Rho) (S : Mem) : den T (.isc a k) ρ S = (denB T a ρ S).bind fun x ρ S => (match T.gl k with
    | some (.cls c) => (ofO (iscOf T S x c) ρ S).map fun k => .fz (.bl k)
    | _ => .bad) := by simp only [den] <;> rfl
theorem n_ixo (a e : LE) (ρ : Rho) (S : Mem) : den T (.ixo a e) ρ S = (denB T a ρ S).bind fun x ρ S => (match x with
    | .lst ds => (denB T e ρ S).bind fun y ρ S => ofO (opIxo ds y) ρ S
    | _ => .bad) := by simp only [den] <;> rfl
theorem n_mthk (a : LE) (m : Str) (n : Nat) (es : LEs) (ks : List Str) (kes : LEs) (ρ : Rho) (S : Mem) : den T (.mthk a m n es ks kes) ρ S = ((den T a ρ S).map RV.d).bind fun x ρ S => (match mkOf T S x m ks n with
    | some (fn, perm) => (denEs T es ρ S).bind fun ds ρ S => (denEs T kes ρ S).bind fun zs ρ S => (ofO (if ds.length = n ∧ zs.length = ks.length then pick perm (ds ++ zs) else none) ρ S).bind fun xs ρ S => (fn (x :: xs) S).res ρ
    | none => .bad) := by simp only [den] <;> rfl
theorem b_min (S : Mem) (ds : List D) : bclM T S .min ds = none := by cases ds <;> rfl
theorem n_rev (a : LE) (ρ : Rho) (S : Mem) : den T (.rev a) ρ S = (denB T a ρ S).bind fun x ρ S => ofO (opRev x) ρ S := by simp only [den] <;> rfl
theorem n_fmt (a : LE) (ρ : Rho) (S : Mem) : den T (.fmt a) ρ S = (denB T a ρ S).bind fun x ρ S => ofO (opFmt x) ρ S := by simp only [den] <;> rfl
theorem n_fst (es : LEs) (ρ : Rho) (S : Mem) : den T (.fst es) ρ S = (denF T es Str.empty ρ S).map fun x => .fz (.str x) := by simp only [den] <;> rfl
theorem n_lc2 (vs vs1 : List Nat) (elt : LE) (tg : Tg) (it : LI) (cs : LEs) (tg1 : Tg) (it1 : LI) (cs1 : LEs) (ρ : Rho) (S : Mem) : den T (.lc2 vs vs1 elt tg it cs tg1 it1 cs1) ρ S = (denI T it ρ S).bind fun ds ρ S => lc2Run vs vs1 (lc2Body T cs it1 tg) (lcBody T cs1 elt tg1) ρ ds S := by
  simp only [den]
  rfl
theorem n_chn (op op2 : CmpOp) (a b c : LE) (ρ : Rho) (S : Mem) : den T (.chn op op2 a b c) ρ S = ((denB T a ρ S).bind fun x ρ S => (denB T b ρ S).bind fun y ρ S => (ofO (opCmp op x y) ρ S).bind fun k ρ S =>
      if k = true then (denB T c ρ S).bind fun z ρ S => (ofO (opCmp op2 y z) ρ S).map fun k => .fz (.bl k) else .ok (.fz (.bl false)) ρ S) := by simp only [den] <;> rfl
theorem n_and (a b : LE) (ρ : Rho) (S : Mem) : den T (.and a b) ρ S = (tstR (den T a ρ S)).bind fun k ρ S => if k = true then den T b ρ S else .ok (.fz (.bl false)) ρ S := by simp only [den] <;> rfl
theorem n_or (a b : LE) (ρ : Rho) (S : Mem) : den T (.or a b) ρ S = (tstR (den T a ρ S)).bind fun k ρ S => if k = true then .ok (.fz (.bl true)) ρ S else den T b ρ S := by simp only [den] <;> rfl
theorem n_not (a : LE) (ρ : Rho) (S : Mem) : den T (.not a) ρ S = (tstR (den T a ρ S)).bind fun k ρ S => .ok (.fz (.bl (!k))) ρ S := by simp only [den] <;> rfl
theorem n_ite (c a b : LE) (ρ : Rho) (S : Mem) : den T (.ite c a b) ρ S = (tstR (den T c ρ S)).bind fun k ρ S => if k = true then den T a ρ S else den T b ρ S := by simp only [den] <;> rfl
theorem n_tup (es : LEs) (ρ : Rho) (S : Mem) : den T (.tup es) ρ S = (denEs T es ρ S).bind fun ds ρ S => if ds.length ≤ LINE then .ok (.fz (.tup ds)) ρ S else .bad := by simp only [den] <;> rfl
theorem n_lst (es : LEs) (ρ : Rho) (S : Mem) : den T (.lst es) ρ S = (denEs T es ρ S).bind fun ds ρ S => if ds.length ≤ LINE then .ok (.own ds) ρ S else .bad := by simp only [den] <;> rfl
theorem n_fld (a : LE) (f : Str) (ρ : Rho) (S : Mem) : den T (.fld a f) ρ S = (denB T a ρ S).bind fun x ρ S => (match prOf T S x f with
    | some fn => noX ((fn [x] S).res ρ)
    | none => ofO (fldOf T S x f) ρ S) := by simp only [den] <;> rfl
theorem n_mth (a : LE) (m : Str) (es : LEs) (ρ : Rho) (S : Mem) : den T (.mth a m es) ρ S = ((den T a ρ S).map RV.d).bind fun x ρ S => (match mthOf T S x m with
    | some (_, fn) => (denEs T es ρ S).bind fun ds ρ S => (fn (x :: ds) S).res ρ
    | none => .bad) := by simp only [den] <;> rfl
theorem n_rep (es : LEs) (k : LE) (ρ : Rho) (S : Mem) : den T (.rep es k) ρ S = (denEs T es ρ S).bind fun ds ρ S => (if ds.length ≤ LINE then .ok ds ρ S else .bad : Res (List D)).bind fun ds ρ S => (denB T k ρ S).bind fun y ρ S => ofO (opRep ds y) ρ S := by simp only [den] <;> rfl
theorem n_idx (a i : LE) (ρ : Rho) (S : Mem) : den T (.idx a i) ρ S = (denB T a ρ S).bind fun x ρ S => (denB T i ρ S).bind fun y ρ S => ofO (opIdx x y) ρ S := by simp only [den] <;> rfl
theorem n_slc (a : LE) (lo hi : LEo) (ρ : Rho) (S : Mem) : den T (.slc a lo hi) ρ S = (denB T a ρ S).bind fun x ρ S => (denO T lo ρ S).bind fun l ρ S => (denO T hi ρ S).bind fun u ρ S => ofO (opSlc x l u) ρ S := by simp only [den] <;> rfl
theorem n_call (f : Nat) (es : LEs) (ρ : Rho) (S : Mem) : den T (.call f es) ρ S = (match T.fn f with
    | some m => (denEs T es ρ S).bind fun ds ρ S => (m ds S).res ρ
    | none => match T.nw f es.len with
      | some (c, fn, dv, z) => (denEs T es ρ S).bind fun ds ρ S => (newFn c fn dv z ds S).res ρ
      | none => .bad) := by simp only [den] <;> rfl
theorem n_lens (a : LE) (ρ : Rho) (S : Mem) : den T (.lens a) ρ S = (denB T a ρ S).bind fun x ρ S => ofO (opLens x) ρ S := by simp only [den] <;> rfl
theorem n_lend (f j : Nat) (ρ : Rho) (S : Mem) : den T (.lend f j) ρ S = (match T.nw f 1, ρ[j]? with
    | some (c, fn, [], true), some (some (.own ds)) => (lendFn c fn ds S).res ρ
    | _, _ => .bad) := by simp only [den] <;> rfl
theorem n_callk (f n : Nat) (es : LEs) (ks : List Str) (kes : LEs) (ρ : Rho) (S : Mem) : den T (.callk f n es ks kes) ρ S = (match T.fnk f ks n with
    | some (m, perm) => (denEs T es ρ S).bind fun ds ρ S => (denEs T kes ρ S).bind fun zs ρ S => (ofO (if ds.length = n ∧ zs.length = ks.length then pick perm (ds ++ zs) else none) ρ S).bind fun xs ρ S => (m xs S).res ρ
    | none => match T.nk f ks n with
      | some (c, fn, perm, dv, z) => (denEs T es ρ S).bind fun ds ρ S => (denEs T kes ρ S).bind fun zs ρ S => (ofO (if ds.length = n ∧ zs.length = ks.length then pick perm (ds ++ zs ++ dv) else none) ρ S).bind fun xs ρ S => (newFn c fn [] z xs S).res ρ
      | none => .bad) := by simp only [den] <;> rfl
theorem n_bcl (b : Blt) (es : LEs) (ρ : Rho) (S : Mem) : den T (.bcl b es) ρ S = (denBs T es ρ S).bind fun ds ρ S => (match bclM T S b ds with
    | some fn => (noX ((fn ds S).res ρ)).bind fun r ρ S => ofO (bclR b r) ρ S
    | none => ofO (opBcl b ds) ρ S) := by simp only [den] <;> rfl
theorem n_isi (a : LE) (tys : List String) (ρ : Rho) (S : Mem) : den T (.isi a tys) ρ S = (denB T a ρ S).bind fun x ρ S => (ofO (isTys x tys) ρ S).map fun k => .fz (.bl k) := by simp only [den] <;> rfl
theorem n_join (s a : LE) (ρ : Rho) (S : Mem) : den T (.join s a) ρ S = (denB T s ρ S).bind fun x ρ S => (denB T a ρ S).bind fun y ρ S => ofO (opJoin x y) ρ S := by simp only [den] <;> rfl
theorem n_lc (vs : List Nat) (elt : LE) (tg : Tg) (it : LI) (cs : LEs) (ρ : Rho) (S : Mem) : den T (.lc vs elt tg it cs) ρ S = (denI T it ρ S).bind fun ds ρ S => lcRun vs (lcBody T cs elt tg) ρ ds S := by
  simp only [den]
  rfl
end
/-! ### tables -/
def Tab.emp : Tab := ⟨fun _ => none, fun _ _ _ => none, fun _ => none, fun _ _ => false, fun _ _ => none, fun _ _ => none, fun _ _ _ => none, fun _ => false, fun _ _ => none, fun _ _ => none, fun _ _ => none, fun _ _ => none, fun _ _ _ _ => none⟩
def Tab.add (T : Tab) (i : Nat) (m : Fn) : Tab := { T with fn := fun j => if j = i then some m else T.fn j }
def Tab.addG (T : Tab) (i : Nat) (d : D) : Tab := { T with gl := fun j => if j = i then some d else T.gl j }
def Tab.addK (T : Tab) (i : Nat) (ks : List Str) (n : Nat) (m : Fn) (perm : List Nat) : Tab := { T with fnk := fun j ls k => if j = i ∧ ls = ks ∧ k = n then some (m, perm) else T.fnk j ls k }
@[simp] theorem add_fn (T : Tab) (i : Nat) (m : Fn) (j : Nat) : (T.add i m).fn j = if j = i then some m else T.fn j := rfl
@[simp] theorem add_fnk (T : Tab) (i : Nat) (m : Fn) (j : Nat) (ls : List Str) (k : Nat) : (T.add i m).fnk j ls k = T.fnk j ls k := rfl
@[simp] theorem add_gl (T : Tab) (i : Nat) (m : Fn) (j : Nat) : (T.add i m).gl j = T.gl j := rfl
@[simp] theorem addG_fn (T : Tab) (i : Nat) (d : D) (j : Nat) : (T.addG i d).fn j = T.fn j := rfl
@[simp] theorem addG_fnk (T : Tab) (i : Nat) (d : D) (j : Nat) (ls : List Str) (k : Nat) : (T.addG i d).fnk j ls k = T.fnk j ls k := rfl
@[simp] theorem addG_gl (T : Tab) (i : Nat) (d : D) (j : Nat) : (T.addG i d).gl j = if j = i then some d else T.gl j := rfl
@[simp] theorem addK_fn (T : Tab) (i : Nat) (ks : List Str) (n : Nat) (m : Fn) (p : List Nat) (j : Nat) : (T.addK i ks n m p).fn j = T.fn j := rfl
@[simp] theorem addK_gl (T : Tab) (i : Nat) (ks : List Str) (n : Nat) (m : Fn) (p : List Nat) (j : Nat) : (T.addK i ks n m p).gl j = T.gl j := rfl
@[simp] theorem addK_fnk (T : Tab) (i : Nat) (ks : List Str) (n : Nat) (m : Fn) (p : List Nat) (j : Nat) (ls : List Str) (k : Nat) : (T.addK i ks n m p).fnk j ls k = if j = i ∧ ls = ks ∧ k = n then some (m, p) else T.fnk j ls k := rfl
def Tab.addF (T : Tab) (p : Str → Str → Bool) : Tab := { T with isF := p }
def Tab.addM (T : Tab) (c m : Str) (fn : Fn) : Tab := { T with mt := fun d k => if d = c ∧ k = m then some fn else T.mt d k }
def Tab.addN (T : Tab) (i k : Nat) (c : Str) (fn : Fn) (dv : List D) (z : Bool) : Tab := { T with nw := fun j l => if j = i ∧ l = k then some (c, fn, dv, z) else T.nw j l }
def Tab.addNk (T : Tab) (i : Nat) (ks : List Str) (k : Nat) (c : Str) (fn : Fn) (perm : List Nat) (dv : List D) (z : Bool) : Tab := { T with nk := fun j l m => if j = i ∧ l = ks ∧ m = k then some (c, fn, perm, dv, z) else T.nk j l m }
def Tab.addMk (T : Tab) (c m : Str) (ks : List Str) (k : Nat) (fn : Fn) (perm : List Nat) : Tab := { T with mtk := fun d l ls j => if d = c ∧ l = m ∧ ls = ks ∧ j = k then some (fn, perm) else T.mtk d l ls j }
def Tab.addO (T : Tab) (p : Str → Bool) (q : Str → Str → Option Bool) : Tab := { T with oc := p, sub := q }
def Tab.addS (T : Tab) (c m : Str) (fn : Fn) : Tab := { T with sm := fun d k => if d = c ∧ k = m then some fn else T.sm d k }
def Tab.addP (T : Tab) (c m : Str) (fn : Fn) : Tab := { T with pr := fun d k => if d = c ∧ k = m then some fn else T.pr d k }
def Tab.addC (T : Tab) (c m : Str) (v : D) : Tab := { T with cn := fun d k => if d = c ∧ k = m then some v else T.cn d k }
/-- a def that the table may name -/
structure Ent (P : Program) (w : World) (K : PySem.W.Frag) (mg : Str → Option Value) (base : Heap) (cad : Str → Option Addr) (n : Nat) (x : Str) (ps : List Str) (m : Fn) : Prop where
  ex : ∃ a fd, mg x = some (.ref a) ∧ PySem.W.keepIn K (.ref a) = true ∧ FnOk P w K mg base (L2.CX P w) n a fd ps (spOf ⟨K, cad⟩ ps.length m) ∧ Binds K fd ps []
  len : ∀ ds S, m ds S ≠ .bad → ds.length = ps.length
/-- .. and by its parameters' names -/
structure EntK (P : Program) (w : World) (K : PySem.W.Frag) (mg : Str → Option Value) (base : Heap) (cad : Str → Option Addr) (n : Nat) (x : Str) (ps ks : List Str) (n' : Nat) (m : Fn) (perm : List Nat) : Prop where
  ex : ∃ a fd, mg x = some (.ref a) ∧ PySem.W.keepIn K (.ref a) = true ∧ FnOk P w K mg base (L2.CX P w) n a fd ps (spOf ⟨K, cad⟩ ps.length m) ∧
    (∀ (s : Shared) (us ws xs : List Value), K.In s.heap → us.length = n' → ws.length = ks.length → pick perm (us ++ ws) = some xs → xs.length = ps.length → BindsTo s fd ⟨us, ks.zip ws⟩ (ps.zip xs))
  len : ∀ ds S, m ds S ≠ .bad → ds.length = ps.length
section
variable {P : Program} {w : World} {K : PySem.W.Frag} {mg : Str → Option Value} {base : Heap} {cad : Str → Option Addr} {F : List Str} {T : Tab} {n n2 : Nat}
theorem Ent.mono {x : Str} {ps : List Str} {m : Fn} (h : Ent P w K mg base cad n x ps m) (hn : n ≤ n2) : Ent P w K mg base cad n2 x ps m :=
  let ⟨a, fd, h1, h2, h3, h4⟩ := h.ex
  ⟨⟨a, fd, h1, h2, h3.mono hn, h4⟩, h.len⟩
theorem EntK.mono {x : Str} {ps ks : List Str} {n' : Nat} {m : Fn} {perm : List Nat} (h : EntK P w K mg base cad n x ps ks n' m perm) (hn : n ≤ n2) : EntK P w K mg base cad n2 x ps ks n' m perm :=
  let ⟨a, fd, h1, h2, h3, h4⟩ := h.ex
  ⟨⟨a, fd, h1, h2, h3.mono hn, h4⟩, h.len⟩
theorem FnAt.mono {f : Addr} {fd : FuncData} {ps : List Str} {fn : Fn} (h : FnAt P w K mg base cad n f fd ps fn) (hn : n ≤ n2) : FnAt P w K mg base cad n2 f fd ps fn := ⟨h.1.mono hn, h.2⟩
theorem TabOk.mono (h : TabOk P w K mg base cad F T n) (hn : n ≤ n2) : TabOk P w K mg base cad F T n2 where
  fn := fun i m h1 f h2 => let ⟨a, fd, ps, q1, q2, q3, q4⟩ := h.fn i m h1 f h2; ⟨a, fd, ps, q1, q2, q3.mono hn, q4⟩
  fnk := fun i ks n' m perm h1 f h2 => let ⟨a, fd, ps, q1, q2, q3, q4⟩ := h.fnk i ks n' m perm h1 f h2; ⟨a, fd, ps, q1, q2, q3.mono hn, q4⟩
  gl := h.gl
  bl := h.bl
  nw := fun i k c fn dv z h1 f h2 => let ⟨A, fi, fd, ps, dvs, ds, q1, q2, q3, ⟨j, q4, q5⟩, q6⟩ := h.nw i k c fn dv z h1 f h2; ⟨A, fi, fd, ps, dvs, ds, q1, q2, q3, ⟨j, by omega, q5⟩, q6⟩
  nk := fun i ks n' c fn perm dv z h1 f h2 => let ⟨A, fi, fd, ps, dvs, ds, q1, q2, q3, ⟨j, q4, q5⟩, q6⟩ := h.nk i ks n' c fn perm dv z h1 f h2; ⟨A, fi, fd, ps, dvs, ds, q1, q2, q3, ⟨j, by omega, q5⟩, q6⟩
  ci := h.ci
  na := h.na
  mt := fun c m fn h1 A h2 => let ⟨q0, f, fd, ps, q1, q2⟩ := h.mt c m fn h1 A h2; ⟨q0, f, fd, ps, q1, q2.mono hn⟩
  sm := fun c m fn h1 A h2 => let ⟨q0, q1, f, fd, ps, j, q2, q3, q4⟩ := h.sm c m fn h1 A h2; ⟨q0, q1, f, fd, ps, j, q2, by omega, q4⟩
  pr := fun c m fn h1 A h2 => let ⟨q0, p, g, fd, ps, j, q2, q3, q4⟩ := h.pr c m fn h1 A h2; ⟨q0, p, g, fd, ps, j, q2, by omega, q4⟩
  cn := h.cn
  sub := h.sub
  mtk := fun c m ks n' fn perm h1 A h2 => let ⟨q0, f, fd, ps, q1, q2, q3⟩ := h.mtk c m ks n' fn perm h1 A h2; ⟨q0, f, fd, ps, q1, q2.mono hn, q3⟩
theorem TabOk.emp (h : ∀ b, b ∈ bltNames → mg b = none) : TabOk P w K mg base cad F .emp n where
  fn := fun _ _ h => (by cases h)
  fnk := fun _ _ _ _ _ h => (by cases h)
  gl := fun _ _ h => (by cases h)
  bl := h
  nw := fun _ _ _ _ _ _ h => (by cases h)
  nk := fun _ _ _ _ _ _ _ _ h => (by cases h)
  ci := fun _ _ h => (by cases h)
  na := fun _ _ _ h => (by cases h)
  mt := fun _ _ _ h => (by cases h)
  sm := fun _ _ _ h => (by cases h)
  pr := fun _ _ _ h => (by cases h)
  cn := fun _ _ _ h => (by cases h)
  sub := fun _ _ _ h => (by cases h)
  mtk := fun _ _ _ _ _ _ h => (by cases h)
theorem TabOk.add {i : Nat} {x : Str} {ps : List Str} {m : Fn} (h : TabOk P w K mg base cad F T n) (hi : F[i]? = some x) (e : Ent P w K mg base cad n x ps m) : TabOk P w K mg base cad F (T.add i m) n := { h with
  fn := fun j m' h1 f h2 => by
    simp only [add_fn] at h1
    split at h1
    · rename_i e1
      subst e1
      cases h1
      rw [hi] at h2
      cases h2
      obtain ⟨a, fd, q1, q2, q3, q4⟩ := e.ex
      exact ⟨a, fd, ps, q1, q2, q3, q4, e.len⟩
    · exact h.fn j m' h1 f h2 }
theorem TabOk.addK {i : Nat} {x : Str} {ps ks : List Str} {n' : Nat} {m : Fn} {perm : List Nat} (h : TabOk P w K mg base cad F T n) (hi : F[i]? = some x) (e : EntK P w K mg base cad n x ps ks n' m perm) : TabOk P w K mg base cad F (T.addK i ks n' m perm) n := { h with
  fnk := fun j ls k m' p' h1 f h2 => by
    simp only [addK_fnk] at h1
    split at h1
    · rename_i e1
      obtain ⟨rfl, rfl, rfl⟩ := e1
      cases h1
      rw [hi] at h2
      cases h2
      obtain ⟨a, fd, q1, q2, q3, q4⟩ := e.ex
      exact ⟨a, fd, ps, q1, q2, q3, q4, e.len⟩
    · exact h.fnk j ls k m' p' h1 f h2 }
theorem TabOk.addG {i : Nat} {x : Str} {d : D} {u : Value} {v : V} (h : TabOk P w K mg base cad F T n) (hi : F[i]? = some x) (hu : mg x = some u) (hv : RelV v u) (hr : ∀ G H, Rep ⟨K, cad⟩ G H v d) : TabOk P w K mg base cad F (T.addG i d) n := { h with
  gl := fun j d' h1 y h2 => by
    simp only [addG_gl] at h1
    split at h1
    · rename_i e1
      subst e1
      cases h1
      rw [hi] at h2
      cases h2
      exact ⟨u, v, hu, hv, hr⟩
    · exact h.gl j d' h1 y h2 }
/-- fields -/
theorem TabOk.addF {p : Str → Str → Bool} (h : TabOk P w K mg base cad F T n) (hp : ∀ c f A, p c f = true → cad c = some A → Cls K A ∧ NoAttr K A f) : TabOk P w K mg base cad F (T.addF p) n := { h with na := hp }
/-- classes, and which is below which -/
theorem TabOk.addO {p : Str → Bool} {q : Str → Str → Option Bool} (h : TabOk P w K mg base cad F T n) (hp : ∀ c A, p c = true → cad c = some A → CI K A) (hq : ∀ c c' b, q c c' = some b → ∀ A A', cad c = some A → cad c' = some A' → PySem.W.kitOne K (.ref A) (.ref A') = some b ∧ (b = false → PySem.W.notFirst K A' (.ref A) = true)) :
    TabOk P w K mg base cad F (T.addO p q) n := { h with ci := hp, sub := hq }
/-- a method -/
theorem TabOk.addM {c m : Str} {fn : Fn} {ps : List Str} {f : Addr} {fd : FuncData} (h : TabOk P w K mg base cad F T n) (hm : ∀ A, cad c = some A → Cls K A ∧ Meth K A m f) (hf : FnAt P w K mg base cad n f fd ps fn) : TabOk P w K mg base cad F (T.addM c m fn) n := { h with
  mt := fun d k fn' h1 A h2 => by
    have h1' : (if d = c ∧ k = m then some fn else T.mt d k) = some fn' := h1
    by_cases e : d = c ∧ k = m
    · rw [if_pos e] at h1'
      cases h1'
      obtain ⟨rfl, rfl⟩ := e
      exact ⟨(hm A h2).1, f, fd, ps, (hm A h2).2, hf⟩
    · rw [if_neg e] at h1'
      exact h.mt d k fn' h1' A h2 }
/-- a method by its parameters' names -/
theorem TabOk.addMk {c m : Str} {ks : List Str} {k : Nat} {fn : Fn} {perm : List Nat} {ps : List Str} {f : Addr} {fd : FuncData} (h : TabOk P w K mg base cad F T n) (hm : ∀ A, cad c = some A → Cls K A ∧ Meth K A m f) (hf : FnOk P w K mg base (L2.CX P w) n f fd ps (spOf ⟨K, cad⟩ ps.length fn))
    (hb : ∀ (s : Shared) (x : Value) (us ws xs : List Value), K.In s.heap → us.length = k → ws.length = ks.length → pick perm (us ++ ws) = some xs → xs.length + 1 = ps.length → BindsTo s fd ⟨x :: us, ks.zip ws⟩ (ps.zip (x :: xs))) (hl : ∀ ds S, fn ds S ≠ .bad → ds.length = ps.length) : TabOk P w K mg base cad F (T.addMk c m ks k fn perm) n := { h with
  mtk := fun d l ls j fn' perm' h1 A h2 => by
    have h1' : (if d = c ∧ l = m ∧ ls = ks ∧ j = k then some (fn, perm) else T.mtk d l ls j) = some (fn', perm') := h1
    by_cases e : d = c ∧ l = m ∧ ls = ks ∧ j = k
    · rw [if_pos e] at h1'
      cases h1'
      obtain ⟨rfl, rfl, rfl, rfl⟩ := e
      exact ⟨(hm A h2).1, f, fd, ps, (hm A h2).2, hf, hb, hl⟩
    · rw [if_neg e] at h1'
      exact h.mtk d l ls j fn' perm' h1' A h2 }
/-- a special method -/
theorem TabOk.addS {c m : Str} {fn : Fn} {ps : List Str} {f : Addr} {fd : FuncData} {j : Nat} (h : TabOk P w K mg base cad F T n) (hm : ∀ A, cad c = some A → CI K A ∧ (m = ("__eq__" : Str) → PySem.W.findIn K (.ref A) "__ne__" = some (some (.builtin "object.__ne__"))) ∧ Meth K A m f) (hj : j + 1 ≤ n) (hf : FnAt P w K mg base cad j f fd ps fn) : TabOk P w K mg base cad F (T.addS c m fn) n := { h with
  sm := fun d k fn' h1 A h2 => by
    have h1' : (if d = c ∧ k = m then some fn else T.sm d k) = some fn' := h1
    by_cases e : d = c ∧ k = m
    · rw [if_pos e] at h1'
      cases h1'
      obtain ⟨rfl, rfl⟩ := e
      exact ⟨(hm A h2).1, (hm A h2).2.1, f, fd, ps, j, (hm A h2).2.2, hj, hf⟩
    · rw [if_neg e] at h1'
      exact h.sm d k fn' h1' A h2 }
/-- a property -/
theorem TabOk.addP {c m : Str} {fn : Fn} {ps : List Str} {f p : Addr} {fd : FuncData} {j : Nat} (h : TabOk P w K mg base cad F T n) (hm : ∀ A, cad c = some A → Cls K A ∧ PropOf K A m p f) (hj : j + 1 ≤ n) (hf : FnAt P w K mg base cad j f fd ps fn) : TabOk P w K mg base cad F (T.addP c m fn) n := { h with
  pr := fun d k fn' h1 A h2 => by
    have h1' : (if d = c ∧ k = m then some fn else T.pr d k) = some fn' := h1
    by_cases e : d = c ∧ k = m
    · rw [if_pos e] at h1'
      cases h1'
      obtain ⟨rfl, rfl⟩ := e
      exact ⟨(hm A h2).1, p, f, fd, ps, j, (hm A h2).2, hj, hf⟩
    · rw [if_neg e] at h1'
      exact h.pr d k fn' h1' A h2 }
/-- a constant of a class -/
theorem TabOk.addC {c m : Str} {v : D} {mc : Value} {x : V} {u : Value} (h : TabOk P w K mg base cad F T n) (hm : ∀ A, cad c = some A → ClX.CRead K A mc ∧ ClX.CVal K A mc m x u) (hr : ∀ G H, Rep ⟨K, cad⟩ G H x v) : TabOk P w K mg base cad F (T.addC c m v) n := { h with
  cn := fun d k fn' h1 A h2 => by
    have h1' : (if d = c ∧ k = m then some v else T.cn d k) = some fn' := h1
    by_cases e : d = c ∧ k = m
    · rw [if_pos e] at h1'
      cases h1'
      obtain ⟨rfl, rfl⟩ := e
      exact ⟨mc, x, u, (hm A h2).1, (hm A h2).2, hr⟩
    · rw [if_neg e] at h1'
      exact h.cn d k fn' h1' A h2 }
/-- a class that is called -/
theorem TabOk.addN {i k j : Nat} {x c : Str} {fn : Fn} {dv : List D} {z : Bool} {A fi : Addr} {fd : FuncData} {ps : List Str} {dvs : List V} {dls : List Value} (h : TabOk P w K mg base cad F T n) (hi : F[i]? = some x) (hx : mg x = some (.ref A)) (hc : cad c = some A) (M : Mk K A fi) (hj : j + 1 ≤ n)
    (hf : FnOk P w K mg base (L2.CX P w) j fi fd ps (spOf ⟨K, cad⟩ ps.length fn)) (hb : Binds K fd ps dls) (hd : Vals dvs dls) (hr : ∀ G H, Reps ⟨K, cad⟩ G H dvs dv) (hl : ∀ ds S, fn ds S ≠ .bad → ds.length = ps.length) : TabOk P w K mg base cad F (T.addN i k c fn dv z) n := { h with
  nw := fun i' k' c' fn' dv' z' h1 f h2 => by
    have h1' : (if i' = i ∧ k' = k then some (c, fn, dv, z) else T.nw i' k') = some (c', fn', dv', z') := h1
    by_cases e : i' = i ∧ k' = k
    · rw [if_pos e] at h1'
      cases h1'
      obtain ⟨rfl, rfl⟩ := e
      rw [hi] at h2
      cases h2
      exact ⟨A, fi, fd, ps, dvs, dls, hx, hc, M, ⟨j, hj, hf⟩, hb, hd, hr, hl⟩
    · rw [if_neg e] at h1'
      exact h.nw i' k' c' fn' dv' z' h1' f h2 }
/-- .. by its parameters' names -/
theorem TabOk.addNk {i k j : Nat} {ks : List Str} {x c : Str} {fn : Fn} {perm : List Nat} {dv : List D} {z : Bool} {A fi : Addr} {fd : FuncData} {ps : List Str} {dvs : List V} {dls : List Value} (h : TabOk P w K mg base cad F T n) (hi : F[i]? = some x) (hx : mg x = some (.ref A)) (hc : cad c = some A) (M : Mk K A fi) (hj : j + 1 ≤ n)
    (hf : FnOk P w K mg base (L2.CX P w) j fi fd ps (spOf ⟨K, cad⟩ ps.length fn)) (hb : ∀ (s : Shared) (x : Value) (us ws xs : List Value), K.In s.heap → us.length = k → ws.length = ks.length → pick perm (us ++ ws ++ dls) = some xs → xs.length + 1 = ps.length → BindsTo s fd ⟨x :: us, ks.zip ws⟩ (ps.zip (x :: xs)))
    (hd : Vals dvs dls) (hr : ∀ G H, Reps ⟨K, cad⟩ G H dvs dv) (hl : ∀ ds S, fn ds S ≠ .bad → ds.length = ps.length) : TabOk P w K mg base cad F (T.addNk i ks k c fn perm dv z) n := { h with
  nk := fun i' ks' k' c' fn' perm' dv' z' h1 f h2 => by
    have h1' : (if i' = i ∧ ks' = ks ∧ k' = k then some (c, fn, perm, dv, z) else T.nk i' ks' k') = some (c', fn', perm', dv', z') := h1
    by_cases e : i' = i ∧ ks' = ks ∧ k' = k
    · rw [if_pos e] at h1'
      cases h1'
      obtain ⟨rfl, rfl, rfl⟩ := e
      rw [hi] at h2
      cases h2
      exact ⟨A, fi, fd, ps, dvs, dls, hx, hc, M, ⟨j, hj, hf⟩, hb, hd, hr, hl⟩
    · rw [if_neg e] at h1'
      exact h.nk i' ks' k' c' fn' perm' dv' z' h1' f h2 }
theorem Ent.of_fn {x : Str} {ps : List Str} {m : Fn} {a : Addr} {fd : FuncData} (hm : mg x = some (.ref a)) (hk : PySem.W.keepIn K (.ref a) = true) (hf : FnOk P w K mg base (L2.CX P w) n a fd ps (spOf ⟨K, cad⟩ ps.length m)) (hb : Binds K fd ps []) (hl : ∀ ds S, m ds S ≠ .bad → ds.length = ps.length) : Ent P w K mg base cad n x ps m := ⟨⟨a, fd, hm, hk, hf, hb⟩, hl⟩
/-- a def of the text, as an entry -/
theorem Ent.of_def {k : Nat} {x qual : Str} {st : Stmt} {f : Addr} {fd : FuncData} {N ps : List Str} {b : LSs} (Fu : Fun K x qual st f fd) (S : FnScope N ps (defScope st)) (hc : compSs k ⟨F, N, defScope st, fun _ => true⟩ (defBody st) = some b) (tab : TabOk P w K mg base cad F T n)
    (hm : mg x = some (.ref f)) (hb : Binds K fd ps []) : Ent P w K mg base cad (n + 1) x ps (denDef T ps.length N.length b) :=
  .of_fn hm Fu.kp (def_ok Fu S hc tab) hb def_len
/-- nothing is promised -/
theorem Ent.none {x : Str} {ps : List Str} {f : Addr} {fd : FuncData} (hm : mg x = some (.ref f)) (hk : PySem.W.keepIn K (.ref f) = true) (hb : Binds K fd ps []) : Ent P w K mg base cad n x ps (fun _ _ => .bad) :=
  .of_fn hm hk ⟨fun vs H Q E h => h.1, fun A outer s H args us vs Q E hr he hb hv h => by
    obtain ⟨_, ds, G, S, _, _, _, h⟩ := h
    exact h.elim⟩ hb fun _ _ h => (h rfl).elim
end

/-! ### the turns of a comprehension -/
/-- every item gives one item -/
theorem lc_all {vs : List Nat} {f : D → Rho → Mem → Res (Option D)} {I : Rho → Mem → Prop} {R : D → D → Prop} : ∀ (ds : List D) (acc : List D) (ρ : Rho) (S : Mem), I ρ S →
    (∀ d ∈ ds, ∀ ρ S, I ρ S → ∃ y ρ' S', f d (wipeE ρ vs) S = .ok (some y) ρ' S' ∧ I ρ' S' ∧ R d y) → acc.length + ds.length ≤ LINE →
    ∃ (ys : List D) (ρ' : Rho) (S' : Mem), lcLoop vs f ds acc ρ S = .ok (acc ++ ys) ρ' S' ∧ I ρ' S' ∧ ys.length = ds.length ∧ ∀ (i : Nat) (d y : D), ds[i]? = some d → ys[i]? = some y → R d y
  | [], acc, ρ, S, hI, _, _ => ⟨[], ρ, S, by rw [List.append_nil]; rfl, hI, rfl, fun i d y h => by simp at h⟩
  | d :: ds, acc, ρ, S, hI, hf, hl => by
    rw [List.length_cons] at hl
    obtain ⟨y, ρ1, S1, e1, h1, r1⟩ := hf d List.mem_cons_self ρ S hI
    obtain ⟨ys, ρ2, S2, e2, h2, h3, h4⟩ := lc_all ds (acc ++ [y]) ρ1 S1 h1 (fun x hx => hf x (List.mem_cons_of_mem _ hx)) (by rw [List.length_append]; simp; omega)
    refine ⟨y :: ys, ρ2, S2, ?_, h2, by simp [h3], fun i a b ha hb => ?_⟩
    · unfold lcLoop
      simp only [e1, noX_ok, Res.bind_ok]
      rw [if_pos (by omega), e2, List.append_assoc]
      rfl
    · cases i with
      | zero =>
        simp at ha hb
        subst ha hb
        exact r1
      | succ i => exact h4 i a b (by simpa using ha) (by simpa using hb)
/-- .. by a function; nothing else changes -/
theorem lc_map {vs : List Nat} {f : D → Rho → Mem → Res (Option D)} {I : Rho → Prop} {g : D → D} {S : Mem} : ∀ (ds : List D) (acc : List D) (ρ : Rho), I ρ →
    (∀ d ∈ ds, ∀ ρ, I ρ → ∃ ρ', f d (wipeE ρ vs) S = .ok (some (g d)) ρ' S ∧ I ρ') → acc.length + ds.length ≤ LINE →
    ∃ ρ', lcLoop vs f ds acc ρ S = .ok (acc ++ ds.map g) ρ' S ∧ I ρ'
  | [], acc, ρ, hI, _, _ => ⟨ρ, by rw [List.map_nil, List.append_nil]; rfl, hI⟩
  | d :: ds, acc, ρ, hI, hf, hl => by
    rw [List.length_cons] at hl
    obtain ⟨ρ1, e1, h1⟩ := hf d List.mem_cons_self ρ hI
    obtain ⟨ρ2, e2, h2⟩ := lc_map ds (acc ++ [g d]) ρ1 h1 (fun x hx => hf x (List.mem_cons_of_mem _ hx)) (by rw [List.length_append]; simp; omega)
    refine ⟨ρ2, ?_, h2⟩
    unfold lcLoop
    simp only [e1, noX_ok, Res.bind_ok]
    rw [if_pos (by omega), e2, List.append_assoc]
    rfl
/-- two clauses: every item gives items, each of these gives one -/
theorem lc2_map {vs vs1 : List Nat} {p : D → Rho → Mem → Res (Option (List D))} {f : D → Rho → Mem → Res (Option D)} {I : Rho → Prop} {J : D → Rho → Prop} {gs : D → List D} {g : D → D → D} {S : Mem} : ∀ (ds : List D) (acc : List D) (ρ : Rho), I ρ →
    (∀ d ∈ ds, ∀ ρ, I ρ → ∃ ρ', p d (wipeE ρ vs) S = .ok (some (gs d)) ρ' S ∧ J d ρ') → (∀ d ∈ ds, ∀ e ∈ gs d, ∀ ρ, J d ρ → ∃ ρ', f e (wipeE ρ vs1) S = .ok (some (g d e)) ρ' S ∧ J d ρ') → (∀ d ∈ ds, ∀ ρ, J d ρ → I ρ) → acc.length + (ds.flatMap fun d => (gs d).map (g d)).length ≤ LINE →
    ∃ ρ', lc2Loop vs vs1 p f ds acc ρ S = .ok (acc ++ ds.flatMap fun d => (gs d).map (g d)) ρ' S ∧ I ρ'
  | [], acc, ρ, hI, _, _, _, _ => ⟨ρ, by rw [List.flatMap_nil, List.append_nil]; rfl, hI⟩
  | d :: ds, acc, ρ, hI, hp, hf, hJ, hl => by
    rw [List.flatMap_cons, List.length_append, List.length_map] at hl
    obtain ⟨ρ1, e1, h1⟩ := hp d List.mem_cons_self ρ hI
    obtain ⟨ρ2, e2, h2⟩ := lc_map (vs := vs1) (f := f) (S := S) (I := J d) (g := g d) (gs d) acc ρ1 h1 (fun e he ρ hρ => hf d List.mem_cons_self e he ρ hρ) (by omega)
    obtain ⟨ρ3, e3, h3⟩ := lc2_map ds (acc ++ (gs d).map (g d)) ρ2 (hJ d List.mem_cons_self ρ2 h2) (fun x hx => hp x (List.mem_cons_of_mem _ hx)) (fun x hx => hf x (List.mem_cons_of_mem _ hx)) (fun x hx => hJ x (List.mem_cons_of_mem _ hx)) (by rw [List.length_append, List.length_map]; omega)
    refine ⟨ρ3, ?_, h3⟩
    unfold lc2Loop
    simp only [e1, noX_ok, Res.bind_ok, e2, e3]
    rw [List.flatMap_cons, List.append_assoc]
/-! ### draws -/
theorem pull_ex (b : Bag) (os : List Ob) {k : Int} (h0 : 0 < k) (h1 : k < 1073741824) : ∃ r b', pullFn [.loc 0, .int k] ⟨.bag b :: os⟩ = .ok (.fz (.int r)) ⟨.bag b' :: os⟩ ∧ 0 ≤ r ∧ r < k := by
  refine ⟨(b.pull k).1, (b.pull k).2, ?_, Bag.pull_range b k h0⟩
  show (if 0 < k.toNat ∧ k.toNat < 1073741824 then _ else _) = _
  rw [if_pos (by omega)]
  rfl
theorem draws_ex {ns : List Int} (h : ns.length ≤ 1000) : ∃ b, drawsFn [.lst (ns.map .int)] ⟨[]⟩ = .ok (.fz (.loc 0)) ⟨[.bag b]⟩ := by
  have e : ∀ ns : List Int, intsOf (ns.map .int) = some ns := fun ns => by
    induction ns with
    | nil => rfl
    | cons i is ih => simp [intsOf, ih]
  refine ⟨⟨ns.take 63, 0, 0, drawSeed (ns.take 63), 0⟩, ?_⟩
  unfold drawsFn
  simp only [e, h, if_true]
  rfl
/-! ### texts as lists of signs -/
abbrev S8 (l : List Nat) : Str := ⟨l.toArray⟩
theorem str_len (l : List Nat) : (S8 l).length = l.length := by simp [Str.length]
theorem str_app (l m : List Nat) : S8 l ++ S8 m = S8 (l ++ m) := by
  show (⟨l.toArray ++ m.toArray⟩ : Str) = _
  simp
theorem str_of (z : Str) : z = S8 z.cps.toList := rfl
theorem cut_to (l : List Nat) (i : Nat) : cutS (S8 l) none (some (i : Int)) = S8 (l.take i) := by
  unfold cutS
  rw [HT.sIx_none, HT.sIx_nat, str_len]
  simp only [List.drop_zero, Nat.sub_zero]
  congr 1
  have : l.take (min i l.length) = l.take i := List.take_eq_take_iff.mpr (by omega)
  rw [this]
theorem cut_from (l : List Nat) (i : Nat) : cutS (S8 l) (some (i : Int)) none = S8 (l.drop i) := by
  unfold cutS
  rw [HT.sIx_none, HT.sIx_nat, str_len]
  by_cases h : i ≤ l.length
  · rw [Nat.min_eq_left h]
    congr 1
    rw [List.take_of_length_le]
    simp
  · rw [Nat.min_eq_right (by omega), List.drop_of_length_le (Nat.le_refl _), List.drop_of_length_le (by omega), List.take_nil]
theorem join_sgn (l : List Nat) : Txt.join ("" : Str) (l.map sgn) = S8 l := by
  have h0 : ("" : Str) = ⟨#[]⟩ := by decide +kernel
  rw [h0]
  cases l with
  | nil => rfl
  | cons c l =>
    show (⟨(l.map sgn).foldl (fun acc p => acc ++ #[] ++ p.cps) #[c]⟩ : Str) = _
    have : ∀ (l : List Nat) (a : List Nat), (l.map sgn).foldl (fun acc p => acc ++ #[] ++ p.cps) a.toArray = (a ++ l).toArray := by
      intro l
      induction l with
      | nil => intro a; simp
      | cons d l ih =>
        intro a
        rw [List.map_cons, List.foldl_cons]
        have : a.toArray ++ #[] ++ (sgn d).cps = (a ++ [d]).toArray := by simp [sgn]
        rw [this, ih]
        simp
    rw [this l [c]]
    rfl
theorem strs_sgn : ∀ l : List Nat, strsOf (l.map fun c => .str (sgn c)) = some (l.map sgn)
  | [] => rfl
  | c :: l => by simp [strsOf, strs_sgn l]
theorem eqOk_str {l : List Nat} (h : ∀ c ∈ l, c < 1114112) : (D.str (S8 l)).eqOk = true := by
  unfold D.eqOk SeqAt.shaped
  have : PyData.strOk (S8 l) = true := by
    unfold PyData.strOk
    rw [Array.all_eq_true]
    intro i hi
    simp only [decide_eq_true_eq]
    have := h (l[i]'(by simpa using hi)) (List.getElem_mem _)
    simpa using this
  simp [D.plain, D.py, PyData.canLay0, this, PyData.depth]
theorem eqv_refl_str (x : Str) : (D.str x).eqv (.str x) = true := by simp [D.eqv, D.py, PyData.eqv]
theorem atI_nat {α : Type} (xs : List α) (i : Nat) : atI xs (i : Int) = xs[i]? := by
  unfold atI ixN
  rw [if_pos (by omega)]
  by_cases h : i < xs.length
  · rw [if_pos (by omega)]
    simp
  · rw [if_neg (by omega), List.getElem?_eq_none (by omega)]
    rfl
theorem atI_of {α : Type} (xs : List α) {i : Int} (h : 0 ≤ i) : atI xs i = xs[i.toNat]? := by
  obtain ⟨n, rfl⟩ := Int.eq_ofNat_of_zero_le h
  rw [atI_nat]
  rfl
theorem atI_neg {α : Type} (xs : List α) {i : Int} (h : i < 0) (h2 : -(xs.length : Int) ≤ i) : atI xs i = xs[(i + xs.length).toNat]? := by
  unfold atI ixN
  rw [if_neg (by omega), if_pos h2]
  rfl
end Sh


/-! ShStd: the helpers that the laws share: any, like, new names. -/
namespace Sh
open PySem PySem.Spec PyProof.Rows L2
/-! ### _law_any -/
def bAny (p : Nat) : LSs := .cons (.ret (.idx (.var 1) (.call p (.cons (.var 0) (.cons (.bcl .len (.cons (.var 1) .nil)) .nil))))) .nil
abbrev anyF (T : Tab) (p : Nat) : Fn := denDef T 2 2 (bAny p)
theorem any_lst {T : Tab} {p : Nat} (hT : T.fn p = some pullFn) (b : Bag) (os : List Ob) (ds : List D) (h0 : ds ≠ []) (h1 : ds.length < 1073741824) :
    ∃ x b', anyF T p [.loc 0, .lst ds] ⟨.bag b :: os⟩ = .ok (.fz x) ⟨.bag b' :: os⟩ ∧ x ∈ ds := by
  have hl : 0 < ds.length := List.length_pos_iff.mpr h0
  obtain ⟨r, b', e, r0, r1⟩ := pull_ex b os (k := (ds.length : Int)) (by omega) (by omega)
  have hr : r.toNat < ds.length := by omega
  refine ⟨ds[r.toNat]'hr, b', ?_, List.getElem_mem _⟩
  have ha : atI ds r = some (ds[r.toNat]'hr) := by rw [atI_of _ r0, List.getElem?_eq_getElem hr]
  refine (e_def [some (.fz (.loc 0)), some (.fz (.lst ds))] rfl rfl).trans ?_
  simp only [bAny, e_cons, e_nil, ret_eq, n_var, n_non, n_bl, n_int, n_str, n_glob, n_bin, n_neg, n_cmp, q_lt, q_le, q_gt, q_ge, q_is, q_nis, q_in, q_nin, q_eq, q_ne, Option.map_none, ifM_none, n_chn, n_and, n_or, n_not, n_ite, n_tup, n_lst, n_idx, n_slc, n_call, n_callk, n_bcl, b_len, b_int, b_all, b_list, b_tuple, b_str, s_non, s_bl, s_int, s_str, s_lst, s_tup, n_isi, n_rep, n_join, n_lc, denB, denEs, denBs, hT, rdV, rdB, List.getElem?_cons_zero, List.getElem?_cons_succ, Res.bind_ok, ofO_some, RV.d, opBcl, e, FRes.res_ok, Res.map_ok, opIdx, ha, Option.map_some, thenS_ok, seq_rt, out_rt]
theorem any_str {T : Tab} {p : Nat} (hT : T.fn p = some pullFn) (b : Bag) (os : List Ob) (l : List Nat) (h0 : l ≠ []) (h1 : l.length ≤ LINE) :
    ∃ c b', anyF T p [.loc 0, .str (S8 l)] ⟨.bag b :: os⟩ = .ok (.fz (.str (sgn c))) ⟨.bag b' :: os⟩ ∧ c ∈ l := by
  have hl : 0 < l.length := List.length_pos_iff.mpr h0
  have h2 : l.length ≤ 16777216 := h1
  obtain ⟨r, b', e, r0, r1⟩ := pull_ex b os (k := (l.length : Int)) (by omega) (by omega)
  have hr : r.toNat < l.length := by omega
  refine ⟨l[r.toNat]'hr, b', ?_, List.getElem_mem _⟩
  have ha : atI l r = some (l[r.toNat]'hr) := by rw [atI_of _ r0, List.getElem?_eq_getElem hr]
  refine (e_def [some (.fz (.loc 0)), some (.fz (.str (S8 l)))] rfl rfl).trans ?_
  simp only [bAny, e_cons, e_nil, ret_eq, n_var, n_non, n_bl, n_int, n_str, n_glob, n_bin, n_neg, n_cmp, q_lt, q_le, q_gt, q_ge, q_is, q_nis, q_in, q_nin, q_eq, q_ne, Option.map_none, ifM_none, n_chn, n_and, n_or, n_not, n_ite, n_tup, n_lst, n_idx, n_slc, n_call, n_callk, n_bcl, b_len, b_int, b_all, b_list, b_tuple, b_str, s_non, s_bl, s_int, s_str, s_lst, s_tup, n_isi, n_rep, n_join, n_lc, denB, denEs, denBs, hT, rdV, rdB, List.getElem?_cons_zero, List.getElem?_cons_succ, Res.bind_ok, ofO_some, RV.d, opBcl, str_len, h1, if_true, e, FRes.res_ok, Res.map_ok, opIdx, ha, Option.map_some, thenS_ok, seq_rt, out_rt]
/-! ### _law_like -/
def bLike (i : Nat) : LSs := .cons (.iff (.isi (.var 1) ["list", "tuple"]) (.cons (.asg 2 (.and (.cmp .Eq (.isi (.var 0) ["list"]) (.isi (.var 1) ["list"])) (.cmp .Eq (.isi (.var 0) ["tuple"]) (.isi (.var 1) ["tuple"])))) (.cons (.ret (.and (.var 2) (.and (.cmp .Eq (.bcl .len (.cons (.var 0) .nil)) (.bcl .len (.cons (.var 1) .nil))) (.bcl .all (.cons (.lc [3, 4] (.call i (.cons (.var 3) (.cons (.var 4) .nil))) (.tup [3, 4]) (.zip (.var 0) (.var 1)) (.nil)) .nil))))) .nil)) (.nil)) (.cons (.iff (.or (.cmp .Is (.var 0) (.non)) (.or (.cmp .Is (.var 1) (.non)) (.cmp .NotEq (.isi (.var 0) ["bool"]) (.isi (.var 1) ["bool"])))) (.cons (.ret (.and (.cmp .Is (.var 0) (.non)) (.cmp .Is (.var 1) (.non)))) .nil) (.nil)) (.cons (.ret (.and (.cmp .Eq (.isi (.var 0) ["int"]) (.isi (.var 1) ["int"])) (.and (.cmp .Eq (.isi (.var 0) ["str"]) (.isi (.var 1) ["str"])) (.cmp .Eq (.var 0) (.var 1))))) .nil))
/-- k calls deep -/
def likeF (i : Nat) : Nat → Fn
  | 0 => fun _ _ => .bad
  | k + 1 => denDef (Tab.emp.add i (likeF i k)) 2 5 (bLike i)
/-- plain data, k calls deep at most -/
def fits : Nat → D → Prop
  | 0, _ => False
  | k + 1, d => match d with
    | .non => True
    | .bl _ => True
    | .int _ => True
    | .str x => (D.str x).eqOk = true
    | .lst xs => xs.length ≤ LINE ∧ ∀ x ∈ xs, fits k x
    | .tup xs => xs.length ≤ LINE ∧ ∀ x ∈ xs, fits k x
    | _ => False
theorem bl_eq (a : Bool) : opCmp .Eq (.bl a) (.bl a) = some true := by cases a <;> rfl
theorem nbl_eq (a : Bool) : opCmp .NotEq (.bl a) (.bl a) = some false := by cases a <;> rfl
theorem allBl_true : ∀ n : Nat, allBl (List.replicate n (.bl true)) = some true
  | 0 => rfl
  | n + 1 => by rw [List.replicate_succ]; simp [allBl, allBl_true n]
theorem zipD_len : ∀ xs ys : List D, (zipD xs ys).length ≤ xs.length
  | [], _ => by simp [zipD]
  | x :: xs, [] => by simp [zipD]
  | x :: xs, y :: ys => by simp [zipD]; exact zipD_len xs ys
theorem zipD_self : ∀ {xs : List D} {d : D}, d ∈ zipD xs xs → ∃ x ∈ xs, d = .tup [x, x]
  | [], d, h => by cases h
  | x :: xs, d, h => by
    rcases List.mem_cons.mp h with rfl | h
    · exact ⟨x, List.mem_cons_self, rfl⟩
    · obtain ⟨y, h1, h2⟩ := zipD_self h
      exact ⟨y, List.mem_cons_of_mem _ h1, h2⟩
theorem zipD_self_len : ∀ xs : List D, (zipD xs xs).length = xs.length
  | [] => rfl
  | x :: xs => by simp [zipD, zipD_self_len xs]
theorem opLen (xs : List D) : opCmp .Eq (.int xs.length) (.int xs.length) = some true := by
  show (if (D.int xs.length).eqOk && (D.int xs.length).eqOk then some ((D.int xs.length).eqv (.int xs.length)) else none) = _
  have h1 : (D.int xs.length).eqOk = true := by simp [D.eqOk, D.plain, SeqAt.shaped, D.py, PyData.canLay0, PyData.depth]
  have h2 : (D.int xs.length).eqv (.int xs.length) = true := by simp [D.eqv, D.py, PyData.eqv]
  rw [h1, h2]
  rfl
theorem like_ok (i : Nat) (S : Mem) : ∀ (k : Nat) (d : D), fits k d → likeF i k [d, d] S = .ok (.fz (.bl true)) S
  | 0, _, h => h.elim
  | k + 1, d, h => by
    unfold likeF
    refine (e_def [some (.fz d), some (.fz d), none, none, none] rfl rfl).trans ?_
    have seq : ∀ (xs : List D), xs.length ≤ LINE → (∀ x ∈ xs, fits k x) → ∀ (a b : D) (r : RV), ∃ ρ', lcRun [3, 4] (lcBody (Tab.emp.add i (likeF i k)) .nil (.call i (.cons (.var 3) (.cons (.var 4) .nil))) (.tup [3, 4])) [some (.fz a), some (.fz b), some r, none, none] (zipD xs xs) S = .ok (.own (List.replicate xs.length (.bl true))) ρ' S := by
      intro xs hl hx a b r
      obtain ⟨ρ', e, u, v, hI⟩ := lc_map (vs := [3, 4]) (S := S) (I := fun ρ => ∃ u v, ρ = [some (.fz a), some (.fz b), some r, u, v]) (g := fun _ => .bl true) (zipD xs xs) [] [some (.fz a), some (.fz b), some r, none, none] ⟨none, none, rfl⟩ (f := lcBody (Tab.emp.add i (likeF i k)) .nil (.call i (.cons (.var 3) (.cons (.var 4) .nil))) (.tup [3, 4])) (fun d hd ρ hρ => by
          obtain ⟨u, v, rfl⟩ := hρ
          obtain ⟨x, hx1, rfl⟩ := zipD_self hd
          have := like_ok i S k x (hx x hx1)
          refine ⟨[some (.fz a), some (.fz b), some r, some (.fz x), some (.fz x)], ?_, _, _, rfl⟩
          simp only [lcBody, wipeE, Tg.put, setAll, List.set_cons_zero, List.set_cons_succ, ofO_some, Res.bind_ok, denC, if_true, n_call, n_var, denEs, rdV, List.getElem?_cons_zero, List.getElem?_cons_succ, RV.d, add_fn, this, FRes.res_ok]) (by rw [zipD_self_len]; simpa using hl)
      refine ⟨backE [some (.fz a), some (.fz b), some r, none, none] ρ' [3, 4], ?_⟩
      unfold lcRun
      rw [if_neg (by simp [noOwn]), e, List.nil_append, List.map_const', zipD_self_len]
      rfl
    cases d with
    | non =>
      have t1 : isTys .non ["list", "tuple"] = some false := by rfl
      have t5 : opCmp .Is .non .non = some true := by rfl
      simp only [bLike, e_cons, e_nil, iff_eq, ret_eq, n_var, n_non, n_bl, n_int, n_str, n_glob, n_bin, n_neg, n_cmp, q_lt, q_le, q_gt, q_ge, q_is, q_nis, q_in, q_nin, q_eq, q_ne, Option.map_none, ifM_none, n_chn, n_and, n_or, n_not, n_ite, n_tup, n_lst, n_idx, n_slc, n_call, n_callk, n_bcl, b_len, b_int, b_all, b_list, b_tuple, b_str, s_non, s_bl, s_int, s_str, s_lst, s_tup, n_isi, n_rep, n_join, n_lc, denB, rdV, rdB, List.getElem?_cons_zero, List.getElem?_cons_succ, Res.bind_ok, Res.map_ok, ofO_some, RV.d, t1, t5, tstR_bl, thenS_ok, if_false, Bool.false_eq_true, seq_nx, if_true, seq_rt, out_rt]
    | bl b =>
      have h1 : opCmp .Eq (.bl b) (.bl b) = some true := by cases b <;> rfl
      have t1 : isTys (.bl b) ["list", "tuple"] = some false := by rfl
      have t2 : isTys (.bl b) ["bool"] = some true := by rfl
      have t3 : isTys (.bl b) ["int"] = some true := by rfl
      have t4 : isTys (.bl b) ["str"] = some false := by rfl
      have t5 : opCmp .Is (.bl b) .non = some false := by rfl
      simp only [bLike, e_cons, e_nil, iff_eq, ret_eq, n_var, n_non, n_bl, n_int, n_str, n_glob, n_bin, n_neg, n_cmp, q_lt, q_le, q_gt, q_ge, q_is, q_nis, q_in, q_nin, q_eq, q_ne, Option.map_none, ifM_none, n_chn, n_and, n_or, n_not, n_ite, n_tup, n_lst, n_idx, n_slc, n_call, n_callk, n_bcl, b_len, b_int, b_all, b_list, b_tuple, b_str, s_non, s_bl, s_int, s_str, s_lst, s_tup, n_isi, n_rep, n_join, n_lc, denB, rdV, rdB, List.getElem?_cons_zero, List.getElem?_cons_succ, Res.bind_ok, Res.map_ok, ofO_some, RV.d, t1, t2, t3, t4, t5, tstR_bl, thenS_ok, if_false, Bool.false_eq_true, seq_nx, bl_eq, nbl_eq, h1, if_true, seq_rt, out_rt]
    | int z =>
      have h1 : opCmp .Eq (.int z) (.int z) = some true := by
        show (if (D.int z).eqOk && (D.int z).eqOk then some ((D.int z).eqv (.int z)) else none) = _
        have h1 : (D.int z).eqOk = true := by simp [D.eqOk, D.plain, SeqAt.shaped, D.py, PyData.canLay0, PyData.depth]
        have h2 : (D.int z).eqv (.int z) = true := by simp [D.eqv, D.py, PyData.eqv]
        rw [h1, h2]
        rfl
      have t1 : isTys (.int z) ["list", "tuple"] = some false := by rfl
      have t2 : isTys (.int z) ["bool"] = some false := by rfl
      have t3 : isTys (.int z) ["int"] = some true := by rfl
      have t4 : isTys (.int z) ["str"] = some false := by rfl
      have t5 : opCmp .Is (.int z) .non = some false := by rfl
      simp only [bLike, e_cons, e_nil, iff_eq, ret_eq, n_var, n_non, n_bl, n_int, n_str, n_glob, n_bin, n_neg, n_cmp, q_lt, q_le, q_gt, q_ge, q_is, q_nis, q_in, q_nin, q_eq, q_ne, Option.map_none, ifM_none, n_chn, n_and, n_or, n_not, n_ite, n_tup, n_lst, n_idx, n_slc, n_call, n_callk, n_bcl, b_len, b_int, b_all, b_list, b_tuple, b_str, s_non, s_bl, s_int, s_str, s_lst, s_tup, n_isi, n_rep, n_join, n_lc, denB, rdV, rdB, List.getElem?_cons_zero, List.getElem?_cons_succ, Res.bind_ok, Res.map_ok, ofO_some, RV.d, t1, t2, t3, t4, t5, tstR_bl, thenS_ok, if_false, Bool.false_eq_true, seq_nx, bl_eq, nbl_eq, h1, if_true, seq_rt, out_rt]
    | str z =>
      have h1 : opCmp .Eq (.str z) (.str z) = some true := by
        show (if (D.str z).eqOk && (D.str z).eqOk then some ((D.str z).eqv (.str z)) else none) = _
        rw [show (D.str z).eqOk = true from h, eqv_refl_str]
        rfl
      have t1 : isTys (.str z) ["list", "tuple"] = some false := by rfl
      have t2 : isTys (.str z) ["bool"] = some false := by rfl
      have t3 : isTys (.str z) ["int"] = some false := by rfl
      have t4 : isTys (.str z) ["str"] = some true := by rfl
      have t5 : opCmp .Is (.str z) .non = some false := by rfl
      simp only [bLike, e_cons, e_nil, iff_eq, ret_eq, n_var, n_non, n_bl, n_int, n_str, n_glob, n_bin, n_neg, n_cmp, q_lt, q_le, q_gt, q_ge, q_is, q_nis, q_in, q_nin, q_eq, q_ne, Option.map_none, ifM_none, n_chn, n_and, n_or, n_not, n_ite, n_tup, n_lst, n_idx, n_slc, n_call, n_callk, n_bcl, b_len, b_int, b_all, b_list, b_tuple, b_str, s_non, s_bl, s_int, s_str, s_lst, s_tup, n_isi, n_rep, n_join, n_lc, denB, rdV, rdB, List.getElem?_cons_zero, List.getElem?_cons_succ, Res.bind_ok, Res.map_ok, ofO_some, RV.d, t1, t2, t3, t4, t5, tstR_bl, thenS_ok, if_false, Bool.false_eq_true, seq_nx, bl_eq, nbl_eq, h1, if_true, seq_rt, out_rt]
    | lst xs =>
      have t1 : isTys (.lst xs) ["list", "tuple"] = some true := by rfl
      have t2 : isTys (.lst xs) ["list"] = some true := by rfl
      have t3 : isTys (.lst xs) ["tuple"] = some false := by rfl
      obtain ⟨ρ', e⟩ := seq xs h.1 h.2 (.lst xs) (.lst xs) (.fz (.bl true))
      simp only [bLike, e_cons, e_nil, iff_eq, asg_eq, ret_eq, n_var, n_non, n_bl, n_int, n_str, n_glob, n_bin, n_neg, n_cmp, q_lt, q_le, q_gt, q_ge, q_is, q_nis, q_in, q_nin, q_eq, q_ne, Option.map_none, ifM_none, n_chn, n_and, n_or, n_not, n_ite, n_tup, n_lst, n_idx, n_slc, n_call, n_callk, n_bcl, b_len, b_int, b_all, b_list, b_tuple, b_str, s_non, s_bl, s_int, s_str, s_lst, s_tup, n_isi, n_rep, n_join, n_lc, denB, denBs, denI, rdV, rdB, List.getElem?_cons_zero, List.getElem?_cons_succ, List.set_cons_zero, List.set_cons_succ, Res.bind_ok, Res.map_ok, ofO_some, RV.d, t1, t2, t3, tstR_bl, thenS_ok, if_true, seq_nx, bl_eq, opBcl, opLen, opZip, e, Option.map_some, seq_rt, out_rt, allBl_true]
    | tup xs =>
      have t1 : isTys (.tup xs) ["list", "tuple"] = some true := by rfl
      have t2 : isTys (.tup xs) ["list"] = some false := by rfl
      have t3 : isTys (.tup xs) ["tuple"] = some true := by rfl
      obtain ⟨ρ', e⟩ := seq xs h.1 h.2 (.tup xs) (.tup xs) (.fz (.bl true))
      simp only [bLike, e_cons, e_nil, iff_eq, asg_eq, ret_eq, n_var, n_non, n_bl, n_int, n_str, n_glob, n_bin, n_neg, n_cmp, q_lt, q_le, q_gt, q_ge, q_is, q_nis, q_in, q_nin, q_eq, q_ne, Option.map_none, ifM_none, n_chn, n_and, n_or, n_not, n_ite, n_tup, n_lst, n_idx, n_slc, n_call, n_callk, n_bcl, b_len, b_int, b_all, b_list, b_tuple, b_str, s_non, s_bl, s_int, s_str, s_lst, s_tup, n_isi, n_rep, n_join, n_lc, denB, denBs, denI, rdV, rdB, List.getElem?_cons_zero, List.getElem?_cons_succ, List.set_cons_zero, List.set_cons_succ, Res.bind_ok, Res.map_ok, ofO_some, RV.d, t1, t2, t3, tstR_bl, thenS_ok, if_true, seq_nx, bl_eq, opBcl, opLen, opZip, e, Option.map_some, seq_rt, out_rt, allBl_true]
    | obj c fs => exact h.elim
    | loc n => exact h.elim
    | ty n => exact h.elim
    | cls n => exact h.elim
/-! ### _law_new_names -/
def abcL : List Nat := (List.range 26).map (· + 97)
theorem abc_eq : ("abcdefghijklmnopqrstuvwxyz" : Str) = S8 abcL := by decide +kernel
theorem abc_len : abcL.length = 26 := by decide
def Lower (l : List Nat) : Prop := ∀ c ∈ l, c ∈ abcL
theorem lower_of {c : Nat} (h : c ∈ abcL) : 97 ≤ c ∧ c ≤ 122 := by
  unfold abcL at h
  simp only [List.mem_map, List.mem_range] at h
  omega
def nameE : LE := .bin .Add (.bin .Add (.slc (.var 3) .no (.so (.var 4))) (.idx (.var 2) (.bin .Sub (.bin .Add (.var 5) (.var 6)) (.int 26)))) (.slc (.var 3) (.so (.var 4)) .no)
def bNew (p a : Nat) : LSs := .cons (.asg 2 (.str "abcdefghijklmnopqrstuvwxyz")) (.cons (.asg 3 (.join (.str "") (.lc [6] (.call a (.cons (.var 0) (.cons (.var 2) .nil))) (.name 6) (.rng (.call p (.cons (.var 0) (.cons (.int 6) .nil)))) (.nil)))) (.cons (.tas [4, 5] (.tup (.cons (.call p (.cons (.var 0) (.cons (.bin .Add (.bcl .len (.cons (.var 3) .nil)) (.int 1)) .nil))) (.cons (.call p (.cons (.var 0) (.cons (.int 26) .nil))) .nil)))) (.cons (.ret (.lc [6] nameE (.name 6) (.rng (.var 1)) (.nil))) .nil)))
abbrev newF (T : Tab) (p a : Nat) : Fn := denDef T 2 7 (bNew p a)
/-- the k-th of the new names: a letter of its own at one place of a stem -/
def nameAt (stem : List Nat) (at_ first k : Nat) : List Nat := stem.take at_ ++ [97 + (first + k) % 26] ++ stem.drop at_
theorem nameAt_len (stem : List Nat) (a f k : Nat) : (nameAt stem a f k).length = stem.length + 1 := by
  simp [nameAt, List.length_take, List.length_drop]
  omega
theorem nameAt_lower {stem : List Nat} (h : Lower stem) (a f k : Nat) : Lower (nameAt stem a f k) := by
  intro c hc
  simp only [nameAt, List.mem_append, List.mem_singleton] at hc
  rcases hc with (hc | hc) | hc
  · exact h c (List.mem_of_mem_take hc)
  · subst hc
    unfold abcL
    simp only [List.mem_map, List.mem_range]
    exact ⟨(f + k) % 26, Nat.mod_lt _ (by decide), by omega⟩
  · exact h c (List.mem_of_mem_drop hc)
theorem abc_at {f k : Nat} (hf : f < 26) (hk : k < 26) : atI abcL ((f : Int) + (k : Int) - 26) = some (97 + (f + k) % 26) := by
  have get : ∀ j, j < 26 → abcL[j]? = some (97 + j) := fun j hj => by
    unfold abcL
    rw [List.getElem?_map, List.getElem?_range hj]
    simp
    omega
  by_cases h : f + k < 26
  · rw [atI_neg _ (by omega) (by rw [abc_len]; omega), abc_len]
    have : ((f : Int) + (k : Int) - 26 + ((26 : Nat) : Int)).toNat = f + k := by omega
    rw [this, get _ h, Nat.mod_eq_of_lt h]
  · rw [atI_of _ (by omega)]
    have : ((f : Int) + (k : Int) - 26).toNat = (f + k) % 26 := by omega
    rw [this, get _ (Nat.mod_lt _ (by decide))]
abbrev stemL (T : Tab) (a : Nat) : D → Rho → Mem → Res (Option D) := lcBody T .nil (.call a (.cons (.var 0) (.cons (.var 2) .nil))) (.name 6)
abbrev nameL (T : Tab) : D → Rho → Mem → Res (Option D) := lcBody T .nil nameE (.name 6)
theorem rng_len (n : Nat) : (rngD n).length = n := by simp [rngD]
theorem ys_stem : ∀ ys : List D, (∀ y ∈ ys, ∃ c, c ∈ abcL ∧ y = .str (sgn c)) → ∃ stem : List Nat, ys = stem.map (fun c => .str (sgn c)) ∧ Lower stem := by
  intro ys
  induction ys with
  | nil => exact fun _ => ⟨[], rfl, fun c h => by cases h⟩
  | cons y ys ih =>
    intro h
    obtain ⟨c, hc, rfl⟩ := h y List.mem_cons_self
    obtain ⟨st, rfl, hs⟩ := ih fun y hy => h y (List.mem_cons_of_mem _ hy)
    exact ⟨c :: st, rfl, fun d hd => by
      rcases List.mem_cons.mp hd with rfl | hd
      · exact hc
      · exact hs d hd⟩
theorem le_line {n : Nat} (h : n ≤ 1000) : n ≤ LINE := Nat.le_trans h (by decide)
theorem new_stem {T Ta : Tab} {p a : Nat} (hp : Ta.fn p = some pullFn) (ha : T.fn a = some (anyF Ta p)) (b1 : Bag) (os : List Ob) (x0 : Option RV) (hx : noOwn [x0] [0] = true) (n : Nat) (hn : n ≤ 5) :
    ∃ (stem : List Nat) (b2 : Bag), lcRun [6] (stemL T a) [some (.fz (.loc 0)), x0, some (.fz (.str (S8 abcL))), none, none, none, none] (rngD n) ⟨.bag b1 :: os⟩ = .ok (.own (stem.map (fun c => .str (sgn c)))) [some (.fz (.loc 0)), x0, some (.fz (.str (S8 abcL))), none, none, none, none] ⟨.bag b2 :: os⟩ ∧ Lower stem ∧ stem.length = n := by
  obtain ⟨ys, ρ2, S2, e2, ⟨b2, x2, h2, h2'⟩, l2, q2⟩ := lc_all (vs := [6]) (f := stemL T a) (I := fun ρ S => ∃ b2 x, S = ⟨.bag b2 :: os⟩ ∧ ρ = [some (.fz (.loc 0)), x0, some (.fz (.str (S8 abcL))), none, none, none, x]) (R := fun _ y => ∃ c, c ∈ abcL ∧ y = .str (sgn c)) (rngD n) [] [some (.fz (.loc 0)), x0, some (.fz (.str (S8 abcL))), none, none, none, none] ⟨.bag b1 :: os⟩ ⟨b1, none, rfl, rfl⟩ (fun d hd ρ S hI => by
    obtain ⟨b2, x, rfl, rfl⟩ := hI
    obtain ⟨c, b3, e, hc⟩ := any_str hp b2 os abcL (by decide) (le_line (by rw [abc_len]; decide))
    refine ⟨.str (sgn c), [some (.fz (.loc 0)), x0, some (.fz (.str (S8 abcL))), none, none, none, some (.fz d)], ⟨.bag b3 :: os⟩, ?_, ⟨b3, _, rfl, rfl⟩, c, hc, rfl⟩
    simp only [stemL, lcBody, wipeE, Tg.put, List.set_cons_zero, List.set_cons_succ, ofO_some, Res.bind_ok, denC, if_true, n_call, n_var, denEs, rdV, List.getElem?_cons_zero, List.getElem?_cons_succ, RV.d, ha, e, FRes.res_ok]) (le_line (by rw [rng_len]; show 0 + n ≤ 1000; omega))
  rw [List.nil_append] at e2
  have hl : ys.length = (rngD n).length := l2
  obtain ⟨stem, rfl, hst⟩ := ys_stem ys fun y hy => by
    obtain ⟨i, hi, rfl⟩ := List.getElem_of_mem hy
    exact q2 i _ _ (List.getElem?_eq_getElem (by rw [← hl]; exact hi)) (List.getElem?_eq_getElem hi)
  refine ⟨stem, b2, ?_, hst, by rw [List.length_map, rng_len] at hl; exact hl⟩
  unfold lcRun
  rw [if_neg (by simp [noOwn]), e2, h2', h2]
  rfl
theorem new_run {T : Tab} (stem : List Nat) (at_ first : Nat) (S : Mem) (x0 : Option RV) (m : Nat) (hm : m ≤ 26) (hsl : stem.length ≤ 5) (r4b : first < 26) :
    lcRun [6] (nameL T) [some (.fz (.loc 0)), x0, some (.fz (.str (S8 abcL))), some (.fz (.str (S8 stem))), some (.fz (.int at_)), some (.fz (.int first)), none] (rngD m) S = .ok (.own ((List.range m).map fun k => .str (S8 (nameAt stem at_ first k)))) [some (.fz (.loc 0)), x0, some (.fz (.str (S8 abcL))), some (.fz (.str (S8 stem))), some (.fz (.int at_)), some (.fz (.int first)), none] S := by
  obtain ⟨ρ5, e5, x5, h5⟩ := lc_map (vs := [6]) (S := S) (f := nameL T) (I := fun ρ => ∃ x, ρ = [some (.fz (.loc 0)), x0, some (.fz (.str (S8 abcL))), some (.fz (.str (S8 stem))), some (.fz (.int at_)), some (.fz (.int first)), x]) (g := fun d => match d with | .int k => .str (S8 (nameAt stem at_ first k.toNat)) | _ => .non) (rngD m) [] [some (.fz (.loc 0)), x0, some (.fz (.str (S8 abcL))), some (.fz (.str (S8 stem))), some (.fz (.int at_)), some (.fz (.int first)), none] ⟨_, rfl⟩ (fun d hd ρ hI => by
    obtain ⟨x, rfl⟩ := hI
    unfold rngD at hd
    rw [List.mem_map] at hd
    obtain ⟨k, hk, rfl⟩ := hd
    rw [List.mem_range] at hk
    refine ⟨[some (.fz (.loc 0)), x0, some (.fz (.str (S8 abcL))), some (.fz (.str (S8 stem))), some (.fz (.int at_)), some (.fz (.int first)), some (.fz (.int k))], ?_, _, rfl⟩
    have a1 := abc_at r4b (show k < 26 by omega)
    have z1 : stem.length ≤ LINE := le_line (by omega)
    have z2 : abcL.length ≤ LINE := le_line (by rw [abc_len]; decide)
    have z3 : (stem.take at_).length + 1 ≤ LINE := le_line (by rw [List.length_take]; omega)
    have z4 : (stem.take at_ ++ [97 + (first + k) % 26]).length + (stem.drop at_).length ≤ LINE := le_line (by rw [List.length_append, List.length_take, List.length_drop, List.length_singleton]; omega)
    have z5 : sgn (97 + (first + k) % 26) = S8 [97 + (first + k) % 26] := rfl
    simp only [nameL, nameE, lcBody, wipeE, Tg.put, List.set_cons_zero, List.set_cons_succ, ofO_some, Res.bind_ok, denC, if_true, n_bin, n_slc, n_idx, denB, denO, rdB, List.getElem?_cons_zero, List.getElem?_cons_succ, RV.d, n_int, Res.map_ok, opBin, opSlc, opIdx, str_len, z1, z2, cut_to, cut_from, a1, Option.map_some, z5, str_app, z3, z4, List.length_singleton, Int.toNat_natCast, nameAt]) (le_line (by rw [rng_len]; show 0 + m ≤ 1000; omega))
  rw [List.nil_append] at e5
  have e6 : (rngD m).map (fun d => match d with | .int k => D.str (S8 (nameAt stem at_ first k.toNat)) | _ => .non) = (List.range m).map fun k => .str (S8 (nameAt stem at_ first k)) := by
    unfold rngD
    rw [List.map_map]
    apply List.map_congr_left
    intro k hk
    simp
  rw [e6] at e5
  unfold lcRun
  rw [if_neg (by simp [noOwn]), e5, h5]
  rfl
theorem join_len (stem : List Nat) (h : stem.length ≤ 1000) : (List.map (fun x : Str => x.length) (stem.map sgn)).sum + (stem.map sgn).length * ("" : Str).length ≤ LINE := by
  have : ∀ l : List Nat, (List.map (fun x : Str => x.length) (l.map sgn)).sum = l.length := fun l => by
    induction l with
    | nil => rfl
    | cons c l ih => rw [List.map_cons, List.map_cons, List.sum_cons, ih, List.length_cons]; show 1 + _ = _; omega
  rw [this]
  have h0 : ("" : Str).length = 0 := by decide +kernel
  rw [h0, Nat.mul_zero]
  exact le_line h
theorem join_ok (stem : List Nat) (h : stem.length ≤ 1000) : opJoin (.str "") (.lst (stem.map fun c => .str (sgn c))) = some (.fz (.str (S8 stem))) := by
  simp only [opJoin, strs_sgn, join_len stem h, join_sgn, if_true]
theorem slen_ok (l : List Nat) (h : l.length ≤ 1000) : opBcl .len [.str (S8 l)] = some (.fz (.int l.length)) := by
  have := le_line h
  simp only [opBcl, str_len, this, if_true]
theorem rng_ok {i : Int} (h0 : 0 ≤ i) (h1 : i ≤ 1000000) : opRng (.int i) = some (rngD i.toNat) := by
  have h : i.natAbs ≤ LINE := by show _ ≤ 16777216; omega
  simp only [opRng, h, if_true]
theorem new_1 {T : Tab} (x y : Option RV) (S : Mem) : denS T (.asg 2 (.str "abcdefghijklmnopqrstuvwxyz")) [x, y, none, none, none, none, none] S = .nx [x, y, some (.fz (.str (S8 abcL))), none, none, none, none] S := by
  simp only [asg_eq, abc_eq, n_str, n_join, n_lc, denB, denI, denEs, denBs, n_call, n_var, n_int, n_bin, n_tup, n_bcl, b_len, b_int, b_all, b_list, b_tuple, b_str, s_non, s_bl, s_int, s_str, s_lst, s_tup, rdV, rdB, List.getElem?_cons_zero, List.getElem?_cons_succ, Res.bind_ok, Res.map_ok, ofO_some, RV.d, FRes.res_ok, thenS_ok, List.set_cons_zero, List.set_cons_succ]
theorem new_2 {T : Tab} {p a : Nat} (hp : T.fn p = some pullFn) (x : Option RV) (os : List Ob) (b b1 b2 : Bag) (r1 : Int) (stem : List Nat)
  (e1 : pullFn [.loc 0, .int 6] ⟨.bag b :: os⟩ = .ok (.fz (.int r1)) ⟨.bag b1 :: os⟩) (y1 : opRng (.int r1) = some (rngD r1.toNat))
  (run1 : lcRun [6] (stemL T a) [some (.fz (.loc 0)), x, some (.fz (.str (S8 abcL))), none, none, none, none] (rngD r1.toNat) ⟨.bag b1 :: os⟩ = .ok (.own (stem.map (fun c => .str (sgn c)))) [some (.fz (.loc 0)), x, some (.fz (.str (S8 abcL))), none, none, none, none] ⟨.bag b2 :: os⟩)
  (y2 : opJoin (.str "") (.lst (stem.map fun c => .str (sgn c))) = some (.fz (.str (S8 stem)))) :
  denS T (.asg 3 (.join (.str "") (.lc [6] (.call a (.cons (.var 0) (.cons (.var 2) .nil))) (.name 6) (.rng (.call p (.cons (.var 0) (.cons (.int 6) .nil)))) (.nil)))) [some (.fz (.loc 0)), x, some (.fz (.str (S8 abcL))), none, none, none, none] ⟨.bag b :: os⟩ = .nx [some (.fz (.loc 0)), x, some (.fz (.str (S8 abcL))), some (.fz (.str (S8 stem))), none, none, none] ⟨.bag b2 :: os⟩ := by
  simp only [asg_eq, hp, e1, y1, run1, y2, n_str, n_join, n_lc, denB, denI, denEs, denBs, n_call, n_var, n_int, n_bin, n_tup, n_bcl, b_len, b_int, b_all, b_list, b_tuple, b_str, s_non, s_bl, s_int, s_str, s_lst, s_tup, rdV, rdB, List.getElem?_cons_zero, List.getElem?_cons_succ, Res.bind_ok, Res.map_ok, ofO_some, RV.d, FRes.res_ok, thenS_ok, List.set_cons_zero, List.set_cons_succ]
theorem new_3 {T : Tab} {p : Nat} (hp : T.fn p = some pullFn) (x y : Option RV) (os : List Ob) (b b1 b2 : Bag) (r1 r2 : Int) (stem : List Nat)
  (e3 : pullFn [.loc 0, .int (stem.length + 1)] ⟨.bag b :: os⟩ = .ok (.fz (.int r1)) ⟨.bag b1 :: os⟩)
  (e4 : pullFn [.loc 0, .int 26] ⟨.bag b1 :: os⟩ = .ok (.fz (.int r2)) ⟨.bag b2 :: os⟩)
   (z1 : opBcl .len [.str (S8 stem)] = some (.fz (.int stem.length))) (z9 : 2 ≤ LINE) :
  denS T (.tas [4, 5] (.tup (.cons (.call p (.cons (.var 0) (.cons (.bin .Add (.bcl .len (.cons (.var 3) .nil)) (.int 1)) .nil))) (.cons (.call p (.cons (.var 0) (.cons (.int 26) .nil))) .nil)))) [some (.fz (.loc 0)), x, y, some (.fz (.str (S8 stem))), none, none, none] ⟨.bag b :: os⟩ = .nx [some (.fz (.loc 0)), x, y, some (.fz (.str (S8 stem))), some (.fz (.int r1)), some (.fz (.int r2)), none] ⟨.bag b2 :: os⟩ := by
  simp only [tas_eq, hp, e3, e4, z1, opBin, Tg.put, setAll, n_str, n_join, n_lc, denB, denI, denEs, denBs, n_call, n_var, n_int, n_bin, n_tup, n_bcl, b_len, b_int, b_all, b_list, b_tuple, b_str, s_non, s_bl, s_int, s_str, s_lst, s_tup, rdV, rdB, List.getElem?_cons_zero, List.getElem?_cons_succ, Res.bind_ok, Res.map_ok, ofO_some, RV.d, FRes.res_ok, thenS_ok, List.set_cons_zero, List.set_cons_succ, List.length_cons, List.length_nil, z9, Nat.zero_add, Nat.reduceAdd, if_true]

theorem new_4 {T : Tab} {p a : Nat} (hp : T.fn p = some pullFn) (m : Nat) (os : List Ob) (b b1 b2 b3 b4 : Bag) (r1 r3 r4 : Int) (stem : List Nat) (rs : List D)
  (e1 : pullFn [.loc 0, .int 6] ⟨.bag b :: os⟩ = .ok (.fz (.int r1)) ⟨.bag b1 :: os⟩) (y1 : opRng (.int r1) = some (rngD r1.toNat))
  (run1 : lcRun [6] (stemL T a) [some (.fz (.loc 0)), some (.fz (.int m)), some (.fz (.str (S8 abcL))), none, none, none, none] (rngD r1.toNat) ⟨.bag b1 :: os⟩ = .ok (.own (stem.map (fun c => .str (sgn c)))) [some (.fz (.loc 0)), some (.fz (.int m)), some (.fz (.str (S8 abcL))), none, none, none, none] ⟨.bag b2 :: os⟩)
  (y2 : opJoin (.str "") (.lst (stem.map fun c => .str (sgn c))) = some (.fz (.str (S8 stem))))
  (e3 : pullFn [.loc 0, .int (stem.length + 1)] ⟨.bag b2 :: os⟩ = .ok (.fz (.int r3)) ⟨.bag b3 :: os⟩)
  (e4 : pullFn [.loc 0, .int 26] ⟨.bag b3 :: os⟩ = .ok (.fz (.int r4)) ⟨.bag b4 :: os⟩)
  (z1 : opBcl .len [.str (S8 stem)] = some (.fz (.int stem.length))) (z9 : 2 ≤ LINE) (y3' : opRng (.int m) = some (rngD m))
  (run2 : lcRun [6] (nameL T) [some (.fz (.loc 0)), some (.fz (.int m)), some (.fz (.str (S8 abcL))), some (.fz (.str (S8 stem))), some (.fz (.int r3)), some (.fz (.int r4)), none] (rngD m) ⟨.bag b4 :: os⟩ = .ok (.own rs) [some (.fz (.loc 0)), some (.fz (.int m)), some (.fz (.str (S8 abcL))), some (.fz (.str (S8 stem))), some (.fz (.int r3)), some (.fz (.int r4)), none] ⟨.bag b4 :: os⟩) :
  newF T p a [.loc 0, .int m] ⟨.bag b :: os⟩ = .ok (.own rs) ⟨.bag b4 :: os⟩ := by
  show denDef T 2 7 (bNew p a) _ _ = _
  rw [e_def (T := T) (b := bNew p a) (np := 2) (n := 7) (ds := [.loc 0, .int m]) [some (.fz (.loc 0)), some (.fz (.int m)), none, none, none, none, none] rfl rfl]
  unfold bNew
  rw [e_cons, new_1 (some (.fz (.loc 0))) (some (.fz (.int m))), seq_nx, e_cons, new_2 hp _ os b b1 b2 r1 stem e1 y1 run1 y2, seq_nx, e_cons, new_3 hp _ _ os b2 b3 b4 r3 r4 stem e3 e4 z1 z9, seq_nx, e_cons, ret_eq, n_lc]
  simp only [denI, denB, rdB, List.getElem?_cons_zero, List.getElem?_cons_succ, Res.bind_ok, RV.d, y3', ofO_some, run2, thenS_ok, seq_rt, out_rt]
theorem new_ex {T Ta : Tab} {p a : Nat} (hp : T.fn p = some pullFn) (hpa : Ta.fn p = some pullFn) (ha : T.fn a = some (anyF Ta p)) (b : Bag) (os : List Ob) (m : Nat) (hm : m ≤ 26) :
    ∃ (stem : List Nat) (at_ first : Nat) (b' : Bag), newF T p a [.loc 0, .int m] ⟨.bag b :: os⟩ = .ok (.own ((List.range m).map fun k => .str (S8 (nameAt stem at_ first k)))) ⟨.bag b' :: os⟩ ∧ Lower stem ∧ stem.length ≤ 5 ∧ at_ ≤ stem.length ∧ first < 26 := by
  obtain ⟨r1, b1, e1, r1a, r1b⟩ := pull_ex b os (k := 6) (by omega) (by omega)
  obtain ⟨stem, b2, run1, hst, hsl⟩ := new_stem hpa ha b1 os (some (.fz (.int m))) rfl r1.toNat (by omega)
  have hsl : stem.length ≤ 5 := by omega
  obtain ⟨r3, b3, e3, r3a, r3b⟩ := pull_ex b2 os (k := (stem.length : Int) + 1) (by omega) (by omega)
  obtain ⟨r4, b4, e4, r4a, r4b⟩ := pull_ex b3 os (k := 26) (by omega) (by omega)
  obtain ⟨at_, rfl⟩ := Int.eq_ofNat_of_zero_le r3a
  obtain ⟨first, rfl⟩ := Int.eq_ofNat_of_zero_le r4a
  have r3b : at_ ≤ stem.length := by have : (at_ : Int) < stem.length + 1 := r3b; omega
  have r4b : first < 26 := by have : (first : Int) < 26 := r4b; omega
  refine ⟨stem, at_, first, b4, ?_, hst, hsl, r3b, r4b⟩
  have run2 := new_run (T := T) stem at_ first ⟨.bag b4 :: os⟩ (some (.fz (.int m))) m hm hsl r4b
  have y1 : opRng (.int r1) = some (rngD r1.toNat) := rng_ok (by omega) (by omega)
  have y3 : opRng (.int m) = some (rngD m) := rng_ok (by omega) (by omega)
  have y2 := join_ok stem (by omega)
  have z1 := slen_ok stem (by omega)
  have z9 : (2 : Nat) ≤ LINE := le_line (by decide)
  have y3' : opRng (.int m) = some (rngD m) := y3
  exact new_4 hp m os b b1 b2 b3 b4 r1 at_ first stem _ e1 y1 run1 y2 e3 e4 z1 z9 y3' run2
end Sh


/-! ShStd2: one call an item; lists of truths; the shared defs as entries. -/
namespace Sh
open PySem PySem.Spec PyProof.Rows L2
theorem lc_call {T : Tab} {i v : Nat} {m : Fn} {S : Mem} (hT : T.fn i = some m) (ρ : Rho) (hv : v < ρ.length) (hn : noOwn ρ [v] = true) (g : D → D) (ds : List D) (hl : ds.length ≤ LINE) (h : ∀ d ∈ ds, m [d] S = .ok (.fz (g d)) S) :
    lcRun [v] (lcBody T .nil (.call i (.cons (.var v) .nil)) (.name v)) ρ ds S = .ok (.own (ds.map g)) ρ S := by
  obtain ⟨ρ', e, hl', hI⟩ := lc_map (vs := [v]) (S := S) (f := lcBody T .nil (.call i (.cons (.var v) .nil)) (.name v)) (I := fun ρ' => ρ'.length = ρ.length ∧ ∀ j, j ≠ v → ρ'[j]? = ρ[j]?) (g := g) ds [] ρ ⟨rfl, fun _ _ => rfl⟩ (fun d hd ρ1 h1 => by
    obtain ⟨h1, h2⟩ := h1
    have hw : (wipeE ρ1 [v]).length = ρ.length := by show (ρ1.set v none).length = _; rw [List.length_set]; exact h1
    refine ⟨(wipeE ρ1 [v]).set v (some (.fz d)), ?_, by rw [List.length_set]; exact hw, fun j hj => ?_⟩
    · have hg : ((wipeE ρ1 [v]).set v (some (.fz d)))[v]? = some (some (.fz d)) := List.getElem?_set_self (by rw [hw]; exact hv)
      simp only [lcBody, Tg.put, ofO_some, Res.bind_ok, denC, if_true, n_call, hT, denEs, n_var, rdV, hg, RV.d, h d hd, FRes.res_ok]
    · rw [List.getElem?_set_ne (Ne.symm hj)]
      show (ρ1.set v none)[j]? = _
      rw [List.getElem?_set_ne (Ne.symm hj)]
      exact h2 j hj) (by simpa using hl)
  unfold lcRun
  rw [if_neg (by rw [hn]; decide), e]
  simp only [Res.bind_ok, List.nil_append]
  congr 1
  show (backE ρ ρ' []).set v (ρ[v]?.getD none) = ρ
  apply List.ext_getElem?
  intro j
  by_cases hj : j = v
  · subst hj
    rw [List.getElem?_set_self (by show j < ρ'.length; rw [hl']; exact hv), List.getElem?_eq_getElem hv]
    rfl
  · rw [List.getElem?_set_ne (Ne.symm hj)]
    exact hI j hj
theorem like_bls (i : Nat) (S : Mem) (k : Nat) (bs : List Bool) (h : bs.length ≤ 1000) : likeF i (k + 2) [.lst (bs.map .bl), .lst (bs.map .bl)] S = .ok (.fz (.bl true)) S := by
  refine like_ok i S (k + 2) _ ⟨le_line (by rw [List.length_map]; exact h), fun x hx => ?_⟩
  rw [List.mem_map] at hx
  obtain ⟨b, _, rfl⟩ := hx
  exact trivial
theorem allBl_map (p : Nat → Bool) : ∀ l : List Nat, allBl (l.map fun c => .bl (p c)) = some (l.all p)
  | [] => rfl
  | c :: l => by simp [allBl, allBl_map p l]
/-! ### entries -/
section
variable {P : Program} {w : World} {K : PySem.W.Frag} {mg : Str → Option Value} {base : Heap} {cad : Str → Option Addr} {F : List Str} {n : Nat}
/-- _law_like, k calls deep -/
theorem like_ent {k i : Nat} {st : Stmt} {f : Addr} {fd : FuncData} (Fu : Fun K "_law_like" "_law_like" st f fd) (S : FnScope ["_law_a", "_law_b", "_law_same", "_law_c", "_law_d"] ["_law_a", "_law_b"] (defScope st))
    (hc : compSs k ⟨F, ["_law_a", "_law_b", "_law_same", "_law_c", "_law_d"], defScope st, fun _ => true⟩ (defBody st) = some (bLike i)) (bl : ∀ b, b ∈ bltNames → mg b = none) (hi : F[i]? = some "_law_like")
    (hm : mg "_law_like" = some (.ref f)) (hb : Binds K fd ["_law_a", "_law_b"] []) : ∀ j : Nat, Ent P w K mg base cad j "_law_like" ["_law_a", "_law_b"] (likeF i j)
  | 0 => .none hm Fu.kp hb
  | j + 1 => Ent.of_def Fu S hc (TabOk.add (TabOk.emp bl) hi (like_ent Fu S hc bl hi hm hb j)) hm hb
end
end Sh


/-! ShPure2: comprehensions whose turns leave all else; loops by an invariant. -/
namespace Sh
open PySem PySem.Spec PyProof.Rows L2
theorem wipe_len (ρ : Rho) : ∀ vs : List Nat, (wipeE ρ vs).length = ρ.length
  | [] => rfl
  | v :: vs => by show ((wipeE ρ vs).set v none).length = _; rw [List.length_set, wipe_len ρ vs]
theorem wipe_get (ρ : Rho) {j : Nat} : ∀ {vs : List Nat}, j ∉ vs → (wipeE ρ vs)[j]? = ρ[j]?
  | [], _ => rfl
  | v :: vs, h => by
    show ((wipeE ρ vs).set v none)[j]? = _
    rw [List.getElem?_set_ne (fun e => h (by rw [e]; exact List.mem_cons_self)), wipe_get ρ fun e => h (List.mem_cons_of_mem _ e)]
theorem back_len (ρ0 ρ : Rho) : ∀ vs : List Nat, (backE ρ0 ρ vs).length = ρ.length
  | [] => rfl
  | v :: vs => by show ((backE ρ0 ρ vs).set v _).length = _; rw [List.length_set, back_len ρ0 ρ vs]
theorem back_get (ρ0 ρ : Rho) {j : Nat} (hj : j < ρ0.length) (hl : ρ.length = ρ0.length) : ∀ {vs : List Nat}, (j ∉ vs → ρ[j]? = ρ0[j]?) → (backE ρ0 ρ vs)[j]? = ρ0[j]?
  | [], h => h (by simp)
  | v :: vs, h => by
    show ((backE ρ0 ρ vs).set v (ρ0[v]?.getD none))[j]? = _
    by_cases e : v = j
    · subst e
      rw [List.getElem?_set_self (by rw [back_len, hl]; exact hj), List.getElem?_eq_getElem hj]
      rfl
    · rw [List.getElem?_set_ne e]
      exact back_get ρ0 ρ hj hl fun q => h fun z => by
        rcases List.mem_cons.mp z with z | z
        · exact e z.symm
        · exact q z
theorem back_wipe {ρ ρ' : Rho} {vs : List Nat} (h : wipeE ρ' vs = wipeE ρ vs) : backE ρ ρ' vs = ρ := by
  have hl : ρ'.length = ρ.length := by rw [← wipe_len ρ' vs, h, wipe_len]
  apply List.ext_getElem?
  intro j
  by_cases hj : j < ρ.length
  · exact back_get ρ ρ' hj hl fun q => by rw [← wipe_get ρ' q, h, wipe_get ρ q]
  · rw [List.getElem?_eq_none (by rw [back_len]; omega), List.getElem?_eq_none (by omega)]
theorem lcp_run {vs : List Nat} {f : D → Rho → Mem → Res (Option D)} {ρ : Rho} {S : Mem} {g : D → Option D} : ∀ (ds acc : List D) (ρ1 : Rho), wipeE ρ1 vs = wipeE ρ vs →
    (∀ d ∈ ds, ∃ ρ', f d (wipeE ρ vs) S = .ok (g d) ρ' S ∧ wipeE ρ' vs = wipeE ρ vs) → acc.length + ds.length ≤ LINE → ∃ ρ', lcLoop vs f ds acc ρ1 S = .ok (acc ++ ds.filterMap g) ρ' S ∧ wipeE ρ' vs = wipeE ρ vs
  | [], acc, ρ1, h, _, _ => ⟨ρ1, by rw [List.filterMap_nil, List.append_nil]; rfl, h⟩
  | d :: ds, acc, ρ1, h, hf, hl => by
    rw [List.length_cons] at hl
    obtain ⟨ρ2, e, h2⟩ := hf d List.mem_cons_self
    unfold lcLoop
    rw [h, e]
    simp only [noX_ok, Res.bind_ok]
    cases q : g d with
    | none =>
      rw [List.filterMap_cons_none q]
      exact lcp_run ds acc ρ2 h2 (fun x hx => hf x (List.mem_cons_of_mem _ hx)) (by omega)
    | some y =>
      dsimp only
      rw [if_pos (by omega), List.filterMap_cons_some q]
      obtain ⟨ρ3, e3, h3⟩ := lcp_run ds (acc ++ [y]) ρ2 h2 (fun x hx => hf x (List.mem_cons_of_mem _ hx)) (by rw [List.length_append]; simp; omega)
      exact ⟨ρ3, by rw [e3, List.append_assoc]; rfl, h3⟩
/-- a comprehension: each turn gives g d or nothing, and changes its own names alone -/
theorem lc_filt {vs : List Nat} {f : D → Rho → Mem → Res (Option D)} {ρ : Rho} {S : Mem} (g : D → Option D) {ds : List D} (hn : noOwn ρ vs = true) (hl : ds.length ≤ LINE)
    (hf : ∀ d ∈ ds, ∃ ρ', f d (wipeE ρ vs) S = .ok (g d) ρ' S ∧ wipeE ρ' vs = wipeE ρ vs) : lcRun vs f ρ ds S = .ok (.own (ds.filterMap g)) ρ S := by
  obtain ⟨ρ', e, h⟩ := lcp_run (ρ := ρ) ds [] ρ rfl hf (by simpa using hl)
  unfold lcRun
  rw [if_neg (by rw [hn]; decide), e]
  simp only [Res.bind_ok, List.nil_append, back_wipe h]
theorem lc_pure {vs : List Nat} {f : D → Rho → Mem → Res (Option D)} {ρ : Rho} {S : Mem} (g : D → D) {ds : List D} (hn : noOwn ρ vs = true) (hl : ds.length ≤ LINE)
    (hf : ∀ d ∈ ds, ∃ ρ', f d (wipeE ρ vs) S = .ok (some (g d)) ρ' S ∧ wipeE ρ' vs = wipeE ρ vs) : lcRun vs f ρ ds S = .ok (.own (ds.map g)) ρ S := by
  rw [lc_filt (fun d => some (g d)) hn hl hf]
  congr 2
  exact congrFun (List.filterMap_eq_map (f := g)) ds
/-- a loop's turns by an invariant -/
theorem for_ex {tg : Tg} {f : Rho → Mem → SRes} (I : Nat → Rho → Mem → Prop) : ∀ (ds : List D) (k : Nat) (ρ : Rho) (S : Mem), I k ρ S →
    (∀ (i : Nat) (d : D) (ρ : Rho) (S : Mem), ds[i]? = some d → I (k + i) ρ S → ∃ ρt, tg.put d ρ = some ρt ∧ ∃ ρ' S', (f ρt S = .nx ρ' S' ∨ f ρt S = .ct ρ' S') ∧ I (k + i + 1) ρ' S') →
    ∃ ρ' S', forLoop tg f ds ρ S = .nx ρ' S' ∧ I (k + ds.length) ρ' S'
  | [], k, ρ, S, h, _ => ⟨ρ, S, rfl, h⟩
  | d :: ds, k, ρ, S, h, hf => by
    obtain ⟨ρt, e1, ρ1, S1, e2, h1⟩ := hf 0 d ρ S rfl h
    obtain ⟨ρ2, S2, e3, h2⟩ := for_ex (tg := tg) (f := f) I ds (k + 1) ρ1 S1 h1 fun i x ρ S hx hi => by
      have e : k + 1 + i = k + (i + 1) := by omega
      rw [e] at hi ⊢
      exact hf (i + 1) x ρ S (by simpa using hx) hi
    refine ⟨ρ2, S2, ?_, ?_⟩
    · unfold forLoop
      simp only [e1]
      rcases e2 with e2 | e2 <;> simp only [e2, e3]
    · rw [List.length_cons]
      have e : k + (ds.length + 1) = k + 1 + ds.length := by omega
      rw [e]
      exact h2
theorem fits_mono : ∀ (k : Nat) (d : D), fits k d → fits (k + 1) d
  | 0, _, h => h.elim
  | k + 1, d, h => by
    cases d with
    | lst xs => exact ⟨h.1, fun x hx => fits_mono k x (h.2 x hx)⟩
    | tup xs => exact ⟨h.1, fun x hx => fits_mono k x (h.2 x hx)⟩
    | non => trivial
    | bl b => trivial
    | int i => trivial
    | str x => exact h
    | obj c fs => exact h.elim
    | loc n => exact h.elim
    | ty n => exact h.elim
    | cls c => exact h.elim
theorem fits_le {k m : Nat} {d : D} (h : fits k d) (hm : k ≤ m) : fits m d := by
  induction hm with
  | refl => exact h
  | step _ ih => exact fits_mono _ _ ih
end Sh


/-! ShCol: what the columns of a look do, whatever law asks. -/
namespace Sh
open PySem PySem.Spec PyProof.Rows L2
/-! ### plain data can be compared -/
theorem fits_plain : ∀ (k : Nat) (d : D), fits k d → d.plain = true ∧ d.py.canLay0 = true ∧ d.py.depth ≤ k
  | 0, _, h => h.elim
  | k + 1, d, h => by
    have many : ∀ xs : List D, (∀ x ∈ xs, fits k x) → D.plains xs = true ∧ PyData.canLayAll0 (D.pys xs) = true ∧ PyData.depthAll (D.pys xs) ≤ k := by
      intro xs
      induction xs with
      | nil => intro _; exact ⟨rfl, rfl, Nat.zero_le _⟩
      | cons x xs ih =>
        intro hx
        obtain ⟨a1, a2, a3⟩ := fits_plain k x (hx x List.mem_cons_self)
        obtain ⟨b1, b2, b3⟩ := ih fun y hy => hx y (List.mem_cons_of_mem _ hy)
        refine ⟨?_, ?_, ?_⟩
        · show (x.plain && D.plains xs) = true
          rw [a1, b1]; rfl
        · show (PyData.canLay0 x.py && PyData.canLayAll0 (D.pys xs)) = true
          rw [a2, b2]; rfl
        · show max x.py.depth (PyData.depthAll (D.pys xs)) ≤ k
          omega
    cases d with
    | non => exact ⟨rfl, rfl, Nat.zero_le _⟩
    | bl b => exact ⟨rfl, rfl, Nat.zero_le _⟩
    | int i => exact ⟨rfl, rfl, Nat.zero_le _⟩
    | str x =>
      have h : (D.str x).eqOk = true := h
      exact ⟨rfl, SeqAt.canLay_of_shaped (eqOk_2 h), Nat.zero_le _⟩
    | lst xs =>
      obtain ⟨b1, b2, b3⟩ := many xs h.2
      exact ⟨b1, b2, by show PyData.depthAll (D.pys xs) + 1 ≤ k + 1; omega⟩
    | tup xs =>
      obtain ⟨b1, b2, b3⟩ := many xs h.2
      exact ⟨b1, b2, by show PyData.depthAll (D.pys xs) + 1 ≤ k + 1; omega⟩
    | _ => exact h.elim
theorem eqOk_fits {k : Nat} {d : D} (h : fits k d) (hk : k ≤ 64) : d.eqOk = true := by
  obtain ⟨a, b, c⟩ := fits_plain k d h
  unfold D.eqOk SeqAt.shaped
  rw [a, b]
  simp
  omega
theorem int_eq (a b : Int) : opCmp .Eq (.int a) (.int b) = some (decide (a = b)) := by
  show (if (D.int a).eqOk && (D.int b).eqOk then some ((D.int a).eqv (.int b)) else none) = _
  rw [eqOk_fits (k := 1) (d := .int a) trivial (by decide), eqOk_fits (k := 1) (d := .int b) trivial (by decide)]
  show some (PyData.eqv (.int a) (.int b)) = _
  congr 1
theorem int_ne (a b : Int) : opCmp .NotEq (.int a) (.int b) = some (!decide (a = b)) := by
  show (if (D.int a).eqOk && (D.int b).eqOk then some (!(D.int a).eqv (.int b)) else none) = _
  rw [eqOk_fits (k := 1) (d := .int a) trivial (by decide), eqOk_fits (k := 1) (d := .int b) trivial (by decide)]
  show some (!PyData.eqv (.int a) (.int b)) = _
  congr 1
theorem lower_ok {l : List Nat} (h : Lower l) : (D.str (S8 l)).eqOk = true := eqOk_str fun c hc => by
  have := lower_of (h c hc)
  omega
theorem str_eqv (l m : List Nat) : (D.str (S8 l)).eqv (.str (S8 m)) = decide (l = m) := by
  show PyData.eqv (.str (S8 l)) (.str (S8 m)) = _
  unfold PyData.eqv
  by_cases h : l = m
  · simp [h]
  · have : S8 l ≠ S8 m := fun e => h (by
      have := congrArg (fun z : Str => z.cps.toList) e
      simpa using this)
    simp [h, this]
/-! ### the defs -/
def bIsNumber : LSs := .cons (.ret (.and (.isi (.var 0) ["int"]) (.not (.isi (.var 0) ["bool"])))) .nil
def bIsListed : LSs := .cons (.ret (.isi (.var 0) ["list", "tuple"])) .nil
def bIsName (g : Nat) : LSs := .cons (.ret (.and (.isi (.var 0) ["str"]) (.and (.chn .LtE .LtE (.int 1) (.bcl .len (.cons (.var 0) .nil)) (.int 6)) (.bcl .all (.cons (.lc [1] (.cmp .In (.var 1) (.glob g)) (.name 1) (.seq (.var 0)) (.nil)) .nil))))) .nil
def bIsColumn (nm nu : Nat) : LSs := .cons (.iff (.or (.not (.isi (.var 0) ["tuple"])) (.cmp .NotEq (.bcl .len (.cons (.var 0) .nil)) (.int 2))) (.cons (.ret (.bl false)) .nil) (.nil)) (.cons (.ret (.and (.call nm (.cons (.idx (.var 0) (.int 0)) .nil)) (.and (.call nu (.cons (.idx (.var 0) (.int 1)) .nil)) (.chn .LtE .LtE (.int 2) (.idx (.var 0) (.int 1)) (.int 4))))) .nil)
def bTurn (co : Nat) : LSs := .cons (.iff (.or (.not (.call co (.cons (.var 5) .nil))) (.cmp .In (.idx (.var 5) (.int 0)) (.lc [6, 7] (.var 6) (.tup [6, 7]) (.seq (.var 2)) (.nil)))) (.cons (.stop) .nil) (.nil)) (.cons (.apd 2 (.var 5)) (.cons (.asg 3 (.bin .Mult (.var 3) (.idx (.var 5) (.int 1)))) .nil))
def bColInit (li mo co wi : Nat) : LSs := .cons (.iff (.or (.not (.call li (.cons (.var 1) .nil))) (.cmp .Gt (.bcl .len (.cons (.var 1) .nil)) (.glob mo))) (.cons (.stop) .nil) (.nil)) (.cons (.par 2 3 (.lst (.nil)) (.int 1)) (.cons (.forr (.tup [4, 5]) (.enm (.var 1)) (bTurn co)) (.cons (.iff (.cmp .Gt (.var 3) (.glob wi)) (.cons (.stop) .nil) (.nil)) (.cons (.sfm 0 "pair_rows" 2) (.cons (.sfd 0 "wide" (.var 3)) .nil)))))
abbrev isNumF (T : Tab) : Fn := denDef T 1 1 bIsNumber
abbrev isListF (T : Tab) : Fn := denDef T 1 1 bIsListed
abbrev isNameF (T : Tab) (g : Nat) : Fn := denDef T 1 2 (bIsName g)
abbrev isColF (T : Tab) (nm nu : Nat) : Fn := denDef T 1 1 (bIsColumn nm nu)
abbrev initF (T : Tab) (li mo co wi : Nat) : Fn := denDef T 2 8 (bColInit li mo co wi)
section
variable {T : Tab}
theorem isnum_int (i : Int) (S : Mem) : isNumF T [.int i] S = .ok (.fz (.bl true)) S := by
  refine (e_def (T := T) (b := bIsNumber) (np := 1) (n := 1) (ds := [.int i]) [some (.fz (.int i))] rfl rfl).trans ?_
  have h1 : isTys (.int i) ["int"] = some true := rfl
  have h2 : isTys (.int i) ["bool"] = some false := rfl
  simp only [bIsNumber, e_cons, e_nil, asg_eq, ret_eq, iff_eq, tas_eq, exp_eq, apd_eq, apx_eq, sst_eq, ins_eq, par_eq, n_var, n_non, n_bl, n_int, n_str, n_glob, n_bin, n_neg, n_cmp, q_lt, q_le, q_gt, q_ge, q_is, q_nis, q_in, q_nin, q_eq, q_ne, Option.map_none, ifM_none, n_chn, n_and, n_or, n_not, n_ite, n_tup, n_lst, n_idx, n_slc, n_call, n_lend, n_lens, n_callk, n_mth, n_mthk, n_fld, n_ixo, n_isc, n_rev, n_fmt, n_fst, n_lc, n_lc2, n_bcl, b_len, b_int, b_all, b_list, b_tuple, b_str, b_min, s_non, s_bl, s_int, s_str, s_lst, s_tup, p_obj, n_isi, n_rep, n_join, denB, denEs, denBs, denO, denI, denF, rdV, rdB, List.getElem?_cons_zero, List.getElem?_cons_succ, List.set_cons_zero, List.set_cons_succ, Res.bind_ok, Res.map_ok, RV.d, ofO_some, FRes.res_ok, thenS_ok, seq_nx, seq_rt, out_rt, out_nx, tstR_bl, if_true, if_false, Bool.false_eq_true, Option.map_some, List.length_cons, List.length_nil, Nat.zero_add, Nat.reduceAdd, noX_ok, h1, h2, Bool.not_false]
theorem islist_lst (ds : List D) (S : Mem) : isListF T [.lst ds] S = .ok (.fz (.bl true)) S := by
  refine (e_def (T := T) (b := bIsListed) (np := 1) (n := 1) (ds := [.lst ds]) [some (.fz (.lst ds))] rfl rfl).trans ?_
  have h1 : isTys (.lst ds) ["list", "tuple"] = some true := rfl
  simp only [bIsListed, e_cons, e_nil, asg_eq, ret_eq, iff_eq, tas_eq, exp_eq, apd_eq, apx_eq, sst_eq, ins_eq, par_eq, n_var, n_non, n_bl, n_int, n_str, n_glob, n_bin, n_neg, n_cmp, q_lt, q_le, q_gt, q_ge, q_is, q_nis, q_in, q_nin, q_eq, q_ne, Option.map_none, ifM_none, n_chn, n_and, n_or, n_not, n_ite, n_tup, n_lst, n_idx, n_slc, n_call, n_lend, n_lens, n_callk, n_mth, n_mthk, n_fld, n_ixo, n_isc, n_rev, n_fmt, n_fst, n_lc, n_lc2, n_bcl, b_len, b_int, b_all, b_list, b_tuple, b_str, b_min, s_non, s_bl, s_int, s_str, s_lst, s_tup, p_obj, n_isi, n_rep, n_join, denB, denEs, denBs, denO, denI, denF, rdV, rdB, List.getElem?_cons_zero, List.getElem?_cons_succ, List.set_cons_zero, List.set_cons_succ, Res.bind_ok, Res.map_ok, RV.d, ofO_some, FRes.res_ok, thenS_ok, seq_nx, seq_rt, out_rt, out_nx, tstR_bl, if_true, if_false, Bool.false_eq_true, Option.map_some, List.length_cons, List.length_nil, Nat.zero_add, Nat.reduceAdd, noX_ok, h1]
theorem islist_tup (ds : List D) (S : Mem) : isListF T [.tup ds] S = .ok (.fz (.bl true)) S := by
  refine (e_def (T := T) (b := bIsListed) (np := 1) (n := 1) (ds := [.tup ds]) [some (.fz (.tup ds))] rfl rfl).trans ?_
  have h1 : isTys (.tup ds) ["list", "tuple"] = some true := rfl
  simp only [bIsListed, e_cons, e_nil, asg_eq, ret_eq, iff_eq, tas_eq, exp_eq, apd_eq, apx_eq, sst_eq, ins_eq, par_eq, n_var, n_non, n_bl, n_int, n_str, n_glob, n_bin, n_neg, n_cmp, q_lt, q_le, q_gt, q_ge, q_is, q_nis, q_in, q_nin, q_eq, q_ne, Option.map_none, ifM_none, n_chn, n_and, n_or, n_not, n_ite, n_tup, n_lst, n_idx, n_slc, n_call, n_lend, n_lens, n_callk, n_mth, n_mthk, n_fld, n_ixo, n_isc, n_rev, n_fmt, n_fst, n_lc, n_lc2, n_bcl, b_len, b_int, b_all, b_list, b_tuple, b_str, b_min, s_non, s_bl, s_int, s_str, s_lst, s_tup, p_obj, n_isi, n_rep, n_join, denB, denEs, denBs, denO, denI, denF, rdV, rdB, List.getElem?_cons_zero, List.getElem?_cons_succ, List.set_cons_zero, List.set_cons_succ, Res.bind_ok, Res.map_ok, RV.d, ofO_some, FRes.res_ok, thenS_ok, seq_nx, seq_rt, out_rt, out_nx, tstR_bl, if_true, if_false, Bool.false_eq_true, Option.map_some, List.length_cons, List.length_nil, Nat.zero_add, Nat.reduceAdd, noX_ok, h1]
def nameV (l : List Nat) : Bool := decide (1 ≤ l.length) && (decide (l.length ≤ 6) && l.all fun c => decide (c ∈ abcL))
theorem name_items (l : List Nat) : itemsOf (.str (S8 l)) = some (l.map fun c => .str (sgn c)) := rfl
def inAbc (d : D) : D := match d with
  | .str x => .bl (decide (x.cps.toList.headD 0 ∈ abcL))
  | _ => .non
theorem in_lc {g : Nat} (hg : T.gl g = some (.str (S8 abcL))) (l : List Nat) (hl : l.length ≤ 1000) (S : Mem) : lcRun [1] (lcBody T .nil (.cmp .In (.var 1) (.glob g)) (.name 1)) [some (.fz (.str (S8 l))), none] (l.map fun c => .str (sgn c)) S = .ok (.own (l.map fun c => .bl (decide (c ∈ abcL)))) [some (.fz (.str (S8 l))), none] S := by
  obtain ⟨ρ', e, x, h⟩ := lc_map (vs := [1]) (S := S) (f := lcBody T .nil (.cmp .In (.var 1) (.glob g)) (.name 1)) (I := fun ρ => ∃ x, ρ = [some (.fz (.str (S8 l))), x]) (g := inAbc) (l.map fun c => .str (sgn c)) [] [some (.fz (.str (S8 l))), none] ⟨none, rfl⟩ (fun d hd ρ hI => by
    obtain ⟨x, rfl⟩ := hI
    rw [List.mem_map] at hd
    obtain ⟨c, hc, rfl⟩ := hd
    refine ⟨[some (.fz (.str (S8 l))), some (.fz (.str (sgn c)))], ?_, _, rfl⟩
    have hi : opCmp .In (.str (sgn c)) (.str (S8 abcL)) = some (decide (c ∈ abcL)) := rfl
    simp only [lcBody, wipeE, Tg.put, denC, e_cons, e_nil, asg_eq, ret_eq, iff_eq, tas_eq, exp_eq, apd_eq, apx_eq, sst_eq, ins_eq, par_eq, n_var, n_non, n_bl, n_int, n_str, n_glob, n_bin, n_neg, n_cmp, q_lt, q_le, q_gt, q_ge, q_is, q_nis, q_in, q_nin, q_eq, q_ne, Option.map_none, ifM_none, n_chn, n_and, n_or, n_not, n_ite, n_tup, n_lst, n_idx, n_slc, n_call, n_lend, n_lens, n_callk, n_mth, n_mthk, n_fld, n_ixo, n_isc, n_rev, n_fmt, n_fst, n_lc, n_lc2, n_bcl, b_len, b_int, b_all, b_list, b_tuple, b_str, b_min, s_non, s_bl, s_int, s_str, s_lst, s_tup, p_obj, n_isi, n_rep, n_join, denB, denEs, denBs, denO, denI, denF, rdV, rdB, List.getElem?_cons_zero, List.getElem?_cons_succ, List.set_cons_zero, List.set_cons_succ, Res.bind_ok, Res.map_ok, RV.d, ofO_some, FRes.res_ok, thenS_ok, seq_nx, seq_rt, out_rt, out_nx, tstR_bl, if_true, if_false, Bool.false_eq_true, Option.map_some, List.length_cons, List.length_nil, Nat.zero_add, Nat.reduceAdd, noX_ok, hg, hi]
    rfl) (le_line (by rw [List.length_map]; show 0 + l.length ≤ 1000; omega))
  unfold lcRun
  rw [if_neg (by simp [noOwn]), e, h]
  rw [List.nil_append, List.map_map]
  rfl
theorem isname_str {g : Nat} (hg : T.gl g = some (.str (S8 abcL))) (l : List Nat) (hl : l.length ≤ 1000) (S : Mem) : isNameF T g [.str (S8 l)] S = .ok (.fz (.bl (nameV l))) S := by
  refine (e_def (T := T) (b := bIsName g) (np := 1) (n := 2) (ds := [.str (S8 l)]) [some (.fz (.str (S8 l))), none] rfl rfl).trans ?_
  have h1 : isTys (.str (S8 l)) ["str"] = some true := rfl
  have h2 := slen_ok l hl
  have h3 := in_lc hg l hl S
  have h4 : opBcl .all [.lst (l.map fun c => .bl (decide (c ∈ abcL)))] = some (.fz (.bl (l.all fun c => decide (c ∈ abcL)))) := by
    show (allBl _).map _ = _
    rw [allBl_map]
    rfl
  have c1 : opCmp .LtE (.int 1) (.int l.length) = some (decide (1 ≤ l.length)) := by show some (decide _) = some (decide _); congr 1; simp only [decide_eq_decide]; omega
  have c2 : opCmp .LtE (.int l.length) (.int 6) = some (decide (l.length ≤ 6)) := by show some (decide _) = some (decide _); congr 1; simp only [decide_eq_decide]; omega
  unfold nameV
  by_cases a1 : 1 ≤ l.length
  · by_cases a2 : l.length ≤ 6
    · simp only [bIsName, e_cons, e_nil, asg_eq, ret_eq, iff_eq, tas_eq, exp_eq, apd_eq, apx_eq, sst_eq, ins_eq, par_eq, n_var, n_non, n_bl, n_int, n_str, n_glob, n_bin, n_neg, n_cmp, q_lt, q_le, q_gt, q_ge, q_is, q_nis, q_in, q_nin, q_eq, q_ne, Option.map_none, ifM_none, n_chn, n_and, n_or, n_not, n_ite, n_tup, n_lst, n_idx, n_slc, n_call, n_lend, n_lens, n_callk, n_mth, n_mthk, n_fld, n_ixo, n_isc, n_rev, n_fmt, n_fst, n_lc, n_lc2, n_bcl, b_len, b_int, b_all, b_list, b_tuple, b_str, b_min, s_non, s_bl, s_int, s_str, s_lst, s_tup, p_obj, n_isi, n_rep, n_join, denB, denEs, denBs, denO, denI, denF, rdV, rdB, List.getElem?_cons_zero, List.getElem?_cons_succ, List.set_cons_zero, List.set_cons_succ, Res.bind_ok, Res.map_ok, RV.d, ofO_some, FRes.res_ok, thenS_ok, seq_nx, seq_rt, out_rt, out_nx, tstR_bl, if_true, if_false, Bool.false_eq_true, Option.map_some, List.length_cons, List.length_nil, Nat.zero_add, Nat.reduceAdd, noX_ok, h1, h2, c1, c2, a1, a2, decide_true, name_items, h3, h4, Bool.true_and]
    · simp only [bIsName, e_cons, e_nil, asg_eq, ret_eq, iff_eq, tas_eq, exp_eq, apd_eq, apx_eq, sst_eq, ins_eq, par_eq, n_var, n_non, n_bl, n_int, n_str, n_glob, n_bin, n_neg, n_cmp, q_lt, q_le, q_gt, q_ge, q_is, q_nis, q_in, q_nin, q_eq, q_ne, Option.map_none, ifM_none, n_chn, n_and, n_or, n_not, n_ite, n_tup, n_lst, n_idx, n_slc, n_call, n_lend, n_lens, n_callk, n_mth, n_mthk, n_fld, n_ixo, n_isc, n_rev, n_fmt, n_fst, n_lc, n_lc2, n_bcl, b_len, b_int, b_all, b_list, b_tuple, b_str, b_min, s_non, s_bl, s_int, s_str, s_lst, s_tup, p_obj, n_isi, n_rep, n_join, denB, denEs, denBs, denO, denI, denF, rdV, rdB, List.getElem?_cons_zero, List.getElem?_cons_succ, List.set_cons_zero, List.set_cons_succ, Res.bind_ok, Res.map_ok, RV.d, ofO_some, FRes.res_ok, thenS_ok, seq_nx, seq_rt, out_rt, out_nx, tstR_bl, if_true, if_false, Bool.false_eq_true, Option.map_some, List.length_cons, List.length_nil, Nat.zero_add, Nat.reduceAdd, noX_ok, h1, h2, c1, c2, a1, a2, decide_true, decide_false, Bool.true_and, Bool.false_and]
  · simp only [bIsName, e_cons, e_nil, asg_eq, ret_eq, iff_eq, tas_eq, exp_eq, apd_eq, apx_eq, sst_eq, ins_eq, par_eq, n_var, n_non, n_bl, n_int, n_str, n_glob, n_bin, n_neg, n_cmp, q_lt, q_le, q_gt, q_ge, q_is, q_nis, q_in, q_nin, q_eq, q_ne, Option.map_none, ifM_none, n_chn, n_and, n_or, n_not, n_ite, n_tup, n_lst, n_idx, n_slc, n_call, n_lend, n_lens, n_callk, n_mth, n_mthk, n_fld, n_ixo, n_isc, n_rev, n_fmt, n_fst, n_lc, n_lc2, n_bcl, b_len, b_int, b_all, b_list, b_tuple, b_str, b_min, s_non, s_bl, s_int, s_str, s_lst, s_tup, p_obj, n_isi, n_rep, n_join, denB, denEs, denBs, denO, denI, denF, rdV, rdB, List.getElem?_cons_zero, List.getElem?_cons_succ, List.set_cons_zero, List.set_cons_succ, Res.bind_ok, Res.map_ok, RV.d, ofO_some, FRes.res_ok, thenS_ok, seq_nx, seq_rt, out_rt, out_nx, tstR_bl, if_true, if_false, Bool.false_eq_true, Option.map_some, List.length_cons, List.length_nil, Nat.zero_add, Nat.reduceAdd, noX_ok, h1, h2, c1, c2, a1, decide_true, decide_false, Bool.true_and, Bool.false_and]
theorem nameV_lower {l : List Nat} (h : Lower l) (h1 : 1 ≤ l.length) (h2 : l.length ≤ 6) : nameV l = true := by
  unfold nameV
  simp only [h1, h2, decide_true, Bool.true_and, List.all_eq_true, decide_eq_true_eq]
  exact h
/-- a column: a name and a size -/
abbrev Col := List Nat × Nat
def Col.Ok (c : Col) : Prop := Lower c.1 ∧ 1 ≤ c.1.length ∧ c.1.length ≤ 6 ∧ 2 ≤ c.2 ∧ c.2 ≤ 4
def colD (c : Col) : D := .tup [.str (S8 c.1), .int (c.2 : Nat)]
theorem tat0 (x : D) (xs : List D) : opIdx (.tup (x :: xs)) (.int 0) = some (.fz x) := by
  show (atI (x :: xs) ((0 : Nat) : Int)).map _ = _
  rw [atI_nat]
  rfl
theorem tat1 (x y : D) (xs : List D) : opIdx (.tup (x :: y :: xs)) (.int 1) = some (.fz y) := by
  show (atI (x :: y :: xs) ((1 : Nat) : Int)).map _ = _
  rw [atI_nat]
  rfl
theorem lat0 (x : D) (xs : List D) : opIdx (.lst (x :: xs)) (.int 0) = some (.fz x) := by
  show (atI (x :: xs) ((0 : Nat) : Int)).map _ = _
  rw [atI_nat]
  rfl
theorem lat1 (x y : D) (xs : List D) : opIdx (.lst (x :: y :: xs)) (.int 1) = some (.fz y) := by
  show (atI (x :: y :: xs) ((1 : Nat) : Int)).map _ = _
  rw [atI_nat]
  rfl
theorem iscol_ok {nm nu g : Nat} {Tn : Tab} (h1 : T.fn nm = some (isNameF Tn g)) (hg : Tn.gl g = some (.str (S8 abcL))) {Tu : Tab} (h2 : T.fn nu = some (isNumF Tu)) (c : Col) (hc : c.Ok) (S : Mem) : isColF T nm nu [colD c] S = .ok (.fz (.bl true)) S := by
  obtain ⟨l, n⟩ := c
  obtain ⟨a1, a2, a3, a4, a5⟩ := hc
  dsimp only at a1 a2 a3 a4 a5
  refine (e_def (T := T) (b := bIsColumn nm nu) (np := 1) (n := 1) (ds := [colD (l, n)]) [some (.fz (colD (l, n)))] rfl rfl).trans ?_
  have k1 : isTys (.tup [.str (S8 l), .int (n : Nat)]) ["tuple"] = some true := rfl
  have k2 : opBcl .len [.tup [.str (S8 l), .int (n : Nat)]] = some (.fz (.int 2)) := rfl
  have k3 : opCmp .NotEq (.int 2) (.int 2) = some false := by rw [int_ne]; rfl
  have k4 := isname_str hg l (by omega) S
  rw [nameV_lower a1 a2 a3] at k4
  have k5 := isnum_int (T := Tu) (n : Int) S
  have k6 : opCmp .LtE (.int 2) (.int (n : Int)) = some true := by show some (decide _) = _; rw [decide_eq_true]; omega
  have k7 : opCmp .LtE (.int (n : Int)) (.int 4) = some true := by show some (decide _) = _; rw [decide_eq_true]; omega
  simp only [bIsColumn, colD, e_cons, e_nil, asg_eq, ret_eq, iff_eq, tas_eq, exp_eq, apd_eq, apx_eq, sst_eq, ins_eq, par_eq, n_var, n_non, n_bl, n_int, n_str, n_glob, n_bin, n_neg, n_cmp, q_lt, q_le, q_gt, q_ge, q_is, q_nis, q_in, q_nin, q_eq, q_ne, Option.map_none, ifM_none, n_chn, n_and, n_or, n_not, n_ite, n_tup, n_lst, n_idx, n_slc, n_call, n_lend, n_lens, n_callk, n_mth, n_mthk, n_fld, n_ixo, n_isc, n_rev, n_fmt, n_fst, n_lc, n_lc2, n_bcl, b_len, b_int, b_all, b_list, b_tuple, b_str, b_min, s_non, s_bl, s_int, s_str, s_lst, s_tup, p_obj, n_isi, n_rep, n_join, denB, denEs, denBs, denO, denI, denF, rdV, rdB, List.getElem?_cons_zero, List.getElem?_cons_succ, List.set_cons_zero, List.set_cons_succ, Res.bind_ok, Res.map_ok, RV.d, ofO_some, FRes.res_ok, thenS_ok, seq_nx, seq_rt, out_rt, out_nx, tstR_bl, if_true, if_false, Bool.false_eq_true, Option.map_some, List.length_cons, List.length_nil, Nat.zero_add, Nat.reduceAdd, noX_ok, k1, k2, k3, h1, h2, tat0, tat1, k4, k5, k6, k7, Bool.not_true]
/-! ### Columns(rows) -/
def prodC : List Col → Nat
  | [] => 1
  | c :: cs => c.2 * prodC cs
def nmD (c : Col) : D := .str (S8 c.1)
theorem names_lc (cs : List Col) (hl : cs.length ≤ 1000) (S : Mem) (r0 r1 r3 r4 r5 : Option RV) (n0 : noOwn [r0, r1] [] = true) :
    lcRun [6, 7] (lcBody T .nil (.var 6) (.tup [6, 7])) [r0, r1, some (.own (cs.map colD)), r3, r4, r5, none, none] (cs.map colD) S = .ok (.own (cs.map nmD)) [r0, r1, some (.own (cs.map colD)), r3, r4, r5, none, none] S := by
  obtain ⟨ρ', e, x, y, h⟩ := lc_map (vs := [6, 7]) (S := S) (f := lcBody T .nil (.var 6) (.tup [6, 7])) (I := fun ρ => ∃ x y, ρ = [r0, r1, some (.own (cs.map colD)), r3, r4, r5, x, y]) (g := fun d => match d with | .tup (x :: _) => x | _ => .non) (cs.map colD) [] [r0, r1, some (.own (cs.map colD)), r3, r4, r5, none, none] ⟨none, none, rfl⟩ (fun d hd ρ hI => by
    obtain ⟨x, y, rfl⟩ := hI
    rw [List.mem_map] at hd
    obtain ⟨c, hc, rfl⟩ := hd
    refine ⟨[r0, r1, some (.own (cs.map colD)), r3, r4, r5, some (.fz (.str (S8 c.1))), some (.fz (.int (c.2 : Nat)))], ?_, _, _, rfl⟩
    simp only [lcBody, colD, wipeE, Tg.put, setAll, denC, e_cons, e_nil, asg_eq, ret_eq, iff_eq, tas_eq, exp_eq, apd_eq, apx_eq, sst_eq, ins_eq, par_eq, n_var, n_non, n_bl, n_int, n_str, n_glob, n_bin, n_neg, n_cmp, q_lt, q_le, q_gt, q_ge, q_is, q_nis, q_in, q_nin, q_eq, q_ne, Option.map_none, ifM_none, n_chn, n_and, n_or, n_not, n_ite, n_tup, n_lst, n_idx, n_slc, n_call, n_lend, n_lens, n_callk, n_mth, n_mthk, n_fld, n_ixo, n_isc, n_rev, n_fmt, n_fst, n_lc, n_lc2, n_bcl, b_len, b_int, b_all, b_list, b_tuple, b_str, b_min, s_non, s_bl, s_int, s_str, s_lst, s_tup, p_obj, n_isi, n_rep, n_join, denB, denEs, denBs, denO, denI, denF, rdV, rdB, List.getElem?_cons_zero, List.getElem?_cons_succ, List.set_cons_zero, List.set_cons_succ, Res.bind_ok, Res.map_ok, RV.d, ofO_some, FRes.res_ok, thenS_ok, seq_nx, seq_rt, out_rt, out_nx, tstR_bl, if_true, if_false, Bool.false_eq_true, Option.map_some, List.length_cons, List.length_nil, Nat.zero_add, Nat.reduceAdd, noX_ok]) (le_line (by rw [List.length_map]; show 0 + cs.length ≤ 1000; omega))
  unfold lcRun
  rw [if_neg (by simp [noOwn]), e, h]
  rw [List.nil_append, List.map_map]
  rfl
theorem fits_names {cs : List Col} (h : ∀ c ∈ cs, Lower c.1) (hl : cs.length ≤ 1000) : fits 2 (.lst (cs.map nmD)) :=
  ⟨le_line (by rw [List.length_map]; exact hl), fun x hx => by
    rw [List.mem_map] at hx
    obtain ⟨c, hc, rfl⟩ := hx
    exact lower_ok (h c hc)⟩
theorem any_names (l : List Nat) : ∀ cs : List Col, anyEqv (.str (S8 l)) (cs.map nmD) = cs.any fun c => decide (c.1 = l)
  | [] => rfl
  | c :: cs => by
    show ((D.str (S8 c.1)).eqv (.str (S8 l)) || anyEqv _ (cs.map nmD)) = _
    rw [str_eqv, any_names l cs]
    rfl
theorem in_names {cs : List Col} {l : List Nat} (h : ∀ c ∈ cs, Lower c.1) (hl : cs.length ≤ 1000) (h2 : Lower l) : opCmp .In (.str (S8 l)) (.lst (cs.map nmD)) = some (cs.any fun c => decide (c.1 = l)) := by
  show (if (D.str (S8 l)).eqOk && (D.lst (cs.map nmD)).eqOk then some (anyEqv _ (cs.map nmD)) else none) = _
  rw [lower_ok h2, eqOk_fits (fits_names h hl) (by decide), any_names]
  rfl
theorem init_turn {co : Nat} {Tc : Tab} {nm nu : Nat} (hco : T.fn co = some (isColF Tc nm nu)) (hcol : ∀ c : Col, c.Ok → ∀ S, isColF Tc nm nu [colD c] S = .ok (.fz (.bl true)) S) (done : List Col) (c : Col) (w k : Nat) (S : Mem) (r0 r1 : Option RV) (hd : ∀ c ∈ done, Lower c.1) (hl : done.length ≤ 900) (hc : c.Ok) (hn : ∀ x ∈ done, x.1 ≠ c.1) (hw : w ≤ 1000) :
    denSs T (bTurn co) [r0, r1, some (.own (done.map colD)), some (.fz (.int (w : Nat))), some (.fz (.int (k : Nat))), some (.fz (colD c)), none, none] S = .nx [r0, r1, some (.own ((done ++ [c]).map colD)), some (.fz (.int ((w * c.2 : Nat)))), some (.fz (.int (k : Nat))), some (.fz (colD c)), none, none] S := by
  have k1 := hcol c hc S
  have k2 := names_lc (T := T) done (by omega) S r0 r1 (some (.fz (.int (w : Nat)))) (some (.fz (.int (k : Nat)))) (some (.fz (colD c))) rfl
  have k3 := in_names hd (by omega) hc.1
  have k4 : (done.any fun x => decide (x.1 = c.1)) = false := by
    rw [List.any_eq_false]
    intro x hx
    simpa using hn x hx
  rw [k4] at k3
  have k5 : itemsOf (.lst (done.map colD)) = some (done.map colD) := rfl
  have k6 : opIdx (colD c) (.int 0) = some (.fz (.str (S8 c.1))) := tat0 _ _
  have k7 : opIdx (colD c) (.int 1) = some (.fz (.int (c.2 : Nat))) := tat1 _ _ _
  have k8 : opBin .Mult (.int (w : Nat)) (.int (c.2 : Nat)) = some (.fz (.int ((w * c.2 : Nat)))) := by
    show (if mulOk (w : Int) (c.2 : Int) then _ else none) = _
    have : mulOk (w : Int) (c.2 : Int) = true := by
      unfold mulOk
      simp only [Int.natAbs_natCast, Bool.or_eq_true, decide_eq_true_eq]
      exact .inl (Nat.lt_of_le_of_lt hw (by decide))
    rw [if_pos this]
    simp
  have k9 : apdO 2 (colD c) [r0, r1, some (.own (done.map colD)), some (.fz (.int (w : Nat))), some (.fz (.int (k : Nat))), some (.fz (colD c)), none, none] = some [r0, r1, some (.own ((done ++ [c]).map colD)), some (.fz (.int (w : Nat))), some (.fz (.int (k : Nat))), some (.fz (colD c)), none, none] := by
    show (if (done.map colD).length < LINE then _ else none) = _
    rw [if_pos (by rw [List.length_map]; exact Nat.lt_of_le_of_lt hl (by decide)), List.map_append]
    rfl
  have k10 : ownAt 2 [r0, r1, some (.own (done.map colD)), some (.fz (.int (w : Nat))), some (.fz (.int (k : Nat))), some (.fz (colD c)), none, none] = true := rfl
  simp only [bTurn, e_cons, e_nil, asg_eq, ret_eq, iff_eq, tas_eq, exp_eq, apd_eq, apx_eq, sst_eq, ins_eq, par_eq, n_var, n_non, n_bl, n_int, n_str, n_glob, n_bin, n_neg, n_cmp, q_lt, q_le, q_gt, q_ge, q_is, q_nis, q_in, q_nin, q_eq, q_ne, Option.map_none, ifM_none, n_chn, n_and, n_or, n_not, n_ite, n_tup, n_lst, n_idx, n_slc, n_call, n_lend, n_lens, n_callk, n_mth, n_mthk, n_fld, n_ixo, n_isc, n_rev, n_fmt, n_fst, n_lc, n_lc2, n_bcl, b_len, b_int, b_all, b_list, b_tuple, b_str, b_min, s_non, s_bl, s_int, s_str, s_lst, s_tup, p_obj, n_isi, n_rep, n_join, denB, denEs, denBs, denO, denI, denF, rdV, rdB, List.getElem?_cons_zero, List.getElem?_cons_succ, List.set_cons_zero, List.set_cons_succ, Res.bind_ok, Res.map_ok, RV.d, ofO_some, FRes.res_ok, thenS_ok, seq_nx, seq_rt, out_rt, out_nx, tstR_bl, if_true, if_false, Bool.false_eq_true, Option.map_some, List.length_cons, List.length_nil, Nat.zero_add, Nat.reduceAdd, noX_ok, hco, k1, k5, k2, k6, k3, k9, k10, k7, k8, Bool.not_true, Bool.true_eq_false]
theorem init_loop {co : Nat} {Tc : Tab} {nm nu : Nat} (hco : T.fn co = some (isColF Tc nm nu)) (hcol : ∀ c : Col, c.Ok → ∀ S, isColF Tc nm nu [colD c] S = .ok (.fz (.bl true)) S) (S : Mem) (r0 r1 : Option RV) : ∀ (cs done : List Col) (w k : Nat) (r4 r5 : Option RV), (∀ c ∈ done, Lower c.1) → (∀ c ∈ cs, c.Ok) → (done ++ cs).length ≤ 900 → ((done ++ cs).map (·.1)).Nodup → w * prodC cs ≤ 1000 →
    ∃ r4' r5', forLoop (.tup [4, 5]) (denSs T (bTurn co)) (enumD k (cs.map colD)) [r0, r1, some (.own (done.map colD)), some (.fz (.int (w : Nat))), r4, r5, none, none] S = .nx [r0, r1, some (.own ((done ++ cs).map colD)), some (.fz (.int ((w * prodC cs : Nat)))), r4', r5', none, none] S
  | [], done, w, k, r4, r5, _, _, _, _, _ => ⟨r4, r5, by simp [enumD, forLoop, prodC]⟩
  | c :: cs, done, w, k, r4, r5, hd, hc, hl, hn, hw => by
    have hcc := hc c List.mem_cons_self
    have hp : 1 ≤ prodC cs := by
      clear hw hn hl
      have h : ∀ x ∈ cs, x.Ok := fun x hx => hc x (List.mem_cons_of_mem _ hx)
      clear hc hcc
      induction cs with
      | nil => exact Nat.le_refl _
      | cons x xs ih =>
        have h1 := ih fun y hy => h y (List.mem_cons_of_mem _ hy)
        have h2 := (h x List.mem_cons_self).2.2.2.1
        show 1 ≤ x.2 * prodC xs
        exact Nat.mul_pos (by omega) h1
    have hw2 : w * c.2 * prodC cs ≤ 1000 := by
      rw [Nat.mul_assoc]
      exact hw
    have hw1 : w ≤ 1000 := Nat.le_trans (Nat.le_mul_of_pos_right w (Nat.mul_pos (Nat.lt_of_lt_of_le (by decide) hcc.2.2.2.1) hp)) hw
    have hnn : ∀ x ∈ done, x.1 ≠ c.1 := fun x hx e => by
      rw [List.map_append, List.map_cons, List.nodup_append] at hn
      exact hn.2.2 _ (List.mem_map_of_mem hx) _ List.mem_cons_self e
    obtain ⟨r4', r5', e⟩ := init_loop hco hcol S r0 r1 cs (done ++ [c]) (w * c.2) (k + 1) (some (.fz (.int (k : Nat)))) (some (.fz (colD c))) (fun x hx => by
      rcases List.mem_append.mp hx with hx | hx
      · exact hd x hx
      · simp at hx; subst hx; exact hcc.1) (fun x hx => hc x (List.mem_cons_of_mem _ hx)) (by simpa using hl) (by simpa using hn) hw2
    refine ⟨r4', r5', ?_⟩
    have t := init_turn hco hcol done c w k S r0 r1 hd (by rw [List.length_append] at hl; omega) hcc hnn hw1
    show forLoop _ _ (.tup [.int (k : Nat), colD c] :: enumD (k + 1) (cs.map colD)) _ _ = _
    unfold forLoop
    simp only [Tg.put, setAll, List.set_cons_zero, List.set_cons_succ]
    rw [t]
    dsimp only
    rw [e]
    simp [prodC, Nat.mul_assoc]
theorem sfdO_at {i n : Nat} {f c : Str} {d : D} {ρ : Rho} {S : Mem} {fs : List (Str × RV)} (h1 : ρ[i]? = some (some (.fz (.loc n)))) (h2 : S.objs[n]? = some (.ins c fs)) (h3 : T.isF c f = true) (h4 : fs.length < 1000) : sfdO T i f d ρ S = some ⟨S.objs.set n (.ins c (putR f (.fz d) fs))⟩ := by
  unfold sfdO
  rw [h1]
  dsimp only
  rw [h2]
  dsimp only
  rw [if_pos ⟨h3, h4⟩]
theorem sfmO_at {i j n : Nat} {f c : Str} {ds : List D} {ρ : Rho} {S : Mem} {fs : List (Str × RV)} (h1 : ρ[i]? = some (some (.fz (.loc n)))) (h0 : ρ[j]? = some (some (.own ds))) (h2 : S.objs[n]? = some (.ins c fs)) (h3 : T.isF c f = true) (h4 : fs.length < 1000) : sfmO T i f j ρ S = some (ρ.set j none, ⟨S.objs.set n (.ins c (putR f (.own ds) fs))⟩) := by
  unfold sfmO
  rw [h1, h0]
  dsimp only
  rw [h2]
  dsimp only
  rw [if_pos ⟨h3, h4⟩]
theorem last_at {α : Type} (xs : List α) (x : α) : (xs ++ [x])[xs.length]? = some x := by simp
theorem last_set {α : Type} (xs : List α) (x y : α) : (xs ++ [x]).set xs.length y = xs ++ [y] := by simp
abbrev sCol : Str := "Columns"
abbrev sRows : Str := "pair_rows"
abbrev sWide : Str := "wide"
/-- the object that Columns(..) gives -/
def colO (cs : List Col) : D := .obj sCol [(sRows, .lst (cs.map colD)), (sWide, .int (prodC cs : Nat))]
/-- right columns -/
structure ColsOk (cs : List Col) : Prop where
  ok : ∀ c ∈ cs, c.Ok
  nd : (cs.map (·.1)).Nodup
  len : cs.length ≤ 3
  wide : prodC cs ≤ 12
/-- what __init__ needs of the table -/
structure InitT (T : Tab) (li mo co wi : Nat) : Prop where
  li : ∃ Tl, T.fn li = some (isListF Tl)
  co : ∃ Tc nm nu, T.fn co = some (isColF Tc nm nu) ∧ ∀ c : Col, c.Ok → ∀ S, isColF Tc nm nu [colD c] S = .ok (.fz (.bl true)) S
  mo : T.gl mo = some (.int 3)
  wi : T.gl wi = some (.int 12)
  f1 : T.isF sCol sRows = true
  f2 : T.isF sCol sWide = true
theorem init_gen {li mo co wi : Nat} (h : InitT T li mo co wi) {cs : List Col} (hc : ColsOk cs) (src : D) (objs : List Ob) (k1 : ∀ Tl S, isListF Tl [src] S = .ok (.fz (.bl true)) S) (k2 : opBcl .len [src] = some (.fz (.int (cs.length : Nat)))) (k3 : opEnm src = some (enumD 0 (cs.map colD))) (k4 : ∀ S m, smOf T S src m = none) :
    initF T li mo co wi [.loc objs.length, src] ⟨objs ++ [.ins sCol []]⟩ = .ok (.fz .non) ⟨objs ++ [.ins sCol [(sRows, .own (cs.map colD)), (sWide, .fz (.int (prodC cs : Nat)))]]⟩ := by
  obtain ⟨Tl, h1⟩ := h.li
  obtain ⟨Tc, nm, nu, h2, h3⟩ := h.co
  have hlen := hc.len
  have hwide := hc.wide
  refine (e_def (T := T) (b := bColInit li mo co wi) (np := 2) (n := 8) (ds := [.loc objs.length, src]) [some (.fz (.loc objs.length)), some (.fz src), none, none, none, none, none, none] rfl rfl).trans ?_
  have k5 : opCmp .Gt (.int (cs.length : Nat)) (.int 3) = some false := by show some (decide _) = _; rw [decide_eq_false]; omega
  obtain ⟨r4, r5, e⟩ := init_loop h2 h3 ⟨objs ++ [.ins sCol []]⟩ (some (.fz (.loc objs.length))) (some (.fz src)) cs [] 1 0 none none (fun c hc => by cases hc) hc.ok (by rw [List.nil_append]; omega) (by rw [List.nil_append]; exact hc.nd) (by omega)
  rw [List.map_nil, List.nil_append, Nat.one_mul, show ((1 : Nat) : Int) = 1 from rfl] at e
  have k6 : opCmp .Gt (.int (prodC cs : Nat)) (.int 12) = some false := by show some (decide _) = _; rw [decide_eq_false]; omega
  have z0 : (0 : Nat) ≤ LINE := Nat.zero_le _
  have z1 : sfmO T 0 sRows 2 [some (.fz (.loc objs.length)), some (.fz src), some (.own (cs.map colD)), some (.fz (.int (prodC cs : Nat))), r4, r5, none, none] ⟨objs ++ [.ins sCol []]⟩ = some ([some (.fz (.loc objs.length)), some (.fz src), none, some (.fz (.int (prodC cs : Nat))), r4, r5, none, none], ⟨objs ++ [.ins sCol [(sRows, .own (cs.map colD))]]⟩) := by
    rw [sfmO_at rfl rfl (last_at objs _) h.f1 (by simp), last_set]
    rfl
  have z2 : sfdO T 0 sWide (.int (prodC cs : Nat)) [some (.fz (.loc objs.length)), some (.fz src), none, some (.fz (.int (prodC cs : Nat))), r4, r5, none, none] ⟨objs ++ [.ins sCol [(sRows, .own (cs.map colD))]]⟩ = some ⟨objs ++ [.ins sCol [(sRows, .own (cs.map colD)), (sWide, .fz (.int (prodC cs : Nat)))]]⟩ := by
    rw [sfdO_at rfl (last_at objs _) h.f2 (by simp), last_set]
    rfl
  simp only [bColInit, e_cons, e_nil, asg_eq, ret_eq, iff_eq, tas_eq, exp_eq, apd_eq, apx_eq, sst_eq, ins_eq, par_eq, n_var, n_non, n_bl, n_int, n_str, n_glob, n_bin, n_neg, n_cmp, q_lt, q_le, q_gt, q_ge, q_is, q_nis, q_in, q_nin, q_eq, q_ne, Option.map_none, ifM_none, n_chn, n_and, n_or, n_not, n_ite, n_tup, n_lst, n_idx, n_slc, n_call, n_lend, n_lens, n_callk, n_mth, n_mthk, n_fld, n_ixo, n_isc, n_rev, n_fmt, n_fst, n_lc, n_lc2, n_bcl, b_len, b_int, b_all, b_list, b_tuple, b_str, b_min, s_non, s_bl, s_int, s_str, s_lst, s_tup, p_obj, n_isi, n_rep, n_join, denB, denEs, denBs, denO, denI, denF, rdV, rdB, List.getElem?_cons_zero, List.getElem?_cons_succ, List.set_cons_zero, List.set_cons_succ, Res.bind_ok, Res.map_ok, RV.d, ofO_some, FRes.res_ok, thenS_ok, seq_nx, seq_rt, out_rt, out_nx, tstR_bl, if_true, if_false, Bool.false_eq_true, Option.map_some, List.length_cons, List.length_nil, Nat.zero_add, Nat.reduceAdd, noX_ok, h1, k1, k2, k4, h.mo, k5, z0, for_eq, denIF, k3, e, h.wi, k6, sfd_eq, sfm_eq, z1, z2, Bool.not_true]
theorem new_gen {li mo co wi : Nat} (h : InitT T li mo co wi) {cs : List Col} (hc : ColsOk cs) (src : D) (objs : List Ob) (k1 : ∀ Tl S, isListF Tl [src] S = .ok (.fz (.bl true)) S) (k2 : opBcl .len [src] = some (.fz (.int (cs.length : Nat)))) (k3 : opEnm src = some (enumD 0 (cs.map colD))) (k4 : ∀ S m, smOf T S src m = none) :
    newFn sCol (initF T li mo co wi) [] true [src] ⟨objs⟩ = .ok (.fz (colO cs)) ⟨objs ++ [.dead]⟩ := by
  unfold newFn
  rw [List.append_nil, init_gen h hc src objs k1 k2 k3 k4]
  simp only [if_true, last_at, frzFs, Option.map_some, last_set]
  rfl
theorem cols_lst {li mo co wi : Nat} (h : InitT T li mo co wi) {cs : List Col} (hc : ColsOk cs) (objs : List Ob) : newFn sCol (initF T li mo co wi) [] true [.lst (cs.map colD)] ⟨objs⟩ = .ok (.fz (colO cs)) ⟨objs ++ [.dead]⟩ :=
  new_gen h hc _ objs (fun Tl S => islist_lst _ S) (by show some (RV.fz (.int ((cs.map colD).length : Nat))) = _; rw [List.length_map]) rfl (fun _ _ => rfl)
theorem cols_tup {li mo co wi : Nat} (h : InitT T li mo co wi) {cs : List Col} (hc : ColsOk cs) (objs : List Ob) : newFn sCol (initF T li mo co wi) [] true [.tup (cs.map colD)] ⟨objs⟩ = .ok (.fz (colO cs)) ⟨objs ++ [.dead]⟩ :=
  new_gen h hc _ objs (fun Tl S => islist_tup _ S) (by show some (RV.fz (.int ((cs.map colD).length : Nat))) = _; rw [List.length_map]) rfl (fun _ _ => rfl)
/-- .. from a list that is lent -/
theorem nols_cols : ∀ (cs : List Col), D.nols (cs.map colD) = true
  | [] => rfl
  | c :: cs => by
    show ((colD c).nol && D.nols (cs.map colD)) = true
    rw [nols_cols cs]
    rfl
theorem cols_lend {li mo co wi : Nat} (h : InitT T li mo co wi) {cs : List Col} (hc : ColsOk cs) (objs : List Ob) (hn : objs.all Ob.nol = true) : lendFn sCol (initF T li mo co wi) (cs.map colD) ⟨objs⟩ = .ok (.fz (colO cs)) ⟨objs ++ [.dead]⟩ := by
  unfold lendFn
  rw [init_gen h hc _ objs (fun Tl S => islist_lst _ S) (by show some (RV.fz (.int ((cs.map colD).length : Nat))) = _; rw [List.length_map]) rfl (fun _ _ => rfl)]
  have k : (objs ++ [Ob.ins sCol [(sRows, .own (cs.map colD)), (sWide, .fz (.int (prodC cs : Nat)))]]).all Ob.nol = true := by
    rw [List.all_append, hn, Bool.true_and]
    show ((D.nols (cs.map colD) && (true && true)) && true) = true
    rw [nols_cols]
    rfl
  simp only [k, if_true, last_at, frzFs, last_set]
  rfl
/-! ### spot -/
def bSpot : LSs := .cons (.asg 2 (.lc [3, 4] (.var 3) (.tup [3, 4]) (.seq (.fld (.var 0) "pair_rows")) (.nil))) (.cons (.ret (.ite (.cmp .In (.var 1) (.var 2)) (.ixo (.var 2) (.var 1)) (.non))) .nil)
abbrev spotF (T : Tab) : Fn := denDef T 2 5 bSpot
theorem col_at (xs : List Col) {i : Nat} {c : Col} (h : xs[i]? = some c) (hnd : (xs.map (·.1)).Nodup) : firstD (.str (S8 c.1)) (xs.map nmD) = some i := by
  induction xs generalizing i with
  | nil => simp at h
  | cons x xs ih =>
    unfold firstD
    rw [List.map_cons, List.nodup_cons] at hnd
    cases i with
    | zero =>
      simp at h
      subst h
      show (if (D.str (S8 x.1)).eqv (.str (S8 x.1)) = true then _ else _) = _
      rw [eqv_refl_str]
      rfl
    | succ i =>
      have h : xs[i]? = some c := by simpa using h
      have hne : x.1 ≠ c.1 := fun e => hnd.1 (by
        rw [e]
        exact List.mem_map_of_mem (List.mem_of_getElem? h))
      show (if (D.str (S8 x.1)).eqv (.str (S8 c.1)) = true then _ else _) = _
      rw [str_eqv, if_neg (by simpa using hne)]
      rw [show (firstD (.str (S8 c.1)) (List.map nmD xs)) = some i from ih h hnd.2]
      rfl
theorem ixo_names {xs : List Col} {i : Nat} {c : Col} (h : xs[i]? = some c) (hnd : (xs.map (·.1)).Nodup) (hl : ∀ c ∈ xs, Lower c.1) (hn : xs.length ≤ 1000) : opIxo (xs.map nmD) (.str (S8 c.1)) = some (.fz (.int (i : Nat))) := by
  unfold opIxo
  rw [lower_ok (hl c (List.mem_of_getElem? h)), eqOk_fits (fits_names hl hn) (by decide), col_at xs h hnd]
  rfl
theorem names_lc2 (cs : List Col) (hl : cs.length ≤ 1000) (S : Mem) (r0 r1 r2 : Option RV) :
    lcRun [3, 4] (lcBody T .nil (.var 3) (.tup [3, 4])) [r0, r1, r2, none, none] (cs.map colD) S = .ok (.own (cs.map nmD)) [r0, r1, r2, none, none] S := by
  obtain ⟨ρ', e, x, y, h⟩ := lc_map (vs := [3, 4]) (S := S) (f := lcBody T .nil (.var 3) (.tup [3, 4])) (I := fun ρ => ∃ x y, ρ = [r0, r1, r2, x, y]) (g := fun d => match d with | .tup (x :: _) => x | _ => .non) (cs.map colD) [] [r0, r1, r2, none, none] ⟨none, none, rfl⟩ (fun d hd ρ hI => by
    obtain ⟨x, y, rfl⟩ := hI
    rw [List.mem_map] at hd
    obtain ⟨c, hc, rfl⟩ := hd
    refine ⟨[r0, r1, r2, some (.fz (.str (S8 c.1))), some (.fz (.int (c.2 : Nat)))], ?_, _, _, rfl⟩
    simp only [lcBody, colD, wipeE, Tg.put, setAll, denC, e_cons, e_nil, asg_eq, ret_eq, iff_eq, tas_eq, exp_eq, apd_eq, apx_eq, sst_eq, ins_eq, par_eq, n_var, n_non, n_bl, n_int, n_str, n_glob, n_bin, n_neg, n_cmp, q_lt, q_le, q_gt, q_ge, q_is, q_nis, q_in, q_nin, q_eq, q_ne, Option.map_none, ifM_none, n_chn, n_and, n_or, n_not, n_ite, n_tup, n_lst, n_idx, n_slc, n_call, n_lend, n_lens, n_callk, n_mth, n_mthk, n_fld, n_ixo, n_isc, n_rev, n_fmt, n_fst, n_lc, n_lc2, n_bcl, b_len, b_int, b_all, b_list, b_tuple, b_str, b_min, s_non, s_bl, s_int, s_str, s_lst, s_tup, p_obj, n_isi, n_rep, n_join, denB, denEs, denBs, denO, denI, denF, rdV, rdB, List.getElem?_cons_zero, List.getElem?_cons_succ, List.set_cons_zero, List.set_cons_succ, Res.bind_ok, Res.map_ok, RV.d, ofO_some, FRes.res_ok, thenS_ok, seq_nx, seq_rt, out_rt, out_nx, tstR_bl, if_true, if_false, Bool.false_eq_true, Option.map_some, List.length_cons, List.length_nil, Nat.zero_add, Nat.reduceAdd, noX_ok]) (le_line (by rw [List.length_map]; show 0 + cs.length ≤ 1000; omega))
  unfold lcRun
  rw [if_neg (by simp [noOwn]), e, h]
  rw [List.nil_append, List.map_map]
  rfl
theorem fld_rows (h : T.isF sCol sRows = true) (S : Mem) (cs : List Col) : fldOf T S (colO cs) sRows = some (.fz (.lst (cs.map colD))) := by
  unfold fldOf colO
  dsimp only
  rw [if_pos h]
  simp [List.lookup]
theorem spot_ok (hf : T.isF sCol sRows = true) (hp : T.pr sCol sRows = none) {cs : List Col} (hc : ColsOk cs) {i : Nat} {c : Col} (h : cs[i]? = some c) (S : Mem) : spotF T [colO cs, .str (S8 c.1)] S = .ok (.fz (.int (i : Nat))) S := by
  have hlen := hc.len
  have hlow : ∀ c ∈ cs, Lower c.1 := fun c h => (hc.ok c h).1
  refine (e_def (T := T) (b := bSpot) (np := 2) (n := 5) (ds := [colO cs, .str (S8 c.1)]) [some (.fz (colO cs)), some (.fz (.str (S8 c.1))), none, none, none] rfl rfl).trans ?_
  have k1 := fld_rows hf S cs
  have k2 : prOf T S (colO cs) sRows = none := hp
  have k3 := names_lc2 (T := T) cs (by omega) S (some (.fz (colO cs))) (some (.fz (.str (S8 c.1)))) none
  have k4 := in_names hlow (by omega) (hlow c (List.mem_of_getElem? h))
  have k5 : (cs.any fun x => decide (x.1 = c.1)) = true := List.any_eq_true.mpr ⟨c, List.mem_of_getElem? h, by simp⟩
  rw [k5] at k4
  have k6 := ixo_names h hc.nd hlow (by omega)
  have k7 : itemsOf (.lst (cs.map colD)) = some (cs.map colD) := rfl
  simp only [bSpot, e_cons, e_nil, asg_eq, ret_eq, iff_eq, tas_eq, exp_eq, apd_eq, apx_eq, sst_eq, ins_eq, par_eq, n_var, n_non, n_bl, n_int, n_str, n_glob, n_bin, n_neg, n_cmp, q_lt, q_le, q_gt, q_ge, q_is, q_nis, q_in, q_nin, q_eq, q_ne, Option.map_none, ifM_none, n_chn, n_and, n_or, n_not, n_ite, n_tup, n_lst, n_idx, n_slc, n_call, n_lend, n_lens, n_callk, n_mth, n_mthk, n_fld, n_ixo, n_isc, n_rev, n_fmt, n_fst, n_lc, n_lc2, n_bcl, b_len, b_int, b_all, b_list, b_tuple, b_str, b_min, s_non, s_bl, s_int, s_str, s_lst, s_tup, p_obj, n_isi, n_rep, n_join, denB, denEs, denBs, denO, denI, denF, rdV, rdB, List.getElem?_cons_zero, List.getElem?_cons_succ, List.set_cons_zero, List.set_cons_succ, Res.bind_ok, Res.map_ok, RV.d, ofO_some, FRes.res_ok, thenS_ok, seq_nx, seq_rt, out_rt, out_nx, tstR_bl, if_true, if_false, Bool.false_eq_true, Option.map_some, List.length_cons, List.length_nil, Nat.zero_add, Nat.reduceAdd, noX_ok, k2, k1, k7, k3, k4, k6]
/-! ### fits -/
def bFits (se : LE) : LSs := .cons (.ret (.bcl .all (.cons (.lc [3, 4] (.cmp .Eq (.idx (.var 1) se) (.var 4)) (.tup [3, 4]) (.seq (.var 2)) (.nil)) .nil))) .nil
abbrev lookD (vs : List Int) : D := .tup (vs.map .int)
/-- a test: the place of a column, a value -/
def testD (cs : List Col) (t : Nat × Int) : D := .tup [.str (S8 (cs.getD t.1 ([], 0)).1), .int t.2]
def fitV (vs : List Int) (ts : List (Nat × Int)) : Bool := ts.all fun t => decide (vs.getD t.1 0 = t.2)
theorem getD_at {α : Type} {xs : List α} {i : Nat} {d : α} (h : i < xs.length) : xs[i]? = some (xs.getD i d) := by
  rw [List.getD_eq_getElem?_getD, List.getElem?_eq_getElem h]
  rfl
theorem look_at (vs : List Int) {i : Nat} (h : i < vs.length) : opIdx (lookD vs) (.int (i : Nat)) = some (.fz (.int (vs.getD i 0))) := by
  show (atI (vs.map D.int) ((i : Nat) : Int)).map _ = _
  rw [atI_nat, List.getElem?_map, getD_at (d := 0) h]
  rfl
theorem allBl_gen {α : Type} (p : α → Bool) : ∀ l : List α, allBl (l.map fun c => .bl (p c)) = some (l.all p)
  | [] => rfl
  | c :: l => by simp [allBl, allBl_gen p l]
theorem fits_gen {se : LE} {cs : List Col} {x0 : D} {S : Mem} {vs : List Int} {ts : List (Nat × Int)} (hv : vs.length = cs.length) (ht : ∀ t ∈ ts, t.1 < cs.length) (hl : ts.length ≤ 1000)
    (hse : ∀ (r2 : Option RV) (i : Nat) (c : Col) (v : Int), cs[i]? = some c → denB T se [some (.fz x0), some (.fz (lookD vs)), r2, some (.fz (.str (S8 c.1))), some (.fz (.int v))] S = .ok (.int (i : Nat)) [some (.fz x0), some (.fz (lookD vs)), r2, some (.fz (.str (S8 c.1))), some (.fz (.int v))] S) :
    denDef T 3 5 (bFits se) [x0, lookD vs, .tup (ts.map (testD cs))] S = .ok (.fz (.bl (fitV vs ts))) S := by
  refine (e_def (T := T) (b := bFits se) (np := 3) (n := 5) (ds := [x0, lookD vs, .tup (ts.map (testD cs))]) [some (.fz x0), some (.fz (lookD vs)), some (.fz (.tup (ts.map (testD cs)))), none, none] rfl rfl).trans ?_
  have run : lcRun [3, 4] (lcBody T .nil (.cmp .Eq (.idx (.var 1) se) (.var 4)) (.tup [3, 4])) [some (.fz x0), some (.fz (lookD vs)), some (.fz (.tup (ts.map (testD cs)))), none, none] (ts.map (testD cs)) S = .ok (.own (ts.map fun t => .bl (decide (vs.getD t.1 0 = t.2)))) [some (.fz x0), some (.fz (lookD vs)), some (.fz (.tup (ts.map (testD cs)))), none, none] S := by
    generalize hr2 : (some (RV.fz (D.tup (ts.map (testD cs)))) : Option RV) = r2
    clear hr2
    have key : ∀ (ts : List (Nat × Int)), (∀ t ∈ ts, t.1 < cs.length) → ∀ (acc : List D) (x y : Option RV), acc.length + ts.length ≤ 1000 → ∃ x' y', lcLoop [3, 4] (lcBody T .nil (.cmp .Eq (.idx (.var 1) se) (.var 4)) (.tup [3, 4])) (ts.map (testD cs)) acc [some (.fz x0), some (.fz (lookD vs)), r2, x, y] S = .ok (acc ++ ts.map fun t => .bl (decide (vs.getD t.1 0 = t.2))) [some (.fz x0), some (.fz (lookD vs)), r2, x', y'] S := by
      intro ts
      induction ts with
      | nil => intro _ acc x y _; exact ⟨x, y, by simp [lcLoop]⟩
      | cons t ts ih =>
        intro ht acc x y hl
        obtain ⟨i, v⟩ := t
        have hi : i < cs.length := ht (i, v) List.mem_cons_self
        have h1 := hse r2 i (cs.getD i ([], 0)) v (getD_at hi)
        have h2 := look_at vs (i := i) (by omega)
        obtain ⟨x', y', e⟩ := ih (fun t h => ht t (List.mem_cons_of_mem _ h)) (acc ++ [.bl (decide (vs.getD i 0 = v))]) (some (.fz (.str (S8 (cs.getD i ([], 0)).1)))) (some (.fz (.int v))) (by simp at hl ⊢; omega)
        refine ⟨x', y', ?_⟩
        unfold lcLoop
        have one : lcBody T .nil (.cmp .Eq (.idx (.var 1) se) (.var 4)) (.tup [3, 4]) (testD cs (i, v)) (wipeE [some (.fz x0), some (.fz (lookD vs)), r2, x, y] [3, 4]) S = .ok (some (.bl (decide (vs.getD i 0 = v)))) [some (.fz x0), some (.fz (lookD vs)), r2, some (.fz (.str (S8 (cs.getD i ([], 0)).1))), some (.fz (.int v))] S := by
          simp only [lcBody, testD, wipeE, Tg.put, setAll, denC, e_cons, e_nil, asg_eq, ret_eq, iff_eq, tas_eq, exp_eq, apd_eq, apx_eq, sst_eq, ins_eq, par_eq, n_var, n_non, n_bl, n_int, n_str, n_glob, n_bin, n_neg, n_cmp, q_lt, q_le, q_gt, q_ge, q_is, q_nis, q_in, q_nin, q_eq, q_ne, Option.map_none, ifM_none, n_chn, n_and, n_or, n_not, n_ite, n_tup, n_lst, n_idx, n_slc, n_call, n_lend, n_lens, n_callk, n_mth, n_mthk, n_fld, n_ixo, n_isc, n_rev, n_fmt, n_fst, n_lc, n_lc2, n_bcl, b_len, b_int, b_all, b_list, b_tuple, b_str, b_min, s_non, s_bl, s_int, s_str, s_lst, s_tup, p_obj, n_isi, n_rep, n_join, denB, denEs, denBs, denO, denI, denF, rdV, rdB, List.getElem?_cons_zero, List.getElem?_cons_succ, List.set_cons_zero, List.set_cons_succ, Res.bind_ok, Res.map_ok, RV.d, ofO_some, FRes.res_ok, thenS_ok, seq_nx, seq_rt, out_rt, out_nx, tstR_bl, if_true, if_false, Bool.false_eq_true, Option.map_some, List.length_cons, List.length_nil, Nat.zero_add, Nat.reduceAdd, noX_ok, h1, h2, int_eq]
        rw [List.map_cons]
        dsimp only
        rw [one]
        simp only [noX_ok, Res.bind_ok]
        rw [if_pos (Nat.lt_of_lt_of_le (by simp at hl; omega) (show 1000 ≤ LINE by decide)), e]
        simp
    obtain ⟨x', y', e⟩ := key ts ht [] none none (by simpa using hl)
    unfold lcRun
    rw [if_neg (by simp [noOwn]), e]
    rfl
  have k1 : itemsOf (.tup (ts.map (testD cs))) = some (ts.map (testD cs)) := rfl
  have k2 : opBcl .all [.lst (ts.map fun t => .bl (decide (vs.getD t.1 0 = t.2)))] = some (.fz (.bl (fitV vs ts))) := by
    show (allBl _).map _ = _
    rw [allBl_gen]
    rfl
  simp only [bFits, e_cons, e_nil, asg_eq, ret_eq, iff_eq, tas_eq, exp_eq, apd_eq, apx_eq, sst_eq, ins_eq, par_eq, n_var, n_non, n_bl, n_int, n_str, n_glob, n_bin, n_neg, n_cmp, q_lt, q_le, q_gt, q_ge, q_is, q_nis, q_in, q_nin, q_eq, q_ne, Option.map_none, ifM_none, n_chn, n_and, n_or, n_not, n_ite, n_tup, n_lst, n_idx, n_slc, n_call, n_lend, n_lens, n_callk, n_mth, n_mthk, n_fld, n_ixo, n_isc, n_rev, n_fmt, n_fst, n_lc, n_lc2, n_bcl, b_len, b_int, b_all, b_list, b_tuple, b_str, b_min, s_non, s_bl, s_int, s_str, s_lst, s_tup, p_obj, n_isi, n_rep, n_join, denB, denEs, denBs, denO, denI, denF, rdV, rdB, List.getElem?_cons_zero, List.getElem?_cons_succ, List.set_cons_zero, List.set_cons_succ, Res.bind_ok, Res.map_ok, RV.d, ofO_some, FRes.res_ok, thenS_ok, seq_nx, seq_rt, out_rt, out_nx, tstR_bl, if_true, if_false, Bool.false_eq_true, Option.map_some, List.length_cons, List.length_nil, Nat.zero_add, Nat.reduceAdd, noX_ok, k1, run, k2]
/-! ### changed -/
def bChg (se me : LE) : LSs := .cons (.asg 3 (.bcl .list (.cons (.var 1) .nil))) (.cons (.forr (.tup [4, 5, 6]) (.seq (.var 2)) (.cons (.asg 7 se) (.cons (.sst 3 (.var 7) (.ite (.cmp .Eq (.var 5) (.str "set")) (.var 6) me)) .nil))) (.cons (.ret (.bcl .tuple (.cons (.var 3) .nil))) .nil))
/-- a change: the place of a column, set or raise, a value -/
structure Chg where
  at_ : Nat
  set : Bool
  val : Int
def wordD (b : Bool) : D := if b then .str "set" else .str "raise"
def chgD (cs : List Col) (t : Chg) : D := .tup [.str (S8 (cs.getD t.at_ ([], 0)).1), wordD t.set, .int t.val]
def lessV (a b : Int) : Int := if b < a then b else a
def stepV (cs : List Col) (vs : List Int) (t : Chg) : List Int := vs.set t.at_ (if t.set then t.val else lessV (vs.getD t.at_ 0 + t.val) ((cs.getD t.at_ ([], 0)).2 - 1))
theorem word_set (b : Bool) : opCmp .Eq (wordD b) (.str "set") = some b := by
  cases b <;> decide +kernel
theorem word_sm (b : Bool) (S : Mem) (m : Str) : smOf T S (wordD b) m = none := by cases b <;> rfl
theorem chg_gen {se me : LE} {cs : List Col} {x0 : D} {S : Mem} {vs : List Int} {ts : List Chg} (hv : vs.length = cs.length) (ht : ∀ t ∈ ts, t.at_ < cs.length)
    (hse : ∀ (r1 r2 r3 r5 r6 r7 : Option RV) (i : Nat) (c : Col), cs[i]? = some c → den T se [some (.fz x0), r1, r2, r3, some (.fz (.str (S8 c.1))), r5, r6, r7] S = .ok (.fz (.int (i : Nat))) [some (.fz x0), r1, r2, r3, some (.fz (.str (S8 c.1))), r5, r6, r7] S)
    (hme : ∀ (r1 r2 r4 r5 : Option RV) (i : Nat) (vs : List Int) (v : Int), vs.length = cs.length → i < cs.length → den T me [some (.fz x0), r1, r2, some (.own (vs.map .int)), r4, r5, some (.fz (.int v)), some (.fz (.int (i : Nat)))] S = .ok (.fz (.int (lessV (vs.getD i 0 + v) ((cs.getD i ([], 0)).2 - 1)))) [some (.fz x0), r1, r2, some (.own (vs.map .int)), r4, r5, some (.fz (.int v)), some (.fz (.int (i : Nat)))] S) :
    denDef T 3 8 (bChg se me) [x0, lookD vs, .tup (ts.map (chgD cs))] S = .ok (.fz (lookD (ts.foldl (stepV cs) vs))) S := by
  refine (e_def (T := T) (b := bChg se me) (np := 3) (n := 8) (ds := [x0, lookD vs, .tup (ts.map (chgD cs))]) [some (.fz x0), some (.fz (lookD vs)), some (.fz (.tup (ts.map (chgD cs)))), none, none, none, none, none] rfl rfl).trans ?_
  have step_len : ∀ (vs : List Int) (t : Chg), (stepV cs vs t).length = vs.length := fun vs t => by simp [stepV]
  have key : ∀ (ts : List Chg), (∀ t ∈ ts, t.at_ < cs.length) → ∀ (vs : List Int) (r1 r2 r4 r5 r6 r7 : Option RV), vs.length = cs.length → ∃ r4' r5' r6' r7', forLoop (.tup [4, 5, 6]) (denSs T (.cons (.asg 7 se) (.cons (.sst 3 (.var 7) (.ite (.cmp .Eq (.var 5) (.str "set")) (.var 6) me)) .nil))) (ts.map (chgD cs)) [some (.fz x0), r1, r2, some (.own (vs.map .int)), r4, r5, r6, r7] S = .nx [some (.fz x0), r1, r2, some (.own ((ts.foldl (stepV cs) vs).map .int)), r4', r5', r6', r7'] S := by
    intro ts
    induction ts with
    | nil => intro _ vs r1 r2 r4 r5 r6 r7 _; exact ⟨r4, r5, r6, r7, rfl⟩
    | cons t ts ih =>
      intro ht vs r1 r2 r4 r5 r6 r7 hv
      obtain ⟨i, w, v⟩ := t
      have hi : i < cs.length := ht ⟨i, w, v⟩ List.mem_cons_self
      obtain ⟨r4', r5', r6', r7', e⟩ := ih (fun t h => ht t (List.mem_cons_of_mem _ h)) (stepV cs vs ⟨i, w, v⟩) r1 r2 (some (.fz (.str (S8 (cs.getD i ([], 0)).1)))) (some (.fz (wordD w))) (some (.fz (.int v))) (some (.fz (.int (i : Nat)))) (by rw [step_len]; exact hv)
      refine ⟨r4', r5', r6', r7', ?_⟩
      rw [List.map_cons, List.foldl_cons, ← e]
      conv => lhs; unfold forLoop
      have h1 := hse r1 r2 (some (.own (vs.map .int))) (some (.fz (wordD w))) (some (.fz (.int v))) r7 i (cs.getD i ([], 0)) (getD_at hi)
      have h2 := hme r1 r2 (some (.fz (.str (S8 (cs.getD i ([], 0)).1)))) (some (.fz (wordD w))) i vs v hv hi
      have h3 : ∀ x : Int, sstO 3 (.int (i : Nat)) (.int x) [some (.fz x0), r1, r2, some (.own (vs.map .int)), some (.fz (.str (S8 (cs.getD i ([], 0)).1))), some (.fz (wordD w)), some (.fz (.int v)), some (.fz (.int (i : Nat)))] = some [some (.fz x0), r1, r2, some (.own ((vs.set i x).map .int)), some (.fz (.str (S8 (cs.getD i ([], 0)).1))), some (.fz (wordD w)), some (.fz (.int v)), some (.fz (.int (i : Nat)))] := fun x => by
        show (ixN (vs.map D.int).length ((i : Nat) : Int)).map _ = _
        have : ixN (vs.map D.int).length ((i : Nat) : Int) = some i := by
          unfold ixN
          rw [if_pos (by omega), if_pos (by rw [List.length_map]; omega)]
          simp
        rw [this, List.map_set]
        rfl
      have h4 : ownAt 3 [some (.fz x0), r1, r2, some (.own (vs.map .int)), some (.fz (.str (S8 (cs.getD i ([], 0)).1))), some (.fz (wordD w)), some (.fz (.int v)), some (.fz (.int (i : Nat)))] = true := rfl
      have body : denSs T (.cons (.asg 7 se) (.cons (.sst 3 (.var 7) (.ite (.cmp .Eq (.var 5) (.str "set")) (.var 6) me)) .nil)) [some (.fz x0), r1, r2, some (.own (vs.map .int)), some (.fz (.str (S8 (cs.getD i ([], 0)).1))), some (.fz (wordD w)), some (.fz (.int v)), r7] S = .nx [some (.fz x0), r1, r2, some (.own ((stepV cs vs ⟨i, w, v⟩).map .int)), some (.fz (.str (S8 (cs.getD i ([], 0)).1))), some (.fz (wordD w)), some (.fz (.int v)), some (.fz (.int (i : Nat)))] S := by
        cases w with
        | true => simp only [e_cons, e_nil, asg_eq, ret_eq, iff_eq, tas_eq, exp_eq, apd_eq, apx_eq, sst_eq, ins_eq, par_eq, n_var, n_non, n_bl, n_int, n_str, n_glob, n_bin, n_neg, n_cmp, q_lt, q_le, q_gt, q_ge, q_is, q_nis, q_in, q_nin, q_eq, q_ne, Option.map_none, ifM_none, n_chn, n_and, n_or, n_not, n_ite, n_tup, n_lst, n_idx, n_slc, n_call, n_lend, n_lens, n_callk, n_mth, n_mthk, n_fld, n_ixo, n_isc, n_rev, n_fmt, n_fst, n_lc, n_lc2, n_bcl, b_len, b_int, b_all, b_list, b_tuple, b_str, b_min, s_non, s_bl, s_int, s_str, s_lst, s_tup, p_obj, n_isi, n_rep, n_join, denB, denEs, denBs, denO, denI, denF, rdV, rdB, List.getElem?_cons_zero, List.getElem?_cons_succ, List.set_cons_zero, List.set_cons_succ, Res.bind_ok, Res.map_ok, RV.d, ofO_some, FRes.res_ok, thenS_ok, seq_nx, seq_rt, out_rt, out_nx, tstR_bl, if_true, if_false, Bool.false_eq_true, Option.map_some, List.length_cons, List.length_nil, Nat.zero_add, Nat.reduceAdd, noX_ok, h1, word_sm, word_set, h4, h3, stepV, Bool.true_eq_false]
        | false => simp only [e_cons, e_nil, asg_eq, ret_eq, iff_eq, tas_eq, exp_eq, apd_eq, apx_eq, sst_eq, ins_eq, par_eq, n_var, n_non, n_bl, n_int, n_str, n_glob, n_bin, n_neg, n_cmp, q_lt, q_le, q_gt, q_ge, q_is, q_nis, q_in, q_nin, q_eq, q_ne, Option.map_none, ifM_none, n_chn, n_and, n_or, n_not, n_ite, n_tup, n_lst, n_idx, n_slc, n_call, n_lend, n_lens, n_callk, n_mth, n_mthk, n_fld, n_ixo, n_isc, n_rev, n_fmt, n_fst, n_lc, n_lc2, n_bcl, b_len, b_int, b_all, b_list, b_tuple, b_str, b_min, s_non, s_bl, s_int, s_str, s_lst, s_tup, p_obj, n_isi, n_rep, n_join, denB, denEs, denBs, denO, denI, denF, rdV, rdB, List.getElem?_cons_zero, List.getElem?_cons_succ, List.set_cons_zero, List.set_cons_succ, Res.bind_ok, Res.map_ok, RV.d, ofO_some, FRes.res_ok, thenS_ok, seq_nx, seq_rt, out_rt, out_nx, tstR_bl, if_true, if_false, Bool.false_eq_true, Option.map_some, List.length_cons, List.length_nil, Nat.zero_add, Nat.reduceAdd, noX_ok, h1, word_sm, word_set, h4, h2, h3, stepV, Bool.true_eq_false]
      simp only [chgD, Tg.put, setAll, List.set_cons_zero, List.set_cons_succ]
      rw [body]
  obtain ⟨r4, r5, r6, r7, e⟩ := key ts ht vs (some (.fz (lookD vs))) (some (.fz (.tup (ts.map (chgD cs))))) none none none none hv
  have k1 : opBcl .list [lookD vs] = some (.own (vs.map .int)) := rfl
  have k2 : itemsOf (.tup (ts.map (chgD cs))) = some (ts.map (chgD cs)) := rfl
  have k3 : ∀ us : List Int, opBcl .tuple [.lst (us.map .int)] = some (.fz (lookD us)) := fun _ => rfl
  simp only [bChg, e_cons, e_nil, asg_eq, ret_eq, iff_eq, tas_eq, exp_eq, apd_eq, apx_eq, sst_eq, ins_eq, par_eq, n_var, n_non, n_bl, n_int, n_str, n_glob, n_bin, n_neg, n_cmp, q_lt, q_le, q_gt, q_ge, q_is, q_nis, q_in, q_nin, q_eq, q_ne, Option.map_none, ifM_none, n_chn, n_and, n_or, n_not, n_ite, n_tup, n_lst, n_idx, n_slc, n_call, n_lend, n_lens, n_callk, n_mth, n_mthk, n_fld, n_ixo, n_isc, n_rev, n_fmt, n_fst, n_lc, n_lc2, n_bcl, b_len, b_int, b_all, b_list, b_tuple, b_str, b_min, s_non, s_bl, s_int, s_str, s_lst, s_tup, p_obj, n_isi, n_rep, n_join, denB, denEs, denBs, denO, denI, denF, rdV, rdB, List.getElem?_cons_zero, List.getElem?_cons_succ, List.set_cons_zero, List.set_cons_succ, Res.bind_ok, Res.map_ok, RV.d, ofO_some, FRes.res_ok, thenS_ok, seq_nx, seq_rt, out_rt, out_nx, tstR_bl, if_true, if_false, Bool.false_eq_true, Option.map_some, List.length_cons, List.length_nil, Nat.zero_add, Nat.reduceAdd, noX_ok, k1, for_eq, denIF, k2, e, k3]
end
end Sh


/-! ShCol2: fits, changed of the program and of the law; what the laws draw for columns. -/
namespace Sh
open PySem PySem.Spec PyProof.Rows L2
abbrev sSpot : Str := "spot"
def seM (n : Nat) : LE := .mth (.var 0) "spot" (.cons (.var n) .nil)
def meM : LE := .bcl .min (.cons (.bin .Add (.idx (.var 3) (.var 7)) (.var 6)) (.cons (.bin .Sub (.idx (.idx (.fld (.var 0) "pair_rows") (.var 7)) (.int 1)) (.int 1)) .nil))
abbrev fitsF (T : Tab) : Fn := denDef T 3 5 (bFits (seM 3))
abbrev chgF (T : Tab) : Fn := denDef T 3 8 (bChg (seM 4) meM)
section
variable {T Ts : Tab}
theorem col_lk (cs : List Col) {m : Str} (h1 : (m == sRows) = false) (h2 : (m == sWide) = false) : ([(sRows, D.lst (cs.map colD)), (sWide, D.int (prodC cs : Nat))] : List (Str × D)).lookup m = none := by
  simp only [List.lookup_cons, h1, h2, List.lookup_nil]
theorem mth_col {cs : List Col} {m : Str} {fn : Fn} (hm : T.mt sCol m = some fn) (h1 : (m == sRows) = false) (h2 : (m == sWide) = false) (S : Mem) : mthOf T S (colO cs) m = some (sCol, fn) := by
  unfold mthOf colO
  dsimp only
  rw [col_lk cs h1 h2, hm]
  rfl
/-- what the methods need of the table -/
structure ColT (T Ts : Tab) : Prop where
  sp : T.mt sCol sSpot = some (spotF Ts)
  f1 : Ts.isF sCol sRows = true
  p1 : Ts.pr sCol sRows = none
  f2 : T.isF sCol sRows = true
  p2 : T.pr sCol sRows = none
theorem fits_ok (h : ColT T Ts) {cs : List Col} (hc : ColsOk cs) {vs : List Int} {ts : List (Nat × Int)} (hv : vs.length = cs.length) (ht : ∀ t ∈ ts, t.1 < cs.length) (hl : ts.length ≤ 1000) (S : Mem) :
    fitsF T [colO cs, lookD vs, .tup (ts.map (testD cs))] S = .ok (.fz (.bl (fitV vs ts))) S :=
  fits_gen hv ht hl fun r2 i c v hi => by
    have k1 := mth_col (T := T) (cs := cs) h.sp (by decide +kernel) (by decide +kernel) S
    have k2 := spot_ok (T := Ts) h.f1 h.p1 hc hi S
    simp only [seM, e_cons, e_nil, asg_eq, ret_eq, iff_eq, tas_eq, exp_eq, apd_eq, apx_eq, sst_eq, ins_eq, par_eq, n_var, n_non, n_bl, n_int, n_str, n_glob, n_bin, n_neg, n_cmp, q_lt, q_le, q_gt, q_ge, q_is, q_nis, q_in, q_nin, q_eq, q_ne, Option.map_none, ifM_none, n_chn, n_and, n_or, n_not, n_ite, n_tup, n_lst, n_idx, n_slc, n_call, n_lend, n_lens, n_callk, n_mth, n_mthk, n_fld, n_ixo, n_isc, n_rev, n_fmt, n_fst, n_lc, n_lc2, n_bcl, b_len, b_int, b_all, b_list, b_tuple, b_str, b_min, s_non, s_bl, s_int, s_str, s_lst, s_tup, p_obj, n_isi, n_rep, n_join, denB, denEs, denBs, denO, denI, denF, rdV, rdB, List.getElem?_cons_zero, List.getElem?_cons_succ, List.set_cons_zero, List.set_cons_succ, Res.bind_ok, Res.map_ok, RV.d, ofO_some, FRes.res_ok, thenS_ok, seq_nx, seq_rt, out_rt, out_nx, tstR_bl, if_true, if_false, Bool.false_eq_true, Option.map_some, List.length_cons, List.length_nil, Nat.zero_add, Nat.reduceAdd, noX_ok, k1, k2]
theorem ix_nat {ds : List D} {i : Nat} {d : D} (h : ds[i]? = some d) : opIdx (.lst ds) (.int (i : Nat)) = some (.fz d) := by
  show (atI ds ((i : Nat) : Int)).map _ = _
  rw [atI_nat, h]
  rfl
theorem ints_at {vs : List Int} {i : Nat} (h : i < vs.length) : (vs.map D.int)[i]? = some (.int (vs.getD i 0)) := by
  rw [List.getElem?_map, getD_at (d := 0) h]
  rfl
theorem cols_at {cs : List Col} {i : Nat} (h : i < cs.length) : (cs.map colD)[i]? = some (colD (cs.getD i ([], 0))) := by
  rw [List.getElem?_map, getD_at (d := ([], 0)) h]
  rfl
theorem col_sz (c : Col) : opIdx (colD c) (.int 1) = some (.fz (.int (c.2 : Nat))) := tat1 _ _ _
theorem chg_ok (h : ColT T Ts) {cs : List Col} (hc : ColsOk cs) {vs : List Int} {ts : List Chg} (hv : vs.length = cs.length) (ht : ∀ t ∈ ts, t.at_ < cs.length) (S : Mem) :
    chgF T [colO cs, lookD vs, .tup (ts.map (chgD cs))] S = .ok (.fz (lookD (ts.foldl (stepV cs) vs))) S :=
  chg_gen hv ht (fun r1 r2 r3 r5 r6 r7 i c hi => by
    have k1 := mth_col (T := T) (cs := cs) h.sp (by decide +kernel) (by decide +kernel) S
    have k2 := spot_ok (T := Ts) h.f1 h.p1 hc hi S
    simp only [seM, e_cons, e_nil, asg_eq, ret_eq, iff_eq, tas_eq, exp_eq, apd_eq, apx_eq, sst_eq, ins_eq, par_eq, n_var, n_non, n_bl, n_int, n_str, n_glob, n_bin, n_neg, n_cmp, q_lt, q_le, q_gt, q_ge, q_is, q_nis, q_in, q_nin, q_eq, q_ne, Option.map_none, ifM_none, n_chn, n_and, n_or, n_not, n_ite, n_tup, n_lst, n_idx, n_slc, n_call, n_lend, n_lens, n_callk, n_mth, n_mthk, n_fld, n_ixo, n_isc, n_rev, n_fmt, n_fst, n_lc, n_lc2, n_bcl, b_len, b_int, b_all, b_list, b_tuple, b_str, b_min, s_non, s_bl, s_int, s_str, s_lst, s_tup, p_obj, n_isi, n_rep, n_join, denB, denEs, denBs, denO, denI, denF, rdV, rdB, List.getElem?_cons_zero, List.getElem?_cons_succ, List.set_cons_zero, List.set_cons_succ, Res.bind_ok, Res.map_ok, RV.d, ofO_some, FRes.res_ok, thenS_ok, seq_nx, seq_rt, out_rt, out_nx, tstR_bl, if_true, if_false, Bool.false_eq_true, Option.map_some, List.length_cons, List.length_nil, Nat.zero_add, Nat.reduceAdd, noX_ok, k1, k2]) fun r1 r2 r4 r5 i vs v hv hi => by
    have k1 := ix_nat (ints_at (vs := vs) (i := i) (by omega))
    have k2 := ix_nat (cols_at hi)
    have k3 := fld_rows h.f2 S cs
    have k4 : prOf T S (colO cs) sRows = none := h.p2
    have k5 := col_sz (cs.getD i ([], 0))
    have k6 : ∀ a b : Int, opBcl .min [.int a, .int b] = some (.fz (.int (lessV a b))) := fun _ _ => rfl
    have k7 : ∀ a b : Int, opBin .Add (.int a) (.int b) = some (.fz (.int (a + b))) := fun _ _ => rfl
    have k8 : ∀ a b : Int, opBin .Sub (.int a) (.int b) = some (.fz (.int (a - b))) := fun _ _ => rfl
    simp only [meM, e_cons, e_nil, asg_eq, ret_eq, iff_eq, tas_eq, exp_eq, apd_eq, apx_eq, sst_eq, ins_eq, par_eq, n_var, n_non, n_bl, n_int, n_str, n_glob, n_bin, n_neg, n_cmp, q_lt, q_le, q_gt, q_ge, q_is, q_nis, q_in, q_nin, q_eq, q_ne, Option.map_none, ifM_none, n_chn, n_and, n_or, n_not, n_ite, n_tup, n_lst, n_idx, n_slc, n_call, n_lend, n_lens, n_callk, n_mth, n_mthk, n_fld, n_ixo, n_isc, n_rev, n_fmt, n_fst, n_lc, n_lc2, n_bcl, b_len, b_int, b_all, b_list, b_tuple, b_str, b_min, s_non, s_bl, s_int, s_str, s_lst, s_tup, p_obj, n_isi, n_rep, n_join, denB, denEs, denBs, denO, denI, denF, rdV, rdB, List.getElem?_cons_zero, List.getElem?_cons_succ, List.set_cons_zero, List.set_cons_succ, Res.bind_ok, Res.map_ok, RV.d, ofO_some, FRes.res_ok, thenS_ok, seq_nx, seq_rt, out_rt, out_nx, tstR_bl, if_true, if_false, Bool.false_eq_true, Option.map_some, List.length_cons, List.length_nil, Nat.zero_add, Nat.reduceAdd, noX_ok, k1, k4, k3, k2, k5, k6, k7, k8]
/-! ### the law's own -/
def bD (cs : List Col) : D := .lst [.lst (cs.map colD), .lst [.str "a"], .lst [], .lst [], .non, .lst []]
def bSpotL : LSs := .cons (.ret (.ixo (.lc [2] (.idx (.var 2) (.int 0)) (.name 2) (.seq (.idx (.var 0) (.int 0))) (.nil)) (.var 1))) .nil
abbrev spotL (T : Tab) : Fn := denDef T 2 3 bSpotL
theorem b_rows (cs : List Col) : opIdx (bD cs) (.int 0) = some (.fz (.lst (cs.map colD))) := lat0 _ _
theorem names_lc3 (cs : List Col) (hl : cs.length ≤ 1000) (S : Mem) (r0 r1 : Option RV) :
    lcRun [2] (lcBody T .nil (.idx (.var 2) (.int 0)) (.name 2)) [r0, r1, none] (cs.map colD) S = .ok (.own (cs.map nmD)) [r0, r1, none] S := by
  obtain ⟨ρ', e, x, h⟩ := lc_map (vs := [2]) (S := S) (f := lcBody T .nil (.idx (.var 2) (.int 0)) (.name 2)) (I := fun ρ => ∃ x, ρ = [r0, r1, x]) (g := fun d => match d with | .tup (x :: _) => x | _ => .non) (cs.map colD) [] [r0, r1, none] ⟨none, rfl⟩ (fun d hd ρ hI => by
    obtain ⟨x, rfl⟩ := hI
    rw [List.mem_map] at hd
    obtain ⟨c, hc, rfl⟩ := hd
    refine ⟨[r0, r1, some (.fz (colD c))], ?_, _, rfl⟩
    simp only [lcBody, colD, wipeE, Tg.put, denC, e_cons, e_nil, asg_eq, ret_eq, iff_eq, tas_eq, exp_eq, apd_eq, apx_eq, sst_eq, ins_eq, par_eq, n_var, n_non, n_bl, n_int, n_str, n_glob, n_bin, n_neg, n_cmp, q_lt, q_le, q_gt, q_ge, q_is, q_nis, q_in, q_nin, q_eq, q_ne, Option.map_none, ifM_none, n_chn, n_and, n_or, n_not, n_ite, n_tup, n_lst, n_idx, n_slc, n_call, n_lend, n_lens, n_callk, n_mth, n_mthk, n_fld, n_ixo, n_isc, n_rev, n_fmt, n_fst, n_lc, n_lc2, n_bcl, b_len, b_int, b_all, b_list, b_tuple, b_str, b_min, s_non, s_bl, s_int, s_str, s_lst, s_tup, p_obj, n_isi, n_rep, n_join, denB, denEs, denBs, denO, denI, denF, rdV, rdB, List.getElem?_cons_zero, List.getElem?_cons_succ, List.set_cons_zero, List.set_cons_succ, Res.bind_ok, Res.map_ok, RV.d, ofO_some, FRes.res_ok, thenS_ok, seq_nx, seq_rt, out_rt, out_nx, tstR_bl, if_true, if_false, Bool.false_eq_true, Option.map_some, List.length_cons, List.length_nil, Nat.zero_add, Nat.reduceAdd, noX_ok, tat0]) (le_line (by rw [List.length_map]; show 0 + cs.length ≤ 1000; omega))
  unfold lcRun
  rw [if_neg (by simp [noOwn]), e, h]
  rw [List.nil_append, List.map_map]
  rfl
theorem spotL_ok {cs : List Col} (hc : ColsOk cs) {i : Nat} {c : Col} (h : cs[i]? = some c) (S : Mem) : spotL T [bD cs, .str (S8 c.1)] S = .ok (.fz (.int (i : Nat))) S := by
  have hlen := hc.len
  have hlow : ∀ c ∈ cs, Lower c.1 := fun c h => (hc.ok c h).1
  refine (e_def (T := T) (b := bSpotL) (np := 2) (n := 3) (ds := [bD cs, .str (S8 c.1)]) [some (.fz (bD cs)), some (.fz (.str (S8 c.1))), none] rfl rfl).trans ?_
  have k3 := names_lc3 (T := T) cs (by omega) S (some (.fz (bD cs))) (some (.fz (.str (S8 c.1))))
  have k6 := ixo_names h hc.nd hlow (by omega)
  have k7 : itemsOf (.lst (cs.map colD)) = some (cs.map colD) := rfl
  simp only [bSpotL, e_cons, e_nil, asg_eq, ret_eq, iff_eq, tas_eq, exp_eq, apd_eq, apx_eq, sst_eq, ins_eq, par_eq, n_var, n_non, n_bl, n_int, n_str, n_glob, n_bin, n_neg, n_cmp, q_lt, q_le, q_gt, q_ge, q_is, q_nis, q_in, q_nin, q_eq, q_ne, Option.map_none, ifM_none, n_chn, n_and, n_or, n_not, n_ite, n_tup, n_lst, n_idx, n_slc, n_call, n_lend, n_lens, n_callk, n_mth, n_mthk, n_fld, n_ixo, n_isc, n_rev, n_fmt, n_fst, n_lc, n_lc2, n_bcl, b_len, b_int, b_all, b_list, b_tuple, b_str, b_min, s_non, s_bl, s_int, s_str, s_lst, s_tup, p_obj, n_isi, n_rep, n_join, denB, denEs, denBs, denO, denI, denF, rdV, rdB, List.getElem?_cons_zero, List.getElem?_cons_succ, List.set_cons_zero, List.set_cons_succ, Res.bind_ok, Res.map_ok, RV.d, ofO_some, FRes.res_ok, thenS_ok, seq_nx, seq_rt, out_rt, out_nx, tstR_bl, if_true, if_false, Bool.false_eq_true, Option.map_some, List.length_cons, List.length_nil, Nat.zero_add, Nat.reduceAdd, noX_ok, b_rows, k7, k3, k6]
def seL (sp n : Nat) : LE := .call sp (.cons (.var 0) (.cons (.var n) .nil))
def meL : LE := .bcl .min (.cons (.lst (.cons (.bin .Add (.idx (.var 3) (.var 7)) (.var 6)) (.cons (.bin .Sub (.idx (.idx (.idx (.var 0) (.int 0)) (.var 7)) (.int 1)) (.int 1)) .nil))) .nil)
abbrev fitsL (T : Tab) (sp : Nat) : Fn := denDef T 3 5 (bFits (seL sp 3))
abbrev chgL (T : Tab) (sp : Nat) : Fn := denDef T 3 8 (bChg (seL sp 4) meL)
theorem fitsL_ok {sp : Nat} (h : T.fn sp = some (spotL Ts)) {cs : List Col} (hc : ColsOk cs) {vs : List Int} {ts : List (Nat × Int)} (hv : vs.length = cs.length) (ht : ∀ t ∈ ts, t.1 < cs.length) (hl : ts.length ≤ 1000) (S : Mem) :
    fitsL T sp [bD cs, lookD vs, .tup (ts.map (testD cs))] S = .ok (.fz (.bl (fitV vs ts))) S :=
  fits_gen hv ht hl fun r2 i c v hi => by
    have k2 := spotL_ok (T := Ts) hc hi S
    simp only [seL, e_cons, e_nil, asg_eq, ret_eq, iff_eq, tas_eq, exp_eq, apd_eq, apx_eq, sst_eq, ins_eq, par_eq, n_var, n_non, n_bl, n_int, n_str, n_glob, n_bin, n_neg, n_cmp, q_lt, q_le, q_gt, q_ge, q_is, q_nis, q_in, q_nin, q_eq, q_ne, Option.map_none, ifM_none, n_chn, n_and, n_or, n_not, n_ite, n_tup, n_lst, n_idx, n_slc, n_call, n_lend, n_lens, n_callk, n_mth, n_mthk, n_fld, n_ixo, n_isc, n_rev, n_fmt, n_fst, n_lc, n_lc2, n_bcl, b_len, b_int, b_all, b_list, b_tuple, b_str, b_min, s_non, s_bl, s_int, s_str, s_lst, s_tup, p_obj, n_isi, n_rep, n_join, denB, denEs, denBs, denO, denI, denF, rdV, rdB, List.getElem?_cons_zero, List.getElem?_cons_succ, List.set_cons_zero, List.set_cons_succ, Res.bind_ok, Res.map_ok, RV.d, ofO_some, FRes.res_ok, thenS_ok, seq_nx, seq_rt, out_rt, out_nx, tstR_bl, if_true, if_false, Bool.false_eq_true, Option.map_some, List.length_cons, List.length_nil, Nat.zero_add, Nat.reduceAdd, noX_ok, h, k2]
theorem chgL_ok {sp : Nat} (h : T.fn sp = some (spotL Ts)) {cs : List Col} (hc : ColsOk cs) {vs : List Int} {ts : List Chg} (hv : vs.length = cs.length) (ht : ∀ t ∈ ts, t.at_ < cs.length) (S : Mem) :
    chgL T sp [bD cs, lookD vs, .tup (ts.map (chgD cs))] S = .ok (.fz (lookD (ts.foldl (stepV cs) vs))) S :=
  chg_gen hv ht (fun r1 r2 r3 r5 r6 r7 i c hi => by
    have k2 := spotL_ok (T := Ts) hc hi S
    simp only [seL, e_cons, e_nil, asg_eq, ret_eq, iff_eq, tas_eq, exp_eq, apd_eq, apx_eq, sst_eq, ins_eq, par_eq, n_var, n_non, n_bl, n_int, n_str, n_glob, n_bin, n_neg, n_cmp, q_lt, q_le, q_gt, q_ge, q_is, q_nis, q_in, q_nin, q_eq, q_ne, Option.map_none, ifM_none, n_chn, n_and, n_or, n_not, n_ite, n_tup, n_lst, n_idx, n_slc, n_call, n_lend, n_lens, n_callk, n_mth, n_mthk, n_fld, n_ixo, n_isc, n_rev, n_fmt, n_fst, n_lc, n_lc2, n_bcl, b_len, b_int, b_all, b_list, b_tuple, b_str, b_min, s_non, s_bl, s_int, s_str, s_lst, s_tup, p_obj, n_isi, n_rep, n_join, denB, denEs, denBs, denO, denI, denF, rdV, rdB, List.getElem?_cons_zero, List.getElem?_cons_succ, List.set_cons_zero, List.set_cons_succ, Res.bind_ok, Res.map_ok, RV.d, ofO_some, FRes.res_ok, thenS_ok, seq_nx, seq_rt, out_rt, out_nx, tstR_bl, if_true, if_false, Bool.false_eq_true, Option.map_some, List.length_cons, List.length_nil, Nat.zero_add, Nat.reduceAdd, noX_ok, h, k2]) fun r1 r2 r4 r5 i vs v hv hi => by
    have k1 := ix_nat (ints_at (vs := vs) (i := i) (by omega))
    have k2 := ix_nat (cols_at hi)
    have k5 := col_sz (cs.getD i ([], 0))
    have k6 : ∀ a b : Int, opBcl .min [.lst [.int a, .int b]] = some (.fz (.int (lessV a b))) := fun _ _ => rfl
    have k7 : ∀ a b : Int, opBin .Add (.int a) (.int b) = some (.fz (.int (a + b))) := fun _ _ => rfl
    have k8 : ∀ a b : Int, opBin .Sub (.int a) (.int b) = some (.fz (.int (a - b))) := fun _ _ => rfl
    have z : (2 : Nat) ≤ LINE := by decide
    simp only [meL, e_cons, e_nil, asg_eq, ret_eq, iff_eq, tas_eq, exp_eq, apd_eq, apx_eq, sst_eq, ins_eq, par_eq, n_var, n_non, n_bl, n_int, n_str, n_glob, n_bin, n_neg, n_cmp, q_lt, q_le, q_gt, q_ge, q_is, q_nis, q_in, q_nin, q_eq, q_ne, Option.map_none, ifM_none, n_chn, n_and, n_or, n_not, n_ite, n_tup, n_lst, n_idx, n_slc, n_call, n_lend, n_lens, n_callk, n_mth, n_mthk, n_fld, n_ixo, n_isc, n_rev, n_fmt, n_fst, n_lc, n_lc2, n_bcl, b_len, b_int, b_all, b_list, b_tuple, b_str, b_min, s_non, s_bl, s_int, s_str, s_lst, s_tup, p_obj, n_isi, n_rep, n_join, denB, denEs, denBs, denO, denI, denF, rdV, rdB, List.getElem?_cons_zero, List.getElem?_cons_succ, List.set_cons_zero, List.set_cons_succ, Res.bind_ok, Res.map_ok, RV.d, ofO_some, FRes.res_ok, thenS_ok, seq_nx, seq_rt, out_rt, out_nx, tstR_bl, if_true, if_false, Bool.false_eq_true, Option.map_some, List.length_cons, List.length_nil, Nat.zero_add, Nat.reduceAdd, noX_ok, k1, b_rows, k2, k5, k6, k7, k8, z]
/-! ### drawing -/
theorem map_of {α : Type} {p : α → Prop} {g : α → D} : ∀ {ys : List D}, (∀ y ∈ ys, ∃ a, p a ∧ y = g a) → ∃ as : List α, ys = as.map g ∧ ∀ a ∈ as, p a
  | [], _ => ⟨[], rfl, fun a h => by cases h⟩
  | y :: ys, h => by
    obtain ⟨a, h1, rfl⟩ := h y List.mem_cons_self
    obtain ⟨as, rfl, h2⟩ := map_of fun z hz => h z (List.mem_cons_of_mem _ hz)
    exact ⟨a :: as, rfl, fun b hb => by
      rcases List.mem_cons.mp hb with rfl | hb
      · exact h1
      · exact h2 b hb⟩
/-- some of the items -/
theorem lc_some {vs : List Nat} {f : D → Rho → Mem → Res (Option D)} {I : Rho → Mem → Prop} : ∀ (ds : List D) (acc : List D) (ρ : Rho) (S : Mem), I ρ S →
    (∀ d ∈ ds, ∀ ρ S, I ρ S → ∃ o ρ' S', f d (wipeE ρ vs) S = .ok o ρ' S' ∧ I ρ' S' ∧ (o = none ∨ o = some d)) → acc.length + ds.length ≤ LINE →
    ∃ (ys : List D) (ρ' : Rho) (S' : Mem), lcLoop vs f ds acc ρ S = .ok (acc ++ ys) ρ' S' ∧ I ρ' S' ∧ ys.length ≤ ds.length ∧ ∀ y ∈ ys, y ∈ ds
  | [], acc, ρ, S, hI, _, _ => ⟨[], ρ, S, by rw [List.append_nil]; rfl, hI, Nat.le_refl _, fun y h => by cases h⟩
  | d :: ds, acc, ρ, S, hI, hf, hl => by
    rw [List.length_cons] at hl
    obtain ⟨o, ρ1, S1, e1, h1, r1⟩ := hf d List.mem_cons_self ρ S hI
    rcases r1 with rfl | rfl
    · obtain ⟨ys, ρ2, S2, e2, h2, h3, h4⟩ := lc_some ds acc ρ1 S1 h1 (fun x hx => hf x (List.mem_cons_of_mem _ hx)) (by omega)
      refine ⟨ys, ρ2, S2, ?_, h2, by rw [List.length_cons]; omega, fun y hy => List.mem_cons_of_mem _ (h4 y hy)⟩
      unfold lcLoop
      simp only [e1, noX_ok, Res.bind_ok]
      exact e2
    · obtain ⟨ys, ρ2, S2, e2, h2, h3, h4⟩ := lc_some ds (acc ++ [d]) ρ1 S1 h1 (fun x hx => hf x (List.mem_cons_of_mem _ hx)) (by rw [List.length_append]; simp; omega)
      refine ⟨d :: ys, ρ2, S2, ?_, h2, by rw [List.length_cons, List.length_cons]; omega, fun y hy => ?_⟩
      · unfold lcLoop
        simp only [e1, noX_ok, Res.bind_ok]
        rw [if_pos (by omega), e2, List.append_assoc]
        rfl
      · rcases List.mem_cons.mp hy with rfl | hy
        · exact List.mem_cons_self
        · exact List.mem_cons_of_mem _ (h4 y hy)
theorem pulled_all {ds ys : List D} {R : D → D → Prop} {P : D → Prop} (hl : ys.length = ds.length) (h : ∀ (i : Nat) (d y : D), ds[i]? = some d → ys[i]? = some y → R d y) (hp : ∀ d ∈ ds, ∀ y, R d y → P y) : ∀ y ∈ ys, P y := fun y hy => by
  obtain ⟨i, hi, rfl⟩ := List.mem_iff_getElem.mp hy
  have hi2 : i < ds.length := by omega
  exact hp _ (List.getElem_mem hi2) _ (h i _ _ (List.getElem?_eq_getElem hi2) (List.getElem?_eq_getElem hi))
/-! mixed -/
def bMixed (p : Nat) : LSs := .cons (.asg 2 (.lst (.nil))) (.cons (.forr (.name 3) (.seq (.var 1)) (.cons (.ins 2 (.call p (.cons (.var 0) (.cons (.bin .Add (.bcl .len (.cons (.var 2) .nil)) (.int 1)) .nil))) (.var 3)) .nil)) (.cons (.ret (.var 2)) .nil))
abbrev mixedF (T : Tab) (p : Nat) : Fn := denDef T 2 4 (bMixed p)
theorem mixed_ex {p : Nat} (hp : T.fn p = some pullFn) (b : Bag) (os : List Ob) (ds : List D) (hl : ds.length ≤ 1000) :
    ∃ ys b', mixedF T p [.loc 0, .lst ds] ⟨.bag b :: os⟩ = .ok (.fz (.lst ys)) ⟨.bag b' :: os⟩ ∧ ys.length = ds.length ∧ ∀ y ∈ ys, y ∈ ds := by
  have key : ∀ (ds acc : List D) (b : Bag) (r1 r3 : Option RV), acc.length + ds.length ≤ 1000 → ∃ ys b' r3', forLoop (.name 3) (denSs T (.cons (.ins 2 (.call p (.cons (.var 0) (.cons (.bin .Add (.bcl .len (.cons (.var 2) .nil)) (.int 1)) .nil))) (.var 3)) .nil)) ds [some (.fz (.loc 0)), r1, some (.own acc), r3] ⟨.bag b :: os⟩ = .nx [some (.fz (.loc 0)), r1, some (.own ys), r3'] ⟨.bag b' :: os⟩ ∧ ys.length = acc.length + ds.length ∧ ∀ y ∈ ys, y ∈ acc ∨ y ∈ ds := by
    intro ds
    induction ds with
    | nil => intro acc b r1 r3 _; exact ⟨acc, b, r3, rfl, rfl, fun y hy => .inl hy⟩
    | cons d ds ih =>
      intro acc b r1 r3 hl
      rw [List.length_cons] at hl
      obtain ⟨r, b1, e1, q1, q2⟩ := pull_ex b os (k := (acc.length : Int) + 1) (by omega) (by omega)
      obtain ⟨i, rfl⟩ := Int.eq_ofNat_of_zero_le q1
      have hi : i ≤ acc.length := by have : (i : Int) < acc.length + 1 := q2; omega
      obtain ⟨ys, b', r3', e2, h1, h2⟩ := ih (acc.take i ++ [d] ++ acc.drop i) b1 r1 (some (.fz d)) (by simp [List.length_take, List.length_drop]; omega)
      refine ⟨ys, b', r3', ?_, ?_, fun y hy => ?_⟩
      · rw [← e2]
        conv => lhs; unfold forLoop
        have k1 : opBcl .len [.lst acc] = some (.fz (.int acc.length)) := rfl
        have k2 : opBin .Add (.int acc.length) (.int 1) = some (.fz (.int ((acc.length : Int) + 1))) := rfl
        have k3 : ownAt 2 [some (.fz (.loc 0)), r1, some (.own acc), some (.fz d)] = true := rfl
        have k4 : insO 2 (.int (i : Nat)) d [some (.fz (.loc 0)), r1, some (.own acc), some (.fz d)] = some [some (.fz (.loc 0)), r1, some (.own (acc.take i ++ [d] ++ acc.drop i)), some (.fz d)] := by
          show (if acc.length < LINE ∧ _ ∧ _ then _ else none) = _
          rw [if_pos ⟨Nat.lt_of_lt_of_le (show acc.length < 1001 by omega) (show 1001 ≤ LINE by decide), by simp, le_line (by simp; omega)⟩]
          simp
        simp only [Tg.put, e_cons, e_nil, asg_eq, ret_eq, iff_eq, tas_eq, exp_eq, apd_eq, apx_eq, sst_eq, ins_eq, par_eq, n_var, n_non, n_bl, n_int, n_str, n_glob, n_bin, n_neg, n_cmp, q_lt, q_le, q_gt, q_ge, q_is, q_nis, q_in, q_nin, q_eq, q_ne, Option.map_none, ifM_none, n_chn, n_and, n_or, n_not, n_ite, n_tup, n_lst, n_idx, n_slc, n_call, n_lend, n_lens, n_callk, n_mth, n_mthk, n_fld, n_ixo, n_isc, n_rev, n_fmt, n_fst, n_lc, n_lc2, n_bcl, b_len, b_int, b_all, b_list, b_tuple, b_str, b_min, s_non, s_bl, s_int, s_str, s_lst, s_tup, p_obj, n_isi, n_rep, n_join, denB, denEs, denBs, denO, denI, denF, rdV, rdB, List.getElem?_cons_zero, List.getElem?_cons_succ, List.set_cons_zero, List.set_cons_succ, Res.bind_ok, Res.map_ok, RV.d, ofO_some, FRes.res_ok, thenS_ok, seq_nx, seq_rt, out_rt, out_nx, tstR_bl, if_true, if_false, Bool.false_eq_true, Option.map_some, List.length_cons, List.length_nil, Nat.zero_add, Nat.reduceAdd, noX_ok, hp, k1, k2, e1, k3, k4, Bool.true_eq_false]
      · rw [h1]
        simp [List.length_take, List.length_drop]
        omega
      · rcases h2 y hy with h | h
        · simp only [List.mem_append, List.mem_singleton] at h
          rcases h with (h | h) | h
          · exact .inl (List.mem_of_mem_take h)
          · exact .inr (by rw [h]; exact List.mem_cons_self)
          · exact .inl (List.mem_of_mem_drop h)
        · exact .inr (List.mem_cons_of_mem _ h)
  obtain ⟨ys, b', r3', e, h1, h2⟩ := key ds [] b (some (.fz (.lst ds))) none (by simpa using hl)
  refine ⟨ys, b', ?_, by simpa using h1, fun y hy => (h2 y hy).resolve_left (by simp)⟩
  refine (e_def (T := T) (b := bMixed p) (np := 2) (n := 4) (ds := [.loc 0, .lst ds]) [some (.fz (.loc 0)), some (.fz (.lst ds)), none, none] rfl rfl).trans ?_
  have z0 : (0 : Nat) ≤ LINE := Nat.zero_le _
  have k1 : itemsOf (.lst ds) = some ds := rfl
  simp only [bMixed, e_cons, e_nil, asg_eq, ret_eq, iff_eq, tas_eq, exp_eq, apd_eq, apx_eq, sst_eq, ins_eq, par_eq, n_var, n_non, n_bl, n_int, n_str, n_glob, n_bin, n_neg, n_cmp, q_lt, q_le, q_gt, q_ge, q_is, q_nis, q_in, q_nin, q_eq, q_ne, Option.map_none, ifM_none, n_chn, n_and, n_or, n_not, n_ite, n_tup, n_lst, n_idx, n_slc, n_call, n_lend, n_lens, n_callk, n_mth, n_mthk, n_fld, n_ixo, n_isc, n_rev, n_fmt, n_fst, n_lc, n_lc2, n_bcl, b_len, b_int, b_all, b_list, b_tuple, b_str, b_min, s_non, s_bl, s_int, s_str, s_lst, s_tup, p_obj, n_isi, n_rep, n_join, denB, denEs, denBs, denO, denI, denF, rdV, rdB, List.getElem?_cons_zero, List.getElem?_cons_succ, List.set_cons_zero, List.set_cons_succ, Res.bind_ok, Res.map_ok, RV.d, ofO_some, FRes.res_ok, thenS_ok, seq_nx, seq_rt, out_rt, out_nx, tstR_bl, if_true, if_false, Bool.false_eq_true, Option.map_some, List.length_cons, List.length_nil, Nat.zero_add, Nat.reduceAdd, noX_ok, z0, for_eq, denIF, k1, e]
end
end Sh


/-! ShCol3: looks, tests, changes, shapes, as the laws draw them. -/
namespace Sh
open PySem PySem.Spec PyProof.Rows L2
section
variable {T Ts : Tab}
/-! look -/
def bLook (p : Nat) : LSs := .cons (.ret (.bcl .tuple (.cons (.lc [2, 3] (.call p (.cons (.var 0) (.cons (.var 3) .nil))) (.tup [2, 3]) (.seq (.var 1)) (.nil)) .nil))) .nil
abbrev lookF (T : Tab) (p : Nat) : Fn := denDef T 2 4 (bLook p)
theorem look_ex {p : Nat} (hp : T.fn p = some pullFn) (b : Bag) (os : List Ob) {cs : List Col} (hc : ColsOk cs) :
    ∃ vs b', lookF T p [.loc 0, .lst (cs.map colD)] ⟨.bag b :: os⟩ = .ok (.fz (lookD vs)) ⟨.bag b' :: os⟩ ∧ vs.length = cs.length := by
  have hlen := hc.len
  obtain ⟨ys, ρ', S', e, ⟨x, y, b', hρ, rfl⟩, hyl, hR⟩ := lc_all (vs := [2, 3]) (f := lcBody T .nil (.call p (.cons (.var 0) (.cons (.var 3) .nil))) (.tup [2, 3])) (I := fun ρ S => ∃ x y b', ρ = [some (.fz (.loc 0)), some (.fz (.lst (cs.map colD))), x, y] ∧ S = ⟨.bag b' :: os⟩) (R := fun _ y => ∃ v : Int, y = .int v) (cs.map colD) [] [some (.fz (.loc 0)), some (.fz (.lst (cs.map colD))), none, none] ⟨.bag b :: os⟩ ⟨none, none, b, rfl, rfl⟩ (fun d hd ρ S hI => by
    obtain ⟨x, y, b1, rfl, rfl⟩ := hI
    rw [List.mem_map] at hd
    obtain ⟨c, hcm, rfl⟩ := hd
    have hco := hc.ok c hcm
    obtain ⟨r, b2, e1, _, _⟩ := pull_ex b1 os (k := (c.2 : Nat)) (by have := hco.2.2.2.1; omega) (by have := hco.2.2.2.2; omega)
    refine ⟨.int r, [some (.fz (.loc 0)), some (.fz (.lst (cs.map colD))), some (.fz (.str (S8 c.1))), some (.fz (.int (c.2 : Nat)))], ⟨.bag b2 :: os⟩, ?_, ⟨_, _, b2, rfl, rfl⟩, r, rfl⟩
    simp only [lcBody, colD, wipeE, Tg.put, setAll, denC, e_cons, e_nil, asg_eq, ret_eq, iff_eq, tas_eq, exp_eq, apd_eq, apx_eq, sst_eq, ins_eq, par_eq, n_var, n_non, n_bl, n_int, n_str, n_glob, n_bin, n_neg, n_cmp, q_lt, q_le, q_gt, q_ge, q_is, q_nis, q_in, q_nin, q_eq, q_ne, Option.map_none, ifM_none, n_chn, n_and, n_or, n_not, n_ite, n_tup, n_lst, n_idx, n_slc, n_call, n_lend, n_lens, n_callk, n_mth, n_mthk, n_fld, n_ixo, n_isc, n_rev, n_fmt, n_fst, n_lc, n_lc2, n_bcl, b_len, b_int, b_all, b_list, b_tuple, b_str, b_min, s_non, s_bl, s_int, s_str, s_lst, s_tup, p_obj, n_isi, n_rep, n_join, denB, denEs, denBs, denO, denI, denF, rdV, rdB, List.getElem?_cons_zero, List.getElem?_cons_succ, List.set_cons_zero, List.set_cons_succ, Res.bind_ok, Res.map_ok, RV.d, ofO_some, FRes.res_ok, thenS_ok, seq_nx, seq_rt, out_rt, out_nx, tstR_bl, if_true, if_false, Bool.false_eq_true, Option.map_some, List.length_cons, List.length_nil, Nat.zero_add, Nat.reduceAdd, noX_ok, hp, e1]) (le_line (by rw [List.length_map, List.length_nil]; omega))
  obtain ⟨vs, rfl, _⟩ := map_of (p := fun _ : Int => True) (g := D.int) (pulled_all hyl hR (P := fun y => ∃ a : Int, True ∧ y = .int a) fun d _ y ⟨v, h⟩ => ⟨v, trivial, h⟩)
  refine ⟨vs, b', ?_, by simpa using hyl⟩
  refine (e_def (T := T) (b := bLook p) (np := 2) (n := 4) (ds := [.loc 0, .lst (cs.map colD)]) [some (.fz (.loc 0)), some (.fz (.lst (cs.map colD))), none, none] rfl rfl).trans ?_
  have k1 : itemsOf (.lst (cs.map colD)) = some (cs.map colD) := rfl
  have k2 : opBcl .tuple [.lst (vs.map .int)] = some (.fz (lookD vs)) := rfl
  have k3 : lcRun [2, 3] (lcBody T .nil (.call p (.cons (.var 0) (.cons (.var 3) .nil))) (.tup [2, 3])) [some (.fz (.loc 0)), some (.fz (.lst (cs.map colD))), none, none] (cs.map colD) ⟨.bag b :: os⟩ = .ok (.own (vs.map .int)) [some (.fz (.loc 0)), some (.fz (.lst (cs.map colD))), none, none] ⟨.bag b' :: os⟩ := by
    unfold lcRun
    rw [if_neg (by simp [noOwn]), e, hρ]
    rfl
  simp only [bLook, e_cons, e_nil, asg_eq, ret_eq, iff_eq, tas_eq, exp_eq, apd_eq, apx_eq, sst_eq, ins_eq, par_eq, n_var, n_non, n_bl, n_int, n_str, n_glob, n_bin, n_neg, n_cmp, q_lt, q_le, q_gt, q_ge, q_is, q_nis, q_in, q_nin, q_eq, q_ne, Option.map_none, ifM_none, n_chn, n_and, n_or, n_not, n_ite, n_tup, n_lst, n_idx, n_slc, n_call, n_lend, n_lens, n_callk, n_mth, n_mthk, n_fld, n_ixo, n_isc, n_rev, n_fmt, n_fst, n_lc, n_lc2, n_bcl, b_len, b_int, b_all, b_list, b_tuple, b_str, b_min, s_non, s_bl, s_int, s_str, s_lst, s_tup, p_obj, n_isi, n_rep, n_join, denB, denEs, denBs, denO, denI, denF, rdV, rdB, List.getElem?_cons_zero, List.getElem?_cons_succ, List.set_cons_zero, List.set_cons_succ, Res.bind_ok, Res.map_ok, RV.d, ofO_some, FRes.res_ok, thenS_ok, seq_nx, seq_rt, out_rt, out_nx, tstR_bl, if_true, if_false, Bool.false_eq_true, Option.map_some, List.length_cons, List.length_nil, Nat.zero_add, Nat.reduceAdd, noX_ok, k1, k3, k2]
/-! tests -/
def bTests (p m : Nat) : LSs := .cons (.asg 3 (.lc [4, 5] (.tup (.cons (.var 4) (.cons (.call p (.cons (.var 0) (.cons (.var 5) .nil))) .nil))) (.tup [4, 5]) (.seq (.var 1)) (.nil))) (.cons (.ret (.bcl .tuple (.cons (.call m (.cons (.var 0) (.cons (.lc [6] (.var 6) (.name 6) (.seq (.var 3)) (.cons (.cmp .Eq (.call p (.cons (.var 0) (.cons (.var 2) .nil))) (.int 0)) .nil)) .nil))) .nil))) .nil)
abbrev testsF (T : Tab) (p m : Nat) : Fn := denDef T 3 7 (bTests p m)
/-- a drawn share of a list -/
theorem share_ex {p : Nat} (hp : T.fn p = some pullFn) (b : Bag) (os : List Ob) (r1 r4 r5 : Option RV) (ds : List D) (hl : ds.length ≤ 1000) (n45 : noOwn [r4, r5] [] = true) :
    ∃ ys b', lcRun [6] (lcBody T (.cons (.cmp .Eq (.call p (.cons (.var 0) (.cons (.var 2) .nil))) (.int 0)) .nil) (.var 6) (.name 6)) [some (.fz (.loc 0)), r1, some (.fz (.int 2)), some (.own ds), r4, r5, none] ds ⟨.bag b :: os⟩ = .ok (.own ys) [some (.fz (.loc 0)), r1, some (.fz (.int 2)), some (.own ds), r4, r5, none] ⟨.bag b' :: os⟩ ∧ ys.length ≤ ds.length ∧ ∀ y ∈ ys, y ∈ ds := by
  obtain ⟨ys, ρ', S', e, ⟨x, b', hρ, rfl⟩, h1, h2⟩ := lc_some (vs := [6]) (f := lcBody T (.cons (.cmp .Eq (.call p (.cons (.var 0) (.cons (.var 2) .nil))) (.int 0)) .nil) (.var 6) (.name 6)) (I := fun ρ S => ∃ x b', ρ = [some (.fz (.loc 0)), r1, some (.fz (.int 2)), some (.own ds), r4, r5, x] ∧ S = ⟨.bag b' :: os⟩) ds [] [some (.fz (.loc 0)), r1, some (.fz (.int 2)), some (.own ds), r4, r5, none] ⟨.bag b :: os⟩ ⟨none, b, rfl, rfl⟩ (fun d hd ρ S hI => by
    obtain ⟨x, b1, rfl, rfl⟩ := hI
    obtain ⟨r, b2, e1, _, _⟩ := pull_ex b1 os (k := 2) (by omega) (by omega)
    by_cases h : r = 0
    · refine ⟨some d, [some (.fz (.loc 0)), r1, some (.fz (.int 2)), some (.own ds), r4, r5, some (.fz d)], ⟨.bag b2 :: os⟩, ?_, ⟨_, b2, rfl, rfl⟩, .inr rfl⟩
      simp only [lcBody, wipeE, Tg.put, denC, e_cons, e_nil, asg_eq, ret_eq, iff_eq, tas_eq, exp_eq, apd_eq, apx_eq, sst_eq, ins_eq, par_eq, n_var, n_non, n_bl, n_int, n_str, n_glob, n_bin, n_neg, n_cmp, q_lt, q_le, q_gt, q_ge, q_is, q_nis, q_in, q_nin, q_eq, q_ne, Option.map_none, ifM_none, n_chn, n_and, n_or, n_not, n_ite, n_tup, n_lst, n_idx, n_slc, n_call, n_lend, n_lens, n_callk, n_mth, n_mthk, n_fld, n_ixo, n_isc, n_rev, n_fmt, n_fst, n_lc, n_lc2, n_bcl, b_len, b_int, b_all, b_list, b_tuple, b_str, b_min, s_non, s_bl, s_int, s_str, s_lst, s_tup, p_obj, n_isi, n_rep, n_join, denB, denEs, denBs, denO, denI, denF, rdV, rdB, List.getElem?_cons_zero, List.getElem?_cons_succ, List.set_cons_zero, List.set_cons_succ, Res.bind_ok, Res.map_ok, RV.d, ofO_some, FRes.res_ok, thenS_ok, seq_nx, seq_rt, out_rt, out_nx, tstR_bl, if_true, if_false, Bool.false_eq_true, Option.map_some, List.length_cons, List.length_nil, Nat.zero_add, Nat.reduceAdd, noX_ok, hp, e1, int_eq, h, decide_true]
    · refine ⟨none, [some (.fz (.loc 0)), r1, some (.fz (.int 2)), some (.own ds), r4, r5, some (.fz d)], ⟨.bag b2 :: os⟩, ?_, ⟨_, b2, rfl, rfl⟩, .inl rfl⟩
      simp only [lcBody, wipeE, Tg.put, denC, e_cons, e_nil, asg_eq, ret_eq, iff_eq, tas_eq, exp_eq, apd_eq, apx_eq, sst_eq, ins_eq, par_eq, n_var, n_non, n_bl, n_int, n_str, n_glob, n_bin, n_neg, n_cmp, q_lt, q_le, q_gt, q_ge, q_is, q_nis, q_in, q_nin, q_eq, q_ne, Option.map_none, ifM_none, n_chn, n_and, n_or, n_not, n_ite, n_tup, n_lst, n_idx, n_slc, n_call, n_lend, n_lens, n_callk, n_mth, n_mthk, n_fld, n_ixo, n_isc, n_rev, n_fmt, n_fst, n_lc, n_lc2, n_bcl, b_len, b_int, b_all, b_list, b_tuple, b_str, b_min, s_non, s_bl, s_int, s_str, s_lst, s_tup, p_obj, n_isi, n_rep, n_join, denB, denEs, denBs, denO, denI, denF, rdV, rdB, List.getElem?_cons_zero, List.getElem?_cons_succ, List.set_cons_zero, List.set_cons_succ, Res.bind_ok, Res.map_ok, RV.d, ofO_some, FRes.res_ok, thenS_ok, seq_nx, seq_rt, out_rt, out_nx, tstR_bl, if_true, if_false, Bool.false_eq_true, Option.map_some, List.length_cons, List.length_nil, Nat.zero_add, Nat.reduceAdd, noX_ok, hp, e1, int_eq, h, decide_false]) (le_line (by rw [List.length_nil]; omega))
  refine ⟨ys, b', ?_, h1, h2⟩
  unfold lcRun
  rw [if_neg (by simp [noOwn]), e, hρ]
  rfl
theorem tests_ex {p m : Nat} {Tm : Tab} (hp : T.fn p = some pullFn) (hm : T.fn m = some (mixedF Tm p)) (hmp : Tm.fn p = some pullFn) (b : Bag) (os : List Ob) {cs : List Col} (hc : ColsOk cs) :
    ∃ (ts : List (Nat × Int)) (b' : Bag), testsF T p m [.loc 0, .lst (cs.map colD), .int 2] ⟨.bag b :: os⟩ = .ok (.fz (.tup (ts.map (testD cs)))) ⟨.bag b' :: os⟩ ∧ ts.length ≤ 3 ∧ ∀ t ∈ ts, t.1 < cs.length := by
  have hlen := hc.len
  obtain ⟨ys, ρ', S', e, ⟨x, y, b1, hρ, rfl⟩, hyl, hR⟩ := lc_all (vs := [4, 5]) (f := lcBody T .nil (.tup (.cons (.var 4) (.cons (.call p (.cons (.var 0) (.cons (.var 5) .nil))) .nil))) (.tup [4, 5])) (I := fun ρ S => ∃ x y b', ρ = [some (.fz (.loc 0)), some (.fz (.lst (cs.map colD))), some (.fz (.int 2)), none, x, y, none] ∧ S = ⟨.bag b' :: os⟩) (R := fun d y => ∀ c : Col, d = colD c → ∃ v : Int, y = .tup [.str (S8 c.1), .int v]) (cs.map colD) [] [some (.fz (.loc 0)), some (.fz (.lst (cs.map colD))), some (.fz (.int 2)), none, none, none, none] ⟨.bag b :: os⟩ ⟨none, none, b, rfl, rfl⟩ (fun d hd ρ S hI => by
    obtain ⟨x, y, b1, rfl, rfl⟩ := hI
    rw [List.mem_map] at hd
    obtain ⟨c, hcm, rfl⟩ := hd
    have hco := hc.ok c hcm
    obtain ⟨r, b2, e1, _, _⟩ := pull_ex b1 os (k := (c.2 : Nat)) (by have := hco.2.2.2.1; omega) (by have := hco.2.2.2.2; omega)
    have z : (2 : Nat) ≤ LINE := by decide
    refine ⟨.tup [.str (S8 c.1), .int r], [some (.fz (.loc 0)), some (.fz (.lst (cs.map colD))), some (.fz (.int 2)), none, some (.fz (.str (S8 c.1))), some (.fz (.int (c.2 : Nat))), none], ⟨.bag b2 :: os⟩, ?_, ⟨_, _, b2, rfl, rfl⟩, fun c' h => ⟨r, ?_⟩⟩
    · simp only [lcBody, colD, wipeE, Tg.put, setAll, denC, e_cons, e_nil, asg_eq, ret_eq, iff_eq, tas_eq, exp_eq, apd_eq, apx_eq, sst_eq, ins_eq, par_eq, n_var, n_non, n_bl, n_int, n_str, n_glob, n_bin, n_neg, n_cmp, q_lt, q_le, q_gt, q_ge, q_is, q_nis, q_in, q_nin, q_eq, q_ne, Option.map_none, ifM_none, n_chn, n_and, n_or, n_not, n_ite, n_tup, n_lst, n_idx, n_slc, n_call, n_lend, n_lens, n_callk, n_mth, n_mthk, n_fld, n_ixo, n_isc, n_rev, n_fmt, n_fst, n_lc, n_lc2, n_bcl, b_len, b_int, b_all, b_list, b_tuple, b_str, b_min, s_non, s_bl, s_int, s_str, s_lst, s_tup, p_obj, n_isi, n_rep, n_join, denB, denEs, denBs, denO, denI, denF, rdV, rdB, List.getElem?_cons_zero, List.getElem?_cons_succ, List.set_cons_zero, List.set_cons_succ, Res.bind_ok, Res.map_ok, RV.d, ofO_some, FRes.res_ok, thenS_ok, seq_nx, seq_rt, out_rt, out_nx, tstR_bl, if_true, if_false, Bool.false_eq_true, Option.map_some, List.length_cons, List.length_nil, Nat.zero_add, Nat.reduceAdd, noX_ok, hp, e1, z]
    · simp only [colD, D.tup.injEq, List.cons.injEq, D.str.injEq] at h
      rw [h.1]) (le_line (by rw [List.length_map, List.length_nil]; omega))
  have hP : ∀ y ∈ ys, ∃ t : Nat × Int, t.1 < cs.length ∧ y = testD cs t := fun y hy => by
    obtain ⟨i, hi, rfl⟩ := List.mem_iff_getElem.mp hy
    rw [List.length_map] at hyl
    have hi2 : i < cs.length := by omega
    obtain ⟨v, hv⟩ := hR i (colD (cs.getD i ([], 0))) ys[i] (cols_at hi2) (List.getElem?_eq_getElem hi) _ rfl
    exact ⟨(i, v), hi2, hv⟩
  rw [List.length_map] at hyl
  obtain ⟨zs, b2, e2, h3, h4⟩ := share_ex (T := T) hp b1 os (some (.fz (.lst (cs.map colD)))) none none ys (by omega) rfl
  obtain ⟨us, b3, e3, h5, h6⟩ := mixed_ex (T := Tm) hmp b2 os zs (by omega)
  obtain ⟨ts, rfl, ht⟩ := map_of (p := fun t : Nat × Int => t.1 < cs.length) (g := testD cs) (ys := us) fun u hu => hP u (h4 u (h6 u hu))
  refine ⟨ts, b3, ?_, by rw [List.length_map] at h5; omega, ht⟩
  refine (e_def (T := T) (b := bTests p m) (np := 3) (n := 7) (ds := [.loc 0, .lst (cs.map colD), .int 2]) [some (.fz (.loc 0)), some (.fz (.lst (cs.map colD))), some (.fz (.int 2)), none, none, none, none] rfl rfl).trans ?_
  have k1 : itemsOf (.lst (cs.map colD)) = some (cs.map colD) := rfl
  have k2 : opBcl .tuple [.lst (ts.map (testD cs))] = some (.fz (.tup (ts.map (testD cs)))) := rfl
  have k3 : lcRun [4, 5] (lcBody T .nil (.tup (.cons (.var 4) (.cons (.call p (.cons (.var 0) (.cons (.var 5) .nil))) .nil))) (.tup [4, 5])) [some (.fz (.loc 0)), some (.fz (.lst (cs.map colD))), some (.fz (.int 2)), none, none, none, none] (cs.map colD) ⟨.bag b :: os⟩ = .ok (.own ys) [some (.fz (.loc 0)), some (.fz (.lst (cs.map colD))), some (.fz (.int 2)), none, none, none, none] ⟨.bag b1 :: os⟩ := by
    unfold lcRun
    rw [if_neg (by simp [noOwn]), e, hρ]
    rfl
  have k4 : itemsOf (.lst ys) = some ys := rfl
  simp only [bTests, e_cons, e_nil, asg_eq, ret_eq, iff_eq, tas_eq, exp_eq, apd_eq, apx_eq, sst_eq, ins_eq, par_eq, n_var, n_non, n_bl, n_int, n_str, n_glob, n_bin, n_neg, n_cmp, q_lt, q_le, q_gt, q_ge, q_is, q_nis, q_in, q_nin, q_eq, q_ne, Option.map_none, ifM_none, n_chn, n_and, n_or, n_not, n_ite, n_tup, n_lst, n_idx, n_slc, n_call, n_lend, n_lens, n_callk, n_mth, n_mthk, n_fld, n_ixo, n_isc, n_rev, n_fmt, n_fst, n_lc, n_lc2, n_bcl, b_len, b_int, b_all, b_list, b_tuple, b_str, b_min, s_non, s_bl, s_int, s_str, s_lst, s_tup, p_obj, n_isi, n_rep, n_join, denB, denEs, denBs, denO, denI, denF, rdV, rdB, List.getElem?_cons_zero, List.getElem?_cons_succ, List.set_cons_zero, List.set_cons_succ, Res.bind_ok, Res.map_ok, RV.d, ofO_some, FRes.res_ok, thenS_ok, seq_nx, seq_rt, out_rt, out_nx, tstR_bl, if_true, if_false, Bool.false_eq_true, Option.map_some, List.length_cons, List.length_nil, Nat.zero_add, Nat.reduceAdd, noX_ok, k1, k3, k4, e2, hm, e3, k2]
/-! changes -/
def bChanges (p a m : Nat) : LSs := .cons (.asg 3 (.lc [4, 5] (.tup (.cons (.var 4) (.cons (.call a (.cons (.var 0) (.cons (.lst (.cons (.str "set") (.cons (.str "raise") .nil))) .nil))) (.cons (.call p (.cons (.var 0) (.cons (.var 5) .nil))) .nil)))) (.tup [4, 5]) (.seq (.var 1)) (.nil))) (.cons (.ret (.bcl .tuple (.cons (.call m (.cons (.var 0) (.cons (.lc [6] (.var 6) (.name 6) (.seq (.var 3)) (.cons (.cmp .Eq (.call p (.cons (.var 0) (.cons (.var 2) .nil))) (.int 0)) .nil)) .nil))) .nil))) .nil)
abbrev changesF (T : Tab) (p a m : Nat) : Fn := denDef T 3 7 (bChanges p a m)
theorem changes_ex {p a m : Nat} {Tm Ta : Tab} (hp : T.fn p = some pullFn) (ha : T.fn a = some (anyF Ta p)) (hpa : Ta.fn p = some pullFn) (hm : T.fn m = some (mixedF Tm p)) (hmp : Tm.fn p = some pullFn) (b : Bag) (os : List Ob) {cs : List Col} (hc : ColsOk cs) :
    ∃ (ts : List Chg) (b' : Bag), changesF T p a m [.loc 0, .lst (cs.map colD), .int 2] ⟨.bag b :: os⟩ = .ok (.fz (.tup (ts.map (chgD cs)))) ⟨.bag b' :: os⟩ ∧ ∀ t ∈ ts, t.at_ < cs.length := by
  have hlen := hc.len
  obtain ⟨ys, ρ', S', e, ⟨x, y, b1, hρ, rfl⟩, hyl, hR⟩ := lc_all (vs := [4, 5]) (f := lcBody T .nil (.tup (.cons (.var 4) (.cons (.call a (.cons (.var 0) (.cons (.lst (.cons (.str "set") (.cons (.str "raise") .nil))) .nil))) (.cons (.call p (.cons (.var 0) (.cons (.var 5) .nil))) .nil)))) (.tup [4, 5])) (I := fun ρ S => ∃ x y b', ρ = [some (.fz (.loc 0)), some (.fz (.lst (cs.map colD))), some (.fz (.int 2)), none, x, y, none] ∧ S = ⟨.bag b' :: os⟩) (R := fun d y => ∀ c : Col, d = colD c → ∃ (w : Bool) (v : Int), y = .tup [.str (S8 c.1), wordD w, .int v]) (cs.map colD) [] [some (.fz (.loc 0)), some (.fz (.lst (cs.map colD))), some (.fz (.int 2)), none, none, none, none] ⟨.bag b :: os⟩ ⟨none, none, b, rfl, rfl⟩ (fun d hd ρ S hI => by
    obtain ⟨x, y, b1, rfl, rfl⟩ := hI
    rw [List.mem_map] at hd
    obtain ⟨c, hcm, rfl⟩ := hd
    have hco := hc.ok c hcm
    obtain ⟨w, b2, e1, hw⟩ := any_lst (T := Ta) (p := p) hpa b1 os [.str "set", .str "raise"] (by simp) (by simp)
    have hw : ∃ k, w = wordD k := by
      simp only [List.mem_cons, List.not_mem_nil, or_false] at hw
      rcases hw with rfl | rfl
      · exact ⟨true, rfl⟩
      · exact ⟨false, rfl⟩
    obtain ⟨k, rfl⟩ := hw
    obtain ⟨r, b3, e2, _, _⟩ := pull_ex b2 os (k := (c.2 : Nat)) (by have := hco.2.2.2.1; omega) (by have := hco.2.2.2.2; omega)
    have z : (2 : Nat) ≤ LINE := by decide
    have z3 : (3 : Nat) ≤ LINE := by decide
    refine ⟨.tup [.str (S8 c.1), wordD k, .int r], [some (.fz (.loc 0)), some (.fz (.lst (cs.map colD))), some (.fz (.int 2)), none, some (.fz (.str (S8 c.1))), some (.fz (.int (c.2 : Nat))), none], ⟨.bag b3 :: os⟩, ?_, ⟨_, _, b3, rfl, rfl⟩, fun c' h => ⟨k, r, ?_⟩⟩
    · simp only [lcBody, colD, wipeE, Tg.put, setAll, denC, e_cons, e_nil, asg_eq, ret_eq, iff_eq, tas_eq, exp_eq, apd_eq, apx_eq, sst_eq, ins_eq, par_eq, n_var, n_non, n_bl, n_int, n_str, n_glob, n_bin, n_neg, n_cmp, q_lt, q_le, q_gt, q_ge, q_is, q_nis, q_in, q_nin, q_eq, q_ne, Option.map_none, ifM_none, n_chn, n_and, n_or, n_not, n_ite, n_tup, n_lst, n_idx, n_slc, n_call, n_lend, n_lens, n_callk, n_mth, n_mthk, n_fld, n_ixo, n_isc, n_rev, n_fmt, n_fst, n_lc, n_lc2, n_bcl, b_len, b_int, b_all, b_list, b_tuple, b_str, b_min, s_non, s_bl, s_int, s_str, s_lst, s_tup, p_obj, n_isi, n_rep, n_join, denB, denEs, denBs, denO, denI, denF, rdV, rdB, List.getElem?_cons_zero, List.getElem?_cons_succ, List.set_cons_zero, List.set_cons_succ, Res.bind_ok, Res.map_ok, RV.d, ofO_some, FRes.res_ok, thenS_ok, seq_nx, seq_rt, out_rt, out_nx, tstR_bl, if_true, if_false, Bool.false_eq_true, Option.map_some, List.length_cons, List.length_nil, Nat.zero_add, Nat.reduceAdd, noX_ok, hp, ha, e1, e2, z, z3]
    · simp only [colD, D.tup.injEq, List.cons.injEq, D.str.injEq] at h
      rw [h.1]) (le_line (by rw [List.length_map, List.length_nil]; omega))
  have hP : ∀ y ∈ ys, ∃ t : Chg, t.at_ < cs.length ∧ y = chgD cs t := fun y hy => by
    obtain ⟨i, hi, rfl⟩ := List.mem_iff_getElem.mp hy
    rw [List.length_map] at hyl
    have hi2 : i < cs.length := by omega
    obtain ⟨w, v, hv⟩ := hR i (colD (cs.getD i ([], 0))) ys[i] (cols_at hi2) (List.getElem?_eq_getElem hi) _ rfl
    exact ⟨⟨i, w, v⟩, hi2, hv⟩
  rw [List.length_map] at hyl
  obtain ⟨zs, b2, e2, h3, h4⟩ := share_ex (T := T) hp b1 os (some (.fz (.lst (cs.map colD)))) none none ys (by omega) rfl
  obtain ⟨us, b3, e3, h5, h6⟩ := mixed_ex (T := Tm) hmp b2 os zs (by omega)
  obtain ⟨ts, rfl, ht⟩ := map_of (p := fun t : Chg => t.at_ < cs.length) (g := chgD cs) (ys := us) fun u hu => hP u (h4 u (h6 u hu))
  refine ⟨ts, b3, ?_, ht⟩
  refine (e_def (T := T) (b := bChanges p a m) (np := 3) (n := 7) (ds := [.loc 0, .lst (cs.map colD), .int 2]) [some (.fz (.loc 0)), some (.fz (.lst (cs.map colD))), some (.fz (.int 2)), none, none, none, none] rfl rfl).trans ?_
  have k1 : itemsOf (.lst (cs.map colD)) = some (cs.map colD) := rfl
  have k2 : opBcl .tuple [.lst (ts.map (chgD cs))] = some (.fz (.tup (ts.map (chgD cs)))) := rfl
  have k3 : lcRun [4, 5] (lcBody T .nil (.tup (.cons (.var 4) (.cons (.call a (.cons (.var 0) (.cons (.lst (.cons (.str "set") (.cons (.str "raise") .nil))) .nil))) (.cons (.call p (.cons (.var 0) (.cons (.var 5) .nil))) .nil)))) (.tup [4, 5])) [some (.fz (.loc 0)), some (.fz (.lst (cs.map colD))), some (.fz (.int 2)), none, none, none, none] (cs.map colD) ⟨.bag b :: os⟩ = .ok (.own ys) [some (.fz (.loc 0)), some (.fz (.lst (cs.map colD))), some (.fz (.int 2)), none, none, none, none] ⟨.bag b1 :: os⟩ := by
    unfold lcRun
    rw [if_neg (by simp [noOwn]), e, hρ]
    rfl
  have k4 : itemsOf (.lst ys) = some ys := rfl
  simp only [bChanges, e_cons, e_nil, asg_eq, ret_eq, iff_eq, tas_eq, exp_eq, apd_eq, apx_eq, sst_eq, ins_eq, par_eq, n_var, n_non, n_bl, n_int, n_str, n_glob, n_bin, n_neg, n_cmp, q_lt, q_le, q_gt, q_ge, q_is, q_nis, q_in, q_nin, q_eq, q_ne, Option.map_none, ifM_none, n_chn, n_and, n_or, n_not, n_ite, n_tup, n_lst, n_idx, n_slc, n_call, n_lend, n_lens, n_callk, n_mth, n_mthk, n_fld, n_ixo, n_isc, n_rev, n_fmt, n_fst, n_lc, n_lc2, n_bcl, b_len, b_int, b_all, b_list, b_tuple, b_str, b_min, s_non, s_bl, s_int, s_str, s_lst, s_tup, p_obj, n_isi, n_rep, n_join, denB, denEs, denBs, denO, denI, denF, rdV, rdB, List.getElem?_cons_zero, List.getElem?_cons_succ, List.set_cons_zero, List.set_cons_succ, Res.bind_ok, Res.map_ok, RV.d, ofO_some, FRes.res_ok, thenS_ok, seq_nx, seq_rt, out_rt, out_nx, tstR_bl, if_true, if_false, Bool.false_eq_true, Option.map_some, List.length_cons, List.length_nil, Nat.zero_add, Nat.reduceAdd, noX_ok, k1, k3, k4, e2, hm, e3, k2]
/-! shapes -/
def shT : LSs := .cons (.asg 5 (.var 4)) (.cons (.forr (.name 6) (.seq (.var 3)) (.cons (.asg 5 (.bin .Mult (.var 5) (.var 6))) .nil)) (.cons (.iff (.cmp .LtE (.var 5) (.var 0)) (.cons (.apd 2 (.tup (.cons (.var 3) (.cons (.var 4) .nil)))) .nil) (.nil)) .nil))
def shL : LS := .asg 1 (.lst (.cons (.tup (.cons (.lst (.nil)) (.cons (.int 1) .nil))) (.cons (.tup (.cons (.lst (.nil)) (.cons (.int 2) .nil))) (.cons (.tup (.cons (.lst (.nil)) (.cons (.int 3) .nil))) (.cons (.tup (.cons (.lst (.cons (.int 2) .nil)) (.cons (.int 1) .nil))) (.cons (.tup (.cons (.lst (.cons (.int 2) .nil)) (.cons (.int 2) .nil))) (.cons (.tup (.cons (.lst (.cons (.int 2) .nil)) (.cons (.int 3) .nil))) (.cons (.tup (.cons (.lst (.cons (.int 3) .nil)) (.cons (.int 1) .nil))) (.cons (.tup (.cons (.lst (.cons (.int 3) .nil)) (.cons (.int 2) .nil))) (.cons (.tup (.cons (.lst (.cons (.int 4) .nil)) (.cons (.int 1) .nil))) (.cons (.tup (.cons (.lst (.cons (.int 2) (.cons (.int 2) .nil))) (.cons (.int 1) .nil))) (.cons (.tup (.cons (.lst (.cons (.int 3) .nil)) (.cons (.int 3) .nil))) (.cons (.tup (.cons (.lst (.cons (.int 4) .nil)) (.cons (.int 2) .nil))) (.cons (.tup (.cons (.lst (.cons (.int 4) .nil)) (.cons (.int 3) .nil))) (.cons (.tup (.cons (.lst (.cons (.int 2) (.cons (.int 2) .nil))) (.cons (.int 2) .nil))) (.cons (.tup (.cons (.lst (.cons (.int 2) (.cons (.int 2) .nil))) (.cons (.int 3) .nil))) (.cons (.tup (.cons (.lst (.cons (.int 2) (.cons (.int 3) .nil))) (.cons (.int 1) .nil))) (.cons (.tup (.cons (.lst (.cons (.int 3) (.cons (.int 2) .nil))) (.cons (.int 2) .nil))) (.cons (.tup (.cons (.lst (.cons (.int 2) (.cons (.int 2) (.cons (.int 2) .nil)))) (.cons (.int 1) .nil))) (.cons (.tup (.cons (.lst (.cons (.int 3) (.cons (.int 4) .nil))) (.cons (.int 1) .nil))) (.cons (.tup (.cons (.lst (.cons (.int 2) (.cons (.int 2) (.cons (.int 3) .nil)))) (.cons (.int 1) .nil))) (.cons (.tup (.cons (.lst (.cons (.int 4) (.cons (.int 2) .nil))) (.cons (.int 1) .nil))) .nil))))))))))))))))))))))
def bShapes : LSs := .cons shL (.cons (.asg 2 (.lst (.nil))) (.cons (.forr (.tup [3, 4]) (.seq (.var 1)) shT) (.cons (.ret (.var 2)) .nil)))
abbrev shapesF (T : Tab) : Fn := denDef T 1 7 bShapes
def shapesN : List (List Nat × Nat) := [([], 1), ([], 2), ([], 3), ([2], 1), ([2], 2), ([2], 3), ([3], 1), ([3], 2), ([4], 1), ([2, 2], 1), ([3], 3), ([4], 2), ([4], 3), ([2, 2], 2), ([2, 2], 3), ([2, 3], 1), ([3, 2], 2), ([2, 2, 2], 1), ([3, 4], 1), ([2, 2, 3], 1), ([4, 2], 1)]
def prodN : List Nat → Nat
  | [] => 1
  | n :: ns => n * prodN ns
def natD (n : Nat) : D := .int (n : Nat)
def shapeD (s : List Nat × Nat) : D := .tup [.lst (s.1.map natD), .int (s.2 : Nat)]
theorem sh_inner (S : Mem) (r0 r1 r2 r3 r4 : Option RV) : ∀ (ns : List Nat) (w : Nat) (r6 : Option RV), (∀ n ∈ ns, n ≤ 4) → ∃ r6', forLoop (.name 6) (denSs T (.cons (.asg 5 (.bin .Mult (.var 5) (.var 6))) .nil)) (ns.map natD) [r0, r1, r2, r3, r4, some (.fz (.int (w : Nat))), r6] S = .nx [r0, r1, r2, r3, r4, some (.fz (.int ((w * prodN ns : Nat)))), r6'] S
  | [], w, r6, _ => ⟨r6, by simp [forLoop, prodN]⟩
  | n :: ns, w, r6, h => by
    obtain ⟨r6', e⟩ := sh_inner S r0 r1 r2 r3 r4 ns (w * n) (some (.fz (.int (n : Nat)))) fun m hm => h m (List.mem_cons_of_mem _ hm)
    refine ⟨r6', ?_⟩
    have hn := h n List.mem_cons_self
    have k8 : opBin .Mult (.int (w : Nat)) (.int (n : Nat)) = some (.fz (.int ((w * n : Nat)))) := by
      show (if mulOk (w : Int) (n : Int) then _ else none) = _
      have : mulOk (w : Int) (n : Int) = true := by
        unfold mulOk
        simp only [Int.natAbs_natCast, Bool.or_eq_true, decide_eq_true_eq]
        exact .inr (Nat.lt_of_le_of_lt hn (by decide))
      rw [if_pos this]
      simp
    rw [List.map_cons]
    conv => lhs; unfold forLoop
    simp only [natD, Tg.put, e_cons, e_nil, asg_eq, ret_eq, iff_eq, tas_eq, exp_eq, apd_eq, apx_eq, sst_eq, ins_eq, par_eq, n_var, n_non, n_bl, n_int, n_str, n_glob, n_bin, n_neg, n_cmp, q_lt, q_le, q_gt, q_ge, q_is, q_nis, q_in, q_nin, q_eq, q_ne, Option.map_none, ifM_none, n_chn, n_and, n_or, n_not, n_ite, n_tup, n_lst, n_idx, n_slc, n_call, n_lend, n_lens, n_callk, n_mth, n_mthk, n_fld, n_ixo, n_isc, n_rev, n_fmt, n_fst, n_lc, n_lc2, n_bcl, b_len, b_int, b_all, b_list, b_tuple, b_str, b_min, s_non, s_bl, s_int, s_str, s_lst, s_tup, p_obj, n_isi, n_rep, n_join, denB, denEs, denBs, denO, denI, denF, rdV, rdB, List.getElem?_cons_zero, List.getElem?_cons_succ, List.set_cons_zero, List.set_cons_succ, Res.bind_ok, Res.map_ok, RV.d, ofO_some, FRes.res_ok, thenS_ok, seq_nx, seq_rt, out_rt, out_nx, tstR_bl, if_true, if_false, Bool.false_eq_true, Option.map_some, List.length_cons, List.length_nil, Nat.zero_add, Nat.reduceAdd, noX_ok, k8]
    rw [e]
    simp [prodN, Nat.mul_assoc]
theorem sh_turn (S : Mem) (r1 r6 r5 : Option RV) (acc : List D) (hl : acc.length ≤ 900) (s : List Nat × Nat) (h : ∀ n ∈ s.1, n ≤ 4) : ∃ r5' r6', denSs T shT [some (.fz (.int 12)), r1, some (.own acc), some (.fz (.lst (s.1.map natD))), some (.fz (.int (s.2 : Nat))), r5, r6] S = .nx [some (.fz (.int 12)), r1, some (.own (acc ++ if s.2 * prodN s.1 ≤ 12 then [shapeD s] else [])), some (.fz (.lst (s.1.map natD))), some (.fz (.int (s.2 : Nat))), r5', r6'] S := by
  obtain ⟨r6', e⟩ := sh_inner (T := T) S (some (.fz (.int 12))) r1 (some (.own acc)) (some (.fz (.lst (s.1.map natD)))) (some (.fz (.int (s.2 : Nat)))) s.1 s.2 r6 h
  have k1 : itemsOf (.lst (s.1.map natD)) = some (s.1.map natD) := rfl
  have k2 : opCmp .LtE (.int ((s.2 * prodN s.1 : Nat))) (.int 12) = some (decide (s.2 * prodN s.1 ≤ 12)) := by show some (decide _) = some (decide _); congr 1; simp only [decide_eq_decide]; omega
  refine ⟨some (.fz (.int ((s.2 * prodN s.1 : Nat)))), r6', ?_⟩
  have z : (2 : Nat) ≤ LINE := by decide
  by_cases hw : s.2 * prodN s.1 ≤ 12
  · have k3 : apdO 2 (.tup [.lst (s.1.map natD), .int (s.2 : Nat)]) [some (.fz (.int 12)), r1, some (.own acc), some (.fz (.lst (s.1.map natD))), some (.fz (.int (s.2 : Nat))), some (.fz (.int ((s.2 * prodN s.1 : Nat)))), r6'] = some [some (.fz (.int 12)), r1, some (.own (acc ++ [shapeD s])), some (.fz (.lst (s.1.map natD))), some (.fz (.int (s.2 : Nat))), some (.fz (.int ((s.2 * prodN s.1 : Nat)))), r6'] := by
      show (if acc.length < LINE then _ else none) = _
      rw [if_pos (Nat.lt_of_le_of_lt hl (by decide))]
      rfl
    have k4 : ownAt 2 [some (.fz (.int 12)), r1, some (.own acc), some (.fz (.lst (s.1.map natD))), some (.fz (.int (s.2 : Nat))), some (.fz (.int ((s.2 * prodN s.1 : Nat)))), r6'] = true := rfl
    simp only [shT, e_cons, e_nil, asg_eq, ret_eq, iff_eq, tas_eq, exp_eq, apd_eq, apx_eq, sst_eq, ins_eq, par_eq, n_var, n_non, n_bl, n_int, n_str, n_glob, n_bin, n_neg, n_cmp, q_lt, q_le, q_gt, q_ge, q_is, q_nis, q_in, q_nin, q_eq, q_ne, Option.map_none, ifM_none, n_chn, n_and, n_or, n_not, n_ite, n_tup, n_lst, n_idx, n_slc, n_call, n_lend, n_lens, n_callk, n_mth, n_mthk, n_fld, n_ixo, n_isc, n_rev, n_fmt, n_fst, n_lc, n_lc2, n_bcl, b_len, b_int, b_all, b_list, b_tuple, b_str, b_min, s_non, s_bl, s_int, s_str, s_lst, s_tup, p_obj, n_isi, n_rep, n_join, denB, denEs, denBs, denO, denI, denF, rdV, rdB, List.getElem?_cons_zero, List.getElem?_cons_succ, List.set_cons_zero, List.set_cons_succ, Res.bind_ok, Res.map_ok, RV.d, ofO_some, FRes.res_ok, thenS_ok, seq_nx, seq_rt, out_rt, out_nx, tstR_bl, if_true, if_false, Bool.false_eq_true, Option.map_some, List.length_cons, List.length_nil, Nat.zero_add, Nat.reduceAdd, noX_ok, for_eq, denIF, k1, e, k2, hw, decide_true, z, k3, k4, Bool.true_eq_false]
  · simp only [shT, e_cons, e_nil, asg_eq, ret_eq, iff_eq, tas_eq, exp_eq, apd_eq, apx_eq, sst_eq, ins_eq, par_eq, n_var, n_non, n_bl, n_int, n_str, n_glob, n_bin, n_neg, n_cmp, q_lt, q_le, q_gt, q_ge, q_is, q_nis, q_in, q_nin, q_eq, q_ne, Option.map_none, ifM_none, n_chn, n_and, n_or, n_not, n_ite, n_tup, n_lst, n_idx, n_slc, n_call, n_lend, n_lens, n_callk, n_mth, n_mthk, n_fld, n_ixo, n_isc, n_rev, n_fmt, n_fst, n_lc, n_lc2, n_bcl, b_len, b_int, b_all, b_list, b_tuple, b_str, b_min, s_non, s_bl, s_int, s_str, s_lst, s_tup, p_obj, n_isi, n_rep, n_join, denB, denEs, denBs, denO, denI, denF, rdV, rdB, List.getElem?_cons_zero, List.getElem?_cons_succ, List.set_cons_zero, List.set_cons_succ, Res.bind_ok, Res.map_ok, RV.d, ofO_some, FRes.res_ok, thenS_ok, seq_nx, seq_rt, out_rt, out_nx, tstR_bl, if_true, if_false, Bool.false_eq_true, Option.map_some, List.length_cons, List.length_nil, Nat.zero_add, Nat.reduceAdd, noX_ok, for_eq, denIF, k1, e, k2, hw, decide_false, List.append_nil]
theorem sh_loop (S : Mem) (r1 : Option RV) : ∀ (ss : List (List Nat × Nat)) (acc : List D) (r3 r4 r5 r6 : Option RV), acc.length + ss.length ≤ 900 → (∀ s ∈ ss, ∀ n ∈ s.1, n ≤ 4) → ∃ r3' r4' r5' r6', forLoop (.tup [3, 4]) (denSs T shT) (ss.map shapeD) [some (.fz (.int 12)), r1, some (.own acc), r3, r4, r5, r6] S = .nx [some (.fz (.int 12)), r1, some (.own (acc ++ (ss.filter fun s => decide (s.2 * prodN s.1 ≤ 12)).map shapeD)), r3', r4', r5', r6'] S
  | [], acc, r3, r4, r5, r6, _, _ => ⟨r3, r4, r5, r6, by simp [forLoop]⟩
  | s :: ss, acc, r3, r4, r5, r6, hl, h => by
    rw [List.length_cons] at hl
    obtain ⟨r5', r6', t⟩ := sh_turn (T := T) S r1 r6 r5 acc (by omega) s (h s List.mem_cons_self)
    obtain ⟨q3, q4, q5, q6, e⟩ := sh_loop S r1 ss (acc ++ if s.2 * prodN s.1 ≤ 12 then [shapeD s] else []) (some (.fz (.lst (s.1.map natD)))) (some (.fz (.int (s.2 : Nat)))) r5' r6' (by split <;> simp <;> omega) fun x hx => h x (List.mem_cons_of_mem _ hx)
    refine ⟨q3, q4, q5, q6, ?_⟩
    rw [List.map_cons]
    conv => lhs; unfold forLoop
    simp only [shapeD, Tg.put, setAll, List.set_cons_zero, List.set_cons_succ]
    rw [t]
    dsimp only
    rw [e, List.filter_cons]
    by_cases hw : s.2 * prodN s.1 ≤ 12
    · simp [hw]
    · simp [hw]
theorem shapes_ok (S : Mem) : shapesF T [.int 12] S = .ok (.fz (.lst ((shapesN.filter fun s => decide (s.2 * prodN s.1 ≤ 12)).map shapeD))) S := by
  refine (e_def (T := T) (b := bShapes) (np := 1) (n := 7) (ds := [.int 12]) [some (.fz (.int 12)), none, none, none, none, none, none] rfl rfl).trans ?_
  have z0 : (0 : Nat) ≤ LINE := Nat.zero_le _
  have z1 : (1 : Nat) ≤ LINE := by decide
  have z2 : (2 : Nat) ≤ LINE := by decide
  have z3 : (3 : Nat) ≤ LINE := by decide
  have z21 : (21 : Nat) ≤ LINE := by decide
  have first : denS T shL [some (.fz (.int 12)), none, none, none, none, none, none] S = .nx [some (.fz (.int 12)), some (.own (shapesN.map shapeD)), none, none, none, none, none] S := by
    simp only [shL, e_cons, e_nil, asg_eq, ret_eq, iff_eq, tas_eq, exp_eq, apd_eq, apx_eq, sst_eq, ins_eq, par_eq, n_var, n_non, n_bl, n_int, n_str, n_glob, n_bin, n_neg, n_cmp, q_lt, q_le, q_gt, q_ge, q_is, q_nis, q_in, q_nin, q_eq, q_ne, Option.map_none, ifM_none, n_chn, n_and, n_or, n_not, n_ite, n_tup, n_lst, n_idx, n_slc, n_call, n_lend, n_lens, n_callk, n_mth, n_mthk, n_fld, n_ixo, n_isc, n_rev, n_fmt, n_fst, n_lc, n_lc2, n_bcl, b_len, b_int, b_all, b_list, b_tuple, b_str, b_min, s_non, s_bl, s_int, s_str, s_lst, s_tup, p_obj, n_isi, n_rep, n_join, denB, denEs, denBs, denO, denI, denF, rdV, rdB, List.getElem?_cons_zero, List.getElem?_cons_succ, List.set_cons_zero, List.set_cons_succ, Res.bind_ok, Res.map_ok, RV.d, ofO_some, FRes.res_ok, thenS_ok, seq_nx, seq_rt, out_rt, out_nx, tstR_bl, if_true, if_false, Bool.false_eq_true, Option.map_some, List.length_cons, List.length_nil, Nat.zero_add, Nat.reduceAdd, noX_ok, z0, z1, z2, z3, z21]
    rfl
  obtain ⟨q3, q4, q5, q6, e⟩ := sh_loop (T := T) S (some (.fz (.lst (shapesN.map shapeD)))) shapesN [] none none none none (by decide) (by decide)
  have k1 : itemsOf (.lst (shapesN.map shapeD)) = some (shapesN.map shapeD) := rfl
  unfold bShapes
  rw [e_cons, first]
  simp only [e_cons, e_nil, asg_eq, ret_eq, iff_eq, tas_eq, exp_eq, apd_eq, apx_eq, sst_eq, ins_eq, par_eq, n_var, n_non, n_bl, n_int, n_str, n_glob, n_bin, n_neg, n_cmp, q_lt, q_le, q_gt, q_ge, q_is, q_nis, q_in, q_nin, q_eq, q_ne, Option.map_none, ifM_none, n_chn, n_and, n_or, n_not, n_ite, n_tup, n_lst, n_idx, n_slc, n_call, n_lend, n_lens, n_callk, n_mth, n_mthk, n_fld, n_ixo, n_isc, n_rev, n_fmt, n_fst, n_lc, n_lc2, n_bcl, b_len, b_int, b_all, b_list, b_tuple, b_str, b_min, s_non, s_bl, s_int, s_str, s_lst, s_tup, p_obj, n_isi, n_rep, n_join, denB, denEs, denBs, denO, denI, denF, rdV, rdB, List.getElem?_cons_zero, List.getElem?_cons_succ, List.set_cons_zero, List.set_cons_succ, Res.bind_ok, Res.map_ok, RV.d, ofO_some, FRes.res_ok, thenS_ok, seq_nx, seq_rt, out_rt, out_nx, tstR_bl, if_true, if_false, Bool.false_eq_true, Option.map_some, List.length_cons, List.length_nil, Nat.zero_add, Nat.reduceAdd, noX_ok, z0, for_eq, denIF, k1, e, List.nil_append]
theorem shapes_good : ∀ s ∈ shapesN.filter fun s => decide (s.2 * prodN s.1 ≤ 12), s.1.length ≤ 3 ∧ (∀ n ∈ s.1, 2 ≤ n ∧ n ≤ 4) ∧ prodN s.1 ≤ 12 := by decide
end
end Sh


/-! ShCol4: what Columns tells of itself; the looks; the columns that a law makes. -/
namespace Sh
open PySem PySem.Spec PyProof.Rows L2
/-! ### the bodies -/
def bRows : LSs := .cons (.ret (.bcl .list (.cons (.fld (.var 0) "pair_rows") .nil))) .nil
def bWidth : LSs := .cons (.ret (.fld (.var 0) "wide")) .nil
def bTurnLooks : LSs := .cons (.asg 1 (.lc2 [4, 5] [5] (.tup (.star (.var 4) (.cons (.var 5) .nil))) (.name 4) (.seq (.var 1)) (.nil) (.name 5) (.rng (.var 3)) (.nil))) .nil
def bLooks : LSs := .cons (.asg 1 (.lst (.cons (.tup (.nil)) .nil))) (.cons (.forr (.tup [2, 3]) (.seq (.fld (.var 0) "pair_rows")) bTurnLooks) (.cons (.rtm 1) .nil))
def bColLen : LSs := .cons (.ret (.bcl .len (.cons (.fld (.var 0) "pair_rows") .nil))) .nil
def bColEq (g : Nat) : LSs := .cons (.ret (.and (.isc (.var 1) g) (.cmp .Eq (.fld (.var 0) "pair_rows") (.fld (.var 1) "pair_rows")))) .nil
def bColRepr : LSs := .cons (.ret (.fst (.cons (.str "Columns(") (.cons (.fmt (.bcl .len (.cons (.fld (.var 0) "pair_rows") .nil))) (.cons (.str " columns)") .nil))))) .nil
def bWiderL : LSs := .cons (.asg 4 (.bin .Add (.var 4) (.lc [6] (.bin .Add (.var 5) (.tup (.cons (.var 6) .nil))) (.name 6) (.rng (.var 3)) (.nil)))) .nil
def bTurnLooksL : LSs := .cons (.asg 4 (.lst (.nil))) (.cons (.forr (.name 5) (.seq (.var 1)) bWiderL) (.cons (.asg 1 (.var 4)) .nil))
def bLooksL : LSs := .cons (.asg 1 (.lst (.cons (.tup (.nil)) .nil))) (.cons (.forr (.tup [2, 3]) (.seq (.var 0)) bTurnLooksL) (.cons (.ret (.var 1)) .nil))
abbrev rowsF (T : Tab) : Fn := denDef T 1 1 bRows
abbrev widthF (T : Tab) : Fn := denDef T 1 1 bWidth
abbrev looksF (T : Tab) : Fn := denDef T 1 6 bLooks
abbrev clenF (T : Tab) : Fn := denDef T 1 1 bColLen
abbrev ceqF (T : Tab) (g : Nat) : Fn := denDef T 2 2 (bColEq g)
abbrev creprF (T : Tab) : Fn := denDef T 1 1 bColRepr
abbrev looksLF (T : Tab) : Fn := denDef T 1 7 bLooksL
variable {T : Tab}
structure ColS (T : Tab) : Prop where
  f1 : T.isF sCol sRows = true
  p1 : T.pr sCol sRows = none
  f2 : T.isF sCol sWide = true
  p2 : T.pr sCol sWide = none
theorem fld_wide (h : T.isF sCol sWide = true) (S : Mem) (cs : List Col) : fldOf T S (colO cs) sWide = some (.fz (.int (prodC cs : Nat))) := by
  unfold fldOf colO
  dsimp only
  rw [if_pos h]
  have e : (sWide == sRows) = false := by decide +kernel
  simp only [List.lookup, e, beq_self_eq_true, Option.map_some]
theorem rows_ok (h : ColS T) (cs : List Col) (S : Mem) : rowsF T [colO cs] S = .ok (.own (cs.map colD)) S := by
  refine (e_def (T := T) (b := bRows) (np := 1) (n := 1) (ds := [colO cs]) [some (.fz (colO cs))] rfl rfl).trans ?_
  have k1 := fld_rows h.f1 S cs
  have k2 : prOf T S (colO cs) sRows = none := h.p1
  have k3 : opBcl .list [.lst (cs.map colD)] = some (.own (cs.map colD)) := rfl
  simp only [bRows, e_cons, e_nil, asg_eq, ret_eq, iff_eq, tas_eq, exp_eq, apd_eq, apx_eq, sst_eq, ins_eq, par_eq, n_var, n_non, n_bl, n_int, n_str, n_glob, n_bin, n_neg, n_cmp, q_lt, q_le, q_gt, q_ge, q_is, q_nis, q_in, q_nin, q_eq, q_ne, Option.map_none, ifM_none, n_chn, n_and, n_or, n_not, n_ite, n_tup, n_lst, n_idx, n_slc, n_call, n_lend, n_lens, n_callk, n_mth, n_mthk, n_fld, n_ixo, n_isc, n_rev, n_fmt, n_fst, n_lc, n_lc2, n_bcl, b_len, b_int, b_all, b_list, b_tuple, b_str, b_min, s_non, s_bl, s_int, s_str, s_lst, s_tup, p_obj, n_isi, n_rep, n_join, denB, denEs, denBs, denO, denI, denF, rdV, rdB, List.getElem?_cons_zero, List.getElem?_cons_succ, List.set_cons_zero, List.set_cons_succ, Res.bind_ok, Res.map_ok, RV.d, ofO_some, FRes.res_ok, thenS_ok, seq_nx, seq_rt, out_rt, out_nx, tstR_bl, if_true, if_false, Bool.false_eq_true, Option.map_some, List.length_cons, List.length_nil, Nat.zero_add, Nat.reduceAdd, noX_ok, k2, k1, k3]
theorem width_ok (h : ColS T) (cs : List Col) (S : Mem) : widthF T [colO cs] S = .ok (.fz (.int (prodC cs : Nat))) S := by
  refine (e_def (T := T) (b := bWidth) (np := 1) (n := 1) (ds := [colO cs]) [some (.fz (colO cs))] rfl rfl).trans ?_
  have k1 := fld_wide h.f2 S cs
  have k2 : prOf T S (colO cs) sWide = none := h.p2
  simp only [bWidth, e_cons, e_nil, asg_eq, ret_eq, iff_eq, tas_eq, exp_eq, apd_eq, apx_eq, sst_eq, ins_eq, par_eq, n_var, n_non, n_bl, n_int, n_str, n_glob, n_bin, n_neg, n_cmp, q_lt, q_le, q_gt, q_ge, q_is, q_nis, q_in, q_nin, q_eq, q_ne, Option.map_none, ifM_none, n_chn, n_and, n_or, n_not, n_ite, n_tup, n_lst, n_idx, n_slc, n_call, n_lend, n_lens, n_callk, n_mth, n_mthk, n_fld, n_ixo, n_isc, n_rev, n_fmt, n_fst, n_lc, n_lc2, n_bcl, b_len, b_int, b_all, b_list, b_tuple, b_str, b_min, s_non, s_bl, s_int, s_str, s_lst, s_tup, p_obj, n_isi, n_rep, n_join, denB, denEs, denBs, denO, denI, denF, rdV, rdB, List.getElem?_cons_zero, List.getElem?_cons_succ, List.set_cons_zero, List.set_cons_succ, Res.bind_ok, Res.map_ok, RV.d, ofO_some, FRes.res_ok, thenS_ok, seq_nx, seq_rt, out_rt, out_nx, tstR_bl, if_true, if_false, Bool.false_eq_true, Option.map_some, List.length_cons, List.length_nil, Nat.zero_add, Nat.reduceAdd, noX_ok, k2, k1]
theorem clen_ok (h : ColS T) (cs : List Col) (S : Mem) : clenF T [colO cs] S = .ok (.fz (.int (cs.length : Nat))) S := by
  refine (e_def (T := T) (b := bColLen) (np := 1) (n := 1) (ds := [colO cs]) [some (.fz (colO cs))] rfl rfl).trans ?_
  have k1 := fld_rows h.f1 S cs
  have k2 : prOf T S (colO cs) sRows = none := h.p1
  have k3 : opBcl .len [.lst (cs.map colD)] = some (.fz (.int (cs.length : Nat))) := by show some (RV.fz (.int ((cs.map colD).length : Nat))) = _; rw [List.length_map]
  simp only [bColLen, e_cons, e_nil, asg_eq, ret_eq, iff_eq, tas_eq, exp_eq, apd_eq, apx_eq, sst_eq, ins_eq, par_eq, n_var, n_non, n_bl, n_int, n_str, n_glob, n_bin, n_neg, n_cmp, q_lt, q_le, q_gt, q_ge, q_is, q_nis, q_in, q_nin, q_eq, q_ne, Option.map_none, ifM_none, n_chn, n_and, n_or, n_not, n_ite, n_tup, n_lst, n_idx, n_slc, n_call, n_lend, n_lens, n_callk, n_mth, n_mthk, n_fld, n_ixo, n_isc, n_rev, n_fmt, n_fst, n_lc, n_lc2, n_bcl, b_len, b_int, b_all, b_list, b_tuple, b_str, b_min, s_non, s_bl, s_int, s_str, s_lst, s_tup, p_obj, n_isi, n_rep, n_join, denB, denEs, denBs, denO, denI, denF, rdV, rdB, List.getElem?_cons_zero, List.getElem?_cons_succ, List.set_cons_zero, List.set_cons_succ, Res.bind_ok, Res.map_ok, RV.d, ofO_some, FRes.res_ok, thenS_ok, seq_nx, seq_rt, out_rt, out_nx, tstR_bl, if_true, if_false, Bool.false_eq_true, Option.map_some, List.length_cons, List.length_nil, Nat.zero_add, Nat.reduceAdd, noX_ok, k2, k1, k3]
/-! repr -/
def nStr (n : Nat) : Str := toString (n : Int)
def reprS (n : Nat) : Str := Str.empty ++ ("Columns(" : Str) ++ nStr n ++ (" columns)" : Str)
theorem repr_all : ∀ n : Nat, n ≤ 3 → opFmt (.int (n : Nat)) = some (.fz (.str (nStr n))) ∧ Str.empty.length + ("Columns(" : Str).length ≤ LINE ∧ (Str.empty ++ ("Columns(" : Str)).length + (nStr n).length ≤ LINE ∧ (Str.empty ++ ("Columns(" : Str) ++ nStr n).length + (" columns)" : Str).length ≤ LINE ∧
    opBcl .str [.int (n : Nat)] = some (.fz (.str (nStr n))) ∧ opBin .Add (.str "Columns(") (.str (nStr n)) = some (.fz (.str (("Columns(" : Str) ++ nStr n))) ∧ opBin .Add (.str (("Columns(" : Str) ++ nStr n)) (.str " columns)") = some (.fz (.str (reprS n))) ∧ (D.str (reprS n)).eqOk = true := by
  intro n hn
  have h : n = 0 ∨ n = 1 ∨ n = 2 ∨ n = 3 := by omega
  have f : ∀ k : Nat, k ≤ 3 → opFmt (.int (k : Nat)) = some (.fz (.str (nStr k))) := fun k hk => by
    show (if _ then _ else _) = _
    rw [if_pos]
    · rfl
    · rcases (by omega : k = 0 ∨ k = 1 ∨ k = 2 ∨ k = 3) with rfl | rfl | rfl | rfl <;> decide +kernel
  have f2 : ∀ k : Nat, k ≤ 3 → opBcl .str [.int (k : Nat)] = some (.fz (.str (nStr k))) := fun k hk => by
    show (if _ then _ else _) = _
    rw [if_pos]
    · rfl
    · rcases (by omega : k = 0 ∨ k = 1 ∨ k = 2 ∨ k = 3) with rfl | rfl | rfl | rfl <;> decide +kernel
  have e1 : ("Columns(" : Str) ++ nStr n = Str.empty ++ ("Columns(" : Str) ++ nStr n := by
    rcases h with rfl | rfl | rfl | rfl <;> decide +kernel
  refine ⟨f n hn, by decide +kernel, ?_, ?_, f2 n hn, ?_, ?_, ?_⟩
  · rcases h with rfl | rfl | rfl | rfl <;> decide +kernel
  · rcases h with rfl | rfl | rfl | rfl <;> decide +kernel
  · show (if _ then _ else _) = _
    rw [if_pos]
    rcases h with rfl | rfl | rfl | rfl <;> decide +kernel
  · show (if _ then _ else _) = _
    rw [e1, if_pos]
    · rfl
    · rcases h with rfl | rfl | rfl | rfl <;> decide +kernel
  · rcases h with rfl | rfl | rfl | rfl <;> decide +kernel
theorem crepr_ok (h : ColS T) {cs : List Col} (hc : ColsOk cs) (S : Mem) : creprF T [colO cs] S = .ok (.fz (.str (reprS cs.length))) S := by
  refine (e_def (T := T) (b := bColRepr) (np := 1) (n := 1) (ds := [colO cs]) [some (.fz (colO cs))] rfl rfl).trans ?_
  have k1 := fld_rows h.f1 S cs
  have k2 : prOf T S (colO cs) sRows = none := h.p1
  have k3 : opBcl .len [.lst (cs.map colD)] = some (.fz (.int (cs.length : Nat))) := by show some (RV.fz (.int ((cs.map colD).length : Nat))) = _; rw [List.length_map]
  obtain ⟨q1, q2, q3, q4, _⟩ := repr_all cs.length hc.len
  simp only [bColRepr, e_cons, e_nil, asg_eq, ret_eq, iff_eq, tas_eq, exp_eq, apd_eq, apx_eq, sst_eq, ins_eq, par_eq, n_var, n_non, n_bl, n_int, n_str, n_glob, n_bin, n_neg, n_cmp, q_lt, q_le, q_gt, q_ge, q_is, q_nis, q_in, q_nin, q_eq, q_ne, Option.map_none, ifM_none, n_chn, n_and, n_or, n_not, n_ite, n_tup, n_lst, n_idx, n_slc, n_call, n_lend, n_lens, n_callk, n_mth, n_mthk, n_fld, n_ixo, n_isc, n_rev, n_fmt, n_fst, n_lc, n_lc2, n_bcl, b_len, b_int, b_all, b_list, b_tuple, b_str, b_min, s_non, s_bl, s_int, s_str, s_lst, s_tup, p_obj, n_isi, n_rep, n_join, denB, denEs, denBs, denO, denI, denF, rdV, rdB, List.getElem?_cons_zero, List.getElem?_cons_succ, List.set_cons_zero, List.set_cons_succ, Res.bind_ok, Res.map_ok, RV.d, ofO_some, FRes.res_ok, thenS_ok, seq_nx, seq_rt, out_rt, out_nx, tstR_bl, if_true, if_false, Bool.false_eq_true, Option.map_some, List.length_cons, List.length_nil, Nat.zero_add, Nat.reduceAdd, noX_ok, k2, k1, k3, q1, q2, q3, q4]
  rfl
/-! == -/
theorem eqv_cols : ∀ (cs ds : List Col), (D.lst (cs.map colD)).eqv (.lst (ds.map colD)) = decide (cs = ds)
  | [], [] => by decide
  | [], d :: ds => by
    show PyData.eqvAll [] ((colD d).py :: D.pys (ds.map colD)) = _
    rw [PyData.eqvAll]
    simp
  | c :: cs, [] => by
    show PyData.eqvAll ((colD c).py :: D.pys (cs.map colD)) [] = _
    rw [PyData.eqvAll]
    simp
  | c :: cs, d :: ds => by
    have ih := eqv_cols cs ds
    have e1 : (D.lst ((c :: cs).map colD)).eqv (.lst ((d :: ds).map colD)) = ((colD c).eqv (colD d) && (D.lst (cs.map colD)).eqv (.lst (ds.map colD))) := by
      show PyData.eqvAll ((colD c).py :: D.pys (cs.map colD)) ((colD d).py :: D.pys (ds.map colD)) = _
      rw [PyData.eqvAll]
      rfl
    have e2 : (colD c).eqv (colD d) = ((D.str (S8 c.1)).eqv (.str (S8 d.1)) && decide (c.2 = d.2)) := by
      show PyData.eqvAll [.str (S8 c.1), .int (c.2 : Nat)] [.str (S8 d.1), .int (d.2 : Nat)] = _
      rw [PyData.eqvAll, PyData.eqvAll, PyData.eqvAll]
      show (_ && (PyData.eqv (.int (c.2 : Nat)) (.int (d.2 : Nat)) && true)) = _
      rw [PyData.eqv, Bool.and_true]
      congr 1
      rw [Bool.eq_iff_iff]
      simp
      omega
    rw [e1, e2, str_eqv, ih]
    rw [Bool.eq_iff_iff]
    obtain ⟨c1, c2⟩ := c
    obtain ⟨d1, d2⟩ := d
    simp
theorem fits_cols {cs : List Col} (hc : ∀ c ∈ cs, Lower c.1) (hl : cs.length ≤ 1000) (k : Nat) : fits (k + 3) (.lst (cs.map colD)) := ⟨le_line (by rw [List.length_map]; exact hl), fun x hx => by
  rw [List.mem_map] at hx
  obtain ⟨c, h, rfl⟩ := hx
  refine ⟨(by decide : (2 : Nat) ≤ LINE), fun y hy => ?_⟩
  simp only [List.mem_cons, List.not_mem_nil, or_false] at hy
  rcases hy with rfl | rfl
  · exact lower_ok (hc c h)
  · exact trivial⟩
theorem ColsOk.low {cs : List Col} (h : ColsOk cs) : ∀ c ∈ cs, Lower c.1 := fun c hc => (h.ok c hc).1
theorem eq_cols {cs ds : List Col} (hc : ColsOk cs) (hd : ColsOk ds) : opCmp .Eq (.lst (cs.map colD)) (.lst (ds.map colD)) = some (decide (cs = ds)) := by
  have l1 := hc.len
  have l2 := hd.len
  show (if (D.lst (cs.map colD)).eqOk && (D.lst (ds.map colD)).eqOk then some ((D.lst (cs.map colD)).eqv (.lst (ds.map colD))) else none) = _
  rw [eqOk_fits (fits_cols hc.low (by omega) 0) (by decide), eqOk_fits (fits_cols hd.low (by omega) 0) (by decide), eqv_cols]
  rfl
theorem ne_cols {cs ds : List Col} (hc : ColsOk cs) (hd : ColsOk ds) : opCmp .NotEq (.lst (cs.map colD)) (.lst (ds.map colD)) = some (!decide (cs = ds)) := by
  have l1 := hc.len
  have l2 := hd.len
  show (if (D.lst (cs.map colD)).eqOk && (D.lst (ds.map colD)).eqOk then some (!(D.lst (cs.map colD)).eqv (.lst (ds.map colD))) else none) = _
  rw [eqOk_fits (fits_cols hc.low (by omega) 0) (by decide), eqOk_fits (fits_cols hd.low (by omega) 0) (by decide), eqv_cols]
  rfl
theorem ceq_obj (h : ColS T) {g : Nat} (hg : T.gl g = some (.cls sCol)) (ho : T.oc sCol = true) {cs ds : List Col} (hc : ColsOk cs) (hd : ColsOk ds) (S : Mem) : ceqF T g [colO cs, colO ds] S = .ok (.fz (.bl (decide (cs = ds)))) S := by
  refine (e_def (T := T) (b := bColEq g) (np := 2) (n := 2) (ds := [colO cs, colO ds]) [some (.fz (colO cs)), some (.fz (colO ds))] rfl rfl).trans ?_
  have k1 := fld_rows h.f1 S cs
  have k2 := fld_rows h.f1 S ds
  have k3 : prOf T S (colO cs) sRows = none := h.p1
  have k4 : prOf T S (colO ds) sRows = none := h.p1
  have k5 : iscOf T S (colO ds) sCol = some true := by
    unfold iscOf colO
    simp only [ho, Bool.true_eq_false, if_false, if_true]
  simp only [bColEq, e_cons, e_nil, asg_eq, ret_eq, iff_eq, tas_eq, exp_eq, apd_eq, apx_eq, sst_eq, ins_eq, par_eq, n_var, n_non, n_bl, n_int, n_str, n_glob, n_bin, n_neg, n_cmp, q_lt, q_le, q_gt, q_ge, q_is, q_nis, q_in, q_nin, q_eq, q_ne, Option.map_none, ifM_none, n_chn, n_and, n_or, n_not, n_ite, n_tup, n_lst, n_idx, n_slc, n_call, n_lend, n_lens, n_callk, n_mth, n_mthk, n_fld, n_ixo, n_isc, n_rev, n_fmt, n_fst, n_lc, n_lc2, n_bcl, b_len, b_int, b_all, b_list, b_tuple, b_str, b_min, s_non, s_bl, s_int, s_str, s_lst, s_tup, p_obj, n_isi, n_rep, n_join, denB, denEs, denBs, denO, denI, denF, rdV, rdB, List.getElem?_cons_zero, List.getElem?_cons_succ, List.set_cons_zero, List.set_cons_succ, Res.bind_ok, Res.map_ok, RV.d, ofO_some, FRes.res_ok, thenS_ok, seq_nx, seq_rt, out_rt, out_nx, tstR_bl, if_true, if_false, Bool.false_eq_true, Option.map_some, List.length_cons, List.length_nil, Nat.zero_add, Nat.reduceAdd, noX_ok, hg, k5, k3, k1, k4, k2, eq_cols hc hd]
theorem ceq_lst {g : Nat} (hg : T.gl g = some (.cls sCol)) (ho : T.oc sCol = true) (x : D) (xs : List D) (S : Mem) : ceqF T g [x, .lst xs] S = .ok (.fz (.bl false)) S := by
  refine (e_def (T := T) (b := bColEq g) (np := 2) (n := 2) (ds := [x, .lst xs]) [some (.fz x), some (.fz (.lst xs))] rfl rfl).trans ?_
  have k5 : iscOf T S (.lst xs) sCol = some false := by
    unfold iscOf
    simp only [ho, Bool.true_eq_false, if_false]
  simp only [bColEq, e_cons, e_nil, asg_eq, ret_eq, iff_eq, tas_eq, exp_eq, apd_eq, apx_eq, sst_eq, ins_eq, par_eq, n_var, n_non, n_bl, n_int, n_str, n_glob, n_bin, n_neg, n_cmp, q_lt, q_le, q_gt, q_ge, q_is, q_nis, q_in, q_nin, q_eq, q_ne, Option.map_none, ifM_none, n_chn, n_and, n_or, n_not, n_ite, n_tup, n_lst, n_idx, n_slc, n_call, n_lend, n_lens, n_callk, n_mth, n_mthk, n_fld, n_ixo, n_isc, n_rev, n_fmt, n_fst, n_lc, n_lc2, n_bcl, b_len, b_int, b_all, b_list, b_tuple, b_str, b_min, s_non, s_bl, s_int, s_str, s_lst, s_tup, p_obj, n_isi, n_rep, n_join, denB, denEs, denBs, denO, denI, denF, rdV, rdB, List.getElem?_cons_zero, List.getElem?_cons_succ, List.set_cons_zero, List.set_cons_succ, Res.bind_ok, Res.map_ok, RV.d, ofO_some, FRes.res_ok, thenS_ok, seq_nx, seq_rt, out_rt, out_nx, tstR_bl, if_true, if_false, Bool.false_eq_true, Option.map_some, List.length_cons, List.length_nil, Nat.zero_add, Nat.reduceAdd, noX_ok, hg, k5]
/-! ### looks -/
def widen (acc : List (List Nat)) (n : Nat) : List (List Nat) := acc.flatMap fun l => (List.range n).map fun v => l ++ [v]
def widenAll : List Col → List (List Nat) → List (List Nat)
  | [], acc => acc
  | c :: cs, acc => widenAll cs (widen acc c.2)
def tupN (l : List Nat) : D := .tup (l.map natD)
def looksD (cs : List Col) : List D := (widenAll cs [[]]).map tupN
theorem widen_len (n : Nat) : ∀ acc : List (List Nat), (widen acc n).length = acc.length * n
  | [] => by simp [widen]
  | l :: ls => by
    have ih := widen_len n ls
    unfold widen at ih ⊢
    rw [List.flatMap_cons, List.length_append, ih, List.length_cons, Nat.succ_mul, List.length_map, List.length_range]
    omega
theorem widenAll_len : ∀ (cs : List Col) (acc : List (List Nat)), (widenAll cs acc).length = acc.length * prodC cs
  | [], acc => by show acc.length = acc.length * 1; omega
  | c :: cs, acc => by
    show (widenAll cs (widen acc c.2)).length = acc.length * (c.2 * prodC cs)
    rw [widenAll_len cs, widen_len, Nat.mul_assoc]
theorem widen_mem {acc : List (List Nat)} {n k : Nat} (h : ∀ l ∈ acc, l.length ≤ k) : ∀ l ∈ widen acc n, l.length ≤ k + 1 := fun l hl => by
  unfold widen at hl
  rw [List.mem_flatMap] at hl
  obtain ⟨a, ha, hl⟩ := hl
  rw [List.mem_map] at hl
  obtain ⟨v, _, rfl⟩ := hl
  have := h a ha
  simp
  omega
theorem widenAll_mem : ∀ (cs : List Col) (acc : List (List Nat)) (k : Nat), (∀ l ∈ acc, l.length ≤ k) → ∀ l ∈ widenAll cs acc, l.length ≤ k + cs.length
  | [], acc, k, h, l, hl => h l hl
  | c :: cs, acc, k, h, l, hl => by
    have := widenAll_mem cs (widen acc c.2) (k + 1) (widen_mem h) l hl
    simp only [List.length_cons]
    omega
theorem prodC_pos : ∀ {cs : List Col}, (∀ c ∈ cs, c.Ok) → 1 ≤ prodC cs
  | [], _ => Nat.le_refl _
  | c :: cs, h => by
    have h1 := prodC_pos (cs := cs) fun x hx => h x (List.mem_cons_of_mem _ hx)
    have h2 := (h c List.mem_cons_self).2.2.2.1
    show 1 ≤ c.2 * prodC cs
    exact Nat.mul_pos (by omega) h1
theorem tupN_snoc (l : List Nat) (v : Nat) : tupN (l ++ [v]) = .tup (l.map natD ++ [natD v]) := by simp [tupN]
theorem row_eq (l : List Nat) (n : Nat) : (rngD n).map (fun e => D.tup (l.map natD ++ [e])) = ((List.range n).map fun v => l ++ [v]).map tupN := by
  unfold rngD
  rw [List.map_map, List.map_map]
  apply List.map_congr_left
  intro v _
  show D.tup (l.map natD ++ [.int (v : Int)]) = tupN (l ++ [v])
  rw [tupN_snoc]
  rfl
def ext1 (d e : D) : D := match d with
  | .tup xs => .tup (xs ++ [e])
  | _ => .non
theorem flat_eq (n : Nat) : ∀ acc : List (List Nat), (acc.map tupN).flatMap (fun d => (rngD n).map (ext1 d)) = (widen acc n).map tupN
  | [] => rfl
  | l :: ls => by
    have ih := flat_eq n ls
    unfold widen at ih ⊢
    rw [List.map_cons, List.flatMap_cons, List.flatMap_cons, List.map_append, ih, ← row_eq]
    rfl
theorem looks_turn (S : Mem) (r0 r2 : Option RV) (acc : List (List Nat)) (n : Nat) (hl : acc.length * n ≤ 1000) (hn : n ≤ 1000) (hb : ∀ l ∈ acc, l.length ≤ 900) :
    denSs T bTurnLooks [r0, some (.own (acc.map tupN)), r2, some (.fz (.int (n : Nat))), none, none] S = .nx [r0, some (.own ((widen acc n).map tupN)), r2, some (.fz (.int (n : Nat))), none, none] S := by
  have k3 : opRng (.int (n : Nat)) = some (rngD n) := rng_ok (by omega) (by omega)
  have k1 : itemsOf (.lst (acc.map tupN)) = some (acc.map tupN) := rfl
  have k2 : lc2Run [4, 5] [5] (lc2Body T .nil (.rng (.var 3)) (.name 4)) (lcBody T .nil (.tup (.star (.var 4) (.cons (.var 5) .nil))) (.name 5)) [r0, some (.own (acc.map tupN)), r2, some (.fz (.int (n : Nat))), none, none] (acc.map tupN) S = .ok (.own ((widen acc n).map tupN)) [r0, some (.own (acc.map tupN)), r2, some (.fz (.int (n : Nat))), none, none] S := by
    obtain ⟨ρ', e, x, y, h⟩ := lc2_map (vs := [4, 5]) (vs1 := [5]) (S := S) (p := lc2Body T .nil (.rng (.var 3)) (.name 4)) (f := lcBody T .nil (.tup (.star (.var 4) (.cons (.var 5) .nil))) (.name 5)) (I := fun ρ => ∃ x y, ρ = [r0, some (.own (acc.map tupN)), r2, some (.fz (.int (n : Nat))), x, y]) (J := fun d ρ => ∃ y, ρ = [r0, some (.own (acc.map tupN)), r2, some (.fz (.int (n : Nat))), some (.fz d), y]) (gs := fun _ => rngD n) (g := ext1) (acc.map tupN) [] [r0, some (.own (acc.map tupN)), r2, some (.fz (.int (n : Nat))), none, none] ⟨none, none, rfl⟩ (fun d hd ρ hI => by
      obtain ⟨x, y, rfl⟩ := hI
      refine ⟨[r0, some (.own (acc.map tupN)), r2, some (.fz (.int (n : Nat))), some (.fz d), none], ?_, none, rfl⟩
      simp only [lc2Body, wipeE, Tg.put, denC, e_cons, e_nil, asg_eq, ret_eq, iff_eq, tas_eq, exp_eq, apd_eq, apx_eq, sst_eq, ins_eq, par_eq, n_var, n_non, n_bl, n_int, n_str, n_glob, n_bin, n_neg, n_cmp, q_lt, q_le, q_gt, q_ge, q_is, q_nis, q_in, q_nin, q_eq, q_ne, Option.map_none, ifM_none, n_chn, n_and, n_or, n_not, n_ite, n_tup, n_lst, n_idx, n_slc, n_call, n_lend, n_lens, n_callk, n_mth, n_mthk, n_fld, n_ixo, n_isc, n_rev, n_fmt, n_fst, n_lc, n_lc2, n_bcl, b_len, b_int, b_all, b_list, b_tuple, b_str, b_min, s_non, s_bl, s_int, s_str, s_lst, s_tup, p_obj, n_isi, n_rep, n_join, denB, denEs, denBs, denO, denI, denF, rdV, rdB, List.getElem?_cons_zero, List.getElem?_cons_succ, List.set_cons_zero, List.set_cons_succ, Res.bind_ok, Res.map_ok, RV.d, ofO_some, FRes.res_ok, thenS_ok, seq_nx, seq_rt, out_rt, out_nx, tstR_bl, if_true, if_false, Bool.false_eq_true, Option.map_some, List.length_cons, List.length_nil, Nat.zero_add, Nat.reduceAdd, noX_ok, k3]) (fun d hd e he ρ hJ => by
      obtain ⟨y, rfl⟩ := hJ
      rw [List.mem_map] at hd
      obtain ⟨l, hl, rfl⟩ := hd
      refine ⟨[r0, some (.own (acc.map tupN)), r2, some (.fz (.int (n : Nat))), some (.fz (tupN l)), some (.fz e)], ?_, _, rfl⟩
      have q1 : seqOf (tupN l) = some (l.map natD) := rfl
      have q2 : (l.map natD ++ [e]).length ≤ LINE := le_line (by have := hb l hl; simp; omega)
      simp only [lcBody, wipeE, Tg.put, denC, e_cons, e_nil, asg_eq, ret_eq, iff_eq, tas_eq, exp_eq, apd_eq, apx_eq, sst_eq, ins_eq, par_eq, n_var, n_non, n_bl, n_int, n_str, n_glob, n_bin, n_neg, n_cmp, q_lt, q_le, q_gt, q_ge, q_is, q_nis, q_in, q_nin, q_eq, q_ne, Option.map_none, ifM_none, n_chn, n_and, n_or, n_not, n_ite, n_tup, n_lst, n_idx, n_slc, n_call, n_lend, n_lens, n_callk, n_mth, n_mthk, n_fld, n_ixo, n_isc, n_rev, n_fmt, n_fst, n_lc, n_lc2, n_bcl, b_len, b_int, b_all, b_list, b_tuple, b_str, b_min, s_non, s_bl, s_int, s_str, s_lst, s_tup, p_obj, n_isi, n_rep, n_join, denB, denEs, denBs, denO, denI, denF, rdV, rdB, List.getElem?_cons_zero, List.getElem?_cons_succ, List.set_cons_zero, List.set_cons_succ, Res.bind_ok, Res.map_ok, RV.d, ofO_some, FRes.res_ok, thenS_ok, seq_nx, seq_rt, out_rt, out_nx, tstR_bl, if_true, if_false, Bool.false_eq_true, Option.map_some, List.length_cons, List.length_nil, Nat.zero_add, Nat.reduceAdd, noX_ok, q1, q2]
      rfl) (fun d hd ρ hJ => by
      obtain ⟨y, rfl⟩ := hJ
      exact ⟨_, _, rfl⟩) (by rw [flat_eq, List.length_map, widen_len, List.length_nil]; exact le_line (by omega))
    unfold lc2Run
    rw [if_neg (by simp [noOwn]), e, h, flat_eq]
    rfl
  simp only [bTurnLooks, e_cons, e_nil, asg_eq, ret_eq, iff_eq, tas_eq, exp_eq, apd_eq, apx_eq, sst_eq, ins_eq, par_eq, n_var, n_non, n_bl, n_int, n_str, n_glob, n_bin, n_neg, n_cmp, q_lt, q_le, q_gt, q_ge, q_is, q_nis, q_in, q_nin, q_eq, q_ne, Option.map_none, ifM_none, n_chn, n_and, n_or, n_not, n_ite, n_tup, n_lst, n_idx, n_slc, n_call, n_lend, n_lens, n_callk, n_mth, n_mthk, n_fld, n_ixo, n_isc, n_rev, n_fmt, n_fst, n_lc, n_lc2, n_bcl, b_len, b_int, b_all, b_list, b_tuple, b_str, b_min, s_non, s_bl, s_int, s_str, s_lst, s_tup, p_obj, n_isi, n_rep, n_join, denB, denEs, denBs, denO, denI, denF, rdV, rdB, List.getElem?_cons_zero, List.getElem?_cons_succ, List.set_cons_zero, List.set_cons_succ, Res.bind_ok, Res.map_ok, RV.d, ofO_some, FRes.res_ok, thenS_ok, seq_nx, seq_rt, out_rt, out_nx, tstR_bl, if_true, if_false, Bool.false_eq_true, Option.map_some, List.length_cons, List.length_nil, Nat.zero_add, Nat.reduceAdd, noX_ok, k1, k2]
theorem looks_loop (S : Mem) (r0 : Option RV) : ∀ (cs : List Col) (acc : List (List Nat)) (k : Nat) (r2 r3 : Option RV), acc.length * prodC cs ≤ 1000 → (∀ c ∈ cs, c.Ok) → (∀ l ∈ acc, l.length ≤ k) → k + cs.length ≤ 900 →
    ∃ r2' r3', forLoop (.tup [2, 3]) (denSs T bTurnLooks) (cs.map colD) [r0, some (.own (acc.map tupN)), r2, r3, none, none] S = .nx [r0, some (.own ((widenAll cs acc).map tupN)), r2', r3', none, none] S
  | [], acc, k, r2, r3, _, _, _, _ => ⟨r2, r3, rfl⟩
  | c :: cs, acc, k, r2, r3, hl, hc, hb, hk => by
    have hcc := hc c List.mem_cons_self
    have hcs : ∀ x ∈ cs, x.Ok := fun x hx => hc x (List.mem_cons_of_mem _ hx)
    have hl : acc.length * (c.2 * prodC cs) ≤ 1000 := hl
    have hp := prodC_pos hcs
    have hw : acc.length * c.2 * prodC cs ≤ 1000 := by rw [Nat.mul_assoc]; exact hl
    have hw1 : acc.length * c.2 ≤ 1000 := Nat.le_trans (Nat.le_mul_of_pos_right _ hp) hw
    rw [List.length_cons] at hk
    obtain ⟨q2, q3, e⟩ := looks_loop S r0 cs (widen acc c.2) (k + 1) (some (.fz (.str (S8 c.1)))) (some (.fz (.int (c.2 : Nat)))) (by rw [widen_len]; exact hw) hcs (widen_mem hb) (by omega)
    have t := looks_turn (T := T) S r0 (some (.fz (.str (S8 c.1)))) acc c.2 hw1 (by have := hcc.2.2.2.2; omega) (fun l hl => by have := hb l hl; omega)
    refine ⟨q2, q3, ?_⟩
    show forLoop _ _ (colD c :: cs.map colD) _ _ = _
    unfold forLoop
    simp only [colD, Tg.put, setAll, List.set_cons_zero, List.set_cons_succ]
    rw [t]
    exact e
theorem looks_ok (h : ColS T) {cs : List Col} (hc : ColsOk cs) (S : Mem) : looksF T [colO cs] S = .ok (.own (looksD cs)) S := by
  refine (e_def (T := T) (b := bLooks) (np := 1) (n := 6) (ds := [colO cs]) [some (.fz (colO cs)), none, none, none, none, none] rfl rfl).trans ?_
  have k1 := fld_rows h.f1 S cs
  have k2 : prOf T S (colO cs) sRows = none := h.p1
  have hlen := hc.len
  have hwide := hc.wide
  obtain ⟨q2, q3, e⟩ := looks_loop (T := T) S (some (.fz (colO cs))) cs [[]] 0 none none (by show 1 * _ ≤ _; omega) hc.ok (fun l hl => by simp at hl; subst hl; exact Nat.le_refl _) (by omega)
  have e : forLoop (.tup [2, 3]) (denSs T bTurnLooks) (cs.map colD) [some (.fz (colO cs)), some (.own [.tup []]), none, none, none, none] S = .nx [some (.fz (colO cs)), some (.own (looksD cs)), q2, q3, none, none] S := e
  have k3 : itemsOf (.lst (cs.map colD)) = some (cs.map colD) := rfl
  have z0 : (0 : Nat) ≤ LINE := Nat.zero_le _
  have z1 : (1 : Nat) ≤ LINE := by decide
  simp only [bLooks, e_cons, e_nil, asg_eq, ret_eq, iff_eq, tas_eq, exp_eq, apd_eq, apx_eq, sst_eq, ins_eq, par_eq, n_var, n_non, n_bl, n_int, n_str, n_glob, n_bin, n_neg, n_cmp, q_lt, q_le, q_gt, q_ge, q_is, q_nis, q_in, q_nin, q_eq, q_ne, Option.map_none, ifM_none, n_chn, n_and, n_or, n_not, n_ite, n_tup, n_lst, n_idx, n_slc, n_call, n_lend, n_lens, n_callk, n_mth, n_mthk, n_fld, n_ixo, n_isc, n_rev, n_fmt, n_fst, n_lc, n_lc2, n_bcl, b_len, b_int, b_all, b_list, b_tuple, b_str, b_min, s_non, s_bl, s_int, s_str, s_lst, s_tup, p_obj, n_isi, n_rep, n_join, denB, denEs, denBs, denO, denI, denF, rdV, rdB, List.getElem?_cons_zero, List.getElem?_cons_succ, List.set_cons_zero, List.set_cons_succ, Res.bind_ok, Res.map_ok, RV.d, ofO_some, FRes.res_ok, thenS_ok, seq_nx, seq_rt, out_rt, out_nx, tstR_bl, if_true, if_false, Bool.false_eq_true, Option.map_some, List.length_cons, List.length_nil, Nat.zero_add, Nat.reduceAdd, noX_ok, for_eq, denIF, rtm_eq, k2, k1, k3, e, z0, z1]
/-! the law's own -/
theorem widerL (S : Mem) (r0 r1 r2 : Option RV) (n : Nat) (hn : n ≤ 1000) : ∀ (ls done : List (List Nat)) (r5 : Option RV), done.length + ls.length * n ≤ 1000 → (∀ l ∈ ls, l.length ≤ 900) →
    ∃ r5', forLoop (.name 5) (denSs T bWiderL) (ls.map tupN) [r0, r1, r2, some (.fz (.int (n : Nat))), some (.own (done.map tupN)), r5, none] S = .nx [r0, r1, r2, some (.fz (.int (n : Nat))), some (.own ((done ++ widen ls n).map tupN)), r5', none] S
  | [], done, r5, _, _ => ⟨r5, by simp [forLoop, widen]⟩
  | l :: ls, done, r5, hl, hb => by
    rw [List.length_cons, Nat.succ_mul] at hl
    have hbl := hb l List.mem_cons_self
    obtain ⟨r5', e⟩ := widerL S r0 r1 r2 n hn ls (done ++ (List.range n).map fun v => l ++ [v]) (some (.fz (tupN l))) (by rw [List.length_append, List.length_map, List.length_range]; omega) (fun x hx => hb x (List.mem_cons_of_mem _ hx))
    refine ⟨r5', ?_⟩
    have k3 : opRng (.int (n : Nat)) = some (rngD n) := rng_ok (by omega) (by omega)
    have k2 : lcRun [6] (lcBody T .nil (.bin .Add (.var 5) (.tup (.cons (.var 6) .nil))) (.name 6)) [r0, r1, r2, some (.fz (.int (n : Nat))), some (.own (done.map tupN)), some (.fz (tupN l)), none] (rngD n) S = .ok (.own (((List.range n).map fun v => l ++ [v]).map tupN)) [r0, r1, r2, some (.fz (.int (n : Nat))), some (.own (done.map tupN)), some (.fz (tupN l)), none] S := by
      obtain ⟨ρ', e, x, h⟩ := lc_map (vs := [6]) (S := S) (f := lcBody T .nil (.bin .Add (.var 5) (.tup (.cons (.var 6) .nil))) (.name 6)) (I := fun ρ => ∃ x, ρ = [r0, r1, r2, some (.fz (.int (n : Nat))), some (.own (done.map tupN)), some (.fz (tupN l)), x]) (g := fun d => .tup (l.map natD ++ [d])) (rngD n) [] [r0, r1, r2, some (.fz (.int (n : Nat))), some (.own (done.map tupN)), some (.fz (tupN l)), none] ⟨none, rfl⟩ (fun d hd ρ hI => by
        obtain ⟨x, rfl⟩ := hI
        refine ⟨[r0, r1, r2, some (.fz (.int (n : Nat))), some (.own (done.map tupN)), some (.fz (tupN l)), some (.fz d)], ?_, _, rfl⟩
        have q1 : opBin .Add (tupN l) (.tup [d]) = some (.fz (.tup (l.map natD ++ [d]))) := if_pos (le_line (by rw [List.length_map]; simp; omega))
        have z1 : (1 : Nat) ≤ LINE := by decide
        simp only [lcBody, wipeE, Tg.put, denC, e_cons, e_nil, asg_eq, ret_eq, iff_eq, tas_eq, exp_eq, apd_eq, apx_eq, sst_eq, ins_eq, par_eq, n_var, n_non, n_bl, n_int, n_str, n_glob, n_bin, n_neg, n_cmp, q_lt, q_le, q_gt, q_ge, q_is, q_nis, q_in, q_nin, q_eq, q_ne, Option.map_none, ifM_none, n_chn, n_and, n_or, n_not, n_ite, n_tup, n_lst, n_idx, n_slc, n_call, n_lend, n_lens, n_callk, n_mth, n_mthk, n_fld, n_ixo, n_isc, n_rev, n_fmt, n_fst, n_lc, n_lc2, n_bcl, b_len, b_int, b_all, b_list, b_tuple, b_str, b_min, s_non, s_bl, s_int, s_str, s_lst, s_tup, p_obj, n_isi, n_rep, n_join, denB, denEs, denBs, denO, denI, denF, rdV, rdB, List.getElem?_cons_zero, List.getElem?_cons_succ, List.set_cons_zero, List.set_cons_succ, Res.bind_ok, Res.map_ok, RV.d, ofO_some, FRes.res_ok, thenS_ok, seq_nx, seq_rt, out_rt, out_nx, tstR_bl, if_true, if_false, Bool.false_eq_true, Option.map_some, List.length_cons, List.length_nil, Nat.zero_add, Nat.reduceAdd, noX_ok, q1, z1]) (le_line (by rw [rng_len, List.length_nil]; omega))
      unfold lcRun
      rw [if_neg (by simp [noOwn]), e, h, row_eq]
      rfl
    have k4 : opBin .Add (.lst (done.map tupN)) (.lst (((List.range n).map fun v => l ++ [v]).map tupN)) = some (.own ((done ++ (List.range n).map fun v => l ++ [v]).map tupN)) := by
      show (if _ then _ else _) = _
      rw [if_pos (le_line (by rw [List.length_map, List.length_map, List.length_map, List.length_range]; omega)), List.map_append]
    show forLoop _ _ (tupN l :: ls.map tupN) _ _ = _
    unfold forLoop
    simp only [bWiderL, Tg.put, e_cons, e_nil, asg_eq, ret_eq, iff_eq, tas_eq, exp_eq, apd_eq, apx_eq, sst_eq, ins_eq, par_eq, n_var, n_non, n_bl, n_int, n_str, n_glob, n_bin, n_neg, n_cmp, q_lt, q_le, q_gt, q_ge, q_is, q_nis, q_in, q_nin, q_eq, q_ne, Option.map_none, ifM_none, n_chn, n_and, n_or, n_not, n_ite, n_tup, n_lst, n_idx, n_slc, n_call, n_lend, n_lens, n_callk, n_mth, n_mthk, n_fld, n_ixo, n_isc, n_rev, n_fmt, n_fst, n_lc, n_lc2, n_bcl, b_len, b_int, b_all, b_list, b_tuple, b_str, b_min, s_non, s_bl, s_int, s_str, s_lst, s_tup, p_obj, n_isi, n_rep, n_join, denB, denEs, denBs, denO, denI, denF, rdV, rdB, List.getElem?_cons_zero, List.getElem?_cons_succ, List.set_cons_zero, List.set_cons_succ, Res.bind_ok, Res.map_ok, RV.d, ofO_some, FRes.res_ok, thenS_ok, seq_nx, seq_rt, out_rt, out_nx, tstR_bl, if_true, if_false, Bool.false_eq_true, Option.map_some, List.length_cons, List.length_nil, Nat.zero_add, Nat.reduceAdd, noX_ok, k3, k2, k4]
    rw [show done ++ widen (l :: ls) n = (done ++ (List.range n).map fun v => l ++ [v]) ++ widen ls n by simp [widen]]
    exact e
theorem looksL_turn (S : Mem) (r0 r2 r4 r5 : Option RV) (r1 : RV) (acc : List (List Nat)) (h1 : r1 = .own (acc.map tupN) ∨ r1 = .fz (.lst (acc.map tupN))) (n : Nat) (hl : acc.length * n ≤ 1000) (hn : n ≤ 1000) (hb : ∀ l ∈ acc, l.length ≤ 900) :
    ∃ r4' r5', denSs T bTurnLooksL [r0, some r1, r2, some (.fz (.int (n : Nat))), r4, r5, none] S = .nx [r0, some (.fz (.lst ((widen acc n).map tupN))), r2, some (.fz (.int (n : Nat))), r4', r5', none] S := by
  obtain ⟨r5', e⟩ := widerL (T := T) S r0 (some (.fz (.lst (acc.map tupN)))) r2 n hn acc [] r5 (by rw [List.length_nil]; omega) hb
  refine ⟨some (.fz (.lst ((widen acc n).map tupN))), r5', ?_⟩
  have e : forLoop (.name 5) (denSs T bWiderL) (acc.map tupN) [r0, some (.fz (.lst (acc.map tupN))), r2, some (.fz (.int (n : Nat))), some (.own []), r5, none] S = .nx [r0, some (.fz (.lst (acc.map tupN))), r2, some (.fz (.int (n : Nat))), some (.own ((widen acc n).map tupN)), r5', none] S := e
  have k1 : itemsOf (.lst (acc.map tupN)) = some (acc.map tupN) := rfl
  have z0 : (0 : Nat) ≤ LINE := Nat.zero_le _
  rcases h1 with rfl | rfl <;> simp only [bTurnLooksL, e_cons, e_nil, asg_eq, ret_eq, iff_eq, tas_eq, exp_eq, apd_eq, apx_eq, sst_eq, ins_eq, par_eq, n_var, n_non, n_bl, n_int, n_str, n_glob, n_bin, n_neg, n_cmp, q_lt, q_le, q_gt, q_ge, q_is, q_nis, q_in, q_nin, q_eq, q_ne, Option.map_none, ifM_none, n_chn, n_and, n_or, n_not, n_ite, n_tup, n_lst, n_idx, n_slc, n_call, n_lend, n_lens, n_callk, n_mth, n_mthk, n_fld, n_ixo, n_isc, n_rev, n_fmt, n_fst, n_lc, n_lc2, n_bcl, b_len, b_int, b_all, b_list, b_tuple, b_str, b_min, s_non, s_bl, s_int, s_str, s_lst, s_tup, p_obj, n_isi, n_rep, n_join, denB, denEs, denBs, denO, denI, denF, rdV, rdB, List.getElem?_cons_zero, List.getElem?_cons_succ, List.set_cons_zero, List.set_cons_succ, Res.bind_ok, Res.map_ok, RV.d, ofO_some, FRes.res_ok, thenS_ok, seq_nx, seq_rt, out_rt, out_nx, tstR_bl, if_true, if_false, Bool.false_eq_true, Option.map_some, List.length_cons, List.length_nil, Nat.zero_add, Nat.reduceAdd, noX_ok, for_eq, denIF, k1, e, z0]
theorem looksL_loop (S : Mem) (r0 : Option RV) : ∀ (cs : List Col) (acc : List (List Nat)) (k : Nat) (r1 : RV) (r2 r3 r4 r5 : Option RV), (r1 = .own (acc.map tupN) ∨ r1 = .fz (.lst (acc.map tupN))) → acc.length * prodC cs ≤ 1000 → (∀ c ∈ cs, c.Ok) → (∀ l ∈ acc, l.length ≤ k) → k + cs.length ≤ 900 →
    ∃ r1' r2' r3' r4' r5', forLoop (.tup [2, 3]) (denSs T bTurnLooksL) (cs.map colD) [r0, some r1, r2, r3, r4, r5, none] S = .nx [r0, some r1', r2', r3', r4', r5', none] S ∧ (r1' = .own ((widenAll cs acc).map tupN) ∨ r1' = .fz (.lst ((widenAll cs acc).map tupN)))
  | [], acc, k, r1, r2, r3, r4, r5, h1, _, _, _, _ => ⟨r1, r2, r3, r4, r5, rfl, h1⟩
  | c :: cs, acc, k, r1, r2, r3, r4, r5, h1, hl, hc, hb, hk => by
    have hcc := hc c List.mem_cons_self
    have hcs : ∀ x ∈ cs, x.Ok := fun x hx => hc x (List.mem_cons_of_mem _ hx)
    have hl : acc.length * (c.2 * prodC cs) ≤ 1000 := hl
    have hp := prodC_pos hcs
    have hw : acc.length * c.2 * prodC cs ≤ 1000 := by rw [Nat.mul_assoc]; exact hl
    have hw1 : acc.length * c.2 ≤ 1000 := Nat.le_trans (Nat.le_mul_of_pos_right _ hp) hw
    rw [List.length_cons] at hk
    obtain ⟨p4, p5, t⟩ := looksL_turn (T := T) S r0 (some (.fz (.str (S8 c.1)))) r4 r5 r1 acc h1 c.2 hw1 (by have := hcc.2.2.2.2; omega) (fun l hl => by have := hb l hl; omega)
    obtain ⟨q1, q2, q3, q4, q5, e, hq⟩ := looksL_loop S r0 cs (widen acc c.2) (k + 1) (.fz (.lst ((widen acc c.2).map tupN))) (some (.fz (.str (S8 c.1)))) (some (.fz (.int (c.2 : Nat)))) p4 p5 (.inr rfl) (by rw [widen_len]; exact hw) hcs (widen_mem hb) (by omega)
    refine ⟨q1, q2, q3, q4, q5, ?_, hq⟩
    show forLoop _ _ (colD c :: cs.map colD) _ _ = _
    unfold forLoop
    simp only [colD, Tg.put, setAll, List.set_cons_zero, List.set_cons_succ]
    rw [t]
    exact e
theorem looksL_ok {cs : List Col} (hc : ColsOk cs) (S : Mem) : looksLF T [.lst (cs.map colD)] S = .ok (.fz (.lst (looksD cs))) S := by
  refine (e_def (T := T) (b := bLooksL) (np := 1) (n := 7) (ds := [.lst (cs.map colD)]) [some (.fz (.lst (cs.map colD))), none, none, none, none, none, none] rfl rfl).trans ?_
  have hlen := hc.len
  have hwide := hc.wide
  obtain ⟨q1, q2, q3, q4, q5, e, hq⟩ := looksL_loop (T := T) S (some (.fz (.lst (cs.map colD)))) cs [[]] 0 (.own [.tup []]) none none none none (.inl rfl) (by show 1 * _ ≤ _; omega) hc.ok (fun l hl => by simp at hl; subst hl; exact Nat.le_refl _) (by omega)
  have k3 : itemsOf (.lst (cs.map colD)) = some (cs.map colD) := rfl
  have z0 : (0 : Nat) ≤ LINE := Nat.zero_le _
  have z1 : (1 : Nat) ≤ LINE := by decide
  rcases hq with rfl | rfl <;> simp only [bLooksL, e_cons, e_nil, asg_eq, ret_eq, iff_eq, tas_eq, exp_eq, apd_eq, apx_eq, sst_eq, ins_eq, par_eq, n_var, n_non, n_bl, n_int, n_str, n_glob, n_bin, n_neg, n_cmp, q_lt, q_le, q_gt, q_ge, q_is, q_nis, q_in, q_nin, q_eq, q_ne, Option.map_none, ifM_none, n_chn, n_and, n_or, n_not, n_ite, n_tup, n_lst, n_idx, n_slc, n_call, n_lend, n_lens, n_callk, n_mth, n_mthk, n_fld, n_ixo, n_isc, n_rev, n_fmt, n_fst, n_lc, n_lc2, n_bcl, b_len, b_int, b_all, b_list, b_tuple, b_str, b_min, s_non, s_bl, s_int, s_str, s_lst, s_tup, p_obj, n_isi, n_rep, n_join, denB, denEs, denBs, denO, denI, denF, rdV, rdB, List.getElem?_cons_zero, List.getElem?_cons_succ, List.set_cons_zero, List.set_cons_succ, Res.bind_ok, Res.map_ok, RV.d, ofO_some, FRes.res_ok, thenS_ok, seq_nx, seq_rt, out_rt, out_nx, tstR_bl, if_true, if_false, Bool.false_eq_true, Option.map_some, List.length_cons, List.length_nil, Nat.zero_add, Nat.reduceAdd, noX_ok, for_eq, denIF, k3, e, z0, z1] <;> rfl
theorem looksD_len {cs : List Col} : (looksD cs).length = prodC cs := by
  unfold looksD
  rw [List.length_map, widenAll_len]
  show 1 * _ = _
  omega
theorem fits_looks {cs : List Col} (hc : ColsOk cs) (k : Nat) : fits (k + 3) (.lst (looksD cs)) := ⟨le_line (by rw [looksD_len]; have := hc.wide; omega), fun x hx => by
  unfold looksD at hx
  rw [List.mem_map] at hx
  obtain ⟨l, hl, rfl⟩ := hx
  have := widenAll_mem cs [[]] 0 (fun l hl => by simp at hl; subst hl; exact Nat.le_refl _) l hl
  have hlen := hc.len
  refine ⟨le_line (by rw [List.length_map]; omega), fun y hy => ?_⟩
  rw [List.mem_map] at hy
  obtain ⟨n, _, rfl⟩ := hy
  exact trivial⟩
end Sh


/-! ShCol5: is_look, is_tests, is_changes of any plain data. -/
namespace Sh
open PySem PySem.Spec PyProof.Rows L2
/-! ### the bodies -/
def bIsLook (nu : Nat) : LSs := .cons (.iff (.or (.not (.isi (.var 1) ["tuple"])) (.cmp .NotEq (.bcl .len (.cons (.var 1) .nil)) (.bcl .len (.cons (.fld (.var 0) "pair_rows") .nil)))) (.cons (.ret (.bl false)) .nil) (.nil)) (.cons (.ret (.bcl .all (.cons (.lc [2, 3] (.and (.call nu (.cons (.var 2) .nil)) (.chn .LtE .Lt (.int 0) (.var 2) (.idx (.var 3) (.int 1)))) (.tup [2, 3]) (.zip (.var 1) (.fld (.var 0) "pair_rows")) (.nil)) .nil))) .nil)
def bIsPart : LSs := .cons (.iff (.not (.isi (.var 1) ["tuple"])) (.cons (.ret (.bl false)) .nil) (.nil)) (.cons (.iff (.not (.bcl .all (.cons (.lc [4] (.and (.isi (.var 4) ["tuple"]) (.cmp .Eq (.bcl .len (.cons (.var 4) .nil)) (.var 2))) (.name 4) (.seq (.var 1)) (.nil)) .nil))) (.cons (.ret (.bl false)) .nil) (.nil)) (.cons (.asg 3 (.lc [4] (.idx (.var 4) (.int 0)) (.name 4) (.seq (.var 1)) (.nil))) (.cons (.iff (.not (.bcl .all (.cons (.lc [5] (.and (.isi (.var 5) ["str"]) (.cmp .IsNot (.mth (.var 0) "spot" (.cons (.var 5) .nil)) (.non))) (.name 5) (.seq (.var 3)) (.nil)) .nil))) (.cons (.ret (.bl false)) .nil) (.nil)) (.cons (.ret (.cmp .Eq (.lens (.var 3)) (.bcl .len (.cons (.var 3) .nil)))) .nil))))
def bHas (nu : Nat) : LSs := .cons (.ret (.and (.call nu (.cons (.var 2) .nil)) (.chn .LtE .Lt (.int 0) (.var 2) (.idx (.idx (.fld (.var 0) "pair_rows") (.mth (.var 0) "spot" (.cons (.var 1) .nil))) (.int 1))))) .nil
def bIsTests : LSs := .cons (.ret (.and (.mth (.var 0) "is_part" (.cons (.var 1) (.cons (.int 2) .nil))) (.bcl .all (.cons (.lc [2, 3] (.mth (.var 0) "has" (.cons (.var 2) (.cons (.var 3) .nil))) (.tup [2, 3]) (.seq (.var 1)) (.nil)) .nil)))) .nil
def bIsChanges (w : Nat) : LSs := .cons (.iff (.not (.mth (.var 0) "is_part" (.cons (.var 1) (.cons (.int 3) .nil)))) (.cons (.ret (.bl false)) .nil) (.nil)) (.cons (.ret (.bcl .all (.cons (.lc [2, 3, 4] (.and (.cmp .In (.var 3) (.glob w)) (.mth (.var 0) "has" (.cons (.var 2) (.cons (.var 4) .nil)))) (.tup [2, 3, 4]) (.seq (.var 1)) (.nil)) .nil))) .nil)
abbrev isLookF (T : Tab) (nu : Nat) : Fn := denDef T 2 4 (bIsLook nu)
abbrev isPartF (T : Tab) : Fn := denDef T 3 6 bIsPart
abbrev hasF (T : Tab) (nu : Nat) : Fn := denDef T 3 3 (bHas nu)
abbrev isTestsF (T : Tab) : Fn := denDef T 2 4 bIsTests
abbrev isChangesF (T : Tab) (w : Nat) : Fn := denDef T 2 5 (bIsChanges w)
variable {T Ts Tp Tps Th Ths : Tab} {nu : Nat}
/-! ### what they answer -/
def isNumV : D → Bool
  | .int _ => true
  | _ => false
def inSz : D → Nat → Bool
  | .int i, n => decide (0 ≤ i) && decide (i < n)
  | _, _ => false
def isLookV (cs : List Col) : D → Bool
  | .tup xs => decide (xs.length = cs.length) && (xs.zip cs).all fun p => inSz p.1 p.2.2
  | _ => false
def colOf (cs : List Col) (x : Str) : Option Nat := cs.findIdx? fun c => decide (c.1 = x.cps.toList)
def headV (cs : List Col) : D → Bool
  | .str x => (colOf cs x).isSome
  | _ => false
def rowV (m : Nat) : D → Bool
  | .tup ys => decide (ys.length = m)
  | _ => false
def nthD (n : Nat) : D → D
  | .tup ys => ys.getD n .non
  | _ => .non
def strsD (ds : List D) : List Str := ds.filterMap fun d => match d with
  | .str x => some x
  | _ => none
def isPartV (cs : List Col) (m : Nat) : D → Bool
  | .tup rows => rows.all (rowV m) && ((rows.map (nthD 0)).all (headV cs) && decide (strsD (rows.map (nthD 0))).Nodup)
  | _ => false
def hasV (cs : List Col) : D → D → Bool
  | .str x, d => match colOf cs x with
    | some i => inSz d (cs.getD i ([], 0)).2
    | none => false
  | _, _ => false
def isTestsV (cs : List Col) : D → Bool
  | .tup rows => isPartV cs 2 (.tup rows) && rows.all fun r => hasV cs (nthD 0 r) (nthD 1 r)
  | _ => false
def wordV (d : D) : Bool := anyEqv d [.str "set", .str "raise"]
def isChangesV (cs : List Col) : D → Bool
  | .tup rows => isPartV cs 3 (.tup rows) && rows.all fun r => wordV (nthD 1 r) && hasV cs (nthD 0 r) (nthD 2 r)
  | _ => false
/-! ### the shared ones -/
theorem isnum_gen {d : D} (h : d.plain = true) (S : Mem) : isNumF T [d] S = .ok (.fz (.bl (isNumV d))) S := by
  refine (e_def (T := T) (b := bIsNumber) (np := 1) (n := 1) (ds := [d]) [some (.fz d)] rfl rfl).trans ?_
  cases d with
  | non => simp only [bIsNumber, e_cons, e_nil, asg_eq, ret_eq, iff_eq, tas_eq, exp_eq, apd_eq, apx_eq, sst_eq, ins_eq, par_eq, n_var, n_non, n_bl, n_int, n_str, n_glob, n_bin, n_neg, n_cmp, q_lt, q_le, q_gt, q_ge, q_is, q_nis, q_in, q_nin, q_eq, q_ne, Option.map_none, ifM_none, n_chn, n_and, n_or, n_not, n_ite, n_tup, n_lst, n_idx, n_slc, n_call, n_lend, n_lens, n_callk, n_mth, n_mthk, n_fld, n_ixo, n_isc, n_rev, n_fmt, n_fst, n_lc, n_lc2, n_bcl, b_len, b_int, b_all, b_list, b_tuple, b_str, b_min, s_non, s_bl, s_int, s_str, s_lst, s_tup, p_obj, n_isi, n_rep, n_join, denB, denEs, denBs, denO, denI, denF, rdV, rdB, List.getElem?_cons_zero, List.getElem?_cons_succ, List.set_cons_zero, List.set_cons_succ, Res.bind_ok, Res.map_ok, RV.d, ofO_some, FRes.res_ok, thenS_ok, seq_nx, seq_rt, out_rt, out_nx, tstR_bl, if_true, if_false, Bool.false_eq_true, Option.map_some, List.length_cons, List.length_nil, Nat.zero_add, Nat.reduceAdd, noX_ok, show isTys .non ["int"] = some false from rfl]; rfl
  | bl b => simp only [bIsNumber, e_cons, e_nil, asg_eq, ret_eq, iff_eq, tas_eq, exp_eq, apd_eq, apx_eq, sst_eq, ins_eq, par_eq, n_var, n_non, n_bl, n_int, n_str, n_glob, n_bin, n_neg, n_cmp, q_lt, q_le, q_gt, q_ge, q_is, q_nis, q_in, q_nin, q_eq, q_ne, Option.map_none, ifM_none, n_chn, n_and, n_or, n_not, n_ite, n_tup, n_lst, n_idx, n_slc, n_call, n_lend, n_lens, n_callk, n_mth, n_mthk, n_fld, n_ixo, n_isc, n_rev, n_fmt, n_fst, n_lc, n_lc2, n_bcl, b_len, b_int, b_all, b_list, b_tuple, b_str, b_min, s_non, s_bl, s_int, s_str, s_lst, s_tup, p_obj, n_isi, n_rep, n_join, denB, denEs, denBs, denO, denI, denF, rdV, rdB, List.getElem?_cons_zero, List.getElem?_cons_succ, List.set_cons_zero, List.set_cons_succ, Res.bind_ok, Res.map_ok, RV.d, ofO_some, FRes.res_ok, thenS_ok, seq_nx, seq_rt, out_rt, out_nx, tstR_bl, if_true, if_false, Bool.false_eq_true, Option.map_some, List.length_cons, List.length_nil, Nat.zero_add, Nat.reduceAdd, noX_ok, show isTys (.bl b) ["int"] = some true from rfl, show isTys (.bl b) ["bool"] = some true from rfl]; rfl
  | int i => simp only [bIsNumber, e_cons, e_nil, asg_eq, ret_eq, iff_eq, tas_eq, exp_eq, apd_eq, apx_eq, sst_eq, ins_eq, par_eq, n_var, n_non, n_bl, n_int, n_str, n_glob, n_bin, n_neg, n_cmp, q_lt, q_le, q_gt, q_ge, q_is, q_nis, q_in, q_nin, q_eq, q_ne, Option.map_none, ifM_none, n_chn, n_and, n_or, n_not, n_ite, n_tup, n_lst, n_idx, n_slc, n_call, n_lend, n_lens, n_callk, n_mth, n_mthk, n_fld, n_ixo, n_isc, n_rev, n_fmt, n_fst, n_lc, n_lc2, n_bcl, b_len, b_int, b_all, b_list, b_tuple, b_str, b_min, s_non, s_bl, s_int, s_str, s_lst, s_tup, p_obj, n_isi, n_rep, n_join, denB, denEs, denBs, denO, denI, denF, rdV, rdB, List.getElem?_cons_zero, List.getElem?_cons_succ, List.set_cons_zero, List.set_cons_succ, Res.bind_ok, Res.map_ok, RV.d, ofO_some, FRes.res_ok, thenS_ok, seq_nx, seq_rt, out_rt, out_nx, tstR_bl, if_true, if_false, Bool.false_eq_true, Option.map_some, List.length_cons, List.length_nil, Nat.zero_add, Nat.reduceAdd, noX_ok, show isTys (.int i) ["int"] = some true from rfl, show isTys (.int i) ["bool"] = some false from rfl]; rfl
  | str x => simp only [bIsNumber, e_cons, e_nil, asg_eq, ret_eq, iff_eq, tas_eq, exp_eq, apd_eq, apx_eq, sst_eq, ins_eq, par_eq, n_var, n_non, n_bl, n_int, n_str, n_glob, n_bin, n_neg, n_cmp, q_lt, q_le, q_gt, q_ge, q_is, q_nis, q_in, q_nin, q_eq, q_ne, Option.map_none, ifM_none, n_chn, n_and, n_or, n_not, n_ite, n_tup, n_lst, n_idx, n_slc, n_call, n_lend, n_lens, n_callk, n_mth, n_mthk, n_fld, n_ixo, n_isc, n_rev, n_fmt, n_fst, n_lc, n_lc2, n_bcl, b_len, b_int, b_all, b_list, b_tuple, b_str, b_min, s_non, s_bl, s_int, s_str, s_lst, s_tup, p_obj, n_isi, n_rep, n_join, denB, denEs, denBs, denO, denI, denF, rdV, rdB, List.getElem?_cons_zero, List.getElem?_cons_succ, List.set_cons_zero, List.set_cons_succ, Res.bind_ok, Res.map_ok, RV.d, ofO_some, FRes.res_ok, thenS_ok, seq_nx, seq_rt, out_rt, out_nx, tstR_bl, if_true, if_false, Bool.false_eq_true, Option.map_some, List.length_cons, List.length_nil, Nat.zero_add, Nat.reduceAdd, noX_ok, show isTys (.str x) ["int"] = some false from rfl]; rfl
  | lst x => simp only [bIsNumber, e_cons, e_nil, asg_eq, ret_eq, iff_eq, tas_eq, exp_eq, apd_eq, apx_eq, sst_eq, ins_eq, par_eq, n_var, n_non, n_bl, n_int, n_str, n_glob, n_bin, n_neg, n_cmp, q_lt, q_le, q_gt, q_ge, q_is, q_nis, q_in, q_nin, q_eq, q_ne, Option.map_none, ifM_none, n_chn, n_and, n_or, n_not, n_ite, n_tup, n_lst, n_idx, n_slc, n_call, n_lend, n_lens, n_callk, n_mth, n_mthk, n_fld, n_ixo, n_isc, n_rev, n_fmt, n_fst, n_lc, n_lc2, n_bcl, b_len, b_int, b_all, b_list, b_tuple, b_str, b_min, s_non, s_bl, s_int, s_str, s_lst, s_tup, p_obj, n_isi, n_rep, n_join, denB, denEs, denBs, denO, denI, denF, rdV, rdB, List.getElem?_cons_zero, List.getElem?_cons_succ, List.set_cons_zero, List.set_cons_succ, Res.bind_ok, Res.map_ok, RV.d, ofO_some, FRes.res_ok, thenS_ok, seq_nx, seq_rt, out_rt, out_nx, tstR_bl, if_true, if_false, Bool.false_eq_true, Option.map_some, List.length_cons, List.length_nil, Nat.zero_add, Nat.reduceAdd, noX_ok, show isTys (.lst x) ["int"] = some false from rfl]; rfl
  | tup x => simp only [bIsNumber, e_cons, e_nil, asg_eq, ret_eq, iff_eq, tas_eq, exp_eq, apd_eq, apx_eq, sst_eq, ins_eq, par_eq, n_var, n_non, n_bl, n_int, n_str, n_glob, n_bin, n_neg, n_cmp, q_lt, q_le, q_gt, q_ge, q_is, q_nis, q_in, q_nin, q_eq, q_ne, Option.map_none, ifM_none, n_chn, n_and, n_or, n_not, n_ite, n_tup, n_lst, n_idx, n_slc, n_call, n_lend, n_lens, n_callk, n_mth, n_mthk, n_fld, n_ixo, n_isc, n_rev, n_fmt, n_fst, n_lc, n_lc2, n_bcl, b_len, b_int, b_all, b_list, b_tuple, b_str, b_min, s_non, s_bl, s_int, s_str, s_lst, s_tup, p_obj, n_isi, n_rep, n_join, denB, denEs, denBs, denO, denI, denF, rdV, rdB, List.getElem?_cons_zero, List.getElem?_cons_succ, List.set_cons_zero, List.set_cons_succ, Res.bind_ok, Res.map_ok, RV.d, ofO_some, FRes.res_ok, thenS_ok, seq_nx, seq_rt, out_rt, out_nx, tstR_bl, if_true, if_false, Bool.false_eq_true, Option.map_some, List.length_cons, List.length_nil, Nat.zero_add, Nat.reduceAdd, noX_ok, show isTys (.tup x) ["int"] = some false from rfl]; rfl
  | obj c fs => cases h
  | loc n => cases h
  | ty n => cases h
  | cls c => cases h
theorem isTup_gen {d : D} (h : d.plain = true) : isTys d ["tuple"] = some (match d with | .tup _ => true | _ => false) := by
  cases d <;> first | rfl | cases h
theorem isStr_gen {d : D} (h : d.plain = true) : isTys d ["str"] = some (match d with | .str _ => true | _ => false) := by
  cases d <;> first | rfl | cases h
theorem plain_fits {k : Nat} {d : D} (h : fits k d) : d.plain = true := (fits_plain k d h).1
/-- what the looks need of the table -/
structure NumT (T : Tab) (nu : Nat) : Prop where
  nu : ∃ Tn, T.fn nu = some (isNumF Tn)
theorem smOf_plain {d : D} (h : d.plain = true) (S : Mem) (m : Str) : smOf T S d m = none := by
  cases d <;> first | rfl | cases h
theorem lt_ok (i : Int) (n : Nat) : opCmp .Lt (.int i) (.int (n : Nat)) = some (decide (i < n)) := rfl
theorem zip_col : ∀ (xs : List D) (cs : List Col), zipD xs (cs.map colD) = (xs.zip cs).map fun p => .tup [p.1, colD p.2]
  | [], _ => by cases ‹List Col› <;> rfl
  | x :: xs, [] => rfl
  | x :: xs, c :: cs => by
    rw [List.map_cons, List.zip_cons_cons, List.map_cons]
    show D.tup [x, colD c] :: zipD xs (cs.map colD) = _
    rw [zip_col xs cs]
def lookT (d : D) : D := match d with
  | .tup [x, .tup [_, .int n]] => .bl (inSz x n.toNat)
  | _ => .non
theorem islook_ok (hn : NumT T nu) (h : ColS T) {k : Nat} {cs : List Col} (hc : ColsOk cs) {v : D} (hv : fits k v) (S : Mem) : isLookF T nu [colO cs, v] S = .ok (.fz (.bl (isLookV cs v))) S := by
  refine (e_def (T := T) (b := bIsLook nu) (np := 2) (n := 4) (ds := [colO cs, v]) [some (.fz (colO cs)), some (.fz v), none, none] rfl rfl).trans ?_
  have k0 := isTup_gen (plain_fits hv)
  have k1 := fld_rows h.f1 S cs
  have k2 : prOf T S (colO cs) sRows = none := h.p1
  have k3 : opBcl .len [.lst (cs.map colD)] = some (.fz (.int (cs.length : Nat))) := by show some (RV.fz (.int ((cs.map colD).length : Nat))) = _; rw [List.length_map]
  have k5 := smOf_plain (T := T) (plain_fits hv) S "__len__"
  cases v with
  | tup xs =>
    cases k with
    | zero => exact hv.elim
    | succ k =>
    have k4 : opBcl .len [.tup xs] = some (.fz (.int (xs.length : Nat))) := rfl
    have k6 : opCmp .NotEq (.int (xs.length : Nat)) (.int (cs.length : Nat)) = some (!decide (xs.length = cs.length)) := by
      rw [int_ne]
      congr 2
      simp only [decide_eq_decide]
      omega
    have kz : opZip (.tup xs) (.lst (cs.map colD)) = some ((xs.zip cs).map fun p => .tup [p.1, colD p.2]) := by
      show some (zipD xs (cs.map colD)) = _
      rw [zip_col]
    obtain ⟨Tn, hnu⟩ := hn.nu
    have run : lcRun [2, 3] (lcBody T .nil (.and (.call nu (.cons (.var 2) .nil)) (.chn .LtE .Lt (.int 0) (.var 2) (.idx (.var 3) (.int 1)))) (.tup [2, 3])) [some (.fz (colO cs)), some (.fz (.tup xs)), none, none] ((xs.zip cs).map fun p => .tup [p.1, colD p.2]) S = .ok (.own (((xs.zip cs).map fun p => .tup [p.1, colD p.2]).map lookT)) [some (.fz (colO cs)), some (.fz (.tup xs)), none, none] S := by
      refine lc_pure lookT rfl (by rw [List.length_map, List.length_zip]; exact Nat.le_trans (Nat.min_le_left _ _) hv.1) fun d hd => ?_
      rw [List.mem_map] at hd
      obtain ⟨⟨x, c⟩, hp, rfl⟩ := hd
      have hx := hv.2 x (List.of_mem_zip hp).1
      refine ⟨[some (.fz (colO cs)), some (.fz (.tup xs)), some (.fz x), some (.fz (colD c))], ?_, rfl⟩
      have q1 := isnum_gen (T := Tn) (plain_fits hx) S
      have q2 : opIdx (colD c) (.int 1) = some (.fz (.int (c.2 : Nat))) := tat1 _ _ _
      cases x with
      | int i =>
        have e : isNumV (.int i) = true := rfl
        rw [e] at q1
        have e2 : lookT (.tup [.int i, colD c]) = .bl (decide (0 ≤ i) && decide (i < c.2)) := rfl
        have e3 : opCmp .LtE (.int 0) (.int i) = some (decide (0 ≤ i)) := rfl
        rw [e2]
        by_cases z : 0 ≤ i
        · rw [decide_eq_true z] at e3 ⊢
          simp only [lcBody, wipeE, Tg.put, setAll, denC, e_cons, e_nil, asg_eq, ret_eq, iff_eq, tas_eq, exp_eq, apd_eq, apx_eq, sst_eq, ins_eq, par_eq, n_var, n_non, n_bl, n_int, n_str, n_glob, n_bin, n_neg, n_cmp, q_lt, q_le, q_gt, q_ge, q_is, q_nis, q_in, q_nin, q_eq, q_ne, Option.map_none, ifM_none, n_chn, n_and, n_or, n_not, n_ite, n_tup, n_lst, n_idx, n_slc, n_call, n_lend, n_lens, n_callk, n_mth, n_mthk, n_fld, n_ixo, n_isc, n_rev, n_fmt, n_fst, n_lc, n_lc2, n_bcl, b_len, b_int, b_all, b_list, b_tuple, b_str, b_min, s_non, s_bl, s_int, s_str, s_lst, s_tup, p_obj, n_isi, n_rep, n_join, denB, denEs, denBs, denO, denI, denF, rdV, rdB, List.getElem?_cons_zero, List.getElem?_cons_succ, List.set_cons_zero, List.set_cons_succ, Res.bind_ok, Res.map_ok, RV.d, ofO_some, FRes.res_ok, thenS_ok, seq_nx, seq_rt, out_rt, out_nx, tstR_bl, if_true, if_false, Bool.false_eq_true, Option.map_some, List.length_cons, List.length_nil, Nat.zero_add, Nat.reduceAdd, noX_ok, hnu, q1, e3, q2, lt_ok, Bool.true_and]
        · rw [decide_eq_false z] at e3 ⊢
          simp only [lcBody, wipeE, Tg.put, setAll, denC, e_cons, e_nil, asg_eq, ret_eq, iff_eq, tas_eq, exp_eq, apd_eq, apx_eq, sst_eq, ins_eq, par_eq, n_var, n_non, n_bl, n_int, n_str, n_glob, n_bin, n_neg, n_cmp, q_lt, q_le, q_gt, q_ge, q_is, q_nis, q_in, q_nin, q_eq, q_ne, Option.map_none, ifM_none, n_chn, n_and, n_or, n_not, n_ite, n_tup, n_lst, n_idx, n_slc, n_call, n_lend, n_lens, n_callk, n_mth, n_mthk, n_fld, n_ixo, n_isc, n_rev, n_fmt, n_fst, n_lc, n_lc2, n_bcl, b_len, b_int, b_all, b_list, b_tuple, b_str, b_min, s_non, s_bl, s_int, s_str, s_lst, s_tup, p_obj, n_isi, n_rep, n_join, denB, denEs, denBs, denO, denI, denF, rdV, rdB, List.getElem?_cons_zero, List.getElem?_cons_succ, List.set_cons_zero, List.set_cons_succ, Res.bind_ok, Res.map_ok, RV.d, ofO_some, FRes.res_ok, thenS_ok, seq_nx, seq_rt, out_rt, out_nx, tstR_bl, if_true, if_false, Bool.false_eq_true, Option.map_some, List.length_cons, List.length_nil, Nat.zero_add, Nat.reduceAdd, noX_ok, hnu, q1, e3, q2, lt_ok, Bool.false_and]
      | _ => 
        first
        | (simp only [isNumV] at q1
           simp only [lcBody, wipeE, Tg.put, setAll, denC, e_cons, e_nil, asg_eq, ret_eq, iff_eq, tas_eq, exp_eq, apd_eq, apx_eq, sst_eq, ins_eq, par_eq, n_var, n_non, n_bl, n_int, n_str, n_glob, n_bin, n_neg, n_cmp, q_lt, q_le, q_gt, q_ge, q_is, q_nis, q_in, q_nin, q_eq, q_ne, Option.map_none, ifM_none, n_chn, n_and, n_or, n_not, n_ite, n_tup, n_lst, n_idx, n_slc, n_call, n_lend, n_lens, n_callk, n_mth, n_mthk, n_fld, n_ixo, n_isc, n_rev, n_fmt, n_fst, n_lc, n_lc2, n_bcl, b_len, b_int, b_all, b_list, b_tuple, b_str, b_min, s_non, s_bl, s_int, s_str, s_lst, s_tup, p_obj, n_isi, n_rep, n_join, denB, denEs, denBs, denO, denI, denF, rdV, rdB, List.getElem?_cons_zero, List.getElem?_cons_succ, List.set_cons_zero, List.set_cons_succ, Res.bind_ok, Res.map_ok, RV.d, ofO_some, FRes.res_ok, thenS_ok, seq_nx, seq_rt, out_rt, out_nx, tstR_bl, if_true, if_false, Bool.false_eq_true, Option.map_some, List.length_cons, List.length_nil, Nat.zero_add, Nat.reduceAdd, noX_ok, hnu, q1]
           rfl)
    have k7 : opBcl .all [.lst (((xs.zip cs).map fun p => .tup [p.1, colD p.2]).map lookT)] = some (.fz (.bl ((xs.zip cs).all fun p => inSz p.1 p.2.2))) := by
      rw [List.map_map]
      show (allBl _).map _ = _
      rw [show (lookT ∘ fun p : D × Col => .tup [p.1, colD p.2]) = fun p => .bl (inSz p.1 p.2.2) from by
        funext p
        obtain ⟨x, c⟩ := p
        rfl, allBl_gen]
      rfl
    dsimp only at k0
    by_cases z : xs.length = cs.length
    · have e : isLookV cs (.tup xs) = (xs.zip cs).all fun p => inSz p.1 p.2.2 := by
        show (decide _ && _) = _
        rw [decide_eq_true z, Bool.true_and]
      rw [e]
      rw [decide_eq_true z] at k6
      simp only [bIsLook, e_cons, e_nil, asg_eq, ret_eq, iff_eq, tas_eq, exp_eq, apd_eq, apx_eq, sst_eq, ins_eq, par_eq, n_var, n_non, n_bl, n_int, n_str, n_glob, n_bin, n_neg, n_cmp, q_lt, q_le, q_gt, q_ge, q_is, q_nis, q_in, q_nin, q_eq, q_ne, Option.map_none, ifM_none, n_chn, n_and, n_or, n_not, n_ite, n_tup, n_lst, n_idx, n_slc, n_call, n_lend, n_lens, n_callk, n_mth, n_mthk, n_fld, n_ixo, n_isc, n_rev, n_fmt, n_fst, n_lc, n_lc2, n_bcl, b_len, b_int, b_all, b_list, b_tuple, b_str, b_min, s_non, s_bl, s_int, s_str, s_lst, s_tup, p_obj, n_isi, n_rep, n_join, denB, denEs, denBs, denO, denI, denF, rdV, rdB, List.getElem?_cons_zero, List.getElem?_cons_succ, List.set_cons_zero, List.set_cons_succ, Res.bind_ok, Res.map_ok, RV.d, ofO_some, FRes.res_ok, thenS_ok, seq_nx, seq_rt, out_rt, out_nx, tstR_bl, if_true, if_false, Bool.false_eq_true, Option.map_some, List.length_cons, List.length_nil, Nat.zero_add, Nat.reduceAdd, noX_ok, k0, k4, k2, k1, k3, k6, Bool.not_true, kz, run, k7]
    · have e : isLookV cs (.tup xs) = false := by
        show (decide _ && _) = _
        rw [decide_eq_false z, Bool.false_and]
      rw [e]
      rw [decide_eq_false z] at k6
      simp only [bIsLook, e_cons, e_nil, asg_eq, ret_eq, iff_eq, tas_eq, exp_eq, apd_eq, apx_eq, sst_eq, ins_eq, par_eq, n_var, n_non, n_bl, n_int, n_str, n_glob, n_bin, n_neg, n_cmp, q_lt, q_le, q_gt, q_ge, q_is, q_nis, q_in, q_nin, q_eq, q_ne, Option.map_none, ifM_none, n_chn, n_and, n_or, n_not, n_ite, n_tup, n_lst, n_idx, n_slc, n_call, n_lend, n_lens, n_callk, n_mth, n_mthk, n_fld, n_ixo, n_isc, n_rev, n_fmt, n_fst, n_lc, n_lc2, n_bcl, b_len, b_int, b_all, b_list, b_tuple, b_str, b_min, s_non, s_bl, s_int, s_str, s_lst, s_tup, p_obj, n_isi, n_rep, n_join, denB, denEs, denBs, denO, denI, denF, rdV, rdB, List.getElem?_cons_zero, List.getElem?_cons_succ, List.set_cons_zero, List.set_cons_succ, Res.bind_ok, Res.map_ok, RV.d, ofO_some, FRes.res_ok, thenS_ok, seq_nx, seq_rt, out_rt, out_nx, tstR_bl, if_true, if_false, Bool.false_eq_true, Option.map_some, List.length_cons, List.length_nil, Nat.zero_add, Nat.reduceAdd, noX_ok, k0, k4, k2, k1, k3, k6, Bool.not_true, Bool.not_false]
  | _ =>
    dsimp only at k0
    simp only [bIsLook, e_cons, e_nil, asg_eq, ret_eq, iff_eq, tas_eq, exp_eq, apd_eq, apx_eq, sst_eq, ins_eq, par_eq, n_var, n_non, n_bl, n_int, n_str, n_glob, n_bin, n_neg, n_cmp, q_lt, q_le, q_gt, q_ge, q_is, q_nis, q_in, q_nin, q_eq, q_ne, Option.map_none, ifM_none, n_chn, n_and, n_or, n_not, n_ite, n_tup, n_lst, n_idx, n_slc, n_call, n_lend, n_lens, n_callk, n_mth, n_mthk, n_fld, n_ixo, n_isc, n_rev, n_fmt, n_fst, n_lc, n_lc2, n_bcl, b_len, b_int, b_all, b_list, b_tuple, b_str, b_min, s_non, s_bl, s_int, s_str, s_lst, s_tup, p_obj, n_isi, n_rep, n_join, denB, denEs, denBs, denO, denI, denF, rdV, rdB, List.getElem?_cons_zero, List.getElem?_cons_succ, List.set_cons_zero, List.set_cons_succ, Res.bind_ok, Res.map_ok, RV.d, ofO_some, FRes.res_ok, thenS_ok, seq_nx, seq_rt, out_rt, out_nx, tstR_bl, if_true, if_false, Bool.false_eq_true, Option.map_some, List.length_cons, List.length_nil, Nat.zero_add, Nat.reduceAdd, noX_ok, k0, Bool.not_false]
    rfl
/-! ### spot -/
theorem first_col (x : Str) : ∀ cs : List Col, firstD (.str x) (cs.map nmD) = colOf cs x
  | [] => rfl
  | c :: cs => by
    have ih := first_col x cs
    have e : (nmD c).eqv (.str x) = decide (c.1 = x.cps.toList) := by
      have := str_eqv c.1 x.cps.toList
      rw [← str_of x] at this
      exact this
    show (if (nmD c).eqv (.str x) = true then some 0 else (firstD (.str x) (cs.map nmD)).map (· + 1)) = _
    rw [ih, e]
    unfold colOf
    rw [List.findIdx?_cons]
theorem any_first (d : D) : ∀ ds : List D, anyEqv d ds = (firstD d ds).isSome
  | [] => rfl
  | e :: es => by
    show (e.eqv d || anyEqv d es) = (if e.eqv d = true then some 0 else (firstD d es).map (· + 1)).isSome
    rw [any_first d es]
    by_cases z : e.eqv d = true
    · rw [if_pos z, z]; rfl
    · rw [if_neg z]
      have z : e.eqv d = false := by simpa using z
      rw [z]
      cases firstD d es <;> rfl
def spotD (cs : List Col) (x : Str) : D := match colOf cs x with
  | some i => .int (i : Nat)
  | none => .non
theorem spot_gen (hf : T.isF sCol sRows = true) (hp : T.pr sCol sRows = none) {cs : List Col} (hc : ColsOk cs) {x : Str} (hx : (D.str x).eqOk = true) (S : Mem) : spotF T [colO cs, .str x] S = .ok (.fz (spotD cs x)) S := by
  have hlen := hc.len
  have hlow : ∀ c ∈ cs, Lower c.1 := fun c h => (hc.ok c h).1
  refine (e_def (T := T) (b := bSpot) (np := 2) (n := 5) (ds := [colO cs, .str x]) [some (.fz (colO cs)), some (.fz (.str x)), none, none, none] rfl rfl).trans ?_
  have k1 := fld_rows hf S cs
  have k2 : prOf T S (colO cs) sRows = none := hp
  have k3 := names_lc2 (T := T) cs (by omega) S (some (.fz (colO cs))) (some (.fz (.str x))) none
  have k8 : (D.lst (cs.map nmD)).eqOk = true := eqOk_fits (fits_names hlow (by omega)) (by decide)
  have k4 : opCmp .In (.str x) (.lst (cs.map nmD)) = some (colOf cs x).isSome := by
    have e : opCmp .In (.str x) (.lst (cs.map nmD)) = if (D.str x).eqOk && (D.lst (cs.map nmD)).eqOk then some (anyEqv (.str x) (cs.map nmD)) else none := rfl
    rw [e, hx, k8, any_first, first_col]
    rfl
  have k6 : opIxo (cs.map nmD) (.str x) = (colOf cs x).map fun (j : Nat) => .fz (.int (j : Int)) := by
    unfold opIxo
    rw [hx, k8, first_col]
    rfl
  have k7 : itemsOf (.lst (cs.map colD)) = some (cs.map colD) := rfl
  cases q : colOf cs x with
  | none =>
    rw [q] at k4
    have e : spotD cs x = .non := by unfold spotD; rw [q]
    rw [e]
    simp only [bSpot, e_cons, e_nil, asg_eq, ret_eq, iff_eq, tas_eq, exp_eq, apd_eq, apx_eq, sst_eq, ins_eq, par_eq, n_var, n_non, n_bl, n_int, n_str, n_glob, n_bin, n_neg, n_cmp, q_lt, q_le, q_gt, q_ge, q_is, q_nis, q_in, q_nin, q_eq, q_ne, Option.map_none, ifM_none, n_chn, n_and, n_or, n_not, n_ite, n_tup, n_lst, n_idx, n_slc, n_call, n_lend, n_lens, n_callk, n_mth, n_mthk, n_fld, n_ixo, n_isc, n_rev, n_fmt, n_fst, n_lc, n_lc2, n_bcl, b_len, b_int, b_all, b_list, b_tuple, b_str, b_min, s_non, s_bl, s_int, s_str, s_lst, s_tup, p_obj, n_isi, n_rep, n_join, denB, denEs, denBs, denO, denI, denF, rdV, rdB, List.getElem?_cons_zero, List.getElem?_cons_succ, List.set_cons_zero, List.set_cons_succ, Res.bind_ok, Res.map_ok, RV.d, ofO_some, FRes.res_ok, thenS_ok, seq_nx, seq_rt, out_rt, out_nx, tstR_bl, if_true, if_false, Bool.false_eq_true, Option.map_some, List.length_cons, List.length_nil, Nat.zero_add, Nat.reduceAdd, noX_ok, k2, k1, k7, k3, k4, Option.isSome_none]
  | some i =>
    rw [q] at k4 k6
    have e : spotD cs x = .int (i : Nat) := by unfold spotD; rw [q]
    rw [e]
    simp only [bSpot, e_cons, e_nil, asg_eq, ret_eq, iff_eq, tas_eq, exp_eq, apd_eq, apx_eq, sst_eq, ins_eq, par_eq, n_var, n_non, n_bl, n_int, n_str, n_glob, n_bin, n_neg, n_cmp, q_lt, q_le, q_gt, q_ge, q_is, q_nis, q_in, q_nin, q_eq, q_ne, Option.map_none, ifM_none, n_chn, n_and, n_or, n_not, n_ite, n_tup, n_lst, n_idx, n_slc, n_call, n_lend, n_lens, n_callk, n_mth, n_mthk, n_fld, n_ixo, n_isc, n_rev, n_fmt, n_fst, n_lc, n_lc2, n_bcl, b_len, b_int, b_all, b_list, b_tuple, b_str, b_min, s_non, s_bl, s_int, s_str, s_lst, s_tup, p_obj, n_isi, n_rep, n_join, denB, denEs, denBs, denO, denI, denF, rdV, rdB, List.getElem?_cons_zero, List.getElem?_cons_succ, List.set_cons_zero, List.set_cons_succ, Res.bind_ok, Res.map_ok, RV.d, ofO_some, FRes.res_ok, thenS_ok, seq_nx, seq_rt, out_rt, out_nx, tstR_bl, if_true, if_false, Bool.false_eq_true, Option.map_some, List.length_cons, List.length_nil, Nat.zero_add, Nat.reduceAdd, noX_ok, k2, k1, k7, k3, k4, k6, Option.isSome_some]
theorem colOf_lt {cs : List Col} {x : Str} {i : Nat} (h : colOf cs x = some i) : i < cs.length := by
  unfold colOf at h
  rw [List.findIdx?_eq_some_iff_getElem] at h
  exact h.1
/-! ### has -/
theorem has_gen (hn : NumT T nu) (h : ColT T Ts) {cs : List Col} (hc : ColsOk cs) {k i : Nat} {x : Str} (hx : (D.str x).eqOk = true) (hi : colOf cs x = some i) {d : D} (hd : fits k d) (S : Mem) : hasF T nu [colO cs, .str x, d] S = .ok (.fz (.bl (hasV cs (.str x) d))) S := by
  refine (e_def (T := T) (b := bHas nu) (np := 3) (n := 3) (ds := [colO cs, .str x, d]) [some (.fz (colO cs)), some (.fz (.str x)), some (.fz d)] rfl rfl).trans ?_
  obtain ⟨Tn, hnu⟩ := hn.nu
  have q1 := isnum_gen (T := Tn) (plain_fits hd) S
  have e : hasV cs (.str x) d = inSz d (cs.getD i ([], 0)).2 := by
    unfold hasV
    dsimp only
    rw [hi]
  rw [e]
  have k1 := fld_rows h.f2 S cs
  have k2 : prOf T S (colO cs) sRows = none := h.p2
  have k3 := mth_col (T := T) (cs := cs) h.sp (by decide +kernel) (by decide +kernel) S
  have k4 := spot_gen (T := Ts) h.f1 h.p1 hc hx S
  have k5 : spotD cs x = .int (i : Nat) := by unfold spotD; rw [hi]
  rw [k5] at k4
  have k6 := ix_nat (cols_at (colOf_lt hi))
  have k7 := col_sz (cs.getD i ([], 0))
  cases d with
  | int j =>
    have e : isNumV (.int j) = true := rfl
    rw [e] at q1
    have e2 : inSz (.int j) (cs.getD i ([], 0)).2 = (decide (0 ≤ j) && decide (j < (cs.getD i ([], 0)).2)) := rfl
    have e3 : opCmp .LtE (.int 0) (.int j) = some (decide (0 ≤ j)) := rfl
    rw [e2]
    by_cases z : 0 ≤ j
    · rw [decide_eq_true z] at e3 ⊢
      simp only [bHas, e_cons, e_nil, asg_eq, ret_eq, iff_eq, tas_eq, exp_eq, apd_eq, apx_eq, sst_eq, ins_eq, par_eq, n_var, n_non, n_bl, n_int, n_str, n_glob, n_bin, n_neg, n_cmp, q_lt, q_le, q_gt, q_ge, q_is, q_nis, q_in, q_nin, q_eq, q_ne, Option.map_none, ifM_none, n_chn, n_and, n_or, n_not, n_ite, n_tup, n_lst, n_idx, n_slc, n_call, n_lend, n_lens, n_callk, n_mth, n_mthk, n_fld, n_ixo, n_isc, n_rev, n_fmt, n_fst, n_lc, n_lc2, n_bcl, b_len, b_int, b_all, b_list, b_tuple, b_str, b_min, s_non, s_bl, s_int, s_str, s_lst, s_tup, p_obj, n_isi, n_rep, n_join, denB, denEs, denBs, denO, denI, denF, rdV, rdB, List.getElem?_cons_zero, List.getElem?_cons_succ, List.set_cons_zero, List.set_cons_succ, Res.bind_ok, Res.map_ok, RV.d, ofO_some, FRes.res_ok, thenS_ok, seq_nx, seq_rt, out_rt, out_nx, tstR_bl, if_true, if_false, Bool.false_eq_true, Option.map_some, List.length_cons, List.length_nil, Nat.zero_add, Nat.reduceAdd, noX_ok, hnu, q1, e3, k2, k1, k3, k4, k6, k7, lt_ok, Bool.true_and]
    · rw [decide_eq_false z] at e3 ⊢
      simp only [bHas, e_cons, e_nil, asg_eq, ret_eq, iff_eq, tas_eq, exp_eq, apd_eq, apx_eq, sst_eq, ins_eq, par_eq, n_var, n_non, n_bl, n_int, n_str, n_glob, n_bin, n_neg, n_cmp, q_lt, q_le, q_gt, q_ge, q_is, q_nis, q_in, q_nin, q_eq, q_ne, Option.map_none, ifM_none, n_chn, n_and, n_or, n_not, n_ite, n_tup, n_lst, n_idx, n_slc, n_call, n_lend, n_lens, n_callk, n_mth, n_mthk, n_fld, n_ixo, n_isc, n_rev, n_fmt, n_fst, n_lc, n_lc2, n_bcl, b_len, b_int, b_all, b_list, b_tuple, b_str, b_min, s_non, s_bl, s_int, s_str, s_lst, s_tup, p_obj, n_isi, n_rep, n_join, denB, denEs, denBs, denO, denI, denF, rdV, rdB, List.getElem?_cons_zero, List.getElem?_cons_succ, List.set_cons_zero, List.set_cons_succ, Res.bind_ok, Res.map_ok, RV.d, ofO_some, FRes.res_ok, thenS_ok, seq_nx, seq_rt, out_rt, out_nx, tstR_bl, if_true, if_false, Bool.false_eq_true, Option.map_some, List.length_cons, List.length_nil, Nat.zero_add, Nat.reduceAdd, noX_ok, hnu, q1, e3, Bool.false_and]
  | _ =>
    first
    | (simp only [isNumV] at q1
       simp only [bHas, e_cons, e_nil, asg_eq, ret_eq, iff_eq, tas_eq, exp_eq, apd_eq, apx_eq, sst_eq, ins_eq, par_eq, n_var, n_non, n_bl, n_int, n_str, n_glob, n_bin, n_neg, n_cmp, q_lt, q_le, q_gt, q_ge, q_is, q_nis, q_in, q_nin, q_eq, q_ne, Option.map_none, ifM_none, n_chn, n_and, n_or, n_not, n_ite, n_tup, n_lst, n_idx, n_slc, n_call, n_lend, n_lens, n_callk, n_mth, n_mthk, n_fld, n_ixo, n_isc, n_rev, n_fmt, n_fst, n_lc, n_lc2, n_bcl, b_len, b_int, b_all, b_list, b_tuple, b_str, b_min, s_non, s_bl, s_int, s_str, s_lst, s_tup, p_obj, n_isi, n_rep, n_join, denB, denEs, denBs, denO, denI, denF, rdV, rdB, List.getElem?_cons_zero, List.getElem?_cons_succ, List.set_cons_zero, List.set_cons_succ, Res.bind_ok, Res.map_ok, RV.d, ofO_some, FRes.res_ok, thenS_ok, seq_nx, seq_rt, out_rt, out_nx, tstR_bl, if_true, if_false, Bool.false_eq_true, Option.map_some, List.length_cons, List.length_nil, Nat.zero_add, Nat.reduceAdd, noX_ok, hnu, q1]
       rfl)
/-! ### is_part -/
theorem strs_of : ∀ {ds : List D}, (∀ d ∈ ds, ∃ x, d = .str x) → strsOf ds = some (strsD ds) ∧ (strsD ds).length = ds.length
  | [], _ => ⟨rfl, rfl⟩
  | d :: ds, h => by
    obtain ⟨x, rfl⟩ := h d List.mem_cons_self
    obtain ⟨e, l⟩ := strs_of (ds := ds) fun y hy => h y (List.mem_cons_of_mem _ hy)
    have e1 : strsD (.str x :: ds) = x :: strsD ds := rfl
    refine ⟨?_, by rw [e1, List.length_cons, l]; rfl⟩
    show (strsOf ds).map (x :: ·) = _
    rw [e, e1]
    rfl
theorem cnt_le (xs : List Str) : ∀ i : Nat, cntS xs i ≤ i
  | 0 => Nat.le_refl _
  | i + 1 => by
    have := cnt_le xs i
    unfold cntS
    split <;> omega
theorem cnt_nodup (xs : List Str) : ∀ i : Nat, i ≤ xs.length → (cntS xs i = i ↔ (xs.take i).Nodup)
  | 0, _ => by simp [cntS]
  | i + 1, h => by
    have ih := cnt_nodup xs i (by omega)
    have le := cnt_le xs i
    have hi : i < xs.length := by omega
    have e : xs.take (i + 1) = xs.take i ++ [xs[i]] := by rw [List.take_add_one, List.getElem?_eq_getElem hi]; rfl
    have g : xs.getD i Str.empty = xs[i] := by rw [List.getD_eq_getElem?_getD, List.getElem?_eq_getElem hi]; rfl
    have m : ((xs.take i).any (· == xs.getD i Str.empty) = true) ↔ xs[i] ∈ xs.take i := by
      rw [g, List.any_eq_true]
      constructor
      · rintro ⟨y, hy, q⟩
        rw [beq_iff_eq] at q
        rw [← q]
        exact hy
      · exact fun q => ⟨_, q, beq_self_eq_true _⟩
    rw [e, List.nodup_append]
    unfold cntS
    by_cases z : xs[i] ∈ xs.take i
    · rw [if_pos (m.mpr z)]
      constructor
      · intro q; omega
      · intro ⟨_, _, q⟩
        exact (q _ z _ (by simp) rfl).elim
    · rw [if_neg fun q => z (m.mp q)]
      constructor
      · intro q
        refine ⟨ih.mp (by omega), by simp, fun a ha b hb e => ?_⟩
        simp at hb
        rw [e, hb] at ha
        exact z ha
      · intro ⟨q, _⟩
        rw [ih.mpr q]
def rowT (m : Nat) (d : D) : D := .bl (rowV m d)
def headT (cs : List Col) (d : D) : D := .bl (headV cs d)
theorem ispart_gen (h : ColT T Ts) {cs : List Col} (hc : ColsOk cs) {k m : Nat} (hm : 1 ≤ m) {v : D} (hv : fits k v) (hl : ∀ xs, v = .tup xs → xs.length ≤ 1000) (S : Mem) : isPartF T [colO cs, v, .int (m : Nat)] S = .ok (.fz (.bl (isPartV cs m v))) S := by
  refine (e_def (T := T) (b := bIsPart) (np := 3) (n := 6) (ds := [colO cs, v, .int (m : Nat)]) [some (.fz (colO cs)), some (.fz v), some (.fz (.int (m : Nat))), none, none, none] rfl rfl).trans ?_
  have k0 := isTup_gen (plain_fits hv)
  cases v with
  | tup rows =>
    cases k with
    | zero => exact hv.elim
    | succ k =>
    dsimp only at k0
    have hl := hl rows rfl
    have k1 : itemsOf (.tup rows) = some rows := rfl
    have run1 : lcRun [4] (lcBody T .nil (.and (.isi (.var 4) ["tuple"]) (.cmp .Eq (.bcl .len (.cons (.var 4) .nil)) (.var 2))) (.name 4)) [some (.fz (colO cs)), some (.fz (.tup rows)), some (.fz (.int (m : Nat))), none, none, none] rows S = .ok (.own (rows.map (rowT m))) [some (.fz (colO cs)), some (.fz (.tup rows)), some (.fz (.int (m : Nat))), none, none, none] S := by
      refine lc_pure (rowT m) rfl hv.1 fun d hd => ?_
      have hx := hv.2 d hd
      refine ⟨[some (.fz (colO cs)), some (.fz (.tup rows)), some (.fz (.int (m : Nat))), none, some (.fz d), none], ?_, rfl⟩
      have q0 := isTup_gen (plain_fits hx)
      cases d with
      | tup ys =>
        dsimp only at q0
        have q1 : opBcl .len [.tup ys] = some (.fz (.int (ys.length : Nat))) := rfl
        have q2 : opCmp .Eq (.int (ys.length : Nat)) (.int (m : Nat)) = some (decide (ys.length = m)) := by
          rw [int_eq]
          congr 1
          simp only [decide_eq_decide]
          omega
        simp only [lcBody, wipeE, Tg.put, denC, e_cons, e_nil, asg_eq, ret_eq, iff_eq, tas_eq, exp_eq, apd_eq, apx_eq, sst_eq, ins_eq, par_eq, n_var, n_non, n_bl, n_int, n_str, n_glob, n_bin, n_neg, n_cmp, q_lt, q_le, q_gt, q_ge, q_is, q_nis, q_in, q_nin, q_eq, q_ne, Option.map_none, ifM_none, n_chn, n_and, n_or, n_not, n_ite, n_tup, n_lst, n_idx, n_slc, n_call, n_lend, n_lens, n_callk, n_mth, n_mthk, n_fld, n_ixo, n_isc, n_rev, n_fmt, n_fst, n_lc, n_lc2, n_bcl, b_len, b_int, b_all, b_list, b_tuple, b_str, b_min, s_non, s_bl, s_int, s_str, s_lst, s_tup, p_obj, n_isi, n_rep, n_join, denB, denEs, denBs, denO, denI, denF, rdV, rdB, List.getElem?_cons_zero, List.getElem?_cons_succ, List.set_cons_zero, List.set_cons_succ, Res.bind_ok, Res.map_ok, RV.d, ofO_some, FRes.res_ok, thenS_ok, seq_nx, seq_rt, out_rt, out_nx, tstR_bl, if_true, if_false, Bool.false_eq_true, Option.map_some, List.length_cons, List.length_nil, Nat.zero_add, Nat.reduceAdd, noX_ok, q0, q1, q2]
        rfl
      | _ =>
        dsimp only at q0
        simp only [lcBody, wipeE, Tg.put, denC, e_cons, e_nil, asg_eq, ret_eq, iff_eq, tas_eq, exp_eq, apd_eq, apx_eq, sst_eq, ins_eq, par_eq, n_var, n_non, n_bl, n_int, n_str, n_glob, n_bin, n_neg, n_cmp, q_lt, q_le, q_gt, q_ge, q_is, q_nis, q_in, q_nin, q_eq, q_ne, Option.map_none, ifM_none, n_chn, n_and, n_or, n_not, n_ite, n_tup, n_lst, n_idx, n_slc, n_call, n_lend, n_lens, n_callk, n_mth, n_mthk, n_fld, n_ixo, n_isc, n_rev, n_fmt, n_fst, n_lc, n_lc2, n_bcl, b_len, b_int, b_all, b_list, b_tuple, b_str, b_min, s_non, s_bl, s_int, s_str, s_lst, s_tup, p_obj, n_isi, n_rep, n_join, denB, denEs, denBs, denO, denI, denF, rdV, rdB, List.getElem?_cons_zero, List.getElem?_cons_succ, List.set_cons_zero, List.set_cons_succ, Res.bind_ok, Res.map_ok, RV.d, ofO_some, FRes.res_ok, thenS_ok, seq_nx, seq_rt, out_rt, out_nx, tstR_bl, if_true, if_false, Bool.false_eq_true, Option.map_some, List.length_cons, List.length_nil, Nat.zero_add, Nat.reduceAdd, noX_ok, q0]
        rfl
    have k2 : opBcl .all [.lst (rows.map (rowT m))] = some (.fz (.bl (rows.all (rowV m)))) := by
      show (allBl _).map _ = _
      rw [show rowT m = fun d => .bl (rowV m d) from rfl, allBl_gen]
      rfl
    by_cases z1 : rows.all (rowV m) = true
    · rw [z1] at k2
      have hrow : ∀ d ∈ rows, ∃ y ys, d = .tup (y :: ys) ∧ fits k d := fun d hd => by
        have := List.all_eq_true.mp z1 d hd
        have hx := hv.2 d hd
        cases d with
        | tup ys =>
          have : decide (ys.length = m) = true := this
          rw [decide_eq_true_eq] at this
          cases ys with
          | nil => simp at this; omega
          | cons y ys => exact ⟨y, ys, rfl, hx⟩
        | _ => cases this
      have run2 : ∀ r3 : Option RV, lcRun [4] (lcBody T .nil (.idx (.var 4) (.int 0)) (.name 4)) [some (.fz (colO cs)), some (.fz (.tup rows)), some (.fz (.int (m : Nat))), r3, none, none] rows S = .ok (.own (rows.map (nthD 0))) [some (.fz (colO cs)), some (.fz (.tup rows)), some (.fz (.int (m : Nat))), r3, none, none] S := fun r3 => by
        refine lc_pure (nthD 0) rfl hv.1 fun d hd => ?_
        obtain ⟨y, ys, rfl, _⟩ := hrow d hd
        refine ⟨[some (.fz (colO cs)), some (.fz (.tup rows)), some (.fz (.int (m : Nat))), r3, some (.fz (.tup (y :: ys))), none], ?_, rfl⟩
        have q1 : opIdx (.tup (y :: ys)) (.int 0) = some (.fz y) := tat0 y ys
        simp only [lcBody, wipeE, Tg.put, denC, e_cons, e_nil, asg_eq, ret_eq, iff_eq, tas_eq, exp_eq, apd_eq, apx_eq, sst_eq, ins_eq, par_eq, n_var, n_non, n_bl, n_int, n_str, n_glob, n_bin, n_neg, n_cmp, q_lt, q_le, q_gt, q_ge, q_is, q_nis, q_in, q_nin, q_eq, q_ne, Option.map_none, ifM_none, n_chn, n_and, n_or, n_not, n_ite, n_tup, n_lst, n_idx, n_slc, n_call, n_lend, n_lens, n_callk, n_mth, n_mthk, n_fld, n_ixo, n_isc, n_rev, n_fmt, n_fst, n_lc, n_lc2, n_bcl, b_len, b_int, b_all, b_list, b_tuple, b_str, b_min, s_non, s_bl, s_int, s_str, s_lst, s_tup, p_obj, n_isi, n_rep, n_join, denB, denEs, denBs, denO, denI, denF, rdV, rdB, List.getElem?_cons_zero, List.getElem?_cons_succ, List.set_cons_zero, List.set_cons_succ, Res.bind_ok, Res.map_ok, RV.d, ofO_some, FRes.res_ok, thenS_ok, seq_nx, seq_rt, out_rt, out_nx, tstR_bl, if_true, if_false, Bool.false_eq_true, Option.map_some, List.length_cons, List.length_nil, Nat.zero_add, Nat.reduceAdd, noX_ok, q1]
        rfl
      have hheads : ∀ d ∈ rows.map (nthD 0), ∃ j, fits j d := fun d hd => by
        rw [List.mem_map] at hd
        obtain ⟨r, hr, rfl⟩ := hd
        obtain ⟨y, ys, rfl, hf⟩ := hrow r hr
        cases k with
        | zero => exact hf.elim
        | succ k => exact ⟨k, hf.2 y List.mem_cons_self⟩
      have k3 : itemsOf (.lst (rows.map (nthD 0))) = some (rows.map (nthD 0)) := rfl
      have run3 : lcRun [5] (lcBody T .nil (.and (.isi (.var 5) ["str"]) (.cmp .IsNot (.mth (.var 0) "spot" (.cons (.var 5) .nil)) .non)) (.name 5)) [some (.fz (colO cs)), some (.fz (.tup rows)), some (.fz (.int (m : Nat))), some (.own (rows.map (nthD 0))), none, none] (rows.map (nthD 0)) S = .ok (.own ((rows.map (nthD 0)).map (headT cs))) [some (.fz (colO cs)), some (.fz (.tup rows)), some (.fz (.int (m : Nat))), some (.own (rows.map (nthD 0))), none, none] S := by
        refine lc_pure (headT cs) rfl (by rw [List.length_map]; exact hv.1) fun d hd => ?_
        obtain ⟨j, hj⟩ := hheads d hd
        refine ⟨[some (.fz (colO cs)), some (.fz (.tup rows)), some (.fz (.int (m : Nat))), some (.own (rows.map (nthD 0))), none, some (.fz d)], ?_, rfl⟩
        have q0 := isStr_gen (plain_fits hj)
        cases d with
        | str x =>
          dsimp only at q0
          have hx : (D.str x).eqOk = true := by cases j with | zero => exact hj.elim | succ j => exact hj
          have q1 := mth_col (T := T) (cs := cs) h.sp (by decide +kernel) (by decide +kernel) S
          have q2 := spot_gen (T := Ts) h.f1 h.p1 hc hx S
          have q3 : opCmp .IsNot (spotD cs x) .non = some (headV cs (.str x)) := by
            unfold spotD headV
            dsimp only
            cases colOf cs x <;> rfl
          simp only [lcBody, wipeE, Tg.put, denC, e_cons, e_nil, asg_eq, ret_eq, iff_eq, tas_eq, exp_eq, apd_eq, apx_eq, sst_eq, ins_eq, par_eq, n_var, n_non, n_bl, n_int, n_str, n_glob, n_bin, n_neg, n_cmp, q_lt, q_le, q_gt, q_ge, q_is, q_nis, q_in, q_nin, q_eq, q_ne, Option.map_none, ifM_none, n_chn, n_and, n_or, n_not, n_ite, n_tup, n_lst, n_idx, n_slc, n_call, n_lend, n_lens, n_callk, n_mth, n_mthk, n_fld, n_ixo, n_isc, n_rev, n_fmt, n_fst, n_lc, n_lc2, n_bcl, b_len, b_int, b_all, b_list, b_tuple, b_str, b_min, s_non, s_bl, s_int, s_str, s_lst, s_tup, p_obj, n_isi, n_rep, n_join, denB, denEs, denBs, denO, denI, denF, rdV, rdB, List.getElem?_cons_zero, List.getElem?_cons_succ, List.set_cons_zero, List.set_cons_succ, Res.bind_ok, Res.map_ok, RV.d, ofO_some, FRes.res_ok, thenS_ok, seq_nx, seq_rt, out_rt, out_nx, tstR_bl, if_true, if_false, Bool.false_eq_true, Option.map_some, List.length_cons, List.length_nil, Nat.zero_add, Nat.reduceAdd, noX_ok, q0, q1, q2, q3]
          rfl
        | _ =>
          dsimp only at q0
          simp only [lcBody, wipeE, Tg.put, denC, e_cons, e_nil, asg_eq, ret_eq, iff_eq, tas_eq, exp_eq, apd_eq, apx_eq, sst_eq, ins_eq, par_eq, n_var, n_non, n_bl, n_int, n_str, n_glob, n_bin, n_neg, n_cmp, q_lt, q_le, q_gt, q_ge, q_is, q_nis, q_in, q_nin, q_eq, q_ne, Option.map_none, ifM_none, n_chn, n_and, n_or, n_not, n_ite, n_tup, n_lst, n_idx, n_slc, n_call, n_lend, n_lens, n_callk, n_mth, n_mthk, n_fld, n_ixo, n_isc, n_rev, n_fmt, n_fst, n_lc, n_lc2, n_bcl, b_len, b_int, b_all, b_list, b_tuple, b_str, b_min, s_non, s_bl, s_int, s_str, s_lst, s_tup, p_obj, n_isi, n_rep, n_join, denB, denEs, denBs, denO, denI, denF, rdV, rdB, List.getElem?_cons_zero, List.getElem?_cons_succ, List.set_cons_zero, List.set_cons_succ, Res.bind_ok, Res.map_ok, RV.d, ofO_some, FRes.res_ok, thenS_ok, seq_nx, seq_rt, out_rt, out_nx, tstR_bl, if_true, if_false, Bool.false_eq_true, Option.map_some, List.length_cons, List.length_nil, Nat.zero_add, Nat.reduceAdd, noX_ok, q0]
          rfl
      have k4 : opBcl .all [.lst ((rows.map (nthD 0)).map (headT cs))] = some (.fz (.bl ((rows.map (nthD 0)).all (headV cs)))) := by
        show (allBl _).map _ = _
        rw [show headT cs = fun d => .bl (headV cs d) from rfl, allBl_gen]
        rfl
      by_cases z2 : (rows.map (nthD 0)).all (headV cs) = true
      · rw [z2] at k4
        have e : isPartV cs m (.tup rows) = decide (strsD (rows.map (nthD 0))).Nodup := by
          show (rows.all (rowV m) && ((rows.map (nthD 0)).all (headV cs) && _)) = _
          rw [z1, z2, Bool.true_and, Bool.true_and]
        rw [e]
        obtain ⟨q1, q2⟩ := strs_of (ds := rows.map (nthD 0)) fun d hd => by
          have := List.all_eq_true.mp z2 d hd
          cases d with
          | str x => exact ⟨x, rfl⟩
          | _ => cases this
        have k5 : opLens (.lst (rows.map (nthD 0))) = some (.fz (.int (cntS (strsD (rows.map (nthD 0))) (strsD (rows.map (nthD 0))).length : Nat))) := by
          unfold opLens
          dsimp only
          rw [q1]
          dsimp only
          rw [if_pos (by rw [q2, List.length_map]; exact hl)]
        have k6 : opBcl .len [.lst (rows.map (nthD 0))] = some (.fz (.int (rows.length : Nat))) := by
          show some (RV.fz (.int ((rows.map (nthD 0)).length : Nat))) = _
          rw [List.length_map]
        have k7 : opCmp .Eq (.int (cntS (strsD (rows.map (nthD 0))) (strsD (rows.map (nthD 0))).length : Nat)) (.int (rows.length : Nat)) = some (decide (strsD (rows.map (nthD 0))).Nodup) := by
          rw [int_eq]
          congr 1
          rw [decide_eq_decide]
          have := cnt_nodup (strsD (rows.map (nthD 0))) (strsD (rows.map (nthD 0))).length (Nat.le_refl _)
          rw [List.take_length] at this
          rw [← this]
          have l : (strsD (rows.map (nthD 0))).length = rows.length := by rw [q2, List.length_map]
          generalize cntS (strsD (rows.map (nthD 0))) (strsD (rows.map (nthD 0))).length = c
          rw [l]
          omega
        simp only [bIsPart, e_cons, e_nil, asg_eq, ret_eq, iff_eq, tas_eq, exp_eq, apd_eq, apx_eq, sst_eq, ins_eq, par_eq, n_var, n_non, n_bl, n_int, n_str, n_glob, n_bin, n_neg, n_cmp, q_lt, q_le, q_gt, q_ge, q_is, q_nis, q_in, q_nin, q_eq, q_ne, Option.map_none, ifM_none, n_chn, n_and, n_or, n_not, n_ite, n_tup, n_lst, n_idx, n_slc, n_call, n_lend, n_lens, n_callk, n_mth, n_mthk, n_fld, n_ixo, n_isc, n_rev, n_fmt, n_fst, n_lc, n_lc2, n_bcl, b_len, b_int, b_all, b_list, b_tuple, b_str, b_min, s_non, s_bl, s_int, s_str, s_lst, s_tup, p_obj, n_isi, n_rep, n_join, denB, denEs, denBs, denO, denI, denF, rdV, rdB, List.getElem?_cons_zero, List.getElem?_cons_succ, List.set_cons_zero, List.set_cons_succ, Res.bind_ok, Res.map_ok, RV.d, ofO_some, FRes.res_ok, thenS_ok, seq_nx, seq_rt, out_rt, out_nx, tstR_bl, if_true, if_false, Bool.false_eq_true, Option.map_some, List.length_cons, List.length_nil, Nat.zero_add, Nat.reduceAdd, noX_ok, k0, Bool.not_true, k1, run1, k2, run2, k3, run3, k4, k5, k6, k7]
      · have z2 : (rows.map (nthD 0)).all (headV cs) = false := by simpa using z2
        rw [z2] at k4
        have e : isPartV cs m (.tup rows) = false := by
          show (rows.all (rowV m) && ((rows.map (nthD 0)).all (headV cs) && _)) = _
          rw [z1, z2, Bool.true_and, Bool.false_and]
        rw [e]
        simp only [bIsPart, e_cons, e_nil, asg_eq, ret_eq, iff_eq, tas_eq, exp_eq, apd_eq, apx_eq, sst_eq, ins_eq, par_eq, n_var, n_non, n_bl, n_int, n_str, n_glob, n_bin, n_neg, n_cmp, q_lt, q_le, q_gt, q_ge, q_is, q_nis, q_in, q_nin, q_eq, q_ne, Option.map_none, ifM_none, n_chn, n_and, n_or, n_not, n_ite, n_tup, n_lst, n_idx, n_slc, n_call, n_lend, n_lens, n_callk, n_mth, n_mthk, n_fld, n_ixo, n_isc, n_rev, n_fmt, n_fst, n_lc, n_lc2, n_bcl, b_len, b_int, b_all, b_list, b_tuple, b_str, b_min, s_non, s_bl, s_int, s_str, s_lst, s_tup, p_obj, n_isi, n_rep, n_join, denB, denEs, denBs, denO, denI, denF, rdV, rdB, List.getElem?_cons_zero, List.getElem?_cons_succ, List.set_cons_zero, List.set_cons_succ, Res.bind_ok, Res.map_ok, RV.d, ofO_some, FRes.res_ok, thenS_ok, seq_nx, seq_rt, out_rt, out_nx, tstR_bl, if_true, if_false, Bool.false_eq_true, Option.map_some, List.length_cons, List.length_nil, Nat.zero_add, Nat.reduceAdd, noX_ok, k0, Bool.not_true, k1, run1, k2, run2, k3, run3, k4, Bool.not_false]
    · have z1 : rows.all (rowV m) = false := by simpa using z1
      rw [z1] at k2
      have e : isPartV cs m (.tup rows) = false := by
        show (rows.all (rowV m) && _) = _
        rw [z1, Bool.false_and]
      rw [e]
      simp only [bIsPart, e_cons, e_nil, asg_eq, ret_eq, iff_eq, tas_eq, exp_eq, apd_eq, apx_eq, sst_eq, ins_eq, par_eq, n_var, n_non, n_bl, n_int, n_str, n_glob, n_bin, n_neg, n_cmp, q_lt, q_le, q_gt, q_ge, q_is, q_nis, q_in, q_nin, q_eq, q_ne, Option.map_none, ifM_none, n_chn, n_and, n_or, n_not, n_ite, n_tup, n_lst, n_idx, n_slc, n_call, n_lend, n_lens, n_callk, n_mth, n_mthk, n_fld, n_ixo, n_isc, n_rev, n_fmt, n_fst, n_lc, n_lc2, n_bcl, b_len, b_int, b_all, b_list, b_tuple, b_str, b_min, s_non, s_bl, s_int, s_str, s_lst, s_tup, p_obj, n_isi, n_rep, n_join, denB, denEs, denBs, denO, denI, denF, rdV, rdB, List.getElem?_cons_zero, List.getElem?_cons_succ, List.set_cons_zero, List.set_cons_succ, Res.bind_ok, Res.map_ok, RV.d, ofO_some, FRes.res_ok, thenS_ok, seq_nx, seq_rt, out_rt, out_nx, tstR_bl, if_true, if_false, Bool.false_eq_true, Option.map_some, List.length_cons, List.length_nil, Nat.zero_add, Nat.reduceAdd, noX_ok, k0, Bool.not_true, k1, run1, k2, Bool.not_false]
  | _ =>
    dsimp only at k0
    simp only [bIsPart, e_cons, e_nil, asg_eq, ret_eq, iff_eq, tas_eq, exp_eq, apd_eq, apx_eq, sst_eq, ins_eq, par_eq, n_var, n_non, n_bl, n_int, n_str, n_glob, n_bin, n_neg, n_cmp, q_lt, q_le, q_gt, q_ge, q_is, q_nis, q_in, q_nin, q_eq, q_ne, Option.map_none, ifM_none, n_chn, n_and, n_or, n_not, n_ite, n_tup, n_lst, n_idx, n_slc, n_call, n_lend, n_lens, n_callk, n_mth, n_mthk, n_fld, n_ixo, n_isc, n_rev, n_fmt, n_fst, n_lc, n_lc2, n_bcl, b_len, b_int, b_all, b_list, b_tuple, b_str, b_min, s_non, s_bl, s_int, s_str, s_lst, s_tup, p_obj, n_isi, n_rep, n_join, denB, denEs, denBs, denO, denI, denF, rdV, rdB, List.getElem?_cons_zero, List.getElem?_cons_succ, List.set_cons_zero, List.set_cons_succ, Res.bind_ok, Res.map_ok, RV.d, ofO_some, FRes.res_ok, thenS_ok, seq_nx, seq_rt, out_rt, out_nx, tstR_bl, if_true, if_false, Bool.false_eq_true, Option.map_some, List.length_cons, List.length_nil, Nat.zero_add, Nat.reduceAdd, noX_ok, k0, Bool.not_false]
    rfl
/-! ### is_tests, is_changes -/
abbrev sPart : Str := "is_part"
abbrev sHas : Str := "has"
/-- what they need of the table -/
structure TstT (T Tp Tps Th Ths : Tab) (nu : Nat) : Prop where
  part : T.mt sCol sPart = some (isPartF Tp)
  has : T.mt sCol sHas = some (hasF Th nu)
  cp : ColT Tp Tps
  ch : ColT Th Ths
  nu : NumT Th nu
theorem part_rows {cs : List Col} {m k : Nat} {rows : List D} (hm : 1 ≤ m) (h : isPartV cs m (.tup rows) = true) (hf : ∀ d ∈ rows, fits (k + 1) d) : ∀ d ∈ rows, ∃ x ys i, d = .tup (.str x :: ys) ∧ ys.length + 1 = m ∧ (D.str x).eqOk = true ∧ colOf cs x = some i ∧ ∀ y ∈ ys, fits k y := fun d hd => by
  have h : (rows.all (rowV m) && ((rows.map (nthD 0)).all (headV cs) && decide (strsD (rows.map (nthD 0))).Nodup)) = true := h
  simp only [Bool.and_eq_true] at h
  have h1 := List.all_eq_true.mp h.1 d hd
  have h2 := List.all_eq_true.mp h.2.1 _ (List.mem_map.mpr ⟨d, hd, rfl⟩)
  have hx := hf d hd
  cases d with
  | tup zs =>
    have h1 : decide (zs.length = m) = true := h1
    rw [decide_eq_true_eq] at h1
    cases zs with
    | nil => simp at h1; omega
    | cons z ys =>
      have h2 : headV cs z = true := h2
      cases z with
      | str x =>
        have h2 : (colOf cs x).isSome = true := h2
        obtain ⟨i, hi⟩ := Option.isSome_iff_exists.mp h2
        have hs := hx.2 (.str x) List.mem_cons_self
        refine ⟨x, ys, i, rfl, h1, ?_, hi, fun y hy => hx.2 y (List.mem_cons_of_mem _ hy)⟩
        cases k with
        | zero => exact hs.elim
        | succ k => exact hs
      | _ => cases h2
  | _ => cases h1
def testT (cs : List Col) (r : D) : D := .bl (hasV cs (nthD 0 r) (nthD 1 r))
theorem istests_gen (h : TstT T Tp Tps Th Ths nu) {cs : List Col} (hc : ColsOk cs) {k : Nat} {v : D} (hv : fits k v) (hl : ∀ xs, v = .tup xs → xs.length ≤ 1000) (S : Mem) : isTestsF T [colO cs, v] S = .ok (.fz (.bl (isTestsV cs v))) S := by
  refine (e_def (T := T) (b := bIsTests) (np := 2) (n := 4) (ds := [colO cs, v]) [some (.fz (colO cs)), some (.fz v), none, none] rfl rfl).trans ?_
  have k1 := mth_col (T := T) (cs := cs) h.part (by decide +kernel) (by decide +kernel) S
  have k2 := ispart_gen h.cp hc (m := 2) (by omega) hv hl S
  have k3 := mth_col (T := T) (cs := cs) h.has (by decide +kernel) (by decide +kernel) S
  by_cases z : isPartV cs 2 v = true
  · rw [z] at k2
    cases v with
    | tup rows =>
      cases k with
      | zero => exact hv.elim
      | succ k =>
      have e : isTestsV cs (.tup rows) = rows.all fun r => hasV cs (nthD 0 r) (nthD 1 r) := by
        show (isPartV cs 2 (.tup rows) && _) = _
        rw [z, Bool.true_and]
      rw [e]
      have hr := part_rows (k := k) (by omega) z (fun d hd => fits_mono k d (hv.2 d hd))
      have k4 : itemsOf (.tup rows) = some rows := rfl
      have run : lcRun [2, 3] (lcBody T .nil (.mth (.var 0) "has" (.cons (.var 2) (.cons (.var 3) .nil))) (.tup [2, 3])) [some (.fz (colO cs)), some (.fz (.tup rows)), none, none] rows S = .ok (.own (rows.map (testT cs))) [some (.fz (colO cs)), some (.fz (.tup rows)), none, none] S := by
        refine lc_pure (testT cs) rfl hv.1 fun d hd => ?_
        obtain ⟨x, ys, i, rfl, hy, hx, hi, hyf⟩ := hr d hd
        match ys, hy with
        | [y], _ =>
          refine ⟨[some (.fz (colO cs)), some (.fz (.tup rows)), some (.fz (.str x)), some (.fz y)], ?_, rfl⟩
          have q := has_gen h.nu h.ch hc hx hi (hyf y List.mem_cons_self) S
          simp only [lcBody, wipeE, Tg.put, setAll, denC, e_cons, e_nil, asg_eq, ret_eq, iff_eq, tas_eq, exp_eq, apd_eq, apx_eq, sst_eq, ins_eq, par_eq, n_var, n_non, n_bl, n_int, n_str, n_glob, n_bin, n_neg, n_cmp, q_lt, q_le, q_gt, q_ge, q_is, q_nis, q_in, q_nin, q_eq, q_ne, Option.map_none, ifM_none, n_chn, n_and, n_or, n_not, n_ite, n_tup, n_lst, n_idx, n_slc, n_call, n_lend, n_lens, n_callk, n_mth, n_mthk, n_fld, n_ixo, n_isc, n_rev, n_fmt, n_fst, n_lc, n_lc2, n_bcl, b_len, b_int, b_all, b_list, b_tuple, b_str, b_min, s_non, s_bl, s_int, s_str, s_lst, s_tup, p_obj, n_isi, n_rep, n_join, denB, denEs, denBs, denO, denI, denF, rdV, rdB, List.getElem?_cons_zero, List.getElem?_cons_succ, List.set_cons_zero, List.set_cons_succ, Res.bind_ok, Res.map_ok, RV.d, ofO_some, FRes.res_ok, thenS_ok, seq_nx, seq_rt, out_rt, out_nx, tstR_bl, if_true, if_false, Bool.false_eq_true, Option.map_some, List.length_cons, List.length_nil, Nat.zero_add, Nat.reduceAdd, noX_ok, k3, q]
          rfl
      have k5 : opBcl .all [.lst (rows.map (testT cs))] = some (.fz (.bl (rows.all fun r => hasV cs (nthD 0 r) (nthD 1 r)))) := by
        show (allBl _).map _ = _
        rw [show testT cs = fun r => .bl (hasV cs (nthD 0 r) (nthD 1 r)) from rfl, allBl_gen]
        rfl
      have k2' : isPartF Tp [colO cs, .tup rows, .int 2] S = .ok (.fz (.bl true)) S := k2
      simp only [bIsTests, e_cons, e_nil, asg_eq, ret_eq, iff_eq, tas_eq, exp_eq, apd_eq, apx_eq, sst_eq, ins_eq, par_eq, n_var, n_non, n_bl, n_int, n_str, n_glob, n_bin, n_neg, n_cmp, q_lt, q_le, q_gt, q_ge, q_is, q_nis, q_in, q_nin, q_eq, q_ne, Option.map_none, ifM_none, n_chn, n_and, n_or, n_not, n_ite, n_tup, n_lst, n_idx, n_slc, n_call, n_lend, n_lens, n_callk, n_mth, n_mthk, n_fld, n_ixo, n_isc, n_rev, n_fmt, n_fst, n_lc, n_lc2, n_bcl, b_len, b_int, b_all, b_list, b_tuple, b_str, b_min, s_non, s_bl, s_int, s_str, s_lst, s_tup, p_obj, n_isi, n_rep, n_join, denB, denEs, denBs, denO, denI, denF, rdV, rdB, List.getElem?_cons_zero, List.getElem?_cons_succ, List.set_cons_zero, List.set_cons_succ, Res.bind_ok, Res.map_ok, RV.d, ofO_some, FRes.res_ok, thenS_ok, seq_nx, seq_rt, out_rt, out_nx, tstR_bl, if_true, if_false, Bool.false_eq_true, Option.map_some, List.length_cons, List.length_nil, Nat.zero_add, Nat.reduceAdd, noX_ok, k1, k2', k4, run, k5]
    | _ => cases z
  · have z : isPartV cs 2 v = false := by simpa using z
    rw [z] at k2
    have e : isTestsV cs v = false := by
      cases v with
      | tup rows =>
        show (isPartV cs 2 (.tup rows) && _) = _
        rw [z, Bool.false_and]
      | _ => rfl
    rw [e]
    have k2' : isPartF Tp [colO cs, v, .int 2] S = .ok (.fz (.bl false)) S := k2
    simp only [bIsTests, e_cons, e_nil, asg_eq, ret_eq, iff_eq, tas_eq, exp_eq, apd_eq, apx_eq, sst_eq, ins_eq, par_eq, n_var, n_non, n_bl, n_int, n_str, n_glob, n_bin, n_neg, n_cmp, q_lt, q_le, q_gt, q_ge, q_is, q_nis, q_in, q_nin, q_eq, q_ne, Option.map_none, ifM_none, n_chn, n_and, n_or, n_not, n_ite, n_tup, n_lst, n_idx, n_slc, n_call, n_lend, n_lens, n_callk, n_mth, n_mthk, n_fld, n_ixo, n_isc, n_rev, n_fmt, n_fst, n_lc, n_lc2, n_bcl, b_len, b_int, b_all, b_list, b_tuple, b_str, b_min, s_non, s_bl, s_int, s_str, s_lst, s_tup, p_obj, n_isi, n_rep, n_join, denB, denEs, denBs, denO, denI, denF, rdV, rdB, List.getElem?_cons_zero, List.getElem?_cons_succ, List.set_cons_zero, List.set_cons_succ, Res.bind_ok, Res.map_ok, RV.d, ofO_some, FRes.res_ok, thenS_ok, seq_nx, seq_rt, out_rt, out_nx, tstR_bl, if_true, if_false, Bool.false_eq_true, Option.map_some, List.length_cons, List.length_nil, Nat.zero_add, Nat.reduceAdd, noX_ok, k1, k2']
def changeT (cs : List Col) (r : D) : D := .bl (wordV (nthD 1 r) && hasV cs (nthD 0 r) (nthD 2 r))
theorem words_ok : (D.tup [.str "set", .str "raise"]).eqOk = true := by decide +kernel
theorem ischanges_gen {wo : Nat} (h : TstT T Tp Tps Th Ths nu) (hw : T.gl wo = some (.tup [.str "set", .str "raise"])) {cs : List Col} (hc : ColsOk cs) {k : Nat} (hk : k ≤ 60) {v : D} (hv : fits k v) (hl : ∀ xs, v = .tup xs → xs.length ≤ 1000) (S : Mem) : isChangesF T wo [colO cs, v] S = .ok (.fz (.bl (isChangesV cs v))) S := by
  refine (e_def (T := T) (b := bIsChanges wo) (np := 2) (n := 5) (ds := [colO cs, v]) [some (.fz (colO cs)), some (.fz v), none, none, none] rfl rfl).trans ?_
  have k1 := mth_col (T := T) (cs := cs) h.part (by decide +kernel) (by decide +kernel) S
  have k2 := ispart_gen h.cp hc (m := 3) (by omega) hv hl S
  have k3 := mth_col (T := T) (cs := cs) h.has (by decide +kernel) (by decide +kernel) S
  by_cases z : isPartV cs 3 v = true
  · rw [z] at k2
    cases v with
    | tup rows =>
      cases k with
      | zero => exact hv.elim
      | succ k =>
      have e : isChangesV cs (.tup rows) = rows.all fun r => wordV (nthD 1 r) && hasV cs (nthD 0 r) (nthD 2 r) := by
        show (isPartV cs 3 (.tup rows) && _) = _
        rw [z, Bool.true_and]
      rw [e]
      have hr := part_rows (k := k) (by omega) z (fun d hd => fits_mono k d (hv.2 d hd))
      have k4 : itemsOf (.tup rows) = some rows := rfl
      have run : lcRun [2, 3, 4] (lcBody T .nil (.and (.cmp .In (.var 3) (.glob wo)) (.mth (.var 0) "has" (.cons (.var 2) (.cons (.var 4) .nil)))) (.tup [2, 3, 4])) [some (.fz (colO cs)), some (.fz (.tup rows)), none, none, none] rows S = .ok (.own (rows.map (changeT cs))) [some (.fz (colO cs)), some (.fz (.tup rows)), none, none, none] S := by
        refine lc_pure (changeT cs) rfl hv.1 fun d hd => ?_
        obtain ⟨x, ys, i, rfl, hy, hx, hi, hyf⟩ := hr d hd
        match ys, hy with
        | [y, y2], _ =>
          refine ⟨[some (.fz (colO cs)), some (.fz (.tup rows)), some (.fz (.str x)), some (.fz y), some (.fz y2)], ?_, rfl⟩
          have hy1 := hyf y List.mem_cons_self
          have q := has_gen h.nu h.ch hc hx hi (hyf y2 (by simp)) S
          have q2 : opCmp .In y (.tup [.str "set", .str "raise"]) = some (wordV y) := by
            have e1 : ∀ d : D, (∀ x, d ≠ .str x) → opCmp .In d (.tup [.str "set", .str "raise"]) = if d.eqOk && (D.tup [.str "set", .str "raise"]).eqOk then some (anyEqv d [.str "set", .str "raise"]) else none := fun d hd => by
              cases d <;> first | rfl | exact (hd _ rfl).elim
            have e2 : ∀ x : Str, opCmp .In (.str x) (.tup [.str "set", .str "raise"]) = if (D.str x).eqOk && (D.tup [.str "set", .str "raise"]).eqOk then some (anyEqv (.str x) [.str "set", .str "raise"]) else none := fun x => rfl
            have e3 : opCmp .In y (.tup [.str "set", .str "raise"]) = if y.eqOk && (D.tup [.str "set", .str "raise"]).eqOk then some (anyEqv y [.str "set", .str "raise"]) else none := by
              cases y <;> first | exact e2 _ | exact e1 _ (fun x e => by cases e)
            rw [e3, words_ok, eqOk_fits hy1 (by omega)]
            rfl
          by_cases zw : wordV y = true
          · rw [zw] at q2
            have e5 : changeT cs (.tup [.str x, y, y2]) = .bl (hasV cs (.str x) y2) := by
              show D.bl (wordV y && hasV cs (.str x) y2) = _
              rw [zw, Bool.true_and]
            rw [e5]
            have q3 := smOf_plain (T := T) (plain_fits hy1) S
            simp only [lcBody, wipeE, Tg.put, setAll, denC, e_cons, e_nil, asg_eq, ret_eq, iff_eq, tas_eq, exp_eq, apd_eq, apx_eq, sst_eq, ins_eq, par_eq, n_var, n_non, n_bl, n_int, n_str, n_glob, n_bin, n_neg, n_cmp, q_lt, q_le, q_gt, q_ge, q_is, q_nis, q_in, q_nin, q_eq, q_ne, Option.map_none, ifM_none, n_chn, n_and, n_or, n_not, n_ite, n_tup, n_lst, n_idx, n_slc, n_call, n_lend, n_lens, n_callk, n_mth, n_mthk, n_fld, n_ixo, n_isc, n_rev, n_fmt, n_fst, n_lc, n_lc2, n_bcl, b_len, b_int, b_all, b_list, b_tuple, b_str, b_min, s_non, s_bl, s_int, s_str, s_lst, s_tup, p_obj, n_isi, n_rep, n_join, denB, denEs, denBs, denO, denI, denF, rdV, rdB, List.getElem?_cons_zero, List.getElem?_cons_succ, List.set_cons_zero, List.set_cons_succ, Res.bind_ok, Res.map_ok, RV.d, ofO_some, FRes.res_ok, thenS_ok, seq_nx, seq_rt, out_rt, out_nx, tstR_bl, if_true, if_false, Bool.false_eq_true, Option.map_some, List.length_cons, List.length_nil, Nat.zero_add, Nat.reduceAdd, noX_ok, q2, hw, k3, q]
          · have zw : wordV y = false := by simpa using zw
            rw [zw] at q2
            have e5 : changeT cs (.tup [.str x, y, y2]) = .bl false := by
              show D.bl (wordV y && hasV cs (.str x) y2) = _
              rw [zw, Bool.false_and]
            rw [e5]
            simp only [lcBody, wipeE, Tg.put, setAll, denC, e_cons, e_nil, asg_eq, ret_eq, iff_eq, tas_eq, exp_eq, apd_eq, apx_eq, sst_eq, ins_eq, par_eq, n_var, n_non, n_bl, n_int, n_str, n_glob, n_bin, n_neg, n_cmp, q_lt, q_le, q_gt, q_ge, q_is, q_nis, q_in, q_nin, q_eq, q_ne, Option.map_none, ifM_none, n_chn, n_and, n_or, n_not, n_ite, n_tup, n_lst, n_idx, n_slc, n_call, n_lend, n_lens, n_callk, n_mth, n_mthk, n_fld, n_ixo, n_isc, n_rev, n_fmt, n_fst, n_lc, n_lc2, n_bcl, b_len, b_int, b_all, b_list, b_tuple, b_str, b_min, s_non, s_bl, s_int, s_str, s_lst, s_tup, p_obj, n_isi, n_rep, n_join, denB, denEs, denBs, denO, denI, denF, rdV, rdB, List.getElem?_cons_zero, List.getElem?_cons_succ, List.set_cons_zero, List.set_cons_succ, Res.bind_ok, Res.map_ok, RV.d, ofO_some, FRes.res_ok, thenS_ok, seq_nx, seq_rt, out_rt, out_nx, tstR_bl, if_true, if_false, Bool.false_eq_true, Option.map_some, List.length_cons, List.length_nil, Nat.zero_add, Nat.reduceAdd, noX_ok, q2, hw]
      have k5 : opBcl .all [.lst (rows.map (changeT cs))] = some (.fz (.bl (rows.all fun r => wordV (nthD 1 r) && hasV cs (nthD 0 r) (nthD 2 r)))) := by
        show (allBl _).map _ = _
        rw [show changeT cs = fun r => .bl (wordV (nthD 1 r) && hasV cs (nthD 0 r) (nthD 2 r)) from rfl, allBl_gen]
        rfl
      have k2' : isPartF Tp [colO cs, .tup rows, .int 3] S = .ok (.fz (.bl true)) S := k2
      simp only [bIsChanges, e_cons, e_nil, asg_eq, ret_eq, iff_eq, tas_eq, exp_eq, apd_eq, apx_eq, sst_eq, ins_eq, par_eq, n_var, n_non, n_bl, n_int, n_str, n_glob, n_bin, n_neg, n_cmp, q_lt, q_le, q_gt, q_ge, q_is, q_nis, q_in, q_nin, q_eq, q_ne, Option.map_none, ifM_none, n_chn, n_and, n_or, n_not, n_ite, n_tup, n_lst, n_idx, n_slc, n_call, n_lend, n_lens, n_callk, n_mth, n_mthk, n_fld, n_ixo, n_isc, n_rev, n_fmt, n_fst, n_lc, n_lc2, n_bcl, b_len, b_int, b_all, b_list, b_tuple, b_str, b_min, s_non, s_bl, s_int, s_str, s_lst, s_tup, p_obj, n_isi, n_rep, n_join, denB, denEs, denBs, denO, denI, denF, rdV, rdB, List.getElem?_cons_zero, List.getElem?_cons_succ, List.set_cons_zero, List.set_cons_succ, Res.bind_ok, Res.map_ok, RV.d, ofO_some, FRes.res_ok, thenS_ok, seq_nx, seq_rt, out_rt, out_nx, tstR_bl, if_true, if_false, Bool.false_eq_true, Option.map_some, List.length_cons, List.length_nil, Nat.zero_add, Nat.reduceAdd, noX_ok, k1, k2', Bool.not_true, k4, run, k5]
    | _ => cases z
  · have z : isPartV cs 3 v = false := by simpa using z
    rw [z] at k2
    have e : isChangesV cs v = false := by
      cases v with
      | tup rows =>
        show (isPartV cs 3 (.tup rows) && _) = _
        rw [z, Bool.false_and]
      | _ => rfl
    rw [e]
    have k2' : isPartF Tp [colO cs, v, .int 3] S = .ok (.fz (.bl false)) S := k2
    simp only [bIsChanges, e_cons, e_nil, asg_eq, ret_eq, iff_eq, tas_eq, exp_eq, apd_eq, apx_eq, sst_eq, ins_eq, par_eq, n_var, n_non, n_bl, n_int, n_str, n_glob, n_bin, n_neg, n_cmp, q_lt, q_le, q_gt, q_ge, q_is, q_nis, q_in, q_nin, q_eq, q_ne, Option.map_none, ifM_none, n_chn, n_and, n_or, n_not, n_ite, n_tup, n_lst, n_idx, n_slc, n_call, n_lend, n_lens, n_callk, n_mth, n_mthk, n_fld, n_ixo, n_isc, n_rev, n_fmt, n_fst, n_lc, n_lc2, n_bcl, b_len, b_int, b_all, b_list, b_tuple, b_str, b_min, s_non, s_bl, s_int, s_str, s_lst, s_tup, p_obj, n_isi, n_rep, n_join, denB, denEs, denBs, denO, denI, denF, rdV, rdB, List.getElem?_cons_zero, List.getElem?_cons_succ, List.set_cons_zero, List.set_cons_succ, Res.bind_ok, Res.map_ok, RV.d, ofO_some, FRes.res_ok, thenS_ok, seq_nx, seq_rt, out_rt, out_nx, tstR_bl, if_true, if_false, Bool.false_eq_true, Option.map_some, List.length_cons, List.length_nil, Nat.zero_add, Nat.reduceAdd, noX_ok, k1, k2', Bool.not_false]
end Sh


/-! ShCol6: what the laws draw for columns, with all that is known of it; the columns of drawn names and sizes. -/
namespace Sh
open PySem PySem.Spec PyProof.Rows L2
section
variable {T Ts : Tab}
/-! ### lists -/
theorem perm_map_ex {α β : Type} {g : α → β} : ∀ {us ws : List β}, us.Perm ws → ∀ {zs : List α}, ws = zs.map g → ∃ l : List α, l.Perm zs ∧ us = l.map g := by
  intro us ws h
  induction h with
  | nil => intro zs e; (cases zs with
    | nil => exact ⟨[], List.Perm.nil, rfl⟩
    | cons z zs => cases e)
  | cons x _ ih =>
    intro zs e
    cases zs with
    | nil => cases e
    | cons z zs =>
      rw [List.map_cons, List.cons.injEq] at e
      obtain ⟨l, h1, h2⟩ := ih e.2
      exact ⟨z :: l, h1.cons z, by rw [List.map_cons, ← h2, ← e.1]⟩
  | swap x y l =>
    intro zs e
    match zs, e with
    | z1 :: z2 :: zs, e =>
      rw [List.map_cons, List.map_cons, List.cons.injEq, List.cons.injEq] at e
      exact ⟨z2 :: z1 :: zs, .swap _ _ _, by rw [List.map_cons, List.map_cons, ← e.1, ← e.2.1, ← e.2.2]⟩
  | trans _ _ ih1 ih2 =>
    intro zs e
    obtain ⟨l, h1, h2⟩ := ih2 e
    obtain ⟨m, h3, h4⟩ := ih1 h2
    exact ⟨m, h3.trans h1, h4⟩
theorem choose_list {α : Type} [Inhabited α] {n : Nat} {ys : List D} (P : Nat → α → Prop) (g : Nat → α → D) (hl : ys.length = n) (h : ∀ i, i < n → ∃ v, P i v ∧ ys[i]? = some (g i v)) :
    ∃ vs : List (Nat × α), ys = vs.map (fun p => g p.1 p.2) ∧ vs.map (·.1) = List.range n ∧ ∀ p ∈ vs, P p.1 p.2 := by
  have hf : ∃ f : Nat → α, ∀ i, i < n → P i (f i) ∧ ys[i]? = some (g i (f i)) := by
    refine ⟨fun i => if q : i < n then Classical.choose (h i q) else default, fun i q => ?_⟩
    dsimp only
    rw [dif_pos q]
    exact Classical.choose_spec (h i q)
  obtain ⟨f, hf⟩ := hf
  refine ⟨(List.range n).map fun i => (i, f i), ?_, ?_, ?_⟩
  · apply List.ext_getElem?
    intro i
    rw [List.map_map, List.getElem?_map]
    by_cases q : i < n
    · rw [List.getElem?_range q, (hf i q).2]
      rfl
    · rw [List.getElem?_eq_none (by omega), List.getElem?_eq_none (by rw [List.length_range]; omega)]
      rfl
  · rw [List.map_map]
    exact List.map_id _
  · intro p hp
    rw [List.mem_map] at hp
    obtain ⟨i, hi, rfl⟩ := hp
    rw [List.mem_range] at hi
    exact (hf i hi).1
/-! ### drawing -/
theorem mixed_ex2 {p : Nat} (hp : T.fn p = some pullFn) (b : Bag) (os : List Ob) (ds : List D) (hl : ds.length ≤ 1000) :
    ∃ ys b', mixedF T p [.loc 0, .lst ds] ⟨.bag b :: os⟩ = .ok (.fz (.lst ys)) ⟨.bag b' :: os⟩ ∧ ys.Perm ds := by
  have key : ∀ (ds acc : List D) (b : Bag) (r1 r3 : Option RV), acc.length + ds.length ≤ 1000 → ∃ ys b' r3', forLoop (.name 3) (denSs T (.cons (.ins 2 (.call p (.cons (.var 0) (.cons (.bin .Add (.bcl .len (.cons (.var 2) .nil)) (.int 1)) .nil))) (.var 3)) .nil)) ds [some (.fz (.loc 0)), r1, some (.own acc), r3] ⟨.bag b :: os⟩ = .nx [some (.fz (.loc 0)), r1, some (.own ys), r3'] ⟨.bag b' :: os⟩ ∧ ys.Perm (acc ++ ds) := by
    intro ds
    induction ds with
    | nil => intro acc b r1 r3 _; exact ⟨acc, b, r3, rfl, by rw [List.append_nil]⟩
    | cons d ds ih =>
      intro acc b r1 r3 hl
      rw [List.length_cons] at hl
      obtain ⟨r, b1, e1, q1, q2⟩ := pull_ex b os (k := (acc.length : Int) + 1) (by omega) (by omega)
      obtain ⟨i, rfl⟩ := Int.eq_ofNat_of_zero_le q1
      have hi : i ≤ acc.length := by have : (i : Int) < acc.length + 1 := q2; omega
      obtain ⟨ys, b', r3', e2, h1⟩ := ih (acc.take i ++ [d] ++ acc.drop i) b1 r1 (some (.fz d)) (by simp [List.length_take, List.length_drop]; omega)
      refine ⟨ys, b', r3', ?_, h1.trans ?_⟩
      · rw [← e2]
        conv => lhs; unfold forLoop
        have k1 : opBcl .len [.lst acc] = some (.fz (.int acc.length)) := rfl
        have k2 : opBin .Add (.int acc.length) (.int 1) = some (.fz (.int ((acc.length : Int) + 1))) := rfl
        have k3 : ownAt 2 [some (.fz (.loc 0)), r1, some (.own acc), some (.fz d)] = true := rfl
        have k4 : insO 2 (.int (i : Nat)) d [some (.fz (.loc 0)), r1, some (.own acc), some (.fz d)] = some [some (.fz (.loc 0)), r1, some (.own (acc.take i ++ [d] ++ acc.drop i)), some (.fz d)] := by
          show (if acc.length < LINE ∧ _ ∧ _ then _ else none) = _
          rw [if_pos ⟨Nat.lt_of_lt_of_le (show acc.length < 1001 by omega) (show 1001 ≤ LINE by decide), by simp, le_line (by simp; omega)⟩]
          simp
        simp only [Tg.put, e_cons, e_nil, asg_eq, ret_eq, iff_eq, tas_eq, exp_eq, apd_eq, apx_eq, sst_eq, ins_eq, par_eq, n_var, n_non, n_bl, n_int, n_str, n_glob, n_bin, n_neg, n_cmp, q_lt, q_le, q_gt, q_ge, q_is, q_nis, q_in, q_nin, q_eq, q_ne, Option.map_none, ifM_none, n_chn, n_and, n_or, n_not, n_ite, n_tup, n_lst, n_idx, n_slc, n_call, n_lend, n_lens, n_callk, n_mth, n_mthk, n_fld, n_ixo, n_isc, n_rev, n_fmt, n_fst, n_lc, n_lc2, n_bcl, b_len, b_int, b_all, b_list, b_tuple, b_str, b_min, s_non, s_bl, s_int, s_str, s_lst, s_tup, p_obj, n_isi, n_rep, n_join, denB, denEs, denBs, denO, denI, denF, rdV, rdB, List.getElem?_cons_zero, List.getElem?_cons_succ, List.set_cons_zero, List.set_cons_succ, Res.bind_ok, Res.map_ok, RV.d, ofO_some, FRes.res_ok, thenS_ok, seq_nx, seq_rt, out_rt, out_nx, tstR_bl, if_true, if_false, Bool.false_eq_true, Option.map_some, List.length_cons, List.length_nil, Nat.zero_add, Nat.reduceAdd, noX_ok, hp, k1, k2, e1, k3, k4, Bool.true_eq_false]
      · have q : (acc.take i ++ [d] ++ acc.drop i).Perm (d :: acc) := by
          rw [List.append_assoc, List.singleton_append]
          have := List.perm_middle (a := d) (l₁ := acc.take i) (l₂ := acc.drop i)
          rw [List.take_append_drop] at this
          exact this
        refine (List.Perm.append_right ds q).trans ?_
        rw [List.cons_append]
        exact List.perm_middle.symm
  obtain ⟨ys, b', r3', e, h1⟩ := key ds [] b (some (.fz (.lst ds))) none (by simpa using hl)
  refine ⟨ys, b', ?_, by simpa using h1⟩
  refine (e_def (T := T) (b := bMixed p) (np := 2) (n := 4) (ds := [.loc 0, .lst ds]) [some (.fz (.loc 0)), some (.fz (.lst ds)), none, none] rfl rfl).trans ?_
  have z0 : (0 : Nat) ≤ LINE := Nat.zero_le _
  have k1 : itemsOf (.lst ds) = some ds := rfl
  simp only [bMixed, e_cons, e_nil, asg_eq, ret_eq, iff_eq, tas_eq, exp_eq, apd_eq, apx_eq, sst_eq, ins_eq, par_eq, n_var, n_non, n_bl, n_int, n_str, n_glob, n_bin, n_neg, n_cmp, q_lt, q_le, q_gt, q_ge, q_is, q_nis, q_in, q_nin, q_eq, q_ne, Option.map_none, ifM_none, n_chn, n_and, n_or, n_not, n_ite, n_tup, n_lst, n_idx, n_slc, n_call, n_lend, n_lens, n_callk, n_mth, n_mthk, n_fld, n_ixo, n_isc, n_rev, n_fmt, n_fst, n_lc, n_lc2, n_bcl, b_len, b_int, b_all, b_list, b_tuple, b_str, b_min, s_non, s_bl, s_int, s_str, s_lst, s_tup, p_obj, n_isi, n_rep, n_join, denB, denEs, denBs, denO, denI, denF, rdV, rdB, List.getElem?_cons_zero, List.getElem?_cons_succ, List.set_cons_zero, List.set_cons_succ, Res.bind_ok, Res.map_ok, RV.d, ofO_some, FRes.res_ok, thenS_ok, seq_nx, seq_rt, out_rt, out_nx, tstR_bl, if_true, if_false, Bool.false_eq_true, Option.map_some, List.length_cons, List.length_nil, Nat.zero_add, Nat.reduceAdd, noX_ok, z0, for_eq, denIF, k1, e]
theorem lc_sub {vs : List Nat} {f : D → Rho → Mem → Res (Option D)} {I : Rho → Mem → Prop} : ∀ (ds : List D) (acc : List D) (ρ : Rho) (S : Mem), I ρ S →
    (∀ d ∈ ds, ∀ ρ S, I ρ S → ∃ o ρ' S', f d (wipeE ρ vs) S = .ok o ρ' S' ∧ I ρ' S' ∧ (o = none ∨ o = some d)) → acc.length + ds.length ≤ LINE →
    ∃ (ys : List D) (ρ' : Rho) (S' : Mem), lcLoop vs f ds acc ρ S = .ok (acc ++ ys) ρ' S' ∧ I ρ' S' ∧ ys.Sublist ds
  | [], acc, ρ, S, hI, _, _ => ⟨[], ρ, S, by rw [List.append_nil]; rfl, hI, .slnil⟩
  | d :: ds, acc, ρ, S, hI, hf, hl => by
    rw [List.length_cons] at hl
    obtain ⟨o, ρ1, S1, e1, h1, r1⟩ := hf d List.mem_cons_self ρ S hI
    rcases r1 with rfl | rfl
    · obtain ⟨ys, ρ2, S2, e2, h2, h3⟩ := lc_sub ds acc ρ1 S1 h1 (fun x hx => hf x (List.mem_cons_of_mem _ hx)) (by omega)
      refine ⟨ys, ρ2, S2, ?_, h2, h3.cons _⟩
      unfold lcLoop
      simp only [e1, noX_ok, Res.bind_ok]
      exact e2
    · obtain ⟨ys, ρ2, S2, e2, h2, h3⟩ := lc_sub ds (acc ++ [d]) ρ1 S1 h1 (fun x hx => hf x (List.mem_cons_of_mem _ hx)) (by rw [List.length_append]; simp; omega)
      refine ⟨d :: ys, ρ2, S2, ?_, h2, h3.cons₂ _⟩
      unfold lcLoop
      simp only [e1, noX_ok, Res.bind_ok]
      rw [if_pos (by omega), e2, List.append_assoc]
      rfl
theorem share_ex2 {p : Nat} (hp : T.fn p = some pullFn) (b : Bag) (os : List Ob) (s : Nat) (hs : 1 ≤ s) (hs2 : s ≤ 1000) (r1 r4 r5 : Option RV) (ds : List D) (hl : ds.length ≤ 1000) :
    ∃ ys b', lcRun [6] (lcBody T (.cons (.cmp .Eq (.call p (.cons (.var 0) (.cons (.var 2) .nil))) (.int 0)) .nil) (.var 6) (.name 6)) [some (.fz (.loc 0)), r1, some (.fz (.int (s : Nat))), some (.own ds), r4, r5, none] ds ⟨.bag b :: os⟩ = .ok (.own ys) [some (.fz (.loc 0)), r1, some (.fz (.int (s : Nat))), some (.own ds), r4, r5, none] ⟨.bag b' :: os⟩ ∧ ys.Sublist ds := by
  obtain ⟨ys, ρ', S', e, ⟨x, b', hρ, rfl⟩, h1⟩ := lc_sub (vs := [6]) (f := lcBody T (.cons (.cmp .Eq (.call p (.cons (.var 0) (.cons (.var 2) .nil))) (.int 0)) .nil) (.var 6) (.name 6)) (I := fun ρ S => ∃ x b', ρ = [some (.fz (.loc 0)), r1, some (.fz (.int (s : Nat))), some (.own ds), r4, r5, x] ∧ S = ⟨.bag b' :: os⟩) ds [] [some (.fz (.loc 0)), r1, some (.fz (.int (s : Nat))), some (.own ds), r4, r5, none] ⟨.bag b :: os⟩ ⟨none, b, rfl, rfl⟩ (fun d hd ρ S hI => by
    obtain ⟨x, b1, rfl, rfl⟩ := hI
    obtain ⟨r, b2, e1, _, _⟩ := pull_ex b1 os (k := (s : Nat)) (by omega) (by omega)
    by_cases h : r = 0
    · refine ⟨some d, [some (.fz (.loc 0)), r1, some (.fz (.int (s : Nat))), some (.own ds), r4, r5, some (.fz d)], ⟨.bag b2 :: os⟩, ?_, ⟨_, b2, rfl, rfl⟩, .inr rfl⟩
      simp only [lcBody, wipeE, Tg.put, denC, e_cons, e_nil, asg_eq, ret_eq, iff_eq, tas_eq, exp_eq, apd_eq, apx_eq, sst_eq, ins_eq, par_eq, n_var, n_non, n_bl, n_int, n_str, n_glob, n_bin, n_neg, n_cmp, q_lt, q_le, q_gt, q_ge, q_is, q_nis, q_in, q_nin, q_eq, q_ne, Option.map_none, ifM_none, n_chn, n_and, n_or, n_not, n_ite, n_tup, n_lst, n_idx, n_slc, n_call, n_lend, n_lens, n_callk, n_mth, n_mthk, n_fld, n_ixo, n_isc, n_rev, n_fmt, n_fst, n_lc, n_lc2, n_bcl, b_len, b_int, b_all, b_list, b_tuple, b_str, b_min, s_non, s_bl, s_int, s_str, s_lst, s_tup, p_obj, n_isi, n_rep, n_join, denB, denEs, denBs, denO, denI, denF, rdV, rdB, List.getElem?_cons_zero, List.getElem?_cons_succ, List.set_cons_zero, List.set_cons_succ, Res.bind_ok, Res.map_ok, RV.d, ofO_some, FRes.res_ok, thenS_ok, seq_nx, seq_rt, out_rt, out_nx, tstR_bl, if_true, if_false, Bool.false_eq_true, Option.map_some, List.length_cons, List.length_nil, Nat.zero_add, Nat.reduceAdd, noX_ok, hp, e1, int_eq, h, decide_true]
    · refine ⟨none, [some (.fz (.loc 0)), r1, some (.fz (.int (s : Nat))), some (.own ds), r4, r5, some (.fz d)], ⟨.bag b2 :: os⟩, ?_, ⟨_, b2, rfl, rfl⟩, .inl rfl⟩
      simp only [lcBody, wipeE, Tg.put, denC, e_cons, e_nil, asg_eq, ret_eq, iff_eq, tas_eq, exp_eq, apd_eq, apx_eq, sst_eq, ins_eq, par_eq, n_var, n_non, n_bl, n_int, n_str, n_glob, n_bin, n_neg, n_cmp, q_lt, q_le, q_gt, q_ge, q_is, q_nis, q_in, q_nin, q_eq, q_ne, Option.map_none, ifM_none, n_chn, n_and, n_or, n_not, n_ite, n_tup, n_lst, n_idx, n_slc, n_call, n_lend, n_lens, n_callk, n_mth, n_mthk, n_fld, n_ixo, n_isc, n_rev, n_fmt, n_fst, n_lc, n_lc2, n_bcl, b_len, b_int, b_all, b_list, b_tuple, b_str, b_min, s_non, s_bl, s_int, s_str, s_lst, s_tup, p_obj, n_isi, n_rep, n_join, denB, denEs, denBs, denO, denI, denF, rdV, rdB, List.getElem?_cons_zero, List.getElem?_cons_succ, List.set_cons_zero, List.set_cons_succ, Res.bind_ok, Res.map_ok, RV.d, ofO_some, FRes.res_ok, thenS_ok, seq_nx, seq_rt, out_rt, out_nx, tstR_bl, if_true, if_false, Bool.false_eq_true, Option.map_some, List.length_cons, List.length_nil, Nat.zero_add, Nat.reduceAdd, noX_ok, hp, e1, int_eq, h, decide_false]) (le_line (by rw [List.length_nil]; omega))
  refine ⟨ys, b', ?_, h1⟩
  unfold lcRun
  rw [if_neg (by simp [noOwn]), e, hρ]
  rfl
/-- a value of the i-th column -/
def InCol (cs : List Col) (i : Nat) (v : Int) : Prop := i < cs.length ∧ 0 ≤ v ∧ v < ((cs.getD i ([], 0)).2 : Nat)
structure LookOk (cs : List Col) (vs : List Int) : Prop where
  len : vs.length = cs.length
  val : ∀ i, i < cs.length → InCol cs i (vs.getD i 0)
structure TestsOk (cs : List Col) (ts : List (Nat × Int)) : Prop where
  val : ∀ t ∈ ts, InCol cs t.1 t.2
  nd : (ts.map (·.1)).Nodup
structure ChgsOk (cs : List Col) (ts : List Chg) : Prop where
  val : ∀ t ∈ ts, InCol cs t.at_ t.val
  nd : (ts.map (·.at_)).Nodup
theorem nodup_len : ∀ {l : List Nat} {n : Nat}, l.Nodup → (∀ x ∈ l, x < n) → l.length ≤ n := fun {l n} h hx => by
  have := List.Nodup.length_le_of_subset h (l₂ := List.range n) fun x hx' => List.mem_range.mpr (hx x hx')
  rwa [List.length_range] at this
theorem TestsOk.len {cs : List Col} {ts : List (Nat × Int)} (h : TestsOk cs ts) : ts.length ≤ cs.length := by
  have := nodup_len (n := cs.length) h.nd fun x hx => by
    rw [List.mem_map] at hx
    obtain ⟨t, ht, rfl⟩ := hx
    exact (h.val t ht).1
  rwa [List.length_map] at this
theorem ChgsOk.len {cs : List Col} {ts : List Chg} (h : ChgsOk cs ts) : ts.length ≤ cs.length := by
  have := nodup_len (n := cs.length) h.nd fun x hx => by
    rw [List.mem_map] at hx
    obtain ⟨t, ht, rfl⟩ := hx
    exact (h.val t ht).1
  rwa [List.length_map] at this
theorem col_getD {cs : List Col} {i : Nat} (h : i < cs.length) : cs.getD i ([], 0) ∈ cs := by
  rw [List.getD_eq_getElem?_getD, List.getElem?_eq_getElem h]
  exact List.getElem_mem h
theorem look_ex2 {p : Nat} (hp : T.fn p = some pullFn) (b : Bag) (os : List Ob) {cs : List Col} (hc : ColsOk cs) :
    ∃ vs b', lookF T p [.loc 0, .lst (cs.map colD)] ⟨.bag b :: os⟩ = .ok (.fz (lookD vs)) ⟨.bag b' :: os⟩ ∧ LookOk cs vs := by
  have hlen := hc.len
  obtain ⟨ys, ρ', S', e, ⟨x, y, b', hρ, rfl⟩, hyl, hR⟩ := lc_all (vs := [2, 3]) (f := lcBody T .nil (.call p (.cons (.var 0) (.cons (.var 3) .nil))) (.tup [2, 3])) (I := fun ρ S => ∃ x y b', ρ = [some (.fz (.loc 0)), some (.fz (.lst (cs.map colD))), x, y] ∧ S = ⟨.bag b' :: os⟩) (R := fun d y => ∀ c : Col, d = colD c → ∃ v : Int, y = .int v ∧ 0 ≤ v ∧ v < (c.2 : Nat)) (cs.map colD) [] [some (.fz (.loc 0)), some (.fz (.lst (cs.map colD))), none, none] ⟨.bag b :: os⟩ ⟨none, none, b, rfl, rfl⟩ (fun d hd ρ S hI => by
    obtain ⟨x, y, b1, rfl, rfl⟩ := hI
    rw [List.mem_map] at hd
    obtain ⟨c, hcm, rfl⟩ := hd
    have hco := hc.ok c hcm
    obtain ⟨r, b2, e1, q1, q2⟩ := pull_ex b1 os (k := (c.2 : Nat)) (by have := hco.2.2.2.1; omega) (by have := hco.2.2.2.2; omega)
    refine ⟨.int r, [some (.fz (.loc 0)), some (.fz (.lst (cs.map colD))), some (.fz (.str (S8 c.1))), some (.fz (.int (c.2 : Nat)))], ⟨.bag b2 :: os⟩, ?_, ⟨_, _, b2, rfl, rfl⟩, fun c' h => ⟨r, rfl, q1, ?_⟩⟩
    · simp only [lcBody, colD, wipeE, Tg.put, setAll, denC, e_cons, e_nil, asg_eq, ret_eq, iff_eq, tas_eq, exp_eq, apd_eq, apx_eq, sst_eq, ins_eq, par_eq, n_var, n_non, n_bl, n_int, n_str, n_glob, n_bin, n_neg, n_cmp, q_lt, q_le, q_gt, q_ge, q_is, q_nis, q_in, q_nin, q_eq, q_ne, Option.map_none, ifM_none, n_chn, n_and, n_or, n_not, n_ite, n_tup, n_lst, n_idx, n_slc, n_call, n_lend, n_lens, n_callk, n_mth, n_mthk, n_fld, n_ixo, n_isc, n_rev, n_fmt, n_fst, n_lc, n_lc2, n_bcl, b_len, b_int, b_all, b_list, b_tuple, b_str, b_min, s_non, s_bl, s_int, s_str, s_lst, s_tup, p_obj, n_isi, n_rep, n_join, denB, denEs, denBs, denO, denI, denF, rdV, rdB, List.getElem?_cons_zero, List.getElem?_cons_succ, List.set_cons_zero, List.set_cons_succ, Res.bind_ok, Res.map_ok, RV.d, ofO_some, FRes.res_ok, thenS_ok, seq_nx, seq_rt, out_rt, out_nx, tstR_bl, if_true, if_false, Bool.false_eq_true, Option.map_some, List.length_cons, List.length_nil, Nat.zero_add, Nat.reduceAdd, noX_ok, hp, e1]
    · simp only [colD, D.tup.injEq, List.cons.injEq, D.int.injEq, and_true] at h
      rw [← h.2]
      exact q2) (le_line (by rw [List.length_map, List.length_nil]; omega))
  rw [List.length_map] at hyl
  obtain ⟨vs0, rfl, h1, h2⟩ := choose_list (α := Int) (n := cs.length) (InCol cs) (fun _ v => D.int v) hyl fun i hi => by
    obtain ⟨v, hv, q1, q2⟩ := hR i (colD (cs.getD i ([], 0))) (ys[i]'(by omega)) (cols_at hi) (List.getElem?_eq_getElem _) _ rfl
    exact ⟨v, ⟨hi, q1, q2⟩, by rw [← hv]; exact List.getElem?_eq_getElem _⟩
  have hl0 : vs0.length = cs.length := by simpa using hyl
  refine ⟨vs0.map (·.2), b', ?_, by simpa using hyl, fun i hi => ?_⟩
  · refine (e_def (T := T) (b := bLook p) (np := 2) (n := 4) (ds := [.loc 0, .lst (cs.map colD)]) [some (.fz (.loc 0)), some (.fz (.lst (cs.map colD))), none, none] rfl rfl).trans ?_
    have k1 : itemsOf (.lst (cs.map colD)) = some (cs.map colD) := rfl
    have k2 : opBcl .tuple [.lst (vs0.map fun p => D.int p.2)] = some (.fz (lookD (vs0.map (·.2)))) := by
      show some (RV.fz (.tup _)) = some (RV.fz (.tup ((vs0.map (·.2)).map .int)))
      rw [List.map_map]
      rfl
    have k3 : lcRun [2, 3] (lcBody T .nil (.call p (.cons (.var 0) (.cons (.var 3) .nil))) (.tup [2, 3])) [some (.fz (.loc 0)), some (.fz (.lst (cs.map colD))), none, none] (cs.map colD) ⟨.bag b :: os⟩ = .ok (.own (vs0.map fun p => D.int p.2)) [some (.fz (.loc 0)), some (.fz (.lst (cs.map colD))), none, none] ⟨.bag b' :: os⟩ := by
      unfold lcRun
      rw [if_neg (by simp [noOwn]), e, hρ]
      rfl
    simp only [bLook, e_cons, e_nil, asg_eq, ret_eq, iff_eq, tas_eq, exp_eq, apd_eq, apx_eq, sst_eq, ins_eq, par_eq, n_var, n_non, n_bl, n_int, n_str, n_glob, n_bin, n_neg, n_cmp, q_lt, q_le, q_gt, q_ge, q_is, q_nis, q_in, q_nin, q_eq, q_ne, Option.map_none, ifM_none, n_chn, n_and, n_or, n_not, n_ite, n_tup, n_lst, n_idx, n_slc, n_call, n_lend, n_lens, n_callk, n_mth, n_mthk, n_fld, n_ixo, n_isc, n_rev, n_fmt, n_fst, n_lc, n_lc2, n_bcl, b_len, b_int, b_all, b_list, b_tuple, b_str, b_min, s_non, s_bl, s_int, s_str, s_lst, s_tup, p_obj, n_isi, n_rep, n_join, denB, denEs, denBs, denO, denI, denF, rdV, rdB, List.getElem?_cons_zero, List.getElem?_cons_succ, List.set_cons_zero, List.set_cons_succ, Res.bind_ok, Res.map_ok, RV.d, ofO_some, FRes.res_ok, thenS_ok, seq_nx, seq_rt, out_rt, out_nx, tstR_bl, if_true, if_false, Bool.false_eq_true, Option.map_some, List.length_cons, List.length_nil, Nat.zero_add, Nat.reduceAdd, noX_ok, k1, k3, k2]
  · have hi' : i < vs0.length := by omega
    have e1 : (vs0.map (·.2)).getD i 0 = (vs0[i]).2 := by
      rw [List.getD_eq_getElem?_getD, List.getElem?_map, List.getElem?_eq_getElem hi']
      rfl
    have e2 : (vs0[i]).1 = i := by
      have q : (vs0.map (·.1))[i]? = (List.range cs.length)[i]? := by rw [h1]
      rw [List.getElem?_map, List.getElem?_eq_getElem hi', List.getElem?_range hi] at q
      simpa using q
    have q := h2 _ (List.getElem_mem hi')
    rw [e2] at q
    rw [e1]
    exact q
theorem tests_ex2 {p m : Nat} {Tm : Tab} (hp : T.fn p = some pullFn) (hm : T.fn m = some (mixedF Tm p)) (hmp : Tm.fn p = some pullFn) (b : Bag) (os : List Ob) {cs : List Col} (hc : ColsOk cs) (s : Nat) (hs : 1 ≤ s) (hs2 : s ≤ 1000) :
    ∃ (ts : List (Nat × Int)) (b' : Bag), testsF T p m [.loc 0, .lst (cs.map colD), .int (s : Nat)] ⟨.bag b :: os⟩ = .ok (.fz (.tup (ts.map (testD cs)))) ⟨.bag b' :: os⟩ ∧ TestsOk cs ts := by
  have hlen := hc.len
  obtain ⟨ys, ρ', S', e, ⟨x, y, b1, hρ, rfl⟩, hyl, hR⟩ := lc_all (vs := [4, 5]) (f := lcBody T .nil (.tup (.cons (.var 4) (.cons (.call p (.cons (.var 0) (.cons (.var 5) .nil))) .nil))) (.tup [4, 5])) (I := fun ρ S => ∃ x y b', ρ = [some (.fz (.loc 0)), some (.fz (.lst (cs.map colD))), some (.fz (.int (s : Nat))), none, x, y, none] ∧ S = ⟨.bag b' :: os⟩) (R := fun d y => ∀ c : Col, d = colD c → ∃ v : Int, y = .tup [.str (S8 c.1), .int v] ∧ 0 ≤ v ∧ v < (c.2 : Nat)) (cs.map colD) [] [some (.fz (.loc 0)), some (.fz (.lst (cs.map colD))), some (.fz (.int (s : Nat))), none, none, none, none] ⟨.bag b :: os⟩ ⟨none, none, b, rfl, rfl⟩ (fun d hd ρ S hI => by
    obtain ⟨x, y, b1, rfl, rfl⟩ := hI
    rw [List.mem_map] at hd
    obtain ⟨c, hcm, rfl⟩ := hd
    have hco := hc.ok c hcm
    obtain ⟨r, b2, e1, q1, q2⟩ := pull_ex b1 os (k := (c.2 : Nat)) (by have := hco.2.2.2.1; omega) (by have := hco.2.2.2.2; omega)
    have z : (2 : Nat) ≤ LINE := by decide
    refine ⟨.tup [.str (S8 c.1), .int r], [some (.fz (.loc 0)), some (.fz (.lst (cs.map colD))), some (.fz (.int (s : Nat))), none, some (.fz (.str (S8 c.1))), some (.fz (.int (c.2 : Nat))), none], ⟨.bag b2 :: os⟩, ?_, ⟨_, _, b2, rfl, rfl⟩, fun c' h => ⟨r, ?_, q1, ?_⟩⟩
    · simp only [lcBody, colD, wipeE, Tg.put, setAll, denC, e_cons, e_nil, asg_eq, ret_eq, iff_eq, tas_eq, exp_eq, apd_eq, apx_eq, sst_eq, ins_eq, par_eq, n_var, n_non, n_bl, n_int, n_str, n_glob, n_bin, n_neg, n_cmp, q_lt, q_le, q_gt, q_ge, q_is, q_nis, q_in, q_nin, q_eq, q_ne, Option.map_none, ifM_none, n_chn, n_and, n_or, n_not, n_ite, n_tup, n_lst, n_idx, n_slc, n_call, n_lend, n_lens, n_callk, n_mth, n_mthk, n_fld, n_ixo, n_isc, n_rev, n_fmt, n_fst, n_lc, n_lc2, n_bcl, b_len, b_int, b_all, b_list, b_tuple, b_str, b_min, s_non, s_bl, s_int, s_str, s_lst, s_tup, p_obj, n_isi, n_rep, n_join, denB, denEs, denBs, denO, denI, denF, rdV, rdB, List.getElem?_cons_zero, List.getElem?_cons_succ, List.set_cons_zero, List.set_cons_succ, Res.bind_ok, Res.map_ok, RV.d, ofO_some, FRes.res_ok, thenS_ok, seq_nx, seq_rt, out_rt, out_nx, tstR_bl, if_true, if_false, Bool.false_eq_true, Option.map_some, List.length_cons, List.length_nil, Nat.zero_add, Nat.reduceAdd, noX_ok, hp, e1, z]
    · simp only [colD, D.tup.injEq, List.cons.injEq, D.str.injEq] at h
      rw [h.1]
    · simp only [colD, D.tup.injEq, List.cons.injEq, D.int.injEq, and_true] at h
      rw [← h.2]
      exact q2) (le_line (by rw [List.length_map, List.length_nil]; omega))
  rw [List.length_map] at hyl
  obtain ⟨vs0, rfl, h1, h2⟩ := choose_list (α := Int) (n := cs.length) (InCol cs) (fun i v => testD cs (i, v)) hyl fun i hi => by
    obtain ⟨v, hv, q1, q2⟩ := hR i (colD (cs.getD i ([], 0))) (ys[i]'(by omega)) (cols_at hi) (List.getElem?_eq_getElem _) _ rfl
    exact ⟨v, ⟨hi, q1, q2⟩, by rw [List.getElem?_eq_getElem (by omega), hv]; rfl⟩
  have hl0 : vs0.length = cs.length := by simpa using hyl
  obtain ⟨zs, b2, e2, h3⟩ := share_ex2 (T := T) hp b1 os s hs hs2 (some (.fz (.lst (cs.map colD)))) none none (vs0.map fun p => testD cs (p.1, p.2)) (by rw [List.length_map]; omega)
  obtain ⟨zs0, h4, rfl⟩ := List.sublist_map_iff.mp h3
  obtain ⟨us, b3, e3, h5⟩ := mixed_ex2 (T := Tm) hmp b2 os (zs0.map fun p => testD cs (p.1, p.2)) (by have := h4.length_le; rw [List.length_map]; omega)
  obtain ⟨ts, h6, rfl⟩ := perm_map_ex h5 rfl
  refine ⟨ts, b3, ?_, fun t ht => h2 t (h4.subset (h6.subset ht)), ?_⟩
  · refine (e_def (T := T) (b := bTests p m) (np := 3) (n := 7) (ds := [.loc 0, .lst (cs.map colD), .int (s : Nat)]) [some (.fz (.loc 0)), some (.fz (.lst (cs.map colD))), some (.fz (.int (s : Nat))), none, none, none, none] rfl rfl).trans ?_
    have k1 : itemsOf (.lst (cs.map colD)) = some (cs.map colD) := rfl
    have k2 : opBcl .tuple [.lst (ts.map fun p => testD cs (p.1, p.2))] = some (.fz (.tup (ts.map (testD cs)))) := rfl
    have k3 : lcRun [4, 5] (lcBody T .nil (.tup (.cons (.var 4) (.cons (.call p (.cons (.var 0) (.cons (.var 5) .nil))) .nil))) (.tup [4, 5])) [some (.fz (.loc 0)), some (.fz (.lst (cs.map colD))), some (.fz (.int (s : Nat))), none, none, none, none] (cs.map colD) ⟨.bag b :: os⟩ = .ok (.own (vs0.map fun p => testD cs (p.1, p.2))) [some (.fz (.loc 0)), some (.fz (.lst (cs.map colD))), some (.fz (.int (s : Nat))), none, none, none, none] ⟨.bag b1 :: os⟩ := by
      unfold lcRun
      rw [if_neg (by simp [noOwn]), e, hρ]
      rfl
    have k4 : itemsOf (.lst (vs0.map fun p => testD cs (p.1, p.2))) = some (vs0.map fun p => testD cs (p.1, p.2)) := rfl
    simp only [bTests, e_cons, e_nil, asg_eq, ret_eq, iff_eq, tas_eq, exp_eq, apd_eq, apx_eq, sst_eq, ins_eq, par_eq, n_var, n_non, n_bl, n_int, n_str, n_glob, n_bin, n_neg, n_cmp, q_lt, q_le, q_gt, q_ge, q_is, q_nis, q_in, q_nin, q_eq, q_ne, Option.map_none, ifM_none, n_chn, n_and, n_or, n_not, n_ite, n_tup, n_lst, n_idx, n_slc, n_call, n_lend, n_lens, n_callk, n_mth, n_mthk, n_fld, n_ixo, n_isc, n_rev, n_fmt, n_fst, n_lc, n_lc2, n_bcl, b_len, b_int, b_all, b_list, b_tuple, b_str, b_min, s_non, s_bl, s_int, s_str, s_lst, s_tup, p_obj, n_isi, n_rep, n_join, denB, denEs, denBs, denO, denI, denF, rdV, rdB, List.getElem?_cons_zero, List.getElem?_cons_succ, List.set_cons_zero, List.set_cons_succ, Res.bind_ok, Res.map_ok, RV.d, ofO_some, FRes.res_ok, thenS_ok, seq_nx, seq_rt, out_rt, out_nx, tstR_bl, if_true, if_false, Bool.false_eq_true, Option.map_some, List.length_cons, List.length_nil, Nat.zero_add, Nat.reduceAdd, noX_ok, k1, k3, k4, e2, hm, e3, k2]
  · have n0 : (vs0.map (·.1)).Nodup := by rw [h1]; exact List.nodup_range
    exact ((h6.map (·.1)).nodup_iff).mpr ((h4.map (·.1)).nodup n0)
instance : Inhabited (Bool × Int) := ⟨(true, 0)⟩
theorem changes_ex2 {p a m : Nat} {Tm Ta : Tab} (hp : T.fn p = some pullFn) (ha : T.fn a = some (anyF Ta p)) (hpa : Ta.fn p = some pullFn) (hm : T.fn m = some (mixedF Tm p)) (hmp : Tm.fn p = some pullFn) (b : Bag) (os : List Ob) {cs : List Col} (hc : ColsOk cs) (s : Nat) (hs : 1 ≤ s) (hs2 : s ≤ 1000) :
    ∃ (ts : List Chg) (b' : Bag), changesF T p a m [.loc 0, .lst (cs.map colD), .int (s : Nat)] ⟨.bag b :: os⟩ = .ok (.fz (.tup (ts.map (chgD cs)))) ⟨.bag b' :: os⟩ ∧ ChgsOk cs ts := by
  have hlen := hc.len
  obtain ⟨ys, ρ', S', e, ⟨x, y, b1, hρ, rfl⟩, hyl, hR⟩ := lc_all (vs := [4, 5]) (f := lcBody T .nil (.tup (.cons (.var 4) (.cons (.call a (.cons (.var 0) (.cons (.lst (.cons (.str "set") (.cons (.str "raise") .nil))) .nil))) (.cons (.call p (.cons (.var 0) (.cons (.var 5) .nil))) .nil)))) (.tup [4, 5])) (I := fun ρ S => ∃ x y b', ρ = [some (.fz (.loc 0)), some (.fz (.lst (cs.map colD))), some (.fz (.int (s : Nat))), none, x, y, none] ∧ S = ⟨.bag b' :: os⟩) (R := fun d y => ∀ c : Col, d = colD c → ∃ (w : Bool) (v : Int), y = .tup [.str (S8 c.1), wordD w, .int v] ∧ 0 ≤ v ∧ v < (c.2 : Nat)) (cs.map colD) [] [some (.fz (.loc 0)), some (.fz (.lst (cs.map colD))), some (.fz (.int (s : Nat))), none, none, none, none] ⟨.bag b :: os⟩ ⟨none, none, b, rfl, rfl⟩ (fun d hd ρ S hI => by
    obtain ⟨x, y, b1, rfl, rfl⟩ := hI
    rw [List.mem_map] at hd
    obtain ⟨c, hcm, rfl⟩ := hd
    have hco := hc.ok c hcm
    obtain ⟨w, b2, e1, hw⟩ := any_lst (T := Ta) (p := p) hpa b1 os [.str "set", .str "raise"] (by simp) (by simp)
    have hw : ∃ k, w = wordD k := by
      simp only [List.mem_cons, List.not_mem_nil, or_false] at hw
      rcases hw with rfl | rfl
      · exact ⟨true, rfl⟩
      · exact ⟨false, rfl⟩
    obtain ⟨k, rfl⟩ := hw
    obtain ⟨r, b3, e2, q1, q2⟩ := pull_ex b2 os (k := (c.2 : Nat)) (by have := hco.2.2.2.1; omega) (by have := hco.2.2.2.2; omega)
    have z : (2 : Nat) ≤ LINE := by decide
    have z3 : (3 : Nat) ≤ LINE := by decide
    refine ⟨.tup [.str (S8 c.1), wordD k, .int r], [some (.fz (.loc 0)), some (.fz (.lst (cs.map colD))), some (.fz (.int (s : Nat))), none, some (.fz (.str (S8 c.1))), some (.fz (.int (c.2 : Nat))), none], ⟨.bag b3 :: os⟩, ?_, ⟨_, _, b3, rfl, rfl⟩, fun c' h => ⟨k, r, ?_, q1, ?_⟩⟩
    · simp only [lcBody, colD, wipeE, Tg.put, setAll, denC, e_cons, e_nil, asg_eq, ret_eq, iff_eq, tas_eq, exp_eq, apd_eq, apx_eq, sst_eq, ins_eq, par_eq, n_var, n_non, n_bl, n_int, n_str, n_glob, n_bin, n_neg, n_cmp, q_lt, q_le, q_gt, q_ge, q_is, q_nis, q_in, q_nin, q_eq, q_ne, Option.map_none, ifM_none, n_chn, n_and, n_or, n_not, n_ite, n_tup, n_lst, n_idx, n_slc, n_call, n_lend, n_lens, n_callk, n_mth, n_mthk, n_fld, n_ixo, n_isc, n_rev, n_fmt, n_fst, n_lc, n_lc2, n_bcl, b_len, b_int, b_all, b_list, b_tuple, b_str, b_min, s_non, s_bl, s_int, s_str, s_lst, s_tup, p_obj, n_isi, n_rep, n_join, denB, denEs, denBs, denO, denI, denF, rdV, rdB, List.getElem?_cons_zero, List.getElem?_cons_succ, List.set_cons_zero, List.set_cons_succ, Res.bind_ok, Res.map_ok, RV.d, ofO_some, FRes.res_ok, thenS_ok, seq_nx, seq_rt, out_rt, out_nx, tstR_bl, if_true, if_false, Bool.false_eq_true, Option.map_some, List.length_cons, List.length_nil, Nat.zero_add, Nat.reduceAdd, noX_ok, hp, ha, e1, e2, z, z3]
    · simp only [colD, D.tup.injEq, List.cons.injEq, D.str.injEq] at h
      rw [h.1]
    · simp only [colD, D.tup.injEq, List.cons.injEq, D.int.injEq, and_true] at h
      rw [← h.2]
      exact q2) (le_line (by rw [List.length_map, List.length_nil]; omega))
  rw [List.length_map] at hyl
  obtain ⟨vs0, rfl, h1, h2⟩ := choose_list (α := Bool × Int) (n := cs.length) (fun i v => InCol cs i v.2) (fun i v => chgD cs ⟨i, v.1, v.2⟩) hyl fun i hi => by
    obtain ⟨w, v, hv, q1, q2⟩ := hR i (colD (cs.getD i ([], 0))) (ys[i]'(by omega)) (cols_at hi) (List.getElem?_eq_getElem _) _ rfl
    exact ⟨(w, v), ⟨hi, q1, q2⟩, by rw [List.getElem?_eq_getElem (by omega), hv]; rfl⟩
  have hl0 : vs0.length = cs.length := by simpa using hyl
  obtain ⟨zs, b2, e2, h3⟩ := share_ex2 (T := T) hp b1 os s hs hs2 (some (.fz (.lst (cs.map colD)))) none none (vs0.map fun p => chgD cs ⟨p.1, p.2.1, p.2.2⟩) (by rw [List.length_map]; omega)
  obtain ⟨zs0, h4, rfl⟩ := List.sublist_map_iff.mp h3
  obtain ⟨us, b3, e3, h5⟩ := mixed_ex2 (T := Tm) hmp b2 os (zs0.map fun p => chgD cs ⟨p.1, p.2.1, p.2.2⟩) (by have := h4.length_le; rw [List.length_map]; omega)
  obtain ⟨ts, h6, rfl⟩ := perm_map_ex h5 rfl
  have em : ts.map (fun p => chgD cs ⟨p.1, p.2.1, p.2.2⟩) = (ts.map fun p => Chg.mk p.1 p.2.1 p.2.2).map (chgD cs) := by rw [List.map_map]; rfl
  refine ⟨ts.map fun p => ⟨p.1, p.2.1, p.2.2⟩, b3, ?_, fun t ht => ?_, ?_⟩
  · refine (e_def (T := T) (b := bChanges p a m) (np := 3) (n := 7) (ds := [.loc 0, .lst (cs.map colD), .int (s : Nat)]) [some (.fz (.loc 0)), some (.fz (.lst (cs.map colD))), some (.fz (.int (s : Nat))), none, none, none, none] rfl rfl).trans ?_
    have k1 : itemsOf (.lst (cs.map colD)) = some (cs.map colD) := rfl
    have k2 : opBcl .tuple [.lst (ts.map fun p => chgD cs ⟨p.1, p.2.1, p.2.2⟩)] = some (.fz (.tup ((ts.map fun p => Chg.mk p.1 p.2.1 p.2.2).map (chgD cs)))) := by rw [em]; rfl
    have k3 : lcRun [4, 5] (lcBody T .nil (.tup (.cons (.var 4) (.cons (.call a (.cons (.var 0) (.cons (.lst (.cons (.str "set") (.cons (.str "raise") .nil))) .nil))) (.cons (.call p (.cons (.var 0) (.cons (.var 5) .nil))) .nil)))) (.tup [4, 5])) [some (.fz (.loc 0)), some (.fz (.lst (cs.map colD))), some (.fz (.int (s : Nat))), none, none, none, none] (cs.map colD) ⟨.bag b :: os⟩ = .ok (.own (vs0.map fun p => chgD cs ⟨p.1, p.2.1, p.2.2⟩)) [some (.fz (.loc 0)), some (.fz (.lst (cs.map colD))), some (.fz (.int (s : Nat))), none, none, none, none] ⟨.bag b1 :: os⟩ := by
      unfold lcRun
      rw [if_neg (by simp [noOwn]), e, hρ]
      rfl
    have k4 : itemsOf (.lst (vs0.map fun p => chgD cs ⟨p.1, p.2.1, p.2.2⟩)) = some (vs0.map fun p => chgD cs ⟨p.1, p.2.1, p.2.2⟩) := rfl
    simp only [bChanges, e_cons, e_nil, asg_eq, ret_eq, iff_eq, tas_eq, exp_eq, apd_eq, apx_eq, sst_eq, ins_eq, par_eq, n_var, n_non, n_bl, n_int, n_str, n_glob, n_bin, n_neg, n_cmp, q_lt, q_le, q_gt, q_ge, q_is, q_nis, q_in, q_nin, q_eq, q_ne, Option.map_none, ifM_none, n_chn, n_and, n_or, n_not, n_ite, n_tup, n_lst, n_idx, n_slc, n_call, n_lend, n_lens, n_callk, n_mth, n_mthk, n_fld, n_ixo, n_isc, n_rev, n_fmt, n_fst, n_lc, n_lc2, n_bcl, b_len, b_int, b_all, b_list, b_tuple, b_str, b_min, s_non, s_bl, s_int, s_str, s_lst, s_tup, p_obj, n_isi, n_rep, n_join, denB, denEs, denBs, denO, denI, denF, rdV, rdB, List.getElem?_cons_zero, List.getElem?_cons_succ, List.set_cons_zero, List.set_cons_succ, Res.bind_ok, Res.map_ok, RV.d, ofO_some, FRes.res_ok, thenS_ok, seq_nx, seq_rt, out_rt, out_nx, tstR_bl, if_true, if_false, Bool.false_eq_true, Option.map_some, List.length_cons, List.length_nil, Nat.zero_add, Nat.reduceAdd, noX_ok, k1, k3, k4, e2, hm, e3, k2]
  · rw [List.mem_map] at ht
    obtain ⟨q, hq, rfl⟩ := ht
    exact h2 q (h4.subset (h6.subset hq))
  · rw [List.map_map]
    have n0 : (vs0.map (·.1)).Nodup := by rw [h1]; exact List.nodup_range
    exact ((h6.map (·.1)).nodup_iff).mpr ((h4.map (·.1)).nodup n0)
/-! ### columns of drawn names and sizes -/
theorem nameAt_inj {stem : List Nat} {a f k k' : Nat} (hk : k < 26) (hk' : k' < 26) (h : nameAt stem a f k = nameAt stem a f k') : k = k' := by
  unfold nameAt at h
  have h1 := List.append_cancel_right h
  have h2 := List.append_cancel_left h1
  simp only [List.cons.injEq, and_true] at h2
  omega
def csOf (stem : List Nat) (a f : Nat) (ns : List Nat) : List Col := (List.range ns.length).map fun k => (nameAt stem a f k, ns.getD k 0)
theorem csOf_len (stem : List Nat) (a f : Nat) (ns : List Nat) : (csOf stem a f ns).length = ns.length := by simp [csOf]
theorem prod_eq : ∀ (cs : List Col), prodC cs = prodN (cs.map (·.2))
  | [] => rfl
  | c :: cs => by show c.2 * prodC cs = c.2 * prodN _; rw [prod_eq cs]
theorem range_getD (ns : List Nat) : (List.range ns.length).map (fun k => ns.getD k 0) = ns := by
  apply List.ext_getElem
  · simp
  · intro i h1 h2
    rw [List.getElem_map, List.getElem_range, List.getD_eq_getElem?_getD, List.getElem?_eq_getElem h2]
    rfl
theorem csOf_ok {stem : List Nat} {a f : Nat} {ns : List Nat} (hs : Lower stem) (hl : stem.length ≤ 5) (h1 : ns.length ≤ 3) (h2 : ∀ n ∈ ns, 2 ≤ n ∧ n ≤ 4) (h3 : prodN ns ≤ 12) : ColsOk (csOf stem a f ns) where
  ok := fun c hc => by
    unfold csOf at hc
    rw [List.mem_map] at hc
    obtain ⟨k, hk, rfl⟩ := hc
    rw [List.mem_range] at hk
    have hg : ns.getD k 0 ∈ ns := by
      rw [List.getD_eq_getElem?_getD, List.getElem?_eq_getElem hk]
      exact List.getElem_mem hk
    exact ⟨nameAt_lower hs a f k, by rw [nameAt_len]; omega, by rw [nameAt_len]; omega, (h2 _ hg).1, (h2 _ hg).2⟩
  nd := by
    unfold csOf
    rw [List.map_map]
    rw [List.Nodup, List.pairwise_map]
    refine List.Pairwise.imp_of_mem (fun {x y} hx hy hne => ?_) (List.nodup_range (n := ns.length))
    rw [List.mem_range] at hx hy
    exact fun e => hne (nameAt_inj (by omega) (by omega) e)
  len := by rw [csOf_len]; exact h1
  wide := by
    rw [prod_eq]
    unfold csOf
    rw [List.map_map]
    have : (List.range ns.length).map ((fun c : Col => c.2) ∘ fun k => (nameAt stem a f k, ns.getD k 0)) = ns := range_getD ns
    rw [this]
    exact h3
/-- the drawn names -/
def nmsD (stem : List Nat) (a f m : Nat) : List D := (List.range m).map fun k => .str (S8 (nameAt stem a f k))
theorem nms_at (stem : List Nat) (a f : Nat) {k m : Nat} (h : k < m) : opIdx (.lst (nmsD stem a f m)) (.int (k : Nat)) = some (.fz (.str (S8 (nameAt stem a f k)))) :=
  ix_nat (by unfold nmsD; rw [List.getElem?_map, List.getElem?_range h]; rfl)
theorem sizes_at (ns : List Nat) {k : Nat} (h : k < ns.length) : opIdx (.lst (ns.map natD)) (.int (k : Nat)) = some (.fz (natD (ns.getD k 0))) :=
  ix_nat (by rw [List.getElem?_map, getD_at (d := 0) h]; rfl)
end
end Sh


/-! ShCol7: right looks, tests, changes are told right; wrong ones wrong. -/
namespace Sh
open PySem PySem.Spec PyProof.Rows L2
theorem colOf_at {cs : List Col} (hc : ColsOk cs) {i : Nat} (hi : i < cs.length) : colOf cs (S8 (cs.getD i ([], 0)).1) = some i := by
  have hg : cs[i]? = some (cs.getD i ([], 0)) := getD_at hi
  have := col_at cs hg hc.nd
  rw [first_col] at this
  exact this
theorem colOf_none {cs : List Col} {l : List Nat} (h : ∀ c ∈ cs, c.1 ≠ l) : colOf cs (S8 l) = none := by
  unfold colOf
  rw [List.findIdx?_eq_none_iff]
  intro c hc
  simp only [decide_eq_false_iff_not]
  exact h c hc
theorem inCol_sz {cs : List Col} {i : Nat} {v : Int} (h : InCol cs i v) : inSz (.int v) (cs.getD i ([], 0)).2 = true := by
  show (decide _ && decide _) = true
  rw [decide_eq_true h.2.1, decide_eq_true h.2.2]
  rfl
theorem look_right {cs : List Col} {vs : List Int} (h : LookOk cs vs) : isLookV cs (lookD vs) = true := by
  show (decide ((vs.map D.int).length = cs.length) && _) = true
  rw [List.length_map, decide_eq_true h.len, Bool.true_and, List.all_eq_true]
  intro p hp
  obtain ⟨i, hi, rfl⟩ := List.mem_iff_getElem.mp hp
  rw [List.length_zip, List.length_map] at hi
  have hi1 : i < vs.length := by omega
  have hi2 : i < cs.length := by omega
  rw [List.getElem_zip, List.getElem_map]
  have q := inCol_sz (h.val i hi2)
  rw [List.getD_eq_getElem?_getD, List.getElem?_eq_getElem hi1, List.getD_eq_getElem?_getD, List.getElem?_eq_getElem hi2] at q
  exact q
theorem hasV_at {cs : List Col} (hc : ColsOk cs) {i : Nat} (hi : i < cs.length) (d : D) : hasV cs (.str (S8 (cs.getD i ([], 0)).1)) d = inSz d (cs.getD i ([], 0)).2 := by
  unfold hasV
  dsimp only
  rw [colOf_at hc hi]
theorem headV_at {cs : List Col} (hc : ColsOk cs) {i : Nat} (hi : i < cs.length) : headV cs (.str (S8 (cs.getD i ([], 0)).1)) = true := by
  unfold headV
  dsimp only
  rw [colOf_at hc hi]
  rfl
theorem nodup_names {cs : List Col} (hc : ColsOk cs) {is : List Nat} (h : is.Nodup) (hi : ∀ i ∈ is, i < cs.length) : (is.map fun i => S8 (cs.getD i ([], 0)).1).Nodup := by
  rw [List.Nodup, List.pairwise_map]
  refine List.Pairwise.imp_of_mem (fun {x y} hx hy hne => ?_) h
  intro e
  have e1 := colOf_at hc (hi x hx)
  have e2 := colOf_at hc (hi y hy)
  rw [e, e2] at e1
  exact hne (Option.some.inj e1).symm
theorem strs_map {α : Type} (f : α → Str) : ∀ l : List α, strsD (l.map fun a => .str (f a)) = l.map f
  | [] => rfl
  | a :: l => by
    show f a :: strsD (l.map fun a => .str (f a)) = _
    rw [strs_map f l]
    rfl
theorem tests_right {cs : List Col} (hc : ColsOk cs) {ts : List (Nat × Int)} (h : TestsOk cs ts) : isTestsV cs (.tup (ts.map (testD cs))) = true := by
  have e0 : (ts.map (testD cs)).map (nthD 0) = ts.map fun t => .str (S8 (cs.getD t.1 ([], 0)).1) := by rw [List.map_map]; rfl
  show (((ts.map (testD cs)).all (rowV 2) && (((ts.map (testD cs)).map (nthD 0)).all (headV cs) && decide (strsD ((ts.map (testD cs)).map (nthD 0))).Nodup)) && (ts.map (testD cs)).all fun r => hasV cs (nthD 0 r) (nthD 1 r)) = true
  rw [e0, strs_map]
  have n := nodup_names hc h.nd fun i hi => by
    rw [List.mem_map] at hi
    obtain ⟨t, ht, rfl⟩ := hi
    exact (h.val t ht).1
  rw [List.map_map] at n
  have n' : (ts.map fun t => S8 (cs.getD t.1 ([], 0)).1).Nodup := n
  rw [decide_eq_true n']
  simp only [Bool.and_eq_true, Bool.and_true, List.all_eq_true, List.mem_map]
  refine ⟨⟨?_, ?_⟩, ?_⟩
  · rintro x ⟨t, ht, rfl⟩
    rfl
  · rintro x ⟨t, ht, rfl⟩
    exact headV_at hc (h.val t ht).1
  · rintro x ⟨t, ht, rfl⟩
    show hasV cs (.str (S8 (cs.getD t.1 ([], 0)).1)) (.int t.2) = true
    rw [hasV_at hc (h.val t ht).1]
    exact inCol_sz (h.val t ht)
theorem word_ok (b : Bool) : wordV (wordD b) = true := by cases b <;> decide +kernel
theorem chgs_right {cs : List Col} (hc : ColsOk cs) {ts : List Chg} (h : ChgsOk cs ts) : isChangesV cs (.tup (ts.map (chgD cs))) = true := by
  have e0 : (ts.map (chgD cs)).map (nthD 0) = ts.map fun t => .str (S8 (cs.getD t.at_ ([], 0)).1) := by rw [List.map_map]; rfl
  show (((ts.map (chgD cs)).all (rowV 3) && (((ts.map (chgD cs)).map (nthD 0)).all (headV cs) && decide (strsD ((ts.map (chgD cs)).map (nthD 0))).Nodup)) && (ts.map (chgD cs)).all fun r => wordV (nthD 1 r) && hasV cs (nthD 0 r) (nthD 2 r)) = true
  rw [e0, strs_map]
  have n := nodup_names hc h.nd fun i hi => by
    rw [List.mem_map] at hi
    obtain ⟨t, ht, rfl⟩ := hi
    exact (h.val t ht).1
  rw [List.map_map] at n
  have n' : (ts.map fun t => S8 (cs.getD t.at_ ([], 0)).1).Nodup := n
  rw [decide_eq_true n']
  simp only [Bool.and_eq_true, Bool.and_true, List.all_eq_true, List.mem_map]
  refine ⟨⟨?_, ?_⟩, ?_⟩
  · rintro x ⟨t, ht, rfl⟩
    rfl
  · rintro x ⟨t, ht, rfl⟩
    exact headV_at hc (h.val t ht).1
  · rintro x ⟨t, ht, rfl⟩
    refine ⟨word_ok t.set, ?_⟩
    show hasV cs (.str (S8 (cs.getD t.at_ ([], 0)).1)) (.int t.val) = true
    rw [hasV_at hc (h.val t ht).1]
    exact inCol_sz (h.val t ht)
/-! ### wrong ones -/
def testRowV (cs : List Col) (r : D) : Bool := rowV 2 r && (headV cs (nthD 0 r) && hasV cs (nthD 0 r) (nthD 1 r))
def chgRowV (cs : List Col) (r : D) : Bool := rowV 3 r && (headV cs (nthD 0 r) && (wordV (nthD 1 r) && hasV cs (nthD 0 r) (nthD 2 r)))
theorem tests_bad {cs : List Col} {rows : List D} {r : D} (hr : r ∈ rows) (h : testRowV cs r = false) : isTestsV cs (.tup rows) = false := by
  rw [Bool.eq_false_iff]
  intro q
  have q : ((rows.all (rowV 2) && ((rows.map (nthD 0)).all (headV cs) && decide (strsD (rows.map (nthD 0))).Nodup)) && rows.all fun r => hasV cs (nthD 0 r) (nthD 1 r)) = true := q
  simp only [Bool.and_eq_true, List.all_eq_true, List.mem_map] at q
  have e : testRowV cs r = true := by
    unfold testRowV
    rw [q.1.1 r hr, q.1.2.1 _ ⟨r, hr, rfl⟩, q.2 r hr]
    rfl
  rw [e] at h
  cases h
theorem chgs_bad {cs : List Col} {rows : List D} {r : D} (hr : r ∈ rows) (h : chgRowV cs r = false) : isChangesV cs (.tup rows) = false := by
  rw [Bool.eq_false_iff]
  intro q
  have q : ((rows.all (rowV 3) && ((rows.map (nthD 0)).all (headV cs) && decide (strsD (rows.map (nthD 0))).Nodup)) && rows.all fun r => wordV (nthD 1 r) && hasV cs (nthD 0 r) (nthD 2 r)) = true := q
  simp only [Bool.and_eq_true, List.all_eq_true, List.mem_map] at q
  have e : chgRowV cs r = true := by
    unfold chgRowV
    rw [q.1.1 r hr, q.1.2.1 _ ⟨r, hr, rfl⟩, (q.2 r hr).1, (q.2 r hr).2]
    rfl
  rw [e] at h
  cases h
theorem look_bad {cs : List Col} {xs : List D} {i : Nat} {x : D} (hx : xs[i]? = some x) (hi : i < cs.length) (h : inSz x (cs.getD i ([], 0)).2 = false) : isLookV cs (.tup xs) = false := by
  rw [Bool.eq_false_iff]
  intro q
  have q : (decide (xs.length = cs.length) && (xs.zip cs).all fun p => inSz p.1 p.2.2) = true := q
  simp only [Bool.and_eq_true, List.all_eq_true] at q
  have hg : cs[i]? = some (cs.getD i ([], 0)) := getD_at hi
  have := q.2 (x, cs.getD i ([], 0)) (List.mem_iff_getElem?.mpr ⟨i, by rw [List.getElem?_zip_eq_some]; exact ⟨hx, hg⟩⟩)
  rw [h] at this
  cases this
theorem look_len {cs : List Col} {xs : List D} (h : xs.length ≠ cs.length) : isLookV cs (.tup xs) = false := by
  show (decide _ && _) = false
  rw [decide_eq_false h]
  rfl
end Sh


namespace Sh
open PySem PySem.Spec PyProof.Rows L2
/-- the j-th statement of a class -/
def inCls (s : Stmt) (j : Nat) : Stmt := match s with
  | .ClassDef _ _ _ body _ _ _ _ _ _ _ => body.getD j (.Pass ⟨0, 0, 0, 0⟩)
  | _ => .Pass ⟨0, 0, 0, 0⟩
abbrev FN : List Str := ["_wall", "LogError", "InvalidColumn", "TooWide", "MOST_COLUMNS", "WIDEST", "LETTERS", "WORDS", "is_number", "is_listed", "is_name", "is_column", "Columns", "_law_draws", "_law_pull", "_law_any", "_law_mixed", "_law_like", "_law_new_names", "_law_tests", "_law_changes", "_law_look", "_law_odd_row", "law"]
abbrev s_isnumber : Stmt := top 10
abbrev p_isnumber : List Str := ["value"]
abbrev n_isnumber : List Str := ["value"]
abbrev b_isnumber : LSs := bIsNumber
theorem sc_isnumber : FnScope n_isnumber p_isnumber (defScope s_isnumber) := ⟨rfl, rfl, rfl, by decide +kernel, rfl, by decide +kernel, by decide +kernel⟩
theorem c_isnumber : compSs 60 ⟨FN, n_isnumber, defScope s_isnumber, fun _ => true⟩ (defBody s_isnumber) = some b_isnumber := by kernel_rfl
abbrev s_islisted : Stmt := top 11
abbrev p_islisted : List Str := ["value"]
abbrev n_islisted : List Str := ["value"]
abbrev b_islisted : LSs := bIsListed
theorem sc_islisted : FnScope n_islisted p_islisted (defScope s_islisted) := ⟨rfl, rfl, rfl, by decide +kernel, rfl, by decide +kernel, by decide +kernel⟩
theorem c_islisted : compSs 60 ⟨FN, n_islisted, defScope s_islisted, fun _ => true⟩ (defBody s_islisted) = some b_islisted := by kernel_rfl
abbrev s_isname : Stmt := top 12
abbrev p_isname : List Str := ["value"]
abbrev n_isname : List Str := ["value", "sign"]
abbrev b_isname : LSs := bIsName 6
theorem sc_isname : FnScope n_isname p_isname (defScope s_isname) := ⟨rfl, rfl, rfl, by decide +kernel, rfl, by decide +kernel, by decide +kernel⟩
theorem c_isname : compSs 60 ⟨FN, n_isname, defScope s_isname, fun _ => true⟩ (defBody s_isname) = some b_isname := by kernel_rfl
abbrev s_iscolumn : Stmt := top 13
abbrev p_iscolumn : List Str := ["value"]
abbrev n_iscolumn : List Str := ["value"]
abbrev b_iscolumn : LSs := bIsColumn 10 8
theorem sc_iscolumn : FnScope n_iscolumn p_iscolumn (defScope s_iscolumn) := ⟨rfl, rfl, rfl, by decide +kernel, rfl, by decide +kernel, by decide +kernel⟩
theorem c_iscolumn : compSs 60 ⟨FN, n_iscolumn, defScope s_iscolumn, fun _ => true⟩ (defBody s_iscolumn) = some b_iscolumn := by kernel_rfl
abbrev s_init : Stmt := inCls (top 14) 1
abbrev p_init : List Str := ["self", "rows"]
abbrev n_init : List Str := ["self", "rows", "found", "wide", "at", "row", "name", "size"]
abbrev b_init : LSs := bColInit 9 4 11 5
theorem sc_init : FnScope n_init p_init (defScope s_init) := ⟨rfl, rfl, rfl, by decide +kernel, rfl, by decide +kernel, by decide +kernel⟩
theorem c_init : compSs 60 ⟨FN, n_init, defScope s_init, fun _ => true⟩ (defBody s_init) = some b_init := by kernel_rfl
abbrev s_islook : Stmt := inCls (top 14) 5
abbrev p_islook : List Str := ["self", "value"]
abbrev n_islook : List Str := ["self", "value", "one", "pair"]
abbrev b_islook : LSs := bIsLook 8
theorem sc_islook : FnScope n_islook p_islook (defScope s_islook) := ⟨rfl, rfl, rfl, by decide +kernel, rfl, by decide +kernel, by decide +kernel⟩
theorem c_islook : compSs 60 ⟨FN, n_islook, defScope s_islook, fun _ => true⟩ (defBody s_islook) = some b_islook := by kernel_rfl
abbrev s_spot : Stmt := inCls (top 14) 6
abbrev p_spot : List Str := ["self", "name"]
abbrev n_spot : List Str := ["self", "name", "names", "known", "size"]
abbrev b_spot : LSs := bSpot
theorem sc_spot : FnScope n_spot p_spot (defScope s_spot) := ⟨rfl, rfl, rfl, by decide +kernel, rfl, by decide +kernel, by decide +kernel⟩
theorem c_spot : compSs 60 ⟨FN, n_spot, defScope s_spot, fun _ => true⟩ (defBody s_spot) = some b_spot := by kernel_rfl
abbrev s_ispart : Stmt := inCls (top 14) 7
abbrev p_ispart : List Str := ["self", "value", "many"]
abbrev n_ispart : List Str := ["self", "value", "many", "heads", "row", "head"]
abbrev b_ispart : LSs := bIsPart
theorem sc_ispart : FnScope n_ispart p_ispart (defScope s_ispart) := ⟨rfl, rfl, rfl, by decide +kernel, rfl, by decide +kernel, by decide +kernel⟩
theorem c_ispart : compSs 60 ⟨FN, n_ispart, defScope s_ispart, fun _ => true⟩ (defBody s_ispart) = some b_ispart := by kernel_rfl
abbrev s_has : Stmt := inCls (top 14) 8
abbrev p_has : List Str := ["self", "name", "value"]
abbrev n_has : List Str := ["self", "name", "value"]
abbrev b_has : LSs := bHas 8
theorem sc_has : FnScope n_has p_has (defScope s_has) := ⟨rfl, rfl, rfl, by decide +kernel, rfl, by decide +kernel, by decide +kernel⟩
theorem c_has : compSs 60 ⟨FN, n_has, defScope s_has, fun _ => true⟩ (defBody s_has) = some b_has := by kernel_rfl
abbrev s_istests : Stmt := inCls (top 14) 9
abbrev p_istests : List Str := ["self", "value"]
abbrev n_istests : List Str := ["self", "value", "name", "one"]
abbrev b_istests : LSs := bIsTests
theorem sc_istests : FnScope n_istests p_istests (defScope s_istests) := ⟨rfl, rfl, rfl, by decide +kernel, rfl, by decide +kernel, by decide +kernel⟩
theorem c_istests : compSs 60 ⟨FN, n_istests, defScope s_istests, fun _ => true⟩ (defBody s_istests) = some b_istests := by kernel_rfl
abbrev s_ischanges : Stmt := inCls (top 14) 10
abbrev p_ischanges : List Str := ["self", "value"]
abbrev n_ischanges : List Str := ["self", "value", "name", "word", "one"]
abbrev b_ischanges : LSs := bIsChanges 7
theorem sc_ischanges : FnScope n_ischanges p_ischanges (defScope s_ischanges) := ⟨rfl, rfl, rfl, by decide +kernel, rfl, by decide +kernel, by decide +kernel⟩
theorem c_ischanges : compSs 60 ⟨FN, n_ischanges, defScope s_ischanges, fun _ => true⟩ (defBody s_ischanges) = some b_ischanges := by kernel_rfl
abbrev s_any : Stmt := top 18
abbrev p_any : List Str := ["_law_bag", "_law_rows"]
abbrev n_any : List Str := ["_law_bag", "_law_rows"]
abbrev b_any : LSs := bAny 14
theorem sc_any : FnScope n_any p_any (defScope s_any) := ⟨rfl, rfl, rfl, by decide +kernel, rfl, by decide +kernel, by decide +kernel⟩
theorem c_any : compSs 60 ⟨FN, n_any, defScope s_any, fun _ => true⟩ (defBody s_any) = some b_any := by kernel_rfl
abbrev s_mixed : Stmt := top 19
abbrev p_mixed : List Str := ["_law_bag", "_law_rows"]
abbrev n_mixed : List Str := ["_law_bag", "_law_rows", "_law_found", "_law_row"]
abbrev b_mixed : LSs := bMixed 14
theorem sc_mixed : FnScope n_mixed p_mixed (defScope s_mixed) := ⟨rfl, rfl, rfl, by decide +kernel, rfl, by decide +kernel, by decide +kernel⟩
theorem c_mixed : compSs 60 ⟨FN, n_mixed, defScope s_mixed, fun _ => true⟩ (defBody s_mixed) = some b_mixed := by kernel_rfl
abbrev s_like : Stmt := top 20
abbrev p_like : List Str := ["_law_a", "_law_b"]
abbrev n_like : List Str := ["_law_a", "_law_b", "_law_same", "_law_c", "_law_d"]
abbrev b_like : LSs := bLike 17
theorem sc_like : FnScope n_like p_like (defScope s_like) := ⟨rfl, rfl, rfl, by decide +kernel, rfl, by decide +kernel, by decide +kernel⟩
theorem c_like : compSs 60 ⟨FN, n_like, defScope s_like, fun _ => true⟩ (defBody s_like) = some b_like := by kernel_rfl
abbrev s_new_names : Stmt := top 21
abbrev p_new_names : List Str := ["_law_bag", "_law_many"]
abbrev n_new_names : List Str := ["_law_bag", "_law_many", "_law_abc", "_law_stem", "_law_at", "_law_first", "_law_k"]
abbrev b_new_names : LSs := bNew 14 15
theorem sc_new_names : FnScope n_new_names p_new_names (defScope s_new_names) := ⟨rfl, rfl, rfl, by decide +kernel, rfl, by decide +kernel, by decide +kernel⟩
theorem c_new_names : compSs 60 ⟨FN, n_new_names, defScope s_new_names, fun _ => true⟩ (defBody s_new_names) = some b_new_names := by kernel_rfl
abbrev s_tests : Stmt := top 22
abbrev p_tests : List Str := ["_law_bag", "_law_columns", "_law_share"]
abbrev n_tests : List Str := ["_law_bag", "_law_columns", "_law_share", "_law_some", "_law_name", "_law_size", "_law_test"]
abbrev b_tests : LSs := bTests 14 16
theorem sc_tests : FnScope n_tests p_tests (defScope s_tests) := ⟨rfl, rfl, rfl, by decide +kernel, rfl, by decide +kernel, by decide +kernel⟩
theorem c_tests : compSs 60 ⟨FN, n_tests, defScope s_tests, fun _ => true⟩ (defBody s_tests) = some b_tests := by kernel_rfl
abbrev s_changes : Stmt := top 23
abbrev p_changes : List Str := ["_law_bag", "_law_columns", "_law_share"]
abbrev n_changes : List Str := ["_law_bag", "_law_columns", "_law_share", "_law_some", "_law_name", "_law_size", "_law_change"]
abbrev b_changes : LSs := bChanges 14 15 16
theorem sc_changes : FnScope n_changes p_changes (defScope s_changes) := ⟨rfl, rfl, rfl, by decide +kernel, rfl, by decide +kernel, by decide +kernel⟩
theorem c_changes : compSs 60 ⟨FN, n_changes, defScope s_changes, fun _ => true⟩ (defBody s_changes) = some b_changes := by kernel_rfl
abbrev s_look : Stmt := top 24
abbrev p_look : List Str := ["_law_bag", "_law_columns"]
abbrev n_look : List Str := ["_law_bag", "_law_columns", "_law_name", "_law_size"]
abbrev b_look : LSs := bLook 14
theorem sc_look : FnScope n_look p_look (defScope s_look) := ⟨rfl, rfl, rfl, by decide +kernel, rfl, by decide +kernel, by decide +kernel⟩
theorem c_look : compSs 60 ⟨FN, n_look, defScope s_look, fun _ => true⟩ (defBody s_look) = some b_look := by kernel_rfl
abbrev s_odd : Stmt := top 25
abbrev p_odd : List Str := ["_law_bag", "_law_columns", "_law_word", "_law_far"]
abbrev n_odd : List Str := ["_law_bag", "_law_columns", "_law_word", "_law_far", "_law_name", "_law_size", "_law_rows"]
def oddx0 : LS := .tas [4, 5] (.call 15 (.cons (.var 0) (.cons (.var 1) .nil)))
def oddx1 : LS := .asg 6 (.lst (.cons (.non) (.cons (.tup (.nil)) (.cons (.tup (.cons (.var 4) .nil)) (.cons (.lst (.cons (.var 4) (.cons (.int 0) .nil))) (.cons (.tup (.cons (.var 4) (.cons (.var 5) .nil))) (.cons (.tup (.cons (.var 4) (.cons (.bin .Sub (.int 0) (.int 1)) .nil))) (.cons (.tup (.cons (.var 4) (.cons (.non) .nil))) (.cons (.tup (.cons (.var 4) (.cons (.bl true) .nil))) (.cons (.tup (.cons (.var 3) (.cons (.int 0) .nil))) (.cons (.tup (.cons (.int 3) (.cons (.int 0) .nil))) (.cons (.tup (.cons (.var 4) (.cons (.int 0) (.cons (.int 0) (.cons (.int 0) .nil))))) (.cons (.str "ab") .nil)))))))))))))
def oddx2 : LS := .iff (.cmp .Eq (.var 2) (.str "change")) (.cons (.asg 6 (.lst (.cons (.non) (.cons (.tup (.nil)) (.cons (.tup (.cons (.var 4) (.cons (.int 0) .nil))) (.cons (.lst (.cons (.var 4) (.cons (.str "set") (.cons (.int 0) .nil)))) (.cons (.tup (.cons (.var 4) (.cons (.str "set") (.cons (.var 5) .nil)))) (.cons (.tup (.cons (.var 4) (.cons (.str "raise") (.cons (.bin .Sub (.int 0) (.int 1)) .nil)))) (.cons (.tup (.cons (.var 4) (.cons (.str "Set") (.cons (.int 0) .nil)))) (.cons (.tup (.cons (.var 4) (.cons (.non) (.cons (.int 0) .nil)))) (.cons (.tup (.cons (.var 3) (.cons (.str "set") (.cons (.int 0) .nil)))) (.cons (.tup (.cons (.var 4) (.cons (.str "set") (.cons (.bl true) .nil)))) (.cons (.tup (.cons (.var 4) (.cons (.str "lower") (.cons (.int 1) .nil)))) (.cons (.str "abc") .nil)))))))))))))) .nil) (.nil)
def oddx3 : LS := .ret (.call 15 (.cons (.var 0) (.cons (.var 6) .nil)))
def b_odd : LSs := .cons oddx0 (.cons oddx1 (.cons oddx2 (.cons oddx3 (.nil))))
theorem sc_odd : FnScope n_odd p_odd (defScope s_odd) := ⟨rfl, rfl, rfl, by decide +kernel, rfl, by decide +kernel, by decide +kernel⟩
theorem c_odd : compSs 60 ⟨FN, n_odd, defScope s_odd, fun _ => true⟩ (defBody s_odd) = some b_odd := by kernel_rfl
abbrev s_law : Stmt := top 26
abbrev p_law : List Str := ["_law_script"]
abbrev n_law : List Str := ["_law_script", "_law_bag", "_law_names", "_law_turn", "_law_sizes", "_law_columns", "_law_found", "_law_at", "_law_odd", "_law_wrong", "_law_late", "_law_first", "_law_made", "_law_look_here", "_law_tests_here", "_law_changes_here", "_law_k", "_law_value_z"]
def x0 : LS := .asg 1 (.call 13 (.cons (.var 0) .nil))
def x1 : LS := .asg 2 (.call 18 (.cons (.var 1) (.cons (.int 4) .nil)))
def x2_0 : LS := .asg 4 (.call 15 (.cons (.var 1) (.cons (.lst (.cons (.lst (.cons (.int 2) .nil)) (.cons (.lst (.cons (.int 3) .nil)) (.cons (.lst (.cons (.int 2) (.cons (.int 2) .nil))) (.cons (.lst (.cons (.int 4) .nil)) (.cons (.lst (.cons (.int 2) (.cons (.int 3) .nil))) (.cons (.lst (.cons (.int 2) (.cons (.int 2) (.cons (.int 2) .nil)))) (.cons (.lst (.cons (.int 3) (.cons (.int 4) .nil))) .nil)))))))) .nil)))
def x2_1 : LS := .asg 5 (.lc [16] (.tup (.cons (.idx (.var 2) (.var 16)) (.cons (.idx (.var 4) (.var 16)) .nil))) (.name 16) (.rng (.bcl .len (.cons (.var 4) .nil))) (.nil))
def x2_2 : LS := .tas [12, 13] (.tup (.cons (.call 12 (.cons (.var 5) .nil)) (.cons (.call 21 (.cons (.var 1) (.cons (.var 5) .nil))) .nil)))
def x2_3 : LS := .par 14 15 (.call 19 (.cons (.var 1) (.cons (.var 5) (.cons (.int 2) .nil)))) (.call 20 (.cons (.var 1) (.cons (.var 5) (.cons (.int 2) .nil))))
def x2_4 : LS := .asg 6 (.lst (.cons (.mth (.var 12) "is_look" (.cons (.var 13) .nil)) (.cons (.mth (.var 12) "is_tests" (.cons (.var 14) .nil)) (.cons (.mthk (.var 12) "is_changes" 0 (.nil) ["value"] (.cons (.var 15) .nil)) (.cons (.mth (.var 12) "is_tests" (.cons (.tup (.nil)) .nil)) (.cons (.mth (.var 12) "is_changes" (.cons (.tup (.nil)) .nil)) .nil))))))
def x2_5 : LS := .iff (.not (.call 17 (.cons (.var 6) (.cons (.rep (.cons (.bl true) .nil) (.int 5)) .nil)))) (.cons (.ret (.bl false)) .nil) (.nil)
def x2_6 : LS := .asg 7 (.call 14 (.cons (.var 1) (.cons (.bcl .len (.cons (.var 13) .nil)) .nil)))
def x2_7 : LS := .asg 8 (.lst (.cons (.bin .Add (.bin .Add (.slc (.var 13) .no (.so (.var 7))) (.tup (.cons (.call 15 (.cons (.var 1) (.cons (.lst (.cons (.idx (.var 4) (.var 7)) (.cons (.bin .Sub (.int 0) (.int 1)) (.cons (.non) (.cons (.bl true) (.cons (.str "0") (.cons (.bin .Pow (.int 10) (.int 20)) (.cons (.lst (.cons (.int 0) .nil)) (.cons (.lst (.cons (.non) .nil)) .nil))))))))) .nil))) .nil))) (.slc (.var 13) (.so (.bin .Add (.var 7) (.int 1))) .no)) (.cons (.bin .Add (.var 13) (.tup (.cons (.int 0) .nil))) (.cons (.slc (.var 13) (.so (.int 1)) .no) (.cons (.bcl .list (.cons (.var 13) .nil)) (.cons (.non) (.cons (.int 3) .nil)))))))
def x2_8 : LS := .asg 7 (.call 14 (.cons (.var 1) (.cons (.bin .Add (.bcl .len (.cons (.var 14) .nil)) (.int 1)) .nil)))
def x2_9 : LS := .asg 9 (.bin .Add (.bin .Add (.slc (.var 14) .no (.so (.var 7))) (.tup (.cons (.call 22 (.cons (.var 1) (.cons (.var 5) (.cons (.str "test") (.cons (.idx (.var 2) (.int 3)) .nil))))) .nil))) (.slc (.var 14) (.so (.var 7)) .no))
def x2_10 : LS := .asg 7 (.call 14 (.cons (.var 1) (.cons (.bin .Add (.bcl .len (.cons (.var 15) .nil)) (.int 1)) .nil)))
def x2_11 : LS := .asg 10 (.bin .Add (.bin .Add (.slc (.var 15) .no (.so (.var 7))) (.tup (.cons (.call 22 (.cons (.var 1) (.cons (.var 5) (.cons (.str "change") (.cons (.idx (.var 2) (.int 3)) .nil))))) .nil))) (.slc (.var 15) (.so (.var 7)) .no))
def x2_12 : LS := .asg 6 (.bin .Add (.lc [17] (.mth (.var 12) "is_look" (.cons (.var 17) .nil)) (.name 17) (.seq (.var 8)) (.nil)) (.lst (.cons (.mth (.var 12) "is_tests" (.cons (.var 9) .nil)) (.cons (.mth (.var 12) "is_changes" (.cons (.var 10) .nil)) (.cons (.mth (.var 12) "is_tests" (.cons (.bcl .list (.cons (.var 14) .nil)) .nil)) (.cons (.mthk (.var 12) "is_changes" 0 (.nil) ["value"] (.cons (.bcl .list (.cons (.var 15) .nil)) .nil)) (.cons (.mth (.var 12) "is_tests" (.cons (.non) .nil)) (.cons (.mth (.var 12) "is_changes" (.cons (.int 3) .nil)) .nil))))))))
def x2_13 : LS := .asg 11 (.idx (.idx (.var 5) (.int 0)) (.int 0))
def x2_14 : LS := .asg 6 (.bin .Add (.var 6) (.lst (.cons (.mth (.var 12) "is_tests" (.cons (.tup (.cons (.tup (.cons (.var 11) (.cons (.int 0) .nil))) (.cons (.tup (.cons (.var 11) (.cons (.int 0) .nil))) .nil))) .nil)) (.cons (.mth (.var 12) "is_changes" (.cons (.tup (.cons (.tup (.cons (.var 11) (.cons (.str "set") (.cons (.int 0) .nil)))) (.cons (.tup (.cons (.var 11) (.cons (.str "raise") (.cons (.int 1) .nil)))) .nil))) .nil)) .nil))))
def x2_15 : LS := .asg 6 (.bin .Add (.var 6) (.lst (.cons (.mth (.var 12) "is_tests" (.cons (.tup (.cons (.tup (.cons (.lst (.cons (.var 11) .nil)) (.cons (.int 0) .nil))) .nil)) .nil)) (.cons (.mth (.var 12) "is_tests" (.cons (.tup (.cons (.tup (.cons (.var 11) (.cons (.lst (.cons (.int 0) .nil)) .nil))) .nil)) .nil)) (.cons (.mth (.var 12) "is_changes" (.cons (.tup (.cons (.tup (.cons (.var 11) (.cons (.lst (.cons (.str "set") .nil)) (.cons (.int 0) .nil)))) .nil)) .nil)) (.cons (.mth (.var 12) "is_changes" (.cons (.tup (.cons (.lst (.cons (.var 11) (.cons (.str "set") (.cons (.int 0) .nil)))) .nil)) .nil)) .nil))))))
def x2_16 : LS := .iff (.not (.call 17 (.cons (.var 6) (.cons (.rep (.cons (.bl false) .nil) (.int 18)) .nil)))) (.cons (.ret (.bl false)) .nil) (.nil)
def x2b : LSs := .cons x2_0 (.cons x2_1 (.cons x2_2 (.cons x2_3 (.cons x2_4 (.cons x2_5 (.cons x2_6 (.cons x2_7 (.cons x2_8 (.cons x2_9 (.cons x2_10 (.cons x2_11 (.cons x2_12 (.cons x2_13 (.cons x2_14 (.cons x2_15 (.cons x2_16 (.nil)))))))))))))))))
def x2 : LS := .forr (.name 3) (.rng (.int 4)) x2b
def x3 : LS := .ret (.call 17 (.cons (.lst (.cons (.mth (.call 12 (.nil)) "is_look" (.cons (.tup (.nil)) .nil)) (.cons (.mth (.call 12 (.nil)) "is_tests" (.cons (.tup (.nil)) .nil)) (.cons (.mth (.call 12 (.nil)) "is_tests" (.cons (.tup (.cons (.tup (.cons (.str "a") (.cons (.int 0) .nil))) .nil)) .nil)) .nil)))) (.cons (.lst (.cons (.bl true) (.cons (.bl true) (.cons (.bl false) .nil)))) .nil)))
def b_law : LSs := .cons x0 (.cons x1 (.cons x2 (.cons x3 (.nil))))
theorem sc_law : FnScope n_law p_law (defScope s_law) := ⟨rfl, rfl, rfl, by decide +kernel, rfl, by decide +kernel, by decide +kernel⟩
theorem c_law : compSs 60 ⟨FN, n_law, defScope s_law, fun _ => true⟩ (defBody s_law) = some b_law := by kernel_rfl
end Sh


namespace Sh
open PySem PySem.Spec PyProof.Rows L2
/-! ### the tables -/
abbrev sIsLook : Str := "is_look"
abbrev sIsTests : Str := "is_tests"
abbrev sIsChanges : Str := "is_changes"
def fldP (c f : Str) : Bool := c == sCol && (f == sRows || f == sWide)
def TN : Tab := Tab.emp.addG 6 (.str "abcdefghijklmnopqrstuvwxyz")
def TC : Tab := (Tab.emp.add 8 (isNumF .emp)).add 10 (isNameF TN 6)
def TI : Tab := ((((Tab.emp.add 9 (isListF .emp)).add 11 (isColF TC 10 8)).addG 4 (.int 3)).addG 5 (.int 12)).addF fldP
def TS : Tab := Tab.emp.addF fldP
def TG : Tab := TS.addM sCol sSpot (spotF TS)
def TH : Tab := TG.add 8 (isNumF .emp)
def TM : Tab := ((TG.addM sCol sPart (isPartF TG)).addM sCol sHas (hasF TH 8)).addG 7 (.tup [.str "set", .str "raise"])
def TK : Tab := TS.add 8 (isNumF .emp)
def TP : Tab := Tab.emp.add 14 pullFn
def TP2 : Tab := TP.add 15 (anyF TP 14)
def TX : Tab := TP.add 16 (mixedF TP 14)
def TY : Tab := TP2.add 16 (mixedF TP 14)
abbrev colInit : Fn := initF TI 9 4 11 5
abbrev oddF : Fn := denDef TP2 4 7 b_odd
abbrev lookM : Fn := isLookF TK 8
abbrev testsM : Fn := isTestsF TM
abbrev changesM : Fn := isChangesF TM 7
def TL0 : Tab := (((((((((Tab.emp.add 13 drawsFn).add 14 pullFn).add 15 (anyF TP 14)).add 17 (likeF 17 4)).add 18 (newF TP2 14 15)).add 19 (testsF TX 14 16)).add 20 (changesF TY 14 15 16)).add 21 (lookF TP 14)).add 22 oddF)
def TL1 : Tab := (TL0.addN 12 1 sCol colInit [] true).addN 12 0 sCol colInit [.tup []] true
def TL2 : Tab := ((TL1.addM sCol sIsLook lookM).addM sCol sIsTests testsM).addM sCol sIsChanges changesM
def TL : Tab := TL2.addMk sCol sIsChanges ["value"] 0 changesM [0]
theorem t13 : TL.fn 13 = some drawsFn := rfl
theorem t14 : TL.fn 14 = some pullFn := rfl
theorem t15 : TL.fn 15 = some (anyF TP 14) := rfl
theorem t17 : TL.fn 17 = some (likeF 17 4) := rfl
theorem t18 : TL.fn 18 = some (newF TP2 14 15) := rfl
theorem t19 : TL.fn 19 = some (testsF TX 14 16) := rfl
theorem t20 : TL.fn 20 = some (changesF TY 14 15 16) := rfl
theorem t21 : TL.fn 21 = some (lookF TP 14) := rfl
theorem t22 : TL.fn 22 = some oddF := rfl
theorem t12 : TL.fn 12 = none := rfl
theorem tn1 : TL.nw 12 1 = some (sCol, colInit, [], true) := rfl
theorem tn0 : TL.nw 12 0 = some (sCol, colInit, [.tup []], true) := rfl
theorem tm1 : TL.mt sCol sIsLook = some lookM := rfl
theorem tm2 : TL.mt sCol sIsTests = some testsM := rfl
theorem tm3 : TL.mt sCol sIsChanges = some changesM := rfl
theorem tk3 : TL.mtk sCol sIsChanges ["value"] 0 = some (changesM, [0]) := rfl
theorem gLet : TN.gl 6 = some (.str (S8 abcL)) := by rw [← abc_eq]; rfl
theorem initT : InitT TI 9 4 11 5 where
  li := ⟨.emp, rfl⟩
  co := ⟨TC, 10, 8, rfl, fun c hc S => iscol_ok (g := 6) (Tn := TN) rfl gLet (Tu := .emp) rfl c hc S⟩
  mo := rfl
  wi := rfl
  f1 := by decide +kernel
  f2 := by decide +kernel
theorem colTG : ColT TG TS where
  sp := rfl
  f1 := by decide +kernel
  p1 := rfl
  f2 := by decide +kernel
  p2 := rfl
theorem colTH : ColT TH TS where
  sp := rfl
  f1 := by decide +kernel
  p1 := rfl
  f2 := by decide +kernel
  p2 := rfl
theorem tstT : TstT TM TG TS TH TS 8 where
  part := rfl
  has := rfl
  cp := colTG
  ch := colTH
  nu := ⟨.emp, rfl⟩
theorem colSK : ColS TK where
  f1 := by decide +kernel
  p1 := rfl
  f2 := by decide +kernel
  p2 := rfl
theorem numTK : NumT TK 8 := ⟨.emp, rfl⟩
/-- the three, asked of any data -/
theorem look_m {cs : List Col} (hc : ColsOk cs) {v : D} (hv : fits 20 v) (S : Mem) : lookM [colO cs, v] S = .ok (.fz (.bl (isLookV cs v))) S := islook_ok numTK colSK hc hv S
theorem tests_m {cs : List Col} (hc : ColsOk cs) {v : D} (hv : fits 20 v) (hl : ∀ xs, v = .tup xs → xs.length ≤ 1000) (S : Mem) : testsM [colO cs, v] S = .ok (.fz (.bl (isTestsV cs v))) S := istests_gen tstT hc hv hl S
theorem changes_m {cs : List Col} (hc : ColsOk cs) {v : D} (hv : fits 20 v) (hl : ∀ xs, v = .tup xs → xs.length ≤ 1000) (S : Mem) : changesM [colO cs, v] S = .ok (.fz (.bl (isChangesV cs v))) S := ischanges_gen tstT rfl hc (by decide) hv hl S
theorem m_look (cs : List Col) (S : Mem) : mthOf TL S (colO cs) sIsLook = some (sCol, lookM) := mth_col tm1 (by decide +kernel) (by decide +kernel) S
theorem m_tests (cs : List Col) (S : Mem) : mthOf TL S (colO cs) sIsTests = some (sCol, testsM) := mth_col tm2 (by decide +kernel) (by decide +kernel) S
theorem m_changes (cs : List Col) (S : Mem) : mthOf TL S (colO cs) sIsChanges = some (sCol, changesM) := mth_col tm3 (by decide +kernel) (by decide +kernel) S
theorem m_changesK (cs : List Col) (S : Mem) : mkOf TL S (colO cs) sIsChanges ["value"] 0 = some (changesM, [0]) := by
  unfold mkOf
  rw [m_changes cs S]
  exact tk3
/-! ### the odd rows -/
theorem col_mem {cs : List Col} {x : D} (h : x ∈ cs.map colD) : ∃ i, i < cs.length ∧ x = colD (cs.getD i ([], 0)) := by
  rw [List.mem_map] at h
  obtain ⟨c, hc, rfl⟩ := h
  obtain ⟨i, hi, rfl⟩ := List.mem_iff_getElem.mp hc
  refine ⟨i, hi, ?_⟩
  rw [List.getD_eq_getElem?_getD, List.getElem?_eq_getElem hi]
  rfl
/-- the columns' place is no empty one; fl is no name of a column -/
structure Far (cs : List Col) (fl : List Nat) : Prop where
  low : Lower fl
  far : ∀ c ∈ cs, c.1 ≠ fl
theorem fits_s {l : List Nat} (h : Lower l) (k : Nat) : fits (k + 1) (.str (S8 l)) := lower_ok h
theorem fits_tup {k : Nat} {xs : List D} (hl : xs.length ≤ 1000) (h : ∀ x ∈ xs, fits k x) : fits (k + 1) (.tup xs) := ⟨le_line hl, h⟩
theorem fits_lst {k : Nat} {xs : List D} (hl : xs.length ≤ 1000) (h : ∀ x ∈ xs, fits k x) : fits (k + 1) (.lst xs) := ⟨le_line hl, h⟩
def FAll (k : Nat) : List D → Prop
  | [] => True
  | x :: xs => fits k x ∧ FAll k xs
theorem fall_mem {k : Nat} : ∀ {xs : List D}, FAll k xs → ∀ x ∈ xs, fits k x
  | [], _, x, h => by cases h
  | y :: ys, h, x, hx => by
    rcases List.mem_cons.mp hx with rfl | hx
    · exact h.1
    · exact fall_mem h.2 x hx
theorem fits_tupc {k : Nat} {xs : List D} (hl : xs.length ≤ 1000) (h : FAll k xs) : fits (k + 1) (.tup xs) := ⟨le_line hl, fall_mem h⟩
theorem fits_lstc {k : Nat} {xs : List D} (hl : xs.length ≤ 1000) (h : FAll k xs) : fits (k + 1) (.lst xs) := ⟨le_line hl, fall_mem h⟩
def oddT (nm : List Nat) (sz : Nat) (fl : List Nat) : List D := [.non, .tup [], .tup [.str (S8 nm)], .lst [.str (S8 nm), .int 0], .tup [.str (S8 nm), .int (sz : Nat)], .tup [.str (S8 nm), .int (0 - 1)], .tup [.str (S8 nm), .non], .tup [.str (S8 nm), .bl true], .tup [.str (S8 fl), .int 0], .tup [.int 3, .int 0], .tup [.str (S8 nm), .int 0, .int 0, .int 0], .str "ab"]
def oddC (nm : List Nat) (sz : Nat) (fl : List Nat) : List D := [.non, .tup [], .tup [.str (S8 nm), .int 0], .lst [.str (S8 nm), .str "set", .int 0], .tup [.str (S8 nm), .str "set", .int (sz : Nat)], .tup [.str (S8 nm), .str "raise", .int (0 - 1)], .tup [.str (S8 nm), .str "Set", .int 0], .tup [.str (S8 nm), .non, .int 0], .tup [.str (S8 fl), .str "set", .int 0], .tup [.str (S8 nm), .str "set", .bl true], .tup [.str (S8 nm), .str "lower", .int 1], .str "abc"]
theorem fits_c (x : Str) (h : (D.str x).eqOk = true) (k : Nat) : fits (k + 1) (.str x) := h
theorem oddT_bad_c {cs : List Col} {fl : List Nat} (hf : Far cs fl) {c : Col} (hn : Lower c.1) (e1 : ∀ d, hasV cs (.str (S8 c.1)) d = inSz d c.2) {x : D} (hx : x ∈ oddT c.1 c.2 fl) : fits 4 x ∧ testRowV cs x = false := by
  have f1 := fits_s hn
  have f2 := fits_s hf.low
  have e2 : headV cs (.str (S8 fl)) = false := by
    unfold headV
    dsimp only
    rw [colOf_none hf.far]
    rfl
  unfold oddT at hx
  simp only [List.mem_cons, List.not_mem_nil, or_false] at hx
  rcases hx with rfl | rfl | rfl | rfl | rfl | rfl | rfl | rfl | rfl | rfl | rfl | rfl
  · exact ⟨trivial, rfl⟩
  · exact ⟨fits_tupc (by simp) trivial, rfl⟩
  · exact ⟨fits_tupc (by simp) (by repeat' (first | exact trivial | exact f1 _ | exact f2 _ | exact fits_c _ (by decide +kernel) _ | refine ⟨?_, ?_⟩)), rfl⟩
  · exact ⟨fits_lstc (by simp) (by repeat' (first | exact trivial | exact f1 _ | exact f2 _ | exact fits_c _ (by decide +kernel) _ | refine ⟨?_, ?_⟩)), rfl⟩
  · refine ⟨fits_tupc (by simp) (by repeat' (first | exact trivial | exact f1 _ | exact f2 _ | exact fits_c _ (by decide +kernel) _ | refine ⟨?_, ?_⟩)), ?_⟩
    show (true && (headV cs (.str (S8 c.1)) && hasV cs (.str (S8 c.1)) (.int (c.2 : Nat)))) = false
    rw [e1]
    simp [inSz]
  · refine ⟨fits_tupc (by simp) (by repeat' (first | exact trivial | exact f1 _ | exact f2 _ | exact fits_c _ (by decide +kernel) _ | refine ⟨?_, ?_⟩)), ?_⟩
    show (true && (headV cs (.str (S8 c.1)) && hasV cs (.str (S8 c.1)) (.int (0 - 1)))) = false
    rw [e1]
    simp [inSz]
  · refine ⟨fits_tupc (by simp) (by repeat' (first | exact trivial | exact f1 _ | exact f2 _ | exact fits_c _ (by decide +kernel) _ | refine ⟨?_, ?_⟩)), ?_⟩
    show (true && (headV cs (.str (S8 c.1)) && hasV cs (.str (S8 c.1)) .non)) = false
    rw [e1]
    simp [inSz]
  · refine ⟨fits_tupc (by simp) (by repeat' (first | exact trivial | exact f1 _ | exact f2 _ | exact fits_c _ (by decide +kernel) _ | refine ⟨?_, ?_⟩)), ?_⟩
    show (true && (headV cs (.str (S8 c.1)) && hasV cs (.str (S8 c.1)) (.bl true))) = false
    rw [e1]
    simp [inSz]
  · refine ⟨fits_tupc (by simp) (by repeat' (first | exact trivial | exact f1 _ | exact f2 _ | exact fits_c _ (by decide +kernel) _ | refine ⟨?_, ?_⟩)), ?_⟩
    show (true && (headV cs (.str (S8 fl)) && _)) = false
    rw [e2]
    rfl
  · exact ⟨fits_tupc (by simp) (by repeat' (first | exact trivial | exact f1 _ | exact f2 _ | exact fits_c _ (by decide +kernel) _ | refine ⟨?_, ?_⟩)), rfl⟩
  · exact ⟨fits_tupc (by simp) (by repeat' (first | exact trivial | exact f1 _ | exact f2 _ | exact fits_c _ (by decide +kernel) _ | refine ⟨?_, ?_⟩)), rfl⟩
  · exact ⟨fits_c _ (by decide +kernel) _, rfl⟩
theorem oddT_bad {cs : List Col} (hc : ColsOk cs) {fl : List Nat} (hf : Far cs fl) {i : Nat} (hi : i < cs.length) {x : D} (hx : x ∈ oddT (cs.getD i ([], 0)).1 (cs.getD i ([], 0)).2 fl) : fits 4 x ∧ testRowV cs x = false :=
  oddT_bad_c hf (hc.ok _ (col_getD hi)).1 (hasV_at hc hi) hx
theorem oddC_bad_c {cs : List Col} {fl : List Nat} (hf : Far cs fl) {c : Col} (hn : Lower c.1) (e1 : ∀ d, hasV cs (.str (S8 c.1)) d = inSz d c.2) {x : D} (hx : x ∈ oddC c.1 c.2 fl) : fits 4 x ∧ chgRowV cs x = false := by
  have f1 := fits_s hn
  have f2 := fits_s hf.low
  have f3 : ∀ k, fits (k + 1) (.str "set") := fits_c _ (by decide +kernel)
  have f4 : ∀ k, fits (k + 1) (.str "raise") := fits_c _ (by decide +kernel)
  have f5 : ∀ k, fits (k + 1) (.str "Set") := fits_c _ (by decide +kernel)
  have f6 : ∀ k, fits (k + 1) (.str "lower") := fits_c _ (by decide +kernel)
  have e2 : headV cs (.str (S8 fl)) = false := by
    unfold headV
    dsimp only
    rw [colOf_none hf.far]
    rfl
  have w1 : wordV (.str "Set") = false := by decide +kernel
  have w2 : wordV .non = false := by decide +kernel
  have w3 : wordV (.str "lower") = false := by decide +kernel
  unfold oddC at hx
  simp only [List.mem_cons, List.not_mem_nil, or_false] at hx
  rcases hx with rfl | rfl | rfl | rfl | rfl | rfl | rfl | rfl | rfl | rfl | rfl | rfl
  · exact ⟨trivial, rfl⟩
  · exact ⟨fits_tupc (by simp) trivial, rfl⟩
  · exact ⟨fits_tupc (by simp) (by repeat' (first | exact trivial | exact f1 _ | exact f2 _ | exact fits_c _ (by decide +kernel) _ | refine ⟨?_, ?_⟩)), rfl⟩
  · exact ⟨fits_lstc (by simp) (by repeat' (first | exact trivial | exact f1 _ | exact f2 _ | exact fits_c _ (by decide +kernel) _ | refine ⟨?_, ?_⟩)), rfl⟩
  · refine ⟨fits_tupc (by simp) (by repeat' (first | exact trivial | exact f1 _ | exact f2 _ | exact fits_c _ (by decide +kernel) _ | refine ⟨?_, ?_⟩)), ?_⟩
    show (true && (headV cs (.str (S8 c.1)) && (wordV (.str "set") && hasV cs (.str (S8 c.1)) (.int (c.2 : Nat))))) = false
    rw [e1]
    simp [inSz]
  · refine ⟨fits_tupc (by simp) (by repeat' (first | exact trivial | exact f1 _ | exact f2 _ | exact fits_c _ (by decide +kernel) _ | refine ⟨?_, ?_⟩)), ?_⟩
    show (true && (headV cs (.str (S8 c.1)) && (wordV (.str "raise") && hasV cs (.str (S8 c.1)) (.int (0 - 1))))) = false
    rw [e1]
    simp [inSz]
  · refine ⟨fits_tupc (by simp) (by repeat' (first | exact trivial | exact f1 _ | exact f2 _ | exact fits_c _ (by decide +kernel) _ | refine ⟨?_, ?_⟩)), ?_⟩
    show (true && (headV cs (.str (S8 c.1)) && (wordV (.str "Set") && _))) = false
    rw [w1]
    simp
  · refine ⟨fits_tupc (by simp) (by repeat' (first | exact trivial | exact f1 _ | exact f2 _ | exact fits_c _ (by decide +kernel) _ | refine ⟨?_, ?_⟩)), ?_⟩
    show (true && (headV cs (.str (S8 c.1)) && (wordV .non && _))) = false
    rw [w2]
    simp
  · refine ⟨fits_tupc (by simp) (by repeat' (first | exact trivial | exact f1 _ | exact f2 _ | exact fits_c _ (by decide +kernel) _ | refine ⟨?_, ?_⟩)), ?_⟩
    show (true && (headV cs (.str (S8 fl)) && _)) = false
    rw [e2]
    rfl
  · refine ⟨fits_tupc (by simp) (by repeat' (first | exact trivial | exact f1 _ | exact f2 _ | exact fits_c _ (by decide +kernel) _ | refine ⟨?_, ?_⟩)), ?_⟩
    show (true && (headV cs (.str (S8 c.1)) && (wordV (.str "set") && hasV cs (.str (S8 c.1)) (.bl true)))) = false
    rw [e1]
    simp [inSz]
  · refine ⟨fits_tupc (by simp) (by repeat' (first | exact trivial | exact f1 _ | exact f2 _ | exact fits_c _ (by decide +kernel) _ | refine ⟨?_, ?_⟩)), ?_⟩
    show (true && (headV cs (.str (S8 c.1)) && (wordV (.str "lower") && _))) = false
    rw [w3]
    simp
  · exact ⟨fits_c _ (by decide +kernel) _, rfl⟩
theorem oddC_bad {cs : List Col} (hc : ColsOk cs) {fl : List Nat} (hf : Far cs fl) {i : Nat} (hi : i < cs.length) {x : D} (hx : x ∈ oddC (cs.getD i ([], 0)).1 (cs.getD i ([], 0)).2 fl) : fits 4 x ∧ chgRowV cs x = false :=
  oddC_bad_c hf (hc.ok _ (col_getD hi)).1 (hasV_at hc hi) hx
theorem odd_run (b : Bag) (os : List Ob) {cs : List Col} (hc : ColsOk cs) (h0 : cs ≠ []) (fl : List Nat) (w : Str) (k : Bool) (hw : opCmp .Eq (.str w) (.str "change") = some k) :
    ∃ i x b', i < cs.length ∧ oddF [.loc 0, .lst (cs.map colD), .str w, .str (S8 fl)] ⟨.bag b :: os⟩ = .ok (.fz x) ⟨.bag b' :: os⟩ ∧ x ∈ if k = true then oddC (cs.getD i ([], 0)).1 (cs.getD i ([], 0)).2 fl else oddT (cs.getD i ([], 0)).1 (cs.getD i ([], 0)).2 fl := by
  have hlen := hc.len
  obtain ⟨y, b1, e1, hy⟩ := any_lst (T := TP) (p := 14) rfl b os (cs.map colD) (by simpa using h0) (by rw [List.length_map]; omega)
  obtain ⟨i, hi, rfl⟩ := col_mem hy
  have t15' : TP2.fn 15 = some (anyF TP 14) := rfl
  have k1 : ∀ a b : Int, opBin .Sub (.int a) (.int b) = some (.fz (.int (a - b))) := fun _ _ => rfl
  have z0 : (0 : Nat) ≤ LINE := Nat.zero_le _
  have z1 : (1 : Nat) ≤ LINE := by decide
  have z2 : (2 : Nat) ≤ LINE := by decide
  have z3 : (3 : Nat) ≤ LINE := by decide
  have z4 : (4 : Nat) ≤ LINE := by decide
  have z12 : (12 : Nat) ≤ LINE := by decide
  cases k with
  | false =>
    obtain ⟨x, b2, e2, hx⟩ := any_lst (T := TP) (p := 14) rfl b1 os (oddT (cs.getD i ([], 0)).1 (cs.getD i ([], 0)).2 fl) (by simp [oddT]) (by simp [oddT])
    refine ⟨i, x, b2, hi, ?_, by simpa using hx⟩
    refine (e_def (T := TP2) (b := b_odd) (np := 4) (n := 7) (ds := [.loc 0, .lst (cs.map colD), .str w, .str (S8 fl)]) [some (.fz (.loc 0)), some (.fz (.lst (cs.map colD))), some (.fz (.str w)), some (.fz (.str (S8 fl))), none, none, none] rfl rfl).trans ?_
    unfold oddT at e2
    simp only [b_odd, oddx0, e_cons, e_nil, asg_eq, ret_eq, iff_eq, tas_eq, exp_eq, apd_eq, apx_eq, sst_eq, ins_eq, par_eq, n_var, n_non, n_bl, n_int, n_str, n_glob, n_bin, n_neg, n_cmp, q_lt, q_le, q_gt, q_ge, q_is, q_nis, q_in, q_nin, q_eq, q_ne, Option.map_none, ifM_none, n_chn, n_and, n_or, n_not, n_ite, n_tup, n_lst, n_idx, n_slc, n_call, n_lend, n_lens, n_callk, n_mth, n_mthk, n_fld, n_ixo, n_isc, n_rev, n_fmt, n_fst, n_lc, n_lc2, n_bcl, b_len, b_int, b_all, b_list, b_tuple, b_str, b_min, s_non, s_bl, s_int, s_str, s_lst, s_tup, p_obj, n_isi, n_rep, n_join, denB, denEs, denBs, denO, denI, denF, rdV, rdB, List.getElem?_cons_zero, List.getElem?_cons_succ, List.set_cons_zero, List.set_cons_succ, Res.bind_ok, Res.map_ok, RV.d, ofO_some, FRes.res_ok, thenS_ok, seq_nx, seq_rt, out_rt, out_nx, tstR_bl, if_true, if_false, Bool.false_eq_true, Option.map_some, List.length_cons, List.length_nil, Nat.zero_add, Nat.reduceAdd, noX_ok, t15', e1, colD, Tg.put, setAll]
    simp only [oddx1, e_cons, e_nil, asg_eq, ret_eq, iff_eq, tas_eq, exp_eq, apd_eq, apx_eq, sst_eq, ins_eq, par_eq, n_var, n_non, n_bl, n_int, n_str, n_glob, n_bin, n_neg, n_cmp, q_lt, q_le, q_gt, q_ge, q_is, q_nis, q_in, q_nin, q_eq, q_ne, Option.map_none, ifM_none, n_chn, n_and, n_or, n_not, n_ite, n_tup, n_lst, n_idx, n_slc, n_call, n_lend, n_lens, n_callk, n_mth, n_mthk, n_fld, n_ixo, n_isc, n_rev, n_fmt, n_fst, n_lc, n_lc2, n_bcl, b_len, b_int, b_all, b_list, b_tuple, b_str, b_min, s_non, s_bl, s_int, s_str, s_lst, s_tup, p_obj, n_isi, n_rep, n_join, denB, denEs, denBs, denO, denI, denF, rdV, rdB, List.getElem?_cons_zero, List.getElem?_cons_succ, List.set_cons_zero, List.set_cons_succ, Res.bind_ok, Res.map_ok, RV.d, ofO_some, FRes.res_ok, thenS_ok, seq_nx, seq_rt, out_rt, out_nx, tstR_bl, if_true, if_false, Bool.false_eq_true, Option.map_some, List.length_cons, List.length_nil, Nat.zero_add, Nat.reduceAdd, noX_ok, k1, z0, z1, z2, z3, z4, z12]
    simp only [oddx2, e_cons, e_nil, asg_eq, ret_eq, iff_eq, tas_eq, exp_eq, apd_eq, apx_eq, sst_eq, ins_eq, par_eq, n_var, n_non, n_bl, n_int, n_str, n_glob, n_bin, n_neg, n_cmp, q_lt, q_le, q_gt, q_ge, q_is, q_nis, q_in, q_nin, q_eq, q_ne, Option.map_none, ifM_none, n_chn, n_and, n_or, n_not, n_ite, n_tup, n_lst, n_idx, n_slc, n_call, n_lend, n_lens, n_callk, n_mth, n_mthk, n_fld, n_ixo, n_isc, n_rev, n_fmt, n_fst, n_lc, n_lc2, n_bcl, b_len, b_int, b_all, b_list, b_tuple, b_str, b_min, s_non, s_bl, s_int, s_str, s_lst, s_tup, p_obj, n_isi, n_rep, n_join, denB, denEs, denBs, denO, denI, denF, rdV, rdB, List.getElem?_cons_zero, List.getElem?_cons_succ, List.set_cons_zero, List.set_cons_succ, Res.bind_ok, Res.map_ok, RV.d, ofO_some, FRes.res_ok, thenS_ok, seq_nx, seq_rt, out_rt, out_nx, tstR_bl, if_true, if_false, Bool.false_eq_true, Option.map_some, List.length_cons, List.length_nil, Nat.zero_add, Nat.reduceAdd, noX_ok, hw]
    simp only [oddx3, e_cons, e_nil, asg_eq, ret_eq, iff_eq, tas_eq, exp_eq, apd_eq, apx_eq, sst_eq, ins_eq, par_eq, n_var, n_non, n_bl, n_int, n_str, n_glob, n_bin, n_neg, n_cmp, q_lt, q_le, q_gt, q_ge, q_is, q_nis, q_in, q_nin, q_eq, q_ne, Option.map_none, ifM_none, n_chn, n_and, n_or, n_not, n_ite, n_tup, n_lst, n_idx, n_slc, n_call, n_lend, n_lens, n_callk, n_mth, n_mthk, n_fld, n_ixo, n_isc, n_rev, n_fmt, n_fst, n_lc, n_lc2, n_bcl, b_len, b_int, b_all, b_list, b_tuple, b_str, b_min, s_non, s_bl, s_int, s_str, s_lst, s_tup, p_obj, n_isi, n_rep, n_join, denB, denEs, denBs, denO, denI, denF, rdV, rdB, List.getElem?_cons_zero, List.getElem?_cons_succ, List.set_cons_zero, List.set_cons_succ, Res.bind_ok, Res.map_ok, RV.d, ofO_some, FRes.res_ok, thenS_ok, seq_nx, seq_rt, out_rt, out_nx, tstR_bl, if_true, if_false, Bool.false_eq_true, Option.map_some, List.length_cons, List.length_nil, Nat.zero_add, Nat.reduceAdd, noX_ok, t15', e2]
  | true =>
    obtain ⟨x, b2, e2, hx⟩ := any_lst (T := TP) (p := 14) rfl b1 os (oddC (cs.getD i ([], 0)).1 (cs.getD i ([], 0)).2 fl) (by simp [oddC]) (by simp [oddC])
    refine ⟨i, x, b2, hi, ?_, by simpa using hx⟩
    refine (e_def (T := TP2) (b := b_odd) (np := 4) (n := 7) (ds := [.loc 0, .lst (cs.map colD), .str w, .str (S8 fl)]) [some (.fz (.loc 0)), some (.fz (.lst (cs.map colD))), some (.fz (.str w)), some (.fz (.str (S8 fl))), none, none, none] rfl rfl).trans ?_
    unfold oddC at e2
    simp only [b_odd, oddx0, e_cons, e_nil, asg_eq, ret_eq, iff_eq, tas_eq, exp_eq, apd_eq, apx_eq, sst_eq, ins_eq, par_eq, n_var, n_non, n_bl, n_int, n_str, n_glob, n_bin, n_neg, n_cmp, q_lt, q_le, q_gt, q_ge, q_is, q_nis, q_in, q_nin, q_eq, q_ne, Option.map_none, ifM_none, n_chn, n_and, n_or, n_not, n_ite, n_tup, n_lst, n_idx, n_slc, n_call, n_lend, n_lens, n_callk, n_mth, n_mthk, n_fld, n_ixo, n_isc, n_rev, n_fmt, n_fst, n_lc, n_lc2, n_bcl, b_len, b_int, b_all, b_list, b_tuple, b_str, b_min, s_non, s_bl, s_int, s_str, s_lst, s_tup, p_obj, n_isi, n_rep, n_join, denB, denEs, denBs, denO, denI, denF, rdV, rdB, List.getElem?_cons_zero, List.getElem?_cons_succ, List.set_cons_zero, List.set_cons_succ, Res.bind_ok, Res.map_ok, RV.d, ofO_some, FRes.res_ok, thenS_ok, seq_nx, seq_rt, out_rt, out_nx, tstR_bl, if_true, if_false, Bool.false_eq_true, Option.map_some, List.length_cons, List.length_nil, Nat.zero_add, Nat.reduceAdd, noX_ok, t15', e1, colD, Tg.put, setAll]
    simp only [oddx1, e_cons, e_nil, asg_eq, ret_eq, iff_eq, tas_eq, exp_eq, apd_eq, apx_eq, sst_eq, ins_eq, par_eq, n_var, n_non, n_bl, n_int, n_str, n_glob, n_bin, n_neg, n_cmp, q_lt, q_le, q_gt, q_ge, q_is, q_nis, q_in, q_nin, q_eq, q_ne, Option.map_none, ifM_none, n_chn, n_and, n_or, n_not, n_ite, n_tup, n_lst, n_idx, n_slc, n_call, n_lend, n_lens, n_callk, n_mth, n_mthk, n_fld, n_ixo, n_isc, n_rev, n_fmt, n_fst, n_lc, n_lc2, n_bcl, b_len, b_int, b_all, b_list, b_tuple, b_str, b_min, s_non, s_bl, s_int, s_str, s_lst, s_tup, p_obj, n_isi, n_rep, n_join, denB, denEs, denBs, denO, denI, denF, rdV, rdB, List.getElem?_cons_zero, List.getElem?_cons_succ, List.set_cons_zero, List.set_cons_succ, Res.bind_ok, Res.map_ok, RV.d, ofO_some, FRes.res_ok, thenS_ok, seq_nx, seq_rt, out_rt, out_nx, tstR_bl, if_true, if_false, Bool.false_eq_true, Option.map_some, List.length_cons, List.length_nil, Nat.zero_add, Nat.reduceAdd, noX_ok, k1, z0, z1, z2, z3, z4, z12]
    simp only [oddx2, e_cons, e_nil, asg_eq, ret_eq, iff_eq, tas_eq, exp_eq, apd_eq, apx_eq, sst_eq, ins_eq, par_eq, n_var, n_non, n_bl, n_int, n_str, n_glob, n_bin, n_neg, n_cmp, q_lt, q_le, q_gt, q_ge, q_is, q_nis, q_in, q_nin, q_eq, q_ne, Option.map_none, ifM_none, n_chn, n_and, n_or, n_not, n_ite, n_tup, n_lst, n_idx, n_slc, n_call, n_lend, n_lens, n_callk, n_mth, n_mthk, n_fld, n_ixo, n_isc, n_rev, n_fmt, n_fst, n_lc, n_lc2, n_bcl, b_len, b_int, b_all, b_list, b_tuple, b_str, b_min, s_non, s_bl, s_int, s_str, s_lst, s_tup, p_obj, n_isi, n_rep, n_join, denB, denEs, denBs, denO, denI, denF, rdV, rdB, List.getElem?_cons_zero, List.getElem?_cons_succ, List.set_cons_zero, List.set_cons_succ, Res.bind_ok, Res.map_ok, RV.d, ofO_some, FRes.res_ok, thenS_ok, seq_nx, seq_rt, out_rt, out_nx, tstR_bl, if_true, if_false, Bool.false_eq_true, Option.map_some, List.length_cons, List.length_nil, Nat.zero_add, Nat.reduceAdd, noX_ok, hw, k1, z0, z1, z2, z3, z4, z12]
    simp only [oddx3, e_cons, e_nil, asg_eq, ret_eq, iff_eq, tas_eq, exp_eq, apd_eq, apx_eq, sst_eq, ins_eq, par_eq, n_var, n_non, n_bl, n_int, n_str, n_glob, n_bin, n_neg, n_cmp, q_lt, q_le, q_gt, q_ge, q_is, q_nis, q_in, q_nin, q_eq, q_ne, Option.map_none, ifM_none, n_chn, n_and, n_or, n_not, n_ite, n_tup, n_lst, n_idx, n_slc, n_call, n_lend, n_lens, n_callk, n_mth, n_mthk, n_fld, n_ixo, n_isc, n_rev, n_fmt, n_fst, n_lc, n_lc2, n_bcl, b_len, b_int, b_all, b_list, b_tuple, b_str, b_min, s_non, s_bl, s_int, s_str, s_lst, s_tup, p_obj, n_isi, n_rep, n_join, denB, denEs, denBs, denO, denI, denF, rdV, rdB, List.getElem?_cons_zero, List.getElem?_cons_succ, List.set_cons_zero, List.set_cons_succ, Res.bind_ok, Res.map_ok, RV.d, ofO_some, FRes.res_ok, thenS_ok, seq_nx, seq_rt, out_rt, out_nx, tstR_bl, if_true, if_false, Bool.false_eq_true, Option.map_some, List.length_cons, List.length_nil, Nat.zero_add, Nat.reduceAdd, noX_ok, t15', e2]
theorem odd_test (b : Bag) (os : List Ob) {cs : List Col} (hc : ColsOk cs) (h0 : cs ≠ []) {fl : List Nat} (hf : Far cs fl) :
    ∃ x b', oddF [.loc 0, .lst (cs.map colD), .str "test", .str (S8 fl)] ⟨.bag b :: os⟩ = .ok (.fz x) ⟨.bag b' :: os⟩ ∧ fits 4 x ∧ testRowV cs x = false := by
  obtain ⟨i, x, b', hi, e, hx⟩ := odd_run b os hc h0 fl "test" false (by decide +kernel)
  exact ⟨x, b', e, oddT_bad hc hf hi (by simpa using hx)⟩
theorem odd_change (b : Bag) (os : List Ob) {cs : List Col} (hc : ColsOk cs) (h0 : cs ≠ []) {fl : List Nat} (hf : Far cs fl) :
    ∃ x b', oddF [.loc 0, .lst (cs.map colD), .str "change", .str (S8 fl)] ⟨.bag b :: os⟩ = .ok (.fz x) ⟨.bag b' :: os⟩ ∧ fits 4 x ∧ chgRowV cs x = false := by
  obtain ⟨i, x, b', hi, e, hx⟩ := odd_run b os hc h0 fl "change" true (by decide +kernel)
  exact ⟨x, b', e, oddC_bad hc hf hi (by simpa using hx)⟩
end Sh


namespace Sh
open PySem PySem.Spec PyProof.Rows L2
/-- the turn goes on, and I holds -/
def NxI (I : Rho → Mem → Prop) (r : SRes) : Prop := ∃ ρ' S', (r = .nx ρ' S' ∨ r = .ct ρ' S') ∧ I ρ' S'
theorem slT_to (xs : List D) (i : Nat) : opSlc (.tup xs) none (some (i : Int)) = some (.fz (.tup (xs.take i))) := by
  show some (RV.fz (.tup (cutD xs none (some (i : Int))))) = _
  unfold cutD
  rw [HT.sIx_none, HT.sIx_nat, List.drop_zero, Nat.sub_zero]
  congr 3
  exact List.take_eq_take_iff.mpr (by omega)
theorem slT_from (xs : List D) (i : Nat) : opSlc (.tup xs) (some (i : Int)) none = some (.fz (.tup (xs.drop i))) := by
  show some (RV.fz (.tup (cutD xs (some (i : Int)) none))) = _
  unfold cutD
  rw [HT.sIx_none, HT.sIx_nat]
  congr 3
  by_cases h : i ≤ xs.length
  · rw [Nat.min_eq_left h, List.take_of_length_le]
    simp
  · rw [Nat.min_eq_right (by omega), List.drop_of_length_le (Nat.le_refl _), List.drop_of_length_le (by omega), List.take_nil]
theorem catT {xs ys : List D} (h : xs.length + ys.length ≤ 1000) : opBin .Add (.tup xs) (.tup ys) = some (.fz (.tup (xs ++ ys))) := by
  show (if _ then _ else _) = _
  rw [if_pos (le_line h)]
theorem catL {xs ys : List D} (h : xs.length + ys.length ≤ 1000) : opBin .Add (.lst xs) (.lst ys) = some (.own (xs ++ ys)) := by
  show (if _ then _ else _) = _
  rw [if_pos (le_line h)]
theorem add1 (i : Nat) : opBin .Add (.int (i : Nat)) (.int 1) = some (.fz (.int ((i + 1 : Nat) : Int))) := rfl
/-- the columns of the drawn names and sizes, made by a comprehension -/
theorem cols_lc {T : Tab} {S : Mem} {ρ : Rho} {k : Nat} {stem : List Nat} {a f m : Nat} {ns : List Nat} {R2 R4 : RV} (h2 : ρ[2]? = some (some R2)) (e2 : R2.d = .lst (nmsD stem a f m)) (h4 : ρ[4]? = some (some R4)) (e4 : R4.d = .lst (ns.map natD)) (hk : 4 < k) (hl : k < ρ.length) (hn : noOwn ρ [k] = true) (hm : ns.length ≤ m) (h3 : ns.length ≤ 1000) :
    lcRun [k] (lcBody T .nil (.tup (.cons (.idx (.var 2) (.var k)) (.cons (.idx (.var 4) (.var k)) .nil))) (.name k)) ρ (rngD ns.length) S = .ok (.own ((csOf stem a f ns).map colD)) ρ S := by
  rw [lc_pure (ρ := ρ) (S := S) (vs := [k]) (ds := rngD ns.length) (fun d => match d with | .int i => .tup [.str (S8 (nameAt stem a f i.toNat)), natD (ns.getD i.toNat 0)] | _ => .non) hn (by rw [rng_len]; exact le_line h3) fun d hd => ?_]
  · congr 2
    unfold rngD csOf
    rw [List.map_map, List.map_map]
    rfl
  · unfold rngD at hd
    rw [List.mem_map] at hd
    obtain ⟨i, hi, rfl⟩ := hd
    rw [List.mem_range] at hi
    refine ⟨(wipeE ρ [k]).set k (some (.fz (.int (i : Nat)))), ?_, ?_⟩
    · have k1 := nms_at stem a f (k := i) (m := m) (by omega)
      have k2 := sizes_at ns hi
      have z : (2 : Nat) ≤ LINE := by decide
      have g2 : ((wipeE ρ [k]).set k (some (.fz (.int (i : Nat)))))[2]? = some (some R2) := by
        rw [List.getElem?_set_ne (by omega), wipe_get ρ (by simp; omega), h2]
      have g4 : ((wipeE ρ [k]).set k (some (.fz (.int (i : Nat)))))[4]? = some (some R4) := by
        rw [List.getElem?_set_ne (by omega), wipe_get ρ (by simp; omega), h4]
      have gk : ((wipeE ρ [k]).set k (some (.fz (.int (i : Nat)))))[k]? = some (some (.fz (.int (i : Nat)))) := by
        rw [List.getElem?_set_self (by rw [wipe_len]; exact hl)]
      have e2' : R2 = .fz (.lst (nmsD stem a f m)) ∨ R2 = .own (nmsD stem a f m) := by
        cases R2 with
        | fz d => exact .inl (by rw [show d = _ from e2])
        | own ds => exact .inr (by rw [D.lst.inj e2])
      have e4' : R4 = .fz (.lst (ns.map natD)) ∨ R4 = .own (ns.map natD) := by
        cases R4 with
        | fz d => exact .inl (by rw [show d = _ from e4])
        | own ds => exact .inr (by rw [D.lst.inj e4])
      rcases e2' with rfl | rfl <;> rcases e4' with rfl | rfl <;> (simp only [lcBody, Tg.put, denC, e_cons, e_nil, asg_eq, ret_eq, iff_eq, tas_eq, exp_eq, apd_eq, apx_eq, sst_eq, ins_eq, par_eq, n_var, n_non, n_bl, n_int, n_str, n_glob, n_bin, n_neg, n_cmp, q_lt, q_le, q_gt, q_ge, q_is, q_nis, q_in, q_nin, q_eq, q_ne, Option.map_none, ifM_none, n_chn, n_and, n_or, n_not, n_ite, n_tup, n_lst, n_idx, n_slc, n_call, n_lend, n_lens, n_callk, n_mth, n_mthk, n_fld, n_ixo, n_isc, n_rev, n_fmt, n_fst, n_lc, n_lc2, n_bcl, b_len, b_int, b_all, b_list, b_tuple, b_str, b_min, s_non, s_bl, s_int, s_str, s_lst, s_tup, p_obj, n_isi, n_rep, n_join, denB, denEs, denBs, denO, denI, denF, rdV, rdB, List.getElem?_cons_zero, List.getElem?_cons_succ, List.set_cons_zero, List.set_cons_succ, Res.bind_ok, Res.map_ok, RV.d, ofO_some, FRes.res_ok, thenS_ok, seq_nx, seq_rt, out_rt, out_nx, tstR_bl, if_true, if_false, Bool.false_eq_true, Option.map_some, List.length_cons, List.length_nil, Nat.zero_add, Nat.reduceAdd, noX_ok, g2, gk, k1, g4, k2, z]; rfl)
    · show ((wipeE ρ [k]).set k (some (.fz (.int (i : Nat))))).set k none = _
      rw [List.set_set]
      show ((ρ.set k none).set k none) = ρ.set k none
      rw [List.set_set]
def sizes7 : List (List Nat) := [[2], [3], [2, 2], [4], [2, 3], [2, 2, 2], [3, 4]]
theorem sizes7_ok : ∀ ns ∈ sizes7, ns ≠ [] ∧ ns.length ≤ 3 ∧ (∀ n ∈ ns, 2 ≤ n ∧ n ≤ 4) ∧ prodN ns ≤ 12 := by decide
theorem fits_look (k : Nat) (vs : List Int) (h : vs.length ≤ 1000) : fits (k + 2) (lookD vs) := ⟨le_line (by rw [List.length_map]; exact h), fun x hx => by
  rw [List.mem_map] at hx
  obtain ⟨v, _, rfl⟩ := hx
  exact trivial⟩
theorem fits_testD {cs : List Col} (hc : ColsOk cs) {t : Nat × Int} (ht : t.1 < cs.length) (k : Nat) : fits (k + 2) (testD cs t) := fits_tupc (by simp) ⟨fits_s (hc.ok _ (col_getD ht)).1 k, trivial, trivial⟩
theorem fits_wordD (b : Bool) (k : Nat) : fits (k + 1) (wordD b) := by
  cases b
  · exact fits_c _ (by decide +kernel) _
  · exact fits_c _ (by decide +kernel) _
theorem fits_chgD {cs : List Col} (hc : ColsOk cs) {t : Chg} (ht : t.at_ < cs.length) (k : Nat) : fits (k + 2) (chgD cs t) := fits_tupc (by simp) ⟨fits_s (hc.ok _ (col_getD ht)).1 k, fits_wordD _ k, trivial, trivial⟩
/-- any of eight that are no values -/
def oddV (sz : Nat) : List D := [natD sz, .int (0 - 1), .non, .bl true, .str "0", .int (10 ^ 20), .lst [.int 0], .lst [.non]]
theorem oddV_bad {sz : Nat} (hs : sz ≤ 4) {x : D} (hx : x ∈ oddV sz) : fits 4 x ∧ inSz x sz = false := by
  unfold oddV at hx
  simp only [List.mem_cons, List.not_mem_nil, or_false] at hx
  rcases hx with rfl | rfl | rfl | rfl | rfl | rfl | rfl | rfl
  · exact ⟨trivial, by simp [inSz, natD]⟩
  · exact ⟨trivial, by simp [inSz]⟩
  · exact ⟨trivial, rfl⟩
  · exact ⟨trivial, rfl⟩
  · exact ⟨fits_c _ (by decide +kernel) _, rfl⟩
  · refine ⟨trivial, ?_⟩
    have q : ¬ ((10 : Int) ^ 20 < (sz : Nat)) := by omega
    unfold inSz
    dsimp only
    rw [decide_eq_false q, Bool.and_false]
  · exact ⟨fits_lstc (by simp) ⟨trivial, trivial⟩, rfl⟩
  · exact ⟨fits_lstc (by simp) ⟨trivial, trivial⟩, rfl⟩
theorem looks_lc {S : Mem} {ρ : Rho} {cs : List Col} (hc : ColsOk cs) (h12 : ρ[12]? = some (some (.fz (colO cs)))) (hl : 17 < ρ.length) (hn : noOwn ρ [17] = true) {ds : List D} (hd1 : ds.length ≤ 1000) (hd : ∀ d ∈ ds, fits 20 d ∧ isLookV cs d = false) :
    lcRun [17] (lcBody TL .nil (.mth (.var 12) "is_look" (.cons (.var 17) .nil)) (.name 17)) ρ ds S = .ok (.own (ds.map fun _ => .bl false)) ρ S := by
  refine lc_pure (fun _ => .bl false) hn (le_line hd1) fun d hdm => ⟨(wipeE ρ [17]).set 17 (some (.fz d)), ?_, ?_⟩
  · have g12 : ((wipeE ρ [17]).set 17 (some (.fz d)))[12]? = some (some (.fz (colO cs))) := by
      rw [List.getElem?_set_ne (by omega), wipe_get ρ (by simp), h12]
    have g17 : ((wipeE ρ [17]).set 17 (some (.fz d)))[17]? = some (some (.fz d)) := by
      rw [List.getElem?_set_self (by rw [wipe_len]; exact hl)]
    have m1 := m_look cs S
    have q := look_m hc (hd d hdm).1 S
    rw [(hd d hdm).2] at q
    simp only [lcBody, Tg.put, denC, e_cons, e_nil, asg_eq, ret_eq, iff_eq, tas_eq, exp_eq, apd_eq, apx_eq, sst_eq, ins_eq, par_eq, n_var, n_non, n_bl, n_int, n_str, n_glob, n_bin, n_neg, n_cmp, q_lt, q_le, q_gt, q_ge, q_is, q_nis, q_in, q_nin, q_eq, q_ne, Option.map_none, ifM_none, n_chn, n_and, n_or, n_not, n_ite, n_tup, n_lst, n_idx, n_slc, n_call, n_lend, n_lens, n_callk, n_mth, n_mthk, n_fld, n_ixo, n_isc, n_rev, n_fmt, n_fst, n_lc, n_lc2, n_bcl, b_len, b_int, b_all, b_list, b_tuple, b_str, b_min, s_non, s_bl, s_int, s_str, s_lst, s_tup, p_obj, n_isi, n_rep, n_join, denB, denEs, denBs, denO, denI, denF, rdV, rdB, List.getElem?_cons_zero, List.getElem?_cons_succ, List.set_cons_zero, List.set_cons_succ, Res.bind_ok, Res.map_ok, RV.d, ofO_some, FRes.res_ok, thenS_ok, seq_nx, seq_rt, out_rt, out_nx, tstR_bl, if_true, if_false, Bool.false_eq_true, Option.map_some, List.length_cons, List.length_nil, Nat.zero_add, Nat.reduceAdd, noX_ok, g12, m1, g17, q]
  · show ((wipeE ρ [17]).set 17 (some (.fz d))).set 17 none = _
    rw [List.set_set]
    show ((ρ.set 17 none).set 17 none) = ρ.set 17 none
    rw [List.set_set]
/-- what stands between the turns -/
def LawI (r0 : Option RV) (nm : List D) (ρ : Rho) (S : Mem) : Prop := ∃ (b : Bag) (os : List Ob) (r3 r4 r5 r6 r7 r8 r9 r10 r11 r12 r13 r14 r15 : Option RV), ρ = [r0, some (.fz (.loc 0)), some (.own nm), r3, r4, r5, r6, r7, r8, r9, r10, r11, r12, r13, r14, r15, none, none] ∧ S = ⟨.bag b :: os⟩
theorem turn {stem : List Nat} {a f : Nat} (hst : Lower stem) (hsl : stem.length ≤ 5) (hf : f < 26) (b : Bag) (os : List Ob) (r0 r3 r4 r5 r6 r7 r8 r9 r10 r11 r12 r13 r14 r15 : Option RV) :
    NxI (LawI r0 (nmsD stem a f 4)) (denSs TL x2b [r0, some (.fz (.loc 0)), some (.own (nmsD stem a f 4)), r3, r4, r5, r6, r7, r8, r9, r10, r11, r12, r13, r14, r15, none, none] ⟨.bag b :: os⟩) := by
  have z0 : (0 : Nat) ≤ LINE := Nat.zero_le _
  have z1 : (1 : Nat) ≤ LINE := by decide
  have z2 : (2 : Nat) ≤ LINE := by decide
  have z3 : (3 : Nat) ≤ LINE := by decide
  have z4 : (4 : Nat) ≤ LINE := by decide
  have z5 : (5 : Nat) ≤ LINE := by decide
  have z6 : (6 : Nat) ≤ LINE := by decide
  have z7 : (7 : Nat) ≤ LINE := by decide
  have z8 : (8 : Nat) ≤ LINE := by decide
  -- the sizes
  obtain ⟨x, b1, e1, hx⟩ := any_lst (T := TP) (p := 14) rfl b os (sizes7.map fun ns => .lst (ns.map natD)) (by simp [sizes7]) (by simp [sizes7])
  rw [List.mem_map] at hx
  obtain ⟨ns, hns, rfl⟩ := hx
  obtain ⟨n0, n1, n2, n3⟩ := sizes7_ok ns hns
  have e1 : anyF TP 14 [.loc 0, .lst [.lst [.int 2], .lst [.int 3], .lst [.int 2, .int 2], .lst [.int 4], .lst [.int 2, .int 3], .lst [.int 2, .int 2, .int 2], .lst [.int 3, .int 4]]] ⟨.bag b :: os⟩ = .ok (.fz (.lst (ns.map natD))) ⟨.bag b1 :: os⟩ := e1
  unfold x2b
  simp only [x2_0, e_cons, e_nil, asg_eq, ret_eq, iff_eq, tas_eq, exp_eq, apd_eq, apx_eq, sst_eq, ins_eq, par_eq, n_var, n_non, n_bl, n_int, n_str, n_glob, n_bin, n_neg, n_cmp, q_lt, q_le, q_gt, q_ge, q_is, q_nis, q_in, q_nin, q_eq, q_ne, Option.map_none, ifM_none, n_chn, n_and, n_or, n_not, n_ite, n_tup, n_lst, n_idx, n_slc, n_call, n_lend, n_lens, n_callk, n_mth, n_mthk, n_fld, n_ixo, n_isc, n_rev, n_fmt, n_fst, n_lc, n_lc2, n_bcl, b_len, b_int, b_all, b_list, b_tuple, b_str, b_min, s_non, s_bl, s_int, s_str, s_lst, s_tup, p_obj, n_isi, n_rep, n_join, denB, denEs, denBs, denO, denI, denF, rdV, rdB, List.getElem?_cons_zero, List.getElem?_cons_succ, List.set_cons_zero, List.set_cons_succ, Res.bind_ok, Res.map_ok, RV.d, ofO_some, FRes.res_ok, thenS_ok, seq_nx, seq_rt, out_rt, out_nx, tstR_bl, if_true, if_false, Bool.false_eq_true, Option.map_some, List.length_cons, List.length_nil, Nat.zero_add, Nat.reduceAdd, noX_ok, t15, e1, z1, z2, z3, z7]
  -- the columns
  have hc : ColsOk (csOf stem a f ns) := csOf_ok hst hsl n1 n2 n3
  have hlen := hc.len
  have k2 : opBcl .len [.lst (ns.map natD)] = some (.fz (.int (ns.length : Nat))) := by show some (RV.fz (.int ((ns.map natD).length : Nat))) = _; rw [List.length_map]
  have k3 : opRng (.int (ns.length : Nat)) = some (rngD ns.length) := rng_ok (by omega) (by omega)
  simp only [x2_1, e_cons, e_nil, asg_eq, ret_eq, iff_eq, tas_eq, exp_eq, apd_eq, apx_eq, sst_eq, ins_eq, par_eq, n_var, n_non, n_bl, n_int, n_str, n_glob, n_bin, n_neg, n_cmp, q_lt, q_le, q_gt, q_ge, q_is, q_nis, q_in, q_nin, q_eq, q_ne, Option.map_none, ifM_none, n_chn, n_and, n_or, n_not, n_ite, n_tup, n_lst, n_idx, n_slc, n_call, n_lend, n_lens, n_callk, n_mth, n_mthk, n_fld, n_ixo, n_isc, n_rev, n_fmt, n_fst, n_lc, n_lc2, n_bcl, b_len, b_int, b_all, b_list, b_tuple, b_str, b_min, s_non, s_bl, s_int, s_str, s_lst, s_tup, p_obj, n_isi, n_rep, n_join, denB, denEs, denBs, denO, denI, denF, rdV, rdB, List.getElem?_cons_zero, List.getElem?_cons_succ, List.set_cons_zero, List.set_cons_succ, Res.bind_ok, Res.map_ok, RV.d, ofO_some, FRes.res_ok, thenS_ok, seq_nx, seq_rt, out_rt, out_nx, tstR_bl, if_true, if_false, Bool.false_eq_true, Option.map_some, List.length_cons, List.length_nil, Nat.zero_add, Nat.reduceAdd, noX_ok, k2, k3]
  rw [cols_lc (stem := stem) (a := a) (f := f) (m := 4) (ns := ns) rfl rfl rfl rfl (by decide) (by show 16 < 18; decide) rfl (by omega) (by omega)]
  simp only [e_cons, e_nil, asg_eq, ret_eq, iff_eq, tas_eq, exp_eq, apd_eq, apx_eq, sst_eq, ins_eq, par_eq, n_var, n_non, n_bl, n_int, n_str, n_glob, n_bin, n_neg, n_cmp, q_lt, q_le, q_gt, q_ge, q_is, q_nis, q_in, q_nin, q_eq, q_ne, Option.map_none, ifM_none, n_chn, n_and, n_or, n_not, n_ite, n_tup, n_lst, n_idx, n_slc, n_call, n_lend, n_lens, n_callk, n_mth, n_mthk, n_fld, n_ixo, n_isc, n_rev, n_fmt, n_fst, n_lc, n_lc2, n_bcl, b_len, b_int, b_all, b_list, b_tuple, b_str, b_min, s_non, s_bl, s_int, s_str, s_lst, s_tup, p_obj, n_isi, n_rep, n_join, denB, denEs, denBs, denO, denI, denF, rdV, rdB, List.getElem?_cons_zero, List.getElem?_cons_succ, List.set_cons_zero, List.set_cons_succ, Res.bind_ok, Res.map_ok, RV.d, ofO_some, FRes.res_ok, thenS_ok, seq_nx, seq_rt, out_rt, out_nx, tstR_bl, if_true, if_false, Bool.false_eq_true, Option.map_some, List.length_cons, List.length_nil, Nat.zero_add, Nat.reduceAdd, noX_ok]
  have hne : csOf stem a f ns ≠ [] := fun e => by
    have := csOf_len stem a f ns
    rw [e] at this
    exact n0 (List.eq_nil_of_length_eq_zero this.symm)
  have hcl : ns.length = (csOf stem a f ns).length := (csOf_len stem a f ns).symm
  have hsz : ∀ i, i < ns.length → ns.getD i 0 = ((csOf stem a f ns).getD i ([], 0)).2 := fun i hi => by
    unfold csOf
    rw [List.getD_eq_getElem?_getD (l := List.map _ _), List.getElem?_map, List.getElem?_range hi]
    rfl
  have hfar : Far (csOf stem a f ns) (nameAt stem a f 3) := ⟨nameAt_lower hst a f 3, fun c hc' => by
    unfold csOf at hc'
    rw [List.mem_map] at hc'
    obtain ⟨k, hk, rfl⟩ := hc'
    rw [List.mem_range] at hk
    exact fun e => by
      have := nameAt_inj (by omega) (by omega) e
      omega⟩
  have k13 : opIdx (.lst (ns.map natD)) = fun d => opIdx (.lst (ns.map natD)) d := rfl
  have hsize : ∀ i, i < ns.length → ns.getD i 0 ≤ 4 := fun i hi => by
    have : ns.getD i 0 ∈ ns := by
      rw [List.getD_eq_getElem?_getD, List.getElem?_eq_getElem hi]
      exact List.getElem_mem hi
    exact (n2 _ this).2
  generalize hcs : csOf stem a f ns = cs at hc hlen hne hcl hsz hfar ⊢
  -- the object, a look
  have e2 := cols_lst initT hc (.bag b1 :: os)
  obtain ⟨vs, b2, e3, hv⟩ := look_ex2 (T := TP) (p := 14) rfl b1 (os ++ [.dead]) hc
  simp only [x2_2, LEs.len, e_cons, e_nil, asg_eq, ret_eq, iff_eq, tas_eq, exp_eq, apd_eq, apx_eq, sst_eq, ins_eq, par_eq, n_var, n_non, n_bl, n_int, n_str, n_glob, n_bin, n_neg, n_cmp, q_lt, q_le, q_gt, q_ge, q_is, q_nis, q_in, q_nin, q_eq, q_ne, Option.map_none, ifM_none, n_chn, n_and, n_or, n_not, n_ite, n_tup, n_lst, n_idx, n_slc, n_call, n_lend, n_lens, n_callk, n_mth, n_mthk, n_fld, n_ixo, n_isc, n_rev, n_fmt, n_fst, n_lc, n_lc2, n_bcl, b_len, b_int, b_all, b_list, b_tuple, b_str, b_min, s_non, s_bl, s_int, s_str, s_lst, s_tup, p_obj, n_isi, n_rep, n_join, denB, denEs, denBs, denO, denI, denF, rdV, rdB, List.getElem?_cons_zero, List.getElem?_cons_succ, List.set_cons_zero, List.set_cons_succ, Res.bind_ok, Res.map_ok, RV.d, ofO_some, FRes.res_ok, thenS_ok, seq_nx, seq_rt, out_rt, out_nx, tstR_bl, if_true, if_false, Bool.false_eq_true, Option.map_some, List.length_cons, List.length_nil, Nat.zero_add, Nat.reduceAdd, noX_ok, t12, tn1, e2, List.cons_append, t21, e3, z2, Tg.put, setAll]
  -- tests, changes
  obtain ⟨ts, b3, e4, ht⟩ := tests_ex2 (T := TX) (p := 14) (m := 16) (Tm := TP) rfl rfl rfl b2 (os ++ [.dead]) hc 2 (by decide) (by decide)
  obtain ⟨hs, b4, e5, hh⟩ := changes_ex2 (T := TY) (p := 14) (a := 15) (m := 16) (Tm := TP) (Ta := TP) rfl rfl rfl rfl rfl b3 (os ++ [.dead]) hc 2 (by decide) (by decide)
  have e4 : testsF TX 14 16 [.loc 0, .lst (cs.map colD), .int 2] ⟨.bag b2 :: (os ++ [.dead])⟩ = .ok (.fz (.tup (ts.map (testD cs)))) ⟨.bag b3 :: (os ++ [.dead])⟩ := e4
  have e5 : changesF TY 14 15 16 [.loc 0, .lst (cs.map colD), .int 2] ⟨.bag b3 :: (os ++ [.dead])⟩ = .ok (.fz (.tup (hs.map (chgD cs)))) ⟨.bag b4 :: (os ++ [.dead])⟩ := e5
  simp only [x2_3, e_cons, e_nil, asg_eq, ret_eq, iff_eq, tas_eq, exp_eq, apd_eq, apx_eq, sst_eq, ins_eq, par_eq, n_var, n_non, n_bl, n_int, n_str, n_glob, n_bin, n_neg, n_cmp, q_lt, q_le, q_gt, q_ge, q_is, q_nis, q_in, q_nin, q_eq, q_ne, Option.map_none, ifM_none, n_chn, n_and, n_or, n_not, n_ite, n_tup, n_lst, n_idx, n_slc, n_call, n_lend, n_lens, n_callk, n_mth, n_mthk, n_fld, n_ixo, n_isc, n_rev, n_fmt, n_fst, n_lc, n_lc2, n_bcl, b_len, b_int, b_all, b_list, b_tuple, b_str, b_min, s_non, s_bl, s_int, s_str, s_lst, s_tup, p_obj, n_isi, n_rep, n_join, denB, denEs, denBs, denO, denI, denF, rdV, rdB, List.getElem?_cons_zero, List.getElem?_cons_succ, List.set_cons_zero, List.set_cons_succ, Res.bind_ok, Res.map_ok, RV.d, ofO_some, FRes.res_ok, thenS_ok, seq_nx, seq_rt, out_rt, out_nx, tstR_bl, if_true, if_false, Bool.false_eq_true, Option.map_some, List.length_cons, List.length_nil, Nat.zero_add, Nat.reduceAdd, noX_ok, t19, t20, e4, e5]
  have tl := ht.len
  have hl := hh.len
  have vl := hv.len
  have flk : fits 20 (lookD vs) := fits_look 18 vs (by omega)
  have ftD : ∀ d ∈ ts.map (testD cs), fits 19 d := fun d hd => by
    rw [List.mem_map] at hd
    obtain ⟨t, ht', rfl⟩ := hd
    exact fits_testD hc (ht.val t ht').1 17
  have fhD : ∀ d ∈ hs.map (chgD cs), fits 19 d := fun d hd => by
    rw [List.mem_map] at hd
    obtain ⟨t, ht', rfl⟩ := hd
    exact fits_chgD hc (hh.val t ht').1 17
  have ltD : (ts.map (testD cs)).length ≤ 3 := by rw [List.length_map]; omega
  have lhD : (hs.map (chgD cs)).length ≤ 3 := by rw [List.length_map]; omega
  have lvD : (vs.map D.int).length ≤ 3 := by rw [List.length_map]; omega
  have fts : fits 20 (.tup (ts.map (testD cs))) := fits_tup (by omega) ftD
  have fhs : fits 20 (.tup (hs.map (chgD cs))) := fits_tup (by omega) fhD
  have small : ∀ {ys : List D}, ys.length ≤ 1000 → ∀ xs, D.tup ys = .tup xs → xs.length ≤ 1000 := fun h xs e => by cases e; exact h
  have nosm : ∀ {d : D}, (∀ xs, d ≠ .tup xs) → ∀ xs, d = .tup xs → xs.length ≤ 1000 := fun h xs e => (h xs e).elim
  -- right ones
  have m1 := fun S => m_look cs S
  have m2 := fun S => m_tests cs S
  have m3 := fun S => m_changes cs S
  have m4 := fun S => m_changesK cs S
  have q1 : ∀ S, lookM [colO cs, lookD vs] S = .ok (.fz (.bl true)) S := fun S => by rw [look_m hc flk, look_right hv]
  have q2 : ∀ S, testsM [colO cs, .tup (ts.map (testD cs))] S = .ok (.fz (.bl true)) S := fun S => by rw [tests_m hc fts (small (by omega)), tests_right hc ht]
  have q3 : ∀ S, changesM [colO cs, .tup (hs.map (chgD cs))] S = .ok (.fz (.bl true)) S := fun S => by rw [changes_m hc fhs (small (by omega)), chgs_right hc hh]
  have q4 : ∀ S, testsM [colO cs, .tup []] S = .ok (.fz (.bl true)) S := fun S => by
    rw [tests_m hc (fits_tup (by simp) (by simp)) (small (by simp))]
    rfl
  have q5 : ∀ S, changesM [colO cs, .tup []] S = .ok (.fz (.bl true)) S := fun S => by
    rw [changes_m hc (fits_tup (by simp) (by simp)) (small (by simp))]
    rfl
  have p1 : ∀ x : D, pick [0] [x] = some [x] := fun _ => rfl
  simp only [x2_4, e_cons, e_nil, asg_eq, ret_eq, iff_eq, tas_eq, exp_eq, apd_eq, apx_eq, sst_eq, ins_eq, par_eq, n_var, n_non, n_bl, n_int, n_str, n_glob, n_bin, n_neg, n_cmp, q_lt, q_le, q_gt, q_ge, q_is, q_nis, q_in, q_nin, q_eq, q_ne, Option.map_none, ifM_none, n_chn, n_and, n_or, n_not, n_ite, n_tup, n_lst, n_idx, n_slc, n_call, n_lend, n_lens, n_callk, n_mth, n_mthk, n_fld, n_ixo, n_isc, n_rev, n_fmt, n_fst, n_lc, n_lc2, n_bcl, b_len, b_int, b_all, b_list, b_tuple, b_str, b_min, s_non, s_bl, s_int, s_str, s_lst, s_tup, p_obj, n_isi, n_rep, n_join, denB, denEs, denBs, denO, denI, denF, rdV, rdB, List.getElem?_cons_zero, List.getElem?_cons_succ, List.set_cons_zero, List.set_cons_succ, Res.bind_ok, Res.map_ok, RV.d, ofO_some, FRes.res_ok, thenS_ok, seq_nx, seq_rt, out_rt, out_nx, tstR_bl, if_true, if_false, Bool.false_eq_true, Option.map_some, List.length_cons, List.length_nil, Nat.zero_add, Nat.reduceAdd, noX_ok, m1, m2, m3, m4, q1, q2, q3, q4, q5, p1, List.nil_append, and_self, z0, z5]
  have r1 : opRep [.bl true] (.int 5) = some (.own [.bl true, .bl true, .bl true, .bl true, .bl true]) := rfl
  have l1 : ∀ S, likeF 17 4 [.lst [.bl true, .bl true, .bl true, .bl true, .bl true], .lst [.bl true, .bl true, .bl true, .bl true, .bl true]] S = .ok (.fz (.bl true)) S := fun S => like_bls 17 S 2 [true, true, true, true, true] (by simp)
  simp only [x2_5, e_cons, e_nil, asg_eq, ret_eq, iff_eq, tas_eq, exp_eq, apd_eq, apx_eq, sst_eq, ins_eq, par_eq, n_var, n_non, n_bl, n_int, n_str, n_glob, n_bin, n_neg, n_cmp, q_lt, q_le, q_gt, q_ge, q_is, q_nis, q_in, q_nin, q_eq, q_ne, Option.map_none, ifM_none, n_chn, n_and, n_or, n_not, n_ite, n_tup, n_lst, n_idx, n_slc, n_call, n_lend, n_lens, n_callk, n_mth, n_mthk, n_fld, n_ixo, n_isc, n_rev, n_fmt, n_fst, n_lc, n_lc2, n_bcl, b_len, b_int, b_all, b_list, b_tuple, b_str, b_min, s_non, s_bl, s_int, s_str, s_lst, s_tup, p_obj, n_isi, n_rep, n_join, denB, denEs, denBs, denO, denI, denF, rdV, rdB, List.getElem?_cons_zero, List.getElem?_cons_succ, List.set_cons_zero, List.set_cons_succ, Res.bind_ok, Res.map_ok, RV.d, ofO_some, FRes.res_ok, thenS_ok, seq_nx, seq_rt, out_rt, out_nx, tstR_bl, if_true, if_false, Bool.false_eq_true, Option.map_some, List.length_cons, List.length_nil, Nat.zero_add, Nat.reduceAdd, noX_ok, t17, r1, l1, z1, Bool.not_true]
  -- looks with a wrong item
  have k4 : opBcl .len [lookD vs] = some (.fz (.int (vs.length : Nat))) := by show some (RV.fz (.int ((vs.map D.int).length : Nat))) = _; rw [List.length_map]
  have vpos : 0 < vs.length := by
    rw [vl]
    exact List.length_pos_iff.mpr hne
  obtain ⟨r, b5, e6, g1, g2⟩ := pull_ex b4 (os ++ [.dead]) (k := (vs.length : Nat)) (by omega) (by omega)
  obtain ⟨i, rfl⟩ := Int.eq_ofNat_of_zero_le g1
  have hi : i < vs.length := by have : (i : Int) < vs.length := g2; omega
  simp only [x2_6, e_cons, e_nil, asg_eq, ret_eq, iff_eq, tas_eq, exp_eq, apd_eq, apx_eq, sst_eq, ins_eq, par_eq, n_var, n_non, n_bl, n_int, n_str, n_glob, n_bin, n_neg, n_cmp, q_lt, q_le, q_gt, q_ge, q_is, q_nis, q_in, q_nin, q_eq, q_ne, Option.map_none, ifM_none, n_chn, n_and, n_or, n_not, n_ite, n_tup, n_lst, n_idx, n_slc, n_call, n_lend, n_lens, n_callk, n_mth, n_mthk, n_fld, n_ixo, n_isc, n_rev, n_fmt, n_fst, n_lc, n_lc2, n_bcl, b_len, b_int, b_all, b_list, b_tuple, b_str, b_min, s_non, s_bl, s_int, s_str, s_lst, s_tup, p_obj, n_isi, n_rep, n_join, denB, denEs, denBs, denO, denI, denF, rdV, rdB, List.getElem?_cons_zero, List.getElem?_cons_succ, List.set_cons_zero, List.set_cons_succ, Res.bind_ok, Res.map_ok, RV.d, ofO_some, FRes.res_ok, thenS_ok, seq_nx, seq_rt, out_rt, out_nx, tstR_bl, if_true, if_false, Bool.false_eq_true, Option.map_some, List.length_cons, List.length_nil, Nat.zero_add, Nat.reduceAdd, noX_ok, k4, t14, e6]
  obtain ⟨x, b6, e7, hx⟩ := any_lst (T := TP) (p := 14) rfl b5 (os ++ [.dead]) (oddV (ns.getD i 0)) (by simp [oddV]) (by simp [oddV])
  obtain ⟨fx, bx⟩ := oddV_bad (hsize i (by omega)) hx
  have e7 : anyF TP 14 [.loc 0, .lst [natD (ns.getD i 0), .int (0 - 1), .non, .bl true, .str "0", .int (10 ^ 20), .lst [.int 0], .lst [.non]]] ⟨.bag b5 :: (os ++ [.dead])⟩ = .ok (.fz x) ⟨.bag b6 :: (os ++ [.dead])⟩ := e7
  have k5 := sizes_at ns (k := i) (by omega)
  have k6 : opBin .Pow (.int 10) (.int 20) = some (.fz (.int (10 ^ 20))) := rfl
  have k7 : ∀ a b : Int, opBin .Sub (.int a) (.int b) = some (.fz (.int (a - b))) := fun _ _ => rfl
  have k8 : opSlc (lookD vs) none (some (i : Int)) = some (.fz (.tup ((vs.map D.int).take i))) := slT_to _ _
  have k9 : opSlc (lookD vs) (some ((i + 1 : Nat) : Int)) none = some (.fz (.tup ((vs.map D.int).drop (i + 1)))) := slT_from _ _
  have k10 : opBin .Add (.tup ((vs.map D.int).take i)) (.tup [x]) = some (.fz (.tup ((vs.map D.int).take i ++ [x]))) := catT (by rw [List.length_take, List.length_singleton]; omega)
  have k11 : opBin .Add (.tup ((vs.map D.int).take i ++ [x])) (.tup ((vs.map D.int).drop (i + 1))) = some (.fz (.tup ((vs.map D.int).take i ++ [x] ++ (vs.map D.int).drop (i + 1)))) := catT (by rw [List.length_append, List.length_take, List.length_drop, List.length_singleton]; omega)
  have k12 : opBin .Add (lookD vs) (.tup [.int 0]) = some (.fz (.tup (vs.map D.int ++ [.int 0]))) := catT (by rw [List.length_singleton]; omega)
  have k14 : opSlc (lookD vs) (some (1 : Int)) none = some (.fz (.tup ((vs.map D.int).drop 1))) := slT_from _ 1
  have k15 : opBcl .list [lookD vs] = some (.own (vs.map D.int)) := rfl
  simp only [x2_7, e_cons, e_nil, asg_eq, ret_eq, iff_eq, tas_eq, exp_eq, apd_eq, apx_eq, sst_eq, ins_eq, par_eq, n_var, n_non, n_bl, n_int, n_str, n_glob, n_bin, n_neg, n_cmp, q_lt, q_le, q_gt, q_ge, q_is, q_nis, q_in, q_nin, q_eq, q_ne, Option.map_none, ifM_none, n_chn, n_and, n_or, n_not, n_ite, n_tup, n_lst, n_idx, n_slc, n_call, n_lend, n_lens, n_callk, n_mth, n_mthk, n_fld, n_ixo, n_isc, n_rev, n_fmt, n_fst, n_lc, n_lc2, n_bcl, b_len, b_int, b_all, b_list, b_tuple, b_str, b_min, s_non, s_bl, s_int, s_str, s_lst, s_tup, p_obj, n_isi, n_rep, n_join, denB, denEs, denBs, denO, denI, denF, rdV, rdB, List.getElem?_cons_zero, List.getElem?_cons_succ, List.set_cons_zero, List.set_cons_succ, Res.bind_ok, Res.map_ok, RV.d, ofO_some, FRes.res_ok, thenS_ok, seq_nx, seq_rt, out_rt, out_nx, tstR_bl, if_true, if_false, Bool.false_eq_true, Option.map_some, List.length_cons, List.length_nil, Nat.zero_add, Nat.reduceAdd, noX_ok, k5, k6, k7, k8, k9, add1, e7, k10, k11, k12, k14, k15, t15, z1, z6, z8]
  -- a wrong test
  have k16 : opBcl .len [.tup (ts.map (testD cs))] = some (.fz (.int (ts.length : Nat))) := by show some (RV.fz (.int ((ts.map (testD cs)).length : Nat))) = _; rw [List.length_map]
  obtain ⟨r, b7, e8, g1, g2⟩ := pull_ex b6 (os ++ [.dead]) (k := ((ts.length + 1 : Nat) : Int)) (by omega) (by omega)
  obtain ⟨j, rfl⟩ := Int.eq_ofNat_of_zero_le g1
  simp only [x2_8, e_cons, e_nil, asg_eq, ret_eq, iff_eq, tas_eq, exp_eq, apd_eq, apx_eq, sst_eq, ins_eq, par_eq, n_var, n_non, n_bl, n_int, n_str, n_glob, n_bin, n_neg, n_cmp, q_lt, q_le, q_gt, q_ge, q_is, q_nis, q_in, q_nin, q_eq, q_ne, Option.map_none, ifM_none, n_chn, n_and, n_or, n_not, n_ite, n_tup, n_lst, n_idx, n_slc, n_call, n_lend, n_lens, n_callk, n_mth, n_mthk, n_fld, n_ixo, n_isc, n_rev, n_fmt, n_fst, n_lc, n_lc2, n_bcl, b_len, b_int, b_all, b_list, b_tuple, b_str, b_min, s_non, s_bl, s_int, s_str, s_lst, s_tup, p_obj, n_isi, n_rep, n_join, denB, denEs, denBs, denO, denI, denF, rdV, rdB, List.getElem?_cons_zero, List.getElem?_cons_succ, List.set_cons_zero, List.set_cons_succ, Res.bind_ok, Res.map_ok, RV.d, ofO_some, FRes.res_ok, thenS_ok, seq_nx, seq_rt, out_rt, out_nx, tstR_bl, if_true, if_false, Bool.false_eq_true, Option.map_some, List.length_cons, List.length_nil, Nat.zero_add, Nat.reduceAdd, noX_ok, k16, add1, t14, e8]
  obtain ⟨y, b8, e9, fy, hy⟩ := odd_test b7 (os ++ [.dead]) hc hne hfar
  have k17 : opIdx (.lst (nmsD stem a f 4)) (.int 3) = some (.fz (.str (S8 (nameAt stem a f 3)))) := nms_at stem a f (k := 3) (m := 4) (by decide)
  have k18 : opSlc (.tup (ts.map (testD cs))) none (some (j : Int)) = some (.fz (.tup ((ts.map (testD cs)).take j))) := slT_to _ _
  have k19 : opSlc (.tup (ts.map (testD cs))) (some (j : Int)) none = some (.fz (.tup ((ts.map (testD cs)).drop j))) := slT_from _ _
  have k20 : opBin .Add (.tup ((ts.map (testD cs)).take j)) (.tup [y]) = some (.fz (.tup ((ts.map (testD cs)).take j ++ [y]))) := catT (by rw [List.length_take, List.length_singleton]; omega)
  have k21 : opBin .Add (.tup ((ts.map (testD cs)).take j ++ [y])) (.tup ((ts.map (testD cs)).drop j)) = some (.fz (.tup ((ts.map (testD cs)).take j ++ [y] ++ (ts.map (testD cs)).drop j))) := catT (by rw [List.length_append, List.length_take, List.length_drop, List.length_singleton]; omega)
  simp only [x2_9, e_cons, e_nil, asg_eq, ret_eq, iff_eq, tas_eq, exp_eq, apd_eq, apx_eq, sst_eq, ins_eq, par_eq, n_var, n_non, n_bl, n_int, n_str, n_glob, n_bin, n_neg, n_cmp, q_lt, q_le, q_gt, q_ge, q_is, q_nis, q_in, q_nin, q_eq, q_ne, Option.map_none, ifM_none, n_chn, n_and, n_or, n_not, n_ite, n_tup, n_lst, n_idx, n_slc, n_call, n_lend, n_lens, n_callk, n_mth, n_mthk, n_fld, n_ixo, n_isc, n_rev, n_fmt, n_fst, n_lc, n_lc2, n_bcl, b_len, b_int, b_all, b_list, b_tuple, b_str, b_min, s_non, s_bl, s_int, s_str, s_lst, s_tup, p_obj, n_isi, n_rep, n_join, denB, denEs, denBs, denO, denI, denF, rdV, rdB, List.getElem?_cons_zero, List.getElem?_cons_succ, List.set_cons_zero, List.set_cons_succ, Res.bind_ok, Res.map_ok, RV.d, ofO_some, FRes.res_ok, thenS_ok, seq_nx, seq_rt, out_rt, out_nx, tstR_bl, if_true, if_false, Bool.false_eq_true, Option.map_some, List.length_cons, List.length_nil, Nat.zero_add, Nat.reduceAdd, noX_ok, k17, k18, k19, k20, k21, t22, e9, z1]
  -- a wrong change
  have k22 : opBcl .len [.tup (hs.map (chgD cs))] = some (.fz (.int (hs.length : Nat))) := by show some (RV.fz (.int ((hs.map (chgD cs)).length : Nat))) = _; rw [List.length_map]
  obtain ⟨r, b9, e10, g1, g2⟩ := pull_ex b8 (os ++ [.dead]) (k := ((hs.length + 1 : Nat) : Int)) (by omega) (by omega)
  obtain ⟨l, rfl⟩ := Int.eq_ofNat_of_zero_le g1
  simp only [x2_10, e_cons, e_nil, asg_eq, ret_eq, iff_eq, tas_eq, exp_eq, apd_eq, apx_eq, sst_eq, ins_eq, par_eq, n_var, n_non, n_bl, n_int, n_str, n_glob, n_bin, n_neg, n_cmp, q_lt, q_le, q_gt, q_ge, q_is, q_nis, q_in, q_nin, q_eq, q_ne, Option.map_none, ifM_none, n_chn, n_and, n_or, n_not, n_ite, n_tup, n_lst, n_idx, n_slc, n_call, n_lend, n_lens, n_callk, n_mth, n_mthk, n_fld, n_ixo, n_isc, n_rev, n_fmt, n_fst, n_lc, n_lc2, n_bcl, b_len, b_int, b_all, b_list, b_tuple, b_str, b_min, s_non, s_bl, s_int, s_str, s_lst, s_tup, p_obj, n_isi, n_rep, n_join, denB, denEs, denBs, denO, denI, denF, rdV, rdB, List.getElem?_cons_zero, List.getElem?_cons_succ, List.set_cons_zero, List.set_cons_succ, Res.bind_ok, Res.map_ok, RV.d, ofO_some, FRes.res_ok, thenS_ok, seq_nx, seq_rt, out_rt, out_nx, tstR_bl, if_true, if_false, Bool.false_eq_true, Option.map_some, List.length_cons, List.length_nil, Nat.zero_add, Nat.reduceAdd, noX_ok, k22, add1, t14, e10]
  obtain ⟨w, b10, e11, fw, hw⟩ := odd_change b9 (os ++ [.dead]) hc hne hfar
  have k23 : opSlc (.tup (hs.map (chgD cs))) none (some (l : Int)) = some (.fz (.tup ((hs.map (chgD cs)).take l))) := slT_to _ _
  have k24 : opSlc (.tup (hs.map (chgD cs))) (some (l : Int)) none = some (.fz (.tup ((hs.map (chgD cs)).drop l))) := slT_from _ _
  have k25 : opBin .Add (.tup ((hs.map (chgD cs)).take l)) (.tup [w]) = some (.fz (.tup ((hs.map (chgD cs)).take l ++ [w]))) := catT (by rw [List.length_take, List.length_singleton]; omega)
  have k26 : opBin .Add (.tup ((hs.map (chgD cs)).take l ++ [w])) (.tup ((hs.map (chgD cs)).drop l)) = some (.fz (.tup ((hs.map (chgD cs)).take l ++ [w] ++ (hs.map (chgD cs)).drop l))) := catT (by rw [List.length_append, List.length_take, List.length_drop, List.length_singleton]; omega)
  simp only [x2_11, e_cons, e_nil, asg_eq, ret_eq, iff_eq, tas_eq, exp_eq, apd_eq, apx_eq, sst_eq, ins_eq, par_eq, n_var, n_non, n_bl, n_int, n_str, n_glob, n_bin, n_neg, n_cmp, q_lt, q_le, q_gt, q_ge, q_is, q_nis, q_in, q_nin, q_eq, q_ne, Option.map_none, ifM_none, n_chn, n_and, n_or, n_not, n_ite, n_tup, n_lst, n_idx, n_slc, n_call, n_lend, n_lens, n_callk, n_mth, n_mthk, n_fld, n_ixo, n_isc, n_rev, n_fmt, n_fst, n_lc, n_lc2, n_bcl, b_len, b_int, b_all, b_list, b_tuple, b_str, b_min, s_non, s_bl, s_int, s_str, s_lst, s_tup, p_obj, n_isi, n_rep, n_join, denB, denEs, denBs, denO, denI, denF, rdV, rdB, List.getElem?_cons_zero, List.getElem?_cons_succ, List.set_cons_zero, List.set_cons_succ, Res.bind_ok, Res.map_ok, RV.d, ofO_some, FRes.res_ok, thenS_ok, seq_nx, seq_rt, out_rt, out_nx, tstR_bl, if_true, if_false, Bool.false_eq_true, Option.map_some, List.length_cons, List.length_nil, Nat.zero_add, Nat.reduceAdd, noX_ok, k17, k23, k24, k25, k26, t22, e11, z1]
  -- what they answer
  have k27 : ∀ ds : List D, itemsOf (.lst ds) = some ds := fun _ => rfl
  simp only [x2_12, e_cons, e_nil, asg_eq, ret_eq, iff_eq, tas_eq, exp_eq, apd_eq, apx_eq, sst_eq, ins_eq, par_eq, n_var, n_non, n_bl, n_int, n_str, n_glob, n_bin, n_neg, n_cmp, q_lt, q_le, q_gt, q_ge, q_is, q_nis, q_in, q_nin, q_eq, q_ne, Option.map_none, ifM_none, n_chn, n_and, n_or, n_not, n_ite, n_tup, n_lst, n_idx, n_slc, n_call, n_lend, n_lens, n_callk, n_mth, n_mthk, n_fld, n_ixo, n_isc, n_rev, n_fmt, n_fst, n_lc, n_lc2, n_bcl, b_len, b_int, b_all, b_list, b_tuple, b_str, b_min, s_non, s_bl, s_int, s_str, s_lst, s_tup, p_obj, n_isi, n_rep, n_join, denB, denEs, denBs, denO, denI, denF, rdV, rdB, List.getElem?_cons_zero, List.getElem?_cons_succ, List.set_cons_zero, List.set_cons_succ, Res.bind_ok, Res.map_ok, RV.d, ofO_some, FRes.res_ok, thenS_ok, seq_nx, seq_rt, out_rt, out_nx, tstR_bl, if_true, if_false, Bool.false_eq_true, Option.map_some, List.length_cons, List.length_nil, Nat.zero_add, Nat.reduceAdd, noX_ok, k27]
  rw [looks_lc hc rfl (by show 17 < 18; decide) rfl (by simp) fun d hd => ?odd]
  case odd =>
    simp only [List.mem_cons, List.not_mem_nil, or_false] at hd
    rcases hd with rfl | rfl | rfl | rfl | rfl | rfl
    · have hg : ((vs.map D.int).take i ++ [x] ++ (vs.map D.int).drop (i + 1))[i]? = some x := by
        have q : ((vs.map D.int).take i).length = i := by rw [List.length_take, List.length_map]; omega
        rw [List.append_assoc, List.getElem?_append_right (by omega), q, Nat.sub_self]
        rfl
      refine ⟨fits_tup (by simp; omega) fun d hd => ?_, look_bad hg (by omega) (by rw [← hsz i (by omega)]; exact bx)⟩
      simp only [List.mem_append, List.mem_singleton] at hd
      rcases hd with (hd | hd) | hd
      · exact flk.2 d (List.mem_of_mem_take hd)
      · rw [hd]; exact fits_le fx (by decide)
      · exact flk.2 d (List.mem_of_mem_drop hd)
    · refine ⟨fits_tup (by simp; omega) fun d hd => ?_, look_len (by simp; omega)⟩
      simp only [List.mem_append, List.mem_singleton] at hd
      rcases hd with hd | hd
      · exact flk.2 d hd
      · rw [hd]; trivial
    · exact ⟨fits_tup (by simp; omega) fun d hd => flk.2 d (List.mem_of_mem_drop hd), look_len (by rw [List.length_drop, List.length_map]; omega)⟩
    · exact ⟨fits_lst (by omega) fun d hd => flk.2 d hd, rfl⟩
    · exact ⟨trivial, rfl⟩
    · exact ⟨trivial, rfl⟩
  have q6 : ∀ S, testsM [colO cs, .tup ((ts.map (testD cs)).take j ++ [y] ++ (ts.map (testD cs)).drop j)] S = .ok (.fz (.bl false)) S := fun S => by
    rw [tests_m hc (fits_tup (by simp; omega) fun d hd => ?_) (small (by simp; omega)), tests_bad (r := y) (by simp) hy]
    simp only [List.mem_append, List.mem_singleton] at hd
    rcases hd with (hd | hd) | hd
    · exact ftD d (List.mem_of_mem_take hd)
    · rw [hd]; exact fits_le fy (by decide)
    · exact ftD d (List.mem_of_mem_drop hd)
  have q7 : ∀ S, changesM [colO cs, .tup ((hs.map (chgD cs)).take l ++ [w] ++ (hs.map (chgD cs)).drop l)] S = .ok (.fz (.bl false)) S := fun S => by
    rw [changes_m hc (fits_tup (by simp; omega) fun d hd => ?_) (small (by simp; omega)), chgs_bad (r := w) (by simp) hw]
    simp only [List.mem_append, List.mem_singleton] at hd
    rcases hd with (hd | hd) | hd
    · exact fhD d (List.mem_of_mem_take hd)
    · rw [hd]; exact fits_le fw (by decide)
    · exact fhD d (List.mem_of_mem_drop hd)
  have q8 : ∀ S, testsM [colO cs, .lst (ts.map (testD cs))] S = .ok (.fz (.bl false)) S := fun S => by
    rw [tests_m hc (fits_lst (by omega) ftD) (nosm fun xs e => by cases e)]
    rfl
  have q9 : ∀ S, changesM [colO cs, .lst (hs.map (chgD cs))] S = .ok (.fz (.bl false)) S := fun S => by
    rw [changes_m hc (fits_lst (by omega) fhD) (nosm fun xs e => by cases e)]
    rfl
  have q10 : ∀ S, testsM [colO cs, .non] S = .ok (.fz (.bl false)) S := fun S => by
    rw [tests_m hc (v := .non) trivial (nosm fun xs e => by cases e)]
    rfl
  have q11 : ∀ S, changesM [colO cs, .int 3] S = .ok (.fz (.bl false)) S := fun S => by
    rw [changes_m hc (v := .int 3) trivial (nosm fun xs e => by cases e)]
    rfl
  have k28 : opBcl .list [.tup (ts.map (testD cs))] = some (.own (ts.map (testD cs))) := rfl
  have k29 : opBcl .list [.tup (hs.map (chgD cs))] = some (.own (hs.map (chgD cs))) := rfl
  simp only [e_cons, e_nil, asg_eq, ret_eq, iff_eq, tas_eq, exp_eq, apd_eq, apx_eq, sst_eq, ins_eq, par_eq, n_var, n_non, n_bl, n_int, n_str, n_glob, n_bin, n_neg, n_cmp, q_lt, q_le, q_gt, q_ge, q_is, q_nis, q_in, q_nin, q_eq, q_ne, Option.map_none, ifM_none, n_chn, n_and, n_or, n_not, n_ite, n_tup, n_lst, n_idx, n_slc, n_call, n_lend, n_lens, n_callk, n_mth, n_mthk, n_fld, n_ixo, n_isc, n_rev, n_fmt, n_fst, n_lc, n_lc2, n_bcl, b_len, b_int, b_all, b_list, b_tuple, b_str, b_min, s_non, s_bl, s_int, s_str, s_lst, s_tup, p_obj, n_isi, n_rep, n_join, denB, denEs, denBs, denO, denI, denF, rdV, rdB, List.getElem?_cons_zero, List.getElem?_cons_succ, List.set_cons_zero, List.set_cons_succ, Res.bind_ok, Res.map_ok, RV.d, ofO_some, FRes.res_ok, thenS_ok, seq_nx, seq_rt, out_rt, out_nx, tstR_bl, if_true, if_false, Bool.false_eq_true, Option.map_some, List.length_cons, List.length_nil, Nat.zero_add, Nat.reduceAdd, noX_ok, m2, m3, m4, q6, q7, q8, q9, q10, q11, k28, k29, p1, List.nil_append, and_self, z6, List.map_cons, List.map_nil]
  rw [catL (by simp)]
  simp only [e_cons, e_nil, asg_eq, ret_eq, iff_eq, tas_eq, exp_eq, apd_eq, apx_eq, sst_eq, ins_eq, par_eq, n_var, n_non, n_bl, n_int, n_str, n_glob, n_bin, n_neg, n_cmp, q_lt, q_le, q_gt, q_ge, q_is, q_nis, q_in, q_nin, q_eq, q_ne, Option.map_none, ifM_none, n_chn, n_and, n_or, n_not, n_ite, n_tup, n_lst, n_idx, n_slc, n_call, n_lend, n_lens, n_callk, n_mth, n_mthk, n_fld, n_ixo, n_isc, n_rev, n_fmt, n_fst, n_lc, n_lc2, n_bcl, b_len, b_int, b_all, b_list, b_tuple, b_str, b_min, s_non, s_bl, s_int, s_str, s_lst, s_tup, p_obj, n_isi, n_rep, n_join, denB, denEs, denBs, denO, denI, denF, rdV, rdB, List.getElem?_cons_zero, List.getElem?_cons_succ, List.set_cons_zero, List.set_cons_succ, Res.bind_ok, Res.map_ok, RV.d, ofO_some, FRes.res_ok, thenS_ok, seq_nx, seq_rt, out_rt, out_nx, tstR_bl, if_true, if_false, Bool.false_eq_true, Option.map_some, List.length_cons, List.length_nil, Nat.zero_add, Nat.reduceAdd, noX_ok, List.cons_append, List.nil_append]
  -- the first column's name
  have hcp : 0 < cs.length := List.length_pos_iff.mpr hne
  have k30 : opIdx (.lst (cs.map colD)) (.int 0) = some (.fz (colD (cs.getD 0 ([], 0)))) := ix_nat (i := 0) (cols_at hcp)
  have k31 : opIdx (colD (cs.getD 0 ([], 0))) (.int 0) = some (.fz (.str (S8 (cs.getD 0 ([], 0)).1))) := tat0 _ _
  simp only [x2_13, e_cons, e_nil, asg_eq, ret_eq, iff_eq, tas_eq, exp_eq, apd_eq, apx_eq, sst_eq, ins_eq, par_eq, n_var, n_non, n_bl, n_int, n_str, n_glob, n_bin, n_neg, n_cmp, q_lt, q_le, q_gt, q_ge, q_is, q_nis, q_in, q_nin, q_eq, q_ne, Option.map_none, ifM_none, n_chn, n_and, n_or, n_not, n_ite, n_tup, n_lst, n_idx, n_slc, n_call, n_lend, n_lens, n_callk, n_mth, n_mthk, n_fld, n_ixo, n_isc, n_rev, n_fmt, n_fst, n_lc, n_lc2, n_bcl, b_len, b_int, b_all, b_list, b_tuple, b_str, b_min, s_non, s_bl, s_int, s_str, s_lst, s_tup, p_obj, n_isi, n_rep, n_join, denB, denEs, denBs, denO, denI, denF, rdV, rdB, List.getElem?_cons_zero, List.getElem?_cons_succ, List.set_cons_zero, List.set_cons_succ, Res.bind_ok, Res.map_ok, RV.d, ofO_some, FRes.res_ok, thenS_ok, seq_nx, seq_rt, out_rt, out_nx, tstR_bl, if_true, if_false, Bool.false_eq_true, Option.map_some, List.length_cons, List.length_nil, Nat.zero_add, Nat.reduceAdd, noX_ok, k30, k31]
  have fn := fits_s (hc.ok _ (col_getD hcp)).1
  have hn0 := hasV_at hc hcp
  have hh0 := headV_at hc hcp
  generalize (cs.getD 0 ([], 0)) = c0 at fn hn0 hh0 k30 k31 ⊢
  have q12 : ∀ S, testsM [colO cs, .tup [.tup [.str (S8 c0.1), .int 0], .tup [.str (S8 c0.1), .int 0]]] S = .ok (.fz (.bl false)) S := fun S => by
    rw [tests_m hc (v := .tup [.tup [.str (S8 c0.1), .int 0], .tup [.str (S8 c0.1), .int 0]]) (fits_tupc (by simp) ⟨fits_tupc (by simp) ⟨fn _, trivial, trivial⟩, fits_tupc (by simp) ⟨fn _, trivial, trivial⟩, trivial⟩) (small (by simp))]
    congr 3
    simp [isTestsV, isPartV, nthD, strsD]
  have f3 : ∀ k, fits (k + 1) (.str "set") := fits_c _ (by decide +kernel)
  have f4 : ∀ k, fits (k + 1) (.str "raise") := fits_c _ (by decide +kernel)
  have q13 : ∀ S, changesM [colO cs, .tup [.tup [.str (S8 c0.1), .str "set", .int 0], .tup [.str (S8 c0.1), .str "raise", .int 1]]] S = .ok (.fz (.bl false)) S := fun S => by
    rw [changes_m hc (v := .tup [.tup [.str (S8 c0.1), .str "set", .int 0], .tup [.str (S8 c0.1), .str "raise", .int 1]]) (fits_tupc (by simp) ⟨fits_tupc (by simp) ⟨fn _, f3 _, trivial, trivial⟩, fits_tupc (by simp) ⟨fn _, f4 _, trivial, trivial⟩, trivial⟩) (small (by simp))]
    congr 3
    simp [isChangesV, isPartV, nthD, strsD]
  simp only [x2_14, e_cons, e_nil, asg_eq, ret_eq, iff_eq, tas_eq, exp_eq, apd_eq, apx_eq, sst_eq, ins_eq, par_eq, n_var, n_non, n_bl, n_int, n_str, n_glob, n_bin, n_neg, n_cmp, q_lt, q_le, q_gt, q_ge, q_is, q_nis, q_in, q_nin, q_eq, q_ne, Option.map_none, ifM_none, n_chn, n_and, n_or, n_not, n_ite, n_tup, n_lst, n_idx, n_slc, n_call, n_lend, n_lens, n_callk, n_mth, n_mthk, n_fld, n_ixo, n_isc, n_rev, n_fmt, n_fst, n_lc, n_lc2, n_bcl, b_len, b_int, b_all, b_list, b_tuple, b_str, b_min, s_non, s_bl, s_int, s_str, s_lst, s_tup, p_obj, n_isi, n_rep, n_join, denB, denEs, denBs, denO, denI, denF, rdV, rdB, List.getElem?_cons_zero, List.getElem?_cons_succ, List.set_cons_zero, List.set_cons_succ, Res.bind_ok, Res.map_ok, RV.d, ofO_some, FRes.res_ok, thenS_ok, seq_nx, seq_rt, out_rt, out_nx, tstR_bl, if_true, if_false, Bool.false_eq_true, Option.map_some, List.length_cons, List.length_nil, Nat.zero_add, Nat.reduceAdd, noX_ok, m2, m3, q12, q13, z2, z3]
  rw [catL (by simp)]
  simp only [e_cons, e_nil, asg_eq, ret_eq, iff_eq, tas_eq, exp_eq, apd_eq, apx_eq, sst_eq, ins_eq, par_eq, n_var, n_non, n_bl, n_int, n_str, n_glob, n_bin, n_neg, n_cmp, q_lt, q_le, q_gt, q_ge, q_is, q_nis, q_in, q_nin, q_eq, q_ne, Option.map_none, ifM_none, n_chn, n_and, n_or, n_not, n_ite, n_tup, n_lst, n_idx, n_slc, n_call, n_lend, n_lens, n_callk, n_mth, n_mthk, n_fld, n_ixo, n_isc, n_rev, n_fmt, n_fst, n_lc, n_lc2, n_bcl, b_len, b_int, b_all, b_list, b_tuple, b_str, b_min, s_non, s_bl, s_int, s_str, s_lst, s_tup, p_obj, n_isi, n_rep, n_join, denB, denEs, denBs, denO, denI, denF, rdV, rdB, List.getElem?_cons_zero, List.getElem?_cons_succ, List.set_cons_zero, List.set_cons_succ, Res.bind_ok, Res.map_ok, RV.d, ofO_some, FRes.res_ok, thenS_ok, seq_nx, seq_rt, out_rt, out_nx, tstR_bl, if_true, if_false, Bool.false_eq_true, Option.map_some, List.length_cons, List.length_nil, Nat.zero_add, Nat.reduceAdd, noX_ok, List.cons_append, List.nil_append]
  have q14 : ∀ S, testsM [colO cs, .tup [.tup [.lst [.str (S8 c0.1)], .int 0]]] S = .ok (.fz (.bl false)) S := fun S => by
    rw [tests_m hc (v := .tup [.tup [.lst [.str (S8 c0.1)], .int 0]]) (fits_tupc (by simp) ⟨fits_tupc (by simp) ⟨fits_lstc (by simp) ⟨fn _, trivial⟩, trivial, trivial⟩, trivial⟩) (small (by simp))]
    congr 3
  have q15 : ∀ S, testsM [colO cs, .tup [.tup [.str (S8 c0.1), .lst [.int 0]]]] S = .ok (.fz (.bl false)) S := fun S => by
    rw [tests_m hc (v := .tup [.tup [.str (S8 c0.1), .lst [.int 0]]]) (fits_tupc (by simp) ⟨fits_tupc (by simp) ⟨fn _, fits_lstc (by simp) ⟨trivial, trivial⟩, trivial⟩, trivial⟩) (small (by simp))]
    congr 3
    refine tests_bad (r := .tup [.str (S8 c0.1), .lst [.int 0]]) (by simp) ?_
    show (true && (headV cs (.str (S8 c0.1)) && hasV cs (.str (S8 c0.1)) (.lst [.int 0]))) = false
    rw [hn0]
    simp [inSz]
  have q16 : ∀ S, changesM [colO cs, .tup [.tup [.str (S8 c0.1), .lst [.str "set"], .int 0]]] S = .ok (.fz (.bl false)) S := fun S => by
    rw [changes_m hc (v := .tup [.tup [.str (S8 c0.1), .lst [.str "set"], .int 0]]) (fits_tupc (by simp) ⟨fits_tupc (by simp) ⟨fn _, fits_lstc (by simp) ⟨f3 _, trivial⟩, trivial, trivial⟩, trivial⟩) (small (by simp))]
    congr 3
    refine chgs_bad (r := .tup [.str (S8 c0.1), .lst [.str "set"], .int 0]) (by simp) ?_
    show (true && (headV cs (.str (S8 c0.1)) && (wordV (.lst [.str "set"]) && _))) = false
    rw [show wordV (.lst [.str "set"]) = false from by decide +kernel]
    simp
  have q17 : ∀ S, changesM [colO cs, .tup [.lst [.str (S8 c0.1), .str "set", .int 0]]] S = .ok (.fz (.bl false)) S := fun S => by
    rw [changes_m hc (v := .tup [.lst [.str (S8 c0.1), .str "set", .int 0]]) (fits_tupc (by simp) ⟨fits_lstc (by simp) ⟨fn _, f3 _, trivial, trivial⟩, trivial⟩) (small (by simp))]
    congr 3
  simp only [x2_15, e_cons, e_nil, asg_eq, ret_eq, iff_eq, tas_eq, exp_eq, apd_eq, apx_eq, sst_eq, ins_eq, par_eq, n_var, n_non, n_bl, n_int, n_str, n_glob, n_bin, n_neg, n_cmp, q_lt, q_le, q_gt, q_ge, q_is, q_nis, q_in, q_nin, q_eq, q_ne, Option.map_none, ifM_none, n_chn, n_and, n_or, n_not, n_ite, n_tup, n_lst, n_idx, n_slc, n_call, n_lend, n_lens, n_callk, n_mth, n_mthk, n_fld, n_ixo, n_isc, n_rev, n_fmt, n_fst, n_lc, n_lc2, n_bcl, b_len, b_int, b_all, b_list, b_tuple, b_str, b_min, s_non, s_bl, s_int, s_str, s_lst, s_tup, p_obj, n_isi, n_rep, n_join, denB, denEs, denBs, denO, denI, denF, rdV, rdB, List.getElem?_cons_zero, List.getElem?_cons_succ, List.set_cons_zero, List.set_cons_succ, Res.bind_ok, Res.map_ok, RV.d, ofO_some, FRes.res_ok, thenS_ok, seq_nx, seq_rt, out_rt, out_nx, tstR_bl, if_true, if_false, Bool.false_eq_true, Option.map_some, List.length_cons, List.length_nil, Nat.zero_add, Nat.reduceAdd, noX_ok, m2, m3, q14, q15, q16, q17, z1, z2, z3, z4]
  rw [catL (by simp)]
  simp only [e_cons, e_nil, asg_eq, ret_eq, iff_eq, tas_eq, exp_eq, apd_eq, apx_eq, sst_eq, ins_eq, par_eq, n_var, n_non, n_bl, n_int, n_str, n_glob, n_bin, n_neg, n_cmp, q_lt, q_le, q_gt, q_ge, q_is, q_nis, q_in, q_nin, q_eq, q_ne, Option.map_none, ifM_none, n_chn, n_and, n_or, n_not, n_ite, n_tup, n_lst, n_idx, n_slc, n_call, n_lend, n_lens, n_callk, n_mth, n_mthk, n_fld, n_ixo, n_isc, n_rev, n_fmt, n_fst, n_lc, n_lc2, n_bcl, b_len, b_int, b_all, b_list, b_tuple, b_str, b_min, s_non, s_bl, s_int, s_str, s_lst, s_tup, p_obj, n_isi, n_rep, n_join, denB, denEs, denBs, denO, denI, denF, rdV, rdB, List.getElem?_cons_zero, List.getElem?_cons_succ, List.set_cons_zero, List.set_cons_succ, Res.bind_ok, Res.map_ok, RV.d, ofO_some, FRes.res_ok, thenS_ok, seq_nx, seq_rt, out_rt, out_nx, tstR_bl, if_true, if_false, Bool.false_eq_true, Option.map_some, List.length_cons, List.length_nil, Nat.zero_add, Nat.reduceAdd, noX_ok, List.cons_append, List.nil_append]
  have r2 : opRep [.bl false] (.int 18) = some (.own [.bl false, .bl false, .bl false, .bl false, .bl false, .bl false, .bl false, .bl false, .bl false, .bl false, .bl false, .bl false, .bl false, .bl false, .bl false, .bl false, .bl false, .bl false]) := rfl
  have l2 : ∀ S, likeF 17 4 [.lst [.bl false, .bl false, .bl false, .bl false, .bl false, .bl false, .bl false, .bl false, .bl false, .bl false, .bl false, .bl false, .bl false, .bl false, .bl false, .bl false, .bl false, .bl false], .lst [.bl false, .bl false, .bl false, .bl false, .bl false, .bl false, .bl false, .bl false, .bl false, .bl false, .bl false, .bl false, .bl false, .bl false, .bl false, .bl false, .bl false, .bl false]] S = .ok (.fz (.bl true)) S := fun S => like_bls 17 S 2 (List.replicate 18 false) (by simp)
  simp only [x2_16, e_cons, e_nil, asg_eq, ret_eq, iff_eq, tas_eq, exp_eq, apd_eq, apx_eq, sst_eq, ins_eq, par_eq, n_var, n_non, n_bl, n_int, n_str, n_glob, n_bin, n_neg, n_cmp, q_lt, q_le, q_gt, q_ge, q_is, q_nis, q_in, q_nin, q_eq, q_ne, Option.map_none, ifM_none, n_chn, n_and, n_or, n_not, n_ite, n_tup, n_lst, n_idx, n_slc, n_call, n_lend, n_lens, n_callk, n_mth, n_mthk, n_fld, n_ixo, n_isc, n_rev, n_fmt, n_fst, n_lc, n_lc2, n_bcl, b_len, b_int, b_all, b_list, b_tuple, b_str, b_min, s_non, s_bl, s_int, s_str, s_lst, s_tup, p_obj, n_isi, n_rep, n_join, denB, denEs, denBs, denO, denI, denF, rdV, rdB, List.getElem?_cons_zero, List.getElem?_cons_succ, List.set_cons_zero, List.set_cons_succ, Res.bind_ok, Res.map_ok, RV.d, ofO_some, FRes.res_ok, thenS_ok, seq_nx, seq_rt, out_rt, out_nx, tstR_bl, if_true, if_false, Bool.false_eq_true, Option.map_some, List.length_cons, List.length_nil, Nat.zero_add, Nat.reduceAdd, noX_ok, t17, r2, l2, z1, Bool.not_true]
  exact ⟨_, _, .inl rfl, b10, os ++ [.dead], _, _, _, _, _, _, _, _, _, _, _, _, _, rfl, rfl⟩
theorem law_true (ns : List Int) (h : ns.length ≤ 63) : ∃ S, denDef TL 1 18 b_law [.lst (ns.map .int)] ⟨[]⟩ = .ok (.fz (.bl true)) S := by
  obtain ⟨b, e0⟩ := draws_ex (ns := ns) (by omega)
  obtain ⟨stem, a, f, b1, e1, hst, hsl, _, hf⟩ := new_ex (T := TP2) (Ta := TP) (p := 14) (a := 15) rfl rfl rfl b [] 4 (by decide)
  have e1 : newF TP2 14 15 [.loc 0, .int 4] ⟨[.bag b]⟩ = .ok (.own (nmsD stem a f 4)) ⟨[.bag b1]⟩ := e1
  have k4 : opRng (.int 4) = some (rngD 4) := rng_ok (i := 4) (by decide) (by decide)
  have fin := for_ex (tg := .name 3) (f := denSs TL x2b) (fun _ => LawI (some (.fz (.lst (ns.map .int)))) (nmsD stem a f 4)) (rngD 4) 0 [some (.fz (.lst (ns.map .int))), some (.fz (.loc 0)), some (.own (nmsD stem a f 4)), none, none, none, none, none, none, none, none, none, none, none, none, none, none, none] ⟨[.bag b1]⟩ ⟨b1, [], none, none, none, none, none, none, none, none, none, none, none, none, none, rfl, rfl⟩ fun i d ρ S hd hI => by
    obtain ⟨b, os, r3, r4, r5, r6, r7, r8, r9, r10, r11, r12, r13, r14, r15, rfl, rfl⟩ := hI
    obtain ⟨ρ', S', e, h⟩ := turn hst hsl hf b os (some (.fz (.lst (ns.map .int)))) (some (.fz d)) r4 r5 r6 r7 r8 r9 r10 r11 r12 r13 r14 r15
    exact ⟨_, rfl, ρ', S', e, h⟩
  obtain ⟨ρ', S', e2, b2, os, r3, r4, r5, r6, r7, r8, r9, r10, r11, r12, r13, r14, r15, rfl, rfl⟩ := fin
  have c0 : ColsOk [] := ⟨(fun c h => by cases h), (by simp), (by simp), (by decide)⟩
  have n0 : ∀ S : List Ob, newFn sCol colInit [.tup []] true [] ⟨S⟩ = .ok (.fz (colO [])) ⟨S ++ [.dead]⟩ := fun S => cols_tup initT c0 S
  have m1 := fun S => m_look [] S
  have m2 := fun S => m_tests [] S
  have ft : fits 20 (.tup []) := fits_tup (by simp) (by simp)
  have q1 : ∀ S, lookM [colO [], .tup []] S = .ok (.fz (.bl true)) S := fun S => look_m c0 ft S
  have q2 : ∀ S, testsM [colO [], .tup []] S = .ok (.fz (.bl true)) S := fun S => tests_m c0 ft (fun xs e => by cases e; simp) S
  have fa : fits 20 (.tup [.tup [.str "a", .int 0]]) := fits_tupc (by simp) ⟨fits_tupc (by simp) ⟨fits_c _ (by decide +kernel) _, trivial, trivial⟩, trivial⟩
  have q3 : ∀ S, testsM [colO [], .tup [.tup [.str "a", .int 0]]] S = .ok (.fz (.bl false)) S := fun S => by
    rw [tests_m c0 fa (fun xs e => by cases e; simp)]
    rfl
  have l1 : ∀ S, likeF 17 4 [.lst [.bl true, .bl true, .bl false], .lst [.bl true, .bl true, .bl false]] S = .ok (.fz (.bl true)) S := fun S => like_bls 17 S 2 [true, true, false] (by simp)
  have z0 : (0 : Nat) ≤ LINE := Nat.zero_le _
  have z1 : (1 : Nat) ≤ LINE := by decide
  have z2 : (2 : Nat) ≤ LINE := by decide
  have z3 : (3 : Nat) ≤ LINE := by decide
  rw [e_def (T := TL) (b := b_law) (np := 1) (n := 18) (ds := [.lst (ns.map .int)]) [some (.fz (.lst (ns.map .int))), none, none, none, none, none, none, none, none, none, none, none, none, none, none, none, none, none] rfl rfl]
  unfold b_law
  simp only [x0, e_cons, e_nil, asg_eq, ret_eq, iff_eq, tas_eq, exp_eq, apd_eq, apx_eq, sst_eq, ins_eq, par_eq, n_var, n_non, n_bl, n_int, n_str, n_glob, n_bin, n_neg, n_cmp, q_lt, q_le, q_gt, q_ge, q_is, q_nis, q_in, q_nin, q_eq, q_ne, Option.map_none, ifM_none, n_chn, n_and, n_or, n_not, n_ite, n_tup, n_lst, n_idx, n_slc, n_call, n_lend, n_lens, n_callk, n_mth, n_mthk, n_fld, n_ixo, n_isc, n_rev, n_fmt, n_fst, n_lc, n_lc2, n_bcl, b_len, b_int, b_all, b_list, b_tuple, b_str, b_min, s_non, s_bl, s_int, s_str, s_lst, s_tup, p_obj, n_isi, n_rep, n_join, denB, denEs, denBs, denO, denI, denF, rdV, rdB, List.getElem?_cons_zero, List.getElem?_cons_succ, List.set_cons_zero, List.set_cons_succ, Res.bind_ok, Res.map_ok, RV.d, ofO_some, FRes.res_ok, thenS_ok, seq_nx, seq_rt, out_rt, out_nx, tstR_bl, if_true, if_false, Bool.false_eq_true, Option.map_some, List.length_cons, List.length_nil, Nat.zero_add, Nat.reduceAdd, noX_ok, t13, e0]
  simp only [x1, e_cons, e_nil, asg_eq, ret_eq, iff_eq, tas_eq, exp_eq, apd_eq, apx_eq, sst_eq, ins_eq, par_eq, n_var, n_non, n_bl, n_int, n_str, n_glob, n_bin, n_neg, n_cmp, q_lt, q_le, q_gt, q_ge, q_is, q_nis, q_in, q_nin, q_eq, q_ne, Option.map_none, ifM_none, n_chn, n_and, n_or, n_not, n_ite, n_tup, n_lst, n_idx, n_slc, n_call, n_lend, n_lens, n_callk, n_mth, n_mthk, n_fld, n_ixo, n_isc, n_rev, n_fmt, n_fst, n_lc, n_lc2, n_bcl, b_len, b_int, b_all, b_list, b_tuple, b_str, b_min, s_non, s_bl, s_int, s_str, s_lst, s_tup, p_obj, n_isi, n_rep, n_join, denB, denEs, denBs, denO, denI, denF, rdV, rdB, List.getElem?_cons_zero, List.getElem?_cons_succ, List.set_cons_zero, List.set_cons_succ, Res.bind_ok, Res.map_ok, RV.d, ofO_some, FRes.res_ok, thenS_ok, seq_nx, seq_rt, out_rt, out_nx, tstR_bl, if_true, if_false, Bool.false_eq_true, Option.map_some, List.length_cons, List.length_nil, Nat.zero_add, Nat.reduceAdd, noX_ok, t18, e1]
  simp only [x2, e_cons, e_nil, asg_eq, ret_eq, iff_eq, tas_eq, exp_eq, apd_eq, apx_eq, sst_eq, ins_eq, par_eq, n_var, n_non, n_bl, n_int, n_str, n_glob, n_bin, n_neg, n_cmp, q_lt, q_le, q_gt, q_ge, q_is, q_nis, q_in, q_nin, q_eq, q_ne, Option.map_none, ifM_none, n_chn, n_and, n_or, n_not, n_ite, n_tup, n_lst, n_idx, n_slc, n_call, n_lend, n_lens, n_callk, n_mth, n_mthk, n_fld, n_ixo, n_isc, n_rev, n_fmt, n_fst, n_lc, n_lc2, n_bcl, b_len, b_int, b_all, b_list, b_tuple, b_str, b_min, s_non, s_bl, s_int, s_str, s_lst, s_tup, p_obj, n_isi, n_rep, n_join, denB, denEs, denBs, denO, denI, denF, rdV, rdB, List.getElem?_cons_zero, List.getElem?_cons_succ, List.set_cons_zero, List.set_cons_succ, Res.bind_ok, Res.map_ok, RV.d, ofO_some, FRes.res_ok, thenS_ok, seq_nx, seq_rt, out_rt, out_nx, tstR_bl, if_true, if_false, Bool.false_eq_true, Option.map_some, List.length_cons, List.length_nil, Nat.zero_add, Nat.reduceAdd, noX_ok, for_eq, denIF, k4, e2]
  simp only [x3, LEs.len, e_cons, e_nil, asg_eq, ret_eq, iff_eq, tas_eq, exp_eq, apd_eq, apx_eq, sst_eq, ins_eq, par_eq, n_var, n_non, n_bl, n_int, n_str, n_glob, n_bin, n_neg, n_cmp, q_lt, q_le, q_gt, q_ge, q_is, q_nis, q_in, q_nin, q_eq, q_ne, Option.map_none, ifM_none, n_chn, n_and, n_or, n_not, n_ite, n_tup, n_lst, n_idx, n_slc, n_call, n_lend, n_lens, n_callk, n_mth, n_mthk, n_fld, n_ixo, n_isc, n_rev, n_fmt, n_fst, n_lc, n_lc2, n_bcl, b_len, b_int, b_all, b_list, b_tuple, b_str, b_min, s_non, s_bl, s_int, s_str, s_lst, s_tup, p_obj, n_isi, n_rep, n_join, denB, denEs, denBs, denO, denI, denF, rdV, rdB, List.getElem?_cons_zero, List.getElem?_cons_succ, List.set_cons_zero, List.set_cons_succ, Res.bind_ok, Res.map_ok, RV.d, ofO_some, FRes.res_ok, thenS_ok, seq_nx, seq_rt, out_rt, out_nx, tstR_bl, if_true, if_false, Bool.false_eq_true, Option.map_some, List.length_cons, List.length_nil, Nat.zero_add, Nat.reduceAdd, noX_ok, t12, tn0, n0, m1, m2, q1, q2, q3, t17, l1, z0, z1, z2, z3]
  exact ⟨_, rfl⟩
end Sh


namespace Sh
open PySem PySem.Spec PyProof.Rows L2
/-! ### a def as the row holds it -/
structure DefAt (K : PySem.W.Frag) (x qual : Str) (st : Stmt) (f : Addr) : Prop where
  ex : ∃ fd, Fun K x qual st f fd
theorem DefAt.mk' {K : PySem.W.Frag} {x qual : Str} {st : Stmt} {f : Addr} {oc : Value} {od an : Option Addr} {osl : Array (Option Value)} {kV doc pm cdv ct : Value} (l : K.lookup f = some ⟨oc, od, .func (PySem.W.fnOf x qual (defArgs st) (defBody st) (defScope st) .none kV doc pm an cdv ct), osl⟩)
    (c : PySem.W.codeIn K cdv qual = true) (k : PySem.W.keepIn K (.ref f) = true) : DefAt K x qual st f := ⟨_, fun_mk l c k⟩
/-- .. with one default, an object -/
structure DefAtD (K : PySem.W.Frag) (x qual : Str) (st : Stmt) (f e : Addr) : Prop where
  ex : ∃ fd, FunD K x qual (defArgs st) (defBody st) (defScope st) [V.ref e] [] f fd
theorem DefAtD.mk' {K : PySem.W.Frag} {x qual : Str} {st : Stmt} {f e T : Addr} {oc oc2 : Value} {od od2 an : Option Addr} {osl osl2 : Array (Option Value)} {kV doc pm cdv ct : Value} {n : Nat} (l : K.lookup f = some ⟨oc, od, .func (PySem.W.fnOf x qual (defArgs st) (defBody st) (defScope st) (.ref T) kV doc pm an cdv ct), osl⟩)
    (t : K.lookup T = some ⟨oc2, od2, .seq #[.ref e] n, osl2⟩) (c : PySem.W.codeIn K cdv qual = true) (k : PySem.W.keepIn K (.ref f) = true) : DefAtD K x qual st f e :=
  ⟨_, ⟨oc, od, _, kV, doc, pm, an, cdv, ct, osl, rfl, l, c, .inr ⟨by simp, T, _, [.ref e], n, rfl, t, rfl, .cons rfl .nil⟩, .inl rfl⟩, k⟩
theorem twoT {K : PySem.W.Frag} {e : Addr} {od : Option Addr} {n : Nat} {sl : Array (Option Value)} {x y : Str} {t u : Tok} (h : K.lookup e = some ⟨.type "tuple", od, .seq #[.str x t, .str y u] n, sl⟩) : SqT K noH e [.str x, .str y] := .inr ⟨_, _, n, h, rfl, rfl, (by show 2 ≤ sizeLine; rw [sizeLine_eq]; omega), .cons ⟨_, rfl⟩ (.cons ⟨_, rfl⟩ .nil)⟩
theorem prop_mk {K : PySem.W.Frag} {C p g : Addr} {f : Str} {d : Option Addr} {vs : Array Value} {sl : Array (Option Value)} {rest : List Value} (h1 : PySem.W.findIn K (.ref C) f = some (some (.ref p))) (h2 : PySem.W.specialIn K (.ref p) "__get__" = some (some (.builtin "property.__get__"))) (h3 : PySem.W.takesIn K (.ref p) = some true)
    (l : K.lookup p = some ⟨.type "property", d, .fields vs, sl⟩) (hv : vs.toList = .ref g :: rest) : PropOf K C f p g := ⟨h1, h2, h3, rest, by
  unfold PySem.W.recIn
  rw [l]
  show (if ("property" == "property") = true then some vs.toList else none) = _
  rw [if_pos (beq_self_eq_true _), hv]⟩
theorem empT {K : PySem.W.Frag} {e : Addr} {od : Option Addr} {n : Nat} {sl : Array (Option Value)} (h : K.lookup e = some ⟨.type "tuple", od, .seq #[] n, sl⟩) : SqT K noH e [] := .inr ⟨_, #[], n, h, rfl, rfl, Nat.zero_le _, .nil⟩
theorem draws_len (ds : List D) (S : Mem) (h : drawsFn ds S ≠ .bad) : ds.length = 1 := by
  unfold drawsFn at h
  split at h
  · rfl
  · exact (h rfl).elim
theorem pull_len (ds : List D) (S : Mem) (h : pullFn ds S ≠ .bad) : ds.length = 2 := by
  unfold pullFn at h
  split at h
  · rfl
  · exact (h rfl).elim
theorem all_mk {l : PySem.W.OpenLaw} {w : World} {K : PySem.W.Frag} {h : Heap} {mg : Str → Option Value} {fa f_isnumber f_islisted f_isname f_iscolumn f_draws f_pull f_any f_mixed f_like f_new_names f_tests f_changes f_look f_odd f_law A_Columns f_init_Columns e_init_Columns f_spot f_islook f_ispart f_has f_istests f_ischanges a_WORDS : Addr} {t_MOST_COLUMNS t_WIDEST t_LETTERS : Tok} (X : K.In h) (G : h.Ns mainGlobals mg) (hfa : mg "law" = some (.ref fa))
    (a_isnumber : PySem.W.nsIn K mainGlobals "is_number" = some (some (.ref f_isnumber)))
    (d_isnumber : DefAt K "is_number" "is_number" s_isnumber f_isnumber)
    (a_islisted : PySem.W.nsIn K mainGlobals "is_listed" = some (some (.ref f_islisted)))
    (d_islisted : DefAt K "is_listed" "is_listed" s_islisted f_islisted)
    (a_isname : PySem.W.nsIn K mainGlobals "is_name" = some (some (.ref f_isname)))
    (d_isname : DefAt K "is_name" "is_name" s_isname f_isname)
    (a_iscolumn : PySem.W.nsIn K mainGlobals "is_column" = some (some (.ref f_iscolumn)))
    (d_iscolumn : DefAt K "is_column" "is_column" s_iscolumn f_iscolumn)
    (a_draws : PySem.W.nsIn K mainGlobals "_law_draws" = some (some (.ref f_draws)))
    (d_draws : DefAt K "_law_draws" "_law_draws" sDraws f_draws)
    (a_pull : PySem.W.nsIn K mainGlobals "_law_pull" = some (some (.ref f_pull)))
    (d_pull : DefAt K "_law_pull" "_law_pull" sPull f_pull)
    (a_any : PySem.W.nsIn K mainGlobals "_law_any" = some (some (.ref f_any)))
    (d_any : DefAt K "_law_any" "_law_any" s_any f_any)
    (a_mixed : PySem.W.nsIn K mainGlobals "_law_mixed" = some (some (.ref f_mixed)))
    (d_mixed : DefAt K "_law_mixed" "_law_mixed" s_mixed f_mixed)
    (a_like : PySem.W.nsIn K mainGlobals "_law_like" = some (some (.ref f_like)))
    (d_like : DefAt K "_law_like" "_law_like" s_like f_like)
    (a_new_names : PySem.W.nsIn K mainGlobals "_law_new_names" = some (some (.ref f_new_names)))
    (d_new_names : DefAt K "_law_new_names" "_law_new_names" s_new_names f_new_names)
    (a_tests : PySem.W.nsIn K mainGlobals "_law_tests" = some (some (.ref f_tests)))
    (d_tests : DefAt K "_law_tests" "_law_tests" s_tests f_tests)
    (a_changes : PySem.W.nsIn K mainGlobals "_law_changes" = some (some (.ref f_changes)))
    (d_changes : DefAt K "_law_changes" "_law_changes" s_changes f_changes)
    (a_look : PySem.W.nsIn K mainGlobals "_law_look" = some (some (.ref f_look)))
    (d_look : DefAt K "_law_look" "_law_look" s_look f_look)
    (a_odd : PySem.W.nsIn K mainGlobals "_law_odd_row" = some (some (.ref f_odd)))
    (d_odd : DefAt K "_law_odd_row" "_law_odd_row" s_odd f_odd)
    (a_law : PySem.W.nsIn K mainGlobals "law" = some (some (.ref f_law)))
    (d_law : DefAt K "law" "law" s_law f_law)
    (a_Columns : PySem.W.nsIn K mainGlobals "Columns" = some (some (.ref A_Columns)))
    (cl_Columns : Cls K A_Columns)
    (mk_Columns : Mk K A_Columns f_init_Columns)
    (di_Columns : DefAtD K "__init__" "Columns.__init__" s_init f_init_Columns e_init_Columns)
    (te_Columns : SqT K noH e_init_Columns [])
    (na_pair_rows : NoAttr K A_Columns "pair_rows")
    (na_wide : NoAttr K A_Columns "wide")
    (m_spot : Meth K A_Columns "spot" f_spot)
    (d_spot : DefAt K "spot" "Columns.spot" s_spot f_spot)
    (m_islook : Meth K A_Columns "is_look" f_islook)
    (d_islook : DefAt K "is_look" "Columns.is_look" s_islook f_islook)
    (m_ispart : Meth K A_Columns "is_part" f_ispart)
    (d_ispart : DefAt K "is_part" "Columns.is_part" s_ispart f_ispart)
    (m_has : Meth K A_Columns "has" f_has)
    (d_has : DefAt K "has" "Columns.has" s_has f_has)
    (m_istests : Meth K A_Columns "is_tests" f_istests)
    (d_istests : DefAt K "is_tests" "Columns.is_tests" s_istests f_istests)
    (m_ischanges : Meth K A_Columns "is_changes" f_ischanges)
    (d_ischanges : DefAt K "is_changes" "Columns.is_changes" s_ischanges f_ischanges)
    (z_len : PySem.W.nsIn K mainGlobals "len" = some none)
    (z_int : PySem.W.nsIn K mainGlobals "int" = some none)
    (z_all : PySem.W.nsIn K mainGlobals "all" = some none)
    (z_list : PySem.W.nsIn K mainGlobals "list" = some none)
    (z_tuple : PySem.W.nsIn K mainGlobals "tuple" = some none)
    (z_isinstance : PySem.W.nsIn K mainGlobals "isinstance" = some none)
    (z_str : PySem.W.nsIn K mainGlobals "str" = some none)
    (z_bool : PySem.W.nsIn K mainGlobals "bool" = some none)
    (z_range : PySem.W.nsIn K mainGlobals "range" = some none)
    (z_zip : PySem.W.nsIn K mainGlobals "zip" = some none)
    (z_enumerate : PySem.W.nsIn K mainGlobals "enumerate" = some none)
    (z_repr : PySem.W.nsIn K mainGlobals "repr" = some none)
    (z_min : PySem.W.nsIn K mainGlobals "min" = some none)
    (z_set : PySem.W.nsIn K mainGlobals "set" = some none)
    (g_WORDS : PySem.W.nsIn K mainGlobals "WORDS" = some (some (.ref a_WORDS)))
    (tp_WORDS : SqT K noH a_WORDS [.str "set", .str "raise"])
    (g_MOST_COLUMNS : PySem.W.nsIn K mainGlobals "MOST_COLUMNS" = some (some (.int 3 t_MOST_COLUMNS)))
    (g_WIDEST : PySem.W.nsIn K mainGlobals "WIDEST" = some (some (.int 12 t_WIDEST)))
    (g_LETTERS : PySem.W.nsIn K mainGlobals "LETTERS" = some (some (.str "abcdefghijklmnopqrstuvwxyz" t_LETTERS)))
    : ∃ (cad : Str → Option Addr) (fd : FuncData), (∀ (s : Shared) (v : Value), BindsTo s fd ⟨[v], []⟩ [("_law_script", v)]) ∧ ∀ base : Heap, K.In base → base.Ns mainGlobals mg → FnOk l.prog w K mg base (L2.CX l.prog w) 6 fa fd ["_law_script"] (spOf ⟨K, cad⟩ 1 (denDef TL 1 18 b_law)) := by
  have e := hfa.symm.trans (PySem.W.mg_of X G a_law)
  cases e
  have bl : ∀ b, b ∈ bltNames → mg b = none := by
    intro b hb
    simp only [bltNames, List.mem_cons, List.not_mem_nil, or_false] at hb
    rcases hb with rfl | rfl | rfl | rfl | rfl | rfl | rfl | rfl | rfl | rfl | rfl | rfl | rfl | rfl
    · exact PySem.W.mg_none_of X G z_len
    · exact PySem.W.mg_none_of X G z_int
    · exact PySem.W.mg_none_of X G z_all
    · exact PySem.W.mg_none_of X G z_list
    · exact PySem.W.mg_none_of X G z_tuple
    · exact PySem.W.mg_none_of X G z_isinstance
    · exact PySem.W.mg_none_of X G z_str
    · exact PySem.W.mg_none_of X G z_bool
    · exact PySem.W.mg_none_of X G z_range
    · exact PySem.W.mg_none_of X G z_zip
    · exact PySem.W.mg_none_of X G z_enumerate
    · exact PySem.W.mg_none_of X G z_repr
    · exact PySem.W.mg_none_of X G z_min
    · exact PySem.W.mg_none_of X G z_set
  obtain ⟨fd_isnumber, F_isnumber⟩ := d_isnumber.ex
  have b_isnumber := F_isnumber.binds (ps := ["value"]) fun _ _ _ _ _ _ us hl => match us, hl with | [_], _ => rfl
  have g_isnumber := PySem.W.mg_of X G a_isnumber
  obtain ⟨fd_islisted, F_islisted⟩ := d_islisted.ex
  have b_islisted := F_islisted.binds (ps := ["value"]) fun _ _ _ _ _ _ us hl => match us, hl with | [_], _ => rfl
  have g_islisted := PySem.W.mg_of X G a_islisted
  obtain ⟨fd_isname, F_isname⟩ := d_isname.ex
  have b_isname := F_isname.binds (ps := ["value"]) fun _ _ _ _ _ _ us hl => match us, hl with | [_], _ => rfl
  have g_isname := PySem.W.mg_of X G a_isname
  obtain ⟨fd_iscolumn, F_iscolumn⟩ := d_iscolumn.ex
  have b_iscolumn := F_iscolumn.binds (ps := ["value"]) fun _ _ _ _ _ _ us hl => match us, hl with | [_], _ => rfl
  have g_iscolumn := PySem.W.mg_of X G a_iscolumn
  obtain ⟨fd_draws, F_draws⟩ := d_draws.ex
  have b_draws := F_draws.binds (ps := ["_law_script"]) fun _ _ _ _ _ _ us hl => match us, hl with | [_], _ => rfl
  have g_draws := PySem.W.mg_of X G a_draws
  obtain ⟨fd_pull, F_pull⟩ := d_pull.ex
  have b_pull := F_pull.binds (ps := ["_law_bag", "_law_sides"]) fun _ _ _ _ _ _ us hl => match us, hl with | [_, _], _ => rfl
  have g_pull := PySem.W.mg_of X G a_pull
  obtain ⟨fd_any, F_any⟩ := d_any.ex
  have b_any := F_any.binds (ps := ["_law_bag", "_law_rows"]) fun _ _ _ _ _ _ us hl => match us, hl with | [_, _], _ => rfl
  have g_any := PySem.W.mg_of X G a_any
  obtain ⟨fd_mixed, F_mixed⟩ := d_mixed.ex
  have b_mixed := F_mixed.binds (ps := ["_law_bag", "_law_rows"]) fun _ _ _ _ _ _ us hl => match us, hl with | [_, _], _ => rfl
  have g_mixed := PySem.W.mg_of X G a_mixed
  obtain ⟨fd_like, F_like⟩ := d_like.ex
  have b_like := F_like.binds (ps := ["_law_a", "_law_b"]) fun _ _ _ _ _ _ us hl => match us, hl with | [_, _], _ => rfl
  have g_like := PySem.W.mg_of X G a_like
  obtain ⟨fd_new_names, F_new_names⟩ := d_new_names.ex
  have b_new_names := F_new_names.binds (ps := ["_law_bag", "_law_many"]) fun _ _ _ _ _ _ us hl => match us, hl with | [_, _], _ => rfl
  have g_new_names := PySem.W.mg_of X G a_new_names
  obtain ⟨fd_tests, F_tests⟩ := d_tests.ex
  have b_tests := F_tests.binds (ps := ["_law_bag", "_law_columns", "_law_share"]) fun _ _ _ _ _ _ us hl => match us, hl with | [_, _, _], _ => rfl
  have g_tests := PySem.W.mg_of X G a_tests
  obtain ⟨fd_changes, F_changes⟩ := d_changes.ex
  have b_changes := F_changes.binds (ps := ["_law_bag", "_law_columns", "_law_share"]) fun _ _ _ _ _ _ us hl => match us, hl with | [_, _, _], _ => rfl
  have g_changes := PySem.W.mg_of X G a_changes
  obtain ⟨fd_look, F_look⟩ := d_look.ex
  have b_look := F_look.binds (ps := ["_law_bag", "_law_columns"]) fun _ _ _ _ _ _ us hl => match us, hl with | [_, _], _ => rfl
  have g_look := PySem.W.mg_of X G a_look
  obtain ⟨fd_odd, F_odd⟩ := d_odd.ex
  have b_odd := F_odd.binds (ps := ["_law_bag", "_law_columns", "_law_word", "_law_far"]) fun _ _ _ _ _ _ us hl => match us, hl with | [_, _, _, _], _ => rfl
  have g_odd := PySem.W.mg_of X G a_odd
  obtain ⟨fd_law, F_law⟩ := d_law.ex
  have b_law := F_law.binds (ps := ["_law_script"]) fun _ _ _ _ _ _ us hl => match us, hl with | [_], _ => rfl
  have g_law := PySem.W.mg_of X G a_law
  have g_Columns := PySem.W.mg_of X G a_Columns
  obtain ⟨fd_spot, F_spot⟩ := d_spot.ex
  have b_spot := F_spot.binds (ps := ["self", "name"]) fun _ _ _ _ _ _ us hl => match us, hl with | [_, _], _ => rfl
  obtain ⟨fd_islook, F_islook⟩ := d_islook.ex
  have b_islook := F_islook.binds (ps := ["self", "value"]) fun _ _ _ _ _ _ us hl => match us, hl with | [_, _], _ => rfl
  obtain ⟨fd_ispart, F_ispart⟩ := d_ispart.ex
  have b_ispart := F_ispart.binds (ps := ["self", "value", "many"]) fun _ _ _ _ _ _ us hl => match us, hl with | [_, _, _], _ => rfl
  obtain ⟨fd_has, F_has⟩ := d_has.ex
  have b_has := F_has.binds (ps := ["self", "name", "value"]) fun _ _ _ _ _ _ us hl => match us, hl with | [_, _, _], _ => rfl
  obtain ⟨fd_istests, F_istests⟩ := d_istests.ex
  have b_istests := F_istests.binds (ps := ["self", "value"]) fun _ _ _ _ _ _ us hl => match us, hl with | [_, _], _ => rfl
  obtain ⟨fd_ischanges, F_ischanges⟩ := d_ischanges.ex
  have b_ischanges := F_ischanges.binds (ps := ["self", "value"]) fun _ _ _ _ _ _ us hl => match us, hl with | [_, _], _ => rfl
  obtain ⟨fd_init, F_init⟩ := di_Columns.ex
  have b_init : Binds K fd_init p_init [] := by
    obtain ⟨ds, hv, hb⟩ := F_init.binds1 (ps := p_init) 2 1 (by simp) rfl fun T kV doc pm an cdv ct us its hu hi => by
      match us, hu, its, hi with
      | [_, _], _, [_], _ => exact ⟨_, rfl, rfl⟩
    cases hv
    exact hb
  obtain ⟨dls, v_init, b_init0⟩ : ∃ ds, Vals [V.ref e_init_Columns] ds ∧ Binds K fd_init p_init ds := by
    obtain ⟨ds, hv, hb⟩ := F_init.binds1 (ps := p_init) 1 0 (by simp) rfl fun T kV doc pm an cdv ct us its hu hi => by
      match us, hu, its, hi with
      | [_], _, [_], _ => exact ⟨_, rfl, rfl⟩
    exact ⟨ds, hv, hb⟩
  have cadE : ∃ cad : Str → Option Addr, cad = fun c => if c = sCol then some A_Columns else none := ⟨_, rfl⟩
  obtain ⟨cad, hcad⟩ := cadE
  have hc : cad sCol = some A_Columns := by rw [hcad]; exact if_pos rfl
  have hn : ∀ c, c ≠ sCol → cad c = none := fun c h => by rw [hcad]; exact if_neg h
  clear hcad
  refine ⟨cad, fd_law, fun s v => ?_, fun base _ _ => ?_⟩
  · obtain ⟨_, _, _, _, _, _, _, _, _, rfl, _, _⟩ := F_law.ex
    exact .of_eq rfl
  have cl : ∀ A, cad sCol = some A → A = A_Columns := fun A h => by rw [hc] at h; exact (Option.some.inj h).symm
  have hf : ∀ c f A, fldP c f = true → cad c = some A → Cls K A ∧ NoAttr K A f := fun c f A h1 h2 => by
    unfold fldP at h1
    rw [Bool.and_eq_true, Bool.or_eq_true, beq_iff_eq, beq_iff_eq, beq_iff_eq] at h1
    obtain ⟨rfl, h1⟩ := h1
    cases cl A h2
    rcases h1 with rfl | rfl
    · exact ⟨cl_Columns, na_pair_rows⟩
    · exact ⟨cl_Columns, na_wide⟩
  have e0 : ∀ n, TabOk l.prog w K mg base cad FN .emp n := fun n => TabOk.emp bl
  have qN : TabOk l.prog w K mg base cad FN TN 0 := TabOk.addG (e0 0) rfl (PySem.W.mg_of X G g_LETTERS) (v := .str "abcdefghijklmnopqrstuvwxyz") ⟨_, rfl⟩ fun _ _ => .str _
  have n_isnumber : Ent l.prog w K mg base cad 1 "is_number" p_isnumber (isNumF .emp) := Ent.of_def F_isnumber sc_isnumber c_isnumber (e0 0) g_isnumber b_isnumber
  have n_islisted : Ent l.prog w K mg base cad 1 "is_listed" p_islisted (isListF .emp) := Ent.of_def F_islisted sc_islisted c_islisted (e0 0) g_islisted b_islisted
  have n_isname : Ent l.prog w K mg base cad 1 "is_name" p_isname (isNameF TN 6) := Ent.of_def F_isname sc_isname c_isname qN g_isname b_isname
  have qC : TabOk l.prog w K mg base cad FN TC 1 := TabOk.add (TabOk.add (e0 1) rfl n_isnumber) rfl n_isname
  have n_iscolumn : Ent l.prog w K mg base cad 2 "is_column" p_iscolumn (isColF TC 10 8) := Ent.of_def F_iscolumn sc_iscolumn c_iscolumn qC g_iscolumn b_iscolumn
  have qI : TabOk l.prog w K mg base cad FN TI 2 := TabOk.addF (TabOk.addG (TabOk.addG (TabOk.add (TabOk.add (e0 2) rfl (n_islisted.mono (by omega))) rfl n_iscolumn) rfl (PySem.W.mg_of X G g_MOST_COLUMNS) (v := .int 3) ⟨_, rfl⟩ fun _ _ => .int _) rfl (PySem.W.mg_of X G g_WIDEST) (v := .int 12) ⟨_, rfl⟩ fun _ _ => .int _) hf
  have o_init : FnOk l.prog w K mg base (L2.CX l.prog w) 3 f_init_Columns fd_init p_init (spOf ⟨K, cad⟩ p_init.length colInit) := def_okD F_init sc_init c_init qI
  have qS : ∀ n, TabOk l.prog w K mg base cad FN TS n := fun n => TabOk.addF (e0 n) hf
  have a_spot : FnAt l.prog w K mg base cad 1 f_spot fd_spot p_spot (spotF TS) := ⟨def_ok F_spot sc_spot c_spot (qS 0), b_spot, def_len⟩
  have qG : TabOk l.prog w K mg base cad FN TG 1 := TabOk.addM (qS 1) (fun A h => by cases cl A h; exact ⟨cl_Columns, m_spot⟩) a_spot
  have qH : TabOk l.prog w K mg base cad FN TH 1 := TabOk.add qG rfl n_isnumber
  have a_part : FnAt l.prog w K mg base cad 2 f_ispart fd_ispart p_ispart (isPartF TG) := ⟨def_ok F_ispart sc_ispart c_ispart qG, b_ispart, def_len⟩
  have a_has : FnAt l.prog w K mg base cad 2 f_has fd_has p_has (hasF TH 8) := ⟨def_ok F_has sc_has c_has qH, b_has, def_len⟩
  have qM : TabOk l.prog w K mg base cad FN TM 2 := TabOk.addG (TabOk.addM (TabOk.addM (qG.mono (by omega)) (fun A h => by cases cl A h; exact ⟨cl_Columns, m_ispart⟩) a_part) (fun A h => by cases cl A h; exact ⟨cl_Columns, m_has⟩) a_has) rfl (PySem.W.mg_of X G g_WORDS) (v := .ref a_WORDS) rfl fun _ _ => .tup (.inr tp_WORDS) (.cons (.str _) (.cons (.str _) .nil))
  have qK : TabOk l.prog w K mg base cad FN TK 1 := TabOk.add (qS 1) rfl n_isnumber
  have a_look : FnAt l.prog w K mg base cad 2 f_islook fd_islook p_islook lookM := ⟨def_ok F_islook sc_islook c_islook qK, b_islook, def_len⟩
  have a_tests : FnAt l.prog w K mg base cad 3 f_istests fd_istests p_istests testsM := ⟨def_ok F_istests sc_istests c_istests qM, b_istests, def_len⟩
  have a_changes : FnAt l.prog w K mg base cad 3 f_ischanges fd_ischanges p_ischanges changesM := ⟨def_ok F_ischanges sc_ischanges c_ischanges qM, b_ischanges, def_len⟩
  have n_draws : Ent l.prog w K mg base cad 1 "_law_draws" ["_law_script"] drawsFn := .of_fn g_draws F_draws.kp (ok_draws cad F_draws (bl _ (by decide +kernel)) (bl _ (by decide +kernel))) b_draws draws_len
  have n_pull : Ent l.prog w K mg base cad 1 "_law_pull" ["_law_bag", "_law_sides"] pullFn := .of_fn g_pull F_pull.kp (ok_pull cad F_pull (bl _ (by decide +kernel)) (bl _ (by decide +kernel))) b_pull pull_len
  have qP : TabOk l.prog w K mg base cad FN TP 1 := TabOk.add (e0 1) rfl n_pull
  have n_any : Ent l.prog w K mg base cad 2 "_law_any" p_any (anyF TP 14) := Ent.of_def F_any sc_any c_any qP g_any b_any
  have n_mixed : Ent l.prog w K mg base cad 2 "_law_mixed" p_mixed (mixedF TP 14) := Ent.of_def F_mixed sc_mixed c_mixed qP g_mixed b_mixed
  have n_look : Ent l.prog w K mg base cad 2 "_law_look" p_look (lookF TP 14) := Ent.of_def F_look sc_look c_look qP g_look b_look
  have qP2 : TabOk l.prog w K mg base cad FN TP2 2 := TabOk.add (qP.mono (by omega)) rfl n_any
  have qX : TabOk l.prog w K mg base cad FN TX 2 := TabOk.add (qP.mono (by omega)) rfl n_mixed
  have qY : TabOk l.prog w K mg base cad FN TY 2 := TabOk.add qP2 rfl n_mixed
  have n_new_names : Ent l.prog w K mg base cad 3 "_law_new_names" p_new_names (newF TP2 14 15) := Ent.of_def F_new_names sc_new_names c_new_names qP2 g_new_names b_new_names
  have n_tests : Ent l.prog w K mg base cad 3 "_law_tests" p_tests (testsF TX 14 16) := Ent.of_def F_tests sc_tests c_tests qX g_tests b_tests
  have n_changes : Ent l.prog w K mg base cad 3 "_law_changes" p_changes (changesF TY 14 15 16) := Ent.of_def F_changes sc_changes c_changes qY g_changes b_changes
  have n_odd : Ent l.prog w K mg base cad 3 "_law_odd_row" p_odd oddF := Ent.of_def F_odd sc_odd c_odd qP2 g_odd b_odd
  have n_like : Ent l.prog w K mg base cad 4 "_law_like" p_like (likeF 17 4) := like_ent F_like sc_like c_like bl rfl g_like b_like 4
  have q0 : TabOk l.prog w K mg base cad FN TL0 5 := (TabOk.add (TabOk.add (TabOk.add (TabOk.add (TabOk.add (TabOk.add (TabOk.add (TabOk.add (TabOk.add (e0 5) rfl (n_draws.mono (by omega))) rfl (n_pull.mono (by omega))) rfl (n_any.mono (by omega))) rfl (n_like.mono (by omega))) rfl (n_new_names.mono (by omega))) rfl (n_tests.mono (by omega))) rfl (n_changes.mono (by omega))) rfl (n_look.mono (by omega))) rfl (n_odd.mono (by omega)))
  have q1 : TabOk l.prog w K mg base cad FN TL1 5 := TabOk.addN (TabOk.addN q0 rfl g_Columns hc mk_Columns (j := 3) (by omega) o_init b_init .nil (fun _ _ => .nil) def_len) rfl g_Columns hc mk_Columns (j := 3) (by omega) o_init b_init0 v_init (fun _ _ => .cons (.tup (.inr te_Columns) .nil) .nil) def_len
  have q2 : TabOk l.prog w K mg base cad FN TL2 5 := TabOk.addM (TabOk.addM (TabOk.addM q1 (fun A h => by cases cl A h; exact ⟨cl_Columns, m_islook⟩) (a_look.mono (by omega))) (fun A h => by cases cl A h; exact ⟨cl_Columns, m_istests⟩) (a_tests.mono (by omega))) (fun A h => by cases cl A h; exact ⟨cl_Columns, m_ischanges⟩) (a_changes.mono (by omega))
  have q3 : TabOk l.prog w K mg base cad FN TL 5 := TabOk.addMk q2 (fun A h => by cases cl A h; exact ⟨cl_Columns, m_ischanges⟩) (a_changes.1.mono (by omega)) (fun s x us ws xs _ hu hw hp hx => by
      obtain ⟨_, _, _, _, _, _, _, _, _, rfl, _, _⟩ := F_ischanges.ex
      match us, hu, ws, hw with
      | [], _, [_], _ => cases hp; exact .of_eq rfl) def_len
  exact def_ok F_law sc_law c_law q3
theorem start_ok {C : Ct} {H : Hp} {a : Addr} {ns : List Int} {sp : List D → Mem → FRes} (hs : SqL C.K H a (ns.map V.int)) (h : ∃ S, sp [.lst (ns.map .int)] ⟨[]⟩ = .ok (.fz (.bl true)) S) : spOf C 1 sp [.ref a] H (fun v _ => v = .bl true) (fun _ _ _ => False) := by
  obtain ⟨S, e⟩ := h
  refine ⟨rfl, [.lst (ns.map .int)], ⟨fun b => if H b = none then .free else .frz, []⟩, ⟨[]⟩, .cons (.lst (xs := ns.map V.int) ?_ ?_) .nil, ⟨fun b hb => if_pos hb, rfl, fun n o ho => by simp at ho⟩, fun b i => ?_, ?_⟩
  · rcases hs with hs | hs
    · refine .inl ⟨if_neg fun e => ?_, hs⟩
      rcases hs with hs | ⟨o, hs⟩ <;> rw [e] at hs <;> cases hs
    · exact .inr (.inr hs)
  · clear hs e
    induction ns with
    | nil => exact .nil
    | cons i is ih => exact .cons (.int i) ih
  · show (if H b = none then Own.free else Own.frz) ≠ _
    split <;> simp
  · rw [e]
    intro v G' H' ex s n rv
    cases rv
    rfl
/-- the row's form: a promise chosen with the classes' places -/
def spAny (K : PySem.W.Frag) (fn : Fn) : Sp := fun vs H Q E => ∀ cad : Str → Option Addr, spOf ⟨K, cad⟩ 1 fn vs H Q E
theorem walk {l : PySem.W.OpenLaw} {q : Program} {loose : List Str} {XP : (Str → Option Value) → Heap → Prop} {YP : World → Heap → Prop} {d : DefRec} {K : Params → PySem.W.Frag} (hn : l.most = some 63) (hdf : d.params.defaults = [])
    (hY : ∀ (w : World) (h : Heap), YP w h → (K w.params).In h)
    (F : ∀ (w : World) (mg : Str → Option Value) (fa : Addr) (h : Heap), (K w.params).In h → h.Ns mainGlobals mg → mg d.name = some (.ref fa) →
      ∃ (cad : Str → Option Addr) (fd : FuncData), (∀ (s : Shared) (u : Value), BindsTo s fd ⟨[u], []⟩ [("_law_script", u)]) ∧ ∀ base : Heap, (K w.params).In base → base.Ns mainGlobals mg → FnOk l.prog w (K w.params) mg base (L2.CX l.prog w) 6 fa fd ["_law_script"] (spOf ⟨K w.params, cad⟩ 1 (denDef TL 1 18 b_law))) :
    PySem.W.WalkO q loose XP YP l.row.toRowW d [] (fun f vs => PySem.call f vs) := by
  refine L2.walk_of (n := 63) (k := 6) (x := "_law_script") (CX := fun w => L2.CX l.prog w) (sp := fun w => spAny (K w.params) (denDef TL 1 18 b_law)) hn (by decide) hdf ⟨rfl, by decide, by decide⟩ hY (fun w mg fa h X G e => ?_) (fun _ H a ns hl _ hS => fun cad => start_ok (C := ⟨_, cad⟩) hS (law_true ns hl)) fun _ _ _ _ _ z => by
    obtain ⟨_, _, _, _, _, _, _, _, _, _, _, _, z⟩ := z
    exact z.elim
  obtain ⟨cad, fd, h1, h2⟩ := F w mg fa h X G e
  exact ⟨fd, h1, fun base hb hg => (h2 base hb hg).imp fun vs H Q E hs => hs cad⟩
end Sh
open PySem PySem.W PyProof.Rows
set_option maxRecDepth 100000 in
set_option maxHeartbeats 0 in
theorem PySem.Challenge.cw_shiftlogs_k05_looks_tests_and_changes_to_holds : PySem.Challenge.rw_shiftlogs_k05_looks_tests_and_changes_to.Holds := by
  w_on; o_law; k_head; (case hw => w_witness2)
  k_fill
  refine Sh.walk (l := PySem.Challenge.rw_shiftlogs_k05_looks_tests_and_changes_to) rfl rfl (fun w h Y => PySem.W.kIn_of Y) ?F
  case F =>
    intro w mg fa h KX G hmg
    refine' Sh.all_mk KX G hmg ?a_isnumber ?d_isnumber ?a_islisted ?d_islisted ?a_isname ?d_isname ?a_iscolumn ?d_iscolumn ?a_draws ?d_draws ?a_pull ?d_pull ?a_any ?d_any ?a_mixed ?d_mixed ?a_like ?d_like ?a_new_names ?d_new_names ?a_tests ?d_tests ?a_changes ?d_changes ?a_look ?d_look ?a_odd ?d_odd ?a_law ?d_law ?a_Columns ?cl_Columns ?mk_Columns ?di_Columns ?te_Columns ?na_pair_rows ?na_wide ?m_spot ?d_spot ?m_islook ?d_islook ?m_ispart ?d_ispart ?m_has ?d_has ?m_istests ?d_istests ?m_ischanges ?d_ischanges ?z_len ?z_int ?z_all ?z_list ?z_tuple ?z_isinstance ?z_str ?z_bool ?z_range ?z_zip ?z_enumerate ?z_repr ?z_min ?z_set ?g_WORDS ?tp_WORDS ?g_MOST_COLUMNS ?g_WIDEST ?g_LETTERS
    (case a_isnumber => k_is)
    (case d_isnumber => (refine' Sh.DefAt.mk' ?l ?c ?k; (case l => k_is); (case c => k_is); (case k => k_is)))
    (case a_islisted => k_is)
    (case d_islisted => (refine' Sh.DefAt.mk' ?l ?c ?k; (case l => k_is); (case c => k_is); (case k => k_is)))
    (case a_isname => k_is)
    (case d_isname => (refine' Sh.DefAt.mk' ?l ?c ?k; (case l => k_is); (case c => k_is); (case k => k_is)))
    (case a_iscolumn => k_is)
    (case d_iscolumn => (refine' Sh.DefAt.mk' ?l ?c ?k; (case l => k_is); (case c => k_is); (case k => k_is)))
    (case a_draws => k_is)
    (case d_draws => (refine' Sh.DefAt.mk' ?l ?c ?k; (case l => k_is); (case c => k_is); (case k => k_is)))
    (case a_pull => k_is)
    (case d_pull => (refine' Sh.DefAt.mk' ?l ?c ?k; (case l => k_is); (case c => k_is); (case k => k_is)))
    (case a_any => k_is)
    (case d_any => (refine' Sh.DefAt.mk' ?l ?c ?k; (case l => k_is); (case c => k_is); (case k => k_is)))
    (case a_mixed => k_is)
    (case d_mixed => (refine' Sh.DefAt.mk' ?l ?c ?k; (case l => k_is); (case c => k_is); (case k => k_is)))
    (case a_like => k_is)
    (case d_like => (refine' Sh.DefAt.mk' ?l ?c ?k; (case l => k_is); (case c => k_is); (case k => k_is)))
    (case a_new_names => k_is)
    (case d_new_names => (refine' Sh.DefAt.mk' ?l ?c ?k; (case l => k_is); (case c => k_is); (case k => k_is)))
    (case a_tests => k_is)
    (case d_tests => (refine' Sh.DefAt.mk' ?l ?c ?k; (case l => k_is); (case c => k_is); (case k => k_is)))
    (case a_changes => k_is)
    (case d_changes => (refine' Sh.DefAt.mk' ?l ?c ?k; (case l => k_is); (case c => k_is); (case k => k_is)))
    (case a_look => k_is)
    (case d_look => (refine' Sh.DefAt.mk' ?l ?c ?k; (case l => k_is); (case c => k_is); (case k => k_is)))
    (case a_odd => k_is)
    (case d_odd => (refine' Sh.DefAt.mk' ?l ?c ?k; (case l => k_is); (case c => k_is); (case k => k_is)))
    (case a_law => k_is)
    (case d_law => (refine' Sh.DefAt.mk' ?l ?c ?k; (case l => k_is); (case c => k_is); (case k => k_is)))
    (case a_Columns => k_is)
    (case cl_Columns => (refine' ⟨?x1, ?x2, ?x3, ?x4⟩; (case x1 => k_is); (case x2 => k_is); (case x3 => k_is); (case x4 => k_is)))
    (case mk_Columns => (refine' ⟨?x1, ?x2, ?x3, ?x4⟩; (case x1 => k_is); (case x2 => k_is); (case x3 => k_is); (case x4 => k_is)))
    (case di_Columns => (refine' Sh.DefAtD.mk' ?l ?t ?c ?k; (case l => k_is); (case t => k_is); (case c => k_is); (case k => k_is)))
    (case te_Columns => (refine' Sh.empT ?l; (case l => k_is)))
    (case na_pair_rows => (show PySem.W.findIn _ _ _ = _; k_is))
    (case na_wide => (show PySem.W.findIn _ _ _ = _; k_is))
    (case m_spot => (refine' ⟨?x1, ?x2, ?x3⟩; (case x1 => k_is); (case x2 => k_is); (case x3 => k_is)))
    (case d_spot => (refine' Sh.DefAt.mk' ?l ?c ?k; (case l => k_is); (case c => k_is); (case k => k_is)))
    (case m_islook => (refine' ⟨?x1, ?x2, ?x3⟩; (case x1 => k_is); (case x2 => k_is); (case x3 => k_is)))
    (case d_islook => (refine' Sh.DefAt.mk' ?l ?c ?k; (case l => k_is); (case c => k_is); (case k => k_is)))
    (case m_ispart => (refine' ⟨?x1, ?x2, ?x3⟩; (case x1 => k_is); (case x2 => k_is); (case x3 => k_is)))
    (case d_ispart => (refine' Sh.DefAt.mk' ?l ?c ?k; (case l => k_is); (case c => k_is); (case k => k_is)))
    (case m_has => (refine' ⟨?x1, ?x2, ?x3⟩; (case x1 => k_is); (case x2 => k_is); (case x3 => k_is)))
    (case d_has => (refine' Sh.DefAt.mk' ?l ?c ?k; (case l => k_is); (case c => k_is); (case k => k_is)))
    (case m_istests => (refine' ⟨?x1, ?x2, ?x3⟩; (case x1 => k_is); (case x2 => k_is); (case x3 => k_is)))
    (case d_istests => (refine' Sh.DefAt.mk' ?l ?c ?k; (case l => k_is); (case c => k_is); (case k => k_is)))
    (case m_ischanges => (refine' ⟨?x1, ?x2, ?x3⟩; (case x1 => k_is); (case x2 => k_is); (case x3 => k_is)))
    (case d_ischanges => (refine' Sh.DefAt.mk' ?l ?c ?k; (case l => k_is); (case c => k_is); (case k => k_is)))
    (case z_len => k_is)
    (case z_int => k_is)
    (case z_all => k_is)
    (case z_list => k_is)
    (case z_tuple => k_is)
    (case z_isinstance => k_is)
    (case z_str => k_is)
    (case z_bool => k_is)
    (case z_range => k_is)
    (case z_zip => k_is)
    (case z_enumerate => k_is)
    (case z_repr => k_is)
    (case z_min => k_is)
    (case z_set => k_is)
    (case g_WORDS => k_is)
    (case tp_WORDS => (refine' Sh.twoT ?l; (case l => k_is)))
    (case g_MOST_COLUMNS => k_is)
    (case g_WIDEST => k_is)
    (case g_LETTERS => k_is)


