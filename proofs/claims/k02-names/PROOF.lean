import PyProof.Rows.All
import Wide.All
import OpenK.AllK
import Wide.FinOn
import HandS.ForMost
import HandS.ForExc
import HandS.TupAny
import HandS.Deep
import HandS.Zip
import HandS.Strs
import HandS.IsInst
import HandS.CallSlots
import PySem.Challenge.RW_shiftlogs_k02_names_and_numbers
set_option Elab.async false
set_option linter.all false
set_option maxRecDepth 100000
set_option maxHeartbeats 4000000
/-! ShCore: plain data, the small language, what it does. -/
namespace Sh
open PySem

/-- data: what a value is, whatever stands where -/
inductive D where
  | non | bl (b : Bool) | int (i : Int) | str (x : Str) | lst (xs : List D) | tup (xs : List D) | obj (c : Str) (fs : List (Str × D)) | loc (n : Nat) | ty (n : String)
/-- what a slot holds, what an expression gives: frozen data, or a list that nobody else holds -/
inductive RV where
  | fz (d : D) | own (ds : List D)
def RV.d : RV → D
  | .fz d => d
  | .own ds => .lst ds
abbrev Rho := List (Option RV)
/-- the law's bag of draws -/
structure Bag where
  cells : List Int
  pos : Nat
  big : Int
  seed : Int
  many : Int
def Bag.Ok (b : Bag) : Prop := 0 ≤ b.seed ∧ b.seed < 2147483497 ∧ b.cells.length ≤ 1000
inductive Ob where
  | bag (b : Bag) | ins (c : Str) (fs : List (Str × RV)) | dead
structure Mem where
  objs : List Ob
structure Err where
  cls : Str
  fs : List (Str × D)
inductive Res (α : Type) where
  | ok (a : α) (ρ : Rho) (S : Mem) | exc (x : Err) (ρ : Rho) (S : Mem) | bad
def Res.bind {α β : Type} (r : Res α) (f : α → Rho → Mem → Res β) : Res β := match r with
  | .ok a ρ S => f a ρ S
  | .exc x ρ S => .exc x ρ S
  | .bad => .bad
def Res.map {α β : Type} (r : Res α) (f : α → β) : Res β := match r with
  | .ok a ρ S => .ok (f a) ρ S
  | .exc x ρ S => .exc x ρ S
  | .bad => .bad
@[simp] theorem Res.bind_ok {α β : Type} (a : α) (ρ : Rho) (S : Mem) (f : α → Rho → Mem → Res β) : (Res.ok a ρ S).bind f = f a ρ S := rfl
@[simp] theorem Res.bind_exc {α β : Type} (x : Err) (ρ : Rho) (S : Mem) (f : α → Rho → Mem → Res β) : (Res.exc x ρ S).bind f = .exc x ρ S := rfl
@[simp] theorem Res.bind_bad {α β : Type} (f : α → Rho → Mem → Res β) : (Res.bad : Res α).bind f = .bad := rfl
@[simp] theorem Res.map_ok {α β : Type} (a : α) (ρ : Rho) (S : Mem) (f : α → β) : (Res.ok a ρ S).map f = .ok (f a) ρ S := rfl
@[simp] theorem Res.map_exc {α β : Type} (x : Err) (ρ : Rho) (S : Mem) (f : α → β) : (Res.exc x ρ S).map f = .exc x ρ S := rfl
@[simp] theorem Res.map_bad {α β : Type} (f : α → β) : (Res.bad : Res α).map f = .bad := rfl
inductive FRes where
  | ok (r : RV) (S : Mem) | exc (x : Err) (S : Mem) | bad
abbrev Fn := List D → Mem → FRes
/-- a call seen from a frame -/
def FRes.res (r : FRes) (ρ : Rho) : Res RV := match r with
  | .ok v S => .ok v ρ S
  | .exc x S => .exc x ρ S
  | .bad => .bad
@[simp] theorem FRes.res_ok (v : RV) (S : Mem) (ρ : Rho) : (FRes.ok v S).res ρ = .ok v ρ S := rfl
@[simp] theorem FRes.res_exc (x : Err) (S : Mem) (ρ : Rho) : (FRes.exc x S).res ρ = .exc x ρ S := rfl
@[simp] theorem FRes.res_bad (ρ : Rho) : FRes.bad.res ρ = .bad := rfl
inductive SRes where
  | nx (ρ : Rho) (S : Mem) | rt (r : RV) (S : Mem) | bk (ρ : Rho) (S : Mem) | ct (ρ : Rho) (S : Mem) | exc (x : Err) (ρ : Rho) (S : Mem) | bad
structure Tab where
  fn : Nat → Option Fn
  fnk : Nat → List Str → Nat → Option (Fn × List Nat)
  gl : Nat → Option D

/-! ### the language -/
inductive Blt where
  | len | int | all | list | tuple
  deriving DecidableEq
inductive Tg where
  | name (i : Nat) | tup (is : List Nat)
mutual
inductive LE where
  | var (i : Nat) | non | bl (b : Bool) | int (i : Int) | str (x : Str) | glob (x : Nat)
  | bin (op : Operator) (a b : LE) | neg (a : LE)
  | cmp (op : CmpOp) (a b : LE) | chn (op op2 : CmpOp) (a b c : LE)
  | and (a b : LE) | or (a b : LE) | not (a : LE) | ite (c a b : LE)
  | tup (es : LEs) | lst (es : LEs)
  | idx (a i : LE) | slc (a : LE) (lo hi : LEo)
  | call (f : Nat) (es : LEs) | callk (f : Nat) (n : Nat) (es : LEs) (ks : List Str) (kes : LEs) | bcl (b : Blt) (es : LEs) | isi (a : LE) (tys : List String)
  | rep (es : LEs) (k : LE) | join (s : LE) (a : LE) | lc (vs : List Nat) (elt : LE) (tg : Tg) (it : LI) (cs : LEs)
inductive LEs where
  | nil | cons (e : LE) (es : LEs)
inductive LEo where
  | no | so (e : LE)
inductive LI where
  | seq (e : LE) | rng (a : LE) | zip (a b : LE)
end
mutual
inductive LS where
  | asg (i : Nat) (e : LE) | par (i j : Nat) (a b : LE) | exp (e : LE) | ret (e : LE) | retN
  | iff (c : LE) (a b : LSs) | pass | tas (is : List Nat) (e : LE)
inductive LSs where
  | nil | cons (s : LS) (ss : LSs)
end

/-! ### what the operators do -/
abbrev LINE : Nat := 16777216
mutual
def D.py : D → PyData
  | .non => .none | .bl b => .bool b | .int i => .int i | .str x => .str x | .lst xs => .list (D.pys xs) | .tup xs => .tuple (D.pys xs) | .obj _ _ => .none | .loc _ => .none | .ty _ => .none
def D.pys : List D → List PyData
  | [] => []
  | d :: ds => d.py :: D.pys ds
end
mutual
def D.plain : D → Bool
  | .non => true | .bl _ => true | .int _ => true | .str _ => true | .lst xs => D.plains xs | .tup xs => D.plains xs | .obj _ _ => false | .loc _ => false | .ty _ => false
def D.plains : List D → Bool
  | [] => true
  | d :: ds => d.plain && D.plains ds
end
def D.eqOk (d : D) : Bool := d.plain && SeqAt.shaped d.py
def D.eqv (d e : D) : Bool := PyData.eqv d.py e.py
def mulOk (i j : Int) : Bool := decide (i.natAbs < 2 ^ 64) || decide (j.natAbs < 2 ^ 64)
def opBin : Operator → D → D → Option RV
  | .Add, .int i, .int j => some (.fz (.int (i + j)))
  | .Add, .str x, .str y => if x.length + y.length ≤ LINE then some (.fz (.str (x ++ y))) else none
  | .Add, .lst xs, .lst ys => if xs.length + ys.length ≤ LINE then some (.own (xs ++ ys)) else none
  | .Add, .tup xs, .tup ys => if xs.length + ys.length ≤ LINE then some (.fz (.tup (xs ++ ys))) else none
  | .Sub, .int i, .int j => some (.fz (.int (i - j)))
  | .Mult, .int i, .int j => if mulOk i j then some (.fz (.int (i * j))) else none
  | .FloorDiv, .int i, .int j => if 0 < j.toNat ∧ j.toNat < 1073741824 then some (.fz (.int (i / j))) else none
  | .Mod, .int i, .int j => if 0 < j.toNat then some (.fz (.int (i % j))) else none
  | .Pow, .int i, .int j => if j = j.toNat ∧ j.toNat ≤ 1000000 ∧ i.natAbs < 2 ^ 64 then some (.fz (.int (i ^ j.toNat))) else none
  | _, _, _ => none
def anyEqv (d : D) : List D → Bool
  | [] => false
  | e :: es => e.eqv d || anyEqv d es
/-- one sign -/
def sgn (c : Nat) : Str := ⟨#[c]⟩
def D.isNon : D → Bool
  | .non => true
  | _ => false
def opCmp : CmpOp → D → D → Option Bool
  | .Lt, .int i, .int j => some (decide (i < j))
  | .LtE, .int i, .int j => some (decide (i ≤ j))
  | .Gt, .int i, .int j => some (decide (j < i))
  | .GtE, .int i, .int j => some (decide (j ≤ i))
  | .Eq, d, e => if d.eqOk && e.eqOk then some (d.eqv e) else none
  | .NotEq, d, e => if d.eqOk && e.eqOk then some (!d.eqv e) else none
  | .Is, d, .non => some d.isNon
  | .IsNot, d, .non => some (!d.isNon)
  | .In, .str ⟨cs⟩, .str z => match cs.toList with | [c] => some (decide (c ∈ z.cps.toList)) | _ => none
  | .In, d, .lst es => if d.eqOk && (D.lst es).eqOk then some (anyEqv d es) else none
  | .NotIn, d, .lst es => if d.eqOk && (D.lst es).eqOk then some (!anyEqv d es) else none
  | _, _, _ => none
/-- a test's answer -/
def tst : RV → Option Bool
  | .fz (.bl b) => some b
  | _ => none
/-- an item by its place, from the left or from the right -/
def opIdx : D → D → Option RV
  | .lst xs, .int i => (L2.atI xs i).map .fz
  | .tup xs, .int i => (L2.atI xs i).map .fz
  | .str z, .int i => if z.length ≤ LINE then (L2.atI z.cps.toList i).map fun c => .fz (.str (sgn c)) else none
  | _, _ => none
def cutD (xs : List D) (lo hi : Option Int) : List D := (xs.drop (HT.sIx xs.length 0 lo)).take (HT.sIx xs.length xs.length hi - HT.sIx xs.length 0 lo)
def opSlc : D → Option Int → Option Int → Option RV
  | .lst xs, lo, hi => some (.own (cutD xs lo hi))
  | .tup xs, lo, hi => some (.fz (.tup (cutD xs lo hi)))
  | .str z, lo, hi => if z.length ≤ LINE then some (.fz (.str (L2.cutS z lo hi))) else none
  | _, _, _ => none
def allBl : List D → Option Bool
  | [] => some true
  | .bl b :: ds => (allBl ds).map (b && ·)
  | _ => none
def opBcl : Blt → List D → Option RV
  | .len, [.lst xs] => some (.fz (.int xs.length))
  | .len, [.tup xs] => some (.fz (.int xs.length))
  | .len, [.str z] => if z.length ≤ LINE then some (.fz (.int z.length)) else none
  | .int, [.int i] => some (.fz (.int i))
  | .all, [.lst xs] => (allBl xs).map fun b => .fz (.bl b)
  | .list, [.lst xs] => some (.own xs)
  | .list, [.tup xs] => some (.own xs)
  | .tuple, [.lst xs] => some (.fz (.tup xs))
  | .tuple, [.tup xs] => some (.fz (.tup xs))
  | _, _ => none
/-- isinstance against built-in types -/
def isTy : D → String → Option Bool
  | .non, t => some (t == "NoneType")
  | .bl _, t => some (t == "bool" || t == "int")
  | .int _, t => some (t == "int")
  | .str _, t => some (t == "str")
  | .lst _, t => some (t == "list")
  | .tup _, t => some (t == "tuple")
  | _, _ => none
def isTys (d : D) : List String → Option Bool
  | [] => some false
  | t :: ts => match isTy d t, isTys d ts with
    | some a, some b => some (a || b)
    | _, _ => none
def strsOf : List D → Option (List Str)
  | [] => some []
  | .str x :: ds => (strsOf ds).map (x :: ·)
  | _ => none
def opRep (xs : List D) : D → Option RV
  | .int k => if k = k.toNat ∧ k.toNat < 2 ^ 62 ∧ xs.length * k.toNat ≤ LINE then some (.own (List.replicate k.toNat xs).flatten) else none
  | _ => none
def opJoin : D → D → Option RV
  | .str z, .lst ds => match strsOf ds with
    | some xs => if (xs.map (·.length)).sum + xs.length * z.length ≤ LINE then some (.fz (.str (Txt.join z xs))) else none
    | none => none
  | _, _ => none
def zipD : List D → List D → List D
  | x :: xs, y :: ys => .tup [x, y] :: zipD xs ys
  | _, _ => []
def itemsOf : D → Option (List D)
  | .lst xs => some xs
  | .tup xs => some xs
  | .str z => some (z.cps.toList.map fun c => .str (sgn c))
  | _ => none
def rngD (n : Nat) : List D := (List.range n).map fun (i : Nat) => D.int (i : Int)
def opRng : D → Option (List D)
  | .int j => if j.natAbs ≤ LINE then some (rngD j.toNat) else none
  | _ => none
def opZip : D → D → Option (List D)
  | .lst xs, .lst ys => some (zipD xs ys)
  | .tup xs, .tup ys => some (zipD xs ys)
  | _, _ => none
def wipeE (ρ : Rho) : List Nat → Rho
  | [] => ρ
  | v :: vs => (wipeE ρ vs).set v none
def backE (ρ0 ρ : Rho) : List Nat → Rho
  | [] => ρ
  | v :: vs => (backE ρ0 ρ vs).set v (ρ0[v]?.getD none)
def setAll (ρ : Rho) : List Nat → List D → Option Rho
  | [], [] => some ρ
  | i :: is, d :: ds => setAll (ρ.set i (some (.fz d))) is ds
  | _, _ => none
def Tg.put (d : D) (ρ : Rho) : Tg → Option Rho
  | .name i => some (ρ.set i (some (.fz d)))
  | .tup is => match d with
    | .tup ds => setAll ρ is ds
    | _ => none
def ofO {α : Type} (o : Option α) (ρ : Rho) (S : Mem) : Res α := match o with
  | some a => .ok a ρ S
  | none => .bad
@[simp] theorem ofO_some {α : Type} (a : α) (ρ : Rho) (S : Mem) : ofO (some a) ρ S = .ok a ρ S := rfl
@[simp] theorem ofO_none {α : Type} (ρ : Rho) (S : Mem) : ofO (none : Option α) ρ S = .bad := rfl
/-- no exception leaves a comprehension -/
def noX {α : Type} : Res α → Res α
  | .exc _ _ _ => .bad
  | r => r
@[simp] theorem noX_ok {α : Type} (a : α) (ρ : Rho) (S : Mem) : noX (.ok a ρ S) = .ok a ρ S := rfl
@[simp] theorem noX_bad {α : Type} : noX (.bad : Res α) = .bad := rfl
def tstR (r : Res RV) : Res Bool := r.bind fun x ρ S => ofO (tst x) ρ S
@[simp] theorem tstR_bl (b : Bool) (ρ : Rho) (S : Mem) : tstR (.ok (.fz (.bl b)) ρ S) = .ok b ρ S := rfl
/-- a comprehension's turns: f gives the item to be added, or none -/
def lcLoop (vs : List Nat) (f : D → Rho → Mem → Res (Option D)) : List D → List D → Rho → Mem → Res (List D)
  | [], acc, ρ, S => .ok acc ρ S
  | d :: ds, acc, ρ, S => (noX (f d (wipeE ρ vs) S)).bind fun o ρ S => match o with
    | none => lcLoop vs f ds acc ρ S
    | some y => if acc.length < LINE then lcLoop vs f ds (acc ++ [y]) ρ S else .bad
/-- the arguments in the parameters' order -/
def pick {α : Type} : List Nat → List α → Option (List α)
  | [], _ => some []
  | i :: is, xs => match xs[i]?, pick is xs with
    | some x, some ys => some (x :: ys)
    | _, _ => none
def noOwn (ρ : Rho) (vs : List Nat) : Bool := vs.all fun v => match ρ[v]? with
  | some (some (.own _)) => false
  | _ => true
def rdV (i : Nat) (ρ : Rho) (S : Mem) : Res RV := match ρ[i]? with
  | some (some (.fz d)) => .ok (.fz d) ρ S
  | some (some (.own ds)) => .ok (.fz (.lst ds)) (ρ.set i (some (.fz (.lst ds)))) S
  | _ => .bad
def rdB (i : Nat) (ρ : Rho) (S : Mem) : Res D := match ρ[i]? with
  | some (some r) => .ok r.d ρ S
  | _ => .bad
mutual
/-- an expression -/
def den (T : Tab) : LE → Rho → Mem → Res RV
  | .var i, ρ, S => rdV i ρ S
  | .non, ρ, S => .ok (.fz .non) ρ S
  | .bl b, ρ, S => .ok (.fz (.bl b)) ρ S
  | .int i, ρ, S => .ok (.fz (.int i)) ρ S
  | .str x, ρ, S => .ok (.fz (.str x)) ρ S
  | .glob x, ρ, S => (ofO (T.gl x) ρ S).map .fz
  | .bin op a b, ρ, S => (denB T a ρ S).bind fun x ρ S => (denB T b ρ S).bind fun y ρ S => ofO (opBin op x y) ρ S
  | .neg a, ρ, S => (denB T a ρ S).bind fun x ρ S => match x with
    | .int i => .ok (.fz (.int (-i))) ρ S
    | _ => .bad
  | .cmp op a b, ρ, S => (denB T a ρ S).bind fun x ρ S => (denB T b ρ S).bind fun y ρ S => (ofO (opCmp op x y) ρ S).map fun k => .fz (.bl k)
  | .chn op op2 a b c, ρ, S => (denB T a ρ S).bind fun x ρ S => (denB T b ρ S).bind fun y ρ S => (ofO (opCmp op x y) ρ S).bind fun k ρ S =>
      if k = true then (denB T c ρ S).bind fun z ρ S => (ofO (opCmp op2 y z) ρ S).map fun k => .fz (.bl k) else .ok (.fz (.bl false)) ρ S
  | .and a b, ρ, S => (tstR (den T a ρ S)).bind fun k ρ S => if k = true then den T b ρ S else .ok (.fz (.bl false)) ρ S
  | .or a b, ρ, S => (tstR (den T a ρ S)).bind fun k ρ S => if k = true then .ok (.fz (.bl true)) ρ S else den T b ρ S
  | .not a, ρ, S => (tstR (den T a ρ S)).bind fun k ρ S => .ok (.fz (.bl (!k))) ρ S
  | .ite c a b, ρ, S => (tstR (den T c ρ S)).bind fun k ρ S => if k = true then den T a ρ S else den T b ρ S
  | .tup es, ρ, S => (denEs T es ρ S).bind fun ds ρ S => if ds.length ≤ LINE then .ok (.fz (.tup ds)) ρ S else .bad
  | .lst es, ρ, S => (denEs T es ρ S).bind fun ds ρ S => if ds.length ≤ LINE then .ok (.own ds) ρ S else .bad
  | .rep es k, ρ, S => (denEs T es ρ S).bind fun ds ρ S => (if ds.length ≤ LINE then .ok ds ρ S else .bad : Res (List D)).bind fun ds ρ S => (denB T k ρ S).bind fun y ρ S => ofO (opRep ds y) ρ S
  | .idx a i, ρ, S => (denB T a ρ S).bind fun x ρ S => (denB T i ρ S).bind fun y ρ S => ofO (opIdx x y) ρ S
  | .slc a lo hi, ρ, S => (denB T a ρ S).bind fun x ρ S => (denO T lo ρ S).bind fun l ρ S => (denO T hi ρ S).bind fun u ρ S => ofO (opSlc x l u) ρ S
  | .call f es, ρ, S => match T.fn f with
    | some m => (denEs T es ρ S).bind fun ds ρ S => (m ds S).res ρ
    | none => .bad
  | .callk f n es ks kes, ρ, S => match T.fnk f ks n with
    | some (m, perm) => (denEs T es ρ S).bind fun ds ρ S => (denEs T kes ρ S).bind fun zs ρ S => (ofO (if ds.length = n ∧ zs.length = ks.length then pick perm (ds ++ zs) else none) ρ S).bind fun xs ρ S => (m xs S).res ρ
    | none => .bad
  | .bcl b es, ρ, S => (denBs T es ρ S).bind fun ds ρ S => ofO (opBcl b ds) ρ S
  | .isi a tys, ρ, S => (denB T a ρ S).bind fun x ρ S => (ofO (isTys x tys) ρ S).map fun k => .fz (.bl k)
  | .join s a, ρ, S => (denB T s ρ S).bind fun x ρ S => (denB T a ρ S).bind fun y ρ S => ofO (opJoin x y) ρ S
  | .lc vs elt tg it cs, ρ, S => (denI T it ρ S).bind fun ds ρ S => if noOwn ρ vs = false then .bad else
      (lcLoop vs (fun d ρ S => (ofO (tg.put d ρ) ρ S).bind fun ρ' _ S => (denC T cs ρ' S).bind fun k ρ S => if k = true then (den T elt ρ S).bind fun y ρ S => .ok (some y.d) ρ S else .ok none ρ S) ds [] ρ S).bind fun acc ρ' S =>
      .ok (.own acc) (backE ρ ρ' vs) S
/-- an expression that is only looked at -/
def denB (T : Tab) : LE → Rho → Mem → Res D
  | .var i, ρ, S => rdB i ρ S
  | e, ρ, S => (den T e ρ S).map RV.d
def denEs (T : Tab) : LEs → Rho → Mem → Res (List D)
  | .nil, ρ, S => .ok [] ρ S
  | .cons e es, ρ, S => (den T e ρ S).bind fun x ρ S => (denEs T es ρ S).bind fun xs ρ S => .ok (x.d :: xs) ρ S
def denBs (T : Tab) : LEs → Rho → Mem → Res (List D)
  | .nil, ρ, S => .ok [] ρ S
  | .cons e es, ρ, S => (denB T e ρ S).bind fun x ρ S => (denBs T es ρ S).bind fun xs ρ S => .ok (x :: xs) ρ S
/-- the tests of a comprehension -/
def denC (T : Tab) : LEs → Rho → Mem → Res Bool
  | .nil, ρ, S => .ok true ρ S
  | .cons e es, ρ, S => (tstR (den T e ρ S)).bind fun k ρ S => if k = true then denC T es ρ S else .ok false ρ S
def denO (T : Tab) : LEo → Rho → Mem → Res (Option Int)
  | .no, ρ, S => .ok none ρ S
  | .so e, ρ, S => (denB T e ρ S).bind fun x ρ S => match x with
    | .int i => .ok (some i) ρ S
    | _ => .bad
def denI (T : Tab) : LI → Rho → Mem → Res (List D)
  | .seq e, ρ, S => (denB T e ρ S).bind fun x ρ S => ofO (itemsOf x) ρ S
  | .rng a, ρ, S => (denB T a ρ S).bind fun x ρ S => ofO (opRng x) ρ S
  | .zip a b, ρ, S => (denB T a ρ S).bind fun x ρ S => (denB T b ρ S).bind fun y ρ S => ofO (opZip x y) ρ S
end
mutual
def denS (T : Tab) : LS → Rho → Mem → SRes
  | .asg i e, ρ, S => match den T e ρ S with
    | .ok r ρ S => .nx (ρ.set i (some r)) S
    | .exc x ρ S => .exc x ρ S
    | .bad => .bad
  | .par i j a b, ρ, S => match (den T a ρ S).bind fun x ρ S => (den T b ρ S).bind fun y ρ S => .ok (x, y) ρ S with
    | .ok (x, y) ρ S => .nx ((ρ.set i (some x)).set j (some y)) S
    | .exc x ρ S => .exc x ρ S
    | .bad => .bad
  | .tas is e, ρ, S => match den T e ρ S with
    | .ok r ρ S => match Tg.put r.d ρ (.tup is) with
      | some ρ => .nx ρ S
      | none => .bad
    | .exc x ρ S => .exc x ρ S
    | .bad => .bad
  | .exp e, ρ, S => match den T e ρ S with
    | .ok _ ρ S => .nx ρ S
    | .exc x ρ S => .exc x ρ S
    | .bad => .bad
  | .ret e, ρ, S => match den T e ρ S with
    | .ok r _ S => .rt r S
    | .exc x ρ S => .exc x ρ S
    | .bad => .bad
  | .retN, _, S => .rt (.fz .non) S
  | .iff c a b, ρ, S => match tstR (den T c ρ S) with
    | .ok k ρ S => if k = true then denSs T a ρ S else denSs T b ρ S
    | .exc x ρ S => .exc x ρ S
    | .bad => .bad
  | .pass, ρ, S => .nx ρ S
def denSs (T : Tab) : LSs → Rho → Mem → SRes
  | .nil, ρ, S => .nx ρ S
  | .cons s ss, ρ, S => match denS T s ρ S with
    | .nx ρ S => denSs T ss ρ S
    | r => r
end
/-- a def: np parameters, n slots, its body -/
def denDef (T : Tab) (np n : Nat) (b : LSs) : Fn := fun ds S =>
  if ds.length = np then
    match denSs T b (ds.map (fun d => some (.fz d)) ++ List.replicate (n - ds.length) none) S with
    | .nx _ S => .ok (.fz .non) S
    | .rt r S => .ok r S
    | .exc x _ S => .exc x S
    | _ => .bad
  else .bad
end Sh


/-! ShRep: what stands for data in a heap; the ghost's owners; states; outcomes. -/
namespace Sh
open PySem PySem.Spec PyProof.Rows L2

inductive Own where
  | free | frz | slot (i : Nat) | obj (n : Nat) | sub (n : Nat) (f : Str) | tmp | out
  deriving DecidableEq
/-- who owns an address; where the objects stand -/
structure Gh where
  O : Addr → Own
  L : List Addr
def Gh.set (G : Gh) (a : Addr) (o : Own) : Gh := { G with O := fun b => if b = a then o else G.O b }
theorem Gh.set_same {G : Gh} {a : Addr} {o : Own} : (G.set a o).O a = o := if_pos rfl
theorem Gh.set_ne {G : Gh} {a b : Addr} {o : Own} (h : b ≠ a) : (G.set a o).O b = G.O b := if_neg h
/-- the context: the written part, where the classes stand, the table, what is let out -/
structure Ct where
  K : PySem.W.Frag
  cad : Str → Option Addr
def noH : Hp := fun _ => none
def FL (C : Ct) (G : Gh) (H : Hp) (a : Addr) (xs : List V) : Prop := (G.O a = .frz ∧ Rd H a (.lst xs)) ∨ SqL C.K noH a xs
def FT (C : Ct) (G : Gh) (H : Hp) (a : Addr) (xs : List V) : Prop := (G.O a = .frz ∧ H a = some (.tup xs)) ∨ SqT C.K noH a xs
theorem noRd {a : Addr} {u : HO} (h : Rd noH a u) : False := by
  rcases h with h | ⟨_, h⟩ <;> cases h
theorem FL.seq {C : Ct} {G : Gh} {H : Hp} {a : Addr} {xs : List V} (h : FL C G H a xs) : SqL C.K H a xs := by
  rcases h with h | h
  · exact .inl h.2
  · rcases h with h | h
    · exact (noRd h).elim
    · exact .inr h
theorem FT.seq {C : Ct} {G : Gh} {H : Hp} {a : Addr} {xs : List V} (h : FT C G H a xs) : SqT C.K H a xs := by
  rcases h with h | h
  · exact .inl (.inl h.2)
  · rcases h with h | h
    · exact (noRd h).elim
    · exact .inr h
mutual
inductive Rep (C : Ct) (G : Gh) (H : Hp) : V → D → Prop
  | non : Rep C G H .non .non
  | bl (b : Bool) : Rep C G H (.bl b) (.bl b)
  | int (i : Int) : Rep C G H (.int i) (.int i)
  | str (x : Str) : Rep C G H (.str x) (.str x)
  | ty (n : String) : Rep C G H (.ty n) (.ty n)
  | lst {a : Addr} {xs : List V} {ds : List D} : FL C G H a xs → Reps C G H xs ds → Rep C G H (.ref a) (.lst ds)
  | tup {a : Addr} {xs : List V} {ds : List D} : FT C G H a xs → Reps C G H xs ds → Rep C G H (.ref a) (.tup ds)
  | obj {a A dx : Addr} {c : Str} {fs : List (Str × V)} {ds : List (Str × D)} : G.O a = .frz → H a = some (.ins A dx fs) → C.cad c = some A → RepF C G H fs ds → Rep C G H (.ref a) (.obj c ds)
  | loc {a : Addr} {n : Nat} : G.L[n]? = some a → Rep C G H (.ref a) (.loc n)
inductive Reps (C : Ct) (G : Gh) (H : Hp) : List V → List D → Prop
  | nil : Reps C G H [] []
  | cons {v : V} {vs : List V} {d : D} {ds : List D} : Rep C G H v d → Reps C G H vs ds → Reps C G H (v :: vs) (d :: ds)
inductive RepF (C : Ct) (G : Gh) (H : Hp) : List (Str × V) → List (Str × D) → Prop
  | nil : RepF C G H [] []
  | cons {f : Str} {v : V} {vs : List (Str × V)} {d : D} {ds : List (Str × D)} : Rep C G H v d → RepF C G H vs ds → RepF C G H ((f, v) :: vs) ((f, d) :: ds)
end
/-- what stands frozen stays -/
structure ExF (G : Gh) (H : Hp) (G' : Gh) (H' : Hp) : Prop where
  frz : ∀ a, G.O a = .frz → G'.O a = .frz ∧ H' a = H a
  pre : ∃ l, G'.L = G.L ++ l
/-- .. and what belongs to somebody else -/
structure ExC (G : Gh) (H : Hp) (G' : Gh) (H' : Hp) : Prop extends ExF G H G' H' where
  out : ∀ a, G.O a = .out → G'.O a = .out ∧ H' a = H a
/-- .. and the slots' lists stay as they are, some are frozen -/
structure ExE (G : Gh) (H : Hp) (G' : Gh) (H' : Hp) : Prop extends ExC G H G' H' where
  slt : ∀ a i, G.O a = .slot i → (G'.O a = .slot i ∨ G'.O a = .frz) ∧ H' a = H a
theorem ExC.refl (G : Gh) (H : Hp) : ExC G H G H := ⟨⟨fun _ h => ⟨h, rfl⟩, [], by simp⟩, fun _ h => ⟨h, rfl⟩⟩
theorem ExE.refl (G : Gh) (H : Hp) : ExE G H G H := ⟨.refl G H, fun _ _ h => ⟨.inl h, rfl⟩⟩
theorem ExC.trans {G G1 G2 : Gh} {H H1 H2 : Hp} (a : ExC G H G1 H1) (b : ExC G1 H1 G2 H2) : ExC G H G2 H2 :=
  ⟨⟨fun x h => ⟨(b.frz x (a.frz x h).1).1, (b.frz x (a.frz x h).1).2.trans (a.frz x h).2⟩, let ⟨l, e⟩ := a.pre; let ⟨m, e2⟩ := b.pre; ⟨l ++ m, by rw [e2, e, List.append_assoc]⟩⟩,
    fun x h => ⟨(b.out x (a.out x h).1).1, (b.out x (a.out x h).1).2.trans (a.out x h).2⟩⟩
theorem ExE.trans {G G1 G2 : Gh} {H H1 H2 : Hp} (a : ExE G H G1 H1) (b : ExE G1 H1 G2 H2) : ExE G H G2 H2 :=
  ⟨a.toExC.trans b.toExC, fun x i h => by
    obtain ⟨h1 | h1, e1⟩ := a.slt x i h
    · exact ⟨(b.slt x i h1).1, (b.slt x i h1).2.trans e1⟩
    · exact ⟨.inr (b.frz x h1).1, (b.frz x h1).2.trans e1⟩⟩
theorem rdSame {H H' : Hp} {a : Addr} {u : HO} (e : H' a = H a) (h : Rd H a u) : Rd H' a u := by
  unfold Rd at h ⊢
  rw [e]
  exact h
section
variable {C : Ct} {G G' : Gh} {H H' : Hp}
theorem FL.mono {a : Addr} {xs : List V} (e : ExF G H G' H') (h : FL C G H a xs) : FL C G' H' a xs := h.imp (fun z => ⟨(e.frz a z.1).1, rdSame (e.frz a z.1).2 z.2⟩) id
theorem FT.mono {a : Addr} {xs : List V} (e : ExF G H G' H') (h : FT C G H a xs) : FT C G' H' a xs := h.imp (fun z => ⟨(e.frz a z.1).1, (e.frz a z.1).2.trans z.2⟩) id
mutual
theorem Rep.mono (e : ExF G H G' H') : ∀ (d : D) (v : V), Rep C G H v d → Rep C G' H' v d
  | .non, _, h => by cases h; exact .non
  | .bl _, _, h => by cases h; exact .bl _
  | .int _, _, h => by cases h; exact .int _
  | .str _, _, h => by cases h; exact .str _
  | .ty _, _, h => by cases h; exact .ty _
  | .lst ds, _, h => by
    cases h with
    | lst h1 h2 => exact .lst (h1.mono e) (Reps.mono e ds _ h2)
  | .tup ds, _, h => by
    cases h with
    | tup h1 h2 => exact .tup (h1.mono e) (Reps.mono e ds _ h2)
  | .obj c ds, _, h => by
    cases h with
    | obj h1 h2 h3 h4 => exact .obj (e.frz _ h1).1 ((e.frz _ h1).2.trans h2) h3 (RepF.mono e ds _ h4)
  | .loc n, _, h => by
    cases h with
    | loc h1 =>
      obtain ⟨l, q⟩ := e.pre
      exact .loc (by rw [q]; exact List.getElem?_append_left (List.getElem?_eq_some_iff.mp h1).1 ▸ h1)
theorem Reps.mono (e : ExF G H G' H') : ∀ (ds : List D) (vs : List V), Reps C G H vs ds → Reps C G' H' vs ds
  | [], _, h => by cases h; exact .nil
  | d :: ds, _, h => by
    cases h with
    | cons h1 h2 => exact .cons (Rep.mono e d _ h1) (Reps.mono e ds _ h2)
theorem RepF.mono (e : ExF G H G' H') : ∀ (ds : List (Str × D)) (vs : List (Str × V)), RepF C G H vs ds → RepF C G' H' vs ds
  | [], _, h => by cases h; exact .nil
  | (f, d) :: ds, _, h => by
    cases h with
    | cons h1 h2 => exact .cons (Rep.mono e d _ h1) (RepF.mono e ds _ h2)
end
theorem Reps.length : ∀ {ds : List D} {vs : List V}, Reps C G H vs ds → vs.length = ds.length
  | [], _, h => by cases h; rfl
  | d :: ds, _, h => by
    cases h with
    | cons h1 h2 => simp [Reps.length h2]
theorem Reps.get : ∀ {ds : List D} {vs : List V} {i : Nat} {d : D}, Reps C G H vs ds → ds[i]? = some d → ∃ v, vs[i]? = some v ∧ Rep C G H v d
  | [], _, _, _, _, e => by simp at e
  | x :: ds, _, 0, d, h, e => by
    cases h with
    | cons h1 h2 =>
      simp at e
      subst e
      exact ⟨_, rfl, h1⟩
  | x :: ds, _, i + 1, d, h, e => by
    cases h with
    | cons h1 h2 =>
      obtain ⟨v, e1, r⟩ := Reps.get (i := i) h2 (by simpa using e)
      exact ⟨v, by simpa using e1, r⟩
theorem Reps.getV : ∀ {ds : List D} {vs : List V} {i : Nat} {v : V}, Reps C G H vs ds → vs[i]? = some v → ∃ d, ds[i]? = some d ∧ Rep C G H v d := fun {ds vs i v} h e => by
  have hi : i < ds.length := by rw [← h.length]; exact (List.getElem?_eq_some_iff.mp e).1
  obtain ⟨v', e', r⟩ := h.get (List.getElem?_eq_getElem hi)
  rw [e] at e'
  cases e'
  exact ⟨_, List.getElem?_eq_getElem hi, r⟩
theorem Reps.append : ∀ {ds es : List D} {vs us : List V}, Reps C G H vs ds → Reps C G H us es → Reps C G H (vs ++ us) (ds ++ es)
  | [], _, _, _, h, k => by cases h; exact k
  | d :: ds, _, _, _, h, k => by
    cases h with
    | cons h1 h2 => exact .cons h1 (Reps.append h2 k)
theorem Reps.take : ∀ {ds : List D} {vs : List V} (n : Nat), Reps C G H vs ds → Reps C G H (vs.take n) (ds.take n)
  | _, _, 0, _ => by simp; exact .nil
  | [], _, _ + 1, h => by cases h; exact .nil
  | d :: ds, _, n + 1, h => by
    cases h with
    | cons h1 h2 => exact .cons h1 (Reps.take n h2)
theorem Reps.drop : ∀ {ds : List D} {vs : List V} (n : Nat), Reps C G H vs ds → Reps C G H (vs.drop n) (ds.drop n)
  | _, _, 0, h => by simpa using h
  | [], _, _ + 1, h => by cases h; exact .nil
  | d :: ds, _, n + 1, h => by
    cases h with
    | cons h1 h2 => exact Reps.drop n h2
theorem Reps.one {v : V} {d : D} (h : Rep C G H v d) : Reps C G H [v] [d] := .cons h .nil
mutual
theorem Rep.dp : ∀ (d : D) (v : V), Rep C G H v d → d.plain = true → Dp C.K H v d.py
  | .non, _, h, _ => by cases h; exact .non
  | .bl _, _, h, _ => by cases h; exact .bl _
  | .int _, _, h, _ => by cases h; exact .int _
  | .str _, _, h, _ => by cases h; exact .str _
  | .ty _, _, _, p => by cases p
  | .lst ds, _, h, p => by
    cases h with
    | lst h1 h2 => exact .lst h1.seq (Reps.dp ds _ h2 p)
  | .tup ds, _, h, p => by
    cases h with
    | tup h1 h2 => exact .tup h1.seq (Reps.dp ds _ h2 p)
  | .obj _ _, _, _, p => by cases p
  | .loc _, _, _, p => by cases p
theorem Reps.dp : ∀ (ds : List D) (vs : List V), Reps C G H vs ds → D.plains ds = true → DpAll C.K H vs (D.pys ds)
  | [], _, h, _ => by cases h; exact .nil
  | d :: ds, _, h, p => by
    have p' := (Bool.and_eq_true_iff.mp (show (d.plain && D.plains ds) = true from p))
    cases h with
    | cons h1 h2 => exact .cons (Rep.dp d _ h1 p'.1) (Reps.dp ds _ h2 p'.2)
end
end
section
variable (C : Ct) (G : Gh) (H : Hp)
/-- what is looked at: frozen, or a slot's own list -/
def RepB (v : V) (d : D) : Prop := Rep C G H v d ∨ ∃ a xs ds i, v = .ref a ∧ d = .lst ds ∧ G.O a = .slot i ∧ H a = some (.lst xs) ∧ Reps C G H xs ds
/-- what an expression gives -/
def RepR (v : V) : RV → Prop
  | .fz d => Rep C G H v d
  | .own ds => ∃ a xs, v = .ref a ∧ G.O a = .tmp ∧ H a = some (.lst xs) ∧ Reps C G H xs ds
def SlotOk (i : Nat) (ov : Option (Option V)) : RV → Prop
  | .fz d => ∃ v, ov = some (some v) ∧ Rep C G H v d
  | .own ds => ∃ a xs, ov = some (some (.ref a)) ∧ G.O a = .slot i ∧ H a = some (.lst xs) ∧ Reps C G H xs ds
def FldOk (n : Nat) (f : Str) (v : V) : RV → Prop
  | .fz d => Rep C G H v d
  | .own ds => ∃ a xs, v = .ref a ∧ G.O a = .sub n f ∧ H a = some (.lst xs) ∧ Reps C G H xs ds
def FldsOk (n : Nat) (fs : List (Str × RV)) (vs : List (Str × V)) : Prop := Paired (fun (p : Str × RV) (q : Str × V) => p.1 = q.1 ∧ FldOk C G H n p.1 q.2 p.2) fs vs
def cellsStr : Str := ⟨#[99]⟩
def ObOk (n : Nat) (a : Addr) : Ob → Prop
  | .dead => True
  | .bag b => G.O a = .obj n ∧ ∃ c, H a = some (.lst [.ref c, .int b.pos, .int b.big, .int b.seed, .int b.many]) ∧ G.O c = .sub n cellsStr ∧ H c = some (.lst (b.cells.map .int)) ∧ b.Ok
  | .ins c fs => G.O a = .obj n ∧ ∃ A dx vs, C.cad c = some A ∧ H a = some (.ins A dx vs) ∧ FldsOk C G H n fs vs
structure SatS (S : Mem) : Prop where
  fr : ∀ a, H a = none → G.O a = .free
  ll : G.L.length = S.objs.length
  ob : ∀ n o, S.objs[n]? = some o → ∃ a, G.L[n]? = some a ∧ ObOk C G H n a o
structure Sat (σ : L2.St) (ρ : Rho) (S : Mem) : Prop extends SatS C G H S where
  sl : ∀ i r, ρ[i]? = some (some r) → SlotOk C G H i σ[i]? r
  ln : ρ.length = σ.length
end
section
variable {C : Ct} {G G' : Gh} {H H' : Hp} {σ : L2.St} {ρ ρ' : Rho} {S : Mem}
theorem RepB.mono {v : V} {d : D} (e : ExE G H G' H') (h : RepB C G H v d) : RepB C G' H' v d := by
  rcases h with h | ⟨a, xs, ds, i, rfl, rfl, h1, h2, h3⟩
  · exact .inl (Rep.mono e.toExF d v h)
  · obtain ⟨q | q, e1⟩ := e.slt a i h1
    · exact .inr ⟨a, xs, ds, i, rfl, rfl, q, e1.trans h2, Reps.mono e.toExF ds xs h3⟩
    · exact .inl (.lst (.inl ⟨q, .inl (e1.trans h2)⟩) (Reps.mono e.toExF ds xs h3))
theorem RepB.dp {v : V} {d : D} (h : RepB C G H v d) (p : d.plain = true) : Dp C.K H v d.py := by
  rcases h with h | ⟨a, xs, ds, i, rfl, rfl, h1, h2, h3⟩
  · exact Rep.dp d v h p
  · exact .lst (SqL.of h2) (Reps.dp ds xs h3 p)
theorem RepB.lst {v : V} {ds : List D} (h : RepB C G H v (.lst ds)) : ∃ a xs, v = .ref a ∧ SqL C.K H a xs ∧ Reps C G H xs ds := by
  rcases h with h | ⟨a, xs, es, i, rfl, e, h1, h2, h3⟩
  · cases h with
    | lst h1 h2 => exact ⟨_, _, rfl, h1.seq, h2⟩
  · cases e
    exact ⟨_, _, rfl, SqL.of h2, h3⟩
theorem RepB.rep {v : V} {d : D} (h : RepB C G H v d) (n : ∀ ds, d ≠ .lst ds) : Rep C G H v d := by
  rcases h with h | ⟨a, xs, ds, i, rfl, e, h1, h2, h3⟩
  · exact h
  · exact (n ds e).elim
/-- what is frozen or an object's is kept -/
def KeepC (G : Gh) (H : Hp) (G' : Gh) (H' : Hp) : Prop := G'.L = G.L ∧ ∀ a, (G.O a = .frz ∨ (∃ n, G.O a = .obj n) ∨ ∃ n f, G.O a = .sub n f) → G'.O a = G.O a ∧ H' a = H a
theorem KeepC.exF (k : KeepC G H G' H') : ExF G H G' H' := ⟨fun a h => ⟨(k.2 a (.inl h)).1.trans h, (k.2 a (.inl h)).2⟩, [], by rw [k.1]; simp⟩
/-- the owners but the temporaries are kept, and what they own -/
def Keep (G : Gh) (H : Hp) (G' : Gh) (H' : Hp) : Prop := G'.L = G.L ∧ ∀ a, G.O a ≠ .free → G.O a ≠ .tmp → G'.O a = G.O a ∧ H' a = H a
theorem Keep.exE (k : Keep G H G' H') : ExE G H G' H' :=
  ⟨⟨⟨fun a h => ⟨(k.2 a (by rw [h]; decide) (by rw [h]; decide)).1.trans h, (k.2 a (by rw [h]; decide) (by rw [h]; decide)).2⟩, [], by rw [k.1]; simp⟩,
    fun a h => ⟨(k.2 a (by rw [h]; decide) (by rw [h]; decide)).1.trans h, (k.2 a (by rw [h]; decide) (by rw [h]; decide)).2⟩⟩,
    fun a i h => ⟨.inl ((k.2 a (by rw [h]; simp) (by rw [h]; simp)).1.trans h), (k.2 a (by rw [h]; simp) (by rw [h]; simp)).2⟩⟩
theorem Keep.keepC (k : Keep G H G' H') : KeepC G H G' H' := ⟨k.1, fun a h => by
  rcases h with h | ⟨n, h⟩ | ⟨n, f, h⟩ <;> exact k.2 a (by rw [h]; simp) (by rw [h]; simp)⟩
/-- what is frozen or the object n's is kept -/
def KeepN (n : Nat) (G : Gh) (H : Hp) (G' : Gh) (H' : Hp) : Prop := (∃ l, G'.L = G.L ++ l) ∧ ∀ a, (G.O a = .frz ∨ G.O a = .obj n ∨ ∃ f, G.O a = .sub n f) → G'.O a = G.O a ∧ H' a = H a
theorem KeepC.keepN (k : KeepC G H G' H') (n : Nat) : KeepN n G H G' H' := ⟨⟨[], by rw [k.1]; simp⟩, fun a h => k.2 a (by
  rcases h with h | h | ⟨f, h⟩
  · exact .inl h
  · exact .inr (.inl ⟨n, h⟩)
  · exact .inr (.inr ⟨n, f, h⟩))⟩
theorem KeepN.exF {n : Nat} (k : KeepN n G H G' H') : ExF G H G' H' := ⟨fun a h => ⟨(k.2 a (.inl h)).1.trans h, (k.2 a (.inl h)).2⟩, k.1⟩
theorem FldOk.keep {n : Nat} (k : KeepN n G H G' H') {f : Str} {v : V} : ∀ {r : RV}, FldOk C G H n f v r → FldOk C G' H' n f v r
  | .fz d, h => Rep.mono k.exF d v h
  | .own ds, ⟨a, xs, e, h1, h2, h3⟩ => ⟨a, xs, e, (k.2 a (.inr (.inr ⟨_, h1⟩))).1.trans h1, (k.2 a (.inr (.inr ⟨_, h1⟩))).2.trans h2, Reps.mono k.exF ds xs h3⟩
theorem ObOk.keep {n : Nat} (k : KeepN n G H G' H') {a : Addr} : ∀ {o : Ob}, ObOk C G H n a o → ObOk C G' H' n a o
  | .dead, _ => trivial
  | .bag b, ⟨h1, c, h2, h3, h4, h5⟩ => ⟨(k.2 a (.inr (.inl h1))).1.trans h1, c, (k.2 a (.inr (.inl h1))).2.trans h2,
      (k.2 c (.inr (.inr ⟨_, h3⟩))).1.trans h3, (k.2 c (.inr (.inr ⟨_, h3⟩))).2.trans h4, h5⟩
  | .ins c fs, ⟨h1, A, dx, vs, h2, h3, h4⟩ => ⟨(k.2 a (.inr (.inl h1))).1.trans h1, A, dx, vs, h2, (k.2 a (.inr (.inl h1))).2.trans h3, L2.Paired.mapP h4 fun p q z => ⟨z.1, z.2.keep k⟩⟩
theorem SatS.keepC (s : SatS C G H S) (k : KeepC G H G' H') (fr : ∀ a, H' a = none → G'.O a = .free) : SatS C G' H' S :=
  ⟨fr, by rw [k.1]; exact s.ll, fun n o e => let ⟨a, e1, h⟩ := s.ob n o e; ⟨a, by rw [k.1]; exact e1, h.keep (k.keepN n)⟩⟩
/-- one object is another one; nothing else has changed -/
theorem SatS.upd1 (s : SatS C G H S) {n : Nat} {a : Addr} {o' : Ob} (ha : G.L[n]? = some a) (ho : G.O a = .obj n) (hH : ∀ x, x ≠ a → H x ≠ none → H' x = H x) (hn : H' a ≠ none) (new : ObOk C G H' n a o') : SatS C G H' ⟨S.objs.set n o'⟩ := by
  refine ⟨fun x hx => ?_, ?_, fun m o hm => ?_⟩
  · have : x ≠ a := fun e => hn (by rw [← e]; exact hx)
    refine s.fr x (Classical.byContradiction fun q => q ?_)
    rw [← hH x this q]
    exact hx
  · show G.L.length = (S.objs.set n o').length
    rw [List.length_set]
    exact s.ll
  · have hm : (S.objs.set n o')[m]? = some o := hm
    by_cases e : m = n
    · subst e
      have hl := (List.getElem?_eq_some_iff.mp hm).1
      rw [List.length_set] at hl
      rw [List.getElem?_set_self hl] at hm
      cases hm
      exact ⟨a, ha, new⟩
    · rw [List.getElem?_set_ne (Ne.symm e)] at hm
      obtain ⟨b, hb, q⟩ := s.ob m o hm
      refine ⟨b, hb, q.keep ⟨⟨[], by simp⟩, fun x hx => ⟨rfl, hH x (fun z => ?_) fun z => ?_⟩⟩⟩
      · rw [z, ho] at hx
        rcases hx with h | h | ⟨f, h⟩ <;> cases h
        exact e rfl
      · rw [s.fr x z] at hx
        rcases hx with h | h | ⟨f, h⟩ <;> cases h
theorem SatS.keep (s : SatS C G H S) (k : Keep G H G' H') (fr : ∀ a, H' a = none → G'.O a = .free) : SatS C G' H' S := s.keepC k.keepC fr
theorem SlotOk.keep (k : Keep G H G' H') {i : Nat} {ov : Option (Option V)} : ∀ {r : RV}, SlotOk C G H i ov r → SlotOk C G' H' i ov r
  | .fz d, ⟨v, e, h⟩ => ⟨v, e, Rep.mono k.exE.toExF d v h⟩
  | .own ds, ⟨a, xs, e, h1, h2, h3⟩ => ⟨a, xs, e, (k.2 a (by rw [h1]; simp) (by rw [h1]; simp)).1.trans h1, (k.2 a (by rw [h1]; simp) (by rw [h1]; simp)).2.trans h2, Reps.mono k.exE.toExF ds xs h3⟩
theorem Sat.keep (s : Sat C G H σ ρ S) (k : Keep G H G' H') (fr : ∀ a, H' a = none → G'.O a = .free) : Sat C G' H' σ ρ S :=
  ⟨s.toSatS.keep k fr, fun i r e => (s.sl i r e).keep k, s.ln⟩
/-- a new object -/
theorem Sat.new (s : Sat C G H σ ρ S) {p : Addr} {o : HO} {w : Own} (hp : H p = none) : Keep G H (G.set p w) (upd H p o) ∧ Sat C (G.set p w) (upd H p o) σ ρ S := by
  have hf := s.fr p hp
  have k : Keep G H (G.set p w) (upd H p o) := ⟨rfl, fun a h1 h2 => by
    have ne : a ≠ p := fun e => h1 (by rw [e]; exact hf)
    exact ⟨Gh.set_ne ne, upd_ne ne⟩⟩
  refine ⟨k, s.keep k fun a e => ?_⟩
  by_cases ha : a = p
  · subst ha
    rw [upd_same] at e
    cases e
  · rw [upd_ne ha] at e
    rw [Gh.set_ne ha]
    exact s.fr a e
/-- a temporary is frozen, or given another owner -/
theorem Sat.retmp (s : Sat C G H σ ρ S) {p : Addr} {w : Own} (hp : G.O p = .tmp) : Keep G H (G.set p w) H ∧ Sat C (G.set p w) H σ ρ S := by
  have k : Keep G H (G.set p w) H := ⟨rfl, fun a h1 h2 => by
    have ne : a ≠ p := fun e => h2 (by rw [e]; exact hp)
    exact ⟨Gh.set_ne ne, rfl⟩⟩
  refine ⟨k, s.keep k fun a e => ?_⟩
  by_cases ha : a = p
  · subst ha
    have := s.fr a e
    rw [hp] at this
    cases this
  · rw [Gh.set_ne ha]
    exact s.fr a e
/-- what an expression gave, frozen -/
theorem RepR.freeze {v : V} {r : RV} (s : Sat C G H σ ρ S) (h : RepR C G H v r) : ∃ G', ExE G H G' H ∧ Sat C G' H σ ρ S ∧ Rep C G' H v r.d := by
  cases r with
  | fz d => exact ⟨G, .refl G H, s, h⟩
  | own ds =>
    obtain ⟨a, xs, rfl, h1, h2, h3⟩ := h
    obtain ⟨k, s'⟩ := s.retmp (w := .frz) h1
    exact ⟨_, k.exE, s', .lst (.inl ⟨Gh.set_same, .inl h2⟩) (Reps.mono k.exE.toExF ds xs h3)⟩
/-- an exception on its way -/
def ErrOk (C : Ct) (G : Gh) (H : Hp) (c : Value) (d : Option Addr) (x : Err) : Prop :=
  ∃ A e vs, c = .ref A ∧ C.cad x.cls = some A ∧ d = some e ∧ H e = some (.xd vs) ∧ (∀ f, match x.fs.lookup f with
    | some y => ∃ v, vs.lookup f = some v ∧ Rep C G H v y
    | none => vs.lookup f = none)
end
/-- an outcome: where it is right, P of what it gives; where an exception leaves, W -/
def At {α β : Type} (C : Ct) (W : WX) (σ : L2.St) (G : Gh) (H : Hp) (r : Res α) (R : Gh → Hp → β → α → Prop) (Q : β → Hp → Prop) : Prop := match r with
  | .ok a ρ S => ∀ b G' H', ExE G H G' H' → Sat C G' H' σ ρ S → R G' H' b a → Q b H'
  | .exc x ρ S => ∀ c d G' H', ExE G H G' H' → Sat C G' H' σ ρ S → ErrOk C G' H' c d x → W c d σ H'
  | .bad => False
def Tr {α β : Type} (C : Ct) (W : WX) (m : Rho → Mem → Res α) (R : Gh → Hp → β → α → Prop) : L2.St → Hp → (β → Hp → Prop) → Prop := fun σ H Q => ∃ G ρ S, Sat C G H σ ρ S ∧ At C W σ G H (m ρ S) R Q
section
variable {C : Ct} {W : WX} {σ : L2.St} {G G1 : Gh} {H H1 : Hp} {α β γ δ : Type} {R : Gh → Hp → β → α → Prop} {Q : β → Hp → Prop} {r : Res α}
theorem At.ext (h : At C W σ G H r R Q) (e : ExE G H G1 H1) : At C W σ G1 H1 r R Q := by
  cases r with
  | ok a ρ S => exact fun b G' H' e' s q => h b G' H' (e.trans e') s q
  | exc x ρ S => exact fun c d G' H' e' s q => h c d G' H' (e.trans e') s q
  | bad => exact h
theorem At.bind {r1 : Res γ} {R1 : Gh → Hp → δ → γ → Prop} {f : γ → Rho → Mem → Res α} (h : At C W σ G H (r1.bind f) R Q) :
    At C W σ G H r1 R1 fun b1 H1 => ∃ G1 ρ1 S1 a1, ExE G H G1 H1 ∧ Sat C G1 H1 σ ρ1 S1 ∧ R1 G1 H1 b1 a1 ∧ At C W σ G1 H1 (f a1 ρ1 S1) R Q := by
  cases r1 with
  | ok a ρ S => exact fun b G' H' e s q => ⟨G', ρ, S, a, e, s, q, At.ext h e⟩
  | exc x ρ S => exact h
  | bad => exact h
theorem At.mono {Q' : β → Hp → Prop} (h : At C W σ G H r R Q) (hq : ∀ b H, Q b H → Q' b H) : At C W σ G H r R Q' := by
  cases r with
  | ok a ρ S => exact fun b G' H' e s q => hq _ _ (h b G' H' e s q)
  | exc x ρ S => exact h
  | bad => exact h
theorem At.map {f : α → γ} {R1 : Gh → Hp → δ → γ → Prop} {Q1 : δ → Hp → Prop} (h : At C W σ G H (r.map f) R1 Q1) (hr : ∀ G' H' ρ S b a, ExE G H G' H' → Sat C G' H' σ ρ S → R G' H' b a → (∀ c G2, ExE G' H' G2 H' → Sat C G2 H' σ ρ S → R1 G2 H' c (f a) → Q1 c H') → Q b H') : At C W σ G H r R Q := by
  cases r with
  | ok a ρ S => exact fun b G' H' e s q => hr G' H' ρ S b a e s q fun c G2 e2 s2 q2 => h c G2 H' (e.trans e2) s2 q2
  | exc x ρ S => exact h
  | bad => exact h
/-- raw to frozen -/
theorem Tr.freeze {m : Rho → Mem → Res RV} {Q : VK} (h : Tr C W (fun ρ S => (m ρ S).map RV.d) (Rep C) σ H Q) : Tr C W m (RepR C) σ H Q := by
  obtain ⟨G, ρ, S, s, h⟩ := h
  refine ⟨G, ρ, S, s, At.map h fun G' H' ρ' S' b a e s' r k => ?_⟩
  obtain ⟨G2, e2, s2, r2⟩ := r.freeze s'
  exact k b G2 e2 s2 r2
end
end Sh


/-! ShExp: from the syntax tree to the small language; the operators. -/
namespace Sh
open PySem PySem.Spec PyProof.Rows L2

/-- where a name stands: the slots' names, the scope, which cells may be stored -/
structure CC where
  F : List Str
  N : List Str
  sc : Scope
  fn : Str → Bool
def nameOk (x : Str) : Bool := !(x == ("__debug__" : Str)) && !(x == ("__classdict__" : Str)) && !(x == ("__name__" : Str))
def isVis (c : CC) (x : Str) : Bool := match c.sc.names.lookup x with
  | some .local => true
  | some .cell => true
  | some .free => true
  | _ => false
def isGlob (c : CC) (x : Str) : Bool := match c.sc.names.lookup x with
  | some .globalImplicit => true
  | _ => false
def ixOf (N : List Str) (x : Str) : Option Nat := match N with
  | [] => none
  | y :: ys => if y = x then some 0 else (ixOf ys x).map (· + 1)
theorem ixOf_get {N : List Str} {x : Str} {i : Nat} (h : ixOf N x = some i) : N[i]? = some x := by
  induction N generalizing i with
  | nil => cases h
  | cons y ys ih =>
    unfold ixOf at h
    split at h
    · rename_i e
      cases h
      simp [e]
    · cases e : ixOf ys x with
      | none => rw [e] at h; cases h
      | some j =>
        rw [e] at h
        cases h
        simpa using ih e
def bltOf (x : Str) : Option Blt := if x = "len" then some .len else if x = "int" then some .int else if x = "all" then some .all else if x = "list" then some .list else if x = "tuple" then some .tuple else none
def bltNames : List Str := ["len", "int", "all", "list", "tuple", "isinstance", "str", "bool", "range", "zip"]
def tyOf (x : Str) : Option String := if x = "int" then some "int" else if x = "list" then some "list" else if x = "tuple" then some "tuple" else if x = "str" then some "str" else if x = "bool" then some "bool" else none
def o1 {α β : Type} (f : α → β) (x : Option α) : Option β := x.map f
def o2 {α β γ : Type} (f : α → β → γ) (x : Option α) (y : Option β) : Option γ := x.bind fun a => y.map (f a)
def o3 {α β γ δ : Type} (f : α → β → γ → δ) (x : Option α) (y : Option β) (z : Option γ) : Option δ := x.bind fun a => y.bind fun b => z.map (f a b)
theorem o1_some {α β : Type} {f : α → β} {x : Option α} {l : β} (h : o1 f x = some l) : ∃ a, x = some a ∧ l = f a := by
  cases x with
  | none => cases h
  | some a => cases h; exact ⟨a, rfl, rfl⟩
theorem o2_some {α β γ : Type} {f : α → β → γ} {x : Option α} {y : Option β} {l : γ} (h : o2 f x y = some l) : ∃ a b, x = some a ∧ y = some b ∧ l = f a b := by
  cases x with
  | none => cases h
  | some a =>
    cases y with
    | none => cases h
    | some b => cases h; exact ⟨a, b, rfl, rfl, rfl⟩
theorem o3_some {α β γ δ : Type} {f : α → β → γ → δ} {x : Option α} {y : Option β} {z : Option γ} {l : δ} (h : o3 f x y z = some l) : ∃ a b c, x = some a ∧ y = some b ∧ z = some c ∧ l = f a b c := by
  cases x with
  | none => cases h
  | some a =>
    cases y with
    | none => cases h
    | some b =>
      cases z with
      | none => cases h
      | some c => cases h; exact ⟨a, b, c, rfl, rfl, rfl, rfl⟩
def compL (f : Expr → Option LE) : List Expr → Option LEs
  | [] => some .nil
  | e :: es => o2 .cons (f e) (compL f es)
def compB (f : Expr → Option LE) (g : LE → LE → LE) : List Expr → Option LE
  | [] => none
  | [e] => f e
  | e :: es => o2 g (f e) (compB f g es)
def compO (f : Expr → Option LE) : Option Expr → Option LEo
  | none => some .no
  | some e => (f e).map .so
def compK (f : Expr → Option LE) : List Keyword → Option (List Str × LEs)
  | [] => some ([], .nil)
  | ⟨some x, e, _⟩ :: r => o2 (fun l (p : List Str × LEs) => (x :: p.1, LEs.cons l p.2)) (f e) (compK f r)
  | _ => none
def tyE (c : CC) : Expr → Option String
  | .Name x _ => if isGlob c x then tyOf x else none
  | _ => none
def tysE (c : CC) : Expr → Option (List String)
  | .Name x p => (tyE c (.Name x p)).map fun t => [t]
  | _ => none
def slotN (c : CC) (x : Str) : Option Nat := if isVis c x then ixOf c.N x else none
/-- a name that may be stored -/
def stoN (c : CC) (x : Str) : Option Nat := match c.sc.names.lookup x with
  | some .local => ixOf c.N x
  | some .cell => if c.fn x then ixOf c.N x else none
  | _ => none
def stoNs (c : CC) : List Expr → Option (List Nat)
  | [] => some []
  | .Name x _ :: es => o2 List.cons (stoN c x) (stoNs c es)
  | _ => none
def compT (c : CC) : Expr → Option Tg
  | .Name x _ => (stoN c x).map .name
  | .Tuple es _ _ => (stoNs c es).map .tup
  | _ => none
/-- the names that a block has for itself, with their slots -/
def ownOf (N : List Str) : List (Str × NameKind) → List (Str × Nat)
  | [] => []
  | (x, k) :: r => match k, ixOf N x with
    | .local, some i => (x, i) :: ownOf N r
    | .cell, some i => (x, i) :: ownOf N r
    | _, _ => ownOf N r
def Tg.slots : Tg → List Nat
  | .name i => [i]
  | .tup is => is
def tgIn (vs : List Nat) : Option Tg → Bool
  | some t => t.slots.all fun i => vs.contains i
  | none => false
def compI (c : CC) (f : Expr → Option LE) : Expr → Option LI
  | .Call (.Name x _) [a] [] _ => if x = "range" then (if isGlob c x then (f a).map .rng else none) else none
  | .Call (.Name x _) [a, b] [] _ => if x = "zip" then (if isGlob c x then o2 .zip (f a) (f b) else none) else none
  | e => (f e).map .seq
/-- pairs go to a target of several names -/
def zipTg : Expr → Expr → Bool
  | .Call (.Name _ _) [_, _] [] _, .Tuple _ _ _ => true
  | .Call (.Name _ _) [_, _] [] _, _ => false
  | _, _ => true
def noSlice : Expr → Bool
  | .Slice _ _ _ _ => false
  | .Starred _ _ => false
  | _ => true
/-- an expression of the tree as one of the small language -/
def comp : Nat → CC → Expr → Option LE
  | 0, _, _ => none
  | n + 1, c, e => match e with
    | .Name x _ => if nameOk x then (if isVis c x then (ixOf c.N x).map .var else if isGlob c x then (ixOf c.F x).map .glob else none) else none
    | .Constant .none _ _ => some .non
    | .Constant (.bool b) _ _ => some (.bl b)
    | .Constant (.int i) _ _ => some (.int i)
    | .Constant (.str x) _ _ => some (.str x)
    | .BinOp (.List es _) .Mult b _ => o2 .rep (compL (comp n c) es) (comp n c b)
    | .BinOp a op b _ => o2 (.bin op) (comp n c a) (comp n c b)
    | .UnaryOp .USub a _ => o1 .neg (comp n c a)
    | .UnaryOp .Not a _ => o1 .not (comp n c a)
    | .Compare a [op] [b] _ => if behindInMarks op b then none else o2 (.cmp op) (comp n c a) (comp n c b)
    | .Compare a [op, op2] [b, d] _ => if lastMarks [op, op2] [b, d] then none else o3 (.chn op op2) (comp n c a) (comp n c b) (comp n c d)
    | .BoolOp .And es _ => compB (comp n c) .and es
    | .BoolOp .Or es _ => compB (comp n c) .or es
    | .IfExp t a b _ => o3 .ite (comp n c t) (comp n c a) (comp n c b)
    | .Tuple es _ _ => o1 .tup (compL (comp n c) es)
    | .List es _ => o1 .lst (compL (comp n c) es)
    | .Subscript a (.Slice lo hi none _) _ => o3 .slc (comp n c a) (compO (comp n c) lo) (compO (comp n c) hi)
    | .Subscript a i _ => if noSlice i then o2 .idx (comp n c a) (comp n c i) else none
    | .Call (.Name f _) es [] _ => if nameOk f && isGlob c f then
        (if f = "isinstance" then (match es with
          | [a, .Name x _] => o2 (fun l t => LE.isi l [t]) (comp n c a) (if isGlob c x then tyOf x else none)
          | [a, .Tuple [.Name x _, .Name y _] _ _] => o3 (fun l t u => LE.isi l [t, u]) (comp n c a) (if isGlob c x then tyOf x else none) (if isGlob c y then tyOf y else none)
          | _ => none)
        else match bltOf f with
          | some b => o1 (.bcl b) (match es with | [] => none | _ => compL (comp n c) es)
          | none => o2 .call (ixOf c.F f) (compL (comp n c) es))
      else none
    | .Call (.Name f _) es (k :: ks) _ => if nameOk f && isGlob c f then o3 (fun i l (p : List Str × LEs) => LE.callk i es.length l p.1 p.2) (ixOf c.F f) (compL (comp n c) es) (compK (comp n c) (k :: ks)) else none
    | .Call (.Attribute s m apos) [a] [] cpos => if m = "join" && apos.endLine == cpos.line then (match s with
        | .Constant (.str x) _ _ => o1 (.join (.str x)) (comp n c a)
        | _ => none) else none
    | .ListComp elt [⟨tg, it, ifs, 0⟩] scope _ =>
      if blkC c.N c.sc scope (ownOf c.N scope.names) && tgIn ((ownOf c.N scope.names).map (·.2)) (compT ⟨c.F, c.N, relS scope c.sc, fun x => scope.names.lookup x == some .cell⟩ tg) && zipTg it tg then
        o2 (fun (p : LE × Tg) (q : LI × LEs) => LE.lc ((ownOf c.N scope.names).map (·.2)) p.1 p.2 q.1 q.2)
          (o2 Prod.mk (comp n ⟨c.F, c.N, relS scope c.sc, fun x => scope.names.lookup x == some .cell⟩ elt) (compT ⟨c.F, c.N, relS scope c.sc, fun x => scope.names.lookup x == some .cell⟩ tg))
          (o2 Prod.mk (compI c (comp n c) it) (match ifs with
            | [] => some .nil
            | [t] => compL (comp n ⟨c.F, c.N, relS scope c.sc, fun x => scope.names.lookup x == some .cell⟩) [t]
            | _ => none))
      else none
    | _ => none

/-! ### promises -/
def spOf (C : Ct) (np : Nat) (m : Fn) : Sp := fun vs H Q E => vs.length = np ∧ ∃ ds G S, Reps C G H vs ds ∧ SatS C G H S ∧ (∀ a i, G.O a ≠ .slot i) ∧
  match m ds S with
  | .ok r S' => ∀ v G' H', ExC G H G' H' → SatS C G' H' S' → (∀ a i, G'.O a ≠ .slot i) → RepR C G' H' v r → Q v H'
  | .exc x S' => ∀ c d G' H', ExC G H G' H' → SatS C G' H' S' → (∀ a i, G'.O a ≠ .slot i) → ErrOk C G' H' c d x → E c d H'
  | .bad => False
structure TabOk (P : Program) (w : World) (K : PySem.W.Frag) (mg : Str → Option Value) (base : Heap) (cad : Str → Option Addr) (F : List Str) (T : Tab) (n : Nat) : Prop where
  fn : ∀ i m, T.fn i = some m → ∀ f, F[i]? = some f → ∃ a fd ps, mg f = some (.ref a) ∧ PySem.W.keepIn K (.ref a) = true ∧ FnOk P w K mg base (L2.CX P w) n a fd ps (spOf ⟨K, cad⟩ ps.length m) ∧ Binds K fd ps [] ∧ ∀ ds S, m ds S ≠ .bad → ds.length = ps.length
  fnk : ∀ i ks n' m perm, T.fnk i ks n' = some (m, perm) → ∀ f, F[i]? = some f → ∃ a fd ps, mg f = some (.ref a) ∧ PySem.W.keepIn K (.ref a) = true ∧ FnOk P w K mg base (L2.CX P w) n a fd ps (spOf ⟨K, cad⟩ ps.length m) ∧
    (∀ (s : Shared) (us ws xs : List Value), K.In s.heap → us.length = n' → ws.length = ks.length → pick perm (us ++ ws) = some xs → xs.length = ps.length → BindsTo s fd ⟨us, ks.zip ws⟩ (ps.zip xs)) ∧ ∀ ds S, m ds S ≠ .bad → ds.length = ps.length
  gl : ∀ i d, T.gl i = some d → ∀ x, F[i]? = some x → ∃ u v, mg x = some u ∧ RelV v u ∧ ∀ G H, Rep ⟨K, cad⟩ G H v d
  bl : ∀ b, b ∈ bltNames → mg b = none
abbrev ct (X : Cx) (cad : Str → Option Addr) : Ct := ⟨X.K, cad⟩
structure Good (X : Cx) (cad : Str → Option Addr) (T : Tab) (W : WX) (n : Nat) (c : CC) : Prop where
  N : X.N = c.N
  sc : X.env.scope = c.sc
  nd : X.N.Nodup
  fn : ∀ x, c.fn x = true → X.fn x = true
  calm : X.calm = true
  room : Room n X.A
  tk : Takes X W
  tab : TabOk X.prog X.w X.K X.mg X.base cad c.F T n

theorem PE.weak {X : Cx} {e : Expr} {t t' : TE} (p : PE X e t) (h : ∀ σ H Q, t' σ H Q → t σ H Q) : PE X e t' := ⟨fun pins s σ H Q I q => p.run pins s σ H Q I (h _ _ _ q)⟩
theorem PT.weak {X : Cx} {e : Expr} {t t' : TT} (p : PT X e t) (h : ∀ σ H Q, t' σ H Q → t σ H Q) : PT X e t' := ⟨fun pins s σ H Q I q => p.run pins s σ H Q I (h _ _ _ q)⟩
theorem PW.weak {X : Cx} {e : Expr} {t t' : TT} (p : PW X e t) (h : ∀ σ H Q, t' σ H Q → t σ H Q) : PW X e t' := ⟨fun wh pins s σ H Q I q => p.run wh pins s σ H Q I (h _ _ _ q)⟩
theorem PA.weak {X : Cx} {e : List Expr} {t t' : TA} (p : PA X e t) (h : ∀ σ H Q, t' σ H Q → t σ H Q) : PA X e t' := ⟨fun pos pins s σ H Q I q => p.run pos pins s σ H Q I (h _ _ _ q)⟩
theorem PI.weak {X : Cx} {tg e : Expr} {t t' : TI} (p : PI X tg e t) (h : ∀ σ H Q, t' σ H Q → t σ H Q) : PI X tg e t' := ⟨fun pins s σ H Q I q => p.run pins s σ H Q I (h _ _ _ q)⟩
theorem PO.weak {X : Cx} {e : Option Expr} {t t' : TO} (p : PO X e t) (h : ∀ σ H Q, t' σ H Q → t σ H Q) : PO X e t' := ⟨fun pins s σ H Q I q => p.run pins s σ H Q I (h _ _ _ q)⟩

/-! ### the operators, by what stands for the data -/
section
variable {X : Cx} {cad : Str → Option Addr} {W : WX}
/-- a state in which two values stand for data -/
def St2 (C : Ct) (W : WX) (x y : V) (H : Hp) (f : D → D → Option RV) (Q : VK) : Prop :=
  ∃ σ G ρ S d e, Sat C G H σ ρ S ∧ RepB C G H x d ∧ RepB C G H y e ∧ At C W σ G H (ofO (f d e) ρ S) (RepR C) Q
/-- a new tuple stands for .. -/
theorem new_tup {C : Ct} {σ : L2.St} {ρ : Rho} {S : Mem} {G : Gh} {H : Hp} {p : Addr} {vs : List V} {ds : List D} {Q : VK} (s : Sat C G H σ ρ S) (hp : H p = none) (r : Reps C G H vs ds) (h : At C W σ G H (.ok (.fz (.tup ds)) ρ S) (RepR C) Q) : Q (.ref p) (upd H p (.tup vs)) := by
  obtain ⟨k, s'⟩ := s.new (o := .tup vs) (w := .frz) hp
  exact h _ _ _ k.exE s' (.tup (.inl ⟨Gh.set_same, upd_same⟩) (Reps.mono k.exE.toExF ds vs r))
theorem new_lst {C : Ct} {σ : L2.St} {ρ : Rho} {S : Mem} {G : Gh} {H : Hp} {p : Addr} {vs : List V} {ds : List D} {Q : VK} (s : Sat C G H σ ρ S) (hp : H p = none) (r : Reps C G H vs ds) (h : At C W σ G H (.ok (.own ds) ρ S) (RepR C) Q) : Q (.ref p) (upd H p (.lst vs)) := by
  obtain ⟨k, s'⟩ := s.new (o := .lst vs) (w := .tmp) hp
  exact h _ _ _ k.exE s' ⟨p, vs, rfl, Gh.set_same, upd_same, Reps.mono k.exE.toExF ds vs r⟩
theorem here {C : Ct} {σ : L2.St} {ρ : Rho} {S : Mem} {G : Gh} {H : Hp} {v : V} {d : D} {Q : VK} (s : Sat C G H σ ρ S) (r : Rep C G H v d) (h : At C W σ G H (.ok (.fz d) ρ S) (RepR C) Q) : Q v H := h _ _ _ (.refl G H) s r
theorem bint {C : Ct} {G : Gh} {H : Hp} {v : V} {i : Int} (h : RepB C G H v (.int i)) : v = .int i := by
  have := h.rep (fun _ e => nomatch e)
  cases this
  rfl
theorem bstr {C : Ct} {G : Gh} {H : Hp} {v : V} {x : Str} (h : RepB C G H v (.str x)) : v = .str x := by
  have := h.rep (fun _ e => nomatch e)
  cases this
  rfl
theorem bnon {C : Ct} {G : Gh} {H : Hp} {v : V} (h : RepB C G H v .non) : v = .non := by
  have := h.rep (fun _ e => nomatch e)
  cases this
  rfl
theorem btup {C : Ct} {G : Gh} {H : Hp} {v : V} {ds : List D} (h : RepB C G H v (.tup ds)) : ∃ a xs, v = .ref a ∧ FT C G H a xs ∧ Reps C G H xs ds := by
  have := h.rep (fun _ e => nomatch e)
  cases this with
  | tup h1 h2 => exact ⟨_, _, rfl, h1, h2⟩
theorem LINE_le {n : Nat} (h : n ≤ LINE) : n ≤ sizeLine := by rw [sizeLine_eq]; exact h
theorem reps_rep {C : Ct} {G : Gh} {H : Hp} {xs : List V} {ds : List D} (r : Reps C G H xs ds) : ∀ n : Nat, Reps C G H (List.replicate n xs).flatten (List.replicate n ds).flatten
  | 0 => .nil
  | n + 1 => by
    rw [List.replicate_succ, List.replicate_succ, List.flatten_cons, List.flatten_cons]
    exact r.append (reps_rep r n)
/-- list + list, also locked ones -/
theorem op_catL : OpR X (binaryOp .Add) (fun x y H Q => ∃ l b xs zs, x = .ref l ∧ y = .ref b ∧ SqL X.K H l xs ∧ SqL X.K H b zs ∧ xs.length + zs.length ≤ sizeLine ∧ ∀ p, H p = none → Q (.ref p) (upd H p (.lst (xs ++ zs)))) := by
  intro pins s σ H x y v u Q I rx ry h
  obtain ⟨l, b, xs, zs, rfl, rfl, hH, hB, hz, q⟩ := h
  cases rx
  cases ry
  obtain ⟨its, r, pl, z⟩ := I.list hH
  obtain ⟨its2, r2, pl2, z2⟩ := I.list hB
  obtain ⟨⟨cls, dd, data, sl⟩, ho, hc, n, hd⟩ := pl.isList
  obtain ⟨⟨cls2, dd2, data2, sl2⟩, ho2, hc2, n2, hd2⟩ := pl2.isList
  simp only at hc hd hc2 hd2
  subst hc hd hc2 hd2
  have hl := r.length
  have hl2 := r2.length
  have e : its.toArray ++ its2.toArray = (its ++ its2).toArray := by simp
  refine concat_meets ⟨_, ho, rfl⟩ ⟨_, ho2, rfl⟩ noFill_list_add seq_list_add PySem.F.slot_list_add PySem.F.entry_list_add (PySem.F.args_list_add_2 _ _) (list_addW l b its.toArray its2.toArray n n2 dd dd2 sl sl2 (by rw [List.size_toArray, List.size_toArray]; omega)) ⟨ho, ho2, ?_⟩
  rw [e]
  exact ⟨.ref _, _, I.lnew (t' := s.toks) (r.append r2) (by rw [List.length_append]; omega), rfl, q _ I.fresh⟩
theorem mulOk_C {i j : Int} (h : mulOk i j = true) : CMul i j := by
  unfold mulOk at h
  simp only [Bool.or_eq_true, decide_eq_true_eq] at h
  unfold CMul
  omega
/-- a two-place operation on data -/
theorem op_bin {op : Operator} : OpR X (binaryOp op) (fun x y H Q => St2 (ct X cad) W x y H (opBin op) Q) := by
  intro pins s σ H x y v u Q I rx ry h
  obtain ⟨σ', G, ρ, S, d, e, sat, hx, hy, h⟩ := h
  unfold opBin at h
  split at h
  · have e1 := bint hx; have e2 := bint hy; subst e1 e2
    exact op_add pins s σ H _ _ v u Q I rx ry ⟨_, _, rfl, rfl, here sat (.int _) h⟩
  · have e1 := bstr hx; have e2 := bstr hy; subst e1 e2
    split at h
    · rename_i hz
      exact op_add_str pins s σ H _ _ v u Q I rx ry ⟨_, _, rfl, rfl, LINE_le hz, here sat (.str _) h⟩
    · exact h.elim
  · obtain ⟨a, xs, rfl, hs, r⟩ := hx.lst
    obtain ⟨b, ys, rfl, hs2, r2⟩ := hy.lst
    split at h
    · rename_i hz
      exact op_catL pins s σ H _ _ v u Q I rx ry ⟨_, _, xs, ys, rfl, rfl, hs, hs2, LINE_le (by rw [r.length, r2.length]; exact hz), fun p hp => new_lst sat hp (r.append r2) h⟩
    · exact h.elim
  · obtain ⟨a, xs, rfl, hs, r⟩ := btup hx
    obtain ⟨b, ys, rfl, hs2, r2⟩ := btup hy
    split at h
    · rename_i hz
      have l1 := r.length
      have l2 := r2.length
      refine op_catA pins s σ H _ _ v u Q I rx ry ⟨_, _, xs, ys, rfl, rfl, hs.seq, hs2.seq, LINE_le (by rw [l1, l2]; exact hz), fun e => ?_, fun _ e => ?_, fun _ _ p hp => new_tup sat hp (r.append r2) h⟩
      · subst e
        cases r
        exact here sat (.tup hs2 r2) h
      · subst e
        cases r2
        rw [List.append_nil] at h
        exact here sat (.tup hs r) h
    · exact h.elim
  · have e1 := bint hx; have e2 := bint hy; subst e1 e2
    exact op_sub pins s σ H _ _ v u Q I rx ry ⟨_, _, rfl, rfl, here sat (.int _) h⟩
  · have e1 := bint hx; have e2 := bint hy; subst e1 e2
    split at h
    · rename_i hz
      exact op_mul pins s σ H _ _ v u Q I rx ry ⟨_, _, rfl, rfl, mulOk_C hz, here sat (.int _) h⟩
    · exact h.elim
  · have e1 := bint hx; have e2 := bint hy; subst e1 e2
    split at h
    · rename_i hz
      exact op_fdiv pins s σ H _ _ v u Q I rx ry ⟨_, _, rfl, rfl, ⟨by omega, by omega⟩, here sat (.int _) h⟩
    · exact h.elim
  · have e1 := bint hx; have e2 := bint hy; subst e1 e2
    split at h
    · rename_i hz
      exact op_mod pins s σ H _ _ v u Q I rx ry ⟨_, _, rfl, rfl, by omega, here sat (.int _) h⟩
    · exact h.elim
  · have e1 := bint hx; have e2 := bint hy; subst e1 e2
    split at h
    · rename_i hz
      exact op_pow pins s σ H _ _ v u Q I rx ry ⟨_, _, rfl, rfl, ⟨by omega, by omega, by omega⟩, here sat (.int _) h⟩
    · exact h.elim
  · exact h.elim
end
end Sh


/-! ShOps: comparisons, places, slices, built-ins by what stands for the data. -/
namespace Sh
open PySem PySem.Spec PyProof.Rows L2
section
variable {X : Cx} {cad : Str → Option Addr} {W : WX}
theorem room65 {n : Nat} {A : Around} (r : Room n A) : A.units + 65 < cLine := by have := r.un; omega
def StC (C : Ct) (x y : V) (H : Hp) (op : CmpOp) (Q : VK) : Prop :=
  ∃ σ G ρ S d e k, Sat C G H σ ρ S ∧ RepB C G H x d ∧ RepB C G H y e ∧ opCmp op d e = some k ∧ Q (.bl k) H
theorem anyEqv_eq (d : D) : ∀ ds : List D, ((D.pys ds).any fun z => PyData.eqv z d.py) = anyEqv d ds
  | [] => rfl
  | e :: es => by
    show (PyData.eqv e.py d.py || (D.pys es).any fun z => PyData.eqv z d.py) = (e.eqv d || anyEqv d es)
    rw [anyEqv_eq d es]
    rfl
theorem eqOk_1 {d : D} (h : d.eqOk = true) : d.plain = true := (Bool.and_eq_true_iff.mp h).1
theorem eqOk_2 {d : D} (h : d.eqOk = true) : SeqAt.shaped d.py = true := (Bool.and_eq_true_iff.mp h).2
theorem isNon {C : Ct} {G : Gh} {H : Hp} {v : V} {d : D} (h : RepB C G H v d) : decide (v = .non) = d.isNon := by
  rcases h with h | ⟨a, xs, ds, i, rfl, rfl, _⟩
  · cases h <;> simp [D.isNon]
  · simp [D.isNon]
theorem op_cmp {n : Nat} (hr : Room n X.A) {op : CmpOp} : OpR X (compareOp op) (fun x y H Q => StC (ct X cad) x y H op Q) := by
  intro pins s σ H x y v u Q I rx ry h
  obtain ⟨σ', G, ρ, S, d, e, k, sat, hx, hy, h, q⟩ := h
  have hu := hr.units
  have hu5 := room65 hr
  unfold opCmp at h
  split at h
  · have e1 := bint hx; have e2 := bint hy; subst e1 e2
    cases h
    exact op_lt pins s σ H _ _ v u Q I rx ry ⟨_, _, rfl, rfl, q⟩
  · have e1 := bint hx; have e2 := bint hy; subst e1 e2
    cases h
    exact op_le pins s σ H _ _ v u Q I rx ry ⟨_, _, rfl, rfl, q⟩
  · have e1 := bint hx; have e2 := bint hy; subst e1 e2
    cases h
    exact op_gt pins s σ H _ _ v u Q I rx ry ⟨_, _, rfl, rfl, q⟩
  · have e1 := bint hx; have e2 := bint hy; subst e1 e2
    cases h
    exact op_ge pins s σ H _ _ v u Q I rx ry ⟨_, _, rfl, rfl, q⟩
  · split at h
    · rename_i hz
      have hz := Bool.and_eq_true_iff.mp hz
      cases h
      exact op_eqD hu pins s σ H _ _ v u Q I rx ry ⟨_, _, hx.dp (eqOk_1 hz.1), hy.dp (eqOk_1 hz.2), eqOk_2 hz.1, eqOk_2 hz.2, q⟩
    · cases h
  · split at h
    · rename_i hz
      have hz := Bool.and_eq_true_iff.mp hz
      cases h
      exact op_neD hu pins s σ H _ _ v u Q I rx ry ⟨_, _, hx.dp (eqOk_1 hz.1), hy.dp (eqOk_1 hz.2), eqOk_2 hz.1, eqOk_2 hz.2, q⟩
    · cases h
  · have e2 := bnon hy; subst e2
    cases h
    exact op_isN pins s σ H _ _ v u Q I rx ry ⟨rfl, by rw [isNon hx]; exact q⟩
  · have e2 := bnon hy; subst e2
    cases h
    exact op_notN pins s σ H _ _ v u Q I rx ry ⟨rfl, by rw [isNon hx]; exact q⟩
  · have e1 := bstr hx; have e2 := bstr hy; subst e1 e2
    split at h
    · rename_i cs z zz c hc
      cases h
      have : cs = #[c] := by
        rw [← Array.toArray_toList (xs := cs), hc]
      subst this
      exact op_in_sign pins s σ H _ _ v u Q I rx ry ⟨_, _, rfl, rfl, q⟩
    · cases h
  · split at h
    · rename_i hz
      have hz := Bool.and_eq_true_iff.mp hz
      cases h
      exact op_inD hu5 pins s σ H _ _ v u Q I rx ry ⟨_, _, hx.dp (eqOk_1 hz.1), hy.dp (eqOk_1 hz.2), eqOk_2 hz.1, eqOk_2 hz.2, by rw [anyEqv_eq]; exact q⟩
    · cases h
  · split at h
    · rename_i hz
      have hz := Bool.and_eq_true_iff.mp hz
      cases h
      exact op_notInD hu5 pins s σ H _ _ v u Q I rx ry ⟨_, _, hx.dp (eqOk_1 hz.1), hy.dp (eqOk_1 hz.2), eqOk_2 hz.1, eqOk_2 hz.2, by rw [anyEqv_eq]; exact q⟩
    · cases h
  · cases h
/-! ### places and slices -/
theorem atI_rep {C : Ct} {G : Gh} {H : Hp} {xs : List V} {ds : List D} {i : Int} {d : D} (r : Reps C G H xs ds) (h : atI ds i = some d) : ∃ v, atI xs i = some v ∧ Rep C G H v d := by
  unfold atI at h ⊢
  rw [r.length]
  cases e : ixN ds.length i with
  | none => rw [e] at h; cases h
  | some j =>
    rw [e] at h
    exact r.get h
theorem op_idx : IxR X (fun x y H Q => St2 (ct X cad) W x y H opIdx Q) := by
  intro value slice pins s σ H x y v u Q I rx ry h hs
  obtain ⟨σ', G, ρ, S, d, e, sat, hx, hy, h⟩ := h
  unfold opIdx at h
  split at h
  · have e2 := bint hy; subst e2
    obtain ⟨a, xs, rfl, hl, r⟩ := hx.lst
    rename_i ds i
    cases e : atI ds i with
    | none => rw [e] at h; exact h.elim
    | some z =>
      rw [e] at h
      obtain ⟨w, hw, rw'⟩ := atI_rep r e
      exact ix_list value slice pins s σ H _ _ v u Q I rx ry ⟨_, _, _, _, rfl, rfl, hl, hw, here sat rw' h⟩ hs
  · have e2 := bint hy; subst e2
    obtain ⟨a, xs, rfl, hl, r⟩ := btup hx
    rename_i ds i
    cases e : atI ds i with
    | none => rw [e] at h; exact h.elim
    | some z =>
      rw [e] at h
      obtain ⟨w, hw, rw'⟩ := atI_rep r e
      exact ix_tup value slice pins s σ H _ _ v u Q I rx ry ⟨_, _, _, _, rfl, rfl, hl.seq, hw, here sat rw' h⟩ hs
  · have e1 := bstr hx; have e2 := bint hy; subst e1 e2
    split at h
    · rename_i z i hz
      cases e : atI z.cps.toList i with
      | none => rw [e] at h; exact h.elim
      | some c =>
        rw [e] at h
        exact ix_str value slice pins s σ H _ _ v u Q I rx ry ⟨_, _, c, rfl, rfl, LINE_le hz, e, here sat (.str _) h⟩ hs
    · exact h.elim
  · exact h.elim
theorem cut_reps {C : Ct} {G : Gh} {H : Hp} {xs : List V} {ds : List D} (r : Reps C G H xs ds) (lo hi : Option Int) : Reps C G H (cutV xs lo hi) (cutD ds lo hi) := by
  unfold cutV cutD
  rw [r.length]
  exact (r.drop _).take _
theorem cutD_whole {ds : List D} {lo hi : Option Int} (h : HT.sIx ds.length 0 lo = 0 ∧ HT.sIx ds.length ds.length hi = ds.length) : cutD ds lo hi = ds := by
  unfold cutD
  rw [h.1, h.2]
  simp
def StL (C : Ct) (W : WX) (x : V) (lo hi : Option Int) (H : Hp) (Q : VK) : Prop :=
  ∃ σ G ρ S d, Sat C G H σ ρ S ∧ RepB C G H x d ∧ At C W σ G H (ofO (opSlc d lo hi) ρ S) (RepR C) Q
theorem op_slc : SlR X (fun x lo hi H Q => StL (ct X cad) W x lo hi H Q) := by
  intro pins s σ H x v vl vu lo hi sl Q I rx hs pl pu h
  obtain ⟨σ', G, ρ, S, d, sat, hx, h⟩ := h
  unfold opSlc at h
  split at h
  · obtain ⟨a, xs, rfl, hl, r⟩ := hx.lst
    exact sl_list pins s σ H _ v vl vu lo hi sl Q I rx hs pl pu ⟨_, _, rfl, hl, fun p hp => new_lst sat hp (cut_reps r lo hi) h⟩
  · obtain ⟨a, xs, rfl, hl, r⟩ := btup hx
    refine sl_tupA pins s σ H _ v vl vu lo hi sl Q I rx hs pl pu ⟨_, _, rfl, hl.seq, fun e => ?_, fun _ p hp => new_tup sat hp (cut_reps r lo hi) h⟩
    rw [r.length] at e
    rw [cutD_whole e] at h
    exact here sat (.tup hl r) h
  · have e1 := bstr hx; subst e1
    split at h
    · rename_i z hz
      exact sl_str pins s σ H _ v vl vu lo hi sl Q I rx hs pl pu ⟨_, rfl, LINE_le hz, here sat (.str _) h⟩
    · exact h.elim
  · exact h.elim
/-! ### built-ins -/
inductive RepBs (C : Ct) (G : Gh) (H : Hp) : List V → List D → Prop
  | nil : RepBs C G H [] []
  | cons {v : V} {vs : List V} {d : D} {ds : List D} : RepB C G H v d → RepBs C G H vs ds → RepBs C G H (v :: vs) (d :: ds)
theorem RepBs.mono {C : Ct} {G G' : Gh} {H H' : Hp} (e : ExE G H G' H') : ∀ {vs : List V} {ds : List D}, RepBs C G H vs ds → RepBs C G' H' vs ds
  | _, _, .nil => .nil
  | _, _, .cons h t => .cons (h.mono e) (t.mono e)
def StB (C : Ct) (W : WX) (xs : List V) (H : Hp) (f : List D → Option RV) (Q : VK) : Prop :=
  ∃ σ G ρ S ds, Sat C G H σ ρ S ∧ RepBs C G H xs ds ∧ At C W σ G H (ofO (f ds) ρ S) (RepR C) Q
theorem one_of {C : Ct} {G : Gh} {H : Hp} {vs : List V} {d : D} (h : RepBs C G H vs [d]) : ∃ v, vs = [v] ∧ RepB C G H v d := by
  cases h with
  | cons h t => cases t; exact ⟨_, rfl, h⟩
theorem allBl_reps {C : Ct} {G : Gh} {H : Hp} : ∀ {ds : List D} {xs : List V} {b : Bool}, Reps C G H xs ds → allBl ds = some b → ∃ bs : List Bool, xs = bs.map V.bl ∧ bs.all id = b
  | [], _, _, h, e => by
    cases h
    cases e
    exact ⟨[], rfl, rfl⟩
  | d :: ds, _, b, h, e => by
    cases h with
    | cons h1 h2 =>
      cases d with
      | bl k =>
        cases h1
        cases e2 : allBl ds with
        | none => simp [allBl, e2] at e
        | some c =>
          obtain ⟨bs, rfl, q⟩ := allBl_reps h2 e2
          simp only [allBl, e2, Option.map_some, Option.some.injEq] at e
          exact ⟨k :: bs, rfl, by simp only [List.all_cons, id, q]; exact e⟩
      | _ => simp [allBl] at e
theorem op_len : CallR X (.builtin "len") (fun xs H Q => StB (ct X cad) W xs H (opBcl .len) Q) := by
  intro pins s σ H xs us Q I rx h
  obtain ⟨σ', G, ρ, S, ds, sat, hx, h⟩ := h
  unfold opBcl at h
  split at h <;> try exact h.elim
  · obtain ⟨v, rfl, hv⟩ := one_of hx
    obtain ⟨a, ys, rfl, hl, r⟩ := hv.lst
    rw [← r.length] at h
    exact call_len pins s σ H _ us Q I rx ⟨_, _, rfl, .inl ⟨_, hl, rfl⟩, here sat (.int _) h⟩
  · obtain ⟨v, rfl, hv⟩ := one_of hx
    obtain ⟨a, ys, rfl, hl, r⟩ := btup hv
    rw [← r.length] at h
    exact call_len pins s σ H _ us Q I rx ⟨_, _, rfl, .inr ⟨_, hl.seq, rfl⟩, here sat (.int _) h⟩
  · obtain ⟨v, rfl, hv⟩ := one_of hx
    have e1 := bstr hv; subst e1
    split at h
    · rename_i hz
      exact call_len pins s σ H _ us Q I rx ⟨_, _, rfl, ⟨LINE_le hz, rfl⟩, here sat (.int _) h⟩
    · exact h.elim
  all_goals contradiction
theorem op_int : CallR X (.type "int") (fun xs H Q => StB (ct X cad) W xs H (opBcl .int) Q) := by
  intro pins s σ H xs us Q I rx h
  obtain ⟨σ', G, ρ, S, ds, sat, hx, h⟩ := h
  unfold opBcl at h
  split at h <;> try exact h.elim
  all_goals first | contradiction | skip
  obtain ⟨v, rfl, hv⟩ := one_of hx
  have e1 := bint hv; subst e1
  exact call_int1 pins s σ H _ us Q I rx (.inl ⟨_, rfl, here sat (.int _) h⟩)
theorem op_all (hc : X.calm = true) : CallR X (.builtin "all") (fun xs H Q => StB (ct X cad) W xs H (opBcl .all) Q) := by
  intro pins s σ H xs us Q I rx h
  obtain ⟨σ', G, ρ, S, ds, sat, hx, h⟩ := h
  unfold opBcl at h
  split at h <;> try exact h.elim
  all_goals first | contradiction | skip
  obtain ⟨v, rfl, hv⟩ := one_of hx
  obtain ⟨a, ys, rfl, hl, r⟩ := hv.lst
  have key : ∀ zs, Reps (ct X cad) G H ys zs → At (ct X cad) W σ' G H (ofO ((allBl zs).map fun b => RV.fz (.bl b)) ρ S) (RepR (ct X cad)) Q → wpAny (model X.prog X.w) X.A (call (.builtin "all") us) (EP X pins σ Q) X.xe s := fun zs r h => by
    cases e : allBl zs with
    | none => rw [e] at h; exact h.elim
    | some b =>
      rw [e] at h
      obtain ⟨bs, rfl, q⟩ := allBl_reps r e
      exact cr_all hc pins s σ H _ us Q I rx ⟨_, bs, rfl, hl, by rw [q]; exact here sat (.bl _) h⟩
  exact key _ r h
theorem op_list : CallR X (.type "list") (fun xs H Q => StB (ct X cad) W xs H (opBcl .list) Q) := by
  intro pins s σ H xs us Q I rx h
  obtain ⟨σ', G, ρ, S, ds, sat, hx, h⟩ := h
  unfold opBcl at h
  split at h <;> try exact h.elim
  all_goals first | contradiction | skip
  · obtain ⟨v, rfl, hv⟩ := one_of hx
    obtain ⟨a, ys, rfl, hl, r⟩ := hv.lst
    exact call_list_of pins s σ H _ us Q I rx ⟨_, _, rfl, .inl hl, fun p hp => new_lst sat hp r h⟩
  · obtain ⟨v, rfl, hv⟩ := one_of hx
    obtain ⟨a, ys, rfl, hl, r⟩ := btup hv
    exact call_list_of pins s σ H _ us Q I rx ⟨_, _, rfl, .inr hl.seq, fun p hp => new_lst sat hp r h⟩
theorem op_tuple : CallR X (.type "tuple") (fun xs H Q => StB (ct X cad) W xs H (opBcl .tuple) Q) := by
  intro pins s σ H xs us Q I rx h
  obtain ⟨σ', G, ρ, S, ds, sat, hx, h⟩ := h
  unfold opBcl at h
  split at h <;> try exact h.elim
  all_goals first | contradiction | skip
  · obtain ⟨v, rfl, hv⟩ := one_of hx
    obtain ⟨a, ys, rfl, hl, r⟩ := hv.lst
    exact call_tuple_of pins s σ H _ us Q I rx ⟨_, _, rfl, .inl ⟨hl, fun p hp => new_tup sat hp r h⟩⟩
  · obtain ⟨v, rfl, hv⟩ := one_of hx
    obtain ⟨a, ys, rfl, hl, r⟩ := btup hv
    exact call_tuple_of pins s σ H _ us Q I rx ⟨_, _, rfl, .inr ⟨hl.seq, here sat (.tup hl r) h⟩⟩
/-! ### isinstance -/
def tyn : D → Option String
  | .non => some "NoneType" | .bl _ => some "bool" | .int _ => some "int" | .str _ => some "str" | .lst _ => some "list" | .tup _ => some "tuple" | _ => none
theorem tyX_of {G : Gh} {H : Hp} {v : V} {d : D} {t : String} (h : RepB (ct X cad) G H v d) (e : tyn d = some t) : TyX X.K H v (.type t) := by
  rcases h with h | ⟨a, xs, ds, i, rfl, rfl, h1, h2, h3⟩
  · cases h with
    | non => cases e; exact .base .non
    | bl b => cases e; exact .base (.bl _)
    | int b => cases e; exact .base (.int _)
    | str b => cases e; exact .base (.str _)
    | ty n => cases e
    | lst h1 h2 =>
      cases e
      rcases h1 with ⟨_, (h1 | ⟨o, h1⟩)⟩ | (h1 | ⟨o, its, n, h1, h3, _⟩)
      · exact .base (.lst h1)
      · exact .base (.frz h1)
      · exact (noRd h1).elim
      · exact .kList h1 h3
    | tup h1 h2 =>
      cases e
      rcases h1 with ⟨_, h1⟩ | (h1 | ⟨o, its, n, h1, h3, _⟩)
      · exact .base (.tup h1)
      · exact (noRd h1).elim
      · exact .kTuple h1 h3
    | obj => cases e
    | loc => cases e
  · cases e
    exact .base (.lst h2)
def tyAll : List String := ["int", "bool", "str", "list", "tuple"]
theorem kitB_is : ∀ a ∈ ["NoneType", "bool", "int", "str", "list", "tuple"], ∀ t ∈ tyAll, kitB a t = some (a == t || (a == "bool" && t == "int")) := by decide +kernel
theorem isTy_kit {K : PySem.W.Frag} {d : D} {a t : String} {k : Bool} (e : tyn d = some a) (ht : t ∈ tyAll) (h : isTy d t = some k) : PySem.W.kitOne K (.type a) (.type t) = some k := by
  refine kit_ty ?_
  have ha : a ∈ ["NoneType", "bool", "int", "str", "list", "tuple"] := by
    cases d <;> simp only [tyn, Option.some.injEq, reduceCtorEq] at e <;> subst e <;> simp
  rw [kitB_is a ha t ht, ← h]
  have ht' : t = "int" ∨ t = "bool" ∨ t = "str" ∨ t = "list" ∨ t = "tuple" := by simpa [tyAll] using ht
  cases d <;> simp only [tyn, Option.some.injEq, reduceCtorEq] at e <;> subst e <;> rcases ht' with rfl | rfl | rfl | rfl | rfl <;> rfl
theorem isTy_tyn {d : D} {t : String} {k : Bool} (h : isTy d t = some k) : ∃ a, tyn d = some a := by
  cases d <;> first | exact ⟨_, rfl⟩ | cases h
end
end Sh


/-! ShSnd: the walk keeps what the small language says, construct by construct. -/
namespace Sh
open PySem PySem.Spec PyProof.Rows L2
def Eqv {α : Type} : Gh → Hp → α → α → Prop := fun _ _ b a => b = a
section
variable (X : Cx) (cad : Str → Option Addr) (T : Tab) (W : WX)
abbrev EOk (e : Expr) (l : LE) : Prop := PE X e (Tr (ct X cad) W (den T l) (RepR (ct X cad)))
abbrev BOk (e : Expr) (l : LE) : Prop := PE X e (Tr (ct X cad) W (denB T l) (RepB (ct X cad)))
abbrev TOk (e : Expr) (l : LE) : Prop := PT X e (Tr (ct X cad) W (fun ρ S => tstR (den T l ρ S)) Eqv)
abbrev WOk (e : Expr) (l : LE) : Prop := PW X e (Tr (ct X cad) W (fun ρ S => tstR (den T l ρ S)) Eqv)
abbrev AOk (es : List Expr) (l : LEs) : Prop := PA X es (Tr (ct X cad) W (denEs T l) (Reps (ct X cad)))
abbrev ABk (es : List Expr) (l : LEs) : Prop := PA X es (Tr (ct X cad) W (denBs T l) (RepBs (ct X cad)))
end
section
variable {X : Cx} {cad : Str → Option Addr} {T : Tab} {W : WX} {σ : L2.St} {H : Hp}
/-- the state behind what has been done -/
abbrev Hr (C : Ct) (W : WX) (σ : L2.St) {α β : Type} (m : Rho → Mem → Res α) (R : Gh → Hp → β → α → Prop) (H : Hp) (Q : β → Hp → Prop) : Prop := ∃ G ρ S, Sat C G H σ ρ S ∧ At C W σ G H (m ρ S) R Q
theorem Tr.mono {α β : Type} {C : Ct} {m : Rho → Mem → Res α} {R : Gh → Hp → β → α → Prop} {Q Q' : β → Hp → Prop} (h : Tr C W m R σ H Q) (hq : ∀ b H, Q b H → Q' b H) : Tr C W m R σ H Q' :=
  let ⟨G, ρ, S, s, a⟩ := h
  ⟨G, ρ, S, s, a.mono hq⟩
/-- first one, then what hangs on it -/
theorem Tr.seq {α β γ δ : Type} {C : Ct} {m : Rho → Mem → Res γ} {f : γ → Rho → Mem → Res α} {R : Gh → Hp → β → α → Prop} {R1 : Gh → Hp → δ → γ → Prop} {Q : β → Hp → Prop} {Q1 : δ → Hp → Prop} (h : Tr C W (fun ρ S => (m ρ S).bind f) R σ H Q)
    (hq : ∀ b H1 G1 ρ1 S1 a, Sat C G1 H1 σ ρ1 S1 → R1 G1 H1 b a → At C W σ G1 H1 (f a ρ1 S1) R Q → Q1 b H1) : Tr C W m R1 σ H Q1 :=
  let ⟨G, ρ, S, s, a⟩ := h
  ⟨G, ρ, S, s, (At.bind a).mono fun b H1 ⟨G1, ρ1, S1, a1, e, s1, r1, q1⟩ => hq b H1 G1 ρ1 S1 a1 s1 r1 q1⟩
/-- .. two in a row, the first one's data still standing -/
theorem Tr.seq2 {α β γ δ γ' δ' : Type} {C : Ct} {m : Rho → Mem → Res γ} {m2 : Rho → Mem → Res γ'} {f : γ → γ' → Rho → Mem → Res α} {R : Gh → Hp → β → α → Prop} {R1 : Gh → Hp → δ → γ → Prop} {R2 : Gh → Hp → δ' → γ' → Prop} {Q : β → Hp → Prop} {Q1 : δ → δ' → Hp → Prop}
    (h : Tr C W (fun ρ S => (m ρ S).bind fun a ρ S => (m2 ρ S).bind fun b ρ S => f a b ρ S) R σ H Q) (hm : ∀ {G H G' H' b a}, ExE G H G' H' → R1 G H b a → R1 G' H' b a)
    (hq : ∀ b c H1 G1 ρ1 S1 a d, Sat C G1 H1 σ ρ1 S1 → R1 G1 H1 b a → R2 G1 H1 c d → At C W σ G1 H1 (f a d ρ1 S1) R Q → Q1 b c H1) : Tr C W m R1 σ H fun b H1 => Tr C W m2 R2 σ H1 fun c H2 => Q1 b c H2 :=
  Tr.seq h fun b H1 G1 ρ1 S1 a s1 r1 h1 => ⟨G1, ρ1, S1, s1, (At.bind h1).mono fun c H2 ⟨G2, ρ2, S2, d, e2, s2, r2, h2⟩ => hq b c H2 G2 ρ2 S2 a d s2 (hm e2 r1) r2 h2⟩
theorem repB_mono {C : Ct} {G G' : Gh} {H H' : Hp} {b : V} {a : D} (e : ExE G H G' H') (h : RepB C G H b a) : RepB C G' H' b a := h.mono e
theorem rep_mono {C : Ct} {G G' : Gh} {H H' : Hp} {b : V} {a : D} (e : ExE G H G' H') (h : Rep C G H b a) : Rep C G' H' b a := Rep.mono e.toExF _ _ h

/-! ### from raw to looked at, from raw to a test -/
theorem denB_eq {l : LE} (h : ∀ i, l ≠ .var i) (ρ : Rho) (S : Mem) : denB T l ρ S = (den T l ρ S).map RV.d := by
  cases l <;> first | (exact absurd rfl (h _)) | simp only [denB]
theorem bok_of {e : Expr} {l : LE} (h : ∀ i, l ≠ .var i) (p : EOk X cad T W e l) : BOk X cad T W e l := by
  refine PE.weak p fun σ H Q q => ?_
  obtain ⟨G, ρ, S, s, q⟩ := q
  rw [denB_eq h] at q
  refine Tr.freeze ⟨G, ρ, S, s, ?_⟩
  show At _ W σ G H ((den T l ρ S).map RV.d) (Rep _) Q
  cases e : den T l ρ S with
  | ok a ρ' S' =>
    rw [e] at q
    exact fun b G' H' e s r => q b G' H' e s (.inl r)
  | exc x ρ' S' =>
    rw [e] at q
    exact q
  | bad =>
    rw [e] at q
    exact q
/-- a raw answer that is tested -/
theorem tst_of {α β : Type} {C : Ct} {G : Gh} {H : Hp} {σ : L2.St} {v : V} {a : RV} {ρ : Rho} {S : Mem} {f : Bool → Rho → Mem → Res α} {R : Gh → Hp → β → α → Prop} {Q : β → Hp → Prop} (r : RepR C G H v a) (h : At C W σ G H ((ofO (tst a) ρ S).bind f) R Q) : ∃ k, v = .bl k ∧ At C W σ G H (f k ρ S) R Q := by
  cases a with
  | own ds => exact h.elim
  | fz d =>
    cases d with
    | bl k =>
      cases r
      exact ⟨k, rfl, h⟩
    | _ => exact h.elim
theorem bind_assoc {α β γ : Type} (r : Res α) (f : α → Rho → Mem → Res β) (g : β → Rho → Mem → Res γ) : (r.bind f).bind g = r.bind fun a ρ S => (f a ρ S).bind g := by
  cases r <;> rfl
theorem bind_ok {α : Type} (r : Res α) : (r.bind fun a ρ S => .ok a ρ S) = r := by
  cases r <;> rfl
/-- a raw expression whose value is tested -/
theorem Tr.tst {α β : Type} {C : Ct} {m : Rho → Mem → Res RV} {f : Bool → Rho → Mem → Res α} {R : Gh → Hp → β → α → Prop} {Q : β → Hp → Prop} {Q1 : VK} (h : Tr C W (fun ρ S => (tstR (m ρ S)).bind f) R σ H Q)
    (hq : ∀ k H1 G1 ρ1 S1, Sat C G1 H1 σ ρ1 S1 → At C W σ G1 H1 (f k ρ1 S1) R Q → Q1 (.bl k) H1) : Tr C W m (RepR C) σ H Q1 := by
  obtain ⟨G, ρ, S, s, h⟩ := h
  dsimp only at h
  unfold tstR at h
  rw [bind_assoc] at h
  refine ⟨G, ρ, S, s, (At.bind h).mono fun v H1 ⟨G1, ρ1, S1, a1, e, s1, r1, q1⟩ => ?_⟩
  obtain ⟨k, rfl, q⟩ := tst_of r1 q1
  exact hq k H1 G1 ρ1 S1 s1 q
/-- the same by a test -/
theorem Tr.tstT {α β : Type} {C : Ct} {m : Rho → Mem → Res RV} {f : Bool → Rho → Mem → Res α} {R : Gh → Hp → β → α → Prop} {Q : β → Hp → Prop} {Q1 : Bool → Hp → Prop} (h : Tr C W (fun ρ S => (tstR (m ρ S)).bind f) R σ H Q)
    (hq : ∀ k H1 G1 ρ1 S1, Sat C G1 H1 σ ρ1 S1 → At C W σ G1 H1 (f k ρ1 S1) R Q → Q1 k H1) : Tr C W (fun ρ S => tstR (m ρ S)) Eqv σ H Q1 :=
  Tr.seq h fun b H1 G1 ρ1 S1 a s1 r1 q1 => by
    cases r1
    exact hq _ _ _ _ _ s1 q1
theorem tok_val {e : Expr} {l : LE} (he : ∀ whole, isTrue e X.env whole = (do let v ← whole; standAt e.pos; holding [v] (truthy v))) (p : EOk X cad T W e l) : TOk X cad T W e l := by
  refine PT.weak (pt_val p he) fun σ H Q q => ?_
  obtain ⟨G, ρ, S, s, q⟩ := q
  refine Tr.tst (f := fun k ρ S => .ok k ρ S) (R := Eqv) ⟨G, ρ, S, s, by dsimp only at q ⊢; rw [bind_ok]; exact q⟩ fun k H1 G1 ρ1 S1 s1 q1 => ⟨k, rfl, q1 k G1 H1 (.refl _ _) s1 rfl⟩
theorem At.okE {α : Type} {C : Ct} {G : Gh} {H : Hp} {a : α} {ρ : Rho} {S : Mem} {Q : α → Hp → Prop} (s : Sat C G H σ ρ S) (h : At C W σ G H (.ok a ρ S) Eqv Q) : Q a H := h a G H (.refl _ _) s rfl

/-! ### names -/
theorem Sat.slotFrz {C : Ct} {G : Gh} {ρ : Rho} {S : Mem} {i : Nat} {a : Addr} {xs : List V} {ds : List D} (s : Sat C G H σ ρ S) (hi : σ[i]? = some (some (.ref a))) (ho : G.O a = .slot i) (hH : H a = some (.lst xs)) (r : Reps C G H xs ds) :
    ExE G H (G.set a .frz) H ∧ Sat C (G.set a .frz) H σ (ρ.set i (some (.fz (.lst ds)))) S ∧ Rep C (G.set a .frz) H (.ref a) (.lst ds) := by
  have ne : ∀ b, G.O b ≠ .slot i → b ≠ a := fun b h e => h (by rw [e]; exact ho)
  have e : ExE G H (G.set a .frz) H := by
    refine ⟨⟨⟨fun b h => ⟨?_, rfl⟩, [], by simp [Gh.set]⟩, fun b h => ⟨?_, rfl⟩⟩, fun b j h => ⟨?_, rfl⟩⟩
    · rw [Gh.set_ne (ne b (by rw [h]; simp))]; exact h
    · rw [Gh.set_ne (ne b (by rw [h]; simp))]; exact h
    · by_cases q : b = a
      · subst q; exact .inr Gh.set_same
      · rw [Gh.set_ne q]; exact .inl h
  have kc : KeepC G H (G.set a .frz) H := ⟨rfl, fun b h => ⟨Gh.set_ne (ne b (by rcases h with h | ⟨n, h⟩ | ⟨n, f, h⟩ <;> rw [h] <;> simp)), rfl⟩⟩
  have rp : Rep C (G.set a .frz) H (.ref a) (.lst ds) := .lst (.inl ⟨Gh.set_same, .inl hH⟩) (Reps.mono e.toExF ds xs r)
  refine ⟨e, ⟨s.toSatS.keepC kc fun b hb => ?_, fun j rv hj => ?_, by rw [List.length_set]; exact s.ln⟩, rp⟩
  · have hne : b ≠ a := fun q => by rw [q, hH] at hb; cases hb
    rw [Gh.set_ne hne]
    exact s.fr b hb
  · by_cases hji : j = i
    · subst hji
      have hl : j < ρ.length := by
        have := (List.getElem?_eq_some_iff.mp hj).1
        simpa using this
      rw [List.getElem?_set_self hl] at hj
      cases hj
      exact ⟨_, hi, rp⟩
    · rw [List.getElem?_set_ne (Ne.symm hji)] at hj
      have q := s.sl j rv hj
      cases rv with
      | fz d =>
        obtain ⟨v, h1, h2⟩ := q
        exact ⟨v, h1, Rep.mono e.toExF d v h2⟩
      | own es =>
        obtain ⟨b, ys, h1, h2, h3, h4⟩ := q
        have hb : b ≠ a := fun z => by rw [z, ho] at h2; cases h2; exact hji rfl
        exact ⟨b, ys, h1, by rw [Gh.set_ne hb]; exact h2, h3, Reps.mono e.toExF es ys h4⟩
theorem vis_of {n : Nat} {c : CC} {x : Str} (g : Good X cad T W n c) (h : isVis c x = true) : Vis X.env.scope x := by
  unfold isVis at h
  rw [← g.sc] at h
  unfold Vis
  split at h
  · rename_i e; exact .inl e
  · rename_i e; exact .inr (.inl e)
  · rename_i e; exact .inr (.inr e)
  · cases h
theorem glob_of {n : Nat} {c : CC} {x : Str} (g : Good X cad T W n c) (h : isGlob c x = true) : Gl X x := by
  unfold isGlob at h
  rw [← g.sc] at h
  unfold Gl PySem.Env.kindOf
  split at h
  · rename_i e; exact e
  · cases h
theorem nameOk_1 {x : Str} (h : nameOk x = true) : (x == ("__debug__" : Str)) = false ∧ (x == ("__classdict__" : Str)) = false ∧ x ≠ "__name__" := by
  unfold nameOk at h
  simp only [Bool.and_eq_true, Bool.not_eq_true'] at h
  refine ⟨h.1.1, h.1.2, fun e => ?_⟩
  have := h.2
  rw [e] at this
  simp at this
theorem ix_of {n : Nat} {c : CC} {x : Str} {i : Nat} (g : Good X cad T W n c) (h : ixOf c.N x = some i) : X.N[i]? = some x := by
  rw [g.N]
  exact ixOf_get h
theorem var_E {n : Nat} {c : CC} {x : Str} {i : Nat} {pos : Pos} (g : Good X cad T W n c) (hn : nameOk x = true) (hv : isVis c x = true) (hi : ixOf c.N x = some i) : EOk X cad T W (.Name x pos) (.var i) := by
  obtain ⟨h1, h2, _⟩ := nameOk_1 hn
  refine PE.weak (pe_var (ix_of g hi) (vis_of g hv) h1 h2) fun σ H Q q => ?_
  obtain ⟨G, ρ, S, s, q⟩ := q
  unfold den rdV at q
  split at q
  · rename_i d e
    obtain ⟨v, e1, r⟩ := s.sl i _ e
    exact ⟨v, e1, q v G H (.refl _ _) s r⟩
  · rename_i ds e
    obtain ⟨a, xs, e1, ho, hH, r⟩ := s.sl i _ e
    obtain ⟨ex, s', rp⟩ := s.slotFrz e1 ho hH r
    exact ⟨_, e1, q _ _ H ex s' rp⟩
  · exact q.elim
theorem var_B {n : Nat} {c : CC} {x : Str} {i : Nat} {pos : Pos} (g : Good X cad T W n c) (hn : nameOk x = true) (hv : isVis c x = true) (hi : ixOf c.N x = some i) : BOk X cad T W (.Name x pos) (.var i) := by
  obtain ⟨h1, h2, _⟩ := nameOk_1 hn
  refine PE.weak (pe_var (ix_of g hi) (vis_of g hv) h1 h2) fun σ H Q q => ?_
  obtain ⟨G, ρ, S, s, q⟩ := q
  unfold denB rdB at q
  split at q
  · rename_i r e
    have so := s.sl i _ e
    cases r with
    | fz d =>
      obtain ⟨v, e1, r⟩ := so
      exact ⟨v, e1, q v G H (.refl _ _) s (.inl r)⟩
    | own ds =>
      obtain ⟨a, xs, e1, ho, hH, r⟩ := so
      exact ⟨_, e1, q _ G H (.refl _ _) s (.inr ⟨a, xs, ds, i, rfl, rfl, ho, hH, r⟩)⟩
  · exact q.elim
theorem glob_E {n : Nat} {c : CC} {x : Str} {pos : Pos} (g : Good X cad T W n c) (hn : nameOk x = true) {i : Nat} (hg : isGlob c x = true) (hi : ixOf c.F x = some i) : EOk X cad T W (.Name x pos) (.glob i) := by
  obtain ⟨h1, h2, _⟩ := nameOk_1 hn
  refine ⟨fun pins s σ H Q I q => ?_⟩
  obtain ⟨G, ρ, S, sat, q⟩ := q
  unfold den at q
  cases e : T.gl i with
  | none => rw [e] at q; exact q.elim
  | some d =>
    obtain ⟨u, v, hm, r, rp⟩ := g.tab.gl i d e x (ixOf_get hi)
    rw [e] at q
    exact (pe_glob (glob_of g hg) hm r h1).run pins s σ H Q I (q v G H (.refl _ _) sat (rp G H))
/-! ### constants -/
theorem con_E {e : Expr} {l : LE} {v : V} {d : D} (hp : PE X e (tC v)) (hd : ∀ ρ S, den T l ρ S = .ok (.fz d) ρ S) (r : ∀ G H, Rep (ct X cad) G H v d) : EOk X cad T W e l := by
  refine PE.weak hp fun σ H Q q => ?_
  obtain ⟨G, ρ, S, s, q⟩ := q
  rw [hd] at q
  exact q v G H (.refl _ _) s (r G H)
/-! ### operators -/
theorem bin_E {a b : Expr} {op : Operator} {la lb : LE} {pos : Pos} (ha : BOk X cad T W a la) (hb : BOk X cad T W b lb) : EOk X cad T W (.BinOp a op b pos) (.bin op la lb) :=
  PE.weak (pe_op (op_bin (W := W) (cad := cad)) ha hb) fun σ H Q q => by
    simp only [Tr, den] at q
    exact Tr.seq2 q repB_mono fun b c H1 G1 ρ1 S1 a d s r1 r2 h => ⟨σ, G1, ρ1, S1, a, d, s, r1, r2, h⟩
theorem neg_E {a : Expr} {la : LE} {pos : Pos} (ha : BOk X cad T W a la) : EOk X cad T W (.UnaryOp .USub a pos) (.neg la) :=
  PE.weak (pe_un un_neg ha) fun σ H Q q => by
    simp only [Tr, den] at q
    refine Tr.seq q fun b H1 G1 ρ1 S1 a s r h => ?_
    cases a with
    | int i => exact ⟨i, bint r, h _ G1 H1 (.refl _ _) s (.int _)⟩
    | _ => exact (show False from h).elim
theorem cmp_st {σ : L2.St} {G : Gh} {H : Hp} {ρ : Rho} {S : Mem} {x y : V} {d e : D} {op : CmpOp} {Q : VK} (s : Sat (ct X cad) G H σ ρ S) (r1 : RepB (ct X cad) G H x d) (r2 : RepB (ct X cad) G H y e) (h : At (ct X cad) W σ G H ((ofO (opCmp op d e) ρ S).map fun k => RV.fz (.bl k)) (RepR (ct X cad)) Q) : StC (ct X cad) x y H op Q := by
  cases q : opCmp op d e with
  | none => rw [q] at h; exact h.elim
  | some k =>
    rw [q] at h
    exact ⟨σ, G, ρ, S, d, e, k, s, r1, r2, q, h _ G H (.refl _ _) s (.bl _)⟩
theorem cmp_E {n : Nat} {a b : Expr} {op : CmpOp} {la lb : LE} {pos : Pos} (hr : Room n X.A) (ha : BOk X cad T W a la) (hb : BOk X cad T W b lb) (hm : behindInMarks op b = false) : EOk X cad T W (.Compare a [op] [b] pos) (.cmp op la lb) :=
  PE.weak (pe_cmpR (op_cmp (cad := cad) hr) ha hb hm) fun σ H Q q => by
    simp only [Tr, den] at q
    exact Tr.seq2 q repB_mono fun b c H1 G1 ρ1 S1 a d s r1 r2 h => cmp_st s r1 r2 h
theorem map_eq_bind {α β : Type} (r : Res α) (f : α → β) : r.map f = r.bind fun a ρ S => .ok (f a) ρ S := by
  cases r <;> rfl
theorem tstR_map (r : Res Bool) : tstR (r.map fun k => RV.fz (.bl k)) = r := by
  cases r <;> rfl
theorem tstR_bind {α : Type} (r : Res α) (f : α → Rho → Mem → Res RV) : tstR (r.bind f) = r.bind fun a ρ S => tstR (f a ρ S) := by
  cases r <;> rfl
theorem cmp_T {n : Nat} {a b : Expr} {op : CmpOp} {la lb : LE} {pos : Pos} (hr : Room n X.A) (ha : BOk X cad T W a la) (hb : BOk X cad T W b lb) (hm : behindInMarks op b = false) : TOk X cad T W (.Compare a [op] [b] pos) (.cmp op la lb) := by
  refine PT.weak (pt_cmpR (op_cmp (cad := cad) hr) ha hb hm) fun σ H Q q => ?_
  obtain ⟨G, ρ, S, s, q⟩ := q
  simp only [den, tstR_bind, tstR_map] at q
  refine Tr.seq2 (Q1 := fun x y H2 => StC (ct X cad) x y H2 op fun z H' => ∃ k, z = .bl k ∧ Q k H') (f := fun x y ρ S => ofO (opCmp op x y) ρ S) (R := Eqv) ⟨G, ρ, S, s, q⟩ repB_mono fun b c H1 G1 ρ1 S1 a d s r1 r2 h => ?_
  cases e : opCmp op a d with
  | none => rw [e] at h; exact h.elim
  | some k =>
    rw [e] at h
    exact ⟨σ, G1, ρ1, S1, a, d, k, s, r1, r2, e, k, rfl, h k G1 H1 (.refl _ _) s rfl⟩
end
end Sh


/-! ShSnd2: the walk, further constructs. -/
namespace Sh
open PySem PySem.Spec PyProof.Rows L2
section
variable {X : Cx} {cad : Str → Option Addr} {T : Tab} {W : WX} {σ : L2.St} {H : Hp} {n : Nat} {a b d e : Expr} {la lb ld l : LE} {pos : Pos}
theorem chn_rd {op op2 : CmpOp} (hr : Room n X.A) {α β : Type} {R : Gh → Hp → β → α → Prop} {Q : β → Hp → Prop} {Q1 : VK} {f : Bool → Rho → Mem → Res α}
    (q : Tr (ct X cad) W (fun ρ S => (denB T la ρ S).bind fun x ρ S => (denB T lb ρ S).bind fun y ρ S => (ofO (opCmp op x y) ρ S).bind fun k ρ S => if k = true then (denB T ld ρ S).bind fun z ρ S => (ofO (opCmp op2 y z) ρ S).bind f else f false ρ S) R σ H Q)
    (hf : ∀ k G H ρ S, Sat (ct X cad) G H σ ρ S → At (ct X cad) W σ G H (f k ρ S) R Q → Q1 (.bl k) H) :
    tChain (fun x y H Q => StC (ct X cad) x y H op Q) (fun x y H Q => StC (ct X cad) x y H op2 Q) (Tr (ct X cad) W (denB T la) (RepB (ct X cad))) (Tr (ct X cad) W (denB T lb) (RepB (ct X cad))) (Tr (ct X cad) W (denB T ld) (RepB (ct X cad))) σ H Q1 := by
  refine Tr.seq2 q repB_mono fun x y H1 G1 ρ1 S1 da db s r1 r2 h => ?_
  cases ek : opCmp op da db with
  | none => rw [ek] at h; exact h.elim
  | some k =>
    rw [ek] at h
    refine ⟨σ, G1, ρ1, S1, da, db, k, s, r1, r2, ek, k, rfl, ?_⟩
    simp only [ofO_some, Res.bind_ok] at h
    cases k with
    | false =>
      rw [if_neg (by decide)] at h
      exact iteF (hf false _ _ _ _ s h)
    | true =>
      rw [if_pos rfl] at h
      refine iteT ⟨G1, ρ1, S1, s, (At.bind h).mono fun z H2 ⟨G2, ρ2, S2, dd, e2, s2, r3, h2⟩ => ?_⟩
      cases ek2 : opCmp op2 db dd with
      | none => rw [ek2] at h2; exact h2.elim
      | some k2 =>
        rw [ek2] at h2
        exact ⟨σ, G2, ρ2, S2, db, dd, k2, s2, r2.mono e2, r3, ek2, hf k2 _ _ _ _ s2 h2⟩
theorem chn_E {op op2 : CmpOp} (hr : Room n X.A) (ha : BOk X cad T W a la) (hb : BOk X cad T W b lb) (hd : BOk X cad T W d ld) (hm : lastMarks [op, op2] [b, d] = false) : EOk X cad T W (.Compare a [op, op2] [b, d] pos) (.chn op op2 la lb ld) :=
  PE.weak (pe_chain (op_cmp (cad := cad) hr) (op_cmp (cad := cad) hr) ha hb hd hm) fun σ H Q q => by
    simp only [Tr, den, map_eq_bind] at q
    exact chn_rd hr (f := fun k ρ S => .ok (RV.fz (D.bl k)) ρ S) q fun k G H ρ S s h => h _ G H (.refl _ _) s (.bl _)
theorem tstR_ite {c : Prop} [Decidable c] (x y : Res RV) : tstR (if c then x else y) = if c then tstR x else tstR y := by split <;> rfl
theorem chn_T {op op2 : CmpOp} (hr : Room n X.A) (ha : BOk X cad T W a la) (hb : BOk X cad T W b lb) (hd : BOk X cad T W d ld) (hm : lastMarks [op, op2] [b, d] = false) : TOk X cad T W (.Compare a [op, op2] [b, d] pos) (.chn op op2 la lb ld) :=
  PT.weak (pt_chain (op_cmp (cad := cad) hr) (op_cmp (cad := cad) hr) ha hb hd hm) fun σ H Q q => by
    simp only [Tr, den, map_eq_bind, tstR_bind, tstR_ite, tstR_bl] at q
    exact chn_rd hr (f := fun k ρ S => .ok k ρ S) (Q1 := fun x H' => ∃ k, x = .bl k ∧ Q k H') q fun k G H ρ S s h => ⟨k, rfl, h k G H (.refl _ _) s rfl⟩
/-! ### and, or, not, if -/
theorem and_E {es : List Expr} (ha : EOk X cad T W a la) (hb : EOk X cad T W (.BoolOp .And (b :: es) pos) lb) : EOk X cad T W (.BoolOp .And (a :: b :: es) pos) (.and la lb) :=
  PE.weak (pe_and ha hb) fun σ H Q q => by
    simp only [Tr, den] at q
    refine Tr.tst q fun k H1 G1 ρ1 S1 s h => ⟨k, rfl, ?_⟩
    cases k with
    | true =>
      rw [if_pos rfl] at h
      exact iteT ⟨G1, ρ1, S1, s, h⟩
    | false =>
      rw [if_neg (by decide)] at h
      exact iteF (h _ G1 H1 (.refl _ _) s (.bl _))
theorem or_E {es : List Expr} (ha : EOk X cad T W a la) (hb : EOk X cad T W (.BoolOp .Or (b :: es) pos) lb) : EOk X cad T W (.BoolOp .Or (a :: b :: es) pos) (.or la lb) :=
  PE.weak (pe_or ha hb) fun σ H Q q => by
    simp only [Tr, den] at q
    refine Tr.tst q fun k H1 G1 ρ1 S1 s h => ⟨k, rfl, ?_⟩
    cases k with
    | true =>
      rw [if_pos rfl] at h
      exact iteT (h _ G1 H1 (.refl _ _) s (.bl _))
    | false =>
      rw [if_neg (by decide)] at h
      exact iteF ⟨G1, ρ1, S1, s, h⟩
theorem and_W {es : List Expr} (ha : TOk X cad T W a la) (hb : WOk X cad T W (.BoolOp .And (b :: es) pos) lb) : WOk X cad T W (.BoolOp .And (a :: b :: es) pos) (.and la lb) :=
  PW.weak (pw_and ha hb) fun σ H Q q => by
    simp only [Tr, den, tstR_bind, tstR_ite, tstR_bl] at q
    refine Tr.tstT q fun k H1 G1 ρ1 S1 s h => ?_
    cases k with
    | true =>
      rw [if_pos rfl] at h
      exact iteT ⟨G1, ρ1, S1, s, h⟩
    | false =>
      rw [if_neg (by decide)] at h
      exact iteF (At.okE s h)
theorem or_W {es : List Expr} (ha : TOk X cad T W a la) (hb : WOk X cad T W (.BoolOp .Or (b :: es) pos) lb) : WOk X cad T W (.BoolOp .Or (a :: b :: es) pos) (.or la lb) :=
  PW.weak (pw_or ha hb) fun σ H Q q => by
    simp only [Tr, den, tstR_bind, tstR_ite, tstR_bl] at q
    refine Tr.tstT q fun k H1 G1 ρ1 S1 s h => ?_
    cases k with
    | true =>
      rw [if_pos rfl] at h
      exact iteT (At.okE s h)
    | false =>
      rw [if_neg (by decide)] at h
      exact iteF ⟨G1, ρ1, S1, s, h⟩
theorem not_E (ha : EOk X cad T W a la) : EOk X cad T W (.UnaryOp .Not a pos) (.not la) :=
  PE.weak (pe_not ha) fun σ H Q q => by
    simp only [Tr, den] at q
    exact Tr.tst q fun k H1 G1 ρ1 S1 s h => ⟨k, rfl, h _ G1 H1 (.refl _ _) s (.bl _)⟩
theorem not_T (ha : TOk X cad T W a la) : TOk X cad T W (.UnaryOp .Not a pos) (.not la) :=
  PT.weak (pt_not ha) fun σ H Q q => by
    simp only [Tr, den, tstR_bind, tstR_bl] at q
    exact Tr.tstT q fun k H1 G1 ρ1 S1 s h => At.okE s h
theorem ite_E (ht : TOk X cad T W d ld) (ha : EOk X cad T W a la) (hb : EOk X cad T W b lb) : EOk X cad T W (.IfExp d a b pos) (.ite ld la lb) :=
  PE.weak (pe_ifExp ht ha hb) fun σ H Q q => by
    simp only [Tr, den] at q
    refine Tr.tstT q fun k H1 G1 ρ1 S1 s h => ?_
    cases k with
    | true =>
      rw [if_pos rfl] at h
      exact iteT ⟨G1, ρ1, S1, s, h⟩
    | false =>
      rw [if_neg (by decide)] at h
      exact iteF ⟨G1, ρ1, S1, s, h⟩
theorem ite_T (ht : TOk X cad T W d ld) (ha : TOk X cad T W a la) (hb : TOk X cad T W b lb) : TOk X cad T W (.IfExp d a b pos) (.ite ld la lb) := by
  refine ⟨fun pins s σ H Q I q => ?_⟩
  simp only [Tr, den, tstR_bind, tstR_ite] at q
  refine isTrue_IfExp (thn (ht.run pins s σ H (fun k H1 => if k = true then Tr (ct X cad) W (fun ρ S => tstR (den T la ρ S)) Eqv σ H1 Q else Tr (ct X cad) W (fun ρ S => tstR (den T lb ρ S)) Eqv σ H1 Q) I (Tr.tstT q fun k H1 G1 ρ1 S1 s h => ?_)) fun k s1 ⟨H1, I1, q1⟩ => ?_)
  · cases k with
    | true =>
      rw [if_pos rfl] at h
      exact iteT ⟨G1, ρ1, S1, s, h⟩
    | false =>
      rw [if_neg (by decide)] at h
      exact iteF ⟨G1, ρ1, S1, s, h⟩
  · cases k with
    | true =>
      rw [if_pos rfl] at q1
      exact ha.run pins s1 σ H1 Q I1 q1
    | false =>
      rw [if_neg (by decide)] at q1
      exact hb.run pins s1 σ H1 Q I1 q1
/-! ### argument lists -/
/-- an expression without a star ahead -/
def Plain (e : Expr) : Prop := ∀ (rest : List Expr) (env : PySem.Env), starEach (e :: rest) env = (false, eval e env) :: starEach rest env
theorem plain_any : ∀ {es : List Expr} {env : PySem.Env} {pos : Pos}, (∀ e ∈ es, Plain e) → (backTo pos (starEach es env)).any (·.1) = false
  | [], _, _, _ => rfl
  | e :: es, env, pos, h => by
    rw [h e List.mem_cons_self es env]
    show (false || (backTo pos (starEach es env)).any (·.1)) = false
    rw [plain_any fun x hx => h x (List.mem_cons_of_mem _ hx)]
    rfl
theorem repsF_mono {C : Ct} {G G' : Gh} {H H' : Hp} {b : List V} {a : List D} (e : ExE G H G' H') (h : Reps C G H b a) : Reps C G' H' b a := Reps.mono e.toExF _ _ h
theorem nil_A : AOk X cad T W [] .nil :=
  PA.weak pa_nil fun σ H Q q => by
    obtain ⟨G, ρ, S, s, q⟩ := q
    simp only [denEs] at q
    exact q [] G H (.refl _ _) s .nil
theorem nil_AB : ABk X cad T W [] .nil :=
  PA.weak pa_nil fun σ H Q q => by
    obtain ⟨G, ρ, S, s, q⟩ := q
    simp only [denBs] at q
    exact q [] G H (.refl _ _) s .nil
theorem cons_A {es : List Expr} {ls : LEs} (hp : Plain e) (he : EOk X cad T W e l) (hs : AOk X cad T W es ls) : AOk X cad T W (e :: es) (.cons l ls) :=
  PA.weak (pa_cons he hs (hp es _)) fun σ H Q q => by
    simp only [Tr, denEs] at q
    refine Tr.freeze ?_
    obtain ⟨G, ρ, S, s, q⟩ := q
    have q' : At (ct X cad) W σ G H (((den T l ρ S).map RV.d).bind fun x ρ S => (denEs T ls ρ S).bind fun xs ρ S => .ok (x :: xs) ρ S) (Reps (ct X cad)) Q := by
      rw [map_eq_bind, bind_assoc]
      exact q
    refine Tr.seq2 (m := fun ρ S => (den T l ρ S).map RV.d) (f := fun x xs ρ S => .ok (x :: xs) ρ S) (R := Reps (ct X cad)) (Q := Q) ⟨G, ρ, S, s, q'⟩ rep_mono fun x xs H1 G1 ρ1 S1 da ds s1 r1 r2 h => ?_
    exact h _ G1 H1 (.refl _ _) s1 (.cons r1 r2)
theorem cons_AB {es : List Expr} {ls : LEs} (hp : Plain e) (he : BOk X cad T W e l) (hs : ABk X cad T W es ls) : ABk X cad T W (e :: es) (.cons l ls) :=
  PA.weak (pa_cons he hs (hp es _)) fun σ H Q q => by
    simp only [Tr, denBs] at q
    exact Tr.seq2 q repB_mono fun x xs H1 G1 ρ1 S1 da ds s1 r1 r2 h => h _ G1 H1 (.refl _ _) s1 (.cons r1 r2)
/-! ### displays -/
theorem tup_E {es : List Expr} {ls : LEs} {k : Nat} (h : AOk X cad T W es ls) : EOk X cad T W (.Tuple es k pos) (.tup ls) :=
  PE.weak (pe_tup h) fun σ H Q q => by
    simp only [Tr, den] at q
    refine Tr.seq q fun xs H1 G1 ρ1 S1 ds s r h => ?_
    split at h
    · rename_i hz
      exact ⟨LINE_le (by rw [r.length]; exact hz), fun p hp => new_tup s hp r h⟩
    · exact h.elim
theorem lst_E {es : List Expr} {ls : LEs} (h : AOk X cad T W es ls) : EOk X cad T W (.List es pos) (.lst ls) :=
  PE.weak (pe_lst h) fun σ H Q q => by
    simp only [Tr, den] at q
    refine Tr.seq q fun xs H1 G1 ρ1 S1 ds s r h => ?_
    split at h
    · rename_i hz
      exact ⟨LINE_le (by rw [r.length]; exact hz), fun p hp => new_lst s hp r h⟩
    · exact h.elim
theorem rep_E {es : List Expr} {ls : LEs} {p2 : Pos} (h : AOk X cad T W es ls) (hb : BOk X cad T W b lb) : EOk X cad T W (.BinOp (.List es p2) .Mult b pos) (.rep ls lb) :=
  PE.weak (pe_op op_rep (pe_lst h) hb) fun σ H Q q => by
    simp only [Tr, den] at q
    refine Tr.seq q fun xs H1 G1 ρ1 S1 ds s r h => ?_
    split at h
    · rename_i hz
      rw [Res.bind_ok] at h
      refine ⟨LINE_le (by rw [r.length]; exact hz), fun p hp => ?_⟩
      obtain ⟨k, s'⟩ := s.new (o := .lst xs) (w := .frz) hp
      refine ⟨_, ρ1, S1, s', (At.bind (At.ext h k.exE)).mono fun y H2 ⟨G2, ρ2, S2, dy, e2, s2, r2, h2⟩ => ?_⟩
      cases dy with
      | int i =>
        have hy := bint r2
        unfold opRep at h2
        simp only at h2
        split at h2
        · rename_i hz2
          have hH := (e2.frz p Gh.set_same).2.trans upd_same
          exact ⟨p, i, xs, rfl, hy, hH, by omega, by omega, LINE_le (by rw [r.length]; exact hz2.2.2), fun p2 hp2 => new_lst s2 hp2 (reps_rep (Reps.mono e2.toExF _ _ (Reps.mono k.exE.toExF _ _ r)) _) h2⟩
        · exact h2.elim
      | _ => exact (show False from h2).elim
    · exact h.elim
/-! ### places, slices -/
theorem idx_E (ha : BOk X cad T W a la) (hb : BOk X cad T W b lb) (hs : PlainIx b) : EOk X cad T W (.Subscript a b pos) (.idx la lb) :=
  PE.weak (pe_ix (op_idx (W := W) (cad := cad)) ha hb hs) fun σ H Q q => by
    simp only [Tr, den] at q
    exact Tr.seq2 q repB_mono fun b c H1 G1 ρ1 S1 a d s r1 r2 h => ⟨σ, G1, ρ1, S1, a, d, s, r1, r2, h⟩
abbrev OOk (X : Cx) (cad : Str → Option Addr) (T : Tab) (W : WX) (e : Option Expr) (l : LEo) : Prop := PO X e (Tr (ct X cad) W (denO T l) Eqv)
theorem no_O : OOk X cad T W none .no :=
  PO.weak po_none fun σ H Q q => by
    obtain ⟨G, ρ, S, s, q⟩ := q
    simp only [denO] at q
    exact q none G H (.refl _ _) s rfl
theorem so_O (h : BOk X cad T W e l) : OOk X cad T W (some e) (.so l) :=
  PO.weak (po_some h) fun σ H Q q => by
    simp only [Tr, denO] at q
    refine Tr.seq q fun x H1 G1 ρ1 S1 d s r h => ?_
    cases d with
    | int i => exact ⟨i, bint r, h (some i) G1 H1 (.refl _ _) s rfl⟩
    | _ => exact (show False from h).elim
theorem slc_E {lo hi : Option Expr} {ll lh : LEo} {p2 : Pos} (ha : BOk X cad T W a la) (hl : OOk X cad T W lo ll) (hh : OOk X cad T W hi lh) : EOk X cad T W (.Subscript a (.Slice lo hi none p2) pos) (.slc la ll lh) :=
  PE.weak (pe_slice (op_slc (W := W) (cad := cad)) ha hl hh) fun σ H Q q => by
    simp only [Tr, den] at q
    refine Tr.seq q fun x H1 G1 ρ1 S1 d s r h => ⟨G1, ρ1, S1, s, (At.bind h).mono fun u H2 ⟨G2, ρ2, S2, l, e2, s2, r2, h2⟩ => ⟨G2, ρ2, S2, s2, (At.bind h2).mono fun w H3 ⟨G3, ρ3, S3, m, e3, s3, r3, h3⟩ => ?_⟩⟩
    cases r2
    cases r3
    exact ⟨σ, G3, ρ3, S3, d, s3, (r.mono e2).mono e3, h3⟩
/-! ### calls -/
def Gh.call (G : Gh) : Gh := { G with O := fun a => match G.O a with | .slot _ => .out | o => o }
def Gh.back (G G' : Gh) : Gh := { G' with O := fun a => match G.O a with | .slot i => .slot i | _ => G'.O a }
theorem Gh.call_ns {G : Gh} (a : Addr) (i : Nat) : G.call.O a ≠ .slot i := by
  show (match G.O a with | .slot _ => Own.out | o => o) ≠ _
  split
  · simp
  · rename_i h; exact h i
theorem Gh.call_eq {G : Gh} {a : Addr} (h : ∀ i, G.O a ≠ .slot i) : G.call.O a = G.O a := by
  show (match G.O a with | .slot _ => Own.out | o => o) = _
  split
  · rename_i i e; exact (h i e).elim
  · rfl
theorem Gh.call_slot {G : Gh} {a : Addr} {i : Nat} (h : G.O a = .slot i) : G.call.O a = .out := by
  show (match G.O a with | .slot _ => Own.out | o => o) = _
  rw [h]
theorem Gh.back_eq {G G' : Gh} {a : Addr} (h : ∀ i, G.O a ≠ .slot i) : (G.back G').O a = G'.O a := by
  show (match G.O a with | .slot i => Own.slot i | _ => G'.O a) = _
  split
  · rename_i i e; exact (h i e).elim
  · rfl
theorem Gh.back_slot {G G' : Gh} {a : Addr} {i : Nat} (h : G.O a = .slot i) : (G.back G').O a = .slot i := by
  show (match G.O a with | .slot i => Own.slot i | _ => G'.O a) = _
  rw [h]
section
variable {C : Ct} {G G' : Gh} {H' : Hp} {ρ : Rho} {S S' : Mem}
theorem call_keepC : KeepC G H G.call H := ⟨rfl, fun a h => ⟨Gh.call_eq fun i => by rcases h with h | ⟨n, h⟩ | ⟨n, f, h⟩ <;> rw [h] <;> simp, rfl⟩⟩
theorem Sat.enter (s : Sat C G H σ ρ S) : SatS C G.call H S := s.toSatS.keepC call_keepC fun a h => by
  have q := s.fr a h
  rw [Gh.call_eq fun i => by rw [q]; simp]
  exact q
/-- behind a call -/
theorem back_ext (s : Sat C G H σ ρ S) (e : ExC G.call H G' H') : ExE G H (G.back G') H' := by
  refine ⟨⟨⟨fun a h => ?_, e.pre⟩, fun a h => ?_⟩, fun a i h => ?_⟩
  · have ns : ∀ i, G.O a ≠ .slot i := fun i => by rw [h]; simp
    rw [Gh.back_eq ns]
    exact e.frz a (by rw [Gh.call_eq ns]; exact h)
  · have ns : ∀ i, G.O a ≠ .slot i := fun i => by rw [h]; simp
    rw [Gh.back_eq ns]
    exact e.out a (by rw [Gh.call_eq ns]; exact h)
  · exact ⟨.inl (Gh.back_slot h), (e.out a (Gh.call_slot h)).2⟩
theorem back_keepC (e : ExC G.call H G' H') : KeepC G' H' (G.back G') H' := ⟨rfl, fun a h => ⟨Gh.back_eq (fun i q => by
  have z := (e.out a (Gh.call_slot q)).1
  rcases h with h | ⟨n, h⟩ | ⟨n, f, h⟩ <;> rw [z] at h <;> cases h), rfl⟩⟩
theorem back_sat (s : Sat C G H σ ρ S) (e : ExC G.call H G' H') (s' : SatS C G' H' S') : Sat C (G.back G') H' σ ρ S' := by
  have ex := back_ext s e
  refine ⟨s'.keepC (back_keepC e) fun a h => ?_, fun i r hr => ?_, s.ln⟩
  · have q := s'.fr a h
    rw [Gh.back_eq fun i z => ?_]
    · exact q
    · have z1 := e.out a (Gh.call_slot z)
      rw [z1.1] at q
      cases q
  · have so := s.sl i r hr
    cases r with
    | fz d =>
      obtain ⟨v, h1, h2⟩ := so
      exact ⟨v, h1, Rep.mono ex.toExF d v h2⟩
    | own ds =>
      obtain ⟨a, xs, h1, h2, h3, h4⟩ := so
      exact ⟨a, xs, h1, Gh.back_slot h2, (ex.slt a i h2).2.trans h3, Reps.mono ex.toExF ds xs h4⟩
theorem back_rep (e : ExC G.call H G' H') {v : V} {r : RV} (h : RepR C G' H' v r) : RepR C (G.back G') H' v r := by
  have k := back_keepC e
  cases r with
  | fz d => exact Rep.mono k.exF d v h
  | own ds =>
    obtain ⟨a, xs, h1, h2, h3, h4⟩ := h
    refine ⟨a, xs, h1, ?_, h3, Reps.mono k.exF ds xs h4⟩
    rw [Gh.back_eq fun i z => ?_]
    · exact h2
    · rw [(e.out a (Gh.call_slot z)).1] at h2
      cases h2
theorem back_err (e : ExC G.call H G' H') {c : Value} {d : Option Addr} {x : Err} (h : ErrOk C G' H' c d x) : ErrOk C (G.back G') H' c d x := by
  have k := back_keepC e
  obtain ⟨A, p, vs, h1, h2, h3, h4, h5⟩ := h
  refine ⟨A, p, vs, h1, h2, h3, h4, fun f => ?_⟩
  have q := h5 f
  split at q
  · rename_i y e
    obtain ⟨v, q1, q2⟩ := q
    exact ⟨v, q1, Rep.mono k.exF y v q2⟩
  · rename_i e
    exact q
end
/-- what a call wants of the callee, from what is wanted behind it -/
theorem call_sp {np : Nat} {m : Fn} {xs : List V} {ds : List D} {G : Gh} {H : Hp} {ρ : Rho} {S : Mem} {Q : VK} (hl : xs.length = np) (s : Sat (ct X cad) G H σ ρ S) (r : Reps (ct X cad) G H xs ds) (h : At (ct X cad) W σ G H ((m ds S).res ρ) (RepR (ct X cad)) Q) :
    spOf (ct X cad) np m xs H Q (fun c d H' => W c d σ H') := by
  refine ⟨hl, ds, G.call, S, Reps.mono call_keepC.exF _ _ r, s.enter, fun a i => Gh.call_ns a i, ?_⟩
  cases e : m ds S with
  | ok v S' =>
    rw [e] at h
    exact fun w G' H' ex s' _ rv => h w _ H' (back_ext s ex) (back_sat s ex s') (back_rep ex rv)
  | exc x S' =>
    rw [e] at h
    exact fun c d G' H' ex s' _ rv => h c d _ H' (back_ext s ex) (back_sat s ex s') (back_err ex rv)
  | bad =>
    rw [e] at h
    exact h
end
end Sh


/-! ShCall: calls of defs and of built-ins. -/
namespace Sh
open PySem PySem.Spec PyProof.Rows L2
section
variable {X : Cx} {cad : Str → Option Addr} {T : Tab} {W : WX} {σ : L2.St} {H : Hp} {n : Nat} {c : CC} {a b d e : Expr} {la lb ld l : LE} {pos p : Pos}
theorem passW (g : Good X cad T W n c) (σ : L2.St) : PassesAt (L2.CX X.prog X.w) X σ (fun c d H' => W c d σ H') := fun pins H s e s' I q => g.tk e s' (XE.of_call I (fun cls d H' h => h) q)
theorem run_S {f : Addr} {fd : FuncData} {ps : List Str} {m : Fn} {pins : List (Addr × Obj)} {s : Shared} {us : List Value} {vs : List V} {ds : List D} {G : Gh} {ρ : Rho} {S : Mem} {Q : VK} (g : Good X cad T W n c) (F : FnOk X.prog X.w X.K X.mg X.base (L2.CX X.prog X.w) n f fd ps (spOf (ct X cad) ps.length m)) (hb : Binds X.K fd ps [])
    (I : L2.Inv X pins σ H s) (r : Vals vs us) (hl : vs.length = ps.length) (sat : Sat (ct X cad) G H σ ρ S) (rr : Reps (ct X cad) G H vs ds) (h : At (ct X cad) W σ G H ((m ds S).res ρ) (RepR (ct X cad)) Q) : wpAny (model X.prog X.w) X.A (call (.ref f) us) (EP X pins σ Q) X.xe s :=
  run_fnSD (E := fun σ c d H' => W c d σ H') (dvs := []) (ds := []) F g.room hb .nil (passW g σ) I r (by rw [List.append_nil]; exact call_sp hl sat rr h)
theorem bad_or {α β : Type} {C : Ct} {G : Gh} {ρ : Rho} {r : FRes} {R : Gh → Hp → β → RV → Prop} {Q : β → Hp → Prop} (h : At C W σ G H (r.res ρ) R Q) : r ≠ .bad := fun e => by
  rw [e] at h
  exact h
theorem call_E {f : Str} {fi : Nat} {es : List Expr} {ls : LEs} (g : Good X cad T W n c) (hf : nameOk f = true) (hg : isGlob c f = true) (hfi : ixOf c.F f = some fi) (hp : ∀ e ∈ es, Plain e) (hnil : es = [] → ls = .nil) (h : AOk X cad T W es ls) : EOk X cad T W (.Call (.Name f p) es [] pos) (.call fi ls) := by
  refine ⟨fun pins s σ H Q I q => ?_⟩
  obtain ⟨h1, h2, h3⟩ := nameOk_1 hf
  simp only [Tr, den] at q
  obtain ⟨G, ρ, S, sat, q⟩ := q
  cases e : T.fn fi with
  | none => rw [e] at q; exact q.elim
  | some m =>
    rw [e] at q
    obtain ⟨a, fd, ps, hm, hk, F, hb, hbad⟩ := g.tab.fn fi m e f (ixOf_get hfi)
    refine wpAny_Call_Name_kw (ld_glob I (glob_of g hg) hm ?_ h1)
    have hA := h.run pos pins s σ H (fun vs H1 => ∃ G1 ρ1 S1 ds, Sat (ct X cad) G1 H1 σ ρ1 S1 ∧ Reps (ct X cad) G1 H1 vs ds ∧ At (ct X cad) W σ G1 H1 ((m ds S1).res ρ1) (RepR (ct X cad)) Q) I
      ⟨G, ρ, S, sat, (At.bind q).mono fun vs H1 ⟨G1, ρ1, S1, ds, e1, s1, r1, q1⟩ => ⟨G1, ρ1, S1, ds, s1, r1, q1⟩⟩
    cases es with
    | nil =>
      refine PySem.W.callWith_K0 I.kIn hk ?_
      rw [hnil rfl] at q
      simp only [denEs, Res.bind_ok] at q
      exact run_S g F hb I .nil (by rw [← hbad _ _ (bad_or (α := RV) q)]; rfl) sat .nil q
    | cons e1 es =>
      refine PySem.W.callWith_K (h₀ := X.base) I.ok.mod.kin hk (thn hA fun us s1 ⟨vs, H1, I1, r, G1, ρ1, S1, ds, sat1, r1, q1⟩ => ⟨I1.kIn, ?_⟩) (hp e1 List.mem_cons_self es _) (plain_any fun x hx => hp x (List.mem_cons_of_mem _ hx))
      exact run_S g F hb I1 r (by rw [← hbad _ _ (bad_or (α := RV) q1)]; exact r1.length) sat1 r1 q1
theorem pick_rel {α β : Type} {R : α → β → Prop} {xs : List α} {ys : List β} (h : PySem.Paired R xs ys) : ∀ {is : List Nat} {zs : List α}, pick is xs = some zs → ∃ ws, pick is ys = some ws ∧ PySem.Paired R zs ws
  | [], zs, e => by
    cases e
    exact ⟨[], rfl, .nil⟩
  | i :: is, zs, e => by
    unfold pick at e
    cases e1 : xs[i]? with
    | none => rw [e1] at e; cases e
    | some x =>
      cases e2 : pick is xs with
      | none => rw [e1, e2] at e; cases e
      | some xs' =>
        rw [e1, e2] at e
        cases e
        obtain ⟨ws, h1, h2⟩ := pick_rel h e2
        obtain ⟨y, h3, h4⟩ := paired_get h e1
        exact ⟨y :: ws, by unfold pick; rw [h3, h1], .cons h4 h2⟩
where
  paired_get {α β : Type} {R : α → β → Prop} {x : α} : ∀ {xs : List α} {ys : List β} {i : Nat}, PySem.Paired R xs ys → xs[i]? = some x → ∃ y, ys[i]? = some y ∧ R x y
  | _, _, _, .nil, e => by simp at e
  | _, _, 0, .cons r _, e => by simp at e; subst e; exact ⟨_, rfl, r⟩
  | _, _, i + 1, .cons _ t, e => by
    obtain ⟨y, h1, h2⟩ := paired_get (i := i) t (by simpa using e)
    exact ⟨y, by simpa using h1, h2⟩
theorem reps_paired {C : Ct} {G : Gh} : ∀ {ds : List D} {vs : List V}, Reps C G H vs ds → PySem.Paired (fun d v => Rep C G H v d) ds vs
  | [], _, h => by cases h; exact .nil
  | d :: ds, _, h => by
    cases h with
    | cons h1 h2 => exact .cons h1 (reps_paired h2)
theorem paired_reps {C : Ct} {G : Gh} : ∀ {ds : List D} {vs : List V}, PySem.Paired (fun d v => Rep C G H v d) ds vs → Reps C G H vs ds
  | _, _, .nil => .nil
  | _, _, .cons r t => .cons r (paired_reps t)
abbrev KOk (X : Cx) (cad : Str → Option Addr) (T : Tab) (W : WX) (es : List Keyword) (l : LEs) : Prop := PK X es (Tr (ct X cad) W (denEs T l) (Reps (ct X cad)))
theorem PK.weak {X : Cx} {e : List Keyword} {t t' : TA} (p : PK X e t) (h : ∀ σ H Q, t' σ H Q → t σ H Q) : PK X e t' := ⟨fun pos pins s σ H Q I q => p.run pos pins s σ H Q I (h _ _ _ q)⟩
theorem nil_K : KOk X cad T W [] .nil :=
  PK.weak pk_nil fun σ H Q q => by
    obtain ⟨G, ρ, S, s, q⟩ := q
    simp only [denEs] at q
    exact q [] G H (.refl _ _) s .nil
theorem cons_K {es : List Keyword} {ls : LEs} {nm : Option Str} {kp : Pos} (he : EOk X cad T W e l) (hs : KOk X cad T W es ls) : KOk X cad T W (⟨nm, e, kp⟩ :: es) (.cons l ls) :=
  PK.weak (pk_cons he hs) fun σ H Q q => by
    simp only [Tr, denEs] at q
    refine Tr.freeze ?_
    obtain ⟨G, ρ, S, s, q⟩ := q
    have q' : At (ct X cad) W σ G H (((den T l ρ S).map RV.d).bind fun x ρ S => (denEs T ls ρ S).bind fun xs ρ S => .ok (x :: xs) ρ S) (Reps (ct X cad)) Q := by
      rw [map_eq_bind, bind_assoc]
      exact q
    refine Tr.seq2 (m := fun ρ S => (den T l ρ S).map RV.d) (f := fun x xs ρ S => .ok (x :: xs) ρ S) (R := Reps (ct X cad)) (Q := Q) ⟨G, ρ, S, s, q'⟩ rep_mono fun x xs H1 G1 ρ1 S1 da ds s1 r1 r2 h => ?_
    exact h _ G1 H1 (.refl _ _) s1 (.cons r1 r2)
theorem kws_all : ∀ {ks : List Keyword} {pos : Pos} {env : PySem.Env} {f : Expr → Option LE} {x : List Str × LEs}, compK f ks = some x → (backToKw pos (keywordEach ks env)).all (·.1.isSome) = true ∧ (backToKw pos (keywordEach ks env)).filterMap (·.1) = x.1 ∧ (backToKw pos (keywordEach ks env)).any (·.1.isNone) = false
  | [], pos, env, f, x, h => by cases h; exact ⟨rfl, rfl, rfl⟩
  | ⟨none, e, p⟩ :: r, pos, env, f, x, h => by cases h
  | ⟨some y, e, p⟩ :: r, pos, env, f, x, h => by
    unfold compK at h
    obtain ⟨l, q, h1, h2, rfl⟩ := o2_some h
    obtain ⟨a1, a2, a3⟩ := kws_all (pos := pos) (env := env) h2
    refine ⟨?_, ?_, ?_⟩
    · show (true && (backToKw pos (keywordEach r env)).all (·.1.isSome)) = true
      rw [a1]; rfl
    · show y :: (backToKw pos (keywordEach r env)).filterMap (·.1) = y :: q.1
      rw [a2]
    · show (false || (backToKw pos (keywordEach r env)).any (·.1.isNone)) = false
      rw [a3]; rfl
theorem callk_E {f : Str} {fi : Nat} {es : List Expr} {ls kls : LEs} {ks : List Str} {kws : List Keyword} {cf : Expr → Option LE} (g : Good X cad T W n c) (hf : nameOk f = true) (hg : isGlob c f = true) (hfi : ixOf c.F f = some fi) (hp : ∀ e ∈ es, Plain e) (hnil : es = [] → ls = .nil) (h : AOk X cad T W es ls)
    (hk : KOk X cad T W kws kls) (hkw : compK cf kws = some (ks, kls)) : EOk X cad T W (.Call (.Name f p) es kws pos) (.callk fi es.length ls ks kls) := by
  refine ⟨fun pins s σ H Q I q => ?_⟩
  obtain ⟨h1, h2, h3⟩ := nameOk_1 hf
  obtain ⟨a1, a2, a3⟩ := kws_all (pos := pos) (env := X.env) hkw
  simp only [Tr, den] at q
  obtain ⟨G, ρ, S, sat, q⟩ := q
  cases e : T.fnk fi ks es.length with
  | none => rw [e] at q; exact q.elim
  | some mp =>
    obtain ⟨m, perm⟩ := mp
    rw [e] at q
    obtain ⟨a, fd, ps, hm, hkp, F, hb, hbad⟩ := g.tab.fnk fi ks _ m perm e f (ixOf_get hfi)
    refine wpAny_Call_Name_kw (ld_glob I (glob_of g hg) hm ?_ h1)
    -- behind the positional arguments: the keywords', the call
    have fin : ∀ {s1 : Shared} {us : List Value} {vs : List V} {H1 : Hp} {G1 : Gh} {ρ1 : Rho} {S1 : Mem} {ds : List D}, L2.Inv X pins σ H1 s1 → Vals vs us → Sat (ct X cad) G1 H1 σ ρ1 S1 → Reps (ct X cad) G1 H1 vs ds →
        At (ct X cad) W σ G1 H1 ((denEs T kls ρ1 S1).bind fun zs ρ S => (ofO (if ds.length = es.length ∧ zs.length = ks.length then pick perm (ds ++ zs) else none) ρ S).bind fun xs ρ S => (m xs S).res ρ) (RepR (ct X cad)) Q →
        wpAny (model X.prog X.w) X.A (evalAll ((backToKw pos (keywordEach kws X.env)).map (·.2))) (fun ws s2 => X.K.In s2.heap ∧ wpAny (model X.prog X.w) X.A (call (.ref a) us (((backToKw pos (keywordEach kws X.env)).filterMap (·.1)).zip ws)) (EP X pins σ Q) X.xe s2) X.xe s1 := by
      intro s1 us vs H1 G1 ρ1 S1 ds I1 r sat1 r1 q1
      refine thn (hk.run pos pins s1 σ H1 (fun zs H2 => ∃ G2 ρ2 S2 es', ExE G1 H1 G2 H2 ∧ Sat (ct X cad) G2 H2 σ ρ2 S2 ∧ Reps (ct X cad) G2 H2 zs es' ∧ At (ct X cad) W σ G2 H2 ((ofO (if ds.length = es.length ∧ es'.length = ks.length then pick perm (ds ++ es') else none) ρ2 S2).bind fun xs ρ S => (m xs S).res ρ) (RepR (ct X cad)) Q) I1
        ⟨G1, ρ1, S1, sat1, (At.bind q1).mono fun zs H2 ⟨G2, ρ2, S2, es', e2, s2, r2, q2⟩ => ⟨G2, ρ2, S2, es', e2, s2, r2, q2⟩⟩) fun ws s2 ⟨zs, H2, I2, rz, G2, ρ2, S2, es', e2, sat2, r2, q2⟩ => ⟨I2.kIn, ?_⟩
      rw [a2]
      split at q2
      · rename_i hz
        cases ep : pick perm (ds ++ es') with
        | none => rw [ep] at q2; exact q2.elim
        | some xs =>
          rw [ep] at q2
          simp only [ofO_some, Res.bind_ok] at q2
          have rr : Reps (ct X cad) G2 H2 (vs ++ zs) (ds ++ es') := (Reps.mono e2.toExF _ _ r1).append r2
          obtain ⟨vz, hv1, hv2⟩ := pick_rel (reps_paired rr) ep
          obtain ⟨uz, hu1, hu2⟩ := pick_rel (r.append rz) hv1
          have hxl := hbad _ _ (bad_or (α := RV) q2)
          have rvz := paired_reps hv2
          have hvl : vz.length = ps.length := by rw [← hxl]; exact rvz.length
          have hul : uz.length = ps.length := by rw [← hvl]; exact hu2.length.symm
          have hlw : ws.length = ks.length := by rw [← rz.length, r2.length]; exact hz.2
          have hlu : us.length = es.length := by rw [← r.length, r1.length]; exact hz.1
          refine wpAny_call (codeAny_mono (F.run X.A X.stack s2 H2 ⟨us, ks.zip ws⟩ uz vz Q (fun c d H' => W c d σ H') g.room I2.env0 (hb s2 us ws uz I2.kIn hlu hlw hu1 hul) hu2 (call_sp hvl sat2 rvz q2)) fun r s' hq => ?_)
          cases r with
          | error e => exact passW g σ pins H2 s2 e s' I2 hq
          | ok fl =>
            cases fl with
            | ret u => exact I2.after hq
            | next => exact False.elim hq
            | brk => exact False.elim hq
            | cont => exact False.elim hq
      · exact q2.elim
    cases es with
    | nil =>
      rw [hnil rfl] at q
      simp only [denEs, Res.bind_ok] at q
      exact PySem.W.callWith_KW0 (h₀ := X.base) I.ok.mod.kin hkp a1 (fin I .nil sat .nil q) (by show (false || (backToKw pos (keywordEach kws X.env)).any (·.1.isNone)) = false; rw [a3]; rfl)
    | cons e1 es =>
      have hA := h.run pos pins s σ H (fun vs H1 => ∃ G1 ρ1 S1 ds, Sat (ct X cad) G1 H1 σ ρ1 S1 ∧ Reps (ct X cad) G1 H1 vs ds ∧ At (ct X cad) W σ G1 H1 ((denEs T kls ρ1 S1).bind fun zs ρ S => (ofO (if ds.length = (e1 :: es).length ∧ zs.length = ks.length then pick perm (ds ++ zs) else none) ρ S).bind fun xs ρ S => (m xs S).res ρ) (RepR (ct X cad)) Q) I
        ⟨G, ρ, S, sat, (At.bind q).mono fun vs H1 ⟨G1, ρ1, S1, ds, e1, s1, r1, q1⟩ => ⟨G1, ρ1, S1, ds, s1, r1, q1⟩⟩
      exact PySem.W.callWith_KW (h₀ := X.base) I.ok.mod.kin hkp a1 (thn hA fun us s1 ⟨vs, H1, I1, r, G1, ρ1, S1, ds, sat1, r1, q1⟩ => fin I1 r sat1 r1 q1) (by rw [plain_any hp, a3]; rfl) (hp e1 List.mem_cons_self es _)
end
end Sh


/-! ShCall2: built-ins, isinstance, join. -/
namespace Sh
open PySem PySem.Spec PyProof.Rows L2
section
variable {X : Cx} {cad : Str → Option Addr} {T : Tab} {W : WX} {σ : L2.St} {H : Hp} {n : Nat} {c : CC} {a b d e : Expr} {la lb ld l : LE} {pos p : Pos}
theorem bcl_st {f : List D → Option RV} {xs : List V} {G : Gh} {ρ : Rho} {S : Mem} {ds : List D} {Q : VK} (s : Sat (ct X cad) G H σ ρ S) (r : RepBs (ct X cad) G H xs ds) (h : At (ct X cad) W σ G H (ofO (f ds) ρ S) (RepR (ct X cad)) Q) : StB (ct X cad) W xs H f Q := ⟨σ, G, ρ, S, ds, s, r, h⟩
theorem bcl_E {x : Str} {bt : Blt} {e1 : Expr} {es : List Expr} {ls : LEs} (g : Good X cad T W n c) (hx : bltOf x = some bt) (hn : nameOk x = true) (hg : isGlob c x = true) (hp : ∀ e ∈ e1 :: es, Plain e) (h : ABk X cad T W (e1 :: es) ls) : EOk X cad T W (.Call (.Name x p) (e1 :: es) [] pos) (.bcl bt ls) := by
  obtain ⟨h1, h2, h3⟩ := nameOk_1 hn
  have hs := hp e1 List.mem_cons_self es X.env
  have ha := plain_any (es := es) (env := X.env) (pos := pos) fun y hy => hp y (List.mem_cons_of_mem _ hy)
  have fin : ∀ {f : List D → Option RV}, (∀ ρ S, den T (.bcl bt ls) ρ S = (denBs T ls ρ S).bind fun ds ρ S => ofO (f ds) ρ S) → ∀ σ H Q, Tr (ct X cad) W (den T (.bcl bt ls)) (RepR (ct X cad)) σ H Q → tCB (fun xs H Q => StB (ct X cad) W xs H f Q) (Tr (ct X cad) W (denBs T ls) (RepBs (ct X cad))) σ H Q := fun {f} hd σ H Q q => by
    simp only [Tr, hd] at q
    exact Tr.seq q fun xs H1 G1 ρ1 S1 ds s r h => bcl_st s r h
  unfold bltOf at hx
  split at hx
  · rename_i e; subst e; cases hx
    exact PE.weak (pe_callB (op_len (W := W) (cad := cad)) (glob_of g hg) (g.tab.bl _ (by decide +kernel)) (by decide +kernel) h h3 h1 hs ha) (fin fun ρ S => by simp only [den])
  split at hx
  · rename_i e; subst e; cases hx
    exact PE.weak (pe_callTy (op_int (W := W) (cad := cad)) (glob_of g hg) (g.tab.bl _ (by decide +kernel)) (by decide +kernel) h h3 h1 hs ha) (fin fun ρ S => by simp only [den])
  split at hx
  · rename_i e; subst e; cases hx
    exact PE.weak (pe_callB (op_all (W := W) (cad := cad) g.calm) (glob_of g hg) (g.tab.bl _ (by decide +kernel)) (by decide +kernel) h h3 h1 hs ha) (fin fun ρ S => by simp only [den])
  split at hx
  · rename_i e; subst e; cases hx
    exact PE.weak (pe_callTy (op_list (W := W) (cad := cad)) (glob_of g hg) (g.tab.bl _ (by decide +kernel)) (by decide +kernel) h h3 h1 hs ha) (fin fun ρ S => by simp only [den])
  split at hx
  · rename_i e; subst e; cases hx
    exact PE.weak (pe_callTy (op_tuple (W := W) (cad := cad)) (glob_of g hg) (g.tab.bl _ (by decide +kernel)) (by decide +kernel) h h3 h1 hs ha) (fin fun ρ S => by simp only [den])
  cases hx
/-! ### isinstance -/
theorem tyOf_in {x : Str} {t : String} (h : tyOf x = some t) : x = (t : Str) ∧ t ∈ tyAll ∧ bootBuiltins x = some (.type t) ∧ x ∈ bltNames ∧ nameOk x = true := by
  unfold tyOf at h
  split at h
  · rename_i e; subst e; cases h; exact ⟨rfl, by decide, by decide +kernel, by decide +kernel, by decide +kernel⟩
  split at h
  · rename_i e; subst e; cases h; exact ⟨rfl, by decide, by decide +kernel, by decide +kernel, by decide +kernel⟩
  split at h
  · rename_i e; subst e; cases h; exact ⟨rfl, by decide, by decide +kernel, by decide +kernel, by decide +kernel⟩
  split at h
  · rename_i e; subst e; cases h; exact ⟨rfl, by decide, by decide +kernel, by decide +kernel, by decide +kernel⟩
  split at h
  · rename_i e; subst e; cases h; exact ⟨rfl, by decide, by decide +kernel, by decide +kernel, by decide +kernel⟩
  cases h
theorem ty_P {x : Str} {t : String} (g : Good X cad T W n c) (hg : isGlob c x = true) (h : tyOf x = some t) : PE X (.Name x p) (tC (.ty t)) := by
  obtain ⟨h1, h2, h3, h4, h5⟩ := tyOf_in h
  exact pe_bltn (glob_of g hg) (g.tab.bl _ h4) h3 rfl (nameOk_1 h5).2.2 (nameOk_1 h5).1
theorem name_plain {x : Str} : Plain (.Name x p) := fun _ _ => rfl
theorem isi1_E {x : Str} {t : String} {p1 p2 : Pos} (g : Good X cad T W n c) (hgi : isGlob c ("isinstance" : Str) = true) (hp : Plain a) (hg : isGlob c x = true) (ht : tyOf x = some t) (h : BOk X cad T W a la) : EOk X cad T W (.Call (.Name ("isinstance" : Str) p1) [a, .Name x p2] [] pos) (.isi la [t]) := by
  refine PE.weak (pe_callB call_isi (glob_of g hgi) (g.tab.bl _ (by decide +kernel)) (by decide +kernel) (pa_cons h (pa_cons (ty_P g hg ht) pa_nil) (hp _ _)) (by decide +kernel) (by decide +kernel) (hp _ _) rfl) fun σ H Q q => ?_
  simp only [Tr, den] at q
  refine Tr.seq q fun v H1 G1 ρ1 S1 d s r h => ?_
  show rIsi X.K [v, .ty t] H1 Q
  cases e : isTys d [t] with
  | none => rw [e] at h; exact h.elim
  | some k =>
    rw [e] at h
    unfold isTys at e
    cases e1 : isTy d t with
    | none => rw [e1] at e; cases e
    | some k1 =>
      rw [e1] at e
      simp only [isTys, Bool.or_false, Option.some.injEq] at e
      subst e
      obtain ⟨tn, htn⟩ := isTy_tyn e1
      exact ⟨v, _, _, _, k1, rfl, .ty t, tyX_of r htn, isTy_kit htn (tyOf_in ht).2.1 e1, h _ G1 H1 (.refl _ _) s (.bl _)⟩
theorem isi2_E {x y : Str} {t u : String} {p1 p2 p3 p4 : Pos} {kk : Nat} (g : Good X cad T W n c) (hgi : isGlob c ("isinstance" : Str) = true) (hp : Plain a) (hg : isGlob c x = true) (ht : tyOf x = some t) (hg2 : isGlob c y = true) (ht2 : tyOf y = some u) (h : BOk X cad T W a la) :
    EOk X cad T W (.Call (.Name ("isinstance" : Str) p1) [a, .Tuple [.Name x p2, .Name y p3] kk p4] [] pos) (.isi la [t, u]) := by
  refine PE.weak (pe_callB call_isiT (glob_of g hgi) (g.tab.bl _ (by decide +kernel)) (by decide +kernel) (pa_cons h (pa_cons (pe_tup (pa_cons (ty_P g hg ht) (pa_cons (ty_P g hg2 ht2) pa_nil))) pa_nil) (hp _ _)) (by decide +kernel) (by decide +kernel) (hp _ _) rfl) fun σ H Q q => ?_
  simp only [Tr, den] at q
  refine Tr.seq q fun v H1 G1 ρ1 S1 d s r h => ?_
  show 2 ≤ sizeLine ∧ ∀ p, H1 p = none → rIsiT X.K [v, .ref p] (upd H1 p (.tup [.ty t, .ty u])) Q
  refine ⟨LINE_le (by decide), fun p hp => ?_⟩
  cases e : isTys d [t, u] with
  | none => rw [e] at h; exact h.elim
  | some k =>
    rw [e] at h
    unfold isTys at e
    cases e1 : isTy d t with
    | none => rw [e1] at e; cases e
    | some k1 =>
      cases e2 : isTy d u with
      | none => rw [e1] at e; simp [isTys, e2] at e
      | some k2 =>
        rw [e1] at e
        simp only [isTys, e2, Bool.or_false, Option.some.injEq] at e
        subst e
        obtain ⟨tn, htn⟩ := isTy_tyn e1
        obtain ⟨kp, s'⟩ := s.new (o := .tup [.ty t, .ty u]) (w := .frz) hp
        refine ⟨v, p, [.ty t, .ty u], _, [.type t, .type u], k1 || k2, rfl, upd_same, .cons (.ty t) (.cons (.ty u) .nil), tyX_of (r.mono kp.exE) htn, ?_, h _ _ _ kp.exE s' (.bl _)⟩
        refine kitAny_cons (isTy_kit htn (tyOf_in ht).2.1 e1) (fun hk => kitAny_cons (isTy_kit htn (tyOf_in ht2).2.1 e2) (fun hk2 => ?_) fun hk2 => ?_) fun hk => ?_
        · rw [hk, hk2]; rfl
        · rw [hk2]; simp
        · rw [hk]; rfl
/-! ### join -/
theorem strsOf_reps {C : Ct} {G : Gh} : ∀ {ds : List D} {vs : List V} {xs : List Str}, Reps C G H vs ds → strsOf ds = some xs → vs = xs.map V.str
  | [], _, _, h, e => by cases h; cases e; rfl
  | d :: ds, _, xs, h, e => by
    cases h with
    | cons h1 h2 =>
      cases d with
      | str x =>
        cases h1
        cases e2 : strsOf ds with
        | none => simp [strsOf, e2] at e
        | some ys =>
          simp only [strsOf, e2, Option.map_some, Option.some.injEq] at e
          subst e
          rw [strsOf_reps h2 e2]
          rfl
      | _ => simp [strsOf] at e
theorem join_E {x : Str} {j : Nat} {p1 p2 : Pos} (hp : Plain a) (h : BOk X cad T W a la) (hline : (p2.endLine == pos.line) = true) : EOk X cad T W (.Call (.Attribute (.Constant (.str x) j p1) ("join" : Str) p2) [a] [] pos) (.join (.str x) la) := by
  refine PE.weak (pe_join pe_str h (hp _ _) rfl hline) fun σ H Q q => ?_
  simp only [Tr, den, denB, Res.map_ok, Res.bind_ok, RV.d] at q
  show (∃ a, V.str x = .str a) ∧ _
  refine ⟨⟨x, rfl⟩, Tr.seq q fun v H1 G1 ρ1 S1 d s r h => ?_⟩
  unfold opJoin at h
  split at h
  · rename_i zz dss e2
    cases e2
    obtain ⟨l, vs, rfl, hl, rr⟩ := r.lst
    split at h
    · rename_i xs ex
      split at h
      · rename_i hz
        have := strsOf_reps rr ex
        subst this
        exact ⟨x, l, xs, rfl, rfl, .inl hl, hz, h _ G1 H1 (.refl _ _) s (.str _)⟩
      · exact h.elim
    · exact h.elim
  · exact h.elim
end
end Sh


/-! ShIter: what a loop walks; targets. -/
namespace Sh
open PySem PySem.Spec PyProof.Rows L2 RZ
abbrev GR := Gh → Hp → Gh → Hp → Prop
/-- J gives the data ds, one a turn, as long as the state goes by R -/
structure Wks (C : Ct) (R : GR) (G : Gh) (H : Hp) (J : It) (ds : List D) : Prop where
  goes : ∀ i G1 H1, i < ds.length → R G H G1 H1 → J.go i H1
  stops : ∀ G1 H1, R G H G1 H1 → J.stop ds.length H1
  yields : ∀ i x G1 H1 H2 σ ρ S, i < ds.length → R G H G1 H1 → Sat C G1 H1 σ ρ S → J.yld i H1 x H2 → ∃ G2 d, Keep G1 H1 G2 H2 ∧ Sat C G2 H2 σ ρ S ∧ ds[i]? = some d ∧ Rep C G2 H2 x d
/-- how a source is looked at -/
structure RvOk (C : Ct) (R : GR) (Rv : Gh → Hp → V → D → Prop) : Prop where
  ex : ∀ {G H G1 H1}, R G H G1 H1 → ExF G H G1 H1
  lst : ∀ {G H v ds}, Rv G H v (.lst ds) → ∃ a xs, v = .ref a ∧ (∀ G1 H1, R G H G1 H1 → SqL C.K H1 a xs) ∧ SqL C.K H a xs ∧ Reps C G H xs ds
  tup : ∀ {G H v ds}, Rv G H v (.tup ds) → ∃ a xs, v = .ref a ∧ FT C G H a xs ∧ Reps C G H xs ds
  str : ∀ {G H v x}, Rv G H v (.str x) → v = .str x
  int : ∀ {G H v x}, Rv G H v (.int x) → v = .int x
  mono : ∀ {G H G1 H1 v d}, ExE G H G1 H1 → Rv G H v d → Rv G1 H1 v d
theorem rvB {C : Ct} : RvOk C ExE (RepB C) where
  ex := fun e => e.toExF
  lst := fun h => by
    rcases h with h | ⟨a, xs, es, i, rfl, e, h1, h2, h3⟩
    · cases h with
      | lst h1 h2 => exact ⟨_, _, rfl, fun G1 H1 e => (h1.mono e.toExF).seq, h1.seq, h2⟩
    · cases e
      exact ⟨_, _, rfl, fun G1 H1 e => SqL.of ((e.slt _ _ h1).2.trans h2), SqL.of h2, h3⟩
  tup := fun h => btup h
  str := fun h => bstr h
  int := fun h => bint h
  mono := fun e h => h.mono e
theorem rvF {C : Ct} : RvOk C ExC (Rep C) where
  ex := fun e => e.toExF
  lst := fun h => by
    cases h with
    | lst h1 h2 => exact ⟨_, _, rfl, fun G1 H1 e => (h1.mono e.toExF).seq, h1.seq, h2⟩
  tup := fun h => btup (.inl h)
  str := fun h => bstr (.inl h)
  int := fun h => bint (.inl h)
  mono := fun e h => rep_mono e h
section
variable {C : Ct} {R : GR} {Rv : Gh → Hp → V → D → Prop} {G : Gh} {H : Hp}
theorem keep_refl : Keep G H G H := ⟨rfl, fun _ _ _ => ⟨rfl, rfl⟩⟩
theorem wks_list {a : Addr} {xs : List V} {ds : List D} (k : RvOk C R Rv) (st : ∀ G1 H1, R G H G1 H1 → SqL C.K H1 a xs) (r : Reps C G H xs ds) : Wks C R G H (Itl C.K a) ds where
  goes := fun i G1 H1 hi e => ⟨xs, xs[i]'(by rw [r.length]; exact hi), st G1 H1 e, by simp⟩
  stops := fun G1 H1 e => ⟨xs, st G1 H1 e, by rw [r.length]; exact Nat.le_refl _⟩
  yields := fun i x G1 H1 H2 σ ρ S hi e s y => by
    obtain ⟨e2, y⟩ := y
    subst e2
    obtain ⟨d, hd, rd⟩ := r.getV (y xs (st G1 _ e))
    exact ⟨G1, d, keep_refl, s, hd, Rep.mono (k.ex e) d x rd⟩
theorem wks_tup {a : Addr} {xs : List V} {ds : List D} (k : RvOk C R Rv) (st : FT C G H a xs) (r : Reps C G H xs ds) : Wks C R G H (Itt C.K a) ds where
  goes := fun i G1 H1 hi e => ⟨xs, xs[i]'(by rw [r.length]; exact hi), (st.mono (k.ex e)).seq, by simp⟩
  stops := fun G1 H1 e => ⟨xs, (st.mono (k.ex e)).seq, by rw [r.length]; exact Nat.le_refl _⟩
  yields := fun i x G1 H1 H2 σ ρ S hi e s y => by
    obtain ⟨e2, y⟩ := y
    subst e2
    obtain ⟨d, hd, rd⟩ := r.getV (y xs (st.mono (k.ex e)).seq)
    exact ⟨G1, d, keep_refl, s, hd, Rep.mono (k.ex e) d x rd⟩
theorem wks_str {z : Str} : Wks C R G H (Its z) (z.cps.toList.map fun c => .str (sgn c)) where
  goes := fun i G1 H1 hi e => by
    have : i < z.cps.size := by simpa using hi
    exact this
  stops := fun G1 H1 e => by show z.cps.size ≤ _; simp
  yields := fun i x G1 H1 H2 σ ρ S hi e s y => by
    obtain ⟨e2, c, hc, e3⟩ := y
    subst e2 e3
    exact ⟨G1, .str (sgn c), keep_refl, s, by rw [List.getElem?_map, Array.getElem?_toList, hc]; rfl, .str _⟩
theorem wks_rng {n : Nat} : Wks C R G H (Itr 0 n) (rngD n) where
  goes := fun i G1 H1 hi e => by
    have : i < n := by simpa [rngD] using hi
    exact this
  stops := fun G1 H1 e => by show n ≤ _; simp [rngD]
  yields := fun i x G1 H1 H2 σ ρ S hi e s y => by
    obtain ⟨e2, e3⟩ := y
    subst e2 e3
    have hi' : i < n := by simpa [rngD] using hi
    refine ⟨G1, .int (i : Int), keep_refl, s, ?_, ?_⟩
    · unfold rngD
      rw [List.getElem?_map, List.getElem?_range hi']
      rfl
    · rw [Int.zero_add]
      exact .int _
theorem zipD_get : ∀ {xs ys : List D} {i : Nat} {x y : D}, xs[i]? = some x → ys[i]? = some y → (zipD xs ys)[i]? = some (.tup [x, y])
  | [], _, _, _, _, h, _ => by simp at h
  | _ :: _, [], _, _, _, _, h => by simp at h
  | a :: xs, b :: ys, 0, x, y, h, k => by
    simp at h k
    subst h k
    rfl
  | a :: xs, b :: ys, i + 1, x, y, h, k => by
    have := zipD_get (i := i) (xs := xs) (ys := ys) (by simpa using h) (by simpa using k)
    simpa [zipD] using this
theorem zipD_length : ∀ (xs ys : List D), (zipD xs ys).length = min xs.length ys.length
  | [], _ => by simp [zipD]
  | _ :: _, [] => by simp [zipD]
  | a :: xs, b :: ys => by
    simp only [zipD, List.length_cons, zipD_length xs ys]
    omega
/-- a new pair -/
theorem pair_new {σ : L2.St} {ρ : Rho} {S : Mem} {t : Addr} {x y : V} {d e : D} (s : Sat C G H σ ρ S) (ht : H t = none) (r1 : Rep C G H x d) (r2 : Rep C G H y e) : ∃ G2, Keep G H G2 (upd H t (.tup [x, y])) ∧ Sat C G2 (upd H t (.tup [x, y])) σ ρ S ∧ Rep C G2 (upd H t (.tup [x, y])) (.ref t) (.tup [d, e]) := by
  obtain ⟨k, s'⟩ := s.new (o := .tup [x, y]) (w := .frz) ht
  exact ⟨_, k, s', .tup (.inl ⟨Gh.set_same, upd_same⟩) (.cons (Rep.mono k.exE.toExF _ _ r1) (.cons (Rep.mono k.exE.toExF _ _ r2) .nil))⟩
theorem wks_zip {a b : Addr} {xs ys : List V} {ds es : List D} (k : RvOk C R Rv) (st : ∀ G1 H1, R G H G1 H1 → SqL C.K H1 a xs) (st2 : ∀ G1 H1, R G H G1 H1 → SqL C.K H1 b ys) (r : Reps C G H xs ds) (r2 : Reps C G H ys es) : Wks C R G H (Itz C.K a b) (zipD ds es) where
  goes := fun i G1 H1 hi e => by
    rw [zipD_length] at hi
    exact ⟨xs, ys, xs[i]'(by rw [r.length]; omega), ys[i]'(by rw [r2.length]; omega), st G1 H1 e, st2 G1 H1 e, by simp, by simp⟩
  stops := fun G1 H1 e => ⟨xs, ys, st G1 H1 e, st2 G1 H1 e, by rw [zipD_length, r.length, r2.length]; omega⟩
  yields := fun i x G1 H1 H2 σ ρ S hi e s y => by
    obtain ⟨t, u, v, rfl, ht, rfl, h1, h2⟩ := y
    obtain ⟨d, hd, rd⟩ := r.getV (h1 xs (st G1 _ e))
    obtain ⟨d2, hd2, rd2⟩ := r2.getV (h2 ys (st2 G1 _ e))
    obtain ⟨G2, q1, q2, q3⟩ := pair_new s ht (Rep.mono (k.ex e) d u rd) (Rep.mono (k.ex e) d2 v rd2)
    exact ⟨G2, _, q1, q2, zipD_get hd hd2, q3⟩
theorem wks_zipT {a b : Addr} {xs ys : List V} {ds es : List D} (k : RvOk C R Rv) (st : FT C G H a xs) (st2 : FT C G H b ys) (r : Reps C G H xs ds) (r2 : Reps C G H ys es) : Wks C R G H (ItzT C.K a b) (zipD ds es) where
  goes := fun i G1 H1 hi e => by
    rw [zipD_length] at hi
    exact ⟨xs, ys, xs[i]'(by rw [r.length]; omega), ys[i]'(by rw [r2.length]; omega), (st.mono (k.ex e)).seq, (st2.mono (k.ex e)).seq, by simp, by simp⟩
  stops := fun G1 H1 e => ⟨xs, ys, (st.mono (k.ex e)).seq, (st2.mono (k.ex e)).seq, by rw [zipD_length, r.length, r2.length]; omega⟩
  yields := fun i x G1 H1 H2 σ ρ S hi e s y => by
    obtain ⟨t, u, v, rfl, ht, rfl, h1, h2⟩ := y
    obtain ⟨d, hd, rd⟩ := r.getV (h1 xs (st.mono (k.ex e)).seq)
    obtain ⟨d2, hd2, rd2⟩ := r2.getV (h2 ys (st2.mono (k.ex e)).seq)
    obtain ⟨G2, q1, q2, q3⟩ := pair_new s ht (Rep.mono (k.ex e) d u rd) (Rep.mono (k.ex e) d2 v rd2)
    exact ⟨G2, _, q1, q2, zipD_get hd hd2, q3⟩
end
section
variable {X : Cx} {cad : Str → Option Addr} {T : Tab} {W : WX} {R : GR} {Rv : Gh → Hp → V → D → Prop} {tg a b : Expr} {m m2 : Rho → Mem → Res D} {pos p : Pos}
/-- a source, of whatever kind -/
theorem seq_I (k : RvOk (ct X cad) R Rv) (h : PE X a (Tr (ct X cad) W m Rv)) : PI X tg a (Tr (ct X cad) W (fun ρ S => (m ρ S).bind fun x ρ S => ofO (itemsOf x) ρ S) (Wks (ct X cad) R)) := by
  refine ⟨fun pins s σ H Q I q => ?_⟩
  obtain ⟨G, ρ, S, sat, q⟩ := q
  dsimp only at q
  cases e : m ρ S with
  | bad => rw [e] at q; exact q.elim
  | exc x ρ1 S1 =>
    refine (pi_list h).run pins s σ H Q I ⟨G, ρ, S, sat, ?_⟩
    rw [e] at q ⊢
    exact q
  | ok d ρ1 S1 =>
    rw [e] at q
    simp only [Res.bind_ok] at q
    have go : ∀ {Q1 : VK}, (∀ v G' H', ExE G H G' H' → Sat (ct X cad) G' H' σ ρ1 S1 → Rv G' H' v d → Q1 v H') → Tr (ct X cad) W m Rv σ H Q1 := fun {Q1} z => ⟨G, ρ, S, sat, by rw [e]; exact z⟩
    cases d with
    | lst ds =>
      refine (pi_list h).run pins s σ H Q I (go fun v G' H' ex s' r => ?_)
      obtain ⟨l, xs, rfl, st, hl, rr⟩ := k.lst r
      exact ⟨l, rfl, ⟨xs, hl⟩, q _ G' H' ex s' (wks_list k st rr)⟩
    | tup ds =>
      refine (pi_tup h).run pins s σ H Q I (go fun v G' H' ex s' r => ?_)
      obtain ⟨l, xs, rfl, hl, rr⟩ := k.tup r
      exact ⟨l, rfl, ⟨xs, hl.seq⟩, q _ G' H' ex s' (wks_tup k hl rr)⟩
    | str z =>
      refine (pi_str h).run pins s σ H Q I (go fun v G' H' ex s' r => ?_)
      exact ⟨z, k.str r, q _ G' H' ex s' wks_str⟩
    | _ => exact (show False from q).elim
theorem rng_I {n : Nat} {c : CC} (g : Good X cad T W n c) (hg : isGlob c ("range" : Str) = true) (hp : Plain a) (k : RvOk (ct X cad) R Rv) (h : PE X a (Tr (ct X cad) W m Rv)) :
    PI X tg (.Call (.Name ("range" : Str) p) [a] [] pos) (Tr (ct X cad) W (fun ρ S => (m ρ S).bind fun x ρ S => ofO (opRng x) ρ S) (Wks (ct X cad) R)) :=
  PI.weak (pi_range1 (glob_of g hg) (g.tab.bl _ (by decide +kernel)) (pa_cons h pa_nil (hp _ _)) (hp _ _)) fun σ H Q q => by
    refine Tr.seq q fun v H1 G1 ρ1 S1 d s r h => ?_
    cases d with
    | int j =>
      unfold opRng at h
      dsimp only at h
      split at h
      · rename_i hz
        have hz' : j.natAbs ≤ 16777216 := hz
        exact ⟨j, by rw [k.int r], by omega, by omega, h _ G1 H1 (.refl _ _) s wks_rng⟩
      · exact h.elim
    | _ => exact (show False from h).elim
theorem zip_I {n : Nat} {c : CC} {elts : List Expr} {kk : Nat} {tpos : Pos} (g : Good X cad T W n c) (hg : isGlob c ("zip" : Str) = true) (hp : Plain a) (hp2 : Plain b) (k : RvOk (ct X cad) R Rv) (h : PE X a (Tr (ct X cad) W m Rv)) (h2 : PE X b (Tr (ct X cad) W m2 Rv)) :
    PI X (.Tuple elts kk tpos) (.Call (.Name ("zip" : Str) p) [a, b] [] pos) (Tr (ct X cad) W (fun ρ S => (m ρ S).bind fun x ρ S => (m2 ρ S).bind fun y ρ S => ofO (opZip x y) ρ S) (Wks (ct X cad) R)) :=
  PI.weak (pi_zipA (glob_of g hg) (g.tab.bl _ (by decide +kernel)) (pa_cons h (pa_cons h2 pa_nil (hp2 _ _)) (hp _ _)) (hp _ _) (plain_any (es := [b]) fun x hx => by simp at hx; subst hx; exact hp2)) fun σ H Q q => by
    refine Tr.seq2 (Q1 := fun x y H2 => ∃ a b xs ys, [x, y] = [V.ref a, V.ref b] ∧ ((SqL X.K H2 a xs ∧ SqL X.K H2 b ys ∧ Q (Itz X.K a b) H2) ∨ (SqT X.K H2 a xs ∧ SqT X.K H2 b ys ∧ Q (ItzT X.K a b) H2))) q k.mono fun x y H1 G1 ρ1 S1 d e s r1 r2 h => ?_
    unfold opZip at h
    split at h
    · obtain ⟨l, xs, rfl, st, hl, rr⟩ := k.lst r1
      obtain ⟨l2, ys, rfl, st2, hl2, rr2⟩ := k.lst r2
      exact ⟨l, l2, xs, ys, rfl, .inl ⟨hl, hl2, h _ G1 H1 (.refl _ _) s (wks_zip k st st2 rr rr2)⟩⟩
    · obtain ⟨l, xs, rfl, hl, rr⟩ := k.tup r1
      obtain ⟨l2, ys, rfl, hl2, rr2⟩ := k.tup r2
      exact ⟨l, l2, xs, ys, rfl, .inr ⟨hl.seq, hl2.seq, h _ G1 H1 (.refl _ _) s (wks_zipT k hl hl2 rr rr2)⟩⟩
    · exact h.elim
end
end Sh


/-! ShLc: targets, comprehensions. -/
namespace Sh
open PySem PySem.Spec PyProof.Rows L2 RZ
section
variable {C : Ct} {G : Gh} {H : Hp} {σ : L2.St} {ρ ρ' : Rho} {S : Mem}
/-- a slot takes frozen data -/
theorem Sat.put (s : Sat C G H σ ρ S) {i : Nat} {v : V} {d : D} (r : Rep C G H v d) : Sat C G H (σ.set i (some v)) (ρ.set i (some (.fz d))) S := by
  refine ⟨s.toSatS, fun j x hj => ?_, by rw [List.length_set, List.length_set]; exact s.ln⟩
  have hjl := (List.getElem?_eq_some_iff.mp hj).1
  rw [List.length_set] at hjl
  by_cases e : j = i
  · subst e
    rw [List.getElem?_set_self hjl] at hj
    cases hj
    exact ⟨v, by rw [List.getElem?_set_self (by rw [← s.ln]; exact hjl)], r⟩
  · rw [List.getElem?_set_ne (Ne.symm e)] at hj
    rw [List.getElem?_set_ne (Ne.symm e)]
    exact s.sl j x hj
/-- σ' is σ but for the slots is -/
structure But (is : List Nat) (σ σ' : L2.St) : Prop where
  len : σ'.length = σ.length
  at_ : ∀ j, j ∉ is → σ'[j]? = σ[j]?
theorem But.refl (is : List Nat) (σ : L2.St) : But is σ σ := ⟨rfl, fun _ _ => rfl⟩
theorem But.set {is : List Nat} {σ σ1 : L2.St} {i : Nat} {v : Option V} (b : But is (σ.set i v) σ1) (hi : i ∈ is) : But is σ σ1 :=
  ⟨by rw [b.len, List.length_set], fun j hj => by rw [b.at_ j hj, List.getElem?_set_ne]; rintro rfl; exact hj hi⟩
def gNames : List Nat → TGs
  | [] => gNil
  | i :: is => gCons (gName i) (gNames is)
def gOf (K : PySem.W.Frag) : Tg → TG
  | .name i => gName i
  | .tup is => gTup K is.length (gNames is)
theorem names_put {js : List Nat} : ∀ {is : List Nat} {σ : L2.St} {ρ ρ' : Rho} {vs : List V} {ds : List D} {Q : L2.St → Hp → Prop}, Sat C G H σ ρ S → Reps C G H vs ds → setAll ρ is ds = some ρ' → (∀ i ∈ is, i ∈ js) → (∀ σ', Sat C G H σ' ρ' S → But js σ σ' → Q σ' H) → gNames is vs σ H Q
  | [], σ, ρ, ρ', vs, ds, Q, s, r, e, hj, h => by
    cases ds with
    | nil =>
      cases r
      cases e
      exact ⟨rfl, h σ s (.refl _ _)⟩
    | cons d ds => cases e
  | i :: is, σ, ρ, ρ', vs, ds, Q, s, r, e, hj, h => by
    cases ds with
    | nil => cases e
    | cons d ds =>
      cases r with
      | cons r1 r2 => exact ⟨_, _, rfl, names_put (s.put r1) r2 e (fun k hk => hj k (List.mem_cons_of_mem _ hk)) fun σ' s' b => h σ' s' (b.set (hj i List.mem_cons_self))⟩
theorem tg_put {t : Tg} {v : V} {d : D} {js : List Nat} {Q : L2.St → Hp → Prop} (s : Sat C G H σ ρ S) (r : Rep C G H v d) (e : t.put d ρ = some ρ') (hj : ∀ i ∈ t.slots, i ∈ js) (h : ∀ σ', Sat C G H σ' ρ' S → But js σ σ' → Q σ' H) : gOf C.K t v σ H Q := by
  cases t with
  | name i =>
    cases e
    exact h _ (s.put r) ((But.refl js _).set (hj i List.mem_cons_self))
  | tup is =>
    cases d with
    | tup ds =>
      cases r with
      | tup h1 h2 =>
        refine ⟨_, _, rfl, h1.seq, ?_, names_put s h2 e hj h⟩
        rw [h2.length]
        exact setAll_len e
    | _ => cases e
where
  setAll_len : ∀ {is : List Nat} {ρ ρ' : Rho} {ds : List D}, setAll ρ is ds = some ρ' → ds.length = is.length
  | [], _, _, [], _ => rfl
  | [], _, _, _ :: _, e => by cases e
  | _ :: _, _, _, [], e => by cases e
  | i :: is, ρ, ρ', d :: ds, e => by simp [setAll_len (is := is) (ds := ds) e]
theorem wipeE_len (ρ : Rho) : ∀ vs : List Nat, (wipeE ρ vs).length = ρ.length
  | [] => rfl
  | v :: vs => by unfold wipeE; rw [List.length_set, wipeE_len ρ vs]
theorem wipeE_get {ρ : Rho} {i : Nat} {x : RV} : ∀ {vs : List Nat}, (wipeE ρ vs)[i]? = some (some x) → ρ[i]? = some (some x) ∧ i ∉ vs
  | [], h => ⟨h, by simp⟩
  | v :: vs, h => by
    unfold wipeE at h
    by_cases e : i = v
    · subst e
      rw [List.getElem?_set] at h
      simp at h
    · rw [List.getElem?_set_ne (Ne.symm e)] at h
      obtain ⟨h1, h2⟩ := wipeE_get h
      exact ⟨h1, by simp [e, h2]⟩
theorem wipe_out {σ : L2.St} {i : Nat} : ∀ {vs : List Nat}, i ∉ vs → (wipe σ vs)[i]? = σ[i]?
  | [], _ => rfl
  | v :: vs, h => by
    unfold wipe
    have : i ≠ v := fun e => h (by simp [e])
    rw [List.getElem?_set_ne (Ne.symm this), wipe_out fun z => h (List.mem_cons_of_mem _ z)]
theorem wipe_in {σ : L2.St} {i : Nat} : ∀ {vs : List Nat}, i ∈ vs → i < σ.length → (wipe σ vs)[i]? = some none
  | [], h, _ => by cases h
  | v :: vs, h, hl => by
    unfold wipe
    by_cases e : i = v
    · subst e
      rw [List.getElem?_set_self (by rw [wipe_length]; exact hl)]
    · rw [List.getElem?_set_ne (Ne.symm e)]
      exact wipe_in ((List.mem_cons.mp h).resolve_left e) hl
theorem Sat.wipe (s : Sat C G H σ ρ S) (vs : List Nat) : Sat C G H (L2.wipe σ vs) (wipeE ρ vs) S := by
  refine ⟨s.toSatS, fun i r h => ?_, by rw [wipeE_len, wipe_length]; exact s.ln⟩
  obtain ⟨h1, h2⟩ := wipeE_get h
  rw [wipe_out h2]
  exact s.sl i r h1
theorem But.wipe {vs : List Nat} {σ σ' : L2.St} (b : But vs σ σ') : L2.wipe σ' vs = L2.wipe σ vs := by
  apply List.ext_getElem?
  intro i
  by_cases hi : i ∈ vs
  · by_cases hl : i < σ.length
    · rw [wipe_in hi hl, wipe_in hi (by rw [b.len]; exact hl)]
    · rw [List.getElem?_eq_none (by rw [wipe_length, b.len]; omega), List.getElem?_eq_none (by rw [wipe_length]; omega)]
  · rw [wipe_out hi, wipe_out hi, b.at_ i hi]
theorem wipe_wipe (σ : L2.St) (vs : List Nat) : L2.wipe (L2.wipe σ vs) vs = L2.wipe σ vs :=
  But.wipe ⟨wipe_length σ vs, fun j hj => wipe_out hj⟩
theorem backE_len (ρ0 ρ : Rho) : ∀ vs : List Nat, (backE ρ0 ρ vs).length = ρ.length
  | [] => rfl
  | v :: vs => by unfold backE; rw [List.length_set, backE_len ρ0 ρ vs]
theorem backE_out {ρ0 ρ : Rho} {i : Nat} : ∀ {vs : List Nat}, i ∉ vs → (backE ρ0 ρ vs)[i]? = ρ[i]?
  | [], _ => rfl
  | v :: vs, h => by
    unfold backE
    have : i ≠ v := fun e => h (by simp [e])
    rw [List.getElem?_set_ne (Ne.symm this), backE_out fun z => h (List.mem_cons_of_mem _ z)]
theorem backE_in {ρ0 ρ : Rho} {i : Nat} : ∀ {vs : List Nat}, i ∈ vs → i < ρ.length → (backE ρ0 ρ vs)[i]? = some (ρ0[i]?.getD none)
  | [], h, _ => by cases h
  | v :: vs, h, hl => by
    unfold backE
    by_cases e : i = v
    · subst e
      rw [List.getElem?_set_self (by rw [backE_len]; exact hl)]
    · rw [List.getElem?_set_ne (Ne.symm e)]
      exact backE_in ((List.mem_cons.mp h).resolve_left e) hl
theorem noOwn_at {ρ : Rho} {vs : List Nat} {i : Nat} {ds : List D} (h : noOwn ρ vs ≠ false) (hi : i ∈ vs) : ρ[i]? ≠ some (some (.own ds)) := fun e => by
  have h' : noOwn ρ vs = true := by cases q : noOwn ρ vs <;> simp_all
  unfold noOwn at h'
  have := List.all_eq_true.mp h' i hi
  rw [e] at this
  cases this
/-- behind a comprehension's block -/
theorem Sat.unwipe {G0 : Gh} {H0 : Hp} {ρ0 : Rho} {S0 : Mem} {vs : List Nat} (s0 : Sat C G0 H0 σ ρ0 S0) (no : noOwn ρ0 vs ≠ false) (e : ExE G0 H0 G H) (s : Sat C G H (L2.wipe σ vs) ρ S) : Sat C G H σ (backE ρ0 ρ vs) S := by
  have hl : ρ.length = σ.length := by rw [s.ln, wipe_length]
  refine ⟨s.toSatS, fun i r h => ?_, by rw [backE_len]; exact hl⟩
  by_cases hi : i ∈ vs
  · have hil := (List.getElem?_eq_some_iff.mp h).1
    rw [backE_len] at hil
    rw [backE_in hi hil] at h
    have h' : ρ0[i]? = some (some r) := by
      cases q : ρ0[i]? with
      | none => rw [q] at h; cases h
      | some o => rw [q] at h; simpa using h
    have so := s0.sl i r h'
    cases r with
    | fz d =>
      obtain ⟨v, h1, h2⟩ := so
      exact ⟨v, h1, Rep.mono e.toExF d v h2⟩
    | own ds => exact (noOwn_at no hi h').elim
  · rw [backE_out hi] at h
    have so := s.sl i r h
    rw [wipe_out hi] at so
    exact so
/-- within a block: no exception, other slots; what is wanted stays said of the start (Gb, Hb) -/
theorem At.bindX {α β γ δ : Type} {W : WX} {σ σ2 : L2.St} {Gb : Gh} {Hb : Hp} {r1 : Res γ} {R : Gh → Hp → β → α → Prop} {R1 : Gh → Hp → δ → γ → Prop} {f : γ → Rho → Mem → Res α} {Q : β → Hp → Prop} (h : At C W σ Gb Hb ((noX r1).bind f) R Q) :
    At C (fun _ _ _ _ => False) σ2 G H r1 R1 fun b1 H1 => ∃ G1 ρ1 S1 a1, ExE G H G1 H1 ∧ Sat C G1 H1 σ2 ρ1 S1 ∧ R1 G1 H1 b1 a1 ∧ At C W σ Gb Hb (f a1 ρ1 S1) R Q := by
  cases r1 with
  | ok a ρ S => exact fun b G' H' e s q => ⟨G', ρ, S, a, e, s, q, h⟩
  | exc x ρ S => exact h.elim
  | bad => exact h
theorem wipeE_out {ρ : Rho} {i : Nat} : ∀ {vs : List Nat}, i ∉ vs → (wipeE ρ vs)[i]? = ρ[i]?
  | [], _ => rfl
  | v :: vs, h => by
    unfold wipeE
    have : i ≠ v := fun e => h (by simp [e])
    rw [List.getElem?_set_ne (Ne.symm this), wipeE_out fun z => h (List.mem_cons_of_mem _ z)]
theorem backE_wipeE (ρ0 ρ : Rho) (vs : List Nat) : backE ρ0 (wipeE ρ vs) vs = backE ρ0 ρ vs := by
  apply List.ext_getElem?
  intro i
  by_cases hi : i ∈ vs
  · by_cases hl : i < ρ.length
    · rw [backE_in hi (by rw [wipeE_len]; exact hl), backE_in hi hl]
    · rw [List.getElem?_eq_none (by rw [backE_len, wipeE_len]; omega), List.getElem?_eq_none (by rw [backE_len]; omega)]
  · rw [backE_out hi, backE_out hi, wipeE_out hi]
theorem noX_bind {α β : Type} (r : Res α) (f : α → Rho → Mem → Res β) : noX (r.bind f) = (noX r).bind fun a ρ S => noX (f a ρ S) := by
  cases r <;> rfl
theorem noX_noX {α : Type} (r : Res α) : noX (noX r) = noX r := by cases r <;> rfl
theorem noX_ofO {α : Type} (o : Option α) (ρ : Rho) (S : Mem) : noX (ofO o ρ S) = ofO o ρ S := by cases o <;> rfl
end
section
variable {X : Cx} {cad : Str → Option Addr} {T : Tab} {W : WX} {n : Nat} {c : CC}
abbrev W0 : WX := fun _ _ _ _ => False
/-- the block's context -/
def CC.blk (c : CC) (scope : Scope) : CC := ⟨c.F, c.N, relS scope c.sc, fun x => scope.names.lookup x == some .cell⟩
theorem Good.blk (g : Good X cad T W n c) (s : Shared) (H : Hp) (scope : Scope) (A : Addr) (cl : List (Str × Addr)) (fp : List Addr) : Good (X.blk s H scope (compEnvC scope cl A X.env) fp) cad T W0 n (c.blk scope) where
  N := g.N
  sc := by
    show relS scope X.env.scope = relS scope c.sc
    rw [g.sc]
  nd := g.nd
  fn := fun x h => h
  calm := g.calm
  room := g.room
  tk := takes0
  tab := g.tab
/-- the tests of a comprehension -/
abbrev CkOk (X : Cx) (cad : Str → Option Addr) (T : Tab) (es : List Expr) (l : LEs) : Prop := PTs X es (Tr (ct X cad) W0 (denC T l) Eqv)
theorem PTs.weak {X : Cx} {e : List Expr} {t t' : TT} (p : PTs X e t) (h : ∀ σ H Q, t' σ H Q → t σ H Q) : PTs X e t' := ⟨fun pins s σ H Q I q => p.run pins s σ H Q I (h _ _ _ q)⟩
theorem ck_nil : CkOk X cad T [] .nil :=
  PTs.weak pts_nil fun σ H Q q => by
    obtain ⟨G, ρ, S, s, q⟩ := q
    simp only [denC] at q
    exact q true G H (.refl _ _) s rfl
theorem ck_one {e : Expr} {l : LE} (h : TOk X cad T W0 e l) : CkOk X cad T [e] (.cons l .nil) :=
  PTs.weak (pts_one h) fun σ H Q q => by
    simp only [Tr, denC] at q
    refine Tr.tstT q fun k H1 G1 ρ1 S1 s h => ?_
    cases k with
    | true =>
      rw [if_pos rfl] at h
      exact At.okE s h
    | false =>
      rw [if_neg (by decide)] at h
      exact At.okE s h
theorem reps_snoc {C : Ct} {G : Gh} {H : Hp} {xs : List V} {ds : List D} {v : V} {d : D} (r : Reps C G H xs ds) (h : Rep C G H v d) : Reps C G H (xs ++ [v]) (ds ++ [d]) := r.append (.one h)
/-- [elt for tg in it if ..]: its reading -/
theorem lc_rd {tg : Tg} {vs : List Nat} {le : LE} {li : LI} {cs : LEs} (ht : ∀ i ∈ tg.slots, i ∈ vs) {σ : L2.St} {H : Hp} {Q : VK} (q : Tr (ct X cad) W (den T (.lc vs le tg li cs)) (RepR (ct X cad)) σ H Q) :
    tLc (Tr (ct X cad) W (denI T li) (Wks (ct X cad) ExE)) (gOf X.K tg) (Tr (ct X cad) W0 (denC T cs) Eqv) (Tr (ct X cad) W0 (den T le) (RepR (ct X cad))) vs σ H Q := by
  simp only [Tr, den] at q
  refine Tr.seq q fun J H1 G1 ρ1 S1 ds s1 wk q1 => ?_
  intro D hD
  split at q1
  · exact q1.elim
  rename_i no
  -- the new list at D belongs to nobody that the block knows
  obtain ⟨k0, s2⟩ := s1.new (o := .lst []) (w := .out) hD
  let f : Sh.D → Rho → Mem → Res (Option Sh.D) := fun d ρ S => (ofO (tg.put d ρ) ρ S).bind fun ρ' _ S => (denC T cs ρ' S).bind fun k ρ S => if k = true then (den T le ρ S).bind fun y ρ S => .ok (some y.d) ρ S else .ok none ρ S
  have q1 : At (ct X cad) W σ G1 H1 ((lcLoop vs f ds [] ρ1 S1).bind fun acc ρ' S => .ok (.own acc) (backE ρ1 ρ' vs) S) (RepR (ct X cad)) Q := q1
  let Pv : Nat → Hp → Prop := fun i Hi => ∃ Gi ρi Si acc xs, i ≤ ds.length ∧ ExE G1 H1 Gi Hi ∧ Sat (ct X cad) Gi Hi (wipe σ vs) (wipeE ρi vs) Si ∧ ρi.length = σ.length ∧ Gi.O D = .out ∧ Hi D = some (.lst xs) ∧ Reps (ct X cad) Gi Hi xs acc ∧
    At (ct X cad) W σ G1 H1 ((lcLoop vs f (ds.drop i) acc ρi Si).bind fun acc ρ' S => .ok (.own acc) (backE ρ1 ρ' vs) S) (RepR (ct X cad)) Q
  have ex0 : ExE G1 H1 (G1.set D .out) (upd H1 D (.lst [])) := k0.exE
  refine ⟨fun i m Hi => m = ds.length - i ∧ Pv i Hi, ⟨ds.length, by simp, G1.set D .out, ρ1, S1, [], [], Nat.zero_le _, ex0, s2.wipe vs, s1.ln, Gh.set_same, upd_same, .nil, by rw [List.drop_zero]; exact q1⟩, ?_⟩
  rintro i m Hi ⟨rfl, Gi, ρi, Si, acc, xs, hi, ei, si, hln, hO, hHD, ra, qi⟩
  by_cases hlt : i < ds.length
  · right
    refine ⟨wk.goes i Gi Hi hlt ei, Pv (i + 1), fun H' p => ⟨ds.length - (i + 1), by omega, rfl, p⟩, fun x H' y => ?_⟩
    obtain ⟨G2, d, k2, sat2, hd, rd⟩ := wk.yields i x Gi Hi H' _ _ _ hlt ei si y
    have hdr : ds.drop i = d :: ds.drop (i + 1) := by
      rw [List.drop_eq_getElem_cons hlt]
      congr 1
      have := List.getElem?_eq_getElem hlt
      rw [hd] at this
      exact (Option.some.inj this).symm
    rw [hdr] at qi
    unfold lcLoop at qi
    rw [bind_assoc] at qi
    have e2 := k2.exE
    have q2 := qi
    have hO2 : G2.O D = .out ∧ H' D = some (.lst xs) := ⟨(e2.out D hO).1, (e2.out D hO).2.trans hHD⟩
    -- the target
    cases hp : tg.put d (wipeE ρi vs) with
    | none =>
      simp only [f, hp, ofO_none, Res.bind_bad, noX_bad] at q2
      exact q2.elim
    | some ρt =>
      refine tg_put (js := vs) sat2 rd hp ht fun σt st bt => ⟨?_, ?_⟩
      · rw [bt.wipe, wipe_wipe]
      · simp only [f, hp, ofO_some, Res.bind_ok, noX_bind, bind_assoc] at q2
        refine ⟨G2, ρt, Si, st, (At.bindX q2).mono fun k H3 ⟨G3, ρ3, S3, k', e3, s3, rk, q3⟩ => ?_⟩
        cases rk
        have hl3 : ρ3.length = σ.length := by rw [s3.ln, bt.len, wipe_length]
        have w3 : wipe σt vs = wipe σ vs := by rw [bt.wipe, wipe_wipe]
        cases k with
        | false =>
          rw [if_neg (by decide), noX_ok, Res.bind_ok] at q3
          refine iteF ⟨G3, ρ3, S3, acc, xs, hlt, (ei.trans e2).trans e3, by rw [← w3]; exact s3.wipe vs, hl3, (e3.out D hO2.1).1, (e3.out D hO2.1).2.trans hO2.2, Reps.mono (e2.trans e3).toExF _ _ ra, q3⟩
        | true =>
          rw [if_pos rfl, noX_bind, bind_assoc] at q3
          refine iteT ⟨G3, ρ3, S3, s3, (At.bindX q3).mono fun v H4 ⟨G4, ρ4, S4, y, e4, s4, ry, q4⟩ => ?_⟩
          rw [noX_ok, Res.bind_ok] at q4
          dsimp only at q4
          obtain ⟨G5, e5, s5, r5⟩ := ry.freeze s4
          have q5 := q4
          have e35 := e4.trans e5
          have hD5 : G5.O D = .out ∧ H4 D = some (.lst xs) := ⟨(e35.out D (e3.out D hO2.1).1).1, (e35.out D (e3.out D hO2.1).1).2.trans ((e3.out D hO2.1).2.trans hO2.2)⟩
          have e25 := (e2.trans e3).trans e35
          have ra5 := Reps.mono e25.toExF _ _ ra
          split at q5
          · rename_i hz
            have hlen : xs.length < sizeLine := by rw [sizeLine_eq, ra5.length]; exact hz
            refine ⟨xs, hD5.2, hlen, ?_⟩
            -- the list grows
            have neD : ∀ a, G5.O a ≠ .out → a ≠ D := fun a h z => h (by rw [z]; exact hD5.1)
            have exF6 : ExF G5 H4 G5 (upd H4 D (.lst (xs ++ [v]))) := ⟨fun a h => ⟨h, upd_ne (neD a (by rw [h]; simp))⟩, [], by simp⟩
            have kc6 : KeepC G5 H4 G5 (upd H4 D (.lst (xs ++ [v]))) := ⟨rfl, fun a h => ⟨rfl, upd_ne (neD a (by rcases h with h | ⟨n, h⟩ | ⟨n, f, h⟩ <;> rw [h] <;> simp))⟩⟩
            have s6 : Sat (ct X cad) G5 (upd H4 D (.lst (xs ++ [v]))) σt ρ4 S4 := by
              refine ⟨s5.toSatS.keepC kc6 fun a h => ?_, fun j r hj => ?_, s5.ln⟩
              · have : a ≠ D := fun z => by rw [z, upd_same] at h; cases h
                rw [upd_ne this] at h
                exact s5.fr a h
              · have so := s5.sl j r hj
                cases r with
                | fz d =>
                  obtain ⟨w, h1, h2⟩ := so
                  exact ⟨w, h1, Rep.mono exF6 d w h2⟩
                | own es =>
                  obtain ⟨b, ys, h1, h2, h3, h4⟩ := so
                  exact ⟨b, ys, h1, h2, by rw [upd_ne (neD b (by rw [h2]; simp))]; exact h3, Reps.mono exF6 es ys h4⟩
            -- against the start: D was nothing there
            have hGD : G1.O D = .free := s1.fr D hD
            have e15 : ExE G1 H1 G5 H4 := ((ei.trans e2).trans e3).trans e35
            have e16 : ExE G1 H1 G5 (upd H4 D (.lst (xs ++ [v]))) := by
              refine ⟨⟨⟨fun a h => ?_, e15.pre⟩, fun a h => ?_⟩, fun a j h => ?_⟩
              · have ne : a ≠ D := fun z => by rw [z, hGD] at h; cases h
                exact ⟨(e15.frz a h).1, by rw [upd_ne ne]; exact (e15.frz a h).2⟩
              · have ne : a ≠ D := fun z => by rw [z, hGD] at h; cases h
                exact ⟨(e15.out a h).1, by rw [upd_ne ne]; exact (e15.out a h).2⟩
              · have ne : a ≠ D := fun z => by rw [z, hGD] at h; cases h
                exact ⟨(e15.slt a j h).1, by rw [upd_ne ne]; exact (e15.slt a j h).2⟩
            refine ⟨G5, ρ4, S4, acc ++ [y.d], xs ++ [v], hlt, e16, ?_, by rw [s4.ln, bt.len, wipe_length], hD5.1, upd_same, reps_snoc (Reps.mono exF6 _ _ ra5) (Rep.mono exF6 _ _ r5), ?_⟩
            · rw [← w3]
              exact s6.wipe vs
            · exact q5
          · exact q5.elim
  · left
    have hie : i = ds.length := by omega
    subst hie
    refine ⟨wk.stops Gi Hi ei, ?_⟩
    rw [List.drop_length] at qi
    unfold lcLoop at qi
    rw [Res.bind_ok] at qi
    have hGD : G1.O D = .free := s1.fr D hD
    have ne : ∀ a, Gi.O a ≠ .out → a ≠ D := fun a h z => h (by rw [z]; exact hO)
    have su := Sat.unwipe s1 no ei si
    rw [backE_wipeE] at su
    have kc : KeepC Gi Hi (Gi.set D .tmp) Hi := ⟨rfl, fun a h => ⟨Gh.set_ne (ne a (by rcases h with h | ⟨n, h⟩ | ⟨n, f, h⟩ <;> rw [h] <;> simp)), rfl⟩⟩
    refine qi (.ref D) (Gi.set D .tmp) Hi ⟨⟨⟨fun a h => ?_, ei.pre⟩, fun a h => ?_⟩, fun a j h => ?_⟩ ⟨su.toSatS.keepC kc fun a h => ?_, fun j r hj => ?_, su.ln⟩ ⟨D, xs, rfl, Gh.set_same, hHD, Reps.mono kc.exF _ _ ra⟩
    · have na : a ≠ D := fun z => by rw [z, hGD] at h; cases h
      rw [Gh.set_ne na]
      exact ei.frz a h
    · have na : a ≠ D := fun z => by rw [z, hGD] at h; cases h
      rw [Gh.set_ne na]
      exact ei.out a h
    · have na : a ≠ D := fun z => by rw [z, hGD] at h; cases h
      rw [Gh.set_ne na]
      exact ei.slt a j h
    · have na : a ≠ D := fun z => by rw [z, hHD] at h; cases h
      rw [Gh.set_ne na]
      exact su.fr a h
    · have so := su.sl j r hj
      cases r with
      | fz d =>
        obtain ⟨v, h1, h2⟩ := so
        exact ⟨v, h1, Rep.mono kc.exF d v h2⟩
      | own es =>
        obtain ⟨b, ys, h1, h2, h3, h4⟩ := so
        exact ⟨b, ys, h1, by rw [Gh.set_ne (ne b (by rw [h2]; simp))]; exact h2, h3, Reps.mono kc.exF es ys h4⟩
end
end Sh


/-! ShMain: every expression that the small language takes. -/
namespace Sh
open PySem PySem.Spec PyProof.Rows L2 RZ
section
variable {X : Cx} {cad : Str → Option Addr} {T : Tab} {W : WX} {n : Nat} {c : CC}
theorem sto_ok {x : Str} {i : Nat} {pos : Pos} (g : Good X cad T W n c) (h : stoN c x = some i) : PG X (.Name x pos) (gName i) ∧ X.N[i]? = some x ∧ Loc X.env.scope x ∧ (X.fn x = true ∨ X.env.scope.names.lookup x = some .local) := by
  unfold stoN at h
  rw [← g.sc] at h
  split at h
  · rename_i e
    exact ⟨pg_name g.nd (ix_of g h) (.inl e) (.inr e), ix_of g h, .inl e, .inr e⟩
  · rename_i e
    split at h
    · rename_i hf
      exact ⟨pg_name g.nd (ix_of g h) (.inr e) (.inl (g.fn x hf)), ix_of g h, .inr e, .inl (g.fn x hf)⟩
    · cases h
  · cases h
theorem stos_ok (g : Good X cad T W n c) : ∀ {es : List Expr} {is : List Nat}, stoNs c es = some is → PGs X es (gNames is) ∧ (assignEach es X.env).length = is.length ∧ (assignEach es X.env).findIdx? (·.1) = none
  | [], is, h => by
    cases h
    exact ⟨pgs_nil, rfl, rfl⟩
  | .Name x p :: es, is, h => by
    unfold stoNs at h
    obtain ⟨i, js, h1, h2, rfl⟩ := o2_some h
    obtain ⟨a1, a2, a3⟩ := stos_ok g h2
    refine ⟨pgs_cons (sto_ok g h1).1 a1, ?_, ?_⟩
    · show (assignEach es X.env).length + 1 = js.length + 1
      rw [a2]
    · show ((false, _) :: assignEach es X.env).findIdx? (·.1) = none
      rw [List.findIdx?_cons]
      simp [a3]
theorem tg_ok {tg : Expr} {t : Tg} (g : Good X cad T W n c) (h : compT c tg = some t) : PG X tg (gOf X.K t) := by
  unfold compT at h
  split at h
  · rename_i x p
    cases e : stoN c x with
    | none => rw [e] at h; cases h
    | some i =>
      rw [e] at h
      cases h
      exact (sto_ok g e).1
  · rename_i es kk p
    cases e : stoNs c es with
    | none => rw [e] at h; cases h
    | some is =>
      rw [e] at h
      cases h
      obtain ⟨a1, a2, a3⟩ := stos_ok g e
      exact pg_tup g.calm a1 a2 a3
  · cases h
structure Snd (k : Nat) : Prop where
  run : ∀ {X : Cx} {cad : Str → Option Addr} {T : Tab} {W : WX} {n : Nat} {c : CC} {e : Expr} {l : LE}, Good X cad T W n c → comp k c e = some l → EOk X cad T W e l ∧ BOk X cad T W e l ∧ TOk X cad T W e l ∧ Plain e
theorem snd_A {k : Nat} (ih : Snd k) (g : Good X cad T W n c) : ∀ {es : List Expr} {ls : LEs}, compL (comp k c) es = some ls → AOk X cad T W es ls ∧ ABk X cad T W es ls ∧ (∀ e ∈ es, Plain e) ∧ (es = [] → ls = .nil)
  | [], ls, h => by
    cases h
    exact ⟨nil_A, nil_AB, fun e h => (List.not_mem_nil h).elim, fun _ => rfl⟩
  | e :: es, ls, h => by
    unfold compL at h
    obtain ⟨a, b, h1, h2, rfl⟩ := o2_some h
    obtain ⟨s1, s2, s3, s4⟩ := ih.run g h1
    obtain ⟨t1, t2, t3, t4⟩ := snd_A ih g h2
    exact ⟨cons_A s4 s1 t1, cons_AB s4 s2 t2, fun x hx => by
      rcases List.mem_cons.mp hx with rfl | hx
      · exact s4
      · exact t3 x hx, fun z => nomatch z⟩
theorem snd_K {k : Nat} (ih : Snd k) (g : Good X cad T W n c) : ∀ {ks : List Keyword} {p : List Str × LEs}, compK (comp k c) ks = some p → KOk X cad T W ks p.2
  | [], p, h => by
    cases h
    exact nil_K
  | ⟨none, e, q⟩ :: r, p, h => by cases h
  | ⟨some y, e, q⟩ :: r, p, h => by
    unfold compK at h
    obtain ⟨l, p', h1, h2, rfl⟩ := o2_some h
    exact cons_K (ih.run g h1).1 (snd_K ih g h2)
theorem snd_O {k : Nat} (ih : Snd k) (g : Good X cad T W n c) {o : Option Expr} {l : LEo} (h : compO (comp k c) o = some l) : OOk X cad T W o l := by
  cases o with
  | none => cases h; exact no_O
  | some e =>
    have h : (comp k c e).map LEo.so = some l := h
    cases q : comp k c e with
    | none => rw [q] at h; cases h
    | some a => rw [q] at h; cases h; exact so_O (ih.run g q).2.1
theorem pe_oneB {a : Expr} {op : BoolOp} {t : TE} {pos : Pos} (h : PE X a t) : PE X (.BoolOp op [a] pos) t := pe_one h
theorem snd_And {k : Nat} (ih : Snd k) (g : Good X cad T W n c) {pos : Pos} : ∀ {es : List Expr} {l : LE}, compB (comp k c) .and es = some l → EOk X cad T W (.BoolOp .And es pos) l ∧ WOk X cad T W (.BoolOp .And es pos) l
  | [], l, h => by cases h
  | [e], l, h => ⟨pe_oneB (ih.run g h).1, pw_and1 (ih.run g h).2.2.1⟩
  | e :: b :: es, l, h => by
    unfold compB at h
    obtain ⟨a, r, h1, h2, rfl⟩ := o2_some h
    obtain ⟨s1, s2, s3, s4⟩ := ih.run g h1
    obtain ⟨t1, t2⟩ := snd_And ih g (pos := pos) h2
    exact ⟨and_E s1 t1, and_W s3 t2⟩
theorem snd_Or {k : Nat} (ih : Snd k) (g : Good X cad T W n c) {pos : Pos} : ∀ {es : List Expr} {l : LE}, compB (comp k c) .or es = some l → EOk X cad T W (.BoolOp .Or es pos) l ∧ WOk X cad T W (.BoolOp .Or es pos) l
  | [], l, h => by cases h
  | [e], l, h => ⟨pe_oneB (ih.run g h).1, pw_or1 (ih.run g h).2.2.1⟩
  | e :: b :: es, l, h => by
    unfold compB at h
    obtain ⟨a, r, h1, h2, rfl⟩ := o2_some h
    obtain ⟨s1, s2, s3, s4⟩ := ih.run g h1
    obtain ⟨t1, t2⟩ := snd_Or ih g (pos := pos) h2
    exact ⟨or_E s1 t1, or_W s3 t2⟩
/-- what is walked -/
theorem snd_I {k : Nat} (ih : Snd k) (g : Good X cad T W n c) {e tg : Expr} {li : LI} (h : compI c (comp k c) e = some li) (hz : zipTg e tg = true) : PI X tg e (Tr (ct X cad) W (denI T li) (Wks (ct X cad) ExE)) ∧ (∀ x, foldedSetIterable e X.env x = pure x) := by
  unfold compI at h
  split at h
  · rename_i x p a pos
    split at h
    · rename_i ex
      subst ex
      split at h
      · rename_i hg
        cases q : comp k c a with
        | none => rw [q] at h; cases h
        | some l =>
          rw [q] at h
          cases h
          obtain ⟨s1, s2, s3, s4⟩ := ih.run g q
          exact ⟨PI.weak (rng_I g hg s4 rvB s2) fun σ H Q z => by simpa only [Tr, denI] using z, fun _ => rfl⟩
      · cases h
    · cases h
  · rename_i x p a b pos
    split at h
    · rename_i ex
      subst ex
      split at h
      · rename_i hg
        obtain ⟨la, lb, h1, h2, rfl⟩ := o2_some h
        obtain ⟨s1, s2, s3, s4⟩ := ih.run g h1
        obtain ⟨t1, t2, t3, t4⟩ := ih.run g h2
        obtain ⟨es, kk, p2, rfl⟩ : ∃ es kk p, tg = .Tuple es kk p := by
          cases tg <;> first | exact ⟨_, _, _, rfl⟩ | cases hz
        exact ⟨PI.weak (zip_I g hg s4 t4 rvB s2 t2) fun σ H Q z => by simpa only [Tr, denI] using z, fun _ => rfl⟩
      · cases h
    · cases h
  · cases q : comp k c e with
    | none => rw [q] at h; cases h
    | some l =>
      rw [q] at h
      cases h
      obtain ⟨s1, s2, s3, s4⟩ := ih.run g q
      refine ⟨PI.weak (seq_I rvB s2) fun σ H Q z => by simpa only [Tr, denI] using z, fun x => ?_⟩
      cases k with
      | zero => cases q
      | succ k => cases e <;> first | rfl | cases q
theorem plain_of {k : Nat} {c : CC} {e : Expr} {l : LE} (h : comp k c e = some l) : Plain e := by
  cases k with
  | zero => cases h
  | succ k => cases e <;> first | (intro _ _; rfl) | cases h
/-- a value that is neither looked up nor a test by itself -/
theorem val3 {e : Expr} {l : LE} (hv : ∀ i, l ≠ .var i) (he : ∀ whole, isTrue e X.env whole = (do let v ← whole; standAt e.pos; holding [v] (truthy v))) (p : EOk X cad T W e l) (pl : Plain e) : EOk X cad T W e l ∧ BOk X cad T W e l ∧ TOk X cad T W e l ∧ Plain e :=
  ⟨p, bok_of hv p, tok_val he p, pl⟩
theorem val3T {e : Expr} {l : LE} (hv : ∀ i, l ≠ .var i) (p : EOk X cad T W e l) (t : TOk X cad T W e l) (pl : Plain e) : EOk X cad T W e l ∧ BOk X cad T W e l ∧ TOk X cad T W e l ∧ Plain e :=
  ⟨p, bok_of hv p, t, pl⟩
theorem lc_E {k : Nat} (ih : Snd k) (g : Good X cad T W n c) {elt tg it : Expr} {ifs : List Expr} {scope : Scope} {le : LE} {t : Tg} {li : LI} {cs : LEs} {pos : Pos} (hb : blkC c.N c.sc scope (ownOf c.N scope.names) = true) (ht : compT (c.blk scope) tg = some t) (hin : ∀ i ∈ t.slots, i ∈ (ownOf c.N scope.names).map (·.2))
    (hz : zipTg it tg = true) (he : comp k (c.blk scope) elt = some le) (hi : compI c (comp k c) it = some li) (hc : ∀ {X' : Cx}, Good X' cad T W0 n (c.blk scope) → CkOk X' cad T ifs cs) :
    EOk X cad T W (.ListComp elt [⟨tg, it, ifs, 0⟩] scope pos) (.lc ((ownOf c.N scope.names).map (·.2)) le t li cs) := by
  obtain ⟨i1, i2⟩ := snd_I ih g hi hz
  have ok : BlkOk X.N X.env.scope scope (ownOf c.N scope.names) := by
    rw [g.N, g.sc]
    exact blkOk_by hb
  refine PE.weak (pe_lc (own := ownOf c.N scope.names) (g := gOf X.K t) (tt := Tr (ct X cad) W0 (denC T cs) Eqv) (te := Tr (ct X cad) W0 (den T le) (RepR (ct X cad))) g.calm g.nd i1 ok (fun s H A cl fp => tg_ok (g.blk s H scope A cl fp) ht) (fun s H A cl fp => hc (g.blk s H scope A cl fp)) (fun s H A cl fp => (ih.run (g.blk s H scope A cl fp) he).1) i2) fun σ H Q q => ?_
  exact lc_rd hin q
theorem tgIn_all {vs : List Nat} {o : Option Tg} (h : tgIn vs o = true) : ∃ t, o = some t ∧ ∀ i ∈ t.slots, i ∈ vs := by
  cases o with
  | none => cases h
  | some t =>
    refine ⟨t, rfl, fun i hi => ?_⟩
    have := List.all_eq_true.mp (show (t.slots.all fun i => vs.contains i) = true from h) i hi
    simpa using this
theorem bcl_all {k : Nat} (ih : Snd k) {x : Str} {bt : Blt} {p pos : Pos} (g : Good X cad T W n c) (hx : bltOf x = some bt) (hn : nameOk x = true) (hg : isGlob c x = true) : ∀ {es : List Expr} {ls : LEs}, (match es with | [] => none | _ => compL (comp k c) es) = some ls → EOk X cad T W (.Call (.Name x p) es [] pos) (.bcl bt ls)
  | [], ls, h => by cases h
  | e1 :: es, ls, h => by
    obtain ⟨s1, s2, s3, s4⟩ := snd_A ih g h
    exact bcl_E g hx hn hg s3 s2
theorem slice_ix {i : Expr} (h : noSlice i = true) : PlainIx i := by
  intro o j
  cases i <;> first | rfl | cases h
/-- THE RULE: an expression that the small language takes does what it says -/
theorem sound : ∀ k : Nat, Snd k
  | 0 => ⟨fun g h => by cases h⟩
  | k + 1 => by
    have ih : Snd k := sound k
    refine ⟨fun {X cad T W n c e l} g h => ?_⟩
    have pl := plain_of h
    cases e with
    | Name x pos =>
      simp only [comp] at h
      split at h
      · rename_i hn
        split at h
        · rename_i hv
          cases q : ixOf c.N x with
          | none => rw [q] at h; cases h
          | some i =>
            rw [q] at h
            cases h
            have e1 := var_E (T := T) (W := W) (cad := cad) (pos := pos) g hn hv q
            exact ⟨e1, var_B g hn hv q, tok_val (fun _ => rfl) e1, pl⟩
        · split at h
          · rename_i hg
            cases q : ixOf c.F x with
            | none => rw [q] at h; cases h
            | some i =>
              rw [q] at h
              cases h
              exact val3 (by simp) (fun _ => rfl) (glob_E g hn hg q) pl
          · cases h
      · cases h
    | Constant k0 j pos =>
      cases k0 <;> simp only [comp] at h <;> cases h
      · exact val3 (by simp) (fun _ => rfl) (con_E pe_non (fun ρ S => by simp only [den]) fun _ _ => .non) pl
      · exact val3 (by simp) (fun _ => rfl) (con_E pe_bl (fun ρ S => by simp only [den]) fun _ _ => .bl _) pl
      · exact val3 (by simp) (fun _ => rfl) (con_E pe_int (fun ρ S => by simp only [den]) fun _ _ => .int _) pl
      · exact val3 (by simp) (fun _ => rfl) (con_E pe_str (fun ρ S => by simp only [den]) fun _ _ => .str _) pl
    | BinOp a op b pos =>
      simp only [comp] at h
      split at h <;> first | (cases h; done) | (rename_i q; cases q)
      · obtain ⟨ls, lb, h1, h2, rfl⟩ := o2_some h
        exact val3 (by simp) (fun _ => rfl) (rep_E (snd_A ih g h1).1 (ih.run g h2).2.1) pl
      · obtain ⟨la, lb, h1, h2, rfl⟩ := o2_some h
        exact val3 (by simp) (fun _ => rfl) (bin_E (ih.run g h1).2.1 (ih.run g h2).2.1) pl
    | UnaryOp op a pos =>
      cases op <;> simp only [comp] at h <;> try cases h
      · obtain ⟨la, h1, rfl⟩ := o1_some h
        obtain ⟨s1, s2, s3, s4⟩ := ih.run g h1
        exact val3T (by simp) (not_E s1) (not_T s3) pl
      · obtain ⟨la, h1, rfl⟩ := o1_some h
        exact val3 (by simp) (fun _ => rfl) (neg_E (ih.run g h1).2.1) pl
    | Compare a ops bs pos =>
      simp only [comp] at h
      split at h <;> first | (cases h; done) | (rename_i q; cases q)
      · split at h
        · cases h
        · rename_i hm
          obtain ⟨la, lb, h1, h2, rfl⟩ := o2_some h
          have hm := Bool.eq_false_iff.mpr hm
          exact val3T (by simp) (cmp_E g.room (ih.run g h1).2.1 (ih.run g h2).2.1 hm) (cmp_T g.room (ih.run g h1).2.1 (ih.run g h2).2.1 hm) pl
      · split at h
        · cases h
        · rename_i hm
          obtain ⟨la, lb, ld, h1, h2, h3, rfl⟩ := o3_some h
          have hm := Bool.eq_false_iff.mpr hm
          exact val3T (by simp) (chn_E g.room (ih.run g h1).2.1 (ih.run g h2).2.1 (ih.run g h3).2.1 hm) (chn_T g.room (ih.run g h1).2.1 (ih.run g h2).2.1 (ih.run g h3).2.1 hm) pl
    | BoolOp op es pos =>
      cases op <;> simp only [comp] at h
      · obtain ⟨s1, s2⟩ := snd_And ih g (pos := pos) h
        match es, h with
        | e1 :: e2 :: es, h =>
          obtain ⟨x, y, h1, h2, rfl⟩ := o2_some (show o2 LE.and (comp k c e1) (compB (comp k c) LE.and (e2 :: es)) = some l from h)
          exact val3T (by simp) s1 s2.pt pl
        | [e1], h => exact ⟨s1, ⟨fun pins s σ H Q I q => BoolOp_one ((ih.run g h).2.1.run pins s σ H Q I q)⟩, s2.pt, pl⟩
      · obtain ⟨s1, s2⟩ := snd_Or ih g (pos := pos) h
        match es, h with
        | e1 :: e2 :: es, h =>
          obtain ⟨x, y, h1, h2, rfl⟩ := o2_some (show o2 LE.or (comp k c e1) (compB (comp k c) LE.or (e2 :: es)) = some l from h)
          exact val3T (by simp) s1 s2.pt pl
        | [e1], h => exact ⟨s1, ⟨fun pins s σ H Q I q => BoolOp_one ((ih.run g h).2.1.run pins s σ H Q I q)⟩, s2.pt, pl⟩
    | IfExp t a b pos =>
      simp only [comp] at h
      obtain ⟨lt, la, lb, h1, h2, h3, rfl⟩ := o3_some h
      exact val3T (by simp) (ite_E (ih.run g h1).2.2.1 (ih.run g h2).1 (ih.run g h3).1) (ite_T (ih.run g h1).2.2.1 (ih.run g h2).2.2.1 (ih.run g h3).2.2.1) pl
    | Tuple es kk pos =>
      simp only [comp] at h
      obtain ⟨ls, h1, rfl⟩ := o1_some h
      exact val3 (by simp) (fun _ => rfl) (tup_E (snd_A ih g h1).1) pl
    | List es pos =>
      simp only [comp] at h
      obtain ⟨ls, h1, rfl⟩ := o1_some h
      exact val3 (by simp) (fun _ => rfl) (lst_E (snd_A ih g h1).1) pl
    | Subscript a i pos =>
      simp only [comp] at h
      split at h <;> first | (cases h; done) | (rename_i q; cases q)
      · obtain ⟨la, ll, lh, h1, h2, h3, rfl⟩ := o3_some h
        exact val3 (by simp) (fun _ => rfl) (slc_E (ih.run g h1).2.1 (snd_O ih g h2) (snd_O ih g h3)) pl
      · split at h
        · rename_i hs
          obtain ⟨la, li, h1, h2, rfl⟩ := o2_some h
          exact val3 (by simp) (fun _ => rfl) (idx_E (ih.run g h1).2.1 (ih.run g h2).2.1 (slice_ix hs)) pl
        · cases h
    | Call f es ks pos =>
      simp only [comp] at h
      split at h <;> first | (cases h; done) | (rename_i q; cases q)
      · split at h
        · rename_i hf
          have hf := Bool.and_eq_true_iff.mp hf
          split at h
          · rename_i ei
            subst ei
            split at h
            · obtain ⟨la, t, h1, h2, rfl⟩ := o2_some h
              split at h2
              · rename_i hg
                exact val3 (by simp) (fun _ => rfl) (isi1_E g hf.2 (ih.run g h1).2.2.2 hg h2 (ih.run g h1).2.1) pl
              · cases h2
            · obtain ⟨la, t, u, h1, h2, h3, rfl⟩ := o3_some h
              split at h2
              · rename_i hg
                split at h3
                · rename_i hg2
                  exact val3 (by simp) (fun _ => rfl) (isi2_E g hf.2 (ih.run g h1).2.2.2 hg h2 hg2 h3 (ih.run g h1).2.1) pl
                · cases h3
              · cases h2
            · cases h
          · split at h
            · rename_i bt hb
              obtain ⟨ls, h1, rfl⟩ := o1_some h
              exact val3 (by simp) (fun _ => rfl) (bcl_all ih g hb hf.1 hf.2 h1) pl
            · obtain ⟨fi, ls, h0, h1, rfl⟩ := o2_some h
              obtain ⟨s1, s2, s3, s4⟩ := snd_A ih g h1
              exact val3 (by simp) (fun _ => rfl) (call_E g hf.1 hf.2 h0 s3 s4 s1) pl
        · cases h
      · split at h
        · rename_i hf
          have hf := Bool.and_eq_true_iff.mp hf
          obtain ⟨fi, ls, p, h0, h1, h2, rfl⟩ := o3_some h
          obtain ⟨s1, s2, s3, s4⟩ := snd_A ih g h1
          exact val3 (by simp) (fun _ => rfl) (callk_E g hf.1 hf.2 h0 s3 s4 s1 (snd_K ih g h2) h2) pl
        · cases h
      · split at h
        · rename_i hm
          have hm := Bool.and_eq_true_iff.mp hm
          split at h
          · obtain ⟨la, h1, rfl⟩ := o1_some h
            have em := of_decide_eq_true hm.1
            subst em
            exact val3 (by simp) (fun _ => rfl) (join_E (ih.run g h1).2.2.2 (ih.run g h1).2.1 hm.2) pl
          · cases h
        · cases h
    | ListComp elt gens scope pos =>
      simp only [comp] at h
      split at h <;> first | (cases h; done) | (rename_i q; cases q)
      split at h
      · rename_i hb
        simp only [Bool.and_eq_true] at hb
        obtain ⟨⟨hb, hin⟩, hz⟩ := hb
        obtain ⟨t, ht, hin⟩ := tgIn_all hin
        obtain ⟨p, r, h1, h2, rfl⟩ := o2_some h
        obtain ⟨le, t', h3, h4, rfl⟩ := o2_some h1
        obtain ⟨li, cs, h5, h6, rfl⟩ := o2_some h2
        rw [ht] at h4
        cases h4
        refine val3 (by simp) (fun _ => rfl) (lc_E ih g hb ht hin hz h3 h5 fun {X'} g' => ?_) pl
        split at h6
        · cases h6
          exact ck_nil
        · unfold compL compL at h6
          obtain ⟨l1, l2, h7, h8, rfl⟩ := o2_some h6
          cases h8
          exact ck_one (ih.run g' h7).2.2.1
        · cases h6
      · cases h
    | _ => simp only [comp] at h; cases h
end
end Sh


/-! ShStm: statements, defs. -/
namespace Sh
open PySem PySem.Spec PyProof.Rows L2 RZ
/-! ### from the tree -/
def noComp : Expr → Bool
  | .ListComp _ _ _ _ => false
  | .SetComp _ _ _ _ => false
  | .DictComp _ _ _ _ _ => false
  | _ => true
def isLoc (c : CC) (x : Str) : Bool := match c.sc.names.lookup x with
  | some .local => true
  | _ => false
/-- a comprehension that is stored within its own frame -/
def swapOk (c : CC) (x : Str) (px : Pos) : Expr → Bool
  | .ListComp _ _ scope pos => isLoc c x && (px.line == pos.line) && !(scope.names.any fun (n, k) => n == x && (k == .local || k == .cell))
  | _ => false
/-- pairs that are stored through a tuple -/
def noSwapT (c : CC) (es : List Expr) : Expr → Bool
  | .Tuple vs _ _ => vs.length != es.length || !(es.length == 2 || es.length == 3) || es.any fun
    | .Name x _ => !isLoc c x
    | _ => true
  | _ => true
mutual
def compS : Nat → CC → Stmt → Option LS
  | 0, _, _ => none
  | n + 1, c, st => match st with
    | .Assign [.Name x px] e _ => if noComp e || swapOk c x px e then o2 .asg (stoN c x) (comp (n + 1) c e) else none
    | .Assign [.Tuple [.Name x px, .Name y py] _ _] (.Tuple [a, b] k2 pt2) _ =>
      if isLoc c x && isLoc c y && (px.line == py.line) && !(x == y) && !([a, b].all (constantsAlone 8)) && !([a, b].all (foldedForSure 8)) then
        o2 (fun (p q : Nat × LE) => LS.par p.1 q.1 p.2 q.2) (o2 Prod.mk (ixOf c.N x) (comp (n + 1) c a)) (o2 Prod.mk (ixOf c.N y) (comp (n + 1) c b))
      else if noSwapT c [.Name x px, .Name y py] (.Tuple [a, b] k2 pt2) then o2 .tas (stoNs c [.Name x px, .Name y py]) (comp (n + 1) c (.Tuple [a, b] k2 pt2)) else none
    | .Assign [.Tuple es _ _] e _ => if noComp e && noSwapT c es e then o2 .tas (stoNs c es) (comp (n + 1) c e) else none
    | .Expr e _ => if noComp e then o1 .exp (comp (n + 1) c e) else none
    | .Return (some e) _ => o1 .ret (comp (n + 1) c e)
    | .Return none _ => some .retN
    | .If t a b _ => o3 .iff (comp (n + 1) c t) (compSs n c a) (compSs n c b)
    | .Pass _ => some .pass
    | _ => none
def compSs : Nat → CC → List Stmt → Option LSs
  | 0, _, _ => none
  | _ + 1, _, [] => some .nil
  | n + 1, c, s :: ss => o2 .cons (compS n c s) (compSs n c ss)
end

/-! ### outcomes -/
section
variable {C : Ct} {W : WX} {G G1 G2 : Gh} {H H1 H2 : Hp} {σ : L2.St} {ρ : Rho} {S : Mem}
def AtS (C : Ct) (W : WX) (G : Gh) (H : Hp) (r : SRes) (D : Ends) : Prop := match r with
  | .nx ρ S => ∀ σ G' H', ExC G H G' H' → Sat C G' H' σ ρ S → D.nx σ H'
  | .rt r S => ∀ v G' H', ExC G H G' H' → SatS C G' H' S → RepR C G' H' v r → D.rt v H'
  | .bk ρ S => ∀ σ G' H', ExC G H G' H' → Sat C G' H' σ ρ S → D.bk σ H'
  | .ct ρ S => ∀ σ G' H', ExC G H G' H' → Sat C G' H' σ ρ S → D.ct σ H'
  | .exc x ρ S => ∀ c d σ G' H', ExC G H G' H' → Sat C G' H' σ ρ S → ErrOk C G' H' c d x → W c d σ H'
  | .bad => False
def TrS (C : Ct) (W : WX) (m : Rho → Mem → SRes) : TS := fun D σ H => ∃ G ρ S, Sat C G H σ ρ S ∧ AtS C W G H (m ρ S) D
theorem AtS.ext {r : SRes} {D : Ends} (h : AtS C W G H r D) (e : ExC G H G1 H1) : AtS C W G1 H1 r D := by
  cases r with
  | nx ρ S => exact fun σ G' H' e' s => h σ G' H' (e.trans e') s
  | rt r S => exact fun v G' H' e' s q => h v G' H' (e.trans e') s q
  | bk ρ S => exact fun σ G' H' e' s => h σ G' H' (e.trans e') s
  | ct ρ S => exact fun σ G' H' e' s => h σ G' H' (e.trans e') s
  | exc x ρ S => exact fun c d σ G' H' e' s q => h c d σ G' H' (e.trans e') s q
  | bad => exact h
/-- a result that statements follow -/
def thenS {α : Type} (r : Res α) (f : α → Rho → Mem → SRes) : SRes := match r with
  | .ok a ρ S => f a ρ S
  | .exc x ρ S => .exc x ρ S
  | .bad => .bad
theorem AtS.bind {α β : Type} {r : Res α} {f : α → Rho → Mem → SRes} {D : Ends} {R : Gh → Hp → β → α → Prop} (h : AtS C W G H (thenS r f) D) :
    At C W σ G H r R fun b H1 => ∃ G1 ρ1 S1 a, ExE G H G1 H1 ∧ Sat C G1 H1 σ ρ1 S1 ∧ R G1 H1 b a ∧ AtS C W G H (f a ρ1 S1) D := by
  cases r with
  | ok a ρ S => exact fun b G' H' e s q => ⟨G', ρ, S, a, e, s, q, h⟩
  | exc x ρ S => exact fun c d G' H' e s q => h c d σ G' H' e.toExC s q
  | bad => exact h
theorem TrS.expr {α β : Type} {m : Rho → Mem → Res α} {f : α → Rho → Mem → SRes} {D : Ends} {R : Gh → Hp → β → α → Prop} {Q : β → Hp → Prop} (h : TrS C W (fun ρ S => thenS (m ρ S) f) D σ H)
    (hq : ∀ b H1 G G1 ρ1 S1 a, ExE G H G1 H1 → Sat C G1 H1 σ ρ1 S1 → R G1 H1 b a → AtS C W G H (f a ρ1 S1) D → Q b H1) : Tr C W m R σ H Q :=
  let ⟨G, ρ, S, s, a⟩ := h
  ⟨G, ρ, S, s, (AtS.bind a).mono fun b H1 ⟨G1, ρ1, S1, a1, e, s1, r1, q1⟩ => hq b H1 G G1 ρ1 S1 a1 e s1 r1 q1⟩
/-- what is held while something else is reckoned -/
def RepH (C : Ct) (G : Gh) (H : Hp) (v : V) : RV → Prop
  | .fz d => Rep C G H v d
  | .own ds => ∃ a xs, v = .ref a ∧ G.O a = .out ∧ H a = some (.lst xs) ∧ Reps C G H xs ds
theorem RepH.mono {v : V} {r : RV} (e : ExE G H G1 H1) (h : RepH C G H v r) : RepH C G1 H1 v r := by
  cases r with
  | fz d => exact rep_mono e h
  | own ds =>
    obtain ⟨a, xs, h1, h2, h3, h4⟩ := h
    exact ⟨a, xs, h1, (e.out a h2).1, (e.out a h2).2.trans h3, Reps.mono e.toExF ds xs h4⟩
/-- the owner of one address is another one; it was neither frozen nor an object's nor a slot's -/
theorem Sat.reown (s : Sat C G H σ ρ S) {a : Addr} {w : Own} (ha : G.O a = .tmp ∨ G.O a = .out) (hH : H a ≠ none) : KeepC G H (G.set a w) H ∧ Sat C (G.set a w) H σ ρ S := by
  have ne : ∀ b, G.O b ≠ .tmp → G.O b ≠ .out → b ≠ a := fun b h1 h2 e => by
    rw [e] at h1 h2
    rcases ha with h | h
    · exact h1 h
    · exact h2 h
  have kc : KeepC G H (G.set a w) H := ⟨rfl, fun b h => ⟨Gh.set_ne (ne b (by rcases h with h | ⟨n, h⟩ | ⟨n, f, h⟩ <;> rw [h] <;> simp) (by rcases h with h | ⟨n, h⟩ | ⟨n, f, h⟩ <;> rw [h] <;> simp)), rfl⟩⟩
  refine ⟨kc, s.toSatS.keepC kc fun b hb => ?_, fun j r hj => ?_, s.ln⟩
  · have : b ≠ a := fun z => hH (by rw [← z]; exact hb)
    rw [Gh.set_ne this]
    exact s.fr b hb
  · have so := s.sl j r hj
    cases r with
    | fz d =>
      obtain ⟨v, h1, h2⟩ := so
      exact ⟨v, h1, Rep.mono kc.exF d v h2⟩
    | own es =>
      obtain ⟨b, ys, h1, h2, h3, h4⟩ := so
      exact ⟨b, ys, h1, by rw [Gh.set_ne (ne b (by rw [h2]; simp) (by rw [h2]; simp))]; exact h2, h3, Reps.mono kc.exF es ys h4⟩
/-- the slot i takes what was reckoned -/
theorem Sat.putOwn (s : Sat C G H σ ρ S) {i : Nat} {a : Addr} {xs : List V} {ds : List D} (ho : G.O a = .slot i) (hH : H a = some (.lst xs)) (r : Reps C G H xs ds) : Sat C G H (σ.set i (some (.ref a))) (ρ.set i (some (.own ds))) S := by
  refine ⟨s.toSatS, fun j x hj => ?_, by rw [List.length_set, List.length_set]; exact s.ln⟩
  have hjl := (List.getElem?_eq_some_iff.mp hj).1
  rw [List.length_set] at hjl
  by_cases e : j = i
  · subst e
    rw [List.getElem?_set_self hjl] at hj
    cases hj
    exact ⟨a, xs, by rw [List.getElem?_set_self (by rw [← s.ln]; exact hjl)], ho, hH, r⟩
  · rw [List.getElem?_set_ne (Ne.symm e)] at hj
    rw [List.getElem?_set_ne (Ne.symm e)]
    exact s.sl j x hj
/-- a raw value to its slot -/
theorem Sat.putR (s : Sat C G H σ ρ S) {i : Nat} {v : V} {r : RV} (h : RepR C G H v r) : ∃ G', ExC G H G' H ∧ Sat C G' H (σ.set i (some v)) (ρ.set i (some r)) S := by
  cases r with
  | fz d => exact ⟨G, .refl G H, s.put h⟩
  | own ds =>
    obtain ⟨a, xs, rfl, h1, h2, h3⟩ := h
    obtain ⟨kc, s'⟩ := s.reown (w := .slot i) (.inl h1) (by rw [h2]; simp)
    refine ⟨_, ⟨kc.exF, fun b hb => ⟨?_, rfl⟩⟩, s'.putOwn Gh.set_same h2 (Reps.mono kc.exF _ _ h3)⟩
    rw [Gh.set_ne fun z => by rw [z, h1] at hb; cases hb]
    exact hb
end
section
variable {X : Cx} {cad : Str → Option Addr} {T : Tab} {W : WX} {n : Nat} {c : CC} {e : Expr} {l : LE} {pos p : Pos}
abbrev SOk (X : Cx) (cad : Str → Option Addr) (T : Tab) (W : WX) (st : Stmt) (l : LS) : Prop := PS X st (TrS (ct X cad) W (denS T l))
abbrev SsOk (X : Cx) (cad : Str → Option Addr) (T : Tab) (W : WX) (st : List Stmt) (l : LSs) : Prop := PSs X st (TrS (ct X cad) W (denSs T l))
theorem PS.weak {X : Cx} {e : Stmt} {t t' : TS} (p : PS X e t) (h : ∀ D σ H, t' D σ H → t D σ H) : PS X e t' := ⟨fun pins s σ H D I q => p.run pins s σ H D I (h _ _ _ q)⟩
theorem PSs.weak {X : Cx} {e : List Stmt} {t t' : TS} (p : PSs X e t) (h : ∀ D σ H, t' D σ H → t D σ H) : PSs X e t' := ⟨fun pins s σ H D I q => p.run pins s σ H D I (h _ _ _ q)⟩
theorem asg_eq {i : Nat} (ρ : Rho) (S : Mem) : denS T (.asg i l) ρ S = thenS (den T l ρ S) fun r ρ S => .nx (ρ.set i (some r)) S := by
  simp only [denS]
  cases den T l ρ S <;> rfl
theorem exp_eq (ρ : Rho) (S : Mem) : denS T (.exp l) ρ S = thenS (den T l ρ S) fun r ρ S => .nx ρ S := by
  simp only [denS]
  cases den T l ρ S <;> rfl
theorem ret_eq (ρ : Rho) (S : Mem) : denS T (.ret l) ρ S = thenS (den T l ρ S) fun r ρ S => .rt r S := by
  simp only [denS]
  cases den T l ρ S <;> rfl
theorem iff_eq {a b : LSs} (ρ : Rho) (S : Mem) : denS T (.iff l a b) ρ S = thenS (tstR (den T l ρ S)) fun k ρ S => if k = true then denSs T a ρ S else denSs T b ρ S := by
  simp only [denS]
  cases tstR (den T l ρ S) <;> rfl
theorem par_eq {i j : Nat} {la lb : LE} (ρ : Rho) (S : Mem) : denS T (.par i j la lb) ρ S = thenS ((den T la ρ S).bind fun x ρ S => (den T lb ρ S).bind fun y ρ S => .ok (x, y) ρ S) fun p ρ S => .nx ((ρ.set i (some p.1)).set j (some p.2)) S := by
  simp only [denS]
  cases (den T la ρ S).bind fun x ρ S => (den T lb ρ S).bind fun y ρ S => .ok (x, y) ρ S <;> rfl
theorem asg_rd {i : Nat} {D : Ends} {σ : L2.St} {H : Hp} (q : TrS (ct X cad) W (denS T (.asg i l)) D σ H) : tAsg (Tr (ct X cad) W (den T l) (RepR (ct X cad))) (gName i) D σ H := by
  simp only [TrS, asg_eq] at q
  refine TrS.expr q fun v H1 G G1 ρ1 S1 r e s1 rr h => ?_
  obtain ⟨G', ex, s'⟩ := s1.putR (i := i) rr
  exact h _ G' H1 (e.toExC.trans ex) s'
theorem sw_of {x : Str} {px : Pos} {ln : Nat} (he : noComp e = true) (env : PySem.Env) (o : Option Expr) : swapsWith e o ln env = pure false := by
  cases e <;> first | rfl | cases he
theorem asg_S {k : Nat} {x : Str} {px : Pos} {i : Nat} (g : Good X cad T W n c) (hi : stoN c x = some i) (h : EOk X cad T W e l) (hc : noComp e = true) : SOk X cad T W (.Assign [.Name x px] e pos) (.asg i l) := by
  obtain ⟨h1, h2, h3, h4⟩ := sto_ok (pos := px) g hi
  exact PS.weak (ps_set g.nd h2 h3 h (sw_of (x := x) (px := px) hc _ _) h4) fun D σ H q => asg_rd q
theorem loc_of {x : Str} (g : Good X cad T W n c) (h : isLoc c x = true) : X.env.scope.names.lookup x = some .local := by
  unfold isLoc at h
  rw [← g.sc] at h
  split at h
  · rename_i e; exact e
  · cases h
theorem lcasg_S {k : Nat} {x : Str} {px : Pos} {i : Nat} (g : Good X cad T W n c) (hi : stoN c x = some i) (h : comp (k + 1) c e = some l) (hc : swapOk c x px e = true) : SOk X cad T W (.Assign [.Name x px] e pos) (.asg i l) := by
  have ih : Snd k := sound k
  cases e with
  | ListComp elt gens scope pos2 =>
    unfold swapOk at hc
    simp only [Bool.and_eq_true, Bool.not_eq_true'] at hc
    obtain ⟨⟨hl, hln⟩, han⟩ := hc
    simp only [comp] at h
    split at h <;> first | (cases h; done) | (rename_i q; cases q)
    rename_i tg0 it0 ifs0
    split at h
    · rename_i hb
      simp only [Bool.and_eq_true] at hb
      obtain ⟨⟨hb, hin⟩, hz⟩ := hb
      obtain ⟨t, ht, hin⟩ := tgIn_all hin
      obtain ⟨p, r, h1, h2, rfl⟩ := o2_some h
      obtain ⟨le, t', h3, h4, rfl⟩ := o2_some h1
      obtain ⟨li, cs, h5, h6, rfl⟩ := o2_some h2
      rw [ht] at h4
      cases h4
      obtain ⟨i1, i2⟩ := snd_I ih g h5 hz
      have ok : BlkOk X.N X.env.scope scope (ownOf c.N scope.names) := by
        rw [g.N, g.sc]
        exact blkOk_by hb
      have hcs : ∀ {X' : Cx}, Good X' cad T W0 n (c.blk scope) → CkOk X' cad T ifs0 cs := fun {X'} g' => by
        split at h6
        · cases h6
          exact ck_nil
        · unfold compL compL at h6
          obtain ⟨l1, l2, h7, h8, rfl⟩ := o2_some h6
          cases h8
          exact ck_one (ih.run g' h7).2.2.1
        · cases h6
      have hloc := loc_of g hl
      refine ⟨fun pins s σ H D I q => (ps_setLc (i := i) (own := ownOf c.N scope.names) (g := gOf X.K t) (tt := Tr (ct X cad) W0 (denC T cs) Eqv) (te := Tr (ct X cad) W0 (den T le) (RepR (ct X cad))) g.calm g.nd (sto_ok (pos := px) g hi).2.1 hloc
        (sw_true I.ok.kind hloc hln han) i1 ok (fun s H A cl fp => tg_ok (g.blk s H scope A cl fp) ht) (fun s H A cl fp => hcs (g.blk s H scope A cl fp)) (fun s H A cl fp => (ih.run (g.blk s H scope A cl fp) h3).1) i2).run pins s σ H D I ?_⟩
      simp only [TrS, asg_eq] at q
      refine lc_rd hin (TrS.expr q fun v H1 G G1 ρ1 S1 r e s1 rr h => ?_)
      obtain ⟨G', ex, s'⟩ := s1.putR (i := i) rr
      exact h _ G' H1 (e.toExC.trans ex) s'
    · cases h
  | _ => cases hc
def isStar : Expr → Bool
  | .Starred _ _ => true
  | _ => false
theorem star_of {k : Nat} {c : CC} {e : Expr} {l : LE} (h : comp k c e = some l) : isStar e = false := by
  cases k with
  | zero => cases h
  | succ k => cases e <;> first | rfl | cases h
theorem swap_par {env : PySem.Env} {x y : Str} {a b : Expr} {px py pt pt2 : Pos} {kt k2 : Nat} (hk : env.scope.kind = .function) (hx : env.scope.names.lookup x = some .local) (hy : env.scope.names.lookup y = some .local) (hline : (px.line == py.line) = true) (hne : (x == y) = false)
    (hca : [a, b].all (constantsAlone 8) = false) (hff : [a, b].all (foldedForSure 8) = false) (hsa : isStar a = false) (hsb : isStar b = false) :
    swappedStores [.Tuple [.Name x px, .Name y py] kt pt] (.Tuple [a, b] k2 pt2) env = pure (some [x, y]) := by
  have kx : env.kindOf x = some .local := hx
  have ky : env.kindOf y = some .local := hy
  have hb : env.blockKind = .function := by unfold Env.blockKind; rw [hk]; rfl
  have hl' : (py.line == px.line) = true := by
    rw [beq_iff_eq] at hline ⊢
    exact hline.symm
  have hxy : ¬ y = x := fun e => by rw [e] at hne; simp at hne
  have hed : [x, y].eraseDups = [x, y] := by
    rw [List.eraseDups_cons]
    simp [hxy, List.eraseDups_cons]
  unfold swappedStores
  simp only [hb, List.filterMap_cons, List.filterMap_nil, kx, ky, hl', hed, hca, hff, Expr.pos, List.head?_cons, Option.map_some, Option.getD_some]
  simp [hca, hff]
  rw [if_neg (fun h => by
    rcases h with h | h
    · cases a <;> first | (cases h; done) | (cases hsa; done)
    · cases b <;> first | (cases h; done) | (cases hsb; done))]
  rw [hed]
  rfl
/-- what was reckoned is held while something else is reckoned; then both are stored -/
theorem hold {C : Ct} {G G1 : Gh} {H H1 : Hp} {σ : L2.St} {ρ : Rho} {S : Mem} {v : V} {r : RV} (s : Sat C G1 H1 σ ρ S) (h : RepR C G1 H1 v r) (e : ExE G H G1 H1) :
    ∃ G1', Sat C G1' H1 σ ρ S ∧ (∀ G2 H2, ExE G1' H1 G2 H2 → ExC G H G2 H2) ∧ ∀ G2 H2 ρ2 S2 i j w r2, ExE G1' H1 G2 H2 → Sat C G2 H2 σ ρ2 S2 → RepR C G2 H2 w r2 → ∃ G3, ExC G H G3 H2 ∧ Sat C G3 H2 ((σ.set i (some v)).set j (some w)) ((ρ2.set i (some r)).set j (some r2)) S2 := by
  cases r with
  | fz d =>
    refine ⟨G1, s, fun G2 H2 e2 => e.toExC.trans e2.toExC, fun G2 H2 ρ2 S2 i j w r2 e2 s2 h2 => ?_⟩
    obtain ⟨G3, ex, s3⟩ := (s2.put (i := i) (Rep.mono e2.toExF d v h)).putR (i := j) h2
    exact ⟨G3, (e.toExC.trans e2.toExC).trans ex, s3⟩
  | own ds =>
    obtain ⟨a, xs, rfl, h1, h2, h3⟩ := h
    obtain ⟨kc, s'⟩ := s.reown (w := .out) (.inl h1) (by rw [h2]; simp)
    have ex1 : ExC G H (G1.set a .out) H1 := by
      refine ⟨⟨fun b hb => ?_, e.pre⟩, fun b hb => ?_⟩
      · rw [Gh.set_ne fun z => by have := (e.frz b hb).1; rw [z, h1] at this; cases this]
        exact e.frz b hb
      · rw [Gh.set_ne fun z => by have := (e.out b hb).1; rw [z, h1] at this; cases this]
        exact e.out b hb
    refine ⟨_, s', fun G2 H2 e2 => ex1.trans e2.toExC, fun G2 H2 ρ2 S2 i j w r2 e2 s2 hr2 => ?_⟩
    have ho := e2.out a Gh.set_same
    have hH2 : H2 a = some (.lst xs) := ho.2.trans h2
    obtain ⟨kc2, s2'⟩ := s2.reown (w := .slot i) (.inr ho.1) (by rw [hH2]; simp)
    have rs := Reps.mono kc2.exF _ _ (Reps.mono e2.toExF _ _ (Reps.mono kc.exF _ _ h3))
    have s4 := s2'.putOwn (i := i) Gh.set_same hH2 rs
    have hr4 : RepR C (G2.set a (.slot i)) H2 w r2 := by
      cases r2 with
      | fz d => exact Rep.mono kc2.exF d w hr2
      | own es =>
        obtain ⟨b, ys, q1, q2, q3, q4⟩ := hr2
        exact ⟨b, ys, q1, by rw [Gh.set_ne fun z => by rw [z, ho.1] at q2; cases q2]; exact q2, q3, Reps.mono kc2.exF es ys q4⟩
    obtain ⟨G3, ex, s5⟩ := s4.putR (i := j) hr4
    refine ⟨G3, ExC.trans ⟨⟨fun b hb => ?_, ?_⟩, fun b hb => ?_⟩ ex, s5⟩
    · have n1 : b ≠ a := fun z => by have := (e.frz b hb).1; rw [z, h1] at this; cases this
      have q := e2.frz b (by rw [Gh.set_ne n1]; exact (e.frz b hb).1)
      rw [Gh.set_ne n1]
      exact ⟨q.1, q.2.trans (e.frz b hb).2⟩
    · obtain ⟨l, q1⟩ := e.pre
      obtain ⟨m, q2⟩ := e2.pre
      exact ⟨l ++ m, by show G2.L = _; rw [q2]; show G1.L ++ m = _; rw [q1, List.append_assoc]⟩
    · have n1 : b ≠ a := fun z => by have := (e.out b hb).1; rw [z, h1] at this; cases this
      have q := e2.out b (by rw [Gh.set_ne n1]; exact (e.out b hb).1)
      rw [Gh.set_ne n1]
      exact ⟨q.1, q.2.trans (e.out b hb).2⟩
theorem par_S {k : Nat} {x y : Str} {a b : Expr} {la lb : LE} {i j : Nat} {px py pt pt2 : Pos} {kt k2 : Nat} (g : Good X cad T W n c) (hx : isLoc c x = true) (hy : isLoc c y = true) (hi : ixOf c.N x = some i) (hj : ixOf c.N y = some j) (hline : (px.line == py.line) = true) (hne : (x == y) = false)
    (hca : [a, b].all (constantsAlone 8) = false) (hff : [a, b].all (foldedForSure 8) = false) (ha : comp k c a = some la) (hb : comp k c b = some lb) : SOk X cad T W (.Assign [.Tuple [.Name x px, .Name y py] kt pt] (.Tuple [a, b] k2 pt2) pos) (.par i j la lb) := by
  obtain ⟨a1, a2, a3, a4⟩ := (sound k).run g ha
  obtain ⟨b1, b2, b3, b4⟩ := (sound k).run g hb
  have hij : i ≠ j := fun e => by
    have h1 := ixOf_get hi
    have h2 := ixOf_get hj
    rw [e, h2] at h1
    cases h1
    simp at hne
  refine ⟨fun pins s σ H D I q => (ps_par g.calm g.nd (ix_of g hi) (ix_of g hj) hij (loc_of g hx) (loc_of g hy) (pa_cons a1 (pa_cons b1 pa_nil (b4 _ _)) (a4 _ _)) (swap_par I.ok.kind (loc_of g hx) (loc_of g hy) hline hne hca hff (star_of ha) (star_of hb))).run pins s σ H D I ?_⟩
  simp only [TrS, par_eq] at q
  obtain ⟨G, ρ, S, sat, q⟩ := q
  -- the first
  have q' : AtS (ct X cad) W G H (thenS (den T la ρ S) fun x ρ S => thenS (den T lb ρ S) fun y ρ S => .nx ((ρ.set i (some x)).set j (some y)) S) D := by
    cases h1 : den T la ρ S with
    | ok x ρ1 S1 =>
      rw [h1] at q
      simp only [Res.bind_ok] at q
      show AtS _ W G H (thenS (den T lb ρ1 S1) fun y ρ S => .nx ((ρ.set i (some x)).set j (some y)) S) D
      cases h2 : den T lb ρ1 S1 <;> rw [h2] at q <;> exact q
    | exc x ρ1 S1 => rw [h1] at q; exact q
    | bad => rw [h1] at q; exact q
  refine ⟨G, ρ, S, sat, (AtS.bind q').mono fun v H1 ⟨G1, ρ1, S1, r, e1, s1, rr, q1⟩ => ?_⟩
  obtain ⟨G1', s1', ex, fin⟩ := hold s1 rr e1
  refine ⟨G1', ρ1, S1, s1', ?_⟩
  have q1 : AtS (ct X cad) W G H (thenS (den T lb ρ1 S1) fun y ρ S => .nx ((ρ.set i (some r)).set j (some y)) S) D := q1
  cases h2 : den T lb ρ1 S1 with
  | ok y ρ2 S2 =>
    rw [h2] at q1
    exact fun w G2 H2 e2 s2 r2 => let ⟨G3, e3, s3⟩ := fin G2 H2 ρ2 S2 i j w y e2 s2 r2; ⟨v, w, rfl, q1 _ G3 H2 e3 s3⟩
  | exc x ρ2 S2 =>
    rw [h2] at q1
    exact fun c d G2 H2 e2 s2 r2 => q1 c d σ G2 H2 (ex G2 H2 e2) s2 r2
  | bad =>
    rw [h2] at q1
    exact q1
theorem names_len {c : CC} {env : PySem.Env} {l : Nat} (hs : env.scope = c.sc) : ∀ (es : List Expr), (es.any fun
    | .Name x _ => !isLoc c x
    | _ => true) = true → (es.filterMap fun
    | .Name id pos => if env.kindOf id == some .local && pos.line == l then some id else none
    | _ => none).length ≠ es.length
  | [], h => by cases h
  | e :: es, h => by
    have le := List.length_filterMap_le (fun
      | .Name id pos => if env.kindOf id == some .local && pos.line == l then some id else none
      | _ => (none : Option Str)) es
    rw [List.any_cons, Bool.or_eq_true] at h
    rw [List.filterMap_cons, List.length_cons]
    split
    · omega
    · rename_i e1
      rcases h with h | h
      · exfalso
        cases e <;> first | (cases e1; done) | skip
        rename_i id pos
        simp only at e1 h
        split at e1
        · rename_i hc
          rw [Bool.and_eq_true] at hc
          have hk : env.scope.names.lookup id = some .local := by simpa [Env.kindOf] using hc.1
          rw [hs] at hk
          unfold isLoc at h
          rw [hk] at h
          cases h
        · cases e1
      · have := names_len (l := l) hs es h
        rw [List.length_cons]
        omega
theorem swN {c : CC} {env : PySem.Env} {es : List Expr} {e : Expr} {kt : Nat} {pt : Pos} (hs : env.scope = c.sc) (h : noSwapT c es e = true) : swappedStores [.Tuple es kt pt] e env = pure none := by
  cases e <;> first | rfl | skip
  rename_i vs k2 p2
  unfold swappedStores
  simp only
  split
  · rfl
  split
  · rfl
  rename_i h1 h2
  simp only [noSwapT, Bool.or_eq_true] at h
  simp only [Bool.or_eq_true, not_or] at h1
  rcases h with (h | h) | h
  · exact (h1.1.2 h).elim
  · exact (h1.1.1 h).elim
  · have := names_len (l := (es.head?.map (·.pos.line)).getD 0) hs es h
    rw [if_pos]
    rw [Bool.or_eq_true]
    exact .inl (bne_iff_ne.mpr this)
theorem tas_eq {is : List Nat} (ρ : Rho) (S : Mem) : denS T (.tas is l) ρ S = thenS (den T l ρ S) fun r ρ S => match Tg.put r.d ρ (.tup is) with | some ρ => .nx ρ S | none => .bad := by
  simp only [denS]
  cases den T l ρ S <;> rfl
theorem tas_S {es : List Expr} {is : List Nat} {kt : Nat} {pt : Pos} (g : Good X cad T W n c) (hi : stoNs c es = some is) (h : EOk X cad T W e l) (hc : noComp e = true) (hn : noSwapT c es e = true) : SOk X cad T W (.Assign [.Tuple es kt pt] e pos) (.tas is l) := by
  obtain ⟨a1, a2, a3⟩ := stos_ok g hi
  have hs : swapsWithSole [.Tuple es kt pt] e pos.line X.env = pure false := by
    show swapsWith e (some (.Tuple es kt pt)) pos.line X.env = pure false
    exact sw_of (x := cellsStr) (px := pos) hc _ _
  refine PS.weak (ps_asg h (pg_tup g.calm a1 a2 a3) hs (swN g.sc hn)) fun D σ H q => ?_
  simp only [TrS, tas_eq] at q
  refine TrS.expr q fun v H1 G G1 ρ1 S1 r e s1 rr h => ?_
  cases r with
  | own ds => exact h.elim
  | fz d =>
    simp only [RV.d] at h
    cases hp : Tg.put d ρ1 (.tup is) with
    | none => rw [hp] at h; exact h.elim
    | some ρ2 =>
      rw [hp] at h
      exact tg_put (js := is) (t := .tup is) s1 rr hp (fun _ h => h) fun σ' s' _ => h σ' G1 H1 e.toExC s'
theorem exp_S (h : EOk X cad T W e l) (hc : noComp e = true) : SOk X cad T W (.Expr e pos) (.exp l) :=
  PS.weak (ps_expr h (sw_of (x := cellsStr) (px := pos) hc _ _)) fun D σ H q => by
    simp only [TrS, exp_eq] at q
    exact TrS.expr q fun v H1 G G1 ρ1 S1 r e s1 rr h => h _ G1 H1 e.toExC s1
theorem ret_S (h : EOk X cad T W e l) : SOk X cad T W (.Return (some e) pos) (.ret l) :=
  PS.weak (ps_ret h) fun D σ H q => by
    simp only [TrS, ret_eq] at q
    exact TrS.expr q fun v H1 G G1 ρ1 S1 r e s1 rr h => h v G1 H1 e.toExC s1.toSatS rr
theorem retN_S : SOk X cad T W (.Return none pos) .retN :=
  PS.weak ps_retN fun D σ H q => by
    obtain ⟨G, ρ, S, s, q⟩ := q
    simp only [denS] at q
    exact q .non G H (.refl _ _) s.toSatS .non
theorem pass_S : SOk X cad T W (.Pass pos) .pass :=
  PS.weak ps_pass fun D σ H q => by
    obtain ⟨G, ρ, S, s, q⟩ := q
    simp only [denS] at q
    exact q σ G H (.refl _ _) s
theorem iff_S {t : Expr} {lt : LE} {a b : List Stmt} {la lb : LSs} (ht : TOk X cad T W t lt) (ha : SsOk X cad T W a la) (hb : SsOk X cad T W b lb) : SOk X cad T W (.If t a b pos) (.iff lt la lb) :=
  PS.weak (ps_if ht ha hb) fun D σ H q => by
    simp only [TrS, iff_eq] at q
    refine TrS.expr q fun k H1 G G1 ρ1 S1 k' e s1 rk h => ?_
    cases rk
    have h := AtS.ext h e.toExC
    cases k with
    | true =>
      rw [if_pos rfl] at h
      exact iteT ⟨G1, ρ1, S1, s1, h⟩
    | false =>
      rw [if_neg (by decide)] at h
      exact iteF ⟨G1, ρ1, S1, s1, h⟩
theorem nil_Ss : SsOk X cad T W [] .nil :=
  PSs.weak pss_nil fun D σ H q => by
    obtain ⟨G, ρ, S, s, q⟩ := q
    simp only [denSs] at q
    exact q σ G H (.refl _ _) s
theorem cons_Ss {s : Stmt} {ss : List Stmt} {ls : LS} {lss : LSs} (h : SOk X cad T W s ls) (hs : SsOk X cad T W ss lss) : SsOk X cad T W (s :: ss) (.cons ls lss) :=
  PSs.weak (pss_cons h hs) fun D σ H q => by
    obtain ⟨G, ρ, S, sat, q⟩ := q
    simp only [denSs] at q
    refine ⟨G, ρ, S, sat, ?_⟩
    cases e : denS T ls ρ S with
    | nx ρ1 S1 =>
      rw [e] at q
      exact fun σ' G' H' ex s' => ⟨G', ρ1, S1, s', AtS.ext q ex⟩
    | rt r S1 => rw [e] at q; exact q
    | bk ρ1 S1 => rw [e] at q; exact q
    | ct ρ1 S1 => rw [e] at q; exact q
    | exc x ρ1 S1 => rw [e] at q; exact q
    | bad => rw [e] at q; exact q
end
/-- THE RULE for statements -/
structure SndS (k : Nat) : Prop where
  one : ∀ {X : Cx} {cad : Str → Option Addr} {T : Tab} {W : WX} {n : Nat} {c : CC} {s : Stmt} {l : LS}, Good X cad T W n c → compS k c s = some l → SOk X cad T W s l
  all : ∀ {X : Cx} {cad : Str → Option Addr} {T : Tab} {W : WX} {n : Nat} {c : CC} {s : List Stmt} {l : LSs}, Good X cad T W n c → compSs k c s = some l → SsOk X cad T W s l
theorem soundS : ∀ k : Nat, SndS k
  | 0 => ⟨fun g h => (by cases h), fun g h => (by cases h)⟩
  | k + 1 => by
    have ih : SndS k := soundS k
    have sd := sound (k + 1)
    refine ⟨fun {X cad T W n c s l} g h => ?_, fun {X cad T W n c s l} g h => ?_⟩
    · unfold compS at h
      split at h
      · split at h
        · rename_i hc
          obtain ⟨i, le, h1, h2, rfl⟩ := o2_some h
          rcases Bool.or_eq_true_iff.mp hc with hc | hc
          · exact asg_S (k := k) g h1 (sd.run g h2).1 hc
          · exact lcasg_S g h1 h2 hc
        · cases h
      · split at h
        · rename_i hc
          simp only [Bool.and_eq_true, Bool.not_eq_true'] at hc
          obtain ⟨⟨⟨⟨⟨c1, c2⟩, c3⟩, c4⟩, c5⟩, c6⟩ := hc
          obtain ⟨p, q, h1, h2, rfl⟩ := o2_some h
          obtain ⟨i, la, h3, h4, rfl⟩ := o2_some h1
          obtain ⟨j, lb, h5, h6, rfl⟩ := o2_some h2
          exact par_S g c1 c2 h3 h5 c3 c4 c5 c6 h4 h6
        · split at h
          · rename_i hn
            obtain ⟨i, le, h1, h2, rfl⟩ := o2_some h
            exact tas_S g h1 (sd.run g h2).1 rfl hn
          · cases h
      · split at h
        · rename_i hc
          obtain ⟨i, le, h1, h2, rfl⟩ := o2_some h
          rw [Bool.and_eq_true] at hc
          exact tas_S g h1 (sd.run g h2).1 hc.1 hc.2
        · cases h
      · split at h
        · rename_i hc
          obtain ⟨le, h1, rfl⟩ := o1_some h
          exact exp_S (sd.run g h1).1 hc
        · cases h
      · obtain ⟨le, h1, rfl⟩ := o1_some h
        exact ret_S (sd.run g h1).1
      · cases h
        exact retN_S
      · obtain ⟨lt, la, lb, h1, h2, h3, rfl⟩ := o3_some h
        exact iff_S (sd.run g h1).2.2.1 (ih.all g h2) (ih.all g h3)
      · cases h
        exact pass_S
      · cases h
    · cases s with
      | nil =>
        cases h
        exact nil_Ss
      | cons s ss =>
        obtain ⟨a, b, h1, h2, rfl⟩ := o2_some (show o2 .cons (compS k c s) (compSs k c ss) = some l from h)
        exact cons_Ss (ih.one g h1) (ih.all g h2)
/-- THE RULE for a def -/
theorem def_ok {P : Program} {w : World} {K : PySem.W.Frag} {mg : Str → Option Value} {base : Heap} {cad : Str → Option Addr} {T : Tab} {n k : Nat} {x qual : Str} {st : Stmt} {f : Addr} {fd : FuncData} {GN N ps : List Str} {b : LSs} (F : Fun K x qual st f fd) (S : FnScope N ps (defScope st))
    (hc : compSs k ⟨GN, N, defScope st, fun _ => true⟩ (defBody st) = some b) (tab : TabOk P w K mg base cad GN T n) : FnOk P w K mg base (L2.CX P w) (n + 1) f fd ps (spOf ⟨K, cad⟩ ps.length (denDef T ps.length N.length b)) := by
  have hpl : ps.length ≤ N.length := by have := congrArg List.length S.pre; rw [List.length_take] at this; omega
  refine F.okX S (fun vs H Q E h => h.1) fun cdv A outer s H vs Q E hr h => ?_
  obtain ⟨hl, ds, G, Sm, r, sat, ns, h⟩ := h
  have hdl : ds.length = ps.length := by rw [← hl]; exact r.length.symm
  have g : Good (cxOf (L2.CX P w) P w K mg base N qual (defScope st) f cdv A outer s H E) cad T (fun c d _ H => E c d H) n ⟨GN, N, defScope st, fun _ => true⟩ :=
    ⟨rfl, rfl, S.nd, fun _ _ => rfl, rfl, hr, takes_of rfl rfl rfl rfl, tab⟩
  refine ⟨_, (soundS k).all g hc, G, ds.map (fun d => some (.fz d)) ++ List.replicate (N.length - ds.length) none, Sm, ⟨sat, fun i x hi => ?_, ?_⟩, ?_⟩
  · by_cases hid : i < ds.length
    · rw [List.getElem?_append_left (by simpa using hid), List.getElem?_map, List.getElem?_eq_getElem hid] at hi
      cases hi
      obtain ⟨v, hv, rv⟩ := r.get (List.getElem?_eq_getElem hid)
      refine ⟨v, ?_, rv⟩
      unfold L2.start
      rw [List.getElem?_append_left (by simpa [r.length] using hid), List.getElem?_map, hv]
      rfl
    · rw [List.getElem?_append_right (by simpa using hid), List.getElem?_replicate] at hi
      split at hi <;> cases hi
  · unfold L2.start
    rw [List.length_append, List.length_append, List.length_map, List.length_map, List.length_replicate, List.length_replicate, r.length]
  · unfold denDef at h
    rw [if_pos hdl] at h
    have nsl : ∀ {G' : Gh} {H' : Hp} {S' : Mem}, ExC G H G' H' → SatS ⟨K, cad⟩ G' H' S' → ∃ G2, ExC G H G2 H' ∧ SatS ⟨K, cad⟩ G2 H' S' ∧ (∀ a i, G2.O a ≠ .slot i) ∧ (∀ v r, RepR ⟨K, cad⟩ G' H' v r → RepR ⟨K, cad⟩ G2 H' v r) ∧ ∀ c d x, ErrOk ⟨K, cad⟩ G' H' c d x → ErrOk ⟨K, cad⟩ G2 H' c d x := fun {G' H' S'} ex s' => by
      have hk : ∀ a, (∀ i, G'.O a ≠ .slot i) → (match G'.O a with | .slot _ => Own.free | o => o) = G'.O a := fun a h => by
        split
        · rename_i i e; exact (h i e).elim
        · rfl
      have kc : KeepC G' H' { G' with O := fun a => match G'.O a with | .slot _ => .free | o => o } H' := ⟨rfl, fun a h => ⟨hk a (fun i e => by rcases h with h | ⟨n, h⟩ | ⟨n, f, h⟩ <;> rw [e] at h <;> cases h), rfl⟩⟩
      refine ⟨{ G' with O := fun a => match G'.O a with | .slot _ => .free | o => o }, ⟨⟨fun a h => ⟨?_, (ex.frz a h).2⟩, ex.pre⟩, fun a h => ⟨?_, (ex.out a h).2⟩⟩, s'.keepC kc fun a h => ?_, fun a i => ?_, fun v r h => ?_, fun c d x h => ?_⟩
      · have q := (ex.frz a h).1
        exact (hk a fun i e => by rw [q] at e; cases e).trans q
      · have q := (ex.out a h).1
        exact (hk a fun i e => by rw [q] at e; cases e).trans q
      · have q := s'.fr a h
        exact (hk a fun i e => by rw [q] at e; cases e).trans q
      · show (match G'.O a with | .slot _ => Own.free | o => o) ≠ _
        split
        · simp
        · rename_i h; exact h i
      · cases r with
        | fz d => exact Rep.mono kc.exF d v h
        | own es =>
          obtain ⟨b, ys, q1, q2, q3, q4⟩ := h
          exact ⟨b, ys, q1, (hk b fun i e => by rw [q2] at e; cases e).trans q2, q3, Reps.mono kc.exF es ys q4⟩
      · obtain ⟨A, p, vs, h1, h2, h3, h4, h5⟩ := h
        refine ⟨A, p, vs, h1, h2, h3, h4, fun f => ?_⟩
        have q := h5 f
        split at q
        · rename_i y e
          obtain ⟨v, q1, q2⟩ := q
          exact ⟨v, q1, Rep.mono kc.exF y v q2⟩
        · exact q
    cases e : denSs T b (ds.map (fun d => some (.fz d)) ++ List.replicate (N.length - ds.length) none) Sm with
    | nx ρ1 S1 =>
      rw [e] at h
      exact fun σ' G' H' ex s' => let ⟨G2, e2, s2, n2, r2, _⟩ := nsl ex s'.toSatS; h .non G2 H' e2 s2 n2 .non
    | rt r S1 =>
      rw [e] at h
      exact fun v G' H' ex s' rv => let ⟨G2, e2, s2, n2, r2, _⟩ := nsl ex s'; h v G2 H' e2 s2 n2 (r2 v r rv)
    | exc x ρ1 S1 =>
      rw [e] at h
      exact fun c d σ' G' H' ex s' q => let ⟨G2, e2, s2, n2, _, r2⟩ := nsl ex s'.toSatS; h c d G2 H' e2 s2 n2 (r2 c d x q)
    | bk ρ1 S1 => rw [e] at h; exact h.elim
    | ct ρ1 S1 => rw [e] at h; exact h.elim
    | bad => rw [e] at h; exact h.elim
end Sh


/-! ShDraw: the bag of draws: what it gives, what stands for it. -/
namespace Sh
open PySem PySem.Spec PyProof.Rows L2 RZ
def seedOf (s : Int) (c : Int) : Int := (s * 47981 + c % 2147483423 + 71) % 2147483497
def drawSeed (ns : List Int) : Int := ns.foldl seedOf 5793
/-- a number is taken off the script -/
def Bag.step (b : Bag) : Bag :=
  if b.big = 0 ∧ b.pos < b.cells.length then
    { cells := b.cells, pos := b.pos + 1, big := if (10 : Int) ^ 18 ≤ b.cells.getD b.pos 0 then b.cells.getD b.pos 0 else b.big,
      seed := (b.seed * 36973 + b.cells.getD b.pos 0 % 2147483423 * 42767 + 83) % 2147483497, many := b.many + 1 }
  else { b with many := b.many + 1 }
def Bag.next (b : Bag) : Int := (b.seed ^ 3 + b.seed * 39119 + b.many * 1299709 + 70001) % 2147483497
def Bag.give (b : Bag) (k : Int) : Int × Bag :=
  if 0 < b.big then (b.big % k, { b with big := b.big / k })
  else ((b.next / 97 + b.next % 7883 * 67) % k, { b with seed := b.next })
def Bag.pull (b : Bag) (k : Int) : Int × Bag := b.step.give k
theorem Bag.pull_range (b : Bag) (k : Int) (hk : 0 < k) : 0 ≤ (b.pull k).1 ∧ (b.pull k).1 < k := by
  unfold Bag.pull Bag.give
  split
  · exact ⟨Int.emod_nonneg _ (by omega), Int.emod_lt_of_pos _ hk⟩
  · exact ⟨Int.emod_nonneg _ (by omega), Int.emod_lt_of_pos _ hk⟩
theorem mod_ok (x : Int) : 0 ≤ x % 2147483497 ∧ x % 2147483497 < 2147483497 := ⟨Int.emod_nonneg _ (by decide), Int.emod_lt_of_pos _ (by decide)⟩
theorem Bag.step_ok {b : Bag} (h : b.Ok) : b.step.Ok := by
  unfold Bag.step
  split
  · exact ⟨(mod_ok _).1, (mod_ok _).2, h.2.2⟩
  · exact h
theorem Bag.pull_ok {b : Bag} (h : b.Ok) (k : Int) : (b.pull k).2.Ok := by
  have q := Bag.step_ok h
  unfold Bag.pull Bag.give
  split
  · exact q
  · exact ⟨(mod_ok _).1, (mod_ok _).2, q.2.2⟩
theorem drawSeed_ok (ns : List Int) : 0 ≤ drawSeed ns ∧ drawSeed ns < 2147483497 := by
  unfold drawSeed
  have : ∀ (ns : List Int) (s : Int), (0 ≤ s ∧ s < 2147483497) → 0 ≤ ns.foldl seedOf s ∧ ns.foldl seedOf s < 2147483497 := by
    intro ns
    induction ns with
    | nil => intro s h; exact h
    | cons c cs ih => intro s h; exact ih _ (mod_ok _)
  exact this ns 5793 (by decide)
def intsOf : List D → Option (List Int)
  | [] => some []
  | .int i :: ds => (intsOf ds).map (i :: ·)
  | _ => none
def drawsFn : Fn := fun ds S => match ds with
  | [.lst xs] => match intsOf xs with
    | some ns => if ns.length ≤ 1000 then .ok (.fz (.loc S.objs.length)) ⟨S.objs ++ [.bag ⟨ns.take 63, 0, 0, drawSeed (ns.take 63), 0⟩]⟩ else .bad
    | none => .bad
  | _ => .bad
def pullFn : Fn := fun ds S => match ds with
  | [.loc n, .int k] => match S.objs[n]? with
    | some (.bag b) => if 0 < k.toNat ∧ k.toNat < 1073741824 then .ok (.fz (.int (b.pull k).1)) ⟨S.objs.set n (.bag (b.pull k).2)⟩ else .bad
    | _ => .bad
  | _ => .bad
/-- the bag's list at a, its numbers at c -/
structure BagAt (H : Hp) (a c : Addr) (b : Bag) : Prop where
  ls : H a = some (.lst [.ref c, .int b.pos, .int b.big, .int b.seed, .int b.many])
  cs : H c = some (.lst (b.cells.map .int))
  ne : a ≠ c
def spPull : Sp := fun vs H Q _ => ∃ (a c : Addr) (k : Int) (b : Bag), vs = [.ref a, .int k] ∧ BagAt H a c b ∧ b.Ok ∧ 0 < k ∧ k < 1073741824 ∧
  ∀ H', (∀ x, x ≠ a → H x ≠ none → H' x = H x) → BagAt H' a c (b.pull k).2 → Q (.int (b.pull k).1) H'
theorem intsOf_reps {C : Ct} {G : Gh} {H : Hp} : ∀ {ds : List D} {vs : List V} {ns : List Int}, Reps C G H vs ds → intsOf ds = some ns → vs = ns.map V.int
  | [], _, _, h, e => by cases h; cases e; rfl
  | d :: ds, _, ns, h, e => by
    cases h with
    | cons h1 h2 =>
      cases d with
      | int i =>
        cases h1
        cases e2 : intsOf ds with
        | none => simp [intsOf, e2] at e
        | some ms =>
          simp only [intsOf, e2, Option.map_some, Option.some.injEq] at e
          subst e
          rw [intsOf_reps h2 e2]
          rfl
      | _ => simp [intsOf] at e
theorem pull_spec {C : Ct} (vs : List V) (H : Hp) (Q : VK) (E : XK) (h : spOf C 2 pullFn vs H Q E) : spPull vs H Q E := by
  obtain ⟨hl, ds, G, S, r, sat, ns, h⟩ := h
  have hd : ∃ n k b, ds = [.loc n, .int k] ∧ S.objs[n]? = some (.bag b) ∧ 0 < k.toNat ∧ k.toNat < 1073741824 := by
    unfold pullFn at h
    split at h
    · rename_i e
      split at e
      · split at e
        · split at e
          · rename_i h1 h2
            exact ⟨_, _, _, rfl, h1, h2⟩
          · cases e
        · cases e
      · cases e
    · rename_i e
      split at e
      · split at e
        · split at e <;> cases e
        · cases e
      · cases e
    · exact h.elim
  obtain ⟨n, k, b, rfl, hb, hk⟩ := hd
  simp only [pullFn, hb, hk, and_self, if_true] at h
  cases r with
  | cons r1 r2 =>
    cases r2 with
    | cons r2 r3 =>
      cases r3
      cases r1 with
      | loc h1 =>
        cases r2
        obtain ⟨a, ha, ho, c, h2, h3, h4, h5⟩ := sat.ob n _ hb
        rw [h1] at ha
        cases ha
        refine ⟨_, c, k, b, rfl, ⟨h2, h4, fun e => ?_⟩, h5, by omega, by omega, fun H' hs hb' => ?_⟩
        · rw [e, h3] at ho; cases ho
        · refine h _ G H' ⟨⟨fun x hx => ⟨hx, hs x (fun e => ?_) fun z => ?_⟩, [], by simp⟩, fun x hx => ⟨hx, hs x (fun e => ?_) fun z => ?_⟩⟩ (sat.upd1 h1 ho hs (by rw [hb'.ls]; simp) ⟨ho, c, hb'.ls, h3, hb'.cs, Bag.pull_ok h5 k⟩) ns (.int _)
          · rw [e, ho] at hx; cases hx
          · rw [sat.fr x z] at hx; cases hx
          · rw [e, ho] at hx; cases hx
          · rw [sat.fr x z] at hx; cases hx
end Sh


namespace Sh
open PySem PySem.Spec PyProof.Rows L2
def top (i : Nat) : Stmt := PySem.Challenge.pw_shiftlogs_k02_names_and_numbers.main.body.getD i (.Pass ⟨0, 0, 0, 0⟩)
abbrev sDraws : Stmt := top 5
abbrev sPull : Stmt := top 6
/-! the bag's two defs, by hand -/
section
variable {P : Program} {w : World} {K : PySem.W.Frag} {mg : Str → Option Value} {base : Heap}
theorem scPull : FnScope ["_law_bag", "_law_sides", "_law_cell", "_law_digit", "_law_seed"] ["_law_bag", "_law_sides"] (defScope sPull) := ⟨rfl, rfl, rfl, by decide +kernel, rfl, by decide +kernel, by decide +kernel⟩
/-- behind the first two statements -/
def rdGive (a c : Addr) (k : Int) (cells : List Int) : TS := fun D σ H => ∃ (o : Option V) (b : Bag), σ = [some (.ref a), some (.int k), o, none, none] ∧ H a = some (.lst [.ref c, .int b.pos, .int b.big, .int b.seed, .int b.many]) ∧ b.Ok ∧ 0 < k ∧ k < 1073741824 ∧ b.cells = cells ∧
  ∀ H', (∀ x, x ≠ a → H x ≠ none → H' x = H x) → H' a = some (.lst [.ref c, .int (b.give k).2.pos, .int (b.give k).2.big, .int (b.give k).2.seed, .int (b.give k).2.many]) → D.rt (.int (b.give k).1) H'
def rdStep (a c : Addr) (k : Int) (cells : List Int) : TS := fun D σ H => ∃ (b : Bag), σ = [some (.ref a), some (.int k), none, none, none] ∧ H a = some (.lst [.ref c, .int b.pos, .int b.big, .int b.seed, .int (b.many + 1)]) ∧ H c = some (.lst (cells.map .int)) ∧ a ≠ c ∧ b.Ok ∧ 0 < k ∧ k < 1073741824 ∧ b.cells = cells ∧
  ∀ H' o, (∀ x, x ≠ a → H x ≠ none → H' x = H x) → H' a = some (.lst [.ref c, .int b.step.pos, .int b.step.big, .int b.step.seed, .int b.step.many]) → D.nx [some (.ref a), some (.int k), o, none, none] H'
theorem dec_int0 {i : Int} (h : i = 0) : decide (V.int i = V.int 0) = true := by simp [h]
theorem dec_int1 {i : Int} (h : ¬ i = 0) : decide (V.int i = V.int 0) = false := by simp [h]
theorem ok_pull0 {f : Addr} {fd : FuncData} (F : Fun K "_law_pull" "_law_pull" sPull f fd) (zl : mg "len" = none) (zi : mg "int" = none) : FnOk P w K mg base (L2.CX P w) 1 f fd ["_law_bag", "_law_sides"] spPull := by
  refine F.okX scPull (fun vs H Q E h => ?_) (fun cdv A outer s H vs Q E hr h => ?_)
  · obtain ⟨a, c, k, b, rfl, _⟩ := h
    rfl
  · obtain ⟨a, c, k, b, rfl, hB, hok, hk0, hk1, kk⟩ := h
    refine ⟨_, pss_cons (ps_asg (pe_op op_add (pe_ix ix_list (pv 0) pe_int (fun _ _ => rfl)) pe_int) (pg_sub (pv 0) pe_int set_list))
      (pss_cons (PS.weak (t' := rdStep a c k b.cells) (ps_if (PW.pt (pw_and (pt_cmpR op_eq (pe_ix ix_list (pv 0) pe_int (fun _ _ => rfl)) pe_int (nomark _)) (pw_and1 (pt_cmpR op_lt (pe_ix ix_list (pv 0) pe_int (fun _ _ => rfl)) (pe_callB call_len_seq (by rfl) zl PySem.boot_len (pa_cons (pe_ix ix_list (pv 0) pe_int (fun _ _ => rfl)) pa_nil)) (nomark _)))))
        (pss_cons (ps_asg (pe_tup (pa_cons (pe_ix ix_list (pe_ix ix_list (pv 0) pe_int (fun _ _ => rfl)) (pe_ix ix_list (pv 0) pe_int (fun _ _ => rfl)) (fun _ _ => rfl)) (pa_cons (pe_op op_add (pe_ix ix_list (pv 0) pe_int (fun _ _ => rfl)) pe_int) pa_nil)))
            (pg_tup rfl (pgs_cons (pg_name (i := 2) scPull.nd rfl (Or.inl rfl)) (pgs_cons (pg_sub (pv 0) pe_int set_list) pgs_nil))))
        (pss_cons (ps_if (pt_cmpR op_ge (pv 2) (pe_op op_pow pe_int pe_int) (nomark _)) (pss_one (ps_asg (pv 2) (pg_sub (pv 0) pe_int set_list))) pss_nil)
        (pss_one (ps_asg (pe_op op_mod (pe_callTy call_int1 (by rfl) zi (by decide +kernel) (pa_cons (pe_op op_add (pe_op op_add (pe_op op_mul (pe_ix ix_list (pv 0) pe_int (fun _ _ => rfl)) pe_int) (pe_op op_mul (pe_op op_mod (pe_callTy call_int1 (by rfl) zi (by decide +kernel) (pa_cons (pv 2) pa_nil)) pe_int) pe_int)) pe_int) pa_nil)) pe_int)
            (pg_sub (pv 0) pe_int set_list)))))
        pss_nil) ?step)
      (PSs.weak (t' := rdGive a c k b.cells) (pss_cons (ps_if (pt_cmpR op_gt (pe_ix ix_list (pv 0) pe_int (fun _ _ => rfl)) pe_int (nomark _))
        (pss_cons (ps_asg (pe_tup (pa_cons (pe_op op_mod (pe_callTy call_int1 (by rfl) zi (by decide +kernel) (pa_cons (pe_ix ix_list (pv 0) pe_int (fun _ _ => rfl)) pa_nil)) (pv 1)) (pa_cons (pe_op op_fdiv (pe_ix ix_list (pv 0) pe_int (fun _ _ => rfl)) (pv 1)) pa_nil)))
            (pg_tup rfl (pgs_cons (pg_name (i := 3) scPull.nd rfl (Or.inl rfl)) (pgs_cons (pg_sub (pv 0) pe_int set_list) pgs_nil))))
        (pss_one (ps_ret (pv 3)))) pss_nil)
      (pss_cons (ps_set (i := 4) scPull.nd rfl (Or.inl rfl) (pe_ix ix_list (pv 0) pe_int (fun _ _ => rfl)))
      (pss_cons (ps_asg (pe_op op_mod (pe_callTy call_int1 (by rfl) zi (by decide +kernel) (pa_cons (pe_op op_add (pe_op op_add (pe_op op_add (pe_op op_pow (pv 4) pe_int) (pe_op op_mul (pv 4) pe_int)) (pe_op op_mul (pe_ix ix_list (pv 0) pe_int (fun _ _ => rfl)) pe_int)) pe_int) pa_nil)) pe_int)
            (pg_sub (pv 0) pe_int set_list))
      (pss_one (ps_ret (pe_op op_mod (pe_callTy call_int1 (by rfl) zi (by decide +kernel) (pa_cons (pe_op op_add (pe_op op_fdiv (pe_ix ix_list (pv 0) pe_int (fun _ _ => rfl)) pe_int) (pe_op op_mul (pe_op op_mod (pe_callTy call_int1 (by rfl) zi (by decide +kernel) (pa_cons (pe_ix ix_list (pv 0) pe_int (fun _ _ => rfl)) pa_nil)) pe_int) pe_int)) pa_nil)) (pv 1))))))) ?give)), ?main⟩
    case main =>
      have hb := hB.ls
      refine ⟨_, rfl, _, _, _, _, rfl, rfl, SqL.of hb, rfl, _, _, rfl, rfl, _, rfl, _, _, _, _, rfl, rfl, hb, rfl, ?_⟩
      generalize hH1 : upd H a (.lst _) = H1
      have hb1 : H1 a = some (.lst [.ref c, .int b.pos, .int b.big, .int b.seed, .int (b.many + 1)]) := by rw [← hH1]; exact upd_same
      have hs1 : ∀ x, x ≠ a → H1 x = H x := fun x hx => by rw [← hH1]; exact upd_ne hx
      refine ⟨b, rfl, hb1, (hs1 c hB.ne.symm).trans hB.cs, hB.ne, hok, hk0, hk1, rfl, fun H2 o hs2 hb2 => ⟨o, b.step, rfl, hb2, Bag.step_ok hok, hk0, hk1, ?_, fun H3 hs3 hb3 => kk H3 (fun x hx hn => ?_) ⟨hb3, ?_, hB.ne⟩⟩⟩
      · unfold Bag.step; split <;> rfl
      · have e1 := hs1 x hx
        have e2 := hs2 x hx (by rw [e1]; exact hn)
        exact ((hs3 x hx (by rw [e2, e1]; exact hn)).trans e2).trans e1
      · have e1 := hs1 c hB.ne.symm
        have hn : H c ≠ none := by rw [hB.cs]; simp
        have e2 := hs2 c hB.ne.symm (by rw [e1]; exact hn)
        rw [hs3 c hB.ne.symm (by rw [e2, e1]; exact hn), e2, e1]
        have : (b.pull k).2.cells = b.cells := by
          unfold Bag.pull Bag.give
          split <;> (show b.step.cells = b.cells; unfold Bag.step; split <;> rfl)
        rw [this]
        exact hB.cs
    case step =>
      rintro D σ H ⟨b, rfl, hb1, hc1, hne, hok, hk0, hk1, hcl, kk⟩
      refine ⟨_, rfl, _, _, _, _, rfl, rfl, SqL.of hb1, rfl, rfl, _, rfl, ?_⟩
      by_cases hbig : b.big = 0
      · rw [dec_int0 hbig]
        refine iteT ⟨_, rfl, _, _, _, _, rfl, rfl, SqL.of hb1, rfl, _, rfl, _, _, _, _, rfl, rfl, SqL.of hb1, rfl, _, _, rfl, .inl (SqL.of hc1), _, _, rfl, rfl, _, rfl, ?_⟩
        refine ite2 (fun hlt => ?_) (fun hlt => ?_)
        · have hlt : b.pos < b.cells.length := by
            have := of_decide_eq_true hlt
            rw [List.length_map, ← hcl] at this
            exact Int.ofNat_lt.mp this
          have hget : (b.cells.map V.int)[b.pos]? = some (.int (b.cells.getD b.pos 0)) := by
            rw [List.getElem?_map, List.getElem?_eq_getElem hlt, List.getD_eq_getElem?_getD, List.getElem?_eq_getElem hlt]
            rfl
          rw [← hcl] at hc1
          refine ⟨_, rfl, _, _, _, _, rfl, rfl, SqL.of hb1, rfl, _, rfl, _, _, _, _, rfl, rfl, SqL.of hb1, rfl, _, _, _, _, rfl, rfl, SqL.of hc1, atI_nat hget, _, rfl, _, _, _, _, rfl, rfl, SqL.of hb1, rfl, _, _, rfl, rfl, ?_⟩
          refine ⟨(show 2 ≤ sizeLine from LINE_le (by decide)), fun t ht => ?_⟩
          have nta : a ≠ t := ne_of_none hb1 ht
          refine ⟨_, _, rfl, SqT.of upd_same, rfl, _, _, rfl, _, _, rfl, _, rfl, _, _, _, _, rfl, rfl, (upd_ne nta).trans hb1, rfl, rfl, ?_⟩
          generalize hH2 : upd (upd H t _) a (.lst _) = H2
          have hb2 : H2 a = some (.lst [.ref c, .int ((b.pos : Int) + 1), .int b.big, .int b.seed, .int (b.many + 1)]) := by rw [← hH2]; exact upd_same
          have hs2 : ∀ x, x ≠ a → H x ≠ none → H2 x = H x := fun x hx hn => by rw [← hH2, upd_ne hx, upd_ne fun e => hn (by rw [e]; exact ht)]
          have he : b.step = { cells := b.cells, pos := b.pos + 1, big := if (10 : Int) ^ 18 ≤ b.cells.getD b.pos 0 then b.cells.getD b.pos 0 else b.big, seed := (b.seed * 36973 + b.cells.getD b.pos 0 % 2147483423 * 42767 + 83) % 2147483497, many := b.many + 1 } := by
            unfold Bag.step
            rw [if_pos ⟨hbig, hlt⟩]
          -- the seed
          have key : ∀ (Hx : Hp) (g : Int), Hx a = some (.lst [.ref c, .int ((b.pos : Int) + 1), .int g, .int b.seed, .int (b.many + 1)]) → (∀ x, x ≠ a → H x ≠ none → Hx x = H x) → g = b.step.big →
              ∃ y, y = (b.seed * 36973 + b.cells.getD b.pos 0 % 2147483423 * 42767 + 83) % 2147483497 ∧ ∀ o, D.nx [some (.ref a), some (.int k), o, none, none] (upd Hx a (.lst [.ref c, .int ((b.pos : Int) + 1), .int g, .int y, .int (b.many + 1)])) := fun Hx g hx hs hg => by
            refine ⟨_, rfl, fun o => kk _ o (fun x h1 h2 => (upd_ne h1).trans (hs x h1 h2)) (upd_same.trans ?_)⟩
            rw [hg, he]
            rfl
          have mul1 : CMul b.seed 36973 := .inr ⟨by decide, by decide⟩
          have mul2 : CMul (b.cells.getD b.pos 0 % 2147483423) 42767 := .inr ⟨by decide, by decide⟩
          refine ⟨_, rfl, _, _, rfl, rfl, ⟨by decide, by decide, by decide⟩, _, _, rfl, rfl, _, rfl, ?_⟩
          refine ite2 (fun hge => ?_) (fun hge => ?_)
          · have hge : (10 : Int) ^ 18 ≤ b.cells.getD b.pos 0 := of_decide_eq_true hge
            refine ⟨_, rfl, _, rfl, _, _, _, _, rfl, rfl, hb2, rfl, ?_⟩
            generalize hH3 : upd H2 a (.lst _) = H3
            have hb3 : H3 a = some (.lst [.ref c, .int ((b.pos : Int) + 1), .int (b.cells.getD b.pos 0), .int b.seed, .int (b.many + 1)]) := by rw [← hH3]; exact upd_same
            obtain ⟨y, hy, fin⟩ := key H3 _ hb3 (fun x h1 h2 => by rw [← hH3, upd_ne h1]; exact hs2 x h1 h2) (by rw [he]; exact (if_pos hge).symm)
            subst hy
            refine ⟨_, rfl, _, _, _, _, rfl, rfl, SqL.of hb3, rfl, _, _, rfl, rfl, mul1, _, rfl, .inl ⟨_, rfl, _, _, rfl, rfl, (by show (0 : Int) < 2147483423; decide), _, _, rfl, rfl, mul2, _, _, rfl, rfl, _, _, rfl, rfl, .inl ⟨_, rfl, _, _, rfl, rfl, (by show (0 : Int) < 2147483497; decide), _, rfl, _, _, _, _, rfl, rfl, hb3, rfl, ?_⟩⟩⟩
            exact fin _
          · have hge : ¬ (10 : Int) ^ 18 ≤ b.cells.getD b.pos 0 := fun h => hge (decide_eq_true h)
            obtain ⟨y, hy, fin⟩ := key H2 b.big hb2 hs2 (by rw [he]; exact (if_neg hge).symm)
            subst hy
            refine ⟨_, rfl, _, _, _, _, rfl, rfl, SqL.of hb2, rfl, _, _, rfl, rfl, mul1, _, rfl, .inl ⟨_, rfl, _, _, rfl, rfl, (by show (0 : Int) < 2147483423; decide), _, _, rfl, rfl, mul2, _, _, rfl, rfl, _, _, rfl, rfl, .inl ⟨_, rfl, _, _, rfl, rfl, (by show (0 : Int) < 2147483497; decide), _, rfl, _, _, _, _, rfl, rfl, hb2, rfl, ?_⟩⟩⟩
            exact fin _
        · refine kk H none (fun _ _ _ => rfl) ?_
          have : b.step = { b with many := b.many + 1 } := by
            unfold Bag.step
            rw [if_neg fun h => ?_]
            have := h.2
            rw [← hcl] at hlt
            simp at hlt
            omega
          rw [this]
          exact hb1
      · rw [dec_int1 hbig]
        refine iteF (kk H none (fun _ _ _ => rfl) ?_)
        have : b.step = { b with many := b.many + 1 } := by unfold Bag.step; rw [if_neg fun h => hbig h.1]
        rw [this]
        exact hb1
    case give =>
      rintro D σ H ⟨o, b, rfl, hb, hok, hk0, hk1, hcl, kk⟩
      refine ⟨_, rfl, _, _, _, _, rfl, rfl, SqL.of hb, rfl, _, _, rfl, rfl, _, rfl, ?_⟩
      refine ite2 (fun hg => ?_) (fun hg => ?_)
      · have hg : 0 < b.big := of_decide_eq_true hg
        have he : b.give k = (b.big % k, { b with big := b.big / k }) := by unfold Bag.give; rw [if_pos hg]
        refine ⟨_, rfl, _, _, _, _, rfl, rfl, SqL.of hb, rfl, .inl ⟨_, rfl, _, rfl, _, _, rfl, rfl, hk0, _, rfl, _, _, _, _, rfl, rfl, SqL.of hb, rfl, _, rfl, _, _, rfl, rfl, ⟨hk0, hk1⟩, ?_⟩⟩
        refine ⟨(show 2 ≤ sizeLine from LINE_le (by decide)), fun t ht => ?_⟩
        have nta : a ≠ t := ne_of_none hb ht
        refine ⟨_, _, rfl, SqT.of upd_same, rfl, _, _, rfl, _, _, rfl, _, rfl, _, _, _, _, rfl, rfl, (upd_ne nta).trans hb, rfl, rfl, _, rfl, ?_⟩
        have := kk (upd (upd H t (.tup [.int (b.big % k), .int (b.big / k)])) a (.lst [.ref c, .int b.pos, .int (b.big / k), .int b.seed, .int b.many])) (fun x h1 h2 => by rw [upd_ne h1, upd_ne fun e => h2 (by rw [e]; exact ht)]) (by rw [he]; exact upd_same)
        rw [he] at this
        exact this
      · have hg : ¬ 0 < b.big := fun h => hg (decide_eq_true h)
        have he : b.give k = ((b.next / 97 + b.next % 7883 * 67) % k, { b with seed := b.next }) := by unfold Bag.give; rw [if_neg hg]
        refine ⟨_, rfl, _, _, _, _, rfl, rfl, SqL.of hb, rfl, ?_⟩
        have hsd := hok
        have pw : CPow b.seed 3 := ⟨by decide, by decide, by have := hsd.1; have := hsd.2.1; omega⟩
        have mul1 : CMul b.seed 39119 := .inr ⟨by decide, by decide⟩
        have mul2 : CMul b.many 1299709 := .inr ⟨by decide, by decide⟩
        refine ⟨_, rfl, _, _, rfl, rfl, pw, _, rfl, _, _, rfl, rfl, mul1, _, _, rfl, rfl, _, rfl, _, _, _, _, rfl, rfl, SqL.of hb, rfl, _, _, rfl, rfl, mul2, _, _, rfl, rfl, _, _, rfl, rfl, .inl ⟨_, rfl, _, _, rfl, rfl, (by show (0 : Int) < 2147483497; decide), _, rfl, _, _, _, _, rfl, rfl, hb, rfl, ?_⟩⟩
        generalize hH2 : upd H a (.lst _) = H2
        have hb2 : H2 a = some (.lst [.ref c, .int b.pos, .int b.big, .int b.next, .int b.many]) := by rw [← hH2]; exact upd_same
        have hs2 : ∀ x, x ≠ a → H x ≠ none → H2 x = H x := fun x hx hn => by rw [← hH2, upd_ne hx]
        have mul3 : CMul (b.next % 7883) 67 := .inr ⟨by decide, by decide⟩
        refine ⟨_, rfl, _, _, _, _, rfl, rfl, SqL.of hb2, rfl, _, _, rfl, rfl, ⟨by decide, by decide⟩, _, rfl, _, _, _, _, rfl, rfl, SqL.of hb2, rfl, .inl ⟨_, rfl, _, _, rfl, rfl, (by show (0 : Int) < 7883; decide), _, _, rfl, rfl, mul3, _, _, rfl, rfl, .inl ⟨_, rfl, _, rfl, _, _, rfl, rfl, hk0, ?_⟩⟩⟩
        have := kk H2 hs2 (by rw [he]; exact hb2)
        rw [he] at this
        exact this
theorem ok_pull {f : Addr} {fd : FuncData} (cad : Str → Option Addr) (F : Fun K "_law_pull" "_law_pull" sPull f fd) (zl : mg "len" = none) (zi : mg "int" = none) : FnOk P w K mg base (L2.CX P w) 1 f fd ["_law_bag", "_law_sides"] (spOf ⟨K, cad⟩ 2 pullFn) :=
  (ok_pull0 F zl zi).imp fun vs H Q E h => pull_spec vs H Q E h
theorem scDraws : FnScope ["_law_script", "_law_seed", "_law_cell"] ["_law_script"] (defScope sDraws) := ⟨rfl, rfl, rfl, by decide +kernel, rfl, by decide +kernel, by decide +kernel⟩
def spDraws (K : PySem.W.Frag) : Sp := fun vs H Q _ => ∃ (a : Addr) (ns : List Int), vs = [.ref a] ∧ SqL K H a (ns.map V.int) ∧ ns.length ≤ 1000 ∧
  ∀ p c H', H p = none → H c = none → (∀ x, H x ≠ none → H' x = H x) → BagAt H' p c ⟨ns.take 63, 0, 0, drawSeed (ns.take 63), 0⟩ → Q (.ref p) H'
theorem cut63 (ns : List Int) : cutV (ns.map V.int) none (some 63) = (ns.take 63).map V.int := by
  unfold cutV
  rw [HT.sIx_none, List.drop_zero, Nat.sub_zero, List.map_take]
  have : HT.sIx (ns.map V.int).length (ns.map V.int).length (some (63 : Int)) = min 63 (ns.map V.int).length := HT.sIx_nat _ _ 63
  rw [this]
  exact (List.take_eq_take_min).symm
theorem ok_draws0 {f : Addr} {fd : FuncData} (F : Fun K "_law_draws" "_law_draws" sDraws f fd) (zl : mg "list" = none) (zi : mg "int" = none) : FnOk P w K mg base (L2.CX P w) 1 f fd ["_law_script"] (spDraws K) := by
  refine F.okX scDraws (fun vs H Q E h => ?_) (fun cdv A outer s H vs Q E hr h => ?_)
  · obtain ⟨a, ns, rfl, _⟩ := h
    rfl
  · obtain ⟨a, ns, rfl, hS, hlen, kk⟩ := h
    refine ⟨_, pss_cons (ps_set (i := 1) scDraws.nd rfl (Or.inl rfl) pe_int)
      (pss_cons (ps_for (passes_of rfl) rfl (pi_list (pe_slice sl_list (pv 0) po_none (po_some pe_int))) (pg_name (i := 2) scDraws.nd rfl (Or.inl rfl))
        (pss_one (ps_set (i := 1) scDraws.nd rfl (Or.inl rfl) (pe_op op_mod (pe_callTy call_int1 (by rfl) zi (by decide +kernel) (pa_cons (pe_op op_add (pe_op op_add (pe_op op_mul (pv 1) pe_int) (pe_op op_mod (pe_callTy call_int1 (by rfl) zi (by decide +kernel) (pa_cons (pv 2) pa_nil)) pe_int)) pe_int) pa_nil)) pe_int))))
      (pss_one (ps_ret (pe_lst (pa_cons (pe_callTy call_list_of (by rfl) zl (by decide +kernel) (pa_cons (pe_slice sl_list (pv 0) po_none (po_some pe_int)) pa_nil)) (pa_cons pe_int (pa_cons pe_int (pa_cons (pv 1) (pa_cons pe_int pa_nil))))))))), ?_⟩
    refine ⟨_, rfl, 63, rfl, a, _, rfl, hS, fun q hq => ?_⟩
    rw [cut63]
    generalize hH1 : upd H q _ = H1
    have hq1 : H1 q = some (.lst ((ns.take 63).map V.int)) := by rw [← hH1]; exact upd_same
    have hs1 : ∀ x, H x ≠ none → H1 x = H x := fun x hx => by rw [← hH1]; exact upd_ne fun e => hx (by rw [e]; exact hq)
    have same1 : Same H H1 := fun b o e => by rw [hs1 b (by rw [e]; simp)]; exact e
    refine ⟨q, rfl, ⟨_, SqL.of hq1⟩, for_list (K := K) (a := q) (xs := (ns.take 63).map V.int) (fun i σ H2 => H2 = H1 ∧ ∃ o, σ = [some (.ref a), some (.int (((ns.take 63).take i).foldl seedOf 5793)), o]) ⟨rfl, none, rfl⟩ (fun i σ H2 _ h => by rw [h.1]; exact SqL.of hq1) ?_ ?_⟩
    · rintro i y σ H2 hi ⟨rfl, o, rfl⟩
      have hil : i < (ns.take 63).length := by
        have := (List.getElem?_eq_some_iff.mp hi).1
        simpa using this
      have hy : y = .int ((ns.take 63)[i]) := by
        rw [List.getElem?_map, List.getElem?_eq_getElem hil] at hi
        exact (Option.some.inj hi).symm
      subst hy
      have mul1 : CMul (((ns.take 63).take i).foldl seedOf 5793) 47981 := .inr ⟨by decide, by decide⟩
      refine ⟨_, rfl, _, _, rfl, rfl, mul1, _, rfl, .inl ⟨_, rfl, _, _, rfl, rfl, (by show (0 : Int) < 2147483423; decide), _, _, rfl, rfl, _, _, rfl, rfl, .inl ⟨_, rfl, _, _, rfl, rfl, (by show (0 : Int) < 2147483497; decide), rfl, some (.int ((ns.take 63)[i])), ?_⟩⟩⟩
      rw [List.take_succ_eq_append_getElem hil, List.foldl_append]
      rfl
    · rintro σ H2 ⟨rfl, o, rfl⟩
      rw [List.length_map, List.take_length]
      refine ⟨_, rfl, 63, rfl, a, _, rfl, same1.seq hS, fun q2 hq2 => ⟨q2, _, rfl, .inl (SqL.of upd_same), fun c hc => ?_⟩⟩
      rw [cut63] at hc ⊢
      refine ⟨_, rfl, (show 5 ≤ sizeLine from LINE_le (by decide)), fun p hp => ?_⟩
      have hcp : p ≠ c := fun e => by rw [e, upd_same] at hp; cases hp
      have hc1 : H2 c = none := by
        by_cases e : c = q2
        · rw [e]; exact hq2
        · rw [upd_ne e] at hc; exact hc
      have hp2 : H2 p = none := by
        rw [upd_ne hcp] at hp
        by_cases e : p = q2
        · rw [e]; exact hq2
        · rw [upd_ne e] at hp; exact hp
      have back : ∀ x, H2 x = none → H x = none := fun x e => Classical.byContradiction fun z => by rw [hs1 x z] at e; exact z e
      refine kk p c _ (back p hp2) (back c hc1) (fun x hx => ?_) ⟨upd_same, ?_, hcp⟩
      · have e2 := hs1 x hx
        have n2 : H2 x ≠ none := by rw [e2]; exact hx
        rw [upd_ne fun e => n2 (by rw [e]; exact hp2), upd_ne fun e => n2 (by rw [e]; exact hc1), upd_ne fun e => n2 (by rw [e]; exact hq2)]
        exact e2
      · rw [upd_ne hcp.symm]
        exact upd_same
theorem draws_spec {cad : Str → Option Addr} (vs : List V) (H : Hp) (Q : VK) (E : XK) (h : spOf ⟨K, cad⟩ 1 drawsFn vs H Q E) : spDraws K vs H Q E := by
  obtain ⟨hl, ds, G, S, r, sat, ns, h⟩ := h
  have hd : ∃ xs is, ds = [.lst xs] ∧ intsOf xs = some is ∧ is.length ≤ 1000 := by
    unfold drawsFn at h
    split at h
    · rename_i e
      split at e
      · split at e
        · split at e
          · rename_i h1 h2
            exact ⟨_, _, rfl, h1, h2⟩
          · cases e
        · cases e
      · cases e
    · rename_i e
      split at e
      · split at e
        · split at e <;> cases e
        · cases e
      · cases e
    · exact h.elim
  obtain ⟨xs, is, rfl, h1, h2⟩ := hd
  simp only [drawsFn, h1, h2, if_true] at h
  cases r with
  | cons r1 r2 =>
    cases r2
    cases r1 with
    | lst hf hr =>
      have := intsOf_reps hr h1
      subst this
      refine ⟨_, is, rfl, hf.seq, h2, fun p c H' hp hc hs hB => ?_⟩
      have op := sat.fr p hp
      have oc := sat.fr c hc
      have nf : ∀ x, G.O x ≠ .free → H x ≠ none := fun x hx e => hx (sat.fr x e)
      let G' : Gh := ⟨fun x => if x = p then .obj S.objs.length else if x = c then .sub S.objs.length cellsStr else G.O x, G.L ++ [p]⟩
      have oG : ∀ x, G.O x ≠ .free → G'.O x = G.O x := fun x hx => by
        show (if x = p then _ else if x = c then _ else _) = _
        rw [if_neg fun e => hx (by rw [e]; exact op), if_neg fun e => hx (by rw [e]; exact oc)]
      have kp : ∀ n, KeepN n G H G' H' := fun n => ⟨⟨[p], rfl⟩, fun x hx => by
        have : G.O x ≠ .free := by rcases hx with h | h | ⟨f, h⟩ <;> rw [h] <;> simp
        exact ⟨oG x this, hs x (nf x this)⟩⟩
      refine h (.ref p) G' H' ⟨⟨fun x hx => ⟨(oG x (by rw [hx]; simp)).trans hx, hs x (nf x (by rw [hx]; simp))⟩, [p], rfl⟩, fun x hx => ⟨(oG x (by rw [hx]; simp)).trans hx, hs x (nf x (by rw [hx]; simp))⟩⟩ ⟨fun x hx => ?_, ?_, fun n o ho => ?_⟩ (fun x i => ?_) (.loc ?_)
      · have n1 : x ≠ p := fun e => by rw [e, hB.ls] at hx; cases hx
        have n2 : x ≠ c := fun e => by rw [e, hB.cs] at hx; cases hx
        show (if x = p then _ else if x = c then _ else _) = _
        rw [if_neg n1, if_neg n2]
        exact sat.fr x (Classical.byContradiction fun z => z (by rw [← hs x z]; exact hx))
      · show (G.L ++ [p]).length = (S.objs ++ [_]).length
        rw [List.length_append, List.length_append, sat.ll]
        rfl
      · have ho : (S.objs ++ [Ob.bag ⟨is.take 63, 0, 0, drawSeed (is.take 63), 0⟩])[n]? = some o := ho
        by_cases hn : n < S.objs.length
        · rw [List.getElem?_append_left hn] at ho
          obtain ⟨a, ha, q⟩ := sat.ob n o ho
          exact ⟨a, by show (G.L ++ [p])[n]? = _; rw [List.getElem?_append_left (by rw [sat.ll]; exact hn)]; exact ha, q.keep (kp n)⟩
        · have hn' : n = S.objs.length := by
            have := (List.getElem?_eq_some_iff.mp ho).1
            simp at this
            omega
          subst hn'
          rw [List.getElem?_append_right (Nat.le_refl _), Nat.sub_self] at ho
          cases ho
          refine ⟨p, by show (G.L ++ [p])[_]? = _; rw [← sat.ll, List.getElem?_append_right (Nat.le_refl _), Nat.sub_self]; rfl, if_pos rfl, c, hB.ls, ?_, hB.cs, (drawSeed_ok _).1, (drawSeed_ok _).2, ?_⟩
          · show (if c = p then _ else if c = c then _ else _) = _
            rw [if_neg hB.ne.symm, if_pos rfl]
          · show (is.take 63).length ≤ 1000
            rw [List.length_take]
            omega
      · show (if x = p then _ else if x = c then _ else _) ≠ _
        split
        · simp
        · split
          · simp
          · exact ns x i
      · show (G.L ++ [p])[_]? = _
        rw [← sat.ll, List.getElem?_append_right (Nat.le_refl _), Nat.sub_self]
        rfl
theorem ok_draws {f : Addr} {fd : FuncData} (cad : Str → Option Addr) (F : Fun K "_law_draws" "_law_draws" sDraws f fd) (zl : mg "list" = none) (zi : mg "int" = none) : FnOk P w K mg base (L2.CX P w) 1 f fd ["_law_script"] (spOf ⟨K, cad⟩ 1 drawsFn) :=
  (ok_draws0 F zl zi).imp fun vs H Q E h => draws_spec vs H Q E h
end
end Sh


/-! ShPure: reckoning with the small language: rules for simp, loops, texts, draws. -/
namespace Sh
open PySem PySem.Spec PyProof.Rows L2

/-! ### simp goes into what is reckoned first alone -/
theorem Res.bind_congr {α β : Type} {r r' : Res α} {f : α → Rho → Mem → Res β} (h : r = r') : r.bind f = r'.bind f := by rw [h]
theorem Res.map_congr {α β : Type} {r r' : Res α} {f : α → β} (h : r = r') : r.map f = r'.map f := by rw [h]
def SRes.seq (r : SRes) (f : Rho → Mem → SRes) : SRes := match r with
  | .nx ρ S => f ρ S
  | r => r
theorem SRes.seq_congr {r r' : SRes} {f : Rho → Mem → SRes} (h : r = r') : r.seq f = r'.seq f := by rw [h]
theorem thenS_congr {α : Type} {r r' : Res α} {f : α → Rho → Mem → SRes} (h : r = r') : thenS r f = thenS r' f := by rw [h]
@[simp] theorem seq_nx (ρ : Rho) (S : Mem) (f : Rho → Mem → SRes) : (SRes.nx ρ S).seq f = f ρ S := rfl
@[simp] theorem seq_rt (r : RV) (S : Mem) (f : Rho → Mem → SRes) : (SRes.rt r S).seq f = .rt r S := rfl
@[simp] theorem seq_exc (x : Err) (ρ : Rho) (S : Mem) (f : Rho → Mem → SRes) : (SRes.exc x ρ S).seq f = .exc x ρ S := rfl
@[simp] theorem thenS_ok {α : Type} (a : α) (ρ : Rho) (S : Mem) (f : α → Rho → Mem → SRes) : thenS (.ok a ρ S) f = f a ρ S := rfl
@[simp] theorem thenS_exc {α : Type} (x : Err) (ρ : Rho) (S : Mem) (f : α → Rho → Mem → SRes) : thenS (.exc x ρ S) f = .exc x ρ S := rfl
section
variable {T : Tab}
theorem e_nil (ρ : Rho) (S : Mem) : denSs T .nil ρ S = .nx ρ S := by simp only [denSs]
theorem e_cons (s : LS) (ss : LSs) (ρ : Rho) (S : Mem) : denSs T (.cons s ss) ρ S = (denS T s ρ S).seq (denSs T ss) := by
  simp only [denSs]
  cases denS T s ρ S <;> rfl
end
/-- what a def answers -/
def SRes.out : SRes → FRes
  | .nx _ S => .ok (.fz .non) S
  | .rt r S => .ok r S
  | .exc x _ S => .exc x S
  | _ => .bad
@[simp] theorem out_nx (ρ : Rho) (S : Mem) : (SRes.nx ρ S).out = .ok (.fz .non) S := rfl
@[simp] theorem out_rt (r : RV) (S : Mem) : (SRes.rt r S).out = .ok r S := rfl
@[simp] theorem out_exc (x : Err) (ρ : Rho) (S : Mem) : (SRes.exc x ρ S).out = .exc x S := rfl
theorem e_def {T : Tab} {np n : Nat} {b : LSs} {ds : List D} {S : Mem} (ρ : Rho) (h : ds.length = np) (hr : ds.map (fun d => some (.fz d)) ++ List.replicate (n - np) none = ρ) : denDef T np n b ds S = (denSs T b ρ S).out := by
  subst hr
  unfold denDef
  rw [if_pos h, h]
  cases denSs T b (ds.map (fun d => some (.fz d)) ++ List.replicate (n - np) none) S <;> rfl
theorem def_len {T : Tab} {np n : Nat} {b : LSs} (ds : List D) (S : Mem) (h : denDef T np n b ds S ≠ .bad) : ds.length = np := by
  unfold denDef at h
  split at h
  · assumption
  · exact (h rfl).elim

/-! ### what an expression is, one row a form (simp is not to open the turns of a comprehension) -/
def lcBody (T : Tab) (cs : LEs) (elt : LE) (tg : Tg) (d : D) (ρ : Rho) (S : Mem) : Res (Option D) := (ofO (tg.put d ρ) ρ S).bind fun ρ' _ S => (denC T cs ρ' S).bind fun k ρ S => if k = true then (den T elt ρ S).bind fun y ρ S => .ok (some y.d) ρ S else .ok none ρ S
def lcRun (vs : List Nat) (f : D → Rho → Mem → Res (Option D)) (ρ : Rho) (ds : List D) (S : Mem) : Res RV := if noOwn ρ vs = false then .bad else (lcLoop vs f ds [] ρ S).bind fun acc ρ' S => .ok (.own acc) (backE ρ ρ' vs) S
section
variable {T : Tab}
theorem n_var (i : Nat) (ρ : Rho) (S : Mem) : den T (.var i) ρ S = rdV i ρ S := by simp only [den] <;> rfl
theorem n_non  (ρ : Rho) (S : Mem) : den T (.non) ρ S = .ok (.fz .non) ρ S := by simp only [den] <;> rfl
theorem n_bl (b : Bool) (ρ : Rho) (S : Mem) : den T (.bl b) ρ S = .ok (.fz (.bl b)) ρ S := by simp only [den] <;> rfl
theorem n_int (i : Int) (ρ : Rho) (S : Mem) : den T (.int i) ρ S = .ok (.fz (.int i)) ρ S := by simp only [den] <;> rfl
theorem n_str (x : Str) (ρ : Rho) (S : Mem) : den T (.str x) ρ S = .ok (.fz (.str x)) ρ S := by simp only [den] <;> rfl
theorem n_glob (x : Nat) (ρ : Rho) (S : Mem) : den T (.glob x) ρ S = (ofO (T.gl x) ρ S).map .fz := by simp only [den] <;> rfl
theorem n_bin (op : Operator) (a b : LE) (ρ : Rho) (S : Mem) : den T (.bin op a b) ρ S = (denB T a ρ S).bind fun x ρ S => (denB T b ρ S).bind fun y ρ S => ofO (opBin op x y) ρ S := by simp only [den] <;> rfl
theorem n_neg (a : LE) (ρ : Rho) (S : Mem) : den T (.neg a) ρ S = ((denB T a ρ S).bind fun x ρ S => match x with
    | .int i => .ok (.fz (.int (-i))) ρ S
    | _ => .bad) := by simp only [den] <;> rfl
theorem n_cmp (op : CmpOp) (a b : LE) (ρ : Rho) (S : Mem) : den T (.cmp op a b) ρ S = (denB T a ρ S).bind fun x ρ S => (denB T b ρ S).bind fun y ρ S => (ofO (opCmp op x y) ρ S).map fun k => .fz (.bl k) := by simp only [den] <;> rfl
theorem n_chn (op op2 : CmpOp) (a b c : LE) (ρ : Rho) (S : Mem) : den T (.chn op op2 a b c) ρ S = ((denB T a ρ S).bind fun x ρ S => (denB T b ρ S).bind fun y ρ S => (ofO (opCmp op x y) ρ S).bind fun k ρ S =>
      if k = true then (denB T c ρ S).bind fun z ρ S => (ofO (opCmp op2 y z) ρ S).map fun k => .fz (.bl k) else .ok (.fz (.bl false)) ρ S) := by simp only [den] <;> rfl
theorem n_and (a b : LE) (ρ : Rho) (S : Mem) : den T (.and a b) ρ S = (tstR (den T a ρ S)).bind fun k ρ S => if k = true then den T b ρ S else .ok (.fz (.bl false)) ρ S := by simp only [den] <;> rfl
theorem n_or (a b : LE) (ρ : Rho) (S : Mem) : den T (.or a b) ρ S = (tstR (den T a ρ S)).bind fun k ρ S => if k = true then .ok (.fz (.bl true)) ρ S else den T b ρ S := by simp only [den] <;> rfl
theorem n_not (a : LE) (ρ : Rho) (S : Mem) : den T (.not a) ρ S = (tstR (den T a ρ S)).bind fun k ρ S => .ok (.fz (.bl (!k))) ρ S := by simp only [den] <;> rfl
theorem n_ite (c a b : LE) (ρ : Rho) (S : Mem) : den T (.ite c a b) ρ S = (tstR (den T c ρ S)).bind fun k ρ S => if k = true then den T a ρ S else den T b ρ S := by simp only [den] <;> rfl
theorem n_tup (es : LEs) (ρ : Rho) (S : Mem) : den T (.tup es) ρ S = (denEs T es ρ S).bind fun ds ρ S => if ds.length ≤ LINE then .ok (.fz (.tup ds)) ρ S else .bad := by simp only [den] <;> rfl
theorem n_lst (es : LEs) (ρ : Rho) (S : Mem) : den T (.lst es) ρ S = (denEs T es ρ S).bind fun ds ρ S => if ds.length ≤ LINE then .ok (.own ds) ρ S else .bad := by simp only [den] <;> rfl
theorem n_rep (es : LEs) (k : LE) (ρ : Rho) (S : Mem) : den T (.rep es k) ρ S = (denEs T es ρ S).bind fun ds ρ S => (if ds.length ≤ LINE then .ok ds ρ S else .bad : Res (List D)).bind fun ds ρ S => (denB T k ρ S).bind fun y ρ S => ofO (opRep ds y) ρ S := by simp only [den] <;> rfl
theorem n_idx (a i : LE) (ρ : Rho) (S : Mem) : den T (.idx a i) ρ S = (denB T a ρ S).bind fun x ρ S => (denB T i ρ S).bind fun y ρ S => ofO (opIdx x y) ρ S := by simp only [den] <;> rfl
theorem n_slc (a : LE) (lo hi : LEo) (ρ : Rho) (S : Mem) : den T (.slc a lo hi) ρ S = (denB T a ρ S).bind fun x ρ S => (denO T lo ρ S).bind fun l ρ S => (denO T hi ρ S).bind fun u ρ S => ofO (opSlc x l u) ρ S := by simp only [den] <;> rfl
theorem n_call (f : Nat) (es : LEs) (ρ : Rho) (S : Mem) : den T (.call f es) ρ S = (match T.fn f with
    | some m => (denEs T es ρ S).bind fun ds ρ S => (m ds S).res ρ
    | none => .bad) := by simp only [den] <;> rfl
theorem n_callk (f n : Nat) (es : LEs) (ks : List Str) (kes : LEs) (ρ : Rho) (S : Mem) : den T (.callk f n es ks kes) ρ S = (match T.fnk f ks n with
    | some (m, perm) => (denEs T es ρ S).bind fun ds ρ S => (denEs T kes ρ S).bind fun zs ρ S => (ofO (if ds.length = n ∧ zs.length = ks.length then pick perm (ds ++ zs) else none) ρ S).bind fun xs ρ S => (m xs S).res ρ
    | none => .bad) := by simp only [den] <;> rfl
theorem n_bcl (b : Blt) (es : LEs) (ρ : Rho) (S : Mem) : den T (.bcl b es) ρ S = (denBs T es ρ S).bind fun ds ρ S => ofO (opBcl b ds) ρ S := by simp only [den] <;> rfl
theorem n_isi (a : LE) (tys : List String) (ρ : Rho) (S : Mem) : den T (.isi a tys) ρ S = (denB T a ρ S).bind fun x ρ S => (ofO (isTys x tys) ρ S).map fun k => .fz (.bl k) := by simp only [den] <;> rfl
theorem n_join (s a : LE) (ρ : Rho) (S : Mem) : den T (.join s a) ρ S = (denB T s ρ S).bind fun x ρ S => (denB T a ρ S).bind fun y ρ S => ofO (opJoin x y) ρ S := by simp only [den] <;> rfl
theorem n_lc (vs : List Nat) (elt : LE) (tg : Tg) (it : LI) (cs : LEs) (ρ : Rho) (S : Mem) : den T (.lc vs elt tg it cs) ρ S = (denI T it ρ S).bind fun ds ρ S => lcRun vs (lcBody T cs elt tg) ρ ds S := by
  simp only [den]
  rfl
end
/-! ### tables -/
def Tab.emp : Tab := ⟨fun _ => none, fun _ _ _ => none, fun _ => none⟩
def Tab.add (T : Tab) (i : Nat) (m : Fn) : Tab := { T with fn := fun j => if j = i then some m else T.fn j }
def Tab.addG (T : Tab) (i : Nat) (d : D) : Tab := { T with gl := fun j => if j = i then some d else T.gl j }
def Tab.addK (T : Tab) (i : Nat) (ks : List Str) (n : Nat) (m : Fn) (perm : List Nat) : Tab := { T with fnk := fun j ls k => if j = i ∧ ls = ks ∧ k = n then some (m, perm) else T.fnk j ls k }
@[simp] theorem add_fn (T : Tab) (i : Nat) (m : Fn) (j : Nat) : (T.add i m).fn j = if j = i then some m else T.fn j := rfl
@[simp] theorem add_fnk (T : Tab) (i : Nat) (m : Fn) (j : Nat) (ls : List Str) (k : Nat) : (T.add i m).fnk j ls k = T.fnk j ls k := rfl
@[simp] theorem add_gl (T : Tab) (i : Nat) (m : Fn) (j : Nat) : (T.add i m).gl j = T.gl j := rfl
@[simp] theorem addG_fn (T : Tab) (i : Nat) (d : D) (j : Nat) : (T.addG i d).fn j = T.fn j := rfl
@[simp] theorem addG_fnk (T : Tab) (i : Nat) (d : D) (j : Nat) (ls : List Str) (k : Nat) : (T.addG i d).fnk j ls k = T.fnk j ls k := rfl
@[simp] theorem addG_gl (T : Tab) (i : Nat) (d : D) (j : Nat) : (T.addG i d).gl j = if j = i then some d else T.gl j := rfl
@[simp] theorem addK_fn (T : Tab) (i : Nat) (ks : List Str) (n : Nat) (m : Fn) (p : List Nat) (j : Nat) : (T.addK i ks n m p).fn j = T.fn j := rfl
@[simp] theorem addK_gl (T : Tab) (i : Nat) (ks : List Str) (n : Nat) (m : Fn) (p : List Nat) (j : Nat) : (T.addK i ks n m p).gl j = T.gl j := rfl
@[simp] theorem addK_fnk (T : Tab) (i : Nat) (ks : List Str) (n : Nat) (m : Fn) (p : List Nat) (j : Nat) (ls : List Str) (k : Nat) : (T.addK i ks n m p).fnk j ls k = if j = i ∧ ls = ks ∧ k = n then some (m, p) else T.fnk j ls k := rfl
/-- a def that the table may name -/
structure Ent (P : Program) (w : World) (K : PySem.W.Frag) (mg : Str → Option Value) (base : Heap) (cad : Str → Option Addr) (n : Nat) (x : Str) (ps : List Str) (m : Fn) : Prop where
  ex : ∃ a fd, mg x = some (.ref a) ∧ PySem.W.keepIn K (.ref a) = true ∧ FnOk P w K mg base (L2.CX P w) n a fd ps (spOf ⟨K, cad⟩ ps.length m) ∧ Binds K fd ps []
  len : ∀ ds S, m ds S ≠ .bad → ds.length = ps.length
/-- .. and by its parameters' names -/
structure EntK (P : Program) (w : World) (K : PySem.W.Frag) (mg : Str → Option Value) (base : Heap) (cad : Str → Option Addr) (n : Nat) (x : Str) (ps ks : List Str) (n' : Nat) (m : Fn) (perm : List Nat) : Prop where
  ex : ∃ a fd, mg x = some (.ref a) ∧ PySem.W.keepIn K (.ref a) = true ∧ FnOk P w K mg base (L2.CX P w) n a fd ps (spOf ⟨K, cad⟩ ps.length m) ∧
    (∀ (s : Shared) (us ws xs : List Value), K.In s.heap → us.length = n' → ws.length = ks.length → pick perm (us ++ ws) = some xs → xs.length = ps.length → BindsTo s fd ⟨us, ks.zip ws⟩ (ps.zip xs))
  len : ∀ ds S, m ds S ≠ .bad → ds.length = ps.length
section
variable {P : Program} {w : World} {K : PySem.W.Frag} {mg : Str → Option Value} {base : Heap} {cad : Str → Option Addr} {F : List Str} {T : Tab} {n n2 : Nat}
theorem Ent.mono {x : Str} {ps : List Str} {m : Fn} (h : Ent P w K mg base cad n x ps m) (hn : n ≤ n2) : Ent P w K mg base cad n2 x ps m :=
  let ⟨a, fd, h1, h2, h3, h4⟩ := h.ex
  ⟨⟨a, fd, h1, h2, h3.mono hn, h4⟩, h.len⟩
theorem EntK.mono {x : Str} {ps ks : List Str} {n' : Nat} {m : Fn} {perm : List Nat} (h : EntK P w K mg base cad n x ps ks n' m perm) (hn : n ≤ n2) : EntK P w K mg base cad n2 x ps ks n' m perm :=
  let ⟨a, fd, h1, h2, h3, h4⟩ := h.ex
  ⟨⟨a, fd, h1, h2, h3.mono hn, h4⟩, h.len⟩
theorem TabOk.mono (h : TabOk P w K mg base cad F T n) (hn : n ≤ n2) : TabOk P w K mg base cad F T n2 :=
  ⟨fun i m h1 f h2 => let ⟨a, fd, ps, q1, q2, q3, q4⟩ := h.fn i m h1 f h2; ⟨a, fd, ps, q1, q2, q3.mono hn, q4⟩,
    fun i ks n' m perm h1 f h2 => let ⟨a, fd, ps, q1, q2, q3, q4⟩ := h.fnk i ks n' m perm h1 f h2; ⟨a, fd, ps, q1, q2, q3.mono hn, q4⟩, h.gl, h.bl⟩
theorem TabOk.emp (h : ∀ b, b ∈ bltNames → mg b = none) : TabOk P w K mg base cad F .emp n := ⟨fun _ _ h => (by cases h), fun _ _ _ _ _ h => (by cases h), fun _ _ h => (by cases h), h⟩
theorem TabOk.add {i : Nat} {x : Str} {ps : List Str} {m : Fn} (h : TabOk P w K mg base cad F T n) (hi : F[i]? = some x) (e : Ent P w K mg base cad n x ps m) : TabOk P w K mg base cad F (T.add i m) n :=
  ⟨fun j m' h1 f h2 => by
    simp only [add_fn] at h1
    split at h1
    · rename_i e1
      subst e1
      cases h1
      rw [hi] at h2
      cases h2
      obtain ⟨a, fd, q1, q2, q3, q4⟩ := e.ex
      exact ⟨a, fd, ps, q1, q2, q3, q4, e.len⟩
    · exact h.fn j m' h1 f h2, h.fnk, h.gl, h.bl⟩
theorem TabOk.addK {i : Nat} {x : Str} {ps ks : List Str} {n' : Nat} {m : Fn} {perm : List Nat} (h : TabOk P w K mg base cad F T n) (hi : F[i]? = some x) (e : EntK P w K mg base cad n x ps ks n' m perm) : TabOk P w K mg base cad F (T.addK i ks n' m perm) n :=
  ⟨h.fn, fun j ls k m' p' h1 f h2 => by
    simp only [addK_fnk] at h1
    split at h1
    · rename_i e1
      obtain ⟨rfl, rfl, rfl⟩ := e1
      cases h1
      rw [hi] at h2
      cases h2
      obtain ⟨a, fd, q1, q2, q3, q4⟩ := e.ex
      exact ⟨a, fd, ps, q1, q2, q3, q4, e.len⟩
    · exact h.fnk j ls k m' p' h1 f h2, h.gl, h.bl⟩
theorem TabOk.addG {i : Nat} {x : Str} {d : D} {u : Value} {v : V} (h : TabOk P w K mg base cad F T n) (hi : F[i]? = some x) (hu : mg x = some u) (hv : RelV v u) (hr : ∀ G H, Rep ⟨K, cad⟩ G H v d) : TabOk P w K mg base cad F (T.addG i d) n :=
  ⟨h.fn, h.fnk, fun j d' h1 y h2 => by
    simp only [addG_gl] at h1
    split at h1
    · rename_i e1
      subst e1
      cases h1
      rw [hi] at h2
      cases h2
      exact ⟨u, v, hu, hv, hr⟩
    · exact h.gl j d' h1 y h2, h.bl⟩
theorem Ent.of_fn {x : Str} {ps : List Str} {m : Fn} {a : Addr} {fd : FuncData} (hm : mg x = some (.ref a)) (hk : PySem.W.keepIn K (.ref a) = true) (hf : FnOk P w K mg base (L2.CX P w) n a fd ps (spOf ⟨K, cad⟩ ps.length m)) (hb : Binds K fd ps []) (hl : ∀ ds S, m ds S ≠ .bad → ds.length = ps.length) : Ent P w K mg base cad n x ps m := ⟨⟨a, fd, hm, hk, hf, hb⟩, hl⟩
/-- a def of the text, as an entry -/
theorem Ent.of_def {k : Nat} {x qual : Str} {st : Stmt} {f : Addr} {fd : FuncData} {N ps : List Str} {b : LSs} (Fu : Fun K x qual st f fd) (S : FnScope N ps (defScope st)) (hc : compSs k ⟨F, N, defScope st, fun _ => true⟩ (defBody st) = some b) (tab : TabOk P w K mg base cad F T n)
    (hm : mg x = some (.ref f)) (hb : Binds K fd ps []) : Ent P w K mg base cad (n + 1) x ps (denDef T ps.length N.length b) :=
  .of_fn hm Fu.kp (def_ok Fu S hc tab) hb def_len
/-- nothing is promised -/
theorem Ent.none {x : Str} {ps : List Str} {f : Addr} {fd : FuncData} (hm : mg x = some (.ref f)) (hk : PySem.W.keepIn K (.ref f) = true) (hb : Binds K fd ps []) : Ent P w K mg base cad n x ps (fun _ _ => .bad) :=
  .of_fn hm hk ⟨fun vs H Q E h => h.1, fun A outer s H args us vs Q E hr he hb hv h => by
    obtain ⟨_, ds, G, S, _, _, _, h⟩ := h
    exact h.elim⟩ hb fun _ _ h => (h rfl).elim
end

/-! ### the turns of a comprehension -/
/-- every item gives one item -/
theorem lc_all {vs : List Nat} {f : D → Rho → Mem → Res (Option D)} {I : Rho → Mem → Prop} {R : D → D → Prop} : ∀ (ds : List D) (acc : List D) (ρ : Rho) (S : Mem), I ρ S →
    (∀ d ∈ ds, ∀ ρ S, I ρ S → ∃ y ρ' S', f d (wipeE ρ vs) S = .ok (some y) ρ' S' ∧ I ρ' S' ∧ R d y) → acc.length + ds.length ≤ LINE →
    ∃ (ys : List D) (ρ' : Rho) (S' : Mem), lcLoop vs f ds acc ρ S = .ok (acc ++ ys) ρ' S' ∧ I ρ' S' ∧ ys.length = ds.length ∧ ∀ (i : Nat) (d y : D), ds[i]? = some d → ys[i]? = some y → R d y
  | [], acc, ρ, S, hI, _, _ => ⟨[], ρ, S, by rw [List.append_nil]; rfl, hI, rfl, fun i d y h => by simp at h⟩
  | d :: ds, acc, ρ, S, hI, hf, hl => by
    rw [List.length_cons] at hl
    obtain ⟨y, ρ1, S1, e1, h1, r1⟩ := hf d List.mem_cons_self ρ S hI
    obtain ⟨ys, ρ2, S2, e2, h2, h3, h4⟩ := lc_all ds (acc ++ [y]) ρ1 S1 h1 (fun x hx => hf x (List.mem_cons_of_mem _ hx)) (by rw [List.length_append]; simp; omega)
    refine ⟨y :: ys, ρ2, S2, ?_, h2, by simp [h3], fun i a b ha hb => ?_⟩
    · unfold lcLoop
      simp only [e1, noX_ok, Res.bind_ok]
      rw [if_pos (by omega), e2, List.append_assoc]
      rfl
    · cases i with
      | zero =>
        simp at ha hb
        subst ha hb
        exact r1
      | succ i => exact h4 i a b (by simpa using ha) (by simpa using hb)
/-- .. by a function; nothing else changes -/
theorem lc_map {vs : List Nat} {f : D → Rho → Mem → Res (Option D)} {I : Rho → Prop} {g : D → D} {S : Mem} : ∀ (ds : List D) (acc : List D) (ρ : Rho), I ρ →
    (∀ d ∈ ds, ∀ ρ, I ρ → ∃ ρ', f d (wipeE ρ vs) S = .ok (some (g d)) ρ' S ∧ I ρ') → acc.length + ds.length ≤ LINE →
    ∃ ρ', lcLoop vs f ds acc ρ S = .ok (acc ++ ds.map g) ρ' S ∧ I ρ'
  | [], acc, ρ, hI, _, _ => ⟨ρ, by rw [List.map_nil, List.append_nil]; rfl, hI⟩
  | d :: ds, acc, ρ, hI, hf, hl => by
    rw [List.length_cons] at hl
    obtain ⟨ρ1, e1, h1⟩ := hf d List.mem_cons_self ρ hI
    obtain ⟨ρ2, e2, h2⟩ := lc_map ds (acc ++ [g d]) ρ1 h1 (fun x hx => hf x (List.mem_cons_of_mem _ hx)) (by rw [List.length_append]; simp; omega)
    refine ⟨ρ2, ?_, h2⟩
    unfold lcLoop
    simp only [e1, noX_ok, Res.bind_ok]
    rw [if_pos (by omega), e2, List.append_assoc]
    rfl
/-! ### draws -/
theorem pull_ex (b : Bag) (os : List Ob) {k : Int} (h0 : 0 < k) (h1 : k < 1073741824) : ∃ r b', pullFn [.loc 0, .int k] ⟨.bag b :: os⟩ = .ok (.fz (.int r)) ⟨.bag b' :: os⟩ ∧ 0 ≤ r ∧ r < k := by
  refine ⟨(b.pull k).1, (b.pull k).2, ?_, Bag.pull_range b k h0⟩
  show (if 0 < k.toNat ∧ k.toNat < 1073741824 then _ else _) = _
  rw [if_pos (by omega)]
  rfl
theorem draws_ex {ns : List Int} (h : ns.length ≤ 1000) : ∃ b, drawsFn [.lst (ns.map .int)] ⟨[]⟩ = .ok (.fz (.loc 0)) ⟨[.bag b]⟩ := by
  have e : ∀ ns : List Int, intsOf (ns.map .int) = some ns := fun ns => by
    induction ns with
    | nil => rfl
    | cons i is ih => simp [intsOf, ih]
  refine ⟨⟨ns.take 63, 0, 0, drawSeed (ns.take 63), 0⟩, ?_⟩
  unfold drawsFn
  simp only [e, h, if_true]
  rfl
/-! ### texts as lists of signs -/
abbrev S8 (l : List Nat) : Str := ⟨l.toArray⟩
theorem str_len (l : List Nat) : (S8 l).length = l.length := by simp [Str.length]
theorem str_app (l m : List Nat) : S8 l ++ S8 m = S8 (l ++ m) := by
  show (⟨l.toArray ++ m.toArray⟩ : Str) = _
  simp
theorem str_of (z : Str) : z = S8 z.cps.toList := rfl
theorem cut_to (l : List Nat) (i : Nat) : cutS (S8 l) none (some (i : Int)) = S8 (l.take i) := by
  unfold cutS
  rw [HT.sIx_none, HT.sIx_nat, str_len]
  simp only [List.drop_zero, Nat.sub_zero]
  congr 1
  have : l.take (min i l.length) = l.take i := List.take_eq_take_iff.mpr (by omega)
  rw [this]
theorem cut_from (l : List Nat) (i : Nat) : cutS (S8 l) (some (i : Int)) none = S8 (l.drop i) := by
  unfold cutS
  rw [HT.sIx_none, HT.sIx_nat, str_len]
  by_cases h : i ≤ l.length
  · rw [Nat.min_eq_left h]
    congr 1
    rw [List.take_of_length_le]
    simp
  · rw [Nat.min_eq_right (by omega), List.drop_of_length_le (Nat.le_refl _), List.drop_of_length_le (by omega), List.take_nil]
theorem join_sgn (l : List Nat) : Txt.join ("" : Str) (l.map sgn) = S8 l := by
  have h0 : ("" : Str) = ⟨#[]⟩ := by decide +kernel
  rw [h0]
  cases l with
  | nil => rfl
  | cons c l =>
    show (⟨(l.map sgn).foldl (fun acc p => acc ++ #[] ++ p.cps) #[c]⟩ : Str) = _
    have : ∀ (l : List Nat) (a : List Nat), (l.map sgn).foldl (fun acc p => acc ++ #[] ++ p.cps) a.toArray = (a ++ l).toArray := by
      intro l
      induction l with
      | nil => intro a; simp
      | cons d l ih =>
        intro a
        rw [List.map_cons, List.foldl_cons]
        have : a.toArray ++ #[] ++ (sgn d).cps = (a ++ [d]).toArray := by simp [sgn]
        rw [this, ih]
        simp
    rw [this l [c]]
    rfl
theorem strs_sgn : ∀ l : List Nat, strsOf (l.map fun c => .str (sgn c)) = some (l.map sgn)
  | [] => rfl
  | c :: l => by simp [strsOf, strs_sgn l]
theorem eqOk_str {l : List Nat} (h : ∀ c ∈ l, c < 1114112) : (D.str (S8 l)).eqOk = true := by
  unfold D.eqOk SeqAt.shaped
  have : PyData.strOk (S8 l) = true := by
    unfold PyData.strOk
    rw [Array.all_eq_true]
    intro i hi
    simp only [decide_eq_true_eq]
    have := h (l[i]'(by simpa using hi)) (List.getElem_mem _)
    simpa using this
  simp [D.plain, D.py, PyData.canLay0, this, PyData.depth]
theorem eqv_refl_str (x : Str) : (D.str x).eqv (.str x) = true := by simp [D.eqv, D.py, PyData.eqv]
theorem atI_nat {α : Type} (xs : List α) (i : Nat) : atI xs (i : Int) = xs[i]? := by
  unfold atI ixN
  rw [if_pos (by omega)]
  by_cases h : i < xs.length
  · rw [if_pos (by omega)]
    simp
  · rw [if_neg (by omega), List.getElem?_eq_none (by omega)]
    rfl
theorem atI_of {α : Type} (xs : List α) {i : Int} (h : 0 ≤ i) : atI xs i = xs[i.toNat]? := by
  obtain ⟨n, rfl⟩ := Int.eq_ofNat_of_zero_le h
  rw [atI_nat]
  rfl
theorem atI_neg {α : Type} (xs : List α) {i : Int} (h : i < 0) (h2 : -(xs.length : Int) ≤ i) : atI xs i = xs[(i + xs.length).toNat]? := by
  unfold atI ixN
  rw [if_neg (by omega), if_pos h2]
  rfl
end Sh


/-! ShStd: the helpers that the laws share: any, like, new names. -/
namespace Sh
open PySem PySem.Spec PyProof.Rows L2
/-! ### _law_any -/
def bAny (p : Nat) : LSs := .cons (.ret (.idx (.var 1) (.call p (.cons (.var 0) (.cons (.bcl .len (.cons (.var 1) .nil)) .nil))))) .nil
abbrev anyF (T : Tab) (p : Nat) : Fn := denDef T 2 2 (bAny p)
theorem any_lst {T : Tab} {p : Nat} (hT : T.fn p = some pullFn) (b : Bag) (os : List Ob) (ds : List D) (h0 : ds ≠ []) (h1 : ds.length < 1073741824) :
    ∃ x b', anyF T p [.loc 0, .lst ds] ⟨.bag b :: os⟩ = .ok (.fz x) ⟨.bag b' :: os⟩ ∧ x ∈ ds := by
  have hl : 0 < ds.length := List.length_pos_iff.mpr h0
  obtain ⟨r, b', e, r0, r1⟩ := pull_ex b os (k := (ds.length : Int)) (by omega) (by omega)
  have hr : r.toNat < ds.length := by omega
  refine ⟨ds[r.toNat]'hr, b', ?_, List.getElem_mem _⟩
  have ha : atI ds r = some (ds[r.toNat]'hr) := by rw [atI_of _ r0, List.getElem?_eq_getElem hr]
  refine (e_def [some (.fz (.loc 0)), some (.fz (.lst ds))] rfl rfl).trans ?_
  simp only [bAny, e_cons, e_nil, ret_eq, n_var, n_non, n_bl, n_int, n_str, n_glob, n_bin, n_neg, n_cmp, n_chn, n_and, n_or, n_not, n_ite, n_tup, n_lst, n_idx, n_slc, n_call, n_callk, n_bcl, n_isi, n_rep, n_join, n_lc, denB, denEs, denBs, hT, rdV, rdB, List.getElem?_cons_zero, List.getElem?_cons_succ, Res.bind_ok, ofO_some, RV.d, opBcl, e, FRes.res_ok, Res.map_ok, opIdx, ha, Option.map_some, thenS_ok, seq_rt, out_rt]
theorem any_str {T : Tab} {p : Nat} (hT : T.fn p = some pullFn) (b : Bag) (os : List Ob) (l : List Nat) (h0 : l ≠ []) (h1 : l.length ≤ LINE) :
    ∃ c b', anyF T p [.loc 0, .str (S8 l)] ⟨.bag b :: os⟩ = .ok (.fz (.str (sgn c))) ⟨.bag b' :: os⟩ ∧ c ∈ l := by
  have hl : 0 < l.length := List.length_pos_iff.mpr h0
  have h2 : l.length ≤ 16777216 := h1
  obtain ⟨r, b', e, r0, r1⟩ := pull_ex b os (k := (l.length : Int)) (by omega) (by omega)
  have hr : r.toNat < l.length := by omega
  refine ⟨l[r.toNat]'hr, b', ?_, List.getElem_mem _⟩
  have ha : atI l r = some (l[r.toNat]'hr) := by rw [atI_of _ r0, List.getElem?_eq_getElem hr]
  refine (e_def [some (.fz (.loc 0)), some (.fz (.str (S8 l)))] rfl rfl).trans ?_
  simp only [bAny, e_cons, e_nil, ret_eq, n_var, n_non, n_bl, n_int, n_str, n_glob, n_bin, n_neg, n_cmp, n_chn, n_and, n_or, n_not, n_ite, n_tup, n_lst, n_idx, n_slc, n_call, n_callk, n_bcl, n_isi, n_rep, n_join, n_lc, denB, denEs, denBs, hT, rdV, rdB, List.getElem?_cons_zero, List.getElem?_cons_succ, Res.bind_ok, ofO_some, RV.d, opBcl, str_len, h1, if_true, e, FRes.res_ok, Res.map_ok, opIdx, ha, Option.map_some, thenS_ok, seq_rt, out_rt]
/-! ### _law_like -/
def bLike (i : Nat) : LSs := .cons (.iff (.isi (.var 1) ["list", "tuple"]) (.cons (.asg 2 (.and (.cmp .Eq (.isi (.var 0) ["list"]) (.isi (.var 1) ["list"])) (.cmp .Eq (.isi (.var 0) ["tuple"]) (.isi (.var 1) ["tuple"])))) (.cons (.ret (.and (.var 2) (.and (.cmp .Eq (.bcl .len (.cons (.var 0) .nil)) (.bcl .len (.cons (.var 1) .nil))) (.bcl .all (.cons (.lc [3, 4] (.call i (.cons (.var 3) (.cons (.var 4) .nil))) (.tup [3, 4]) (.zip (.var 0) (.var 1)) (.nil)) .nil))))) .nil)) (.nil)) (.cons (.iff (.or (.cmp .Is (.var 0) (.non)) (.or (.cmp .Is (.var 1) (.non)) (.cmp .NotEq (.isi (.var 0) ["bool"]) (.isi (.var 1) ["bool"])))) (.cons (.ret (.and (.cmp .Is (.var 0) (.non)) (.cmp .Is (.var 1) (.non)))) .nil) (.nil)) (.cons (.ret (.and (.cmp .Eq (.isi (.var 0) ["int"]) (.isi (.var 1) ["int"])) (.and (.cmp .Eq (.isi (.var 0) ["str"]) (.isi (.var 1) ["str"])) (.cmp .Eq (.var 0) (.var 1))))) .nil))
/-- k calls deep -/
def likeF (i : Nat) : Nat → Fn
  | 0 => fun _ _ => .bad
  | k + 1 => denDef (Tab.emp.add i (likeF i k)) 2 5 (bLike i)
/-- plain data, k calls deep at most -/
def fits : Nat → D → Prop
  | 0, _ => False
  | k + 1, d => match d with
    | .non => True
    | .bl _ => True
    | .int _ => True
    | .str x => (D.str x).eqOk = true
    | .lst xs => xs.length ≤ LINE ∧ ∀ x ∈ xs, fits k x
    | .tup xs => xs.length ≤ LINE ∧ ∀ x ∈ xs, fits k x
    | _ => False
theorem bl_eq (a : Bool) : opCmp .Eq (.bl a) (.bl a) = some true := by cases a <;> rfl
theorem nbl_eq (a : Bool) : opCmp .NotEq (.bl a) (.bl a) = some false := by cases a <;> rfl
theorem allBl_true : ∀ n : Nat, allBl (List.replicate n (.bl true)) = some true
  | 0 => rfl
  | n + 1 => by rw [List.replicate_succ]; simp [allBl, allBl_true n]
theorem zipD_len : ∀ xs ys : List D, (zipD xs ys).length ≤ xs.length
  | [], _ => by simp [zipD]
  | x :: xs, [] => by simp [zipD]
  | x :: xs, y :: ys => by simp [zipD]; exact zipD_len xs ys
theorem zipD_self : ∀ {xs : List D} {d : D}, d ∈ zipD xs xs → ∃ x ∈ xs, d = .tup [x, x]
  | [], d, h => by cases h
  | x :: xs, d, h => by
    rcases List.mem_cons.mp h with rfl | h
    · exact ⟨x, List.mem_cons_self, rfl⟩
    · obtain ⟨y, h1, h2⟩ := zipD_self h
      exact ⟨y, List.mem_cons_of_mem _ h1, h2⟩
theorem zipD_self_len : ∀ xs : List D, (zipD xs xs).length = xs.length
  | [] => rfl
  | x :: xs => by simp [zipD, zipD_self_len xs]
theorem opLen (xs : List D) : opCmp .Eq (.int xs.length) (.int xs.length) = some true := by
  show (if (D.int xs.length).eqOk && (D.int xs.length).eqOk then some ((D.int xs.length).eqv (.int xs.length)) else none) = _
  have h1 : (D.int xs.length).eqOk = true := by simp [D.eqOk, D.plain, SeqAt.shaped, D.py, PyData.canLay0, PyData.depth]
  have h2 : (D.int xs.length).eqv (.int xs.length) = true := by simp [D.eqv, D.py, PyData.eqv]
  rw [h1, h2]
  rfl
theorem like_ok (i : Nat) (S : Mem) : ∀ (k : Nat) (d : D), fits k d → likeF i k [d, d] S = .ok (.fz (.bl true)) S
  | 0, _, h => h.elim
  | k + 1, d, h => by
    unfold likeF
    refine (e_def [some (.fz d), some (.fz d), none, none, none] rfl rfl).trans ?_
    have seq : ∀ (xs : List D), xs.length ≤ LINE → (∀ x ∈ xs, fits k x) → ∀ (a b : D) (r : RV), ∃ ρ', lcRun [3, 4] (lcBody (Tab.emp.add i (likeF i k)) .nil (.call i (.cons (.var 3) (.cons (.var 4) .nil))) (.tup [3, 4])) [some (.fz a), some (.fz b), some r, none, none] (zipD xs xs) S = .ok (.own (List.replicate xs.length (.bl true))) ρ' S := by
      intro xs hl hx a b r
      obtain ⟨ρ', e, u, v, hI⟩ := lc_map (vs := [3, 4]) (S := S) (I := fun ρ => ∃ u v, ρ = [some (.fz a), some (.fz b), some r, u, v]) (g := fun _ => .bl true) (zipD xs xs) [] [some (.fz a), some (.fz b), some r, none, none] ⟨none, none, rfl⟩ (f := lcBody (Tab.emp.add i (likeF i k)) .nil (.call i (.cons (.var 3) (.cons (.var 4) .nil))) (.tup [3, 4])) (fun d hd ρ hρ => by
          obtain ⟨u, v, rfl⟩ := hρ
          obtain ⟨x, hx1, rfl⟩ := zipD_self hd
          have := like_ok i S k x (hx x hx1)
          refine ⟨[some (.fz a), some (.fz b), some r, some (.fz x), some (.fz x)], ?_, _, _, rfl⟩
          simp only [lcBody, wipeE, Tg.put, setAll, List.set_cons_zero, List.set_cons_succ, ofO_some, Res.bind_ok, denC, if_true, n_call, n_var, denEs, rdV, List.getElem?_cons_zero, List.getElem?_cons_succ, RV.d, add_fn, this, FRes.res_ok]) (by rw [zipD_self_len]; simpa using hl)
      refine ⟨backE [some (.fz a), some (.fz b), some r, none, none] ρ' [3, 4], ?_⟩
      unfold lcRun
      rw [if_neg (by simp [noOwn]), e, List.nil_append, List.map_const', zipD_self_len]
      rfl
    cases d with
    | non =>
      have t1 : isTys .non ["list", "tuple"] = some false := by rfl
      have t5 : opCmp .Is .non .non = some true := by rfl
      simp only [bLike, e_cons, e_nil, iff_eq, ret_eq, n_var, n_non, n_bl, n_int, n_str, n_glob, n_bin, n_neg, n_cmp, n_chn, n_and, n_or, n_not, n_ite, n_tup, n_lst, n_idx, n_slc, n_call, n_callk, n_bcl, n_isi, n_rep, n_join, n_lc, denB, rdV, rdB, List.getElem?_cons_zero, List.getElem?_cons_succ, Res.bind_ok, Res.map_ok, ofO_some, RV.d, t1, t5, tstR_bl, thenS_ok, if_false, Bool.false_eq_true, seq_nx, if_true, seq_rt, out_rt]
    | bl b =>
      have h1 : opCmp .Eq (.bl b) (.bl b) = some true := by cases b <;> rfl
      have t1 : isTys (.bl b) ["list", "tuple"] = some false := by rfl
      have t2 : isTys (.bl b) ["bool"] = some true := by rfl
      have t3 : isTys (.bl b) ["int"] = some true := by rfl
      have t4 : isTys (.bl b) ["str"] = some false := by rfl
      have t5 : opCmp .Is (.bl b) .non = some false := by rfl
      simp only [bLike, e_cons, e_nil, iff_eq, ret_eq, n_var, n_non, n_bl, n_int, n_str, n_glob, n_bin, n_neg, n_cmp, n_chn, n_and, n_or, n_not, n_ite, n_tup, n_lst, n_idx, n_slc, n_call, n_callk, n_bcl, n_isi, n_rep, n_join, n_lc, denB, rdV, rdB, List.getElem?_cons_zero, List.getElem?_cons_succ, Res.bind_ok, Res.map_ok, ofO_some, RV.d, t1, t2, t3, t4, t5, tstR_bl, thenS_ok, if_false, Bool.false_eq_true, seq_nx, bl_eq, nbl_eq, h1, if_true, seq_rt, out_rt]
    | int z =>
      have h1 : opCmp .Eq (.int z) (.int z) = some true := by
        show (if (D.int z).eqOk && (D.int z).eqOk then some ((D.int z).eqv (.int z)) else none) = _
        have h1 : (D.int z).eqOk = true := by simp [D.eqOk, D.plain, SeqAt.shaped, D.py, PyData.canLay0, PyData.depth]
        have h2 : (D.int z).eqv (.int z) = true := by simp [D.eqv, D.py, PyData.eqv]
        rw [h1, h2]
        rfl
      have t1 : isTys (.int z) ["list", "tuple"] = some false := by rfl
      have t2 : isTys (.int z) ["bool"] = some false := by rfl
      have t3 : isTys (.int z) ["int"] = some true := by rfl
      have t4 : isTys (.int z) ["str"] = some false := by rfl
      have t5 : opCmp .Is (.int z) .non = some false := by rfl
      simp only [bLike, e_cons, e_nil, iff_eq, ret_eq, n_var, n_non, n_bl, n_int, n_str, n_glob, n_bin, n_neg, n_cmp, n_chn, n_and, n_or, n_not, n_ite, n_tup, n_lst, n_idx, n_slc, n_call, n_callk, n_bcl, n_isi, n_rep, n_join, n_lc, denB, rdV, rdB, List.getElem?_cons_zero, List.getElem?_cons_succ, Res.bind_ok, Res.map_ok, ofO_some, RV.d, t1, t2, t3, t4, t5, tstR_bl, thenS_ok, if_false, Bool.false_eq_true, seq_nx, bl_eq, nbl_eq, h1, if_true, seq_rt, out_rt]
    | str z =>
      have h1 : opCmp .Eq (.str z) (.str z) = some true := by
        show (if (D.str z).eqOk && (D.str z).eqOk then some ((D.str z).eqv (.str z)) else none) = _
        rw [show (D.str z).eqOk = true from h, eqv_refl_str]
        rfl
      have t1 : isTys (.str z) ["list", "tuple"] = some false := by rfl
      have t2 : isTys (.str z) ["bool"] = some false := by rfl
      have t3 : isTys (.str z) ["int"] = some false := by rfl
      have t4 : isTys (.str z) ["str"] = some true := by rfl
      have t5 : opCmp .Is (.str z) .non = some false := by rfl
      simp only [bLike, e_cons, e_nil, iff_eq, ret_eq, n_var, n_non, n_bl, n_int, n_str, n_glob, n_bin, n_neg, n_cmp, n_chn, n_and, n_or, n_not, n_ite, n_tup, n_lst, n_idx, n_slc, n_call, n_callk, n_bcl, n_isi, n_rep, n_join, n_lc, denB, rdV, rdB, List.getElem?_cons_zero, List.getElem?_cons_succ, Res.bind_ok, Res.map_ok, ofO_some, RV.d, t1, t2, t3, t4, t5, tstR_bl, thenS_ok, if_false, Bool.false_eq_true, seq_nx, bl_eq, nbl_eq, h1, if_true, seq_rt, out_rt]
    | lst xs =>
      have t1 : isTys (.lst xs) ["list", "tuple"] = some true := by rfl
      have t2 : isTys (.lst xs) ["list"] = some true := by rfl
      have t3 : isTys (.lst xs) ["tuple"] = some false := by rfl
      obtain ⟨ρ', e⟩ := seq xs h.1 h.2 (.lst xs) (.lst xs) (.fz (.bl true))
      simp only [bLike, e_cons, e_nil, iff_eq, asg_eq, ret_eq, n_var, n_non, n_bl, n_int, n_str, n_glob, n_bin, n_neg, n_cmp, n_chn, n_and, n_or, n_not, n_ite, n_tup, n_lst, n_idx, n_slc, n_call, n_callk, n_bcl, n_isi, n_rep, n_join, n_lc, denB, denBs, denI, rdV, rdB, List.getElem?_cons_zero, List.getElem?_cons_succ, List.set_cons_zero, List.set_cons_succ, Res.bind_ok, Res.map_ok, ofO_some, RV.d, t1, t2, t3, tstR_bl, thenS_ok, if_true, seq_nx, bl_eq, opBcl, opLen, opZip, e, Option.map_some, seq_rt, out_rt, allBl_true]
    | tup xs =>
      have t1 : isTys (.tup xs) ["list", "tuple"] = some true := by rfl
      have t2 : isTys (.tup xs) ["list"] = some false := by rfl
      have t3 : isTys (.tup xs) ["tuple"] = some true := by rfl
      obtain ⟨ρ', e⟩ := seq xs h.1 h.2 (.tup xs) (.tup xs) (.fz (.bl true))
      simp only [bLike, e_cons, e_nil, iff_eq, asg_eq, ret_eq, n_var, n_non, n_bl, n_int, n_str, n_glob, n_bin, n_neg, n_cmp, n_chn, n_and, n_or, n_not, n_ite, n_tup, n_lst, n_idx, n_slc, n_call, n_callk, n_bcl, n_isi, n_rep, n_join, n_lc, denB, denBs, denI, rdV, rdB, List.getElem?_cons_zero, List.getElem?_cons_succ, List.set_cons_zero, List.set_cons_succ, Res.bind_ok, Res.map_ok, ofO_some, RV.d, t1, t2, t3, tstR_bl, thenS_ok, if_true, seq_nx, bl_eq, opBcl, opLen, opZip, e, Option.map_some, seq_rt, out_rt, allBl_true]
    | obj c fs => exact h.elim
    | loc n => exact h.elim
    | ty n => exact h.elim
/-! ### _law_new_names -/
def abcL : List Nat := (List.range 26).map (· + 97)
theorem abc_eq : ("abcdefghijklmnopqrstuvwxyz" : Str) = S8 abcL := by decide +kernel
theorem abc_len : abcL.length = 26 := by decide
def Lower (l : List Nat) : Prop := ∀ c ∈ l, c ∈ abcL
theorem lower_of {c : Nat} (h : c ∈ abcL) : 97 ≤ c ∧ c ≤ 122 := by
  unfold abcL at h
  simp only [List.mem_map, List.mem_range] at h
  omega
def nameE : LE := .bin .Add (.bin .Add (.slc (.var 3) .no (.so (.var 4))) (.idx (.var 2) (.bin .Sub (.bin .Add (.var 5) (.var 6)) (.int 26)))) (.slc (.var 3) (.so (.var 4)) .no)
def bNew (p a : Nat) : LSs := .cons (.asg 2 (.str "abcdefghijklmnopqrstuvwxyz")) (.cons (.asg 3 (.join (.str "") (.lc [6] (.call a (.cons (.var 0) (.cons (.var 2) .nil))) (.name 6) (.rng (.call p (.cons (.var 0) (.cons (.int 6) .nil)))) (.nil)))) (.cons (.tas [4, 5] (.tup (.cons (.call p (.cons (.var 0) (.cons (.bin .Add (.bcl .len (.cons (.var 3) .nil)) (.int 1)) .nil))) (.cons (.call p (.cons (.var 0) (.cons (.int 26) .nil))) .nil)))) (.cons (.ret (.lc [6] nameE (.name 6) (.rng (.var 1)) (.nil))) .nil)))
abbrev newF (T : Tab) (p a : Nat) : Fn := denDef T 2 7 (bNew p a)
/-- the k-th of the new names: a letter of its own at one place of a stem -/
def nameAt (stem : List Nat) (at_ first k : Nat) : List Nat := stem.take at_ ++ [97 + (first + k) % 26] ++ stem.drop at_
theorem nameAt_len (stem : List Nat) (a f k : Nat) : (nameAt stem a f k).length = stem.length + 1 := by
  simp [nameAt, List.length_take, List.length_drop]
  omega
theorem nameAt_lower {stem : List Nat} (h : Lower stem) (a f k : Nat) : Lower (nameAt stem a f k) := by
  intro c hc
  simp only [nameAt, List.mem_append, List.mem_singleton] at hc
  rcases hc with (hc | hc) | hc
  · exact h c (List.mem_of_mem_take hc)
  · subst hc
    unfold abcL
    simp only [List.mem_map, List.mem_range]
    exact ⟨(f + k) % 26, Nat.mod_lt _ (by decide), by omega⟩
  · exact h c (List.mem_of_mem_drop hc)
theorem abc_at {f k : Nat} (hf : f < 26) (hk : k < 26) : atI abcL ((f : Int) + (k : Int) - 26) = some (97 + (f + k) % 26) := by
  have get : ∀ j, j < 26 → abcL[j]? = some (97 + j) := fun j hj => by
    unfold abcL
    rw [List.getElem?_map, List.getElem?_range hj]
    simp
    omega
  by_cases h : f + k < 26
  · rw [atI_neg _ (by omega) (by rw [abc_len]; omega), abc_len]
    have : ((f : Int) + (k : Int) - 26 + ((26 : Nat) : Int)).toNat = f + k := by omega
    rw [this, get _ h, Nat.mod_eq_of_lt h]
  · rw [atI_of _ (by omega)]
    have : ((f : Int) + (k : Int) - 26).toNat = (f + k) % 26 := by omega
    rw [this, get _ (Nat.mod_lt _ (by decide))]
abbrev stemL (T : Tab) (a : Nat) : D → Rho → Mem → Res (Option D) := lcBody T .nil (.call a (.cons (.var 0) (.cons (.var 2) .nil))) (.name 6)
abbrev nameL (T : Tab) : D → Rho → Mem → Res (Option D) := lcBody T .nil nameE (.name 6)
theorem rng_len (n : Nat) : (rngD n).length = n := by simp [rngD]
theorem ys_stem : ∀ ys : List D, (∀ y ∈ ys, ∃ c, c ∈ abcL ∧ y = .str (sgn c)) → ∃ stem : List Nat, ys = stem.map (fun c => .str (sgn c)) ∧ Lower stem := by
  intro ys
  induction ys with
  | nil => exact fun _ => ⟨[], rfl, fun c h => by cases h⟩
  | cons y ys ih =>
    intro h
    obtain ⟨c, hc, rfl⟩ := h y List.mem_cons_self
    obtain ⟨st, rfl, hs⟩ := ih fun y hy => h y (List.mem_cons_of_mem _ hy)
    exact ⟨c :: st, rfl, fun d hd => by
      rcases List.mem_cons.mp hd with rfl | hd
      · exact hc
      · exact hs d hd⟩
theorem le_line {n : Nat} (h : n ≤ 1000) : n ≤ LINE := Nat.le_trans h (by decide)
theorem new_stem {T Ta : Tab} {p a : Nat} (hp : Ta.fn p = some pullFn) (ha : T.fn a = some (anyF Ta p)) (b1 : Bag) (os : List Ob) (x0 : Option RV) (hx : noOwn [x0] [0] = true) (n : Nat) (hn : n ≤ 5) :
    ∃ (stem : List Nat) (b2 : Bag), lcRun [6] (stemL T a) [some (.fz (.loc 0)), x0, some (.fz (.str (S8 abcL))), none, none, none, none] (rngD n) ⟨.bag b1 :: os⟩ = .ok (.own (stem.map (fun c => .str (sgn c)))) [some (.fz (.loc 0)), x0, some (.fz (.str (S8 abcL))), none, none, none, none] ⟨.bag b2 :: os⟩ ∧ Lower stem ∧ stem.length = n := by
  obtain ⟨ys, ρ2, S2, e2, ⟨b2, x2, h2, h2'⟩, l2, q2⟩ := lc_all (vs := [6]) (f := stemL T a) (I := fun ρ S => ∃ b2 x, S = ⟨.bag b2 :: os⟩ ∧ ρ = [some (.fz (.loc 0)), x0, some (.fz (.str (S8 abcL))), none, none, none, x]) (R := fun _ y => ∃ c, c ∈ abcL ∧ y = .str (sgn c)) (rngD n) [] [some (.fz (.loc 0)), x0, some (.fz (.str (S8 abcL))), none, none, none, none] ⟨.bag b1 :: os⟩ ⟨b1, none, rfl, rfl⟩ (fun d hd ρ S hI => by
    obtain ⟨b2, x, rfl, rfl⟩ := hI
    obtain ⟨c, b3, e, hc⟩ := any_str hp b2 os abcL (by decide) (le_line (by rw [abc_len]; decide))
    refine ⟨.str (sgn c), [some (.fz (.loc 0)), x0, some (.fz (.str (S8 abcL))), none, none, none, some (.fz d)], ⟨.bag b3 :: os⟩, ?_, ⟨b3, _, rfl, rfl⟩, c, hc, rfl⟩
    simp only [stemL, lcBody, wipeE, Tg.put, List.set_cons_zero, List.set_cons_succ, ofO_some, Res.bind_ok, denC, if_true, n_call, n_var, denEs, rdV, List.getElem?_cons_zero, List.getElem?_cons_succ, RV.d, ha, e, FRes.res_ok]) (le_line (by rw [rng_len]; show 0 + n ≤ 1000; omega))
  rw [List.nil_append] at e2
  have hl : ys.length = (rngD n).length := l2
  obtain ⟨stem, rfl, hst⟩ := ys_stem ys fun y hy => by
    obtain ⟨i, hi, rfl⟩ := List.getElem_of_mem hy
    exact q2 i _ _ (List.getElem?_eq_getElem (by rw [← hl]; exact hi)) (List.getElem?_eq_getElem hi)
  refine ⟨stem, b2, ?_, hst, by rw [List.length_map, rng_len] at hl; exact hl⟩
  unfold lcRun
  rw [if_neg (by simp [noOwn]), e2, h2', h2]
  rfl
theorem new_run {T : Tab} (stem : List Nat) (at_ first : Nat) (S : Mem) (x0 : Option RV) (m : Nat) (hm : m ≤ 26) (hsl : stem.length ≤ 5) (r4b : first < 26) :
    lcRun [6] (nameL T) [some (.fz (.loc 0)), x0, some (.fz (.str (S8 abcL))), some (.fz (.str (S8 stem))), some (.fz (.int at_)), some (.fz (.int first)), none] (rngD m) S = .ok (.own ((List.range m).map fun k => .str (S8 (nameAt stem at_ first k)))) [some (.fz (.loc 0)), x0, some (.fz (.str (S8 abcL))), some (.fz (.str (S8 stem))), some (.fz (.int at_)), some (.fz (.int first)), none] S := by
  obtain ⟨ρ5, e5, x5, h5⟩ := lc_map (vs := [6]) (S := S) (f := nameL T) (I := fun ρ => ∃ x, ρ = [some (.fz (.loc 0)), x0, some (.fz (.str (S8 abcL))), some (.fz (.str (S8 stem))), some (.fz (.int at_)), some (.fz (.int first)), x]) (g := fun d => match d with | .int k => .str (S8 (nameAt stem at_ first k.toNat)) | _ => .non) (rngD m) [] [some (.fz (.loc 0)), x0, some (.fz (.str (S8 abcL))), some (.fz (.str (S8 stem))), some (.fz (.int at_)), some (.fz (.int first)), none] ⟨_, rfl⟩ (fun d hd ρ hI => by
    obtain ⟨x, rfl⟩ := hI
    unfold rngD at hd
    rw [List.mem_map] at hd
    obtain ⟨k, hk, rfl⟩ := hd
    rw [List.mem_range] at hk
    refine ⟨[some (.fz (.loc 0)), x0, some (.fz (.str (S8 abcL))), some (.fz (.str (S8 stem))), some (.fz (.int at_)), some (.fz (.int first)), some (.fz (.int k))], ?_, _, rfl⟩
    have a1 := abc_at r4b (show k < 26 by omega)
    have z1 : stem.length ≤ LINE := le_line (by omega)
    have z2 : abcL.length ≤ LINE := le_line (by rw [abc_len]; decide)
    have z3 : (stem.take at_).length + 1 ≤ LINE := le_line (by rw [List.length_take]; omega)
    have z4 : (stem.take at_ ++ [97 + (first + k) % 26]).length + (stem.drop at_).length ≤ LINE := le_line (by rw [List.length_append, List.length_take, List.length_drop, List.length_singleton]; omega)
    have z5 : sgn (97 + (first + k) % 26) = S8 [97 + (first + k) % 26] := rfl
    simp only [nameL, nameE, lcBody, wipeE, Tg.put, List.set_cons_zero, List.set_cons_succ, ofO_some, Res.bind_ok, denC, if_true, n_bin, n_slc, n_idx, denB, denO, rdB, List.getElem?_cons_zero, List.getElem?_cons_succ, RV.d, n_int, Res.map_ok, opBin, opSlc, opIdx, str_len, z1, z2, cut_to, cut_from, a1, Option.map_some, z5, str_app, z3, z4, List.length_singleton, Int.toNat_natCast, nameAt]) (le_line (by rw [rng_len]; show 0 + m ≤ 1000; omega))
  rw [List.nil_append] at e5
  have e6 : (rngD m).map (fun d => match d with | .int k => D.str (S8 (nameAt stem at_ first k.toNat)) | _ => .non) = (List.range m).map fun k => .str (S8 (nameAt stem at_ first k)) := by
    unfold rngD
    rw [List.map_map]
    apply List.map_congr_left
    intro k hk
    simp
  rw [e6] at e5
  unfold lcRun
  rw [if_neg (by simp [noOwn]), e5, h5]
  rfl
theorem join_len (stem : List Nat) (h : stem.length ≤ 1000) : (List.map (fun x : Str => x.length) (stem.map sgn)).sum + (stem.map sgn).length * ("" : Str).length ≤ LINE := by
  have : ∀ l : List Nat, (List.map (fun x : Str => x.length) (l.map sgn)).sum = l.length := fun l => by
    induction l with
    | nil => rfl
    | cons c l ih => rw [List.map_cons, List.map_cons, List.sum_cons, ih, List.length_cons]; show 1 + _ = _; omega
  rw [this]
  have h0 : ("" : Str).length = 0 := by decide +kernel
  rw [h0, Nat.mul_zero]
  exact le_line h
theorem join_ok (stem : List Nat) (h : stem.length ≤ 1000) : opJoin (.str "") (.lst (stem.map fun c => .str (sgn c))) = some (.fz (.str (S8 stem))) := by
  simp only [opJoin, strs_sgn, join_len stem h, join_sgn, if_true]
theorem slen_ok (l : List Nat) (h : l.length ≤ 1000) : opBcl .len [.str (S8 l)] = some (.fz (.int l.length)) := by
  have := le_line h
  simp only [opBcl, str_len, this, if_true]
theorem rng_ok {i : Int} (h0 : 0 ≤ i) (h1 : i ≤ 1000000) : opRng (.int i) = some (rngD i.toNat) := by
  have h : i.natAbs ≤ LINE := by show _ ≤ 16777216; omega
  simp only [opRng, h, if_true]
theorem new_1 {T : Tab} (x y : Option RV) (S : Mem) : denS T (.asg 2 (.str "abcdefghijklmnopqrstuvwxyz")) [x, y, none, none, none, none, none] S = .nx [x, y, some (.fz (.str (S8 abcL))), none, none, none, none] S := by
  simp only [asg_eq, abc_eq, n_str, n_join, n_lc, denB, denI, denEs, denBs, n_call, n_var, n_int, n_bin, n_tup, n_bcl, rdV, rdB, List.getElem?_cons_zero, List.getElem?_cons_succ, Res.bind_ok, Res.map_ok, ofO_some, RV.d, FRes.res_ok, thenS_ok, List.set_cons_zero, List.set_cons_succ]
theorem new_2 {T : Tab} {p a : Nat} (hp : T.fn p = some pullFn) (x : Option RV) (os : List Ob) (b b1 b2 : Bag) (r1 : Int) (stem : List Nat)
  (e1 : pullFn [.loc 0, .int 6] ⟨.bag b :: os⟩ = .ok (.fz (.int r1)) ⟨.bag b1 :: os⟩) (y1 : opRng (.int r1) = some (rngD r1.toNat))
  (run1 : lcRun [6] (stemL T a) [some (.fz (.loc 0)), x, some (.fz (.str (S8 abcL))), none, none, none, none] (rngD r1.toNat) ⟨.bag b1 :: os⟩ = .ok (.own (stem.map (fun c => .str (sgn c)))) [some (.fz (.loc 0)), x, some (.fz (.str (S8 abcL))), none, none, none, none] ⟨.bag b2 :: os⟩)
  (y2 : opJoin (.str "") (.lst (stem.map fun c => .str (sgn c))) = some (.fz (.str (S8 stem)))) :
  denS T (.asg 3 (.join (.str "") (.lc [6] (.call a (.cons (.var 0) (.cons (.var 2) .nil))) (.name 6) (.rng (.call p (.cons (.var 0) (.cons (.int 6) .nil)))) (.nil)))) [some (.fz (.loc 0)), x, some (.fz (.str (S8 abcL))), none, none, none, none] ⟨.bag b :: os⟩ = .nx [some (.fz (.loc 0)), x, some (.fz (.str (S8 abcL))), some (.fz (.str (S8 stem))), none, none, none] ⟨.bag b2 :: os⟩ := by
  simp only [asg_eq, hp, e1, y1, run1, y2, n_str, n_join, n_lc, denB, denI, denEs, denBs, n_call, n_var, n_int, n_bin, n_tup, n_bcl, rdV, rdB, List.getElem?_cons_zero, List.getElem?_cons_succ, Res.bind_ok, Res.map_ok, ofO_some, RV.d, FRes.res_ok, thenS_ok, List.set_cons_zero, List.set_cons_succ]
theorem new_3 {T : Tab} {p : Nat} (hp : T.fn p = some pullFn) (x y : Option RV) (os : List Ob) (b b1 b2 : Bag) (r1 r2 : Int) (stem : List Nat)
  (e3 : pullFn [.loc 0, .int (stem.length + 1)] ⟨.bag b :: os⟩ = .ok (.fz (.int r1)) ⟨.bag b1 :: os⟩)
  (e4 : pullFn [.loc 0, .int 26] ⟨.bag b1 :: os⟩ = .ok (.fz (.int r2)) ⟨.bag b2 :: os⟩)
   (z1 : opBcl .len [.str (S8 stem)] = some (.fz (.int stem.length))) (z9 : 2 ≤ LINE) :
  denS T (.tas [4, 5] (.tup (.cons (.call p (.cons (.var 0) (.cons (.bin .Add (.bcl .len (.cons (.var 3) .nil)) (.int 1)) .nil))) (.cons (.call p (.cons (.var 0) (.cons (.int 26) .nil))) .nil)))) [some (.fz (.loc 0)), x, y, some (.fz (.str (S8 stem))), none, none, none] ⟨.bag b :: os⟩ = .nx [some (.fz (.loc 0)), x, y, some (.fz (.str (S8 stem))), some (.fz (.int r1)), some (.fz (.int r2)), none] ⟨.bag b2 :: os⟩ := by
  simp only [tas_eq, hp, e3, e4, z1, opBin, Tg.put, setAll, n_str, n_join, n_lc, denB, denI, denEs, denBs, n_call, n_var, n_int, n_bin, n_tup, n_bcl, rdV, rdB, List.getElem?_cons_zero, List.getElem?_cons_succ, Res.bind_ok, Res.map_ok, ofO_some, RV.d, FRes.res_ok, thenS_ok, List.set_cons_zero, List.set_cons_succ, List.length_cons, List.length_nil, z9, Nat.zero_add, Nat.reduceAdd, if_true]

theorem new_4 {T : Tab} {p a : Nat} (hp : T.fn p = some pullFn) (m : Nat) (os : List Ob) (b b1 b2 b3 b4 : Bag) (r1 r3 r4 : Int) (stem : List Nat) (rs : List D)
  (e1 : pullFn [.loc 0, .int 6] ⟨.bag b :: os⟩ = .ok (.fz (.int r1)) ⟨.bag b1 :: os⟩) (y1 : opRng (.int r1) = some (rngD r1.toNat))
  (run1 : lcRun [6] (stemL T a) [some (.fz (.loc 0)), some (.fz (.int m)), some (.fz (.str (S8 abcL))), none, none, none, none] (rngD r1.toNat) ⟨.bag b1 :: os⟩ = .ok (.own (stem.map (fun c => .str (sgn c)))) [some (.fz (.loc 0)), some (.fz (.int m)), some (.fz (.str (S8 abcL))), none, none, none, none] ⟨.bag b2 :: os⟩)
  (y2 : opJoin (.str "") (.lst (stem.map fun c => .str (sgn c))) = some (.fz (.str (S8 stem))))
  (e3 : pullFn [.loc 0, .int (stem.length + 1)] ⟨.bag b2 :: os⟩ = .ok (.fz (.int r3)) ⟨.bag b3 :: os⟩)
  (e4 : pullFn [.loc 0, .int 26] ⟨.bag b3 :: os⟩ = .ok (.fz (.int r4)) ⟨.bag b4 :: os⟩)
  (z1 : opBcl .len [.str (S8 stem)] = some (.fz (.int stem.length))) (z9 : 2 ≤ LINE) (y3' : opRng (.int m) = some (rngD m))
  (run2 : lcRun [6] (nameL T) [some (.fz (.loc 0)), some (.fz (.int m)), some (.fz (.str (S8 abcL))), some (.fz (.str (S8 stem))), some (.fz (.int r3)), some (.fz (.int r4)), none] (rngD m) ⟨.bag b4 :: os⟩ = .ok (.own rs) [some (.fz (.loc 0)), some (.fz (.int m)), some (.fz (.str (S8 abcL))), some (.fz (.str (S8 stem))), some (.fz (.int r3)), some (.fz (.int r4)), none] ⟨.bag b4 :: os⟩) :
  newF T p a [.loc 0, .int m] ⟨.bag b :: os⟩ = .ok (.own rs) ⟨.bag b4 :: os⟩ := by
  show denDef T 2 7 (bNew p a) _ _ = _
  rw [e_def (T := T) (b := bNew p a) (np := 2) (n := 7) (ds := [.loc 0, .int m]) [some (.fz (.loc 0)), some (.fz (.int m)), none, none, none, none, none] rfl rfl]
  unfold bNew
  rw [e_cons, new_1 (some (.fz (.loc 0))) (some (.fz (.int m))), seq_nx, e_cons, new_2 hp _ os b b1 b2 r1 stem e1 y1 run1 y2, seq_nx, e_cons, new_3 hp _ _ os b2 b3 b4 r3 r4 stem e3 e4 z1 z9, seq_nx, e_cons, ret_eq, n_lc]
  simp only [denI, denB, rdB, List.getElem?_cons_zero, List.getElem?_cons_succ, Res.bind_ok, RV.d, y3', ofO_some, run2, thenS_ok, seq_rt, out_rt]
theorem new_ex {T Ta : Tab} {p a : Nat} (hp : T.fn p = some pullFn) (hpa : Ta.fn p = some pullFn) (ha : T.fn a = some (anyF Ta p)) (b : Bag) (os : List Ob) (m : Nat) (hm : m ≤ 26) :
    ∃ (stem : List Nat) (at_ first : Nat) (b' : Bag), newF T p a [.loc 0, .int m] ⟨.bag b :: os⟩ = .ok (.own ((List.range m).map fun k => .str (S8 (nameAt stem at_ first k)))) ⟨.bag b' :: os⟩ ∧ Lower stem ∧ stem.length ≤ 5 ∧ at_ ≤ stem.length ∧ first < 26 := by
  obtain ⟨r1, b1, e1, r1a, r1b⟩ := pull_ex b os (k := 6) (by omega) (by omega)
  obtain ⟨stem, b2, run1, hst, hsl⟩ := new_stem hpa ha b1 os (some (.fz (.int m))) rfl r1.toNat (by omega)
  have hsl : stem.length ≤ 5 := by omega
  obtain ⟨r3, b3, e3, r3a, r3b⟩ := pull_ex b2 os (k := (stem.length : Int) + 1) (by omega) (by omega)
  obtain ⟨r4, b4, e4, r4a, r4b⟩ := pull_ex b3 os (k := 26) (by omega) (by omega)
  obtain ⟨at_, rfl⟩ := Int.eq_ofNat_of_zero_le r3a
  obtain ⟨first, rfl⟩ := Int.eq_ofNat_of_zero_le r4a
  have r3b : at_ ≤ stem.length := by have : (at_ : Int) < stem.length + 1 := r3b; omega
  have r4b : first < 26 := by have : (first : Int) < 26 := r4b; omega
  refine ⟨stem, at_, first, b4, ?_, hst, hsl, r3b, r4b⟩
  have run2 := new_run (T := T) stem at_ first ⟨.bag b4 :: os⟩ (some (.fz (.int m))) m hm hsl r4b
  have y1 : opRng (.int r1) = some (rngD r1.toNat) := rng_ok (by omega) (by omega)
  have y3 : opRng (.int m) = some (rngD m) := rng_ok (by omega) (by omega)
  have y2 := join_ok stem (by omega)
  have z1 := slen_ok stem (by omega)
  have z9 : (2 : Nat) ≤ LINE := le_line (by decide)
  have y3' : opRng (.int m) = some (rngD m) := y3
  exact new_4 hp m os b b1 b2 b3 b4 r1 at_ first stem _ e1 y1 run1 y2 e3 e4 z1 z9 y3' run2
end Sh


/-! ShStd2: one call an item; lists of truths; the shared defs as entries. -/
namespace Sh
open PySem PySem.Spec PyProof.Rows L2
theorem lc_call {T : Tab} {i v : Nat} {m : Fn} {S : Mem} (hT : T.fn i = some m) (ρ : Rho) (hv : v < ρ.length) (hn : noOwn ρ [v] = true) (g : D → D) (ds : List D) (hl : ds.length ≤ LINE) (h : ∀ d ∈ ds, m [d] S = .ok (.fz (g d)) S) :
    lcRun [v] (lcBody T .nil (.call i (.cons (.var v) .nil)) (.name v)) ρ ds S = .ok (.own (ds.map g)) ρ S := by
  obtain ⟨ρ', e, hl', hI⟩ := lc_map (vs := [v]) (S := S) (f := lcBody T .nil (.call i (.cons (.var v) .nil)) (.name v)) (I := fun ρ' => ρ'.length = ρ.length ∧ ∀ j, j ≠ v → ρ'[j]? = ρ[j]?) (g := g) ds [] ρ ⟨rfl, fun _ _ => rfl⟩ (fun d hd ρ1 h1 => by
    obtain ⟨h1, h2⟩ := h1
    have hw : (wipeE ρ1 [v]).length = ρ.length := by show (ρ1.set v none).length = _; rw [List.length_set]; exact h1
    refine ⟨(wipeE ρ1 [v]).set v (some (.fz d)), ?_, by rw [List.length_set]; exact hw, fun j hj => ?_⟩
    · have hg : ((wipeE ρ1 [v]).set v (some (.fz d)))[v]? = some (some (.fz d)) := List.getElem?_set_self (by rw [hw]; exact hv)
      simp only [lcBody, Tg.put, ofO_some, Res.bind_ok, denC, if_true, n_call, hT, denEs, n_var, rdV, hg, RV.d, h d hd, FRes.res_ok]
    · rw [List.getElem?_set_ne (Ne.symm hj)]
      show (ρ1.set v none)[j]? = _
      rw [List.getElem?_set_ne (Ne.symm hj)]
      exact h2 j hj) (by simpa using hl)
  unfold lcRun
  rw [if_neg (by rw [hn]; decide), e]
  simp only [Res.bind_ok, List.nil_append]
  congr 1
  show (backE ρ ρ' []).set v (ρ[v]?.getD none) = ρ
  apply List.ext_getElem?
  intro j
  by_cases hj : j = v
  · subst hj
    rw [List.getElem?_set_self (by show j < ρ'.length; rw [hl']; exact hv), List.getElem?_eq_getElem hv]
    rfl
  · rw [List.getElem?_set_ne (Ne.symm hj)]
    exact hI j hj
theorem like_bls (i : Nat) (S : Mem) (k : Nat) (bs : List Bool) (h : bs.length ≤ 1000) : likeF i (k + 2) [.lst (bs.map .bl), .lst (bs.map .bl)] S = .ok (.fz (.bl true)) S := by
  refine like_ok i S (k + 2) _ ⟨le_line (by rw [List.length_map]; exact h), fun x hx => ?_⟩
  rw [List.mem_map] at hx
  obtain ⟨b, _, rfl⟩ := hx
  exact trivial
theorem allBl_map (p : Nat → Bool) : ∀ l : List Nat, allBl (l.map fun c => .bl (p c)) = some (l.all p)
  | [] => rfl
  | c :: l => by simp [allBl, allBl_map p l]
/-! ### entries -/
section
variable {P : Program} {w : World} {K : PySem.W.Frag} {mg : Str → Option Value} {base : Heap} {cad : Str → Option Addr} {F : List Str} {n : Nat}
/-- _law_like, k calls deep -/
theorem like_ent {k i : Nat} {st : Stmt} {f : Addr} {fd : FuncData} (Fu : Fun K "_law_like" "_law_like" st f fd) (S : FnScope ["_law_a", "_law_b", "_law_same", "_law_c", "_law_d"] ["_law_a", "_law_b"] (defScope st))
    (hc : compSs k ⟨F, ["_law_a", "_law_b", "_law_same", "_law_c", "_law_d"], defScope st, fun _ => true⟩ (defBody st) = some (bLike i)) (bl : ∀ b, b ∈ bltNames → mg b = none) (hi : F[i]? = some "_law_like")
    (hm : mg "_law_like" = some (.ref f)) (hb : Binds K fd ["_law_a", "_law_b"] []) : ∀ j : Nat, Ent P w K mg base cad j "_law_like" ["_law_a", "_law_b"] (likeF i j)
  | 0 => .none hm Fu.kp hb
  | j + 1 => Ent.of_def Fu S hc (TabOk.add (TabOk.emp bl) hi (like_ent Fu S hc bl hi hm hb j)) hm hb
end
end Sh


namespace Sh
open PySem PySem.Spec PyProof.Rows L2
abbrev FN : List Str := ["LETTERS", "is_number", "is_name", "_law_draws", "_law_pull", "_law_any", "_law_like", "_law_new_names", "law"]
abbrev s_isnumber : Stmt := top 2
abbrev p_isnumber : List Str := ["value"]
abbrev n_isnumber : List Str := ["value"]
def b_isnumber : LSs := .cons (.ret (.and (.isi (.var 0) ["int"]) (.not (.isi (.var 0) ["bool"])))) .nil
theorem sc_isnumber : FnScope n_isnumber p_isnumber (defScope s_isnumber) := ⟨rfl, rfl, rfl, by decide +kernel, rfl, by decide +kernel, by decide +kernel⟩
theorem c_isnumber : compSs 60 ⟨FN, n_isnumber, defScope s_isnumber, fun _ => true⟩ (defBody s_isnumber) = some b_isnumber := by kernel_rfl
abbrev s_isname : Stmt := top 3
abbrev p_isname : List Str := ["value"]
abbrev n_isname : List Str := ["value", "sign"]
def b_isname : LSs := .cons (.ret (.and (.isi (.var 0) ["str"]) (.and (.chn .LtE .LtE (.int 1) (.bcl .len (.cons (.var 0) .nil)) (.int 6)) (.bcl .all (.cons (.lc [1] (.cmp .In (.var 1) (.glob 0)) (.name 1) (.seq (.var 0)) (.nil)) .nil))))) .nil
theorem sc_isname : FnScope n_isname p_isname (defScope s_isname) := ⟨rfl, rfl, rfl, by decide +kernel, rfl, by decide +kernel, by decide +kernel⟩
theorem c_isname : compSs 60 ⟨FN, n_isname, defScope s_isname, fun _ => true⟩ (defBody s_isname) = some b_isname := by kernel_rfl
abbrev s_any : Stmt := top 7
abbrev p_any : List Str := ["_law_bag", "_law_rows"]
abbrev n_any : List Str := ["_law_bag", "_law_rows"]
abbrev b_any : LSs := bAny 4
theorem sc_any : FnScope n_any p_any (defScope s_any) := ⟨rfl, rfl, rfl, by decide +kernel, rfl, by decide +kernel, by decide +kernel⟩
theorem c_any : compSs 60 ⟨FN, n_any, defScope s_any, fun _ => true⟩ (defBody s_any) = some b_any := by kernel_rfl
abbrev s_like : Stmt := top 8
abbrev p_like : List Str := ["_law_a", "_law_b"]
abbrev n_like : List Str := ["_law_a", "_law_b", "_law_same", "_law_c", "_law_d"]
abbrev b_like : LSs := bLike 6
theorem sc_like : FnScope n_like p_like (defScope s_like) := ⟨rfl, rfl, rfl, by decide +kernel, rfl, by decide +kernel, by decide +kernel⟩
theorem c_like : compSs 60 ⟨FN, n_like, defScope s_like, fun _ => true⟩ (defBody s_like) = some b_like := by kernel_rfl
abbrev s_new_names : Stmt := top 9
abbrev p_new_names : List Str := ["_law_bag", "_law_many"]
abbrev n_new_names : List Str := ["_law_bag", "_law_many", "_law_abc", "_law_stem", "_law_at", "_law_first", "_law_k"]
abbrev b_new_names : LSs := bNew 4 5
theorem sc_new_names : FnScope n_new_names p_new_names (defScope s_new_names) := ⟨rfl, rfl, rfl, by decide +kernel, rfl, by decide +kernel, by decide +kernel⟩
theorem c_new_names : compSs 60 ⟨FN, n_new_names, defScope s_new_names, fun _ => true⟩ (defBody s_new_names) = some b_new_names := by kernel_rfl
abbrev s_law : Stmt := top 10
abbrev p_law : List Str := ["_law_script"]
abbrev n_law : List Str := ["_law_script", "_law_bag", "_law_names", "_law_at", "_law_bent", "_law_long", "_law_odd", "_law_near", "_law_found", "_law_value_z", "_law_name"]
def x0 : LS := .asg 1 (.call 3 (.cons (.var 0) .nil))
def x1 : LS := .asg 2 (.call 7 (.cons (.var 1) (.cons (.int 4) .nil)))
def x2 : LS := .asg 3 (.call 4 (.cons (.var 1) (.cons (.bin .Add (.bcl .len (.cons (.idx (.var 2) (.int 0)) .nil)) (.int 1)) .nil)))
def x3 : LS := .asg 4 (.bin .Add (.bin .Add (.slc (.idx (.var 2) (.int 0)) .no (.so (.var 3))) (.call 5 (.cons (.var 1) (.cons (.lst (.cons (.str "A") (.cons (.str "1") (.cons (.str " ") (.cons (.str "-") (.cons (.str "_") (.cons (.str "\n") (.cons (.str "Z") .nil)))))))) .nil)))) (.slc (.idx (.var 2) (.int 0)) (.so (.var 3)) .no))
def x4 : LS := .asg 5 (.bin .Add (.idx (.var 2) (.int 1)) (.slc (.str "abcdefg") (.so (.bcl .len (.cons (.idx (.var 2) (.int 1)) .nil))) .no))
def x5 : LS := .iff (.or (.not (.call 6 (.cons (.lc [10] (.call 2 (.cons (.var 10) .nil)) (.name 10) (.seq (.var 2)) (.nil)) (.cons (.rep (.cons (.bl true) .nil) (.int 4)) .nil)))) (.not (.call 6 (.cons (.lst (.cons (.callk 2 0 (.nil) ["value"] (.cons (.slc (.var 5) .no (.so (.int 6))) .nil)) (.cons (.call 2 (.cons (.var 5) .nil)) .nil))) (.cons (.lst (.cons (.bl true) (.cons (.bl false) .nil))) .nil))))) (.cons (.ret (.bl false)) .nil) (.nil)
def x6 : LS := .asg 6 (.lst (.cons (.var 4) (.cons (.str "") (.cons (.non) (.cons (.int 3) (.cons (.bl true) (.cons (.tup (.cons (.str "a") .nil)) (.cons (.lst (.cons (.str "a") .nil)) (.cons (.bin .Add (.idx (.var 2) (.int 2)) (.str " ")) .nil)))))))))
def x7 : LS := .iff (.not (.call 6 (.cons (.lc [9] (.call 2 (.cons (.var 9) .nil)) (.name 9) (.seq (.var 6)) (.nil)) (.cons (.rep (.cons (.bl false) .nil) (.int 8)) .nil)))) (.cons (.ret (.bl false)) .nil) (.nil)
def x8 : LS := .asg 7 (.call 4 (.cons (.var 1) (.cons (.bin .Pow (.int 10) (.int 9)) .nil)))
def x9 : LS := .asg 8 (.lc [9] (.call 1 (.cons (.var 9) .nil)) (.name 9) (.seq (.lst (.cons (.var 7) (.cons (.bin .Sub (.int 0) (.var 7)) (.cons (.int 0) (.cons (.bin .Pow (.int 10) (.int 29)) (.cons (.bl true) (.cons (.bl false) (.cons (.non) (.cons (.str "1") (.cons (.tup (.cons (.int 1) .nil)) .nil))))))))))) (.nil))
def x10 : LS := .ret (.call 6 (.cons (.bin .Add (.var 8) (.lst (.cons (.callk 1 0 (.nil) ["value"] (.cons (.var 7) .nil)) (.cons (.call 2 (.cons (.str "z") .nil)) (.cons (.call 2 (.cons (.str "abcxyz") .nil)) .nil))))) (.cons (.bin .Add (.bin .Add (.rep (.cons (.bl true) .nil) (.int 4)) (.rep (.cons (.bl false) .nil) (.int 5))) (.lst (.cons (.bl true) (.cons (.bl true) (.cons (.bl true) .nil))))) .nil)))
def b_law : LSs := .cons x0 (.cons x1 (.cons x2 (.cons x3 (.cons x4 (.cons x5 (.cons x6 (.cons x7 (.cons x8 (.cons x9 (.cons x10 (.nil)))))))))))
theorem sc_law : FnScope n_law p_law (defScope s_law) := ⟨rfl, rfl, rfl, by decide +kernel, rfl, by decide +kernel, by decide +kernel⟩
theorem c_law : compSs 60 ⟨FN, n_law, defScope s_law, fun _ => true⟩ (defBody s_law) = some b_law := by kernel_rfl
end Sh


namespace Sh
open PySem PySem.Spec PyProof.Rows L2
def T0 : Tab := Tab.emp.addG 0 (.str "abcdefghijklmnopqrstuvwxyz")
abbrev isnumF : Fn := denDef T0 1 1 b_isnumber
abbrev isnameF : Fn := denDef T0 1 2 b_isname
def T1 : Tab := T0.add 4 pullFn
def T2 : Tab := T1.add 5 (anyF T1 4)
def TL : Tab := ((((((((Tab.emp.add 1 isnumF).add 2 isnameF).add 3 drawsFn).add 4 pullFn).add 5 (anyF T1 4)).add 6 (likeF 6 3)).add 7 (newF T2 4 5)).addK 1 ["value"] 0 isnumF [0]).addK 2 ["value"] 0 isnameF [0]
theorem t1 : TL.fn 1 = some isnumF := by simp [TL]
theorem t2 : TL.fn 2 = some isnameF := by simp [TL]
theorem t3 : TL.fn 3 = some drawsFn := by simp [TL]
theorem t4 : TL.fn 4 = some pullFn := by simp [TL]
theorem t5 : TL.fn 5 = some (anyF T1 4) := by simp [TL]
theorem t6 : TL.fn 6 = some (likeF 6 3) := by simp [TL]
theorem t7 : TL.fn 7 = some (newF T2 4 5) := by simp [TL]
theorem tk1 : TL.fnk 1 ["value"] 0 = some (isnumF, [0]) := by simp [TL]
theorem tk2 : TL.fnk 2 ["value"] 0 = some (isnameF, [0]) := by simp [TL]
theorem isnum_val {d : D} {a b : Bool} (S : Mem) (h1 : isTys d ["int"] = some a) (h2 : isTys d ["bool"] = some b) : isnumF [d] S = .ok (.fz (.bl (a && !b))) S := by
  refine (e_def (T := T0) (b := b_isnumber) (np := 1) (n := 1) (ds := [d]) [some (.fz d)] rfl rfl).trans ?_
  cases a <;> simp only [b_isnumber, e_cons, e_nil, ret_eq, n_and, n_not, n_isi, denB, rdB, List.getElem?_cons_zero, Res.bind_ok, Res.map_ok, RV.d, h1, h2, ofO_some, tstR_bl, if_true, if_false, Bool.false_eq_true, thenS_ok, seq_rt, out_rt, Bool.true_and, Bool.false_and]
theorem isname_other {d : D} (S : Mem) (h1 : isTys d ["str"] = some false) : isnameF [d] S = .ok (.fz (.bl false)) S := by
  refine (e_def (T := T0) (b := b_isname) (np := 1) (n := 2) (ds := [d]) [some (.fz d), none] rfl rfl).trans ?_
  simp only [b_isname, e_cons, e_nil, ret_eq, n_and, n_isi, denB, rdB, List.getElem?_cons_zero, Res.bind_ok, Res.map_ok, RV.d, h1, ofO_some, tstR_bl, if_true, if_false, Bool.false_eq_true, thenS_ok, seq_rt, out_rt]
def nameV (l : List Nat) : Bool := decide (1 ≤ l.length) && (decide (l.length ≤ 6) && l.all fun c => decide (c ∈ abcL))
theorem name_items (l : List Nat) : itemsOf (.str (S8 l)) = some (l.map fun c => .str (sgn c)) := rfl
def inAbc (d : D) : D := match d with
  | .str x => .bl (decide (x.cps.toList.headD 0 ∈ abcL))
  | _ => .non
theorem in_lc (l : List Nat) (hl : l.length ≤ 1000) (S : Mem) : lcRun [1] (lcBody T0 .nil (.cmp .In (.var 1) (.glob 0)) (.name 1)) [some (.fz (.str (S8 l))), none] (l.map fun c => .str (sgn c)) S = .ok (.own (l.map fun c => .bl (decide (c ∈ abcL)))) [some (.fz (.str (S8 l))), none] S := by
  obtain ⟨ρ', e, x, h⟩ := lc_map (vs := [1]) (S := S) (f := lcBody T0 .nil (.cmp .In (.var 1) (.glob 0)) (.name 1)) (I := fun ρ => ∃ x, ρ = [some (.fz (.str (S8 l))), x]) (g := inAbc) (l.map fun c => .str (sgn c)) [] [some (.fz (.str (S8 l))), none] ⟨none, rfl⟩ (fun d hd ρ hI => by
    obtain ⟨x, rfl⟩ := hI
    rw [List.mem_map] at hd
    obtain ⟨c, hc, rfl⟩ := hd
    refine ⟨[some (.fz (.str (S8 l))), some (.fz (.str (sgn c)))], ?_, _, rfl⟩
    have hg : T0.gl 0 = some (.str (S8 abcL)) := by rw [← abc_eq]; simp [T0]
    have hi : opCmp .In (.str (sgn c)) (.str (S8 abcL)) = some (decide (c ∈ abcL)) := rfl
    simp only [lcBody, wipeE, Tg.put, List.set_cons_zero, List.set_cons_succ, ofO_some, Res.bind_ok, denC, if_true, n_cmp, n_glob, denB, rdB, List.getElem?_cons_zero, List.getElem?_cons_succ, hg, Res.map_ok, RV.d, hi]
    rfl) (le_line (by rw [List.length_map]; show 0 + l.length ≤ 1000; omega))
  unfold lcRun
  rw [if_neg (by simp [noOwn]), e, h]
  rw [List.nil_append, List.map_map]
  rfl
theorem isname_str (l : List Nat) (hl : l.length ≤ 1000) (S : Mem) : isnameF [.str (S8 l)] S = .ok (.fz (.bl (nameV l))) S := by
  refine (e_def (T := T0) (b := b_isname) (np := 1) (n := 2) (ds := [.str (S8 l)]) [some (.fz (.str (S8 l))), none] rfl rfl).trans ?_
  have h1 : isTys (.str (S8 l)) ["str"] = some true := rfl
  have h2 := slen_ok l hl
  have h3 := in_lc l hl S
  have h4 : opBcl .all [.lst (l.map fun c => .bl (decide (c ∈ abcL)))] = some (.fz (.bl (l.all fun c => decide (c ∈ abcL)))) := by
    show (allBl _).map _ = _
    rw [allBl_map]
    rfl
  have c1 : opCmp .LtE (.int 1) (.int l.length) = some (decide (1 ≤ l.length)) := by show some (decide _) = some (decide _); congr 1; simp only [decide_eq_decide]; omega
  have c2 : opCmp .LtE (.int l.length) (.int 6) = some (decide (l.length ≤ 6)) := by show some (decide _) = some (decide _); congr 1; simp only [decide_eq_decide]; omega
  unfold nameV
  by_cases a1 : 1 ≤ l.length
  · by_cases a2 : l.length ≤ 6
    · simp only [b_isname, e_cons, e_nil, ret_eq, n_and, n_isi, n_chn, n_int, n_bcl, n_lc, denI, denB, denBs, rdB, List.getElem?_cons_zero, List.getElem?_cons_succ, Res.bind_ok, Res.map_ok, RV.d, h1, h2, c1, c2, a1, a2, decide_true, name_items, h3, h4, ofO_some, tstR_bl, if_true, if_false, Bool.false_eq_true, thenS_ok, seq_rt, out_rt, Bool.true_and]
    · simp only [b_isname, e_cons, e_nil, ret_eq, n_and, n_isi, n_chn, n_int, n_bcl, denB, denBs, rdB, List.getElem?_cons_zero, List.getElem?_cons_succ, Res.bind_ok, Res.map_ok, RV.d, h1, h2, c1, c2, a1, a2, decide_true, decide_false, ofO_some, tstR_bl, if_true, if_false, Bool.false_eq_true, thenS_ok, seq_rt, out_rt, Bool.true_and, Bool.false_and]
  · simp only [b_isname, e_cons, e_nil, ret_eq, n_and, n_isi, n_chn, n_int, n_bcl, denB, denBs, rdB, List.getElem?_cons_zero, List.getElem?_cons_succ, Res.bind_ok, Res.map_ok, RV.d, h1, h2, c1, c2, a1, decide_true, decide_false, ofO_some, tstR_bl, if_true, if_false, Bool.false_eq_true, thenS_ok, seq_rt, out_rt, Bool.true_and, Bool.false_and]
theorem nameV_lower {l : List Nat} (h : Lower l) (h1 : 1 ≤ l.length) (h2 : l.length ≤ 6) : nameV l = true := by
  unfold nameV
  simp only [h1, h2, decide_true, Bool.true_and, List.all_eq_true, decide_eq_true_eq]
  exact h
theorem nameV_bad {l : List Nat} {c : Nat} (hc : c ∈ l) (h : c ∉ abcL) : nameV l = false := by
  have : (l.all fun c => decide (c ∈ abcL)) = false := by
    rw [List.all_eq_false]
    exact ⟨c, hc, by simpa using h⟩
  unfold nameV
  rw [this, Bool.and_false, Bool.and_false]
theorem nameV_long {l : List Nat} (h : 6 < l.length) : nameV l = false := by
  unfold nameV
  rw [decide_eq_false (p := l.length ≤ 6) (by omega), Bool.false_and, Bool.and_false]
/-! ### the law -/
abbrev fS (l : List Nat) : Option RV := some (.fz (.str (S8 l)))
abbrev dN (l : List Nat) : D := .str (S8 l)
theorem not_abc {c : Nat} (h : c < 97 ∨ 122 < c) : c ∉ abcL := fun hc => by have := lower_of hc; omega
theorem bent_ex (b : Bag) (os : List Ob) : ∃ c b', anyF T1 4 [.loc 0, .lst [.str "A", .str "1", .str " ", .str "-", .str "_", .str "\n", .str "Z"]] ⟨.bag b :: os⟩ = .ok (.fz (dN [c])) ⟨.bag b' :: os⟩ ∧ c ∉ abcL := by
  obtain ⟨x, b', e, hx⟩ := any_lst (T := T1) (p := 4) (by simp [T1]) b os [.str "A", .str "1", .str " ", .str "-", .str "_", .str "\n", .str "Z"] (by simp) (by simp)
  have q1 : ("A" : Str) = S8 [65] := by decide +kernel
  have q2 : ("1" : Str) = S8 [49] := by decide +kernel
  have q3 : (" " : Str) = S8 [32] := by decide +kernel
  have q4 : ("-" : Str) = S8 [45] := by decide +kernel
  have q5 : ("_" : Str) = S8 [95] := by decide +kernel
  have q6 : ("\n" : Str) = S8 [10] := by decide +kernel
  have q7 : ("Z" : Str) = S8 [90] := by decide +kernel
  have : ∃ c, x = dN [c] ∧ c ∉ abcL := by
    simp only [List.mem_cons, List.not_mem_nil, or_false, q1, q2, q3, q4, q5, q6, q7] at hx
    rcases hx with rfl | rfl | rfl | rfl | rfl | rfl | rfl
    · exact ⟨65, rfl, not_abc (by omega)⟩
    · exact ⟨49, rfl, not_abc (by omega)⟩
    · exact ⟨32, rfl, not_abc (by omega)⟩
    · exact ⟨45, rfl, not_abc (by omega)⟩
    · exact ⟨95, rfl, not_abc (by omega)⟩
    · exact ⟨10, rfl, not_abc (by omega)⟩
    · exact ⟨90, rfl, not_abc (by omega)⟩
  obtain ⟨c, rfl, hc⟩ := this
  exact ⟨c, b', e, hc⟩
theorem r0 (d : D) (S S' : Mem) (n : Nat) (h : drawsFn [d] S = .ok (.fz (.loc n)) S') : denS TL x0 [some (.fz d), none, none, none, none, none, none, none, none, none, none] S = .nx [some (.fz d), some (.fz (.loc n)), none, none, none, none, none, none, none, none, none] S' := by
  simp only [x0, asg_eq, n_call, t3, denEs, n_var, rdV, List.getElem?_cons_zero, Res.bind_ok, RV.d, h, FRes.res_ok, thenS_ok, List.set_cons_zero, List.set_cons_succ]
theorem r1 (x : Option RV) (S S' : Mem) (rs : List D) (h : newF T2 4 5 [.loc 0, .int 4] S = .ok (.own rs) S') : denS TL x1 [x, some (.fz (.loc 0)), none, none, none, none, none, none, none, none, none] S = .nx [x, some (.fz (.loc 0)), some (.own rs), none, none, none, none, none, none, none, none] S' := by
  simp only [x1, asg_eq, n_call, t7, denEs, n_var, n_int, rdV, List.getElem?_cons_zero, List.getElem?_cons_succ, Res.bind_ok, RV.d, h, FRes.res_ok, thenS_ok, List.set_cons_zero, List.set_cons_succ]
theorem at0 (x : D) (xs : List D) : opIdx (.lst (x :: xs)) (.int 0) = some (.fz x) := by
  show (atI (x :: xs) ((0 : Nat) : Int)).map _ = _
  rw [atI_nat]
  rfl
theorem at1 (x y : D) (xs : List D) : opIdx (.lst (x :: y :: xs)) (.int 1) = some (.fz y) := by
  show (atI (x :: y :: xs) ((1 : Nat) : Int)).map _ = _
  rw [atI_nat]
  rfl
theorem at2 (x y z : D) (xs : List D) : opIdx (.lst (x :: y :: z :: xs)) (.int 2) = some (.fz z) := by
  show (atI (x :: y :: z :: xs) ((2 : Nat) : Int)).map _ = _
  rw [atI_nat]
  rfl
theorem r2 (x : Option RV) (S S' : Mem) (n0 : List Nat) (rs : List D) (r : Int) (hl : n0.length ≤ 6) (h : pullFn [.loc 0, .int (n0.length + 1)] S = .ok (.fz (.int r)) S') : denS TL x2 [x, some (.fz (.loc 0)), some (.own (dN n0 :: rs)), none, none, none, none, none, none, none, none] S = .nx [x, some (.fz (.loc 0)), some (.own (dN n0 :: rs)), some (.fz (.int r)), none, none, none, none, none, none, none] S' := by
  have h2 := slen_ok n0 (by omega)
  simp only [x2, asg_eq, n_call, t4, denEs, denB, denBs, n_var, n_int, n_bin, n_bcl, n_idx, rdV, rdB, List.getElem?_cons_zero, List.getElem?_cons_succ, Res.bind_ok, Res.map_ok, RV.d, at0, ofO_some, h2, opBin, h, FRes.res_ok, thenS_ok, List.set_cons_zero, List.set_cons_succ]
theorem cat_ok (l m : List Nat) (h : l.length + m.length ≤ 1000) : opBin .Add (dN l) (dN m) = some (.fz (dN (l ++ m))) := by
  have := le_line h
  simp only [opBin, str_len, this, if_true, str_app]
theorem to_ok (l : List Nat) (i : Nat) (h : l.length ≤ 1000) : opSlc (dN l) none (some (i : Int)) = some (.fz (dN (l.take i))) := by
  have := le_line h
  simp only [opSlc, str_len, this, if_true, cut_to]
theorem from_ok (l : List Nat) (i : Nat) (h : l.length ≤ 1000) : opSlc (dN l) (some (i : Int)) none = some (.fz (dN (l.drop i))) := by
  have := le_line h
  simp only [opSlc, str_len, this, if_true, cut_from]
theorem r3 (x : Option RV) (b b' : Bag) (n0 : List Nat) (rs : List D) (i c : Nat) (hl : n0.length ≤ 6) (h : anyF T1 4 [.loc 0, .lst [.str "A", .str "1", .str " ", .str "-", .str "_", .str "\n", .str "Z"]] ⟨[.bag b]⟩ = .ok (.fz (dN [c])) ⟨[.bag b']⟩) :
    denS TL x3 [x, some (.fz (.loc 0)), some (.own (dN n0 :: rs)), some (.fz (.int i)), none, none, none, none, none, none, none] ⟨[.bag b]⟩ = .nx [x, some (.fz (.loc 0)), some (.own (dN n0 :: rs)), some (.fz (.int i)), fS (n0.take i ++ [c] ++ n0.drop i), none, none, none, none, none, none] ⟨[.bag b']⟩ := by
  have z1 := to_ok n0 i (by omega)
  have z2 := from_ok n0 i (by omega)
  have z3 := cat_ok (n0.take i) [c] (by rw [List.length_take, List.length_singleton]; omega)
  have z4 := cat_ok (n0.take i ++ [c]) (n0.drop i) (by rw [List.length_append, List.length_take, List.length_drop, List.length_singleton]; omega)
  have z9 : (7 : Nat) ≤ LINE := le_line (by decide)
  simp only [x3, asg_eq, n_call, t5, denEs, denB, denBs, denO, n_var, n_int, n_str, n_bin, n_bcl, n_idx, n_slc, n_lst, rdV, rdB, List.getElem?_cons_zero, List.getElem?_cons_succ, Res.bind_ok, Res.map_ok, RV.d, at0, ofO_some, z1, z2, z3, z4, h, FRes.res_ok, thenS_ok, List.set_cons_zero, List.set_cons_succ, List.length_cons, List.length_nil, Nat.zero_add, Nat.reduceAdd, z9, if_true]
def az7 : List Nat := [97, 98, 99, 100, 101, 102, 103]
theorem az7_eq : ("abcdefg" : Str) = S8 az7 := by decide +kernel
theorem r4 (x a b : Option RV) (S : Mem) (n0 n1 : List Nat) (rs : List D) (hl : n1.length ≤ 6) :
    denS TL x4 [x, some (.fz (.loc 0)), some (.own (dN n0 :: dN n1 :: rs)), a, b, none, none, none, none, none, none] S = .nx [x, some (.fz (.loc 0)), some (.own (dN n0 :: dN n1 :: rs)), a, b, fS (n1 ++ az7.drop n1.length), none, none, none, none, none] S := by
  have z0 := slen_ok n1 (by omega)
  have z2 := from_ok az7 n1.length (by show 7 ≤ 1000; decide)
  have z4 := cat_ok n1 (az7.drop n1.length) (by rw [List.length_drop]; show _ + (7 - _) ≤ _; omega)
  simp only [x4, asg_eq, denEs, denB, denBs, denO, n_var, n_int, n_str, n_bin, n_bcl, n_idx, n_slc, rdV, rdB, List.getElem?_cons_zero, List.getElem?_cons_succ, Res.bind_ok, Res.map_ok, RV.d, at1, ofO_some, z0, az7_eq, z2, z4, thenS_ok, List.set_cons_zero, List.set_cons_succ]
end Sh


namespace Sh
open PySem PySem.Spec PyProof.Rows L2
theorem rep_t4 : opRep [.bl true] (.int 4) = some (.own [.bl true, .bl true, .bl true, .bl true]) := rfl
theorem rep_f8 : opRep [.bl false] (.int 8) = some (.own [.bl false, .bl false, .bl false, .bl false, .bl false, .bl false, .bl false, .bl false]) := rfl
theorem rep_f5 : opRep [.bl false] (.int 5) = some (.own [.bl false, .bl false, .bl false, .bl false, .bl false]) := rfl
theorem pow9 : opBin .Pow (.int 10) (.int 9) = some (.fz (.int 1000000000)) := rfl
theorem pow29 : opBin .Pow (.int 10) (.int 29) = some (.fz (.int 100000000000000000000000000000)) := rfl
def gName (d : D) : D := match d with
  | .str x => .bl (nameV x.cps.toList)
  | _ => .bl false
def gNum (d : D) : D := match d with
  | .int _ => .bl true
  | _ => .bl false
/-- what the two tests may be asked of -/
def okName (d : D) : Prop := match d with
  | .str x => x.cps.toList.length ≤ 1000
  | .non => True
  | .int _ => True
  | .bl _ => True
  | .lst _ => True
  | .tup _ => True
  | _ => False
theorem isname_any (d : D) (h : okName d) (S : Mem) : isnameF [d] S = .ok (.fz (gName d)) S := by
  cases d with
  | str x => exact isname_str x.cps.toList h S
  | non => exact isname_other S rfl
  | int i => exact isname_other S rfl
  | bl b => exact isname_other S rfl
  | lst xs => exact isname_other S rfl
  | tup xs => exact isname_other S rfl
  | obj _ _ => exact h.elim
  | loc _ => exact h.elim
  | ty _ => exact h.elim
theorem isnum_any (d : D) (h : okName d) (S : Mem) : isnumF [d] S = .ok (.fz (gNum d)) S := by
  cases d with
  | str x => exact isnum_val (a := false) (b := false) S rfl rfl
  | non => exact isnum_val (a := false) (b := false) S rfl rfl
  | int i => exact isnum_val (a := true) (b := false) S rfl rfl
  | bl b => exact isnum_val (a := true) (b := true) S rfl rfl
  | lst xs => exact isnum_val (a := false) (b := false) S rfl rfl
  | tup xs => exact isnum_val (a := false) (b := false) S rfl rfl
  | obj _ _ => exact h.elim
  | loc _ => exact h.elim
  | ty _ => exact h.elim
theorem l1 : (1 : Nat) ≤ LINE := le_line (by decide)
theorem l2 : (2 : Nat) ≤ LINE := le_line (by decide)
theorem l3 : (3 : Nat) ≤ LINE := le_line (by decide)
theorem l8 : (8 : Nat) ≤ LINE := le_line (by decide)
theorem l9 : (9 : Nat) ≤ LINE := le_line (by decide)
theorem l12 : (12 : Nat) ≤ LINE := le_line (by decide)
theorem r5 (x a b : Option RV) (S : Mem) (n0 n1 n2 n3 lo : List Nat) (h0 : nameV n0 = true) (h1 : nameV n1 = true) (h2 : nameV n2 = true) (h3 : nameV n3 = true) (g0 : n0.length ≤ 6) (g1 : n1.length ≤ 6) (g2 : n2.length ≤ 6) (g3 : n3.length ≤ 6) (gl : lo.length ≤ 1000) (hl1 : nameV (lo.take 6) = true) (hl2 : nameV lo = false) :
    denS TL x5 [x, some (.fz (.loc 0)), some (.own [dN n0, dN n1, dN n2, dN n3]), a, b, fS lo, none, none, none, none, none] S = .nx [x, some (.fz (.loc 0)), some (.own [dN n0, dN n1, dN n2, dN n3]), a, b, fS lo, none, none, none, none, none] S := by
  have lc := lc_call (S := S) t2 [x, some (.fz (.loc 0)), some (.own [dN n0, dN n1, dN n2, dN n3]), a, b, fS lo, none, none, none, none, none] (v := 10) (by simp) rfl gName [dN n0, dN n1, dN n2, dN n3] (le_line (by simp)) (fun d hd => isname_any d (by
    simp only [List.mem_cons, List.not_mem_nil, or_false] at hd
    rcases hd with rfl | rfl | rfl | rfl
    · show n0.length ≤ 1000; omega
    · show n1.length ≤ 1000; omega
    · show n2.length ≤ 1000; omega
    · show n3.length ≤ 1000; omega) S)
  have e1 : [dN n0, dN n1, dN n2, dN n3].map gName = [.bl true, .bl true, .bl true, .bl true] := by
    show [D.bl (nameV n0), D.bl (nameV n1), D.bl (nameV n2), D.bl (nameV n3)] = _
    rw [h0, h1, h2, h3]
  rw [e1] at lc
  have k1 : likeF 6 3 [.lst [.bl true, .bl true, .bl true, .bl true], .lst [.bl true, .bl true, .bl true, .bl true]] S = .ok (.fz (.bl true)) S := like_bls 6 S 1 [true, true, true, true] (by simp)
  have k2 : likeF 6 3 [.lst [.bl true, .bl false], .lst [.bl true, .bl false]] S = .ok (.fz (.bl true)) S := like_bls 6 S 1 [true, false] (by simp)
  have i1 : isnameF [dN (lo.take 6)] S = .ok (.fz (.bl true)) S := by rw [← hl1]; exact isname_str _ (by rw [List.length_take]; omega) S
  have i2 : isnameF [dN lo] S = .ok (.fz (.bl false)) S := by rw [← hl2]; exact isname_str _ gl S
  have c1 : opSlc (dN lo) none (some 6) = some (.fz (dN (lo.take 6))) := to_ok lo 6 gl
  have it : itemsOf (.lst [dN n0, dN n1, dN n2, dN n3]) = some [dN n0, dN n1, dN n2, dN n3] := rfl
  simp only [x5, iff_eq, n_or, n_not, n_call, t6, denEs, n_lc, denI, denB, denO, n_var, n_int, n_bl, n_rep, n_lst, n_slc, n_callk, tk2, t2, rdV, rdB, List.getElem?_cons_zero, List.getElem?_cons_succ, Res.bind_ok, Res.map_ok, RV.d, ofO_some, it, lc, rep_t4, k1, k2, i1, i2, c1, FRes.res_ok, tstR_bl, Bool.not_true, Bool.false_eq_true, if_false, List.length_cons, List.length_nil, Nat.zero_add, Nat.reduceAdd, l1, l2, and_self, if_true, List.nil_append, pick, thenS_ok, e_nil]
theorem r6 (x a : Option RV) (S : Mem) (n0 n1 n2 n3 be lo : List Nat) (g2 : n2.length ≤ 6) :
    denS TL x6 [x, some (.fz (.loc 0)), some (.own [dN n0, dN n1, dN n2, dN n3]), a, fS be, fS lo, none, none, none, none, none] S = .nx [x, some (.fz (.loc 0)), some (.own [dN n0, dN n1, dN n2, dN n3]), a, fS be, fS lo, some (.own [dN be, dN [], .non, .int 3, .bl true, .tup [dN [97]], .lst [dN [97]], dN (n2 ++ [32])]), none, none, none, none] S := by
  have q1 : ("" : Str) = S8 [] := by decide +kernel
  have q2 : ("a" : Str) = S8 [97] := by decide +kernel
  have q3 : (" " : Str) = S8 [32] := by decide +kernel
  have z := cat_ok n2 [32] (by rw [List.length_singleton]; omega)
  simp only [x6, asg_eq, n_lst, n_tup, n_var, n_str, n_non, n_int, n_bl, n_bin, n_idx, denEs, denB, rdV, rdB, List.getElem?_cons_zero, List.getElem?_cons_succ, Res.bind_ok, Res.map_ok, RV.d, ofO_some, at2, q1, q2, q3, z, List.length_cons, List.length_nil, Nat.zero_add, Nat.reduceAdd, l1, l8, if_true, thenS_ok, List.set_cons_zero, List.set_cons_succ]
theorem r7 (x n a lo : Option RV) (S : Mem) (be n2 : List Nat) (hb : nameV be = false) (gb : be.length ≤ 1000) (g2 : n2.length ≤ 6) :
    denS TL x7 [x, some (.fz (.loc 0)), n, a, fS be, lo, some (.own [dN be, dN [], .non, .int 3, .bl true, .tup [dN [97]], .lst [dN [97]], dN (n2 ++ [32])]), none, none, none, none] S = .nx [x, some (.fz (.loc 0)), n, a, fS be, lo, some (.own [dN be, dN [], .non, .int 3, .bl true, .tup [dN [97]], .lst [dN [97]], dN (n2 ++ [32])]), none, none, none, none] S := by
  have hsp : nameV (n2 ++ [32]) = false := nameV_bad (c := 32) (by simp) (not_abc (by omega))
  have lc := lc_call (S := S) t2 [x, some (.fz (.loc 0)), n, a, fS be, lo, some (.own [dN be, dN [], .non, .int 3, .bl true, .tup [dN [97]], .lst [dN [97]], dN (n2 ++ [32])]), none, none, none, none] (v := 9) (by simp) rfl gName [dN be, dN [], .non, .int 3, .bl true, .tup [dN [97]], .lst [dN [97]], dN (n2 ++ [32])] (le_line (by simp)) (fun d hd => isname_any d (by
    simp only [List.mem_cons, List.not_mem_nil, or_false] at hd
    rcases hd with rfl | rfl | rfl | rfl | rfl | rfl | rfl | rfl
    · exact gb
    · show 0 ≤ 1000; omega
    · exact trivial
    · exact trivial
    · exact trivial
    · exact trivial
    · exact trivial
    · show (n2 ++ [32]).length ≤ 1000
      rw [List.length_append, List.length_singleton]; omega) S)
  have e1 : [dN be, dN [], .non, .int 3, .bl true, .tup [dN [97]], .lst [dN [97]], dN (n2 ++ [32])].map gName = [.bl false, .bl false, .bl false, .bl false, .bl false, .bl false, .bl false, .bl false] := by
    show [D.bl (nameV be), .bl (nameV []), .bl false, .bl false, .bl false, .bl false, .bl false, D.bl (nameV (n2 ++ [32]))] = _
    rw [hb, hsp]
    rfl
  rw [e1] at lc
  have k1 : likeF 6 3 [.lst [.bl false, .bl false, .bl false, .bl false, .bl false, .bl false, .bl false, .bl false], .lst [.bl false, .bl false, .bl false, .bl false, .bl false, .bl false, .bl false, .bl false]] S = .ok (.fz (.bl true)) S := like_bls 6 S 1 [false, false, false, false, false, false, false, false] (by simp)
  have it : itemsOf (.lst [dN be, dN [], .non, .int 3, .bl true, .tup [dN [97]], .lst [dN [97]], dN (n2 ++ [32])]) = some [dN be, dN [], .non, .int 3, .bl true, .tup [dN [97]], .lst [dN [97]], dN (n2 ++ [32])] := rfl
  simp only [x7, iff_eq, n_not, n_call, t6, denEs, n_lc, denI, denB, n_int, n_bl, n_rep, rdV, rdB, List.getElem?_cons_zero, List.getElem?_cons_succ, Res.bind_ok, Res.map_ok, RV.d, ofO_some, it, lc, rep_f8, k1, FRes.res_ok, tstR_bl, Bool.not_true, Bool.false_eq_true, if_false, List.length_cons, List.length_nil, Nat.zero_add, Nat.reduceAdd, l1, if_true, thenS_ok, e_nil]
theorem r8 (x n a be lo od : Option RV) (S S' : Mem) (r : Int) (h : pullFn [.loc 0, .int 1000000000] S = .ok (.fz (.int r)) S') :
    denS TL x8 [x, some (.fz (.loc 0)), n, a, be, lo, od, none, none, none, none] S = .nx [x, some (.fz (.loc 0)), n, a, be, lo, od, some (.fz (.int r)), none, none, none] S' := by
  simp only [x8, asg_eq, n_call, t4, denEs, n_var, n_int, n_bin, denB, rdV, List.getElem?_cons_zero, List.getElem?_cons_succ, Res.bind_ok, Res.map_ok, RV.d, pow9, ofO_some, h, FRes.res_ok, thenS_ok, List.set_cons_zero, List.set_cons_succ]
theorem sub_ok (i j : Int) : opBin .Sub (.int i) (.int j) = some (.fz (.int (i - j))) := rfl
theorem r9 (x n a be lo od : Option RV) (S : Mem) (r : Int) :
    denS TL x9 [x, some (.fz (.loc 0)), n, a, be, lo, od, some (.fz (.int r)), none, none, none] S = .nx [x, some (.fz (.loc 0)), n, a, be, lo, od, some (.fz (.int r)), some (.own [.bl true, .bl true, .bl true, .bl true, .bl false, .bl false, .bl false, .bl false, .bl false]), none, none] S := by
  have q1 : ("1" : Str) = S8 [49] := by decide +kernel
  have lc := lc_call (S := S) t1 [x, some (.fz (.loc 0)), n, a, be, lo, od, some (.fz (.int r)), none, none, none] (v := 9) (by simp) rfl gNum [.int r, .int (0 - r), .int 0, .int 100000000000000000000000000000, .bl true, .bl false, .non, dN [49], .tup [.int 1]] (le_line (by simp)) (fun d hd => isnum_any d (by
    simp only [List.mem_cons, List.not_mem_nil, or_false] at hd
    rcases hd with rfl | rfl | rfl | rfl | rfl | rfl | rfl | rfl | rfl
    · exact trivial
    · exact trivial
    · exact trivial
    · exact trivial
    · exact trivial
    · exact trivial
    · exact trivial
    · show 1 ≤ 1000; omega
    · exact trivial) S)
  have e1 : [.int r, .int (0 - r), .int 0, .int 100000000000000000000000000000, .bl true, .bl false, .non, dN [49], .tup [.int 1]].map gNum = [.bl true, .bl true, .bl true, .bl true, .bl false, .bl false, .bl false, .bl false, .bl false] := rfl
  rw [e1] at lc
  have it : ∀ xs, itemsOf (.lst xs) = some xs := fun _ => rfl
  simp only [x9, asg_eq, n_lc, denI, denB, denEs, n_lst, n_tup, n_var, n_int, n_bl, n_non, n_str, n_bin, rdV, rdB, List.getElem?_cons_zero, List.getElem?_cons_succ, Res.bind_ok, Res.map_ok, RV.d, sub_ok, pow29, q1, ofO_some, List.length_cons, List.length_nil, Nat.zero_add, Nat.reduceAdd, l1, l9, if_true, it, lc, thenS_ok, List.set_cons_zero, List.set_cons_succ]
theorem catL_ok (xs ys : List D) (h : xs.length + ys.length ≤ LINE) : opBin .Add (.lst xs) (.lst ys) = some (.own (xs ++ ys)) := by
  simp only [opBin, h, if_true]
theorem r10 (x n a be lo od : Option RV) (S : Mem) (r : Int) :
    denS TL x10 [x, some (.fz (.loc 0)), n, a, be, lo, od, some (.fz (.int r)), some (.own [.bl true, .bl true, .bl true, .bl true, .bl false, .bl false, .bl false, .bl false, .bl false]), none, none] S = .rt (.fz (.bl true)) S := by
  have q1 : ("z" : Str) = S8 [122] := by decide +kernel
  have q2 : ("abcxyz" : Str) = S8 [97, 98, 99, 120, 121, 122] := by decide +kernel
  have i1 : isnumF [.int r] S = .ok (.fz (.bl true)) S := isnum_any (.int r) trivial S
  have i2 : isnameF [dN [122]] S = .ok (.fz (.bl true)) S := by
    have := isname_str [122] (by simp) S
    rw [show nameV [122] = true by decide] at this
    exact this
  have i3 : isnameF [dN [97, 98, 99, 120, 121, 122]] S = .ok (.fz (.bl true)) S := by
    have := isname_str [97, 98, 99, 120, 121, 122] (by simp) S
    rw [show nameV [97, 98, 99, 120, 121, 122] = true by decide] at this
    exact this
  have k1 : likeF 6 3 [.lst [.bl true, .bl true, .bl true, .bl true, .bl false, .bl false, .bl false, .bl false, .bl false, .bl true, .bl true, .bl true], .lst [.bl true, .bl true, .bl true, .bl true, .bl false, .bl false, .bl false, .bl false, .bl false, .bl true, .bl true, .bl true]] S = .ok (.fz (.bl true)) S := like_bls 6 S 1 [true, true, true, true, false, false, false, false, false, true, true, true] (by simp)
  have c1 : opBin .Add (.lst [.bl true, .bl true, .bl true, .bl true, .bl false, .bl false, .bl false, .bl false, .bl false]) (.lst [.bl true, .bl true, .bl true]) = some (.own [.bl true, .bl true, .bl true, .bl true, .bl false, .bl false, .bl false, .bl false, .bl false, .bl true, .bl true, .bl true]) := catL_ok _ _ l12
  have c2 : opBin .Add (.lst [.bl true, .bl true, .bl true, .bl true]) (.lst [.bl false, .bl false, .bl false, .bl false, .bl false]) = some (.own [.bl true, .bl true, .bl true, .bl true, .bl false, .bl false, .bl false, .bl false, .bl false]) := catL_ok _ _ l9
  simp only [x10, ret_eq, n_call, n_callk, t6, t1, t2, tk1, denB, denEs, n_lst, n_var, n_int, n_bl, n_str, n_bin, n_rep, rdV, rdB, List.getElem?_cons_zero, List.getElem?_cons_succ, Res.bind_ok, Res.map_ok, RV.d, q1, q2, i1, i2, i3, FRes.res_ok, rep_t4, rep_f5, c1, c2, k1, ofO_some, List.length_cons, List.length_nil, Nat.zero_add, Nat.reduceAdd, l1, l3, and_self, if_true, List.nil_append, pick, thenS_ok]
theorem law_true (ns : List Int) (h : ns.length ≤ 63) : ∃ S, denDef TL 1 11 b_law [.lst (ns.map .int)] ⟨[]⟩ = .ok (.fz (.bl true)) S := by
  obtain ⟨b0, e0⟩ := draws_ex (ns := ns) (by omega)
  obtain ⟨st, at_, fi, b1, e1, hst, hsl, hat, hfi⟩ := new_ex (T := T2) (Ta := T1) (p := 4) (a := 5) (by simp [T2, T1]) (by simp [T1]) (by simp [T2]) b0 [] 4 (by decide)
  have gl : ∀ k, (nameAt st at_ fi k).length ≤ 6 ∧ 1 ≤ (nameAt st at_ fi k).length := fun k => by rw [nameAt_len]; omega
  have gv : ∀ k, nameV (nameAt st at_ fi k) = true := fun k => nameV_lower (nameAt_lower hst at_ fi k) (gl k).2 (gl k).1
  have e1' : newF T2 4 5 [.loc 0, .int 4] ⟨[.bag b0]⟩ = .ok (.own [dN (nameAt st at_ fi 0), dN (nameAt st at_ fi 1), dN (nameAt st at_ fi 2), dN (nameAt st at_ fi 3)]) ⟨[.bag b1]⟩ := e1
  clear e1
  generalize hn0 : nameAt st at_ fi 0 = n0 at e1'
  generalize hn1 : nameAt st at_ fi 1 = n1 at e1'
  generalize hn2 : nameAt st at_ fi 2 = n2 at e1'
  generalize hn3 : nameAt st at_ fi 3 = n3 at e1'
  have g0 := gl 0; have g1 := gl 1; have g2 := gl 2; have g3 := gl 3
  have v0 := gv 0; have v1 := gv 1; have v2 := gv 2; have v3 := gv 3
  have w1 := nameAt_lower hst at_ fi 1
  rw [hn0] at g0 v0; rw [hn1] at g1 v1 w1; rw [hn2] at g2 v2; rw [hn3] at g3 v3
  obtain ⟨i, b2, e2, i0, i1⟩ := pull_ex b1 [] (k := (n0.length : Int) + 1) (by omega) (by omega)
  obtain ⟨i, rfl⟩ := Int.eq_ofNat_of_zero_le i0
  obtain ⟨c, b3, e3, hc⟩ := bent_ex b2 []
  obtain ⟨r, b4, e4, _, _⟩ := pull_ex b3 [] (k := 1000000000) (by omega) (by omega)
  have hb : nameV (n0.take i ++ [c] ++ n0.drop i) = false := nameV_bad (c := c) (by simp) hc
  have hbl : (n0.take i ++ [c] ++ n0.drop i).length ≤ 1000 := by
    rw [List.length_append, List.length_append, List.length_take, List.length_drop, List.length_singleton]; omega
  have lol : (n1 ++ az7.drop n1.length).length = 7 := by
    rw [List.length_append, List.length_drop]
    show n1.length + (7 - n1.length) = 7
    omega
  have low : Lower (n1 ++ az7.drop n1.length) := by
    intro d hd
    rcases List.mem_append.mp hd with hd | hd
    · exact w1 d hd
    · have : ∀ d ∈ az7, d ∈ abcL := by decide
      exact this d (List.mem_of_mem_drop hd)
  have lo1 : nameV ((n1 ++ az7.drop n1.length).take 6) = true := nameV_lower (fun d hd => low d (List.mem_of_mem_take hd)) (by rw [List.length_take, lol]; decide) (by rw [List.length_take, lol]; decide)
  have lo2 : nameV (n1 ++ az7.drop n1.length) = false := nameV_long (by rw [lol]; decide)
  refine ⟨⟨[.bag b4]⟩, ?_⟩
  refine (e_def (T := TL) (b := b_law) (np := 1) (n := 11) (ds := [.lst (ns.map .int)]) [some (.fz (.lst (ns.map .int))), none, none, none, none, none, none, none, none, none, none] rfl rfl).trans ?_
  unfold b_law
  rw [e_cons, r0 _ _ _ 0 e0, seq_nx, e_cons, r1 _ _ _ _ e1', seq_nx, e_cons, r2 _ _ _ n0 _ i g0.1 e2, seq_nx, e_cons, r3 _ b2 b3 n0 _ i c g0.1 e3, seq_nx, e_cons, r4 _ _ _ _ n0 n1 _ g1.1, seq_nx,
    e_cons, r5 _ _ _ _ n0 n1 n2 n3 _ v0 v1 v2 v3 g0.1 g1.1 g2.1 g3.1 (by rw [lol]; decide) lo1 lo2, seq_nx, e_cons, r6 _ _ _ n0 n1 n2 n3 _ _ g2.1, seq_nx, e_cons, r7 _ _ _ _ _ _ n2 hb hbl g2.1, seq_nx, e_cons, r8 _ _ _ _ _ _ _ _ r e4, seq_nx, e_cons, r9, seq_nx, e_cons, r10]
  rfl
end Sh


namespace Sh
open PySem PySem.Spec PyProof.Rows L2
abbrev cad0 : Str → Option Addr := fun _ => none
abbrev spLaw (K : PySem.W.Frag) : Sp := spOf ⟨K, cad0⟩ 1 (denDef TL 1 11 b_law)
theorem draws_len (ds : List D) (S : Mem) (h : drawsFn ds S ≠ .bad) : ds.length = 1 := by
  unfold drawsFn at h
  split at h
  · rfl
  · exact (h rfl).elim
theorem pull_len (ds : List D) (S : Mem) (h : pullFn ds S ≠ .bad) : ds.length = 2 := by
  unfold pullFn at h
  split at h
  · rfl
  · exact (h rfl).elim
theorem bind1 {fd : FuncData} {x : Str} (h : ∀ (s : Shared) (v : Value), BindsTo s fd ⟨[], [(x, v)]⟩ [(x, v)]) (s : Shared) (us ws xs : List Value) (hu : us.length = 0) (hw : ws.length = 1) (hp : pick [0] (us ++ ws) = some xs) : BindsTo s fd ⟨us, [x].zip ws⟩ ([x].zip xs) := by
  cases us with
  | cons _ _ => cases hu
  | nil =>
    match ws, hw with
    | [v], _ =>
      cases hp
      exact h s v
theorem all_mk {l : PySem.W.OpenLaw} {w : World} {K : PySem.W.Frag} {h : Heap} {mg : Str → Option Value} {fa f1 f2 f3 f4 f5 f6 f7 f8 : Addr} {tL : Tok} (X : K.In h) (G : h.Ns mainGlobals mg) (hfa : mg "law" = some (.ref fa))
    {od1 an1 od2 an2 od3 an3 od4 an4 od5 an5 od6 an6 od7 an7 od8 an8 : Option Addr} {sl1 sl2 sl3 sl4 sl5 sl6 sl7 sl8 : Array (Option Value)} {oc1 kV1 dc1 pm1 cd1 ct1 oc2 kV2 dc2 pm2 cd2 ct2 oc3 kV3 dc3 pm3 cd3 ct3 oc4 kV4 dc4 pm4 cd4 ct4 oc5 kV5 dc5 pm5 cd5 ct5 oc6 kV6 dc6 pm6 cd6 ct6 oc7 kV7 dc7 pm7 cd7 ct7 oc8 kV8 dc8 pm8 cd8 ct8 : Value}
    (a1 : PySem.W.nsIn K mainGlobals "is_number" = some (some (.ref f1))) (l1 : K.lookup f1 = some ⟨oc1, od1, .func (PySem.W.fnOf "is_number" "is_number" (defArgs s_isnumber) (defBody s_isnumber) (defScope s_isnumber) .none kV1 dc1 pm1 an1 cd1 ct1), sl1⟩) (c1 : PySem.W.codeIn K cd1 "is_number" = true) (k1 : PySem.W.keepIn K (.ref f1) = true)
    (a2 : PySem.W.nsIn K mainGlobals "is_name" = some (some (.ref f2))) (l2 : K.lookup f2 = some ⟨oc2, od2, .func (PySem.W.fnOf "is_name" "is_name" (defArgs s_isname) (defBody s_isname) (defScope s_isname) .none kV2 dc2 pm2 an2 cd2 ct2), sl2⟩) (c2 : PySem.W.codeIn K cd2 "is_name" = true) (k2 : PySem.W.keepIn K (.ref f2) = true)
    (a3 : PySem.W.nsIn K mainGlobals "_law_draws" = some (some (.ref f3))) (l3 : K.lookup f3 = some ⟨oc3, od3, .func (PySem.W.fnOf "_law_draws" "_law_draws" (defArgs sDraws) (defBody sDraws) (defScope sDraws) .none kV3 dc3 pm3 an3 cd3 ct3), sl3⟩) (c3 : PySem.W.codeIn K cd3 "_law_draws" = true) (k3 : PySem.W.keepIn K (.ref f3) = true)
    (a4 : PySem.W.nsIn K mainGlobals "_law_pull" = some (some (.ref f4))) (l4 : K.lookup f4 = some ⟨oc4, od4, .func (PySem.W.fnOf "_law_pull" "_law_pull" (defArgs sPull) (defBody sPull) (defScope sPull) .none kV4 dc4 pm4 an4 cd4 ct4), sl4⟩) (c4 : PySem.W.codeIn K cd4 "_law_pull" = true) (k4 : PySem.W.keepIn K (.ref f4) = true)
    (a5 : PySem.W.nsIn K mainGlobals "_law_any" = some (some (.ref f5))) (l5 : K.lookup f5 = some ⟨oc5, od5, .func (PySem.W.fnOf "_law_any" "_law_any" (defArgs s_any) (defBody s_any) (defScope s_any) .none kV5 dc5 pm5 an5 cd5 ct5), sl5⟩) (c5 : PySem.W.codeIn K cd5 "_law_any" = true) (k5 : PySem.W.keepIn K (.ref f5) = true)
    (a6 : PySem.W.nsIn K mainGlobals "_law_like" = some (some (.ref f6))) (l6 : K.lookup f6 = some ⟨oc6, od6, .func (PySem.W.fnOf "_law_like" "_law_like" (defArgs s_like) (defBody s_like) (defScope s_like) .none kV6 dc6 pm6 an6 cd6 ct6), sl6⟩) (c6 : PySem.W.codeIn K cd6 "_law_like" = true) (k6 : PySem.W.keepIn K (.ref f6) = true)
    (a7 : PySem.W.nsIn K mainGlobals "_law_new_names" = some (some (.ref f7))) (l7 : K.lookup f7 = some ⟨oc7, od7, .func (PySem.W.fnOf "_law_new_names" "_law_new_names" (defArgs s_new_names) (defBody s_new_names) (defScope s_new_names) .none kV7 dc7 pm7 an7 cd7 ct7), sl7⟩) (c7 : PySem.W.codeIn K cd7 "_law_new_names" = true) (k7 : PySem.W.keepIn K (.ref f7) = true)
    (a8 : PySem.W.nsIn K mainGlobals "law" = some (some (.ref f8))) (l8 : K.lookup f8 = some ⟨oc8, od8, .func (PySem.W.fnOf "law" "law" (defArgs s_law) (defBody s_law) (defScope s_law) .none kV8 dc8 pm8 an8 cd8 ct8), sl8⟩) (c8 : PySem.W.codeIn K cd8 "law" = true) (k8 : PySem.W.keepIn K (.ref f8) = true)
    (z1 : PySem.W.nsIn K mainGlobals "len" = some none) (z2 : PySem.W.nsIn K mainGlobals "int" = some none) (z3 : PySem.W.nsIn K mainGlobals "all" = some none) (z4 : PySem.W.nsIn K mainGlobals "list" = some none) (z5 : PySem.W.nsIn K mainGlobals "tuple" = some none) (z6 : PySem.W.nsIn K mainGlobals "isinstance" = some none) (z7 : PySem.W.nsIn K mainGlobals "str" = some none) (z8 : PySem.W.nsIn K mainGlobals "bool" = some none) (z9 : PySem.W.nsIn K mainGlobals "range" = some none) (z10 : PySem.W.nsIn K mainGlobals "zip" = some none)
    (gL : PySem.W.nsIn K mainGlobals "LETTERS" = some (some (.str "abcdefghijklmnopqrstuvwxyz" tL))) :
    ∃ fd : FuncData, (∀ (s : Shared) (v : Value), BindsTo s fd ⟨[v], []⟩ [("_law_script", v)]) ∧ ∀ base : Heap, K.In base → base.Ns mainGlobals mg → FnOk l.prog w K mg base (L2.CX l.prog w) 6 fa fd ["_law_script"] (spLaw K) := by
  have e := hfa.symm.trans (PySem.W.mg_of X G a8)
  cases e
  have bl : ∀ b, b ∈ bltNames → mg b = none := by
    intro b hb
    simp only [bltNames, List.mem_cons, List.not_mem_nil, or_false] at hb
    rcases hb with rfl | rfl | rfl | rfl | rfl | rfl | rfl | rfl | rfl | rfl
    · exact PySem.W.mg_none_of X G z1
    · exact PySem.W.mg_none_of X G z2
    · exact PySem.W.mg_none_of X G z3
    · exact PySem.W.mg_none_of X G z4
    · exact PySem.W.mg_none_of X G z5
    · exact PySem.W.mg_none_of X G z6
    · exact PySem.W.mg_none_of X G z7
    · exact PySem.W.mg_none_of X G z8
    · exact PySem.W.mg_none_of X G z9
    · exact PySem.W.mg_none_of X G z10
  have F1 := fun_mk (x := "is_number") (st := s_isnumber) l1 c1 k1
  have b1 := F1.binds (ps := p_isnumber) fun _ _ _ _ _ _ us hl => match us, hl with | [_], _ => rfl
  have m1 := PySem.W.mg_of X G a1
  have F2 := fun_mk (x := "is_name") (st := s_isname) l2 c2 k2
  have b2 := F2.binds (ps := p_isname) fun _ _ _ _ _ _ us hl => match us, hl with | [_], _ => rfl
  have m2 := PySem.W.mg_of X G a2
  have F3 := fun_mk (x := "_law_draws") (st := sDraws) l3 c3 k3
  have b3 := F3.binds (ps := ["_law_script"]) fun _ _ _ _ _ _ us hl => match us, hl with | [_], _ => rfl
  have m3 := PySem.W.mg_of X G a3
  have F4 := fun_mk (x := "_law_pull") (st := sPull) l4 c4 k4
  have b4 := F4.binds (ps := ["_law_bag", "_law_sides"]) fun _ _ _ _ _ _ us hl => match us, hl with | [_, _], _ => rfl
  have m4 := PySem.W.mg_of X G a4
  have F5 := fun_mk (x := "_law_any") (st := s_any) l5 c5 k5
  have b5 := F5.binds (ps := p_any) fun _ _ _ _ _ _ us hl => match us, hl with | [_, _], _ => rfl
  have m5 := PySem.W.mg_of X G a5
  have F6 := fun_mk (x := "_law_like") (st := s_like) l6 c6 k6
  have b6 := F6.binds (ps := p_like) fun _ _ _ _ _ _ us hl => match us, hl with | [_, _], _ => rfl
  have m6 := PySem.W.mg_of X G a6
  have F7 := fun_mk (x := "_law_new_names") (st := s_new_names) l7 c7 k7
  have b7 := F7.binds (ps := p_new_names) fun _ _ _ _ _ _ us hl => match us, hl with | [_, _], _ => rfl
  have m7 := PySem.W.mg_of X G a7
  have F8 := fun_mk (x := "law") (st := s_law) l8 c8 k8
  refine ⟨PySem.W.fnOf "law" "law" (defArgs s_law) (defBody s_law) (defScope s_law) .none kV8 dc8 pm8 an8 cd8 ct8, fun s v => .of_eq rfl, fun base _ _ => ?_⟩
  have q0 : TabOk l.prog w K mg base cad0 FN T0 0 := TabOk.addG (TabOk.emp bl) rfl (PySem.W.mg_of X G gL) (v := .str "abcdefghijklmnopqrstuvwxyz") ⟨_, rfl⟩ fun _ _ => .str _
  have n1 : Ent l.prog w K mg base cad0 1 "is_number" p_isnumber isnumF := Ent.of_def F1 sc_isnumber c_isnumber q0 m1 b1
  have n2 : Ent l.prog w K mg base cad0 1 "is_name" p_isname isnameF := Ent.of_def F2 sc_isname c_isname q0 m2 b2
  have n3 : Ent l.prog w K mg base cad0 1 "_law_draws" ["_law_script"] drawsFn := .of_fn m3 k3 (ok_draws cad0 F3 (bl _ (by decide +kernel)) (bl _ (by decide +kernel))) b3 draws_len
  have n4 : Ent l.prog w K mg base cad0 1 "_law_pull" ["_law_bag", "_law_sides"] pullFn := .of_fn m4 k4 (ok_pull cad0 F4 (bl _ (by decide +kernel)) (bl _ (by decide +kernel))) b4 pull_len
  have q1 : TabOk l.prog w K mg base cad0 FN T1 1 := TabOk.add (q0.mono (by omega)) rfl n4
  have n5 : Ent l.prog w K mg base cad0 2 "_law_any" p_any (anyF T1 4) := Ent.of_def F5 sc_any c_any q1 m5 b5
  have q2 : TabOk l.prog w K mg base cad0 FN T2 2 := TabOk.add (q1.mono (by omega)) rfl n5
  have n6 : Ent l.prog w K mg base cad0 3 "_law_like" p_like (likeF 6 3) := like_ent F6 sc_like c_like bl rfl m6 b6 3
  have n7 : Ent l.prog w K mg base cad0 3 "_law_new_names" p_new_names (newF T2 4 5) := Ent.of_def F7 sc_new_names c_new_names q2 m7 b7
  have w1 : EntK l.prog w K mg base cad0 1 "is_number" p_isnumber ["value"] 0 isnumF [0] := ⟨⟨f1, _, m1, k1, def_ok F1 sc_isnumber c_isnumber q0, fun s us ws xs _ hu hw hp _ => bind1 (fun s v => .of_eq rfl) s us ws xs hu hw hp⟩, def_len⟩
  have w2 : EntK l.prog w K mg base cad0 1 "is_name" p_isname ["value"] 0 isnameF [0] := ⟨⟨f2, _, m2, k2, def_ok F2 sc_isname c_isname q0, fun s us ws xs _ hu hw hp _ => bind1 (fun s v => .of_eq rfl) s us ws xs hu hw hp⟩, def_len⟩
  have qL : TabOk l.prog w K mg base cad0 FN TL 5 := TabOk.addK (TabOk.addK (TabOk.add (TabOk.add (TabOk.add (TabOk.add (TabOk.add (TabOk.add (TabOk.add (TabOk.emp bl) rfl (n1.mono (by omega))) rfl (n2.mono (by omega))) rfl (n3.mono (by omega))) rfl (n4.mono (by omega))) rfl (n5.mono (by omega))) rfl (n6.mono (by omega))) rfl (n7.mono (by omega))) rfl (w1.mono (by omega))) rfl (w2.mono (by omega))
  exact def_ok F8 sc_law c_law qL
theorem start_ok {K : PySem.W.Frag} {H : Hp} {a : Addr} {ns : List Int} {sp : List D → Mem → FRes} (hs : SqL K H a (ns.map V.int)) (h : ∃ S, sp [.lst (ns.map .int)] ⟨[]⟩ = .ok (.fz (.bl true)) S) : spOf ⟨K, cad0⟩ 1 sp [.ref a] H (fun v _ => v = .bl true) (fun _ _ _ => False) := by
  obtain ⟨S, e⟩ := h
  refine ⟨rfl, [.lst (ns.map .int)], ⟨fun b => if H b = none then .free else .frz, []⟩, ⟨[]⟩, .cons (.lst (xs := ns.map V.int) ?_ ?_) .nil, ⟨fun b hb => if_pos hb, rfl, fun n o ho => by simp at ho⟩, fun b i => ?_, ?_⟩
  · rcases hs with hs | hs
    · refine .inl ⟨if_neg fun e => ?_, hs⟩
      rcases hs with hs | ⟨o, hs⟩ <;> rw [e] at hs <;> cases hs
    · exact .inr (.inr hs)
  · clear hs e
    induction ns with
    | nil => exact .nil
    | cons i is ih => exact .cons (.int i) ih
  · show (if H b = none then Own.free else Own.frz) ≠ _
    split <;> simp
  · rw [e]
    intro v G' H' ex s n rv
    cases rv
    rfl
theorem walk {l : PySem.W.OpenLaw} {q : Program} {loose : List Str} {XP : (Str → Option Value) → Heap → Prop} {YP : World → Heap → Prop} {d : DefRec} {K : Params → PySem.W.Frag} (hn : l.most = some 63) (hdf : d.params.defaults = [])
    (hY : ∀ (w : World) (h : Heap), YP w h → (K w.params).In h)
    (F : ∀ (w : World) (mg : Str → Option Value) (fa : Addr) (h : Heap), (K w.params).In h → h.Ns mainGlobals mg → mg d.name = some (.ref fa) →
      ∃ fd : FuncData, (∀ (s : Shared) (u : Value), BindsTo s fd ⟨[u], []⟩ [("_law_script", u)]) ∧ ∀ base : Heap, (K w.params).In base → base.Ns mainGlobals mg → FnOk l.prog w (K w.params) mg base (L2.CX l.prog w) 6 fa fd ["_law_script"] (spLaw (K w.params))) :
    PySem.W.WalkO q loose XP YP l.row.toRowW d [] (fun f vs => PySem.call f vs) :=
  L2.walk_of (n := 63) (k := 6) (x := "_law_script") (CX := fun w => L2.CX l.prog w) (sp := fun w => spLaw (K w.params)) hn (by decide) hdf ⟨rfl, by decide, by decide⟩ hY F (fun _ H a ns hl _ hS => start_ok hS (law_true ns hl)) fun _ _ _ _ _ z => by
    obtain ⟨_, _, _, _, _, _, _, _, _, _, _, _, z⟩ := z
    exact z.elim
end Sh
open PySem PySem.W PyProof.Rows
set_option maxRecDepth 100000 in
set_option maxHeartbeats 0 in
theorem PySem.Challenge.cw_shiftlogs_k02_names_and_numbers_holds : PySem.Challenge.rw_shiftlogs_k02_names_and_numbers.Holds := by
  w_on; o_law; k_head; (case hw => w_witness2)
  k_fill
  refine Sh.walk (l := PySem.Challenge.rw_shiftlogs_k02_names_and_numbers) rfl rfl (fun w h Y => PySem.W.kIn_of Y) ?F
  case F =>
    intro w mg fa h KX G hmg
    refine' Sh.all_mk KX G hmg ?a1 ?l1 ?c1 ?k1 ?a2 ?l2 ?c2 ?k2 ?a3 ?l3 ?c3 ?k3 ?a4 ?l4 ?c4 ?k4 ?a5 ?l5 ?c5 ?k5 ?a6 ?l6 ?c6 ?k6 ?a7 ?l7 ?c7 ?k7 ?a8 ?l8 ?c8 ?k8 ?z1 ?z2 ?z3 ?z4 ?z5 ?z6 ?z7 ?z8 ?z9 ?z10 ?gL
    (case a1 => k_is)
    (case l1 => k_is)
    (case c1 => k_is)
    (case k1 => k_is)
    (case a2 => k_is)
    (case l2 => k_is)
    (case c2 => k_is)
    (case k2 => k_is)
    (case a3 => k_is)
    (case l3 => k_is)
    (case c3 => k_is)
    (case k3 => k_is)
    (case a4 => k_is)
    (case l4 => k_is)
    (case c4 => k_is)
    (case k4 => k_is)
    (case a5 => k_is)
    (case l5 => k_is)
    (case c5 => k_is)
    (case k5 => k_is)
    (case a6 => k_is)
    (case l6 => k_is)
    (case c6 => k_is)
    (case k6 => k_is)
    (case a7 => k_is)
    (case l7 => k_is)
    (case c7 => k_is)
    (case k7 => k_is)
    (case a8 => k_is)
    (case l8 => k_is)
    (case c8 => k_is)
    (case k8 => k_is)
    (case z1 => k_is)
    (case z2 => k_is)
    (case z3 => k_is)
    (case z4 => k_is)
    (case z5 => k_is)
    (case z6 => k_is)
    (case z7 => k_is)
    (case z8 => k_is)
    (case z9 => k_is)
    (case z10 => k_is)
    (case gL => k_is)


