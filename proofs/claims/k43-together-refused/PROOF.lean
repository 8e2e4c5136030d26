import PyProof.Rows.All
import Wide.All
import OpenK.AllK
import Wide.FinOn
import HandS.ForMost
import HandS.ForExc
import HandS.Wide
import HandS.Style
import HandS.IsInst
import HandS.Deep
import HandS.Zip
import HandS.TryMany
import HandS.Nested
import HandS.Flow
import HandS.SortInts
import HandS.Conv
import HandS.Star
import KE.KStar
import HandS.Zip0
import HandS.ExcInit
import HandS.HeadHook1
import HandS.ListItems
import HandS.Head0
import HandS.Head1
import HandS.Head2
import HandS.HeadEnd
import HandS.HeadHook2
import HandS.HeadHook3
import HandS.HeadHook4
import HandS.EndTab
import HandS.HeadWalk
import PySem.Challenge.RW_downcorners_k43_together_refused
set_option linter.all false
/-! PC1: own values, own syntax, weakest preconditions. -/
namespace PC
open PySem (Str)

abbrev Key := Sum Int Str

/-- values (scr: the law's script): tuples, and lists and dicts that are never changed, as trees; ref: an object of the own heap; fn: a def; clo: a lambda (l) made at level tok, with what it captured -/
inductive PV where
  | non | bl (b : Bool) | int (i : Int) | str (x : Str)
  | tup (xs : List PV) | lst (xs : List PV) | dct (ks : List Key) (vs : List PV)
  | ref (n : Nat) | fn (i : Nat) | clo (l tok : Nat) (cap : List PV) | scr (ns : List Int)
deriving Inhabited

inductive HObj where
  | lst (xs : List PV) | dK (ks : List Key) (vs : List PV) | dead
deriving Inhabited

abbrev Env := List (Option PV)
abbrev Hea := List HObj

structure Exc where
  cls : Nat
  fld : Option PV

inductive BOp where | add | sub | mul | fdiv | mod | pow
deriving DecidableEq
inductive COp where | eq | ne | lt | le | gt | ge | is_ | isnt | in_ | nin
deriving DecidableEq
inductive BI where | len | abs | int | list | tuple | all | any | sum | sorted
deriving DecidableEq
inductive Kd where | list | tuple | int | bool | str | dict
deriving DecidableEq
inductive Mt where | append | extend | pop | popAt
deriving DecidableEq
/-- further operations of values -/
inductive OpN where | items | lrng1 | lrng2
deriving DecidableEq

mutual
inductive CE where
  | stuck | nil
  | var (i : Nat) | cst (v : PV)
  | bin (op : BOp) (fz : Bool) (a b : CE) | neg (a : CE)
  | cmp (op : COp) (a b : CE) | chain (o1 o2 : COp) (a b c : CE)
  | and (a b : CE) | or (a b : CE) | not (a : CE) | ite (c a b : CE)
  | tup (es : CEs) | lst (fz : Bool) (es : CEs) | dict0 (fz : Bool)
  | comp (fz : Bool) (elt : CE) (tg : CT) (it : CI) (cond : CEs) (own : List Nat)
  | comp2 (fz : Bool) (elt : CE) (tg : CT) (it : CI) (cond : CEs) (tg1 : CT) (it1 : CI) (cond1 : CEs) (own : List Nat)
  | idx (a i : CE) | slc (fz : Bool) (a lo hi : CE) | rev (fz : Bool) (a : CE)
  | call (f : Nat) (args kws : CEs) (perm : List Nat)
  | callv (i : Nat) (args : CEs)
  | bi (b : BI) (fz : Bool) (args : CEs)
  | opn (o : OpN) (fz : Bool) (args : CEs)
  | isi (a : CE) (ks : List Kd)
  | meth (m : Mt) (a : CE) (args : CEs)
  | lam (l : Nat) (caps : List Nat)
  | frz (a : CE)
inductive CEs where
  | nil | cons (e : CE) (es : CEs) | star (e : CE) (es : CEs)
inductive CT where
  | name (i : Nat) (cl : Bool) | tup (ts : CTs) | idx (o i : CE)
inductive CTs where
  | nil | cons (t : CT) (ts : CTs)
inductive CI where
  | e (a : CE) | rng1 (a : CE) | rng2 (a b : CE) | enum (a : CE) | zip (a b : CE) | zipS (a : CE)
end

/-- what an except suite hands back: None, a text, the error's field -/
inductive HE where | non | str (x : Str) | fld | tup (es : List HE)

structure CH where
  cls : Nat
  slot : Option Nat
  ret : HE

mutual
inductive CS where
  | stuck | pass
  | ret (e : CE) | retN | asg (t : CT) (e : CE) | par (i j : Nat) (a b : CE) | expr (e : CE)
  | ifs (c : CE) (a b : CSs) | whl (c : CE) (b : CSs) | for_ (t : CT) (it : CI) (b : CSs)
  | raise (c : Nat) (arg : CE) | raise0 (c : Nat) | try_ (b : CSs) (hs : List CH)
  | drop (i : Nat) (s : CS)
inductive CSs where
  | nil | cons (s : CS) (r : CSs)
end

def CEs.len : CEs → Nat
  | .nil => 0
  | .cons _ r => r.len + 1
  | .star _ r => r.len + 1
mutual
/-- the slots that a target stores -/
def CT.slots : CT → List Nat
  | .name i _ => [i]
  | .tup ts => ts.slots
  | .idx _ _ => []
def CTs.slots : CTs → List Nat
  | .nil => []
  | .cons t ts => t.slots ++ ts.slots
end
def CTs.len : CTs → Nat
  | .nil => 0
  | .cons _ r => r.len + 1
def CE.isNil : CE → Bool
  | .nil => true
  | _ => false
/-! ### values -/
mutual
/-- all refs lie below n -/
def PV.bnd (n : Nat) : PV → Bool
  | .tup xs => bndL n xs
  | .lst xs => bndL n xs
  | .dct _ vs => bndL n vs
  | .clo _ _ vs => bndL n vs
  | .ref m => decide (m < n)
  | _ => true
def bndL (n : Nat) : List PV → Bool
  | [] => true
  | x :: r => x.bnd n && bndL n r
end
mutual
/-- a lambda of level t stands in it -/
def PV.hasTok (t : Nat) : PV → Bool
  | .tup xs => hasTokL t xs
  | .lst xs => hasTokL t xs
  | .dct _ vs => hasTokL t vs
  | .clo _ u vs => decide (u = t) || hasTokL t vs
  | _ => false
def hasTokL (t : Nat) : List PV → Bool
  | [] => false
  | x :: r => x.hasTok t || hasTokL t r
end
mutual
def PV.same : PV → PV → Bool
  | .non, .non => true
  | .bl a, .bl b => a == b
  | .int a, .int b => decide (a = b)
  | .str a, .str b => decide (a = b)
  | .tup xs, .tup ys => sameL xs ys
  | .lst xs, .lst ys => sameL xs ys
  | .dct ks xs, .dct js ys => decide (ks = js) && sameL xs ys
  | .ref n, .ref m => Nat.beq n m
  | .fn n, .fn m => Nat.beq n m
  | .clo l t xs, .clo k u ys => Nat.beq l k && Nat.beq t u && sameL xs ys
  | .scr a, .scr b => decide (a = b)
  | _, _ => false
def sameL : List PV → List PV → Bool
  | [], [] => true
  | x :: xs, y :: ys => x.same y && sameL xs ys
  | _, _ => false
end
mutual
theorem same_eq : ∀ {x y : PV}, x.same y = true → x = y
  | .non, y, h => by cases y <;> first | rfl | (simp [PV.same] at h)
  | .bl a, y, h => by cases y <;> simp [PV.same] at h; rw [h]
  | .int a, y, h => by cases y <;> simp [PV.same] at h; rw [h]
  | .str a, y, h => by cases y <;> simp [PV.same] at h; rw [h]
  | .tup xs, y, h => by cases y <;> simp [PV.same] at h; rw [sameL_eq h]
  | .lst xs, y, h => by cases y <;> simp [PV.same] at h; rw [sameL_eq h]
  | .dct ks xs, y, h => by cases y <;> simp [PV.same] at h; rw [h.1, sameL_eq h.2]
  | .ref n, y, h => by cases y <;> simp [PV.same] at h; rw [h]
  | .fn n, y, h => by cases y <;> simp [PV.same] at h; rw [h]
  | .clo l t xs, y, h => by cases y <;> simp [PV.same] at h; rw [h.1.1, h.1.2, sameL_eq h.2]
  | .scr a, y, h => by cases y <;> simp [PV.same] at h; rw [h]
theorem sameL_eq : ∀ {x y : List PV}, sameL x y = true → x = y
  | [], [], _ => rfl
  | [], _ :: _, h => by simp [sameL] at h
  | _ :: _, [], h => by simp [sameL] at h
  | a :: x, b :: y, h => by
    simp [sameL] at h
    rw [same_eq h.1, sameL_eq h.2]
end
mutual
theorem same_refl : ∀ x : PV, x.same x = true
  | .non => rfl
  | .bl a => by simp [PV.same]
  | .int a => by simp [PV.same]
  | .str a => by simp [PV.same]
  | .tup xs => by simp [PV.same, sameL_refl xs]
  | .lst xs => by simp [PV.same, sameL_refl xs]
  | .dct ks xs => by simp [PV.same, sameL_refl xs]
  | .ref n => by simp [PV.same]
  | .fn n => by simp [PV.same]
  | .clo l t xs => by simp [PV.same, sameL_refl xs]
  | .scr a => by simp [PV.same]
theorem sameL_refl : ∀ x : List PV, sameL x x = true
  | [] => rfl
  | a :: x => by simp [sameL, same_refl a, sameL_refl x]
end
def HObj.bnd (n : Nat) : HObj → Bool
  | .lst xs => bndL n xs
  | .dK _ vs => bndL n vs
  | .dead => true
def HObj.hasTok (t : Nat) : HObj → Bool
  | .lst xs => hasTokL t xs
  | .dK _ vs => hasTokL t vs
  | .dead => false
def killE (t : Nat) (env : Env) : Env := env.map fun o => match o with
  | some v => if v.hasTok t then none else some v
  | none => none
def killH (t : Nat) (h : Hea) : Hea := h.map fun o => if o.hasTok t then .dead else o

def get (env : Env) (i : Nat) : Option PV := match env[i]? with
  | some (some v) => some v
  | _ => none
def line : Nat := 16777216
/-- a list or tuple that is read: whether it is a tuple, its items -/
def seqOf (h : Hea) : PV → Option (Bool × List PV)
  | .lst xs => some (false, xs)
  | .tup xs => some (true, xs)
  | .scr ns => some (false, ns.map .int)
  | .ref n => match h[n]? with
    | some (.lst xs) => some (false, xs)
    | _ => none
  | _ => none
/-- a list that is no script -/
def lstOf (h : Hea) : PV → Option (List PV)
  | .lst xs => some xs
  | .ref n => match h[n]? with
    | some (.lst xs) => some xs
    | _ => none
  | _ => none
def truV (h : Hea) : PV → Option Bool
  | .non => some false
  | .bl b => some b
  | .int i => some (i != 0)
  | .str x => if x.length ≤ line then some ((x.length : Int) != 0) else none
  | .lst xs => some !xs.isEmpty
  | .tup xs => some !xs.isEmpty
  | .dct ks _ => some !ks.isEmpty
  | .ref n => match h[n]? with
    | some (.lst xs) => some !xs.isEmpty
    | some (.dK ks _) => some !ks.isEmpty
    | _ => none
  | _ => none

mutual
/-- == of trees (no refs, no dicts, no functions), as Python has it -/
def peq : PV → PV → Bool
  | .non, .non => true
  | .bl a, .bl b => a == b
  | .bl a, .int j => (if a then 1 else 0) == j
  | .int i, .bl b => i == (if b then 1 else 0)
  | .int i, .int j => i == j
  | .str x, .str y => x == y
  | .tup xs, .tup ys => peqL xs ys
  | .lst xs, .lst ys => peqL xs ys
  | _, _ => false
def peqL : List PV → List PV → Bool
  | [], [] => true
  | x :: xs, y :: ys => peq x y && peqL xs ys
  | _, _ => false
end
mutual
/-- a tree of data that == can be asked of: not deeper than d -/
def shp : Nat → PV → Bool
  | _, .non => true
  | _, .bl _ => true
  | _, .int _ => true
  | _, .str x => x.cps.all (· < 0x110000)
  | d + 1, .tup xs => shpL d xs
  | d + 1, .lst xs => shpL d xs
  | _, _ => false
def shpL : Nat → List PV → Bool
  | _, [] => true
  | d, x :: r => shp d x && shpL d r
end
/-- a heap list of trees stands for the tree -/
def deref (h : Hea) : PV → PV
  | .ref n => match h[n]? with
    | some (.lst xs) => .lst xs
    | _ => .ref n
  | v => v

inductive Res where | val (v : PV) | new (xs : List PV)

def mulOk (i j : Int) : Bool := decide (i.natAbs.log2 + j.natAbs.log2 < 1000000)
def binV (op : BOp) (h : Hea) (x y : PV) : Option Res :=
  match op, x, y with
  | .add, .int i, .int j => some (.val (.int (i + j)))
  | .sub, .int i, .int j => some (.val (.int (i - j)))
  | .mul, .int i, .int j => if mulOk i j then some (.val (.int (i * j))) else none
  | .fdiv, .int i, .int j => if j ≠ 0 ∧ j.natAbs.log2 < 9000 then some (.val (.int (i.fdiv j))) else none
  | .mod, .int i, .int j => if j ≠ 0 then some (.val (.int (i.fmod j))) else none
  | .pow, .int i, .int j => if 0 ≤ j ∧ j ≤ 1000000 ∧ i.natAbs < 2 ^ 64 then some (.val (.int (i ^ j.toNat))) else none
  | .add, .str a, .str b => if a.length + b.length ≤ line then some (.val (.str (a ++ b))) else none
  | .add, .tup xs, .tup ys => if xs ≠ [] ∧ xs.length + ys.length ≤ line then some (.val (.tup (xs ++ ys))) else none
  | .add, x, y => match lstOf h x, lstOf h y with
    | some xs, some ys => if xs.length + ys.length ≤ line then some (.new (xs ++ ys)) else none
    | _, _ => none
  | .mul, x, .int k => match lstOf h x with
    | some xs => if 0 ≤ k ∧ k ≤ 1000000 ∧ xs.length * k.toNat ≤ line then some (.new (List.replicate k.toNat xs).flatten) else none
    | _ => none
  | _, _, _ => none
def inSeq (x : PV) (ys : List PV) : Bool := ys.any fun y => peq y x
def cmpV (op : COp) (h : Hea) (x y : PV) : Option Bool :=
  match op with
  | .lt => match x, y with | .int i, .int j => some (decide (i < j)) | _, _ => none
  | .le => match x, y with | .int i, .int j => some (decide (i ≤ j)) | _, _ => none
  | .gt => match x, y with | .int i, .int j => some (decide (j < i)) | _, _ => none
  | .ge => match x, y with | .int i, .int j => some (decide (j ≤ i)) | _, _ => none
  | .is_ => match y with | .non => some (match x with | .non => true | _ => false) | _ => none
  | .isnt => match y with | .non => some (match x with | .non => false | _ => true) | _ => none
  | .eq => if shp 32 (deref h x) && shp 32 (deref h y) then some (peq (deref h x) (deref h y)) else none
  | .ne => if shp 32 (deref h x) && shp 32 (deref h y) then some (!peq (deref h x) (deref h y)) else none
  | .in_ => match deref h y with
    | .lst ys => if shp 32 (deref h x) && shpL 31 ys then some (inSeq (deref h x) ys) else none
    | _ => none
  | .nin => match deref h y with
    | .lst ys => if shp 32 (deref h x) && shpL 31 ys then some (!inSeq (deref h x) ys) else none
    | _ => none
inductive Ty7 where | none | bool | int | str | tuple | list | dict
def Ty7.tab : Ty7 → Kd → Bool
  | .bool, .bool => true
  | .bool, .int => true
  | .int, .int => true
  | .str, .str => true
  | .tuple, .tuple => true
  | .list, .list => true
  | .dict, .dict => true
  | _, _ => false
def pvT (h : Hea) (v : PV) : Option Ty7 := match v with
  | .non => some .none
  | .bl _ => some .bool
  | .int _ => some .int
  | .str _ => some .str
  | .tup _ => some .tuple
  | .lst _ => some .list
  | .dct _ _ => some .dict
  | .ref n => match h[n]? with
    | some (.lst _) => some .list
    | some (.dK _ _) => some .dict
    | _ => none
  | _ => none
def isKds (h : Hea) (v : PV) (ks : List Kd) : Option Bool := (pvT h v).map fun t => ks.any fun k => t.tab k
def intOf : PV → Option Int | .int i => some i | _ => none
def allB : List PV → Option (List Bool)
  | [] => some []
  | .bl b :: r => (allB r).map (b :: ·)
  | _ :: _ => none
def allI : List PV → Option (List Int)
  | [] => some []
  | .int b :: r => (allI r).map (b :: ·)
  | _ :: _ => none
def insI (a : Int) : List Int → List Int
  | [] => [a]
  | b :: r => if a ≤ b then a :: b :: r else b :: insI a r
def sortI : List Int → List Int
  | [] => []
  | a :: r => insI a (sortI r)
/-- Python's index into n items -/
def ixOf (i : Int) (n : Nat) : Option Nat :=
  if 0 ≤ i ∧ i < n then some i.toNat else if i < 0 ∧ 0 ≤ i + n then some (i + n).toNat else none
def biV (b : BI) (h : Hea) (vs : List PV) : Option Res :=
  match b, vs with
  | .len, [v] => match seqOf h v with
    | some (_, xs) => some (.val (.int xs.length))
    | none => match v with | .str x => if x.length ≤ line then some (.val (.int x.length)) else none | _ => none
  | .abs, [.int i] => some (.val (.int (if i < 0 then -i else i)))
  | .int, [.int i] => some (.val (.int i))
  | .int, [.bl b] => some (.val (.int (if b then 1 else 0)))
  | .list, [v] => (seqOf h v).map fun p => .new p.2
  | .tuple, [v] => (seqOf h v).map fun p => .val (.tup p.2)
  | .all, [v] => match seqOf h v with
    | some (false, xs) => (allB xs).map fun bs => .val (.bl (bs.all id))
    | _ => none
  | .any, [v] => match seqOf h v with
    | some (false, xs) => (allB xs).map fun bs => .val (.bl (bs.any id))
    | _ => none
  | .sum, [v] => match seqOf h v with
    | some (false, xs) => (allI xs).map fun is => .val (.int is.sum)
    | _ => none
  | .sorted, [v] => match seqOf h v with
    | some (false, xs) => (allI xs).map fun is => .new ((sortI is).map .int)
    | _ => none
  | _, _ => none
def keyV : Key → PV
  | .inl i => .int i
  | .inr x => .str x
/-- a dict that is read -/
def dctOf (h : Hea) : PV → Option (List Key × List PV)
  | .dct ks vs => some (ks, vs)
  | .ref n => match h[n]? with
    | some (.dK ks vs) => some (ks, vs)
    | _ => none
  | _ => none
def pairsOf : List Key → List PV → List PV
  | k :: ks, v :: vs => .tup [keyV k, v] :: pairsOf ks vs
  | _, _ => []
def intsFrom (lo : Int) : Nat → List PV
  | 0 => []
  | n + 1 => .int lo :: intsFrom (lo + 1) n
def rgOk (a b : Int) : Bool := decide (-(2 ^ 62) ≤ a) && decide (a < 2 ^ 62) && decide (-(2 ^ 62) ≤ b) && decide (b < 2 ^ 62) && decide ((b - a).toNat ≤ 16777216)
def opV (o : OpN) (h : Hea) (vs : List PV) : Option Res :=
  match o, vs with
  | .items, [v] => (dctOf h v).map fun p => .new (pairsOf p.1 p.2)
  | .lrng1, [.int b] => if rgOk 0 b then some (.new (intsFrom 0 (b - 0).toNat)) else none
  | .lrng2, [.int a, .int b] => if rgOk a b then some (.new (intsFrom a (b - a).toNat)) else none
  | _, _ => none
/-- a slice's end: left out, or an int -/
def cutLo (n : Nat) : Option Int → Nat
  | none => 0
  | some i => if i < 0 then (i + n).toNat else min i.toNat n
def cutHi (n : Nat) : Option Int → Nat
  | none => n
  | some i => if i < 0 then (i + n).toNat else min i.toNat n
def cut (xs : List PV) (lo hi : Option Int) : List PV := (xs.drop (cutLo xs.length lo)).take (cutHi xs.length hi - cutLo xs.length lo)
/-! ### weakest preconditions -/
abbrev KQ := PV → Hea → Prop
abbrev KX := Exc → Hea → Prop
structure KS where
  nx : Env → Hea → Prop
  rt : KQ
  xc : Exc → Env → Hea → Prop
  bk : Env → Hea → Prop := fun _ _ => False
  ct : Env → Hea → Prop := fun _ _ => False
structure Orc where
  call : Nat → List PV → Hea → KQ → KX → Prop
  lam : Nat → List PV → List PV → Hea → KQ → KX → Prop
  tok : Nat
  st : Bool
/-- a lambda of the running frame in it, where such lambdas may die -/
def Orc.dty (O : Orc) (v : PV) : Bool := O.st && v.hasTok O.tok
def Orc.dtyL (O : Orc) (v : List PV) : Bool := O.st && hasTokL O.tok v

def newL (fz : Bool) (xs : List PV) (h : Hea) (Q : KQ) : Prop :=
  xs.length ≤ line ∧ match fz with
    | true => Q (.lst xs) h
    | false => Q (.ref h.length) (h ++ [.lst xs])
/-- a slice's part: left out, or an int -/
def partK (out : Bool) (w : Hea → KQ → KX → Prop) (h : Hea) (k : Option Int → Hea → Prop) (X : KX) : Prop := match out with
  | true => k none h
  | false => w h (fun v h1 => match v with
    | .int i => k (some i) h1
    | _ => False) X
def resQ (fz : Bool) (r : Option Res) (h : Hea) (Q : KQ) : Prop := match r with
  | some (.val v) => Q v h
  | some (.new xs) => newL fz xs h Q
  | none => False
def wipe (env : Env) : List Nat → Env
  | [] => env
  | i :: r => (wipe env r).set i none
/-- what is walked: heap lists that must stand still, the items -/
structure Its where
  gs : List (Nat × List PV)
  items : List PV
def gsOk (gs : List (Nat × List PV)) (h : Hea) : Prop := ∀ p ∈ gs, h[p.1]? = some (.lst p.2)
def itsOf (h : Hea) (v : PV) : Option Its := match v with
  | .ref n => match h[n]? with
    | some (.lst xs) => some ⟨[(n, xs)], xs⟩
    | _ => none
  | .lst xs => some ⟨[], xs⟩
  | .tup xs => some ⟨[], xs⟩
  | _ => none
def numbered (i : Int) : List PV → List PV
  | [] => []
  | x :: r => .tup [.int i, x] :: numbered (i + 1) r
def zipped : List PV → List PV → List PV
  | x :: xs, y :: ys => .tup [x, y] :: zipped xs ys
  | _, _ => []
def enumOf (h : Hea) (v : PV) : Option Its := match seqOf h v with
  | some (false, _) => (itsOf h v).map fun its => ⟨its.gs, numbered 0 its.items⟩
  | _ => none
def zipOf (O : Orc) (h : Hea) (v w : PV) : Option Its := match seqOf h v, seqOf h w, itsOf h v, itsOf h w with
  | some (s, _), some (u, _), some iv, some iw => if O.dtyL iv.items = false ∧ O.dtyL iw.items = false then some ⟨iv.gs ++ iw.gs, zipped iv.items iw.items⟩ else none
  | _, _, _, _ => none
/-- what zip(*v) walks -/
def allIts (dt : List PV → Bool) (h : Hea) : List PV → Option (List Its)
  | [] => some []
  | v :: r => match itsOf h v, allIts dt h r with
    | some i, some is => (match dt i.items with
      | false => some (i :: is)
      | true => none)
    | _, _ => none
def lensMin : List Its → Nat
  | [] => 0
  | [i] => i.items.length
  | i :: r => min i.items.length (lensMin r)
def column (is : List Its) (k : Nat) : PV := .tup (is.map fun i => (i.items[k]?).getD .non)
def zipSOf (dt : List PV → Bool) (h : Hea) (v : PV) : Option Its := match seqOf h v with
  | some (_, x :: xs) => (allIts dt h (x :: xs)).map fun is => ⟨is.flatMap (·.gs), (List.range (lensMin is)).map (column is)⟩
  | _ => none
/-- a comprehension's loop -/
def wpMap (gs : List (Nat × List PV)) (step : PV → Hea → (Option PV → Hea → Prop) → Prop) : List PV → Hea → (List PV → Hea → Prop) → Prop
  | [], h, k => gsOk gs h ∧ k [] h
  | x :: xs, h, k => gsOk gs h ∧ step x h fun o h1 => wpMap gs step xs h1 fun vs h2 => k (o.toList ++ vs) h2
/-- .. of two clauses -/
def wpFlat (gs : List (Nat × List PV)) (step : PV → Hea → (List PV → Hea → Prop) → Prop) : List PV → Hea → (List PV → Hea → Prop) → Prop
  | [], h, k => gsOk gs h ∧ k [] h
  | x :: xs, h, k => gsOk gs h ∧ step x h fun us h1 => wpFlat gs step xs h1 fun vs h2 => k (us ++ vs) h2
def cleanE (O : Orc) (env : Env) : Bool := env.all fun o => match o with
  | some v => !O.dty v
  | none => true
def wpFor (gs : List (Nat × List PV)) (body : PV → Env → Hea → KS → Prop) : List PV → Env → Hea → KS → Prop
  | [], env, h, K => gsOk gs h ∧ K.nx env h
  | x :: xs, env, h, K => gsOk gs h ∧ body x env h { K with nx := fun e h1 => wpFor gs body xs e h1 K, ct := fun e h1 => wpFor gs body xs e h1 K, bk := K.nx }
def wpWhile (c : Env → Hea → (Bool → Hea → Prop) → (Exc → Hea → Prop) → Prop) (b : Env → Hea → KS → Prop) : Nat → Env → Hea → KS → Prop
  | 0, _, _, _ => False
  | n + 1, env, h, K => c env h (fun t h1 => match t with
    | true => b env h1 { K with nx := fun e h2 => wpWhile c b n e h2 K, ct := fun e h2 => wpWhile c b n e h2 K, bk := K.nx }
    | false => K.nx env h1) fun ex h1 => K.xc ex env h1
/-- a store -/
def setE (O : Orc) (cl : Bool) (i : Nat) (v : PV) (env : Env) (h : Hea) (k : Env → Hea → Prop) : Prop := match cl with
  | false => k (env.set i (some v)) h
  | true => O.st = true ∧ v.hasTok O.tok = false ∧ k ((killE O.tok env).set i (some v)) (killH O.tok h)
def arrange (vs : List PV) : List Nat → Option (List PV)
  | [] => some []
  | i :: r => match vs[i]?, arrange vs r with
    | some v, some ws => some (v :: ws)
    | _, _ => none
def getAll (env : Env) : List Nat → Option (List PV)
  | [] => some []
  | i :: r => match get env i, getAll env r with
    | some v, some ws => some (v :: ws)
    | _, _ => none
mutual
/-- heap lists become trees, at each depth -/
def frzD : Nat → Hea → PV → Option (PV × Hea)
  | d + 1, h, .ref n => (match h[n]? with
    | some (.lst xs) => (match frzL d (h.set n .dead) xs with
      | some (ys, h1) => some (.lst ys, h1)
      | none => none)
    | _ => none)
  | d + 1, h, .tup xs => (match frzL d h xs with
    | some (ys, h1) => some (.tup ys, h1)
    | none => none)
  | d + 1, h, .lst xs => (match frzL d h xs with
    | some (ys, h1) => some (.lst ys, h1)
    | none => none)
  | 0, _, .ref _ => none
  | _, h, v => some (v, h)
def frzL : Nat → Hea → List PV → Option (List PV × Hea)
  | _, h, [] => some ([], h)
  | d, h, x :: xs => (match frzD d h x with
    | some (y, h1) => (match frzL d h1 xs with
      | some (ys, h2) => some (y :: ys, h2)
      | none => none)
    | none => none)
end
def frzV (h : Hea) (v : PV) (Q : KQ) : Prop := match frzD 8 h v with
  | some (w, h1) => Q w h1
  | none => False
mutual
/-- what a value names is forgotten -/
def dropV : Nat → Hea → PV → Hea
  | d + 1, h, .ref n => (match h[n]? with
    | some (.lst xs) => dropL d (h.set n .dead) xs
    | some (.dK _ xs) => dropL d (h.set n .dead) xs
    | _ => h)
  | _, h, _ => h
def dropL : Nat → Hea → List PV → Hea
  | _, h, [] => h
  | d, h, x :: xs => dropL d (dropV d h x) xs
end
def dropE (h : Hea) (o : Option PV) : Hea := match o with
  | some v => dropV 4 h v
  | none => h
/-- a list of the own heap -/
def isL (h : Hea) : PV → Bool
  | .ref n => match h[n]? with
    | some (.lst _) => true
    | _ => false
  | _ => false
def methV (m : Mt) (h : Hea) (v : PV) (vs : List PV) (Q : KQ) : Prop := match v with
  | .ref n => match h[n]? with
    | some (.lst xs) => (match m, vs with
      | .append, [x] => xs.length < line ∧ Q .non (h.set n (.lst (xs ++ [x])))
      | .extend, [y] => (match lstOf h y with
        | some ys => xs.length + ys.length ≤ line ∧ Q .non (h.set n (.lst (xs ++ ys)))
        | _ => False)
      | .pop, [] => (match xs[xs.length - 1]? with
        | some y => Q y (h.set n (.lst xs.dropLast))
        | none => False)
      | .popAt, [.int i] => -(2 ^ 62) ≤ i ∧ i < 2 ^ 62 ∧ (match ixOf i xs.length with
        | some k => (match xs[k]? with
          | some y => Q y (h.set n (.lst (xs.eraseIdx k)))
          | none => False)
        | none => False)
      | _, _ => False)
    | _ => False
  | _ => False
/-- o[i] = v -/
def putV (h : Hea) (o i v : PV) (k : Hea → Prop) : Prop := match o, i with
  | .ref n, .int j => match h[n]? with
    | some (.lst xs) => (match ixOf j xs.length with
      | some p => k (h.set n (.lst (xs.set p v)))
      | none => False)
    | _ => False
  | _, _ => False

mutual
def wpE (O : Orc) : CE → Env → Hea → KQ → KX → Prop
  | .stuck, _, _, _, _ => False
  | .nil, _, h, Q, _ => Q .non h
  | .var i, env, h, Q, _ => match get env i with
    | some v => Q v h
    | none => False
  | .cst v, _, h, Q, _ => Q v h
  | .bin op fz a b, env, h, Q, X => wpE O a env h (fun x h1 => wpE O b env h1 (fun y h2 => resQ fz (binV op h2 x y) h2 Q) X) X
  | .neg a, env, h, Q, X => wpE O a env h (fun x h1 => match x with
    | .int i => Q (.int (-i)) h1
    | _ => False) X
  | .cmp op a b, env, h, Q, X => wpE O a env h (fun x h1 => wpE O b env h1 (fun y h2 => match cmpV op h2 x y with
    | some t => Q (.bl t) h2
    | none => False) X) X
  | .chain o1 o2 a b c, env, h, Q, X => wpE O a env h (fun x h1 => wpE O b env h1 (fun y h2 => match cmpV o1 h2 x y with
    | some true => wpE O c env h2 (fun z h3 => match cmpV o2 h3 y z with
      | some t => Q (.bl t) h3
      | none => False) X
    | some false => Q (.bl false) h2
    | none => False) X) X
  | .and a b, env, h, Q, X => wpE O a env h (fun x h1 => match truV h1 x with
    | some true => wpE O b env h1 Q X
    | some false => Q x h1
    | none => False) X
  | .or a b, env, h, Q, X => wpE O a env h (fun x h1 => match truV h1 x with
    | some true => Q x h1
    | some false => wpE O b env h1 Q X
    | none => False) X
  | .not a, env, h, Q, X => wpE O a env h (fun x h1 => match truV h1 x with
    | some t => Q (.bl !t) h1
    | none => False) X
  | .ite c a b, env, h, Q, X => wpE O c env h (fun x h1 => match truV h1 x with
    | some true => wpE O a env h1 Q X
    | some false => wpE O b env h1 Q X
    | none => False) X
  | .tup es, env, h, Q, X => wpEs O es env h (fun vs h1 => vs.length ≤ line ∧ Q (.tup vs) h1) X
  | .lst fz es, env, h, Q, X => wpEs O es env h (fun vs h1 => newL fz vs h1 Q) X
  | .dict0 fz, _, h, Q, _ => match fz with
    | true => Q (.dct [] []) h
    | false => Q (.ref h.length) (h ++ [.dK [] []])
  | .comp fz elt tg it cond own, env, h, Q, X => wpI O it env h (fun its h1 => its.items.length ≤ line ∧
      wpMap its.gs (fun x h2 k => wpT O tg x (wipe env own) h2 (fun env2 h3 => wpAll O cond env2 h3 fun t h4 => match t with
        | true => wpE O elt env2 h4 (fun v h5 => O.dty v = false ∧ k (some v) h5) fun _ _ => False
        | false => k none h4)) its.items h1 fun vs h2 => newL fz vs h2 Q) X
  | .comp2 fz elt tg it cond tg1 it1 cond1 own, env, h, Q, X => wpI O it env h (fun its h1 => its.items.length ≤ 4096 ∧
      wpFlat its.gs (fun x h2 k => wpT O tg x (wipe env own) h2 (fun env2 h3 => wpAll O cond env2 h3 fun t h4 => match t with
        | true => cleanE O env2 = true ∧ wpI O it1 env2 h4 (fun its1 h5 => its1.items.length ≤ 4096 ∧ O.dtyL its1.items = false ∧ wpMap its1.gs (fun x1 h6 k1 => wpT O tg1 x1 (wipe env2 tg1.slots) h6 (fun env3 h7 => wpAll O cond1 env3 h7 fun t1 h8 => match t1 with
          | true => wpE O elt env3 h8 (fun v h9 => O.dty v = false ∧ k1 (some v) h9) fun _ _ => False
          | false => k1 none h8)) its1.items h5 k) fun _ _ => False
        | false => k [] h4)) its.items h1 fun vs h2 => newL fz vs h2 Q) X
  | .idx a i, env, h, Q, X => wpE O a env h (fun x h1 => wpE O i env h1 (fun y h2 => match seqOf h2 x, y with
    | some (_, xs), .int j => (match ixOf j xs.length with
      | some k => (match xs[k]? with
        | some v => Q v h2
        | none => False)
      | none => False)
    | _, _ => False) X) X
  | .slc fz a lo hi, env, h, Q, X => wpE O a env h (fun x h1 => partK lo.isNil (wpE O lo env) h1 (fun i h2 => partK hi.isNil (wpE O hi env) h2 (fun j h3 => match seqOf h3 x with
    | some (false, xs) => newL fz (cut xs i j) h3 Q
    | _ => False) X) X) X
  | .rev fz a, env, h, Q, X => wpE O a env h (fun x h1 => match seqOf h1 x with
    | some (false, xs) => newL fz xs.reverse h1 Q
    | _ => False) X
  | .call f args kws perm, env, h, Q, X => wpEs O args env h (fun vs h1 => vs.length = args.len ∧ wpEs O kws env h1 (fun us h2 => us.length = kws.len ∧ match arrange (vs ++ us) perm with
    | some ws => O.call f ws h2 Q X
    | none => False) X) X
  | .callv i args, env, h, Q, X => match get env i with
    | some (.clo l _ cap) => wpEs O args env h (fun vs h1 => O.lam l cap vs h1 Q X) X
    | some (.fn f) => wpEs O args env h (fun vs h1 => O.call f vs h1 Q X) X
    | _ => False
  | .bi b fz args, env, h, Q, X => wpEs O args env h (fun vs h1 => resQ fz (biV b h1 vs) h1 Q) X
  | .opn o fz args, env, h, Q, X => wpEs O args env h (fun vs h1 => resQ fz (opV o h1 vs) h1 Q) X
  | .isi a ks, env, h, Q, X => wpE O a env h (fun x h1 => match isKds h1 x ks with
    | some t => Q (.bl t) h1
    | none => False) X
  | .meth m a args, env, h, Q, X => wpE O a env h (fun x h1 => isL h1 x = true ∧ wpEs O args env h1 (fun vs h2 => methV m h2 x vs Q) X) X
  | .lam l caps, env, h, Q, _ => match getAll env caps with
    | some vs => Q (.clo l O.tok vs) h
    | none => False
  | .frz a, env, h, Q, X => wpE O a env h (fun x h1 => frzV h1 x Q) X
def wpEs (O : Orc) : CEs → Env → Hea → (List PV → Hea → Prop) → KX → Prop
  | .nil, _, h, k, _ => k [] h
  | .cons e es, env, h, k, X => wpE O e env h (fun v h1 => wpEs O es env h1 (fun vs h2 => k (v :: vs) h2) X) X
  | .star e es, env, h, k, X => wpE O e env h (fun v h1 => match seqOf h1 v with
    | some (_, xs) => wpEs O es env h1 (fun vs h2 => k (xs ++ vs) h2) X
    | none => False) X
/-- a clause's tests -/
def wpAll (O : Orc) : CEs → Env → Hea → (Bool → Hea → Prop) → Prop
  | .nil, _, h, k => k true h
  | .cons e es, env, h, k => wpE O e env h (fun v h1 => match truV h1 v with
    | some t => (match t with
      | true => wpAll O es env h1 k
      | false => k false h1)
    | none => False) fun _ _ => False
  | .star _ _, _, _, _ => False
def wpT (O : Orc) : CT → PV → Env → Hea → (Env → Hea → Prop) → Prop
  | .name i cl, v, env, h, k => setE O cl i v env h k
  | .tup ts, v, env, h, k => match v with
    | .tup xs => O.dtyL xs = false ∧ xs.length = ts.len ∧ wpTs O ts xs env h k
    | _ => False
  | .idx o i, v, env, h, k => wpE O o env h (fun x h1 => wpE O i env h1 (fun y h2 => putV h2 x y v fun h3 => k env h3) fun _ _ => False) fun _ _ => False
def wpTs (O : Orc) : CTs → List PV → Env → Hea → (Env → Hea → Prop) → Prop
  | .nil, [], env, h, k => k env h
  | .cons t ts, x :: xs, env, h, k => wpT O t x env h fun env1 h1 => wpTs O ts xs env1 h1 k
  | _, _, _, _, _ => False
def wpI (O : Orc) : CI → Env → Hea → (Its → Hea → Prop) → KX → Prop
  | .e a, env, h, k, X => wpE O a env h (fun v h1 => match itsOf h1 v with
    | some its => k its h1
    | none => False) X
  | .rng1 a, env, h, k, X => wpE O a env h (fun v h1 => match v with
    | .int j => -(2 ^ 62) ≤ j ∧ j < 2 ^ 62 ∧ k ⟨[], intsFrom 0 j.toNat⟩ h1
    | _ => False) X
  | .rng2 a b, env, h, k, X => wpE O a env h (fun v h1 => wpE O b env h1 (fun w h2 => match v, w with
    | .int i, .int j => (-(2 ^ 62) ≤ i ∧ i < 2 ^ 62 ∧ -(2 ^ 62) ≤ j ∧ j < 2 ^ 62) ∧ k ⟨[], intsFrom i (j - i).toNat⟩ h2
    | _, _ => False) X) X
  | .enum a, env, h, k, X => wpE O a env h (fun v h1 => match enumOf h1 v with
    | some its => k its h1
    | none => False) X
  | .zip a b, env, h, k, X => wpE O a env h (fun v h1 => wpE O b env h1 (fun w h2 => match zipOf O h2 v w with
    | some its => k its h2
    | none => False) X) X
  | .zipS a, env, h, k, X => wpE O a env h (fun v h1 => match zipSOf O.dtyL h1 v with
    | some its => k its h1
    | none => False) X
end
/-- a test -/
def wpB (O : Orc) (e : CE) (env : Env) (h : Hea) (k : Bool → Hea → Prop) (X : KX) : Prop := wpE O e env h (fun v h1 => match truV h1 v with
  | some t => k t h1
  | none => False) X

mutual
def heV (fld : Option PV) : HE → Option PV
  | .non => some .non
  | .str x => some (.str x)
  | .fld => fld
  | .tup es => (heVs fld es).map .tup
def heVs (fld : Option PV) : List HE → Option (List PV)
  | [] => some []
  | e :: r => match heV fld e, heVs fld r with
    | some v, some vs => some (v :: vs)
    | _, _ => none
end
def catch_ (hs : List CH) (K : KS) (ex : Exc) (env : Env) (h : Hea) : Prop := match hs with
  | [] => K.xc ex env h
  | c :: r => if c.cls = ex.cls then (match heV ex.fld c.ret with
      | some v => K.rt v h
      | none => False) else catch_ r K ex env h
mutual
def wpS (O : Orc) : CS → Env → Hea → KS → Prop
  | .stuck, _, _, _ => False
  | .pass, env, h, K => K.nx env h
  | .ret e, env, h, K => wpE O e env h K.rt fun ex h1 => K.xc ex env h1
  | .retN, _, h, K => K.rt .non h
  | .asg t e, env, h, K => wpE O e env h (fun v h1 => wpT O t v env h1 K.nx) fun ex h1 => K.xc ex env h1
  | .par i j a b, env, h, K => wpE O a env h (fun v h1 => wpE O b env h1 (fun w h2 => K.nx ((env.set i (some v)).set j (some w)) h2) fun ex h2 => K.xc ex env h2) fun ex h1 => K.xc ex env h1
  | .expr e, env, h, K => wpE O e env h (fun _ h1 => K.nx env h1) fun ex h1 => K.xc ex env h1
  | .ifs c a b, env, h, K => wpB O c env h (fun t h1 => match t with
    | true => wpSs O a env h1 K
    | false => wpSs O b env h1 K) fun ex h1 => K.xc ex env h1
  | .whl c b, env, h, K => ∃ n, wpWhile (wpB O c) (fun e h1 K1 => wpSs O b e h1 K1) n env h K
  | .for_ t it b, env, h, K => wpI O it env h (fun its h1 => O.dtyL its.items = false ∧ wpFor its.gs (fun x e h2 K2 => wpT O t x e h2 fun e1 h3 => wpSs O b e1 h3 K2) its.items env h1 K) fun ex h1 => K.xc ex env h1
  | .raise c arg, env, h, K => wpE O arg env h (fun v h1 => K.xc ⟨c, some v⟩ env h1) fun ex h1 => K.xc ex env h1
  | .raise0 c, env, h, K => K.xc ⟨c, none⟩ env h
  | .try_ b hs, env, h, K => wpSs O b env h { K with xc := fun ex e h1 => catch_ hs K ex e h1 }
  | .drop i s, env, h, K => wpS O s env h { K with nx := fun e h1 => K.nx e (dropE h1 (get e i)) }
def wpSs (O : Orc) : CSs → Env → Hea → KS → Prop
  | .nil, env, h, K => K.nx env h
  | .cons s r, env, h, K => wpS O s env h { K with nx := fun e h1 => wpSs O r e h1 K }
end

/-- a return at the end -/
def lastE (s : CS) (r : CSs) : Option CE := match s, r with
  | .ret e, .nil => some e
  | _, _ => none
/-- a body that goes straight to its last return -/
def wpR (O : Orc) : CSs → Env → Hea → KQ → (Exc → Env → Hea → Prop) → Prop
  | .nil, _, _, _, _ => False
  | .cons s r, env, h, Q, X => match lastE s r with
    | some e => wpE O e env h Q fun ex h1 => X ex env h1
    | none => wpS O s env h { nx := fun e h1 => wpR O r e h1 Q X, rt := fun _ _ => False, xc := X }
/-! ### programs -/
structure Def where
  n : Nat          -- parameters
  slots : Nat      -- all names
  lm : Bool        -- it makes lambdas
  str : Bool       -- .. and hands them back: its body is straight
  body : CSs
structure Lam where
  n : Nat
  caps : Nat
  slots : Nat
  body : CE
structure Prog where
  defs : List Def
  lams : List Lam

def startE (slots : Nat) (vs : List PV) : Env := vs.map some ++ List.replicate (slots - vs.length) none
/-- behind a call: what was made within may be forgotten -/
def Trim (h h' : Hea) (v : PV) (h'' : Hea) : Prop := h'' = h' ∨ (h'' = h'.take h.length ∧ v.bnd h.length = true ∧ ∀ (n : Nat) (o : HObj), h''[n]? = some o → h[n]? = some o ∨ o.bnd h.length = true)
/-- a call's ends -/
def ends (h : Hea) (Q : KQ) : KQ := fun v h' => ∃ h'', Trim h h' v h'' ∧ Q v h''
/-- lambdas of the level d are dropped -/
def retK (d : Nat) (b : Bool) (Q : KQ) : KQ := match b with
  | false => Q
  | true => fun v h => v.hasTok d = false ∧ Q v (killH d h)
def endsX (h : Hea) (X : KX) : KX := fun ex h' => ∃ h'', Trim h h' (ex.fld.getD .non) h'' ∧ X ex h''
def Orc.at (O : Orc) (b : Bool) : Orc := { O with st := b }
def orc (P : Prog) : Nat → Orc
  | 0 => ⟨fun _ _ _ _ _ => False, fun _ _ _ _ _ _ => False, 0, false⟩
  | d + 1 => ⟨fun i vs h Q X => match P.defs[i]? with
      | some f => vs.length = f.n ∧ match f.str with
        | false => wpSs ((orc P d).at f.lm) f.body (startE f.slots vs) h { nx := fun _ h' => ends h Q .non h', rt := retK d f.lm (ends h Q), xc := fun ex _ h' => endsX h X ex h' }
        | true => wpR ((orc P d).at f.lm) f.body (startE f.slots vs) h (ends h Q) fun ex _ h' => endsX h X ex h'
      | none => False,
    fun l cap vs h Q X => match P.lams[l]? with
      | some f => vs.length = f.n ∧ cap.length = f.caps ∧ wpE (orc P d) f.body (startE f.slots (vs ++ cap)) h (ends h Q) (endsX h X)
      | none => False,
    d + 1, false⟩
theorem orc_tok (P : Prog) (d : Nat) : (orc P d).tok = d := by cases d <;> rfl
end PC

set_option Elab.async false
set_option maxRecDepth 100000
/-! PC2: own values and own heaps against the layer's. -/
namespace PC
open PySem (Str Addr Value Obj Heap Program World Shared Env)
open L2 (V HO Hp upd upd_same upd_ne Rd SqL SqT St Cx Inv)

/-- what stands at an address for good -/
inductive FO where
  | tup (vs : List V) | lst (vs : List V) | dK (kvs : List (Key × V)) | scr (ns : List Int) (ob : Option Obj)
def FO.ho : FO → HO
  | .tup vs => .tup vs
  | .lst vs => .lst vs
  | .dK kvs => .dK kvs
  | .scr ns none => .lst (ns.map V.int)
  | .scr ns (some ob) => .frz ob (.lst (ns.map V.int))
/-- a lambda's object: which, made at, its words, its body, the cells of its captured names -/
structure Clo where
  l : Nat
  tok : Nat
  F : NdefX.NF
  ex : PySem.Expr
  cs : List Addr
structure Wd where
  rho : Nat → Option Addr
  fz : Addr → Option FO
  fn : Addr → Option Clo
  cv : Addr → Option V
  co : Addr → Option Obj
  hid : Addr → Option (List V)
structure Wle (W W' : Wd) : Prop where
  rho : ∀ n a, W.rho n = some a → W'.rho n = some a
  fz : ∀ a o, W.fz a = some o → W'.fz a = some o
  fn : ∀ a o, W.fn a = some o → W'.fn a = some o
  cv : ∀ a o, W.cv a = some o → W'.cv a = some o
  co : ∀ a v o, W.cv a = some v → W.co a = some o → W'.co a = some o
  hid : ∀ a o, W.hid a = some o → W'.hid a = some o
theorem Wle.refl (W : Wd) : Wle W W := ⟨fun _ _ h => h, fun _ _ h => h, fun _ _ h => h, fun _ _ h => h, fun _ _ _ _ h => h, fun _ _ h => h⟩
theorem Wle.trans {W W1 W2 : Wd} (a : Wle W W1) (b : Wle W1 W2) : Wle W W2 :=
  ⟨fun _ _ h => b.rho _ _ (a.rho _ _ h), fun _ _ h => b.fz _ _ (a.fz _ _ h), fun _ _ h => b.fn _ _ (a.fn _ _ h), fun _ _ h => b.cv _ _ (a.cv _ _ h), fun _ _ _ e h => b.co _ _ _ (a.cv _ _ e) (a.co _ _ _ e h), fun _ _ h => b.hid _ _ (a.hid _ _ h)⟩

/-- a tuple of the written part -/
def TupK (K : PySem.W.Frag) (a : Addr) (vs : List V) : Prop :=
  ∃ (o : Obj) (its : Array Value) (n : Nat), K.lookup a = some o ∧ o.cls = .type "tuple" ∧ o.data = .seq its n ∧ its.size ≤ PySem.sizeLine ∧ L2.Vals vs its.toList

def LstK (K : PySem.W.Frag) (a : Addr) (vs : List V) : Prop :=
  ∃ (o : Obj) (its : Array Value) (n : Nat), K.lookup a = some o ∧ o.cls = .type "list" ∧ o.dict = none ∧ o.data = .seq its n ∧ its.size ≤ PySem.sizeLine ∧ L2.Vals vs its.toList
section
variable (adr : Nat → Addr) (K : PySem.W.Frag)
mutual
inductive RV (W : Wd) : PV → V → Prop
  | non : RV W .non .non
  | bl (b) : RV W (.bl b) (.bl b)
  | int (i) : RV W (.int i) (.int i)
  | str (x) : RV W (.str x) (.str x)
  | tup {xs a vs} : W.fz a = some (.tup vs) → RVs W xs vs → RV W (.tup xs) (.ref a)
  | tupK {xs a vs} : TupK K a vs → RVs W xs vs → RV W (.tup xs) (.ref a)
  | lst {xs a vs} : W.fz a = some (.lst vs) → RVs W xs vs → RV W (.lst xs) (.ref a)
  | dct {ks xs a kvs} : W.fz a = some (.dK kvs) → kvs.map (·.1) = ks → RVs W xs (kvs.map (·.2)) → RV W (.dct ks xs) (.ref a)
  | ref {n a} : W.rho n = some a → RV W (.ref n) (.ref a)
  | fn {i} : RV W (.fn i) (.ref (adr i))
  | scr {ns ob a} : W.fz a = some (.scr ns ob) → RV W (.scr ns) (.ref a)
  | scrK {ns a} : LstK K a (ns.map V.int) → RV W (.scr ns) (.ref a)
  | clo {l t cap a ci} : W.fn a = some ci → ci.l = l → ci.tok = t → RCs W cap ci.cs → RV W (.clo l t cap) (.ref a)
inductive RVs (W : Wd) : List PV → List V → Prop
  | nil : RVs W [] []
  | cons {x xs v vs} : RV W x v → RVs W xs vs → RVs W (x :: xs) (v :: vs)
inductive RCs (W : Wd) : List PV → List Addr → Prop
  | nil : RCs W [] []
  | cons {x xs c cs v} : W.cv c = some v → RV W x v → RCs W xs cs → RCs W (x :: xs) (c :: cs)
end
end
section
variable {adr : Nat → Addr} {K : PySem.W.Frag} {W W' : Wd}
mutual
theorem RV.mono (le : Wle W W') {x : PV} {v : V} : RV adr K W x v → RV adr K W' x v
  | .non => .non
  | .bl b => .bl b
  | .int i => .int i
  | .str i => .str i
  | .tup e r => .tup (le.fz _ _ e) (RVs.mono le r)
  | .tupK e r => .tupK e (RVs.mono le r)
  | .lst e r => .lst (le.fz _ _ e) (RVs.mono le r)
  | .dct e k r => .dct (le.fz _ _ e) k (RVs.mono le r)
  | .ref e => .ref (le.rho _ _ e)
  | .fn => .fn
  | .scr e => .scr (le.fz _ _ e)
  | .scrK e => .scrK e
  | .clo e h1 h2 r => .clo (le.fn _ _ e) h1 h2 (RCs.mono le r)
theorem RVs.mono (le : Wle W W') {xs : List PV} {vs : List V} : RVs adr K W xs vs → RVs adr K W' xs vs
  | .nil => .nil
  | .cons r rs => .cons (RV.mono le r) (RVs.mono le rs)
theorem RCs.mono (le : Wle W W') {xs : List PV} {cs : List Addr} : RCs adr K W xs cs → RCs adr K W' xs cs
  | .nil => .nil
  | .cons e r rs => .cons (le.cv _ _ e) (RV.mono le r) (RCs.mono le rs)
end
theorem RVs.length : ∀ {xs : List PV} {vs : List V}, RVs adr K W xs vs → xs.length = vs.length
  | _, _, .nil => rfl
  | _, _, .cons _ r => congrArg (· + 1) (RVs.length r)
theorem RVs.get : ∀ {xs : List PV} {vs : List V} {i : Nat} {x : PV}, RVs adr K W xs vs → xs[i]? = some x → ∃ v, vs[i]? = some v ∧ RV adr K W x v
  | _, _, _, _, .nil, e => by simp at e
  | _, _, 0, _, .cons r _, e => by simp at e; subst e; exact ⟨_, rfl, r⟩
  | _, _, i + 1, _, .cons _ t, e => by
    obtain ⟨v, h1, h2⟩ := RVs.get (i := i) t (by simpa using e)
    exact ⟨v, by simpa using h1, h2⟩
theorem RVs.get' : ∀ {xs : List PV} {vs : List V} {i : Nat} {v : V}, RVs adr K W xs vs → vs[i]? = some v → ∃ x, xs[i]? = some x ∧ RV adr K W x v
  | _, _, _, _, .nil, e => by simp at e
  | _, _, 0, _, .cons r _, e => by simp at e; subst e; exact ⟨_, rfl, r⟩
  | _, _, i + 1, _, .cons _ t, e => by
    obtain ⟨v, h1, h2⟩ := RVs.get' (i := i) t (by simpa using e)
    exact ⟨v, by simpa using h1, h2⟩
theorem RVs.append : ∀ {xs ys : List PV} {vs ws : List V}, RVs adr K W xs vs → RVs adr K W ys ws → RVs adr K W (xs ++ ys) (vs ++ ws)
  | _, _, _, _, .nil, s => s
  | _, _, _, _, .cons r t, s => .cons r (RVs.append t s)
theorem RVs.set {x : PV} {v : V} (r : RV adr K W x v) : ∀ {xs : List PV} {vs : List V} (i : Nat), RVs adr K W xs vs → RVs adr K W (xs.set i x) (vs.set i v)
  | _, _, _, .nil => .nil
  | _, _, 0, .cons _ t => .cons r t
  | _, _, i + 1, .cons q t => .cons q (RVs.set r i t)
theorem RVs.take : ∀ {xs : List PV} {vs : List V} (n : Nat), RVs adr K W xs vs → RVs adr K W (xs.take n) (vs.take n)
  | _, _, 0, _ => .nil
  | _, _, _ + 1, .nil => .nil
  | _, _, n + 1, .cons r t => .cons r (RVs.take n t)
theorem RVs.drop : ∀ {xs : List PV} {vs : List V} (n : Nat), RVs adr K W xs vs → RVs adr K W (xs.drop n) (vs.drop n)
  | _, _, 0, r => r
  | _, _, _ + 1, .nil => .nil
  | _, _, n + 1, .cons _ t => RVs.drop n t
theorem RVs.eraseIdx : ∀ {xs : List PV} {vs : List V} (n : Nat), RVs adr K W xs vs → RVs adr K W (xs.eraseIdx n) (vs.eraseIdx n)
  | _, _, _, .nil => .nil
  | _, _, 0, .cons _ t => t
  | _, _, n + 1, .cons r t => .cons r (RVs.eraseIdx n t)
theorem RVs.dropLast : ∀ {xs : List PV} {vs : List V}, RVs adr K W xs vs → RVs adr K W xs.dropLast vs.dropLast
  | _, _, .nil => .nil
  | _, _, .cons _ .nil => .nil
  | _, _, .cons r (.cons r2 t) => .cons r (RVs.dropLast (.cons r2 t))
theorem RVs.reverse {xs : List PV} {vs : List V} (r : RVs adr K W xs vs) : RVs adr K W xs.reverse vs.reverse := by
  have key : ∀ {xs : List PV} {vs : List V} {ys : List PV} {ws : List V}, RVs adr K W xs vs → RVs adr K W ys ws → RVs adr K W (xs.reverseAux ys) (vs.reverseAux ws) := by
    intro xs
    induction xs with
    | nil => intro vs ys ws r s; cases r; exact s
    | cons x xs ih => intro vs ys ws r s; cases r with | @cons _ _ v vs r rs => exact ih (vs := vs) (ys := x :: ys) (ws := v :: ws) rs (.cons r s)
  exact key r .nil
theorem RVs.replicate {xs : List PV} {vs : List V} (r : RVs adr K W xs vs) : ∀ n : Nat, RVs adr K W (List.replicate n xs).flatten (List.replicate n vs).flatten
  | 0 => .nil
  | n + 1 => by
    rw [List.replicate_succ, List.replicate_succ, List.flatten_cons, List.flatten_cons]
    exact r.append (RVs.replicate r n)

/-! ### refs, tokens -/
mutual
/-- a world that forgets: the refs from n on -/
theorem RV.low {n : Nat} (h1 : ∀ m a, m < n → W.rho m = some a → W'.rho m = some a) (h2 : ∀ a o, W.fz a = some o → W'.fz a = some o) (h3 : ∀ a o, W.fn a = some o → W'.fn a = some o) (h4 : ∀ a o, W.cv a = some o → W'.cv a = some o) {x : PV} {v : V} :
    RV adr K W x v → x.bnd n = true → RV adr K W' x v
  | .non, _ => .non
  | .bl b, _ => .bl b
  | .int i, _ => .int i
  | .str i, _ => .str i
  | .tup e r, b => .tup (h2 _ _ e) (RVs.low h1 h2 h3 h4 r b)
  | .tupK e r, b => .tupK e (RVs.low h1 h2 h3 h4 r b)
  | .lst e r, b => .lst (h2 _ _ e) (RVs.low h1 h2 h3 h4 r b)
  | .dct e k r, b => .dct (h2 _ _ e) k (RVs.low h1 h2 h3 h4 r b)
  | .ref e, b => .ref (h1 _ _ (of_decide_eq_true b) e)
  | .fn, _ => .fn
  | .scr e, _ => .scr (h2 _ _ e)
  | .scrK e, _ => .scrK e
  | .clo e z1 z2 r, b => .clo (h3 _ _ e) z1 z2 (RCs.low h1 h2 h3 h4 r b)
theorem RVs.low {n : Nat} (h1 : ∀ m a, m < n → W.rho m = some a → W'.rho m = some a) (h2 : ∀ a o, W.fz a = some o → W'.fz a = some o) (h3 : ∀ a o, W.fn a = some o → W'.fn a = some o) (h4 : ∀ a o, W.cv a = some o → W'.cv a = some o) {xs : List PV} {vs : List V} :
    RVs adr K W xs vs → bndL n xs = true → RVs adr K W' xs vs
  | .nil, _ => .nil
  | .cons r rs, b => .cons (RV.low h1 h2 h3 h4 r (Bool.and_eq_true_iff.mp b).1) (RVs.low h1 h2 h3 h4 rs (Bool.and_eq_true_iff.mp b).2)
theorem RCs.low {n : Nat} (h1 : ∀ m a, m < n → W.rho m = some a → W'.rho m = some a) (h2 : ∀ a o, W.fz a = some o → W'.fz a = some o) (h3 : ∀ a o, W.fn a = some o → W'.fn a = some o) (h4 : ∀ a o, W.cv a = some o → W'.cv a = some o) {xs : List PV} {cs : List Addr} :
    RCs adr K W xs cs → bndL n xs = true → RCs adr K W' xs cs
  | .nil, _ => .nil
  | .cons e r rs, b => .cons (h4 _ _ e) (RV.low h1 h2 h3 h4 r (Bool.and_eq_true_iff.mp b).1) (RCs.low h1 h2 h3 h4 rs (Bool.and_eq_true_iff.mp b).2)
end
mutual
/-- a world that forgets the lambdas of level t -/
theorem RV.kill {t : Nat} (h1 : ∀ m a, W.rho m = some a → W'.rho m = some a) (h2 : ∀ a o, W.fz a = some o → W'.fz a = some o) (h3 : ∀ a o, W.fn a = some o → o.tok ≠ t → W'.fn a = some o ∧ ∀ c v, c ∈ o.cs → W.cv c = some v → W'.cv c = some v) {x : PV} {v : V} :
    RV adr K W x v → x.hasTok t = false → RV adr K W' x v
  | .non, _ => .non
  | .bl b, _ => .bl b
  | .int i, _ => .int i
  | .str i, _ => .str i
  | .tup e r, b => .tup (h2 _ _ e) (RVs.kill h1 h2 h3 r b)
  | .tupK e r, b => .tupK e (RVs.kill h1 h2 h3 r b)
  | .lst e r, b => .lst (h2 _ _ e) (RVs.kill h1 h2 h3 r b)
  | .dct e k r, b => .dct (h2 _ _ e) k (RVs.kill h1 h2 h3 r b)
  | .ref e, b => .ref (h1 _ _ e)
  | .fn, _ => .fn
  | .scr e, _ => .scr (h2 _ _ e)
  | .scrK e, _ => .scrK e
  | .clo (ci := ci) e z1 z2 r, b => by
    obtain ⟨b1, b2⟩ := Bool.or_eq_false_iff.mp b
    have hne : ci.tok ≠ t := by rw [z2]; exact of_decide_eq_false b1
    obtain ⟨q1, q2⟩ := h3 _ _ e hne
    exact .clo q1 z1 z2 (RCs.kill h1 h2 h3 r (fun c v hc hv => q2 c v hc hv) b2)
theorem RVs.kill {t : Nat} (h1 : ∀ m a, W.rho m = some a → W'.rho m = some a) (h2 : ∀ a o, W.fz a = some o → W'.fz a = some o) (h3 : ∀ a o, W.fn a = some o → o.tok ≠ t → W'.fn a = some o ∧ ∀ c v, c ∈ o.cs → W.cv c = some v → W'.cv c = some v) {xs : List PV} {vs : List V} :
    RVs adr K W xs vs → hasTokL t xs = false → RVs adr K W' xs vs
  | .nil, _ => .nil
  | .cons r rs, b => .cons (RV.kill h1 h2 h3 r (Bool.or_eq_false_iff.mp b).1) (RVs.kill h1 h2 h3 rs (Bool.or_eq_false_iff.mp b).2)
theorem RCs.kill {t : Nat} (h1 : ∀ m a, W.rho m = some a → W'.rho m = some a) (h2 : ∀ a o, W.fz a = some o → W'.fz a = some o) (h3 : ∀ a o, W.fn a = some o → o.tok ≠ t → W'.fn a = some o ∧ ∀ c v, c ∈ o.cs → W.cv c = some v → W'.cv c = some v) {xs : List PV} {cs : List Addr} :
    RCs adr K W xs cs → (∀ c v, c ∈ cs → W.cv c = some v → W'.cv c = some v) → hasTokL t xs = false → RCs adr K W' xs cs
  | .nil, _, _ => .nil
  | .cons e r rs, q, b => .cons (q _ _ List.mem_cons_self e) (RV.kill h1 h2 h3 r (Bool.or_eq_false_iff.mp b).1) (RCs.kill h1 h2 h3 rs (fun c v hc hv => q c v (List.mem_cons_of_mem _ hc) hv) (Bool.or_eq_false_iff.mp b).2)
end
mutual
/-- what is related has its refs in the world -/
theorem RV.bound {n : Nat} (hn : ∀ m, n ≤ m → W.rho m = none) {x : PV} {v : V} : RV adr K W x v → x.bnd n = true
  | .non => rfl
  | .bl b => rfl
  | .int i => rfl
  | .str i => rfl
  | .tup e r => RVs.bound hn r
  | .tupK e r => RVs.bound hn r
  | .lst e r => RVs.bound hn r
  | .dct e k r => RVs.bound hn r
  | .ref (n := m) e => by
    refine decide_eq_true ?_
    by_cases q : m < n
    · exact q
    · rw [hn m (by omega)] at e; cases e
  | .fn => rfl
  | .scr _ => rfl
  | .scrK _ => rfl
  | .clo e z1 z2 r => RCs.bound hn r
theorem RVs.bound {n : Nat} (hn : ∀ m, n ≤ m → W.rho m = none) {xs : List PV} {vs : List V} : RVs adr K W xs vs → bndL n xs = true
  | .nil => rfl
  | .cons r rs => Bool.and_eq_true_iff.mpr ⟨RV.bound hn r, RVs.bound hn rs⟩
theorem RCs.bound {n : Nat} (hn : ∀ m, n ≤ m → W.rho m = none) {xs : List PV} {cs : List Addr} : RCs adr K W xs cs → bndL n xs = true
  | .nil => rfl
  | .cons _ r rs => Bool.and_eq_true_iff.mpr ⟨RV.bound hn r, RCs.bound hn rs⟩
end
end
end PC

set_option Elab.async false
set_option maxRecDepth 100000
/-! PC3: the own heap held by the layer's heap. -/
namespace PC
open PySem (Str Addr Value Obj Heap Program World Shared)
open L2 (V HO Hp upd upd_same upd_ne Rd SqL SqT St Cx Inv)

/-- a cell, told to the letter -/
def CellX (c : Addr) (ob : Obj) : HO := .ext fun h => h.get? c = some ob
/-- a lambda's object -/
def LamO (a : Addr) (ci : Clo) : HO := .ext fun h => ∃ (pm ctv : Value), h.get? a = some (PySem.W.kla_obj "<lambda>" ci.F.qual ci.F.params ci.ex ci.F.scope ci.F.cl pm ci.F.c ctv)
/-- a frame: its level, the world at its entry, the world that its stores keep, whether it makes lambdas (or is one), whether it is a comprehension's block, its cells -/
structure Fm where
  t : Nat
  W0 : Wd
  Wk : Wd
  lm : Bool
  st : Bool
  bk : Bool
  ow : Addr → Prop
/-- a cell that stood when the block began -/
def CellC (X : Cx) (c : Addr) (v : V) : Prop := X.H_0 c = none ∧ c ∉ X.fs ∧ c ∉ X.ex ∧ ∃ ob u, X.s_0.heap.get? c = some ob ∧ ob.data = .cell (some u) ∧ L2.RelV v u
def CellV (X : Cx) (σ : St) (c : Addr) (v : V) : Prop := ∃ (y : Str) (i : Nat), X.env.cells.lookup y = some c ∧ (X.env.kindOf y = some .cell ∨ X.env.kindOf y = some .free) ∧ X.N[i]? = some y ∧ σ[i]? = some (some v) ∧ c ∉ X.fs
def CellA (X : Cx) (t : Fm) (σ : St) (c : Addr) (v : V) : Prop := (t.lm = true ∧ CellV X σ c v) ∨ (t.bk = true ∧ t.Wk.cv c = some v ∧ CellC X c v)
def CellB (W : Wd) (H : Hp) (c : Addr) (v : V) : Prop := ∃ ob u, W.co c = some ob ∧ H c = some (CellX c ob) ∧ ob.data = .cell (some u) ∧ L2.RelV v u
def HObj.live : HObj → Bool
  | .dead => false
  | _ => true
/-- neither a list nor a dict: never written -/
def Fix : HO → Prop
  | .lst _ => False
  | .dK _ => False
  | _ => True

/-- what the proof of a program hands through: where its defs stand, the written part, the tables of lambdas, what is true of lambdas -/
structure Gs where
  adr : Nat → Addr
  K : PySem.W.Frag
  T : List (Addr × Str)
  LG : Clo → Prop
  exC : Nat → Addr
  exF : Nat → Option Str
  exn : Nat

section
variable (G : Gs)
def RO (W : Wd) : HObj → HO → Prop
  | .lst xs, u => ∃ vs, u = .lst vs ∧ RVs G.adr G.K W xs vs
  | .dK ks xs, u => ∃ kvs, u = .dK kvs ∧ kvs.map (·.1) = ks ∧ RVs G.adr G.K W xs (kvs.map (·.2))
  | .dead, _ => True
/-- the own heap h, seen in the world W, is held by H -/
structure RH (B : Heap) (CA : Addr → V → Prop) (tkP : Addr → Clo → Prop) (W : Wd) (h : Hea) (H : Hp) : Prop where
  fz : ∀ a o, W.fz a = some o → H a = some o.ho
  live : ∀ n o, h[n]? = some o → o.live = true → ∃ a u, W.rho n = some a ∧ H a = some u ∧ RO G W o u
  inj : ∀ n m o o' a, h[n]? = some o → o.live = true → h[m]? = some o' → o'.live = true → W.rho n = some a → W.rho m = some a → n = m
  dis : ∀ n o a, h[n]? = some o → o.live = true → W.rho n = some a → W.fz a = none
  new : ∀ n, h.length ≤ n → W.rho n = none
  tabs : LamX.Tabs G.T H
  fn : ∀ a ci, W.fn a = some ci → G.LG ci ∧ H a = some (LamO a ci) ∧ H ci.F.c = some (LamX.CodeO ci.F.c ci.F.qual) ∧ ∀ c ∈ ci.cs, ∃ v, W.cv c = some v
  cv : ∀ c v, W.cv c = some v → B.get? c = none ∧ ((CA c v ∧ W.co c = none) ∨ CellB W H c v)
  tk : ∀ a ci, W.fn a = some ci → tkP a ci
  hd : ∀ a vs, W.hid a = some vs → H a = some (.lst vs) ∧ W.fz a = none ∧ ∀ (n : Nat) (o : HObj), h[n]? = some o → o.live = true → W.rho n ≠ some a
/-- a cell that X's frame (or block) has made itself -/
def Own (X : Cx) (c : Addr) : Prop := ∃ y, X.fn y = true ∧ X.env.cells.lookup y = some c
/-- what is known of a lambda: its cells are the frame's own only if it was made at the frame's level; it is old, or its cells are new -/
def TK (F : Fm) (a : Addr) (ci : Clo) : Prop := (ci.tok ≠ F.t → ∀ c ∈ ci.cs, ¬ F.ow c) ∧ (F.W0.fn a = some ci ∨ ∀ c ∈ ci.cs, F.W0.cv c = none)
/-- what a frame is built on -/
structure FmOk (X : Cx) (t : Fm) : Prop where
  lk : Wle t.W0 t.Wk
  kc : ∀ y c, X.fn y = true → X.env.cells.lookup y = some c → t.Wk.cv c = none
  kf : ∀ a ci, t.Wk.fn a = some ci → ∀ c ∈ ci.cs, ∃ v, t.Wk.cv c = some v
  ow1 : ∀ c, Own X c → t.ow c
  owx : ∀ c, t.ow c → Own X c ∨ (X.H_0 c = none ∧ c ∉ X.ex ∧ ∃ ob v, X.s_0.heap.get? c = some ob ∧ ob.data = .cell v)
/-- .. while X runs as the frame F with the slots σ -/
structure RS (X : Cx) (t : Fm) (W : Wd) (env : Env) (h : Hea) (σ : St) (H : Hp) : Prop extends RH G X.base (CellA X t σ) (TK t) W h H where
  len : env.length = σ.length
  env : ∀ i v, get env i = some v → ∃ V, σ[i]? = some (some V) ∧ RV G.adr G.K W v V
  le0 : Wle t.W0 W
  lek : Wle t.Wk W
end

theorem cellX_fix (c : Addr) (ob : Obj) : Fix (CellX c ob) := trivial
theorem lamO_fix (a : Addr) (ci : Clo) : Fix (LamO a ci) := trivial

section
variable {G : Gs} {B : Heap} {CA : Addr → V → Prop} {tkP : Addr → Clo → Prop} {W W' : Wd} {env : Env} {h : Hea} {H : Hp}
theorem RO.mono (le : Wle W W') {o : HObj} {u : HO} (r : RO G W o u) : RO G W' o u := by
  cases o with
  | lst xs => obtain ⟨vs, e, q⟩ := r; exact ⟨vs, e, q.mono le⟩
  | dK ks xs => obtain ⟨kvs, e, k, q⟩ := r; exact ⟨kvs, e, k, q.mono le⟩
  | dead => trivial
theorem tabs_keep {T : List (Addr × Str)} {H H' : Hp} (k : ∀ b o, H b = some o → Fix o → H' b = some o) (x : LamX.Tabs T H) : LamX.Tabs T H' := fun p hp => by
  obtain ⟨ps, h1, h2, h3⟩ := x p hp
  refine ⟨ps, k _ _ h1 trivial, h2, fun pos cv hc => ?_⟩
  obtain ⟨c, e1, e2⟩ := h3 pos cv hc
  exact ⟨c, e1, k _ _ e2 trivial⟩
theorem CellB.keep {H H' : Hp} (k : ∀ b o, H b = some o → Fix o → H' b = some o) {c : Addr} {v : V} (x : CellB W H c v) : CellB W H' c v := by
  obtain ⟨ob, u, h0, h1, h2, h3⟩ := x
  exact ⟨ob, u, h0, k _ _ h1 trivial, h2, h3⟩
theorem CellB.mono (le : Wle W W') {c : Addr} {v : V} (e : W.cv c = some v) (x : CellB W H c v) : CellB W' H c v := by
  obtain ⟨ob, u, h0, h1, h2, h3⟩ := x
  exact ⟨ob, u, le.co _ _ _ e h0, h1, h2, h3⟩

theorem rvs_ints : ∀ ns : List Int, RVs G.adr G.K W (ns.map .int) (ns.map V.int)
  | [] => .nil
  | n :: ns => .cons (.int n) (rvs_ints ns)
/-- a list or tuple that is read -/
theorem RH.seq (r : RH G B CA tkP W h H) {v : PV} {x : V} {b : Bool} {xs : List PV} (rv : RV G.adr G.K W v x) (e : seqOf h v = some (b, xs)) :
    ∃ a vs, x = .ref a ∧ RVs G.adr G.K W xs vs ∧ ((b = true ∧ SqT G.K H a vs) ∨ (b = false ∧ SqL G.K H a vs)) := by
  cases rv with
  | tup f rs => cases e; exact ⟨_, _, rfl, rs, .inl ⟨rfl, .inl (.inl (r.fz _ _ f))⟩⟩
  | tupK f rs => cases e; exact ⟨_, _, rfl, rs, .inl ⟨rfl, .inr f⟩⟩
  | lst f rs => cases e; exact ⟨_, _, rfl, rs, .inr ⟨rfl, .inl (.inl (r.fz _ _ f))⟩⟩
  | @scr ns ob a f =>
    cases e
    refine ⟨_, _, rfl, rvs_ints ns, .inr ⟨rfl, .inl ?_⟩⟩
    have q := r.fz _ _ f
    cases ob with
    | none => exact .inl q
    | some o => exact .inr ⟨o, q⟩
  | scrK f => cases e; exact ⟨_, _, rfl, rvs_ints _, .inr ⟨rfl, .inr f⟩⟩
  | @ref n a f =>
    cases q : h[n]? with
    | none => simp only [seqOf, q] at e; cases e
    | some o =>
      cases o with
      | lst ys =>
        simp only [seqOf, q] at e
        cases e
        obtain ⟨a', u, e1, e2, vs, e3, rs⟩ := r.live n _ q rfl
        rw [f] at e1; cases e1
        subst e3
        exact ⟨a, vs, rfl, rs, .inr ⟨rfl, .inl (.inl e2)⟩⟩
      | _ => simp only [seqOf, q] at e; cases e
  | _ => cases e

/-- a new object of the layer: all else is kept -/
theorem RH.kept (r : RH G B CA tkP W h H) {p : Addr} {o : HO} (hp : H p = none) : RH G B CA tkP W h (upd H p o) := by
  have k : ∀ b u, H b = some u → upd H p o b = some u := fun b u e => by rw [upd_ne (L2.ne_of_none e hp)]; exact e
  refine ⟨fun a f e => k _ _ (r.fz a f e), fun n ob e l => ?_, r.inj, r.dis, r.new, tabs_keep (fun b u e _ => k b u e) r.tabs, fun a ci e => ?_, fun c v e => ⟨(r.cv c v e).1, (r.cv c v e).2.imp id fun z => z.keep fun b u q _ => k b u q⟩, r.tk, fun a vs e => ⟨k _ _ (r.hd a vs e).1, (r.hd a vs e).2⟩⟩
  · obtain ⟨a, u, h1, h2, h3⟩ := r.live n ob e l
    exact ⟨a, u, h1, k _ _ h2, h3⟩
  · obtain ⟨h1, h2, h3, h4⟩ := r.fn a ci e
    exact ⟨h1, k _ _ h2, k _ _ h3, h4⟩
def Wd.addF (W : Wd) (p : Addr) (o : FO) : Wd := { W with fz := fun a => if a = p then some o else W.fz a }
def Wd.addR (W : Wd) (n : Nat) (p : Addr) : Wd := { W with rho := fun m => if m = n then some p else W.rho m }
theorem Wd.addF_le {p : Addr} {o : FO} (n : W.fz p = none) : Wle W (W.addF p o) :=
  ⟨fun _ _ e => e, fun a u e => by
    show (if a = p then some o else W.fz a) = some u
    rw [if_neg (fun z => by rw [z, n] at e; cases e)]; exact e, fun _ _ e => e, fun _ _ e => e, fun _ _ _ _ e => e, fun _ _ e => e⟩
theorem Wd.addR_le {m : Nat} {p : Addr} (n : W.rho m = none) : Wle W (W.addR m p) :=
  ⟨fun a u e => by
    show (if a = m then some p else W.rho a) = some u
    rw [if_neg (fun z => by rw [z, n] at e; cases e)]; exact e, fun _ _ e => e, fun _ _ e => e, fun _ _ e => e, fun _ _ _ _ e => e, fun _ _ e => e⟩
/-- more is known to stand for good at p -/
theorem RH.addF (r : RH G B CA tkP W h H) {p : Addr} {o : FO} (hp : H p = some o.ho) (nf : W.fz p = none) (nh : W.hid p = none) (nr : ∀ n ob, h[n]? = some ob → ob.live = true → W.rho n ≠ some p) : RH G B CA tkP (W.addF p o) h H := by
  have le := Wd.addF_le (o := o) nf
  refine ⟨fun a f e => ?_, fun n ob e l => ?_, r.inj, fun n ob a e l q => ?_, r.new, r.tabs, r.fn, r.cv, r.tk, fun a vs e => ⟨(r.hd a vs e).1, ?_, (r.hd a vs e).2.2⟩⟩
  · have e' : (if a = p then some o else W.fz a) = some f := e
    by_cases z : a = p
    · rw [if_pos z] at e'; cases e'; rw [z]; exact hp
    · rw [if_neg z] at e'; exact r.fz a f e'
  · obtain ⟨a, u, h1, h2, h3⟩ := r.live n ob e l
    exact ⟨a, u, h1, h2, h3.mono le⟩
  · show (if a = p then some o else W.fz a) = none
    rw [if_neg (fun z => nr n ob e l (by rw [← z]; exact q))]
    exact r.dis n ob a e l q
  · show (if a = p then some o else W.fz a) = none
    have e' : W.hid a = some vs := e
    rw [if_neg (fun z => by rw [z, nh] at e'; cases e')]
    exact (r.hd a vs e').2.1
theorem RH.hdNone (r : RH G B CA tkP W h H) {p : Addr} (hp : H p = none) : W.hid p = none := by
  cases q : W.hid p with
  | none => rfl
  | some o => have z := (r.hd p o q).1; rw [hp] at z; cases z
theorem RH.fzNone (r : RH G B CA tkP W h H) {p : Addr} (hp : H p = none) : W.fz p = none := by
  cases q : W.fz p with
  | none => rfl
  | some o => have z := r.fz p o q; rw [hp] at z; cases z
/-- a new tree -/
theorem RH.allocF (r : RH G B CA tkP W h H) {p : Addr} (o : FO) (hp : H p = none) : Wle W (W.addF p o) ∧ RH G B CA tkP (W.addF p o) h (upd H p o.ho) := by
  have nf := r.fzNone hp
  exact ⟨Wd.addF_le nf, (r.kept hp).addF upd_same nf (r.hdNone hp) fun n ob e l z => by
    obtain ⟨a, u, h1, h2, _⟩ := r.live n ob e l
    rw [z] at h1; cases h1; rw [hp] at h2; cases h2⟩
/-- a new object of the own heap -/
theorem RH.allocR (r : RH G B CA tkP W h H) {p : Addr} {o : HObj} {u : HO} (hp : H p = none) (ro : RO G W o u) : Wle W (W.addR h.length p) ∧ RH G B CA tkP (W.addR h.length p) (h ++ [o]) (upd H p u) := by
  have nr := r.new h.length (Nat.le_refl _)
  have le := Wd.addR_le (p := p) nr
  have r1 := r.kept (o := u) hp
  have at_ : ∀ n, n ≠ h.length → (W.addR h.length p).rho n = W.rho n := fun n hn => if_neg hn
  have at0 : (W.addR h.length p).rho h.length = some p := if_pos rfl
  have old : ∀ n ob, (h ++ [o])[n]? = some ob → n ≠ h.length → h[n]? = some ob := fun n ob e hn => by
    by_cases q : n < h.length
    · rw [List.getElem?_append_left q] at e; exact e
    · rw [List.getElem?_append_right (by omega), List.getElem?_singleton, if_neg (by omega)] at e; cases e
  have pl : ∀ n ob, h[n]? = some ob → ob.live = true → W.rho n ≠ some p := fun n ob e l z => by
    obtain ⟨a, u, h1, h2, _⟩ := r.live n ob e l
    rw [z] at h1; cases h1; rw [hp] at h2; cases h2
  refine ⟨le, r1.fz, fun n ob e l => ?_, fun n m ob ob' a g1 l1 g2 l2 e1 e2 => ?_, fun n ob a e l q => ?_, fun n hn => ?_, r1.tabs, r1.fn, r1.cv, r1.tk, fun a vs e => ⟨(r1.hd a vs e).1, (r1.hd a vs e).2.1, fun n ob g l z => ?_⟩⟩
  · by_cases hn : n = h.length
    · subst hn
      rw [List.getElem?_append_right (Nat.le_refl _)] at e
      simp at e
      subst e
      exact ⟨p, u, at0, upd_same, ro.mono le⟩
    · obtain ⟨a, w, h1, h2, h3⟩ := r1.live n ob (old n ob e hn) l
      exact ⟨a, w, by rw [at_ n hn]; exact h1, h2, h3.mono le⟩
  · by_cases hn : n = h.length
    · by_cases hm : m = h.length
      · rw [hn, hm]
      · rw [hn, at0] at e1; cases e1
        rw [at_ m hm] at e2
        exact (pl m ob' (old m ob' g2 hm) l2 e2).elim
    · rw [at_ n hn] at e1
      by_cases hm : m = h.length
      · rw [hm, at0] at e2; cases e2
        exact (pl n ob (old n ob g1 hn) l1 e1).elim
      · rw [at_ m hm] at e2
        exact r.inj n m ob ob' a (old n ob g1 hn) l1 (old m ob' g2 hm) l2 e1 e2
  · by_cases hn : n = h.length
    · subst hn; rw [at0] at q; cases q; exact r.fzNone hp
    · rw [at_ n hn] at q; exact r.dis n ob a (old n ob e hn) l q
  · rw [List.length_append] at hn
    have hn' : n ≠ h.length := by simp at hn; omega
    rw [at_ n hn']
    exact r.new n (by simp at hn; omega)
  · by_cases hn : n = h.length
    · subst hn
      rw [at0] at z; cases z
      have e' : W.hid p = some vs := e
      rw [r.hdNone hp] at e'; cases e'
    · rw [at_ n hn] at z
      exact (r.hd a vs e).2.2 n ob (old n ob g hn) l z
/-- an object of the own heap is written -/
theorem RH.write (r : RH G B CA tkP W h H) {n : Nat} {o o' : HObj} {a : Addr} {u u' : HO} (e : h[n]? = some o) (l : o.live = true) (ha : W.rho n = some a) (hu : H a = some u) (nf : ¬ Fix u) (ro : RO G W o' u') : RH G B CA tkP W (h.set n o') (upd H a u') := by
  have k : ∀ b w, H b = some w → Fix w → upd H a u' b = some w := fun b w q f => by
    rw [upd_ne (fun z => by rw [z, hu] at q; cases q; exact nf f)]; exact q
  have lt : n < h.length := (List.getElem?_eq_some_iff.mp e).1
  refine ⟨fun b f q => by rw [upd_ne (fun w => by rw [w, r.dis n o a e l ha] at q; cases q)]; exact r.fz b f q, fun m ob q lo => ?_, fun m m' ob ob' b g1 l1 g2 l2 e1 e2 => ?_, fun m ob b q lo z => ?_, fun m hm => r.new m (by simpa using hm), tabs_keep k r.tabs, fun b ci q => ?_, fun c v q => ⟨(r.cv c v q).1, (r.cv c v q).2.imp id fun z => z.keep k⟩, r.tk, fun b vs q => ⟨?_, (r.hd b vs q).2.1, fun m ob g lo z => ?_⟩⟩
  · by_cases hm : m = n
    · subst hm
      rw [List.getElem?_set_self lt] at q
      cases q
      exact ⟨a, u', ha, upd_same, ro⟩
    · rw [List.getElem?_set_ne (Ne.symm hm)] at q
      obtain ⟨b, w, h1, h2, h3⟩ := r.live m ob q lo
      exact ⟨b, w, h1, by rw [upd_ne (fun z => hm (r.inj m n ob o a q lo e l (by rw [← z]; exact h1) ha))]; exact h2, h3⟩
  · have lv : ∀ (m : Nat) (ob : HObj), (h.set n o')[m]? = some ob → ob.live = true → ∃ ob' : HObj, h[m]? = some ob' ∧ ob'.live = true := fun m ob q lo => by
      by_cases hm : m = n
      · subst hm; exact ⟨o, e, l⟩
      · rw [List.getElem?_set_ne (Ne.symm hm)] at q; exact ⟨ob, q, lo⟩
    obtain ⟨o1, q1, k1⟩ := lv m ob g1 l1
    obtain ⟨o2, q2, k2⟩ := lv m' ob' g2 l2
    exact r.inj m m' o1 o2 b q1 k1 q2 k2 e1 e2
  · by_cases hm : m = n
    · subst hm
      rw [ha] at z; cases z
      exact r.dis m o a e l ha
    · rw [List.getElem?_set_ne (Ne.symm hm)] at q
      exact r.dis m ob b q lo z
  · obtain ⟨h1, h2, h3, h4⟩ := r.fn b ci q
    exact ⟨h1, k _ _ h2 (lamO_fix b ci), k _ _ h3 trivial, h4⟩
  · rw [upd_ne (fun z => (r.hd b vs q).2.2 n o e l (by rw [z]; exact ha))]
    exact (r.hd b vs q).1
  · by_cases hm : m = n
    · subst hm; exact (r.hd b vs q).2.2 m o e l z
    · rw [List.getElem?_set_ne (Ne.symm hm)] at g; exact (r.hd b vs q).2.2 m ob g lo z
/-- an object of the own heap is forgotten -/
theorem RH.forget (r : RH G B CA tkP W h H) (n : Nat) : RH G B CA tkP W (h.set n .dead) H := by
  have old : ∀ (m : Nat) (ob : HObj), (h.set n .dead)[m]? = some ob → ob.live = true → h[m]? = some ob := fun m ob q lo => by
    by_cases hm : m = n
    · subst hm
      by_cases lt : m < h.length
      · rw [List.getElem?_set_self lt] at q; cases q; cases lo
      · rw [List.getElem?_eq_none (by simpa using lt)] at q; cases q
    · rw [List.getElem?_set_ne (Ne.symm hm)] at q; exact q
  exact ⟨r.fz, fun m ob q lo => r.live m ob (old m ob q lo) lo, fun m m' ob ob' b g1 l1 g2 l2 e1 e2 => r.inj m m' ob ob' b (old m ob g1 l1) l1 (old m' ob' g2 l2) l2 e1 e2, fun m ob b q lo z => r.dis m ob b (old m ob q lo) lo z, fun m hm => r.new m (by simpa using hm), r.tabs, r.fn, r.cv, r.tk, fun b vs q => ⟨(r.hd b vs q).1, (r.hd b vs q).2.1, fun m ob g lo z => (r.hd b vs q).2.2 m ob (old m ob g lo) lo z⟩⟩
/-- a list of the own heap becomes a tree -/
theorem RH.freeze (r : RH G B CA tkP W h H) {n : Nat} {xs : List PV} {a : Addr} (e : h[n]? = some (.lst xs)) (ha : W.rho n = some a) : ∃ vs, Wle W (W.addF a (.lst vs)) ∧ RH G B CA tkP (W.addF a (.lst vs)) (h.set n .dead) H ∧ RVs G.adr G.K W xs vs := by
  obtain ⟨a', u, h1, h2, vs, h3, rs⟩ := r.live n _ e rfl
  rw [ha] at h1; cases h1
  subst h3
  have nf := r.dis n _ a e rfl ha
  have lt : n < h.length := (List.getElem?_eq_some_iff.mp e).1
  have nh : W.hid a = none := by
    cases q : W.hid a with
    | none => rfl
    | some us => exact ((r.hd a us q).2.2 n _ e rfl ha).elim
  refine ⟨vs, Wd.addF_le nf, (r.forget n).addF h2 nf nh fun m ob q lo z => ?_, rs⟩
  by_cases hm : m = n
  · subst hm
    rw [List.getElem?_set_self lt] at q; cases q; cases lo
  · rw [List.getElem?_set_ne (Ne.symm hm)] at q
    exact hm (r.inj m n ob _ a q lo e rfl z ha)
end
end PC

set_option Elab.async false
set_option maxRecDepth 100000
/-! PC4: expressions. -/
namespace PC
open PySem PySem.Spec PyProof.Rows
open L2 (V HO Hp upd upd_same upd_ne Rd SqL SqT Cx Inv TE TT TA TS VK PE PT PW PA R2 OpR CallR)
abbrev Frag := PySem.W.Frag

/-- an error, as it lies in the layer's heap -/
def RX (G : Gs) (W : Wd) (ex : Exc) (cls : Value) (d : Option Addr) (H : Hp) : Prop :=
  (ex.cls < G.exn ∧ cls = .ref (G.exC ex.cls)) ∧ match ex.fld with
    | none => G.exF ex.cls = none
    | some v => ∃ f dd x, G.exF ex.cls = some f ∧ d = some dd ∧ H dd = some (.xd [(f, x)]) ∧ RV G.adr G.K W v x

section
variable (G : Gs) (X : Cx) (t : Fm) (Wx : L2.WX)
/-- what follows an expression -/
def CQ (W : Wd) (env : Env) (σ : L2.St) (Qp : KQ) (Q : VK) : Prop := ∀ W' v h' x H', Wle W W' → RS G X t W' env h' σ H' → RV G.adr G.K W' v x → Qp v h' → Q x H'
def CX (W : Wd) (env : Env) (σ : L2.St) (Xp : KX) : Prop := ∀ W' ex h' cls d H', Wle W W' → RS G X t W' env h' σ H' → RX G W' ex cls d H' → Xp ex h' → Wx cls d σ H'
def CB (W : Wd) (env : Env) (σ : L2.St) (kp : Bool → Hea → Prop) (Q : Bool → Hp → Prop) : Prop := ∀ W' b h' H', Wle W W' → RS G X t W' env h' σ H' → kp b h' → Q b H'
def CA (W : Wd) (env : Env) (σ : L2.St) (kp : List PV → Hea → Prop) (Q : List V → Hp → Prop) : Prop := ∀ W' vs h' xs H', Wle W W' → RS G X t W' env h' σ H' → RVs G.adr G.K W' vs xs → kp vs h' → Q xs H'
abbrev WE := Env → Hea → KQ → KX → Prop
abbrev WB := Env → Hea → (Bool → Hea → Prop) → KX → Prop
abbrev WA := Env → Hea → (List PV → Hea → Prop) → KX → Prop
def LE (w : WE) : TE := fun σ H Q => ∃ W env h Qp Xp, RS G X t W env h σ H ∧ w env h Qp Xp ∧ CQ G X t W env σ Qp Q ∧ CX G X t Wx W env σ Xp
def LT (w : WB) : TT := fun σ H Q => ∃ W env h kp Xp, RS G X t W env h σ H ∧ w env h kp Xp ∧ CB G X t W env σ kp Q ∧ CX G X t Wx W env σ Xp
def LA (w : WA) : TA := fun σ H Q => ∃ W env h kp Xp, RS G X t W env h σ H ∧ w env h kp Xp ∧ CA G X t W env σ kp Q ∧ CX G X t Wx W env σ Xp
end
section
variable {G : Gs} {X : Cx} {t : Fm} {Wx : L2.WX} {W W' : Wd} {env : Env} {h : Hea} {σ : L2.St} {H : Hp}
theorem CQ.mono (le : Wle W W') {Qp : KQ} {Q : VK} (c : CQ G X t W env σ Qp Q) : CQ G X t W' env σ Qp Q := fun W2 v h' x H' l2 => c W2 v h' x H' (le.trans l2)
theorem CX.mono (le : Wle W W') {Xp : KX} (c : CX G X t Wx W env σ Xp) : CX G X t Wx W' env σ Xp := fun W2 v h' x d H' l2 => c W2 v h' x d H' (le.trans l2)
theorem CB.mono (le : Wle W W') {Qp} {Q} (c : CB G X t W env σ Qp Q) : CB G X t W' env σ Qp Q := fun W2 v h' H' l2 => c W2 v h' H' (le.trans l2)
theorem CA.mono (le : Wle W W') {Qp} {Q} (c : CA G X t W env σ Qp Q) : CA G X t W' env σ Qp Q := fun W2 v h' x H' l2 => c W2 v h' x H' (le.trans l2)
theorem RS.kept (r : RS G X t W env h σ H) {p : Addr} {o : HO} (hp : H p = none) : RS G X t W env h σ (upd H p o) := ⟨r.toRH.kept hp, r.len, r.env, r.le0, r.lek⟩
theorem RS.lift (r : RS G X t W env h σ H) (le : Wle W W') {h' : Hea} {H' : Hp} (q : RH G X.base (CellA X t σ) (TK t) W' h' H') : RS G X t W' env h' σ H' :=
  ⟨q, r.len, fun i v e => let ⟨x, e1, r1⟩ := r.env i v e; ⟨x, e1, r1.mono le⟩, r.le0.trans le, r.lek.trans le⟩
theorem RS.allocF (r : RS G X t W env h σ H) {p : Addr} (o : FO) (hp : H p = none) : Wle W (W.addF p o) ∧ RS G X t (W.addF p o) env h σ (upd H p o.ho) :=
  let ⟨le, q⟩ := r.toRH.allocF o hp
  ⟨le, r.lift le q⟩
theorem RS.allocR (r : RS G X t W env h σ H) {p : Addr} {o : HObj} {u : HO} (hp : H p = none) (ro : RO G W o u) : Wle W (W.addR h.length p) ∧ RS G X t (W.addR h.length p) env (h ++ [o]) σ (upd H p u) :=
  let ⟨le, q⟩ := r.toRH.allocR hp ro
  ⟨le, r.lift le q⟩
theorem addF_at {p : Addr} {o : FO} : (W.addF p o).fz p = some o := if_pos rfl
theorem addR_at {n : Nat} {p : Addr} : (W.addR n p).rho n = some p := if_pos rfl
/-- a new list -/
theorem RS.newL (r : RS G X t W env h σ H) {fz : Bool} {xs : List PV} {vs : List V} {Qp : KQ} {Q : VK} (rs : RVs G.adr G.K W xs vs) (c : CQ G X t W env σ Qp Q) (q : PC.newL fz xs h Qp) : vs.length ≤ PySem.sizeLine ∧ ∀ p, H p = none → Q (.ref p) (upd H p (.lst vs)) := by
  obtain ⟨q1, q2⟩ := q
  refine ⟨by rw [← rs.length, PySem.sizeLine_eq]; exact q1, fun p hp => ?_⟩
  cases fz with
  | true =>
    obtain ⟨le, r1⟩ := r.allocF (.lst vs) hp
    exact c _ _ _ _ _ le r1 (.lst addF_at (rs.mono le)) q2
  | false =>
    obtain ⟨le, r1⟩ := r.allocR (o := .lst xs) hp ⟨vs, rfl, rs⟩
    exact c _ _ _ _ _ le r1 (.ref addR_at) q2
theorem RS.newT (r : RS G X t W env h σ H) {xs : List PV} {vs : List V} {Qp : KQ} {Q : VK} (rs : RVs G.adr G.K W xs vs) (c : CQ G X t W env σ Qp Q) (q : Qp (.tup xs) h) : ∀ p, H p = none → Q (.ref p) (upd H p (.tup vs)) := fun p hp => by
  obtain ⟨le, r1⟩ := r.allocF (.tup vs) hp
  exact c _ _ _ _ _ le r1 (.tup addF_at (rs.mono le)) q
/-- a list that is no script stands in H itself -/
theorem RH.lstOf {B : Heap} {CA : Addr → V → Prop} {tkP : Addr → Clo → Prop} (r : RH G B CA tkP W h H) {v : PV} {x : V} {xs : List PV} (rv : RV G.adr G.K W v x) (e : lstOf h v = some xs) : ∃ a vs, x = .ref a ∧ RVs G.adr G.K W xs vs ∧ H a = some (.lst vs) := by
  cases rv with
  | lst f rs => cases e; exact ⟨_, _, rfl, rs, r.fz _ _ f⟩
  | @ref n a f =>
    cases q : h[n]? with
    | none => simp only [PC.lstOf, q] at e; cases e
    | some o =>
      cases o with
      | lst ys =>
        simp only [PC.lstOf, q] at e
        cases e
        obtain ⟨a', u, e1, e2, vs, e3, rs⟩ := r.live n _ q rfl
        rw [f] at e1; cases e1
        subst e3
        exact ⟨a, vs, rfl, rs, e2⟩
      | _ => simp only [PC.lstOf, q] at e; cases e
  | _ => cases e
theorem RV.intV {adr : Nat → Addr} {K : Frag} {x : V} {i : Int} (r : RV adr K W (.int i) x) : x = .int i := by cases r; rfl
theorem RV.strV {adr : Nat → Addr} {K : Frag} {x : V} {i : Str} (r : RV adr K W (.str i) x) : x = .str i := by cases r; rfl
theorem RV.blV {adr : Nat → Addr} {K : Frag} {x : V} {i : Bool} (r : RV adr K W (.bl i) x) : x = .bl i := by cases r; rfl
theorem RV.nonV {adr : Nat → Addr} {K : Frag} {x : V} (r : RV adr K W .non x) : x = .non := by cases r; rfl
/-- truth -/
theorem RS.tru (r : RS G X t W env h σ H) {v : PV} {x : V} {b : Bool} (rv : RV G.adr G.K W v x) (e : truV h v = some b) : L2.TruV G.K x H b := by
  have emp : ∀ {xs : List PV} {vs : List V}, RVs G.adr G.K W xs vs → (!xs.isEmpty) = !vs.isEmpty := fun r => by cases r <;> rfl
  have hl : PySem.sizeLine = 16777216 := PySem.sizeLine_eq
  cases rv with
  | non => cases e; rfl
  | bl b => cases e; rfl
  | int i => cases e; rfl
  | str z =>
    simp only [truV] at e
    split at e
    · rename_i q
      cases e
      exact ⟨by rw [hl]; exact q, rfl⟩
    · cases e
  | tup f rs => cases e; exact .inr (.inl ⟨_, .inl (.inl (r.fz _ _ f)), emp rs⟩)
  | tupK f rs => cases e; exact .inr (.inl ⟨_, .inr f, emp rs⟩)
  | lst f rs => cases e; exact .inl ⟨_, .inl (.inl (r.fz _ _ f)), emp rs⟩
  | @dct ks xs a kvs f k rs =>
    cases e
    refine .inr (.inr ⟨kvs, r.fz _ _ f, ?_⟩)
    rw [← k]
    cases kvs <;> rfl
  | @ref n a f =>
    cases q : h[n]? with
    | none => simp only [truV, q] at e; cases e
    | some o =>
      cases o with
      | lst ys =>
        simp only [truV, q] at e
        cases e
        obtain ⟨a', u, e1, e2, vs, e3, rs⟩ := r.live n _ q rfl
        rw [f] at e1; cases e1
        subst e3
        exact .inl ⟨_, .inl (.inl e2), emp rs⟩
      | dK ks ys =>
        simp only [truV, q] at e
        cases e
        obtain ⟨a', u, e1, e2, kvs, e3, k, rs⟩ := r.live n _ q rfl
        rw [f] at e1; cases e1
        subst e3
        refine .inr (.inr ⟨kvs, e2, ?_⟩)
        rw [← k]
        cases kvs <;> rfl
      | dead => simp only [truV, q] at e; cases e
  | _ => cases e
end
theorem pe_imp {X : Cx} {e : Expr} {t t' : TE} (h : PE X e t) (i : ∀ σ H Q, t' σ H Q → t σ H Q) : PE X e t' := ⟨fun pins s σ H Q I q => h.run pins s σ H Q I (i σ H Q q)⟩
theorem pt_imp {X : Cx} {e : Expr} {t t' : TT} (h : PT X e t) (i : ∀ σ H Q, t' σ H Q → t σ H Q) : PT X e t' := ⟨fun pins s σ H Q I q => h.run pins s σ H Q I (i σ H Q q)⟩
theorem pw_imp {X : Cx} {e : Expr} {t t' : TT} (h : PW X e t) (i : ∀ σ H Q, t' σ H Q → t σ H Q) : PW X e t' := ⟨fun wh pins s σ H Q I q => h.run wh pins s σ H Q I (i σ H Q q)⟩
theorem pa_imp {X : Cx} {es : List Expr} {t t' : TA} (h : PA X es t) (i : ∀ σ H Q, t' σ H Q → t σ H Q) : PA X es t' := ⟨fun p pins s σ H Q I q => h.run p pins s σ H Q I (i σ H Q q)⟩

section
variable {G : Gs} {X : Cx} {t : Fm} {Wx : L2.WX} {O : Orc}
/-! ### one, two parts -/
theorem low1 {wa : WE} {σ : L2.St} {k : Env → PV → Hea → KQ → KX → Prop} {R : V → Hp → VK → Prop}
    (hk : ∀ W env h H v x Qp Xp Q, RS G X t W env h σ H → RV G.adr G.K W v x → k env v h Qp Xp → CQ G X t W env σ Qp Q → CX G X t Wx W env σ Xp → R x H Q) {H : Hp} {Q : VK}
    (q : LE G X t Wx (fun env h Qp Xp => wa env h (fun v h1 => k env v h1 Qp Xp) Xp) σ H Q) : LE G X t Wx wa σ H fun x H1 => R x H1 Q := by
  obtain ⟨W, env, h, Qp, Xp, rs, w, cq, cx⟩ := q
  exact ⟨W, env, h, _, Xp, rs, w, fun W1 v h1 x H1 le r1 rv q1 => hk W1 env h1 H1 v x Qp Xp Q r1 rv q1 (cq.mono le) (cx.mono le), cx⟩
theorem low2 {wa wb : WE} {σ : L2.St} {k : Env → PV → PV → Hea → KQ → KX → Prop} {R : V → V → Hp → VK → Prop}
    (hk : ∀ W env h H v x w y Qp Xp Q, RS G X t W env h σ H → RV G.adr G.K W v x → RV G.adr G.K W w y → k env v w h Qp Xp → CQ G X t W env σ Qp Q → CX G X t Wx W env σ Xp → R x y H Q) {H : Hp} {Q : VK}
    (q : LE G X t Wx (fun env h Qp Xp => wa env h (fun v h1 => wb env h1 (fun w h2 => k env v w h2 Qp Xp) Xp) Xp) σ H Q) : LE G X t Wx wa σ H fun x H1 => LE G X t Wx wb σ H1 fun y H2 => R x y H2 Q := by
  obtain ⟨W, env, h, Qp, Xp, rs, w, cq, cx⟩ := q
  refine ⟨W, env, h, _, Xp, rs, w, fun W1 v h1 x H1 le r1 rv q1 => ?_, cx⟩
  refine ⟨W1, env, h1, _, Xp, r1, q1, fun W2 w h2 y H2 le2 r2 rw q2 => ?_, cx.mono le⟩
  exact hk W2 env h2 H2 v x w y Qp Xp Q r2 (rv.mono le2) rw q2 ((cq.mono le).mono le2) ((cx.mono le).mono le2)

theorem le_var {i : Nat} {x : Str} {pos : PySem.Pos} (hN : X.N[i]? = some x) (hv : L2.Vis X.env.scope x) (hd : (x == ("__debug__" : Str)) = false) (hcd : (x == ("__classdict__" : Str)) = false) : PE X (.Name x pos) (LE G X t Wx (wpE O (.var i))) := by
  refine pe_imp (L2.pe_var hN hv hd hcd) fun σ H Q q => ?_
  obtain ⟨W, env, h, Qp, Xp, rs, w, cq, cx⟩ := q
  simp only [wpE] at w
  split at w
  · rename_i v e
    obtain ⟨y, e1, r1⟩ := rs.env i v e
    exact ⟨y, e1, cq W v h y H (Wle.refl _) rs r1 w⟩
  · exact w.elim
/-- a value that stands everywhere -/
theorem le_cst {e : Expr} {v : PV} {x : V} (h : PE X e (L2.tC x)) (rv : ∀ W, RV G.adr G.K W v x) : PE X e (LE G X t Wx (wpE O (.cst v))) := by
  refine pe_imp h fun σ H Q q => ?_
  obtain ⟨W, env, h, Qp, Xp, rs, w, cq, cx⟩ := q
  simp only [wpE] at w
  exact cq W v h x H (Wle.refl _) rs (rv W) w
theorem le_stuck {e : Expr} : PE X e (LE G X t Wx (wpE O .stuck)) := ⟨fun pins s σ H Q I q => by
  obtain ⟨W, env, h, Qp, Xp, rs, w, cq, cx⟩ := q
  simp only [wpE] at w⟩
theorem lt_stuck {e : Expr} : PW X e (LT G X t Wx (wpB O .stuck)) := ⟨fun wh pins s σ H Q I q => by
  obtain ⟨W, env, h, Qp, Xp, rs, w, cq, cx⟩ := q
  simp only [wpB, wpE] at w⟩

/-! ### operators -/
def pyOp : BOp → PySem.Operator
  | .add => .Add | .sub => .Sub | .mul => .Mult | .fdiv => .FloorDiv | .mod => .Mod | .pow => .Pow
theorem opR_or {f : Value → Value → PySem.Sem Value} {r r' : R2} (a : OpR X f r) (b : OpR X f r') : OpR X f (fun x y H Q => r x y H Q ∨ r' x y H Q) := by
  intro pins s σ H x y v u Q I rx ry q
  rcases q with q | q
  · exact a pins s σ H x y v u Q I rx ry q
  · exact b pins s σ H x y v u Q I rx ry q
def CDivG (_ j : Int) : Prop := j ≠ 0 ∧ j.natAbs.log2 < 9000
theorem op_fdivG : OpR X (PySem.binaryOp .FloorDiv) (L2.rI CDivG fun i j => .int (i.fdiv j)) := L2.opI fun i j _ _ _ _ _ hc q =>
  floordiv_int hc.1 q (.inl (PyProof.noPylong_of_log2 hc.2))
def rBin (K : Frag) : BOp → R2
  | .add => fun x y H Q => L2.rI0 (fun i j => .int (i + j)) x y H Q ∨ (∃ i j, x = .str i ∧ y = .str j ∧ i.length + j.length ≤ PySem.sizeLine ∧ Q (.str (i ++ j)) H) ∨ L2.rCatT K x y H Q ∨ L2.rCat x y H Q
  | .sub => L2.rI0 fun i j => .int (i - j)
  | .mul => fun x y H Q => L2.rI L2.CMulW (fun i j => .int (i * j)) x y H Q ∨ L2.rRep x y H Q
  | .fdiv => L2.rI CDivG fun i j => .int (i.fdiv j)
  | .mod => L2.rI (fun _ j => j ≠ 0) fun i j => .int (i.fmod j)
  | .pow => L2.rI L2.CPow fun i j => .int (i ^ j.toNat)
theorem op_bin : ∀ op : BOp, OpR X (PySem.binaryOp (pyOp op)) (rBin X.K op)
  | .add => opR_or L2.op_add (opR_or L2.op_add_str (opR_or L2.op_catT L2.op_cat))
  | .sub => L2.op_sub
  | .mul => opR_or L2.op_mulW L2.op_rep
  | .fdiv => op_fdivG
  | .mod => L2.op_modN
  | .pow => L2.op_pow
theorem RVs.ne_nil {adr K W} {xs : List PV} {vs : List V} (r : RVs adr K W xs vs) : xs = [] ↔ vs = [] := by cases r <;> simp
theorem bin_low {op : BOp} {fz : Bool} {W : Wd} {env : Env} {h : Hea} {σ : L2.St} {H : Hp} {x y : PV} {X1 Y1 : V} {Qp : KQ} {Q : VK} (rs : RS G X t W env h σ H) (rx : RV G.adr G.K W x X1) (ry : RV G.adr G.K W y Y1) (w : resQ fz (binV op h x y) h Qp) (cq : CQ G X t W env σ Qp Q) : rBin G.K op X1 Y1 H Q := by
  have hl : PySem.sizeLine = 16777216 := PySem.sizeLine_eq
  have fin : ∀ {v : PV} {z : V}, RV G.adr G.K W v z → Qp v h → Q z H := fun r q => cq W _ h _ H (Wle.refl _) rs r q
  unfold binV at w
  split at w
  · obtain rfl := rx.intV
    obtain rfl := ry.intV
    exact .inl ⟨_, _, rfl, rfl, fin (.int _) w⟩
  · obtain rfl := rx.intV
    obtain rfl := ry.intV
    exact ⟨_, _, rfl, rfl, fin (.int _) w⟩
  · obtain rfl := rx.intV
    obtain rfl := ry.intV
    split at w
    · rename_i q
      exact .inl ⟨_, _, rfl, rfl, (show L2.CMulW _ _ from of_decide_eq_true (p := _ < 1000000) q), fin (.int _) w⟩
    · exact w.elim
  · obtain rfl := rx.intV
    obtain rfl := ry.intV
    split at w
    · rename_i q
      exact ⟨_, _, rfl, rfl, q, fin (.int _) w⟩
    · exact w.elim
  · obtain rfl := rx.intV
    obtain rfl := ry.intV
    split at w
    · rename_i q
      exact ⟨_, _, rfl, rfl, q, fin (.int _) w⟩
    · exact w.elim
  · obtain rfl := rx.intV
    obtain rfl := ry.intV
    split at w
    · rename_i q
      exact ⟨_, _, rfl, rfl, q, fin (.int _) w⟩
    · exact w.elim
  · obtain rfl := rx.strV
    obtain rfl := ry.strV
    split at w
    · rename_i q
      exact .inr (.inl ⟨_, _, rfl, rfl, by rw [hl]; exact q, fin (.str _) w⟩)
    · exact w.elim
  · split at w
    · rename_i q
      obtain ⟨a, vs, rfl, r1, q1⟩ := rs.toRH.seq rx rfl
      obtain ⟨b, us, rfl, r2, q2⟩ := rs.toRH.seq ry rfl
      rcases q1 with ⟨_, q1⟩ | ⟨z, _⟩
      · rcases q2 with ⟨_, q2⟩ | ⟨z, _⟩
        · refine .inr (.inr (.inl ⟨a, b, vs, us, rfl, rfl, q1, q2, fun z => q.1 (r1.ne_nil.mpr z), by rw [← r1.length, ← r2.length, hl]; exact q.2, fun z => ?_, fun _ => rs.newT (r1.append r2) cq w⟩))
          obtain rfl := r2.ne_nil.mpr z
          rw [List.append_nil] at w
          exact fin rx w
        · cases z
      · cases z
    · exact w.elim
  · split at w
    · rename_i e1 e2
      split at w
      · rename_i q
        obtain ⟨a, vs, rfl, r1, q1⟩ := rs.toRH.lstOf rx e1
        obtain ⟨b, us, rfl, r2, q2⟩ := rs.toRH.lstOf ry e2
        exact .inr (.inr (.inr ⟨a, b, vs, us, rfl, rfl, q1, q2, by rw [← r1.length, ← r2.length, hl]; exact q, (rs.newL (r1.append r2) cq w).2⟩))
      · exact w.elim
    · exact w.elim
  · split at w
    · rename_i e1
      split at w
      · rename_i q
        obtain rfl := ry.intV
        obtain ⟨a, vs, rfl, r1, q1⟩ := rs.toRH.lstOf rx e1
        exact .inr ⟨a, _, vs, rfl, rfl, q1, by omega, by omega, by rw [← r1.length, hl]; exact q.2.2, (rs.newL (r1.replicate _) cq w).2⟩
      · exact w.elim
    · exact w.elim
  · exact w.elim
theorem le_bin {op : BOp} {fz : Bool} {ca cb : CE} {a b : Expr} {pos : Pos} (hK : X.K = G.K) (ha : PE X a (LE G X t Wx (wpE O ca))) (hb : PE X b (LE G X t Wx (wpE O cb))) : PE X (.BinOp a (pyOp op) b pos) (LE G X t Wx (wpE O (.bin op fz ca cb))) := by
  refine pe_imp (L2.pe_op (op_bin op) ha hb) fun σ H Q q => ?_
  exact low2 (k := fun _ v w h Qp Xp => resQ fz (binV op h v w) h Qp) (R := fun x y H Q => rBin X.K op x y H Q) (fun W env h H v x w y Qp Xp Q rs r1 r2 k cq _ => by rw [hK]; exact bin_low rs r1 r2 k cq) q
theorem le_neg {ca : CE} {a : Expr} {pos : Pos} (ha : PE X a (LE G X t Wx (wpE O ca))) : PE X (.UnaryOp .USub a pos) (LE G X t Wx (wpE O (.neg ca))) := by
  refine pe_imp (L2.pe_un L2.un_neg ha) fun σ H Q q => ?_
  refine low1 (k := fun _ v h Qp Xp => match v with | .int i => Qp (.int (-i)) h | _ => False) (R := fun x H Q => L2.rU (fun i => .int (-i)) x H Q) (fun W env h H v x Qp Xp Q rs rv k cq _ => ?_) q
  cases v with
  | int i =>
    obtain rfl := rv.intV
    exact ⟨i, rfl, cq W _ h _ H (Wle.refl _) rs (.int _) k⟩
  | _ => exact k.elim

/-! ### comparisons -/
mutual
def toD : PV → PyData
  | .non => .none
  | .bl b => .bool b
  | .int i => .int i
  | .str x => .str x
  | .tup xs => .tuple (toDs xs)
  | .lst xs => .list (toDs xs)
  | _ => .none
def toDs : List PV → List PyData
  | [] => []
  | x :: r => toD x :: toDs r
end
mutual
theorem dp_of {W : Wd} {env : Env} {h : Hea} {σ : L2.St} {H : Hp} (rs : RS G X t W env h σ H) : ∀ (d : Nat) (v : PV) (x : V), shp d v = true → RV G.adr G.K W v x → L2.Dp G.K H x (toD v)
  | _, .non, _, _, r => by cases r; exact .non
  | _, .bl b, _, _, r => by cases r; exact .bl b
  | _, .int i, _, _, r => by cases r; exact .int i
  | _, .str z, _, _, r => by cases r; exact .str z
  | d + 1, .tup xs, _, s, r => by
    cases r with
    | tup f rr => exact .tup (.inl (.inl (rs.fz _ _ f))) (dps_of rs d xs _ s rr)
    | tupK f rr => exact .tup (.inr f) (dps_of rs d xs _ s rr)
  | d + 1, .lst xs, _, s, r => by
    cases r with
    | lst f rr => exact .lst (.inl (.inl (rs.fz _ _ f))) (dps_of rs d xs _ s rr)
theorem dps_of {W : Wd} {env : Env} {h : Hea} {σ : L2.St} {H : Hp} (rs : RS G X t W env h σ H) : ∀ (d : Nat) (vs : List PV) (xs : List V), shpL d vs = true → RVs G.adr G.K W vs xs → L2.DpAll G.K H xs (toDs vs)
  | _, [], _, _, r => by cases r; exact .nil
  | d, v :: vs, _, s, r => by
    obtain ⟨s1, s2⟩ := Bool.and_eq_true_iff.mp s
    cases r with
    | cons r1 r2 => exact .cons (dp_of rs d v _ s1 r1) (dps_of rs d vs _ s2 r2)
end
mutual
theorem shp_lay : ∀ (d : Nat) (v : PV), shp d v = true → PyData.canLay0 (toD v) = true ∧ PyData.depth (toD v) ≤ d
  | _, .non, _ => ⟨rfl, Nat.zero_le _⟩
  | _, .bl b, _ => ⟨rfl, Nat.zero_le _⟩
  | _, .int i, _ => ⟨rfl, Nat.zero_le _⟩
  | _, .str z, s => ⟨by simpa [shp, toD, PyData.canLay0, PySem.PyData.strOk] using s, Nat.zero_le _⟩
  | d + 1, .tup xs, s => by
    obtain ⟨h1, h2⟩ := shpL_lay d xs s
    exact ⟨h1, by simp only [toD, PyData.depth]; omega⟩
  | d + 1, .lst xs, s => by
    obtain ⟨h1, h2⟩ := shpL_lay d xs s
    exact ⟨h1, by simp only [toD, PyData.depth]; omega⟩
theorem shpL_lay : ∀ (d : Nat) (vs : List PV), shpL d vs = true → PyData.canLayAll0 (toDs vs) = true ∧ PyData.depthAll (toDs vs) ≤ d
  | _, [], _ => ⟨rfl, Nat.zero_le _⟩
  | d, v :: vs, s => by
    obtain ⟨s1, s2⟩ := Bool.and_eq_true_iff.mp s
    obtain ⟨h1, h2⟩ := shp_lay d v s1
    obtain ⟨h3, h4⟩ := shpL_lay d vs s2
    exact ⟨Bool.and_eq_true_iff.mpr ⟨h1, h3⟩, by simp only [toDs, PyData.depthAll]; omega⟩
end
mutual
theorem shp_mono : ∀ {d d' : Nat} {v : PV}, d ≤ d' → shp d v = true → shp d' v = true
  | _, _, .non, _, _ => by simp [shp]
  | _, _, .bl b, _, _ => by simp [shp]
  | _, _, .int i, _, _ => by simp [shp]
  | _, _, .str z, _, s => by simpa [shp] using s
  | d + 1, d' + 1, .tup xs, l, s => shpL_mono (Nat.le_of_succ_le_succ l) s
  | d + 1, d' + 1, .lst xs, l, s => shpL_mono (Nat.le_of_succ_le_succ l) s
theorem shpL_mono : ∀ {d d' : Nat} {vs : List PV}, d ≤ d' → shpL d vs = true → shpL d' vs = true
  | _, _, [], _, _ => rfl
  | d, d', v :: vs, l, s => by
    obtain ⟨s1, s2⟩ := Bool.and_eq_true_iff.mp s
    exact Bool.and_eq_true_iff.mpr ⟨shp_mono l s1, shpL_mono l s2⟩
end
theorem shp_shaped {v : PV} (s : shp 32 v = true) : SeqAt.shaped (toD v) = true := by
  obtain ⟨h1, h2⟩ := shp_lay 32 v s
  exact Bool.and_eq_true_iff.mpr ⟨h1, decide_eq_true (by omega)⟩
mutual
theorem peq_eqv : ∀ (d : Nat) (v w : PV), shp d v = true → shp d w = true → PyData.eqv (toD v) (toD w) = peq v w
  | d, .non, w, _, s => by cases w <;> first | rfl | (cases d <;> cases s)
  | d, .bl b, w, _, s => by cases w <;> first | rfl | (cases d <;> cases s) | (cases b <;> rfl)
  | d, .int i, w, _, s => by cases w <;> first | rfl | (cases d <;> cases s)
  | d, .str z, w, _, s => by cases w <;> first | rfl | (cases d <;> cases s)
  | d + 1, .tup xs, w, s, s' => by
    cases w with
    | tup ys => exact peqL_eqv d xs ys s s'
    | _ => first | rfl | cases s'
  | d + 1, .lst xs, w, s, s' => by
    cases w with
    | lst ys => exact peqL_eqv d xs ys s s'
    | _ => first | rfl | cases s'
theorem peqL_eqv : ∀ (d : Nat) (vs ws : List PV), shpL d vs = true → shpL d ws = true → PyData.eqvAll (toDs vs) (toDs ws) = peqL vs ws
  | _, [], [], _, _ => rfl
  | _, [], _ :: _, _, _ => rfl
  | _, _ :: _, [], _, _ => rfl
  | d, v :: vs, w :: ws, s, s' => by
    obtain ⟨s1, s2⟩ := Bool.and_eq_true_iff.mp s
    obtain ⟨s3, s4⟩ := Bool.and_eq_true_iff.mp s'
    simp only [toDs, PyData.eqvAll, peqL]
    rw [peq_eqv d v w s1 s3, peqL_eqv d vs ws s2 s4]
end
theorem dp_deref {W : Wd} {env : Env} {h : Hea} {σ : L2.St} {H : Hp} (rs : RS G X t W env h σ H) {d : Nat} {v : PV} {x : V} (s : shp d (deref h v) = true) (r : RV G.adr G.K W v x) : L2.Dp G.K H x (toD (deref h v)) := by
  cases v with
  | ref n =>
    cases r with
    | ref e =>
      cases q : h[n]? with
      | none => simp only [deref, q] at s; cases d <;> cases s
      | some o =>
        cases o with
        | lst ys =>
          simp only [deref, q] at s ⊢
          obtain ⟨a', u, e1, e2, vs, e3, rr⟩ := rs.live n _ q rfl
          rw [e] at e1; cases e1
          subst e3
          cases d with
          | zero => cases s
          | succ d => exact .lst (.inl (.inl e2)) (dps_of rs d ys _ s rr)
        | _ => simp only [deref, q] at s; cases d <;> cases s
  | _ => exact dp_of rs d _ x s r
def pyCmp : COp → PySem.CmpOp
  | .eq => .Eq | .ne => .NotEq | .lt => .Lt | .le => .LtE | .gt => .Gt | .ge => .GtE | .is_ => .Is | .isnt => .IsNot | .in_ => .In | .nin => .NotIn
def rCmp (K : Frag) : COp → R2
  | .eq => L2.rEqD K
  | .ne => L2.rNeD K
  | .lt => L2.rI0 fun i j => .bl (decide (i < j))
  | .le => L2.rI0 fun i j => .bl (decide (i ≤ j))
  | .gt => L2.rI0 fun i j => .bl (decide (j < i))
  | .ge => L2.rI0 fun i j => .bl (decide (j ≤ i))
  | .is_ => fun x y H Q => y = .non ∧ Q (.bl (decide (x = .non))) H
  | .isnt => fun x y H Q => y = .non ∧ Q (.bl (!decide (x = .non))) H
  | .in_ => L2.rInD K
  | .nin => L2.rNotInD K
theorem op_cmp (hu : X.A.units + 65 < PySem.cLine) : ∀ op : COp, OpR X (PySem.compareOp (pyCmp op)) (rCmp X.K op)
  | .eq => L2.op_eqD (by omega)
  | .ne => L2.op_neD (by omega)
  | .lt => L2.op_lt
  | .le => L2.op_le
  | .gt => L2.op_gt
  | .ge => L2.op_ge
  | .is_ => L2.op_isN
  | .isnt => L2.op_notN
  | .in_ => L2.op_inD hu
  | .nin => L2.op_notInD hu
theorem any_eqv {d : Nat} {w : PV} (sw : shp 32 w = true) : ∀ ys : List PV, shpL d ys = true → d ≤ 32 → ((toDs ys).any fun z => PyData.eqv z (toD w)) = inSeq w ys := by
  have up : ∀ (d : Nat) (v : PV), d ≤ 32 → shp d v = true → PyData.eqv (toD v) (toD w) = peq v w := fun d v hd s => peq_eqv 32 v w (shp_mono hd s) sw
  intro ys
  induction ys with
  | nil => intro _ _; rfl
  | cons y ys ih =>
    intro s hd
    obtain ⟨s1, s2⟩ := Bool.and_eq_true_iff.mp s
    simp only [toDs, List.any_cons, inSeq]
    rw [up d y hd s1]
    have q := ih s2 hd
    simp only [inSeq] at q
    rw [q]
theorem cmp_low {op : COp} {b : Bool} {W : Wd} {env : Env} {h : Hea} {σ : L2.St} {H : Hp} {x y : PV} {X1 Y1 : V} {Q : VK} (rs : RS G X t W env h σ H) (rx : RV G.adr G.K W x X1) (ry : RV G.adr G.K W y Y1) (e : cmpV op h x y = some b) (q : Q (.bl b) H) : rCmp G.K op X1 Y1 H Q := by
  cases op with
  | eq =>
    simp only [cmpV] at e
    split at e
    · rename_i s
      obtain ⟨s1, s2⟩ := Bool.and_eq_true_iff.mp s
      cases e
      exact ⟨_, _, dp_deref rs s1 rx, dp_deref rs s2 ry, shp_shaped s1, shp_shaped s2, by rw [peq_eqv 32 _ _ s1 s2]; exact q⟩
    · cases e
  | ne =>
    simp only [cmpV] at e
    split at e
    · rename_i s
      obtain ⟨s1, s2⟩ := Bool.and_eq_true_iff.mp s
      cases e
      exact ⟨_, _, dp_deref rs s1 rx, dp_deref rs s2 ry, shp_shaped s1, shp_shaped s2, by rw [peq_eqv 32 _ _ s1 s2]; exact q⟩
    · cases e
  | lt =>
    simp only [cmpV] at e
    split at e
    · obtain rfl := rx.intV; obtain rfl := ry.intV; cases e; exact ⟨_, _, rfl, rfl, q⟩
    · cases e
  | le =>
    simp only [cmpV] at e
    split at e
    · obtain rfl := rx.intV; obtain rfl := ry.intV; cases e; exact ⟨_, _, rfl, rfl, q⟩
    · cases e
  | gt =>
    simp only [cmpV] at e
    split at e
    · obtain rfl := rx.intV; obtain rfl := ry.intV; cases e; exact ⟨_, _, rfl, rfl, q⟩
    · cases e
  | ge =>
    simp only [cmpV] at e
    split at e
    · obtain rfl := rx.intV; obtain rfl := ry.intV; cases e; exact ⟨_, _, rfl, rfl, q⟩
    · cases e
  | is_ =>
    simp only [cmpV] at e
    split at e
    · obtain rfl := ry.nonV
      refine ⟨rfl, ?_⟩
      have z : decide (X1 = V.non) = b := by cases rx <;> (cases e; first | rfl | exact decide_eq_false (fun z => by cases z))
      rw [z]; exact q
    · cases e
  | isnt =>
    simp only [cmpV] at e
    split at e
    · obtain rfl := ry.nonV
      refine ⟨rfl, ?_⟩
      have z : (!decide (X1 = V.non)) = b := by cases rx <;> (cases e; first | rfl | (rw [decide_eq_false (fun z => by cases z)]; rfl))
      rw [z]; exact q
    · cases e
  | in_ =>
    simp only [cmpV] at e
    split at e
    · rename_i ys ey
      split at e
      · rename_i s
        obtain ⟨s1, s2⟩ := Bool.and_eq_true_iff.mp s
        cases e
        have s3 : shp 32 (deref h y) = true := by rw [ey]; exact s2
        have dy := dp_deref rs s3 ry
        have sy := shp_shaped s3
        rw [ey] at dy sy
        exact ⟨_, toDs ys, dp_deref rs s1 rx, dy, shp_shaped s1, sy, by rw [any_eqv s1 ys s2 (by decide)]; exact q⟩
      · cases e
    · cases e
  | nin =>
    simp only [cmpV] at e
    split at e
    · rename_i ys ey
      split at e
      · rename_i s
        obtain ⟨s1, s2⟩ := Bool.and_eq_true_iff.mp s
        cases e
        have s3 : shp 32 (deref h y) = true := by rw [ey]; exact s2
        have dy := dp_deref rs s3 ry
        have sy := shp_shaped s3
        rw [ey] at dy sy
        exact ⟨_, toDs ys, dp_deref rs s1 rx, dy, shp_shaped s1, sy, by rw [any_eqv s1 ys s2 (by decide)]; exact q⟩
      · cases e
    · cases e
theorem cmp_low' {op : COp} {W : Wd} {env : Env} {h : Hea} {σ : L2.St} {H : Hp} {x y : PV} {X1 Y1 : V} {Qp : KQ} {Q : VK} (rs : RS G X t W env h σ H) (rx : RV G.adr G.K W x X1) (ry : RV G.adr G.K W y Y1) (w : match cmpV op h x y with | some t => Qp (.bl t) h | none => False) (cq : CQ G X t W env σ Qp Q) : rCmp G.K op X1 Y1 H Q := by
  split at w
  · rename_i b e
    exact cmp_low rs rx ry e (cq W _ h _ H (Wle.refl _) rs (.bl _) w)
  · exact w.elim
theorem le_cmp {op : COp} {ca cb : CE} {a b : Expr} {pos : Pos} (hu : X.A.units + 65 < PySem.cLine) (hK : X.K = G.K) (hm : PySem.behindInMarks (pyCmp op) b = false) (ha : PE X a (LE G X t Wx (wpE O ca))) (hb : PE X b (LE G X t Wx (wpE O cb))) : PE X (.Compare a [pyCmp op] [b] pos) (LE G X t Wx (wpE O (.cmp op ca cb))) := by
  refine pe_imp (L2.pe_cmpR (op_cmp hu op) ha hb hm) fun σ H Q q => ?_
  exact low2 (k := fun _ v w h Qp Xp => match cmpV op h v w with | some t => Qp (.bl t) h | none => False) (R := fun x y H Q => rCmp X.K op x y H Q) (fun W env h H v x w y Qp Xp Q rs r1 r2 k cq _ => by rw [hK]; exact cmp_low' rs r1 r2 k cq) q
end
end PC

set_option Elab.async false
set_option maxRecDepth 100000
/-! PC5: tests, displays, subscripts, arguments, built-ins. -/
namespace PC
open PySem PySem.Spec PyProof.Rows
open L2 (V HO Hp upd upd_same upd_ne Rd SqL SqT Cx Inv TE TT TA TS VK PE PT PW PA R2 OpR CallR)
section
variable {G : Gs} {X : Cx} {t : Fm} {Wx : L2.WX} {O : Orc}
/-- a value's truth told, as a test -/
theorem tst_of {c : CE} {a : Expr} (hK : X.K = G.K) (ha : PE X a (LE G X t Wx (wpE O c))) (he : ∀ whole, isTrue a X.env whole = (do let v ← whole; standAt a.pos; holding [v] (truthy v))) : PT X a (LT G X t Wx (wpB O c)) := by
  refine pt_imp (L2.pt_truth ha he) fun σ H Q q => ?_
  obtain ⟨W, env, h, kp, Xp, rs, w, cb, cx⟩ := q
  refine ⟨W, env, h, _, Xp, rs, w, fun W1 v h1 x H1 le r1 rv q1 => ?_, cx⟩
  dsimp only at q1 ⊢
  split at q1
  · rename_i b e
    exact ⟨b, by rw [hK]; exact r1.tru rv e, cb W1 b h1 H1 le r1 q1⟩
  · exact q1.elim
theorem le_and {ca cb : CE} {a b : Expr} {r : List Expr} {pos : Pos} (hK : X.K = G.K) (ha : PE X a (LE G X t Wx (wpE O ca))) (hb : PE X (.BoolOp .And (b :: r) pos) (LE G X t Wx (wpE O cb))) : PE X (.BoolOp .And (a :: b :: r) pos) (LE G X t Wx (wpE O (.and ca cb))) := by
  refine pe_imp (L2.pe_andT ha hb) fun σ H Q q => ?_
  refine low1 (σ := σ) (k := fun env x h1 Qp Xp => match truV h1 x with
    | some true => wpE O cb env h1 Qp Xp
    | some false => Qp x h1
    | none => False) (R := fun x H Q => ∃ k, L2.TruV X.K x H k ∧ if k = true then LE G X t Wx (wpE O cb) σ H Q else Q x H) (fun W env h H v x Qp Xp Q rs rv k cq cx => ?_) q
  split at k
  · rename_i e
    exact ⟨true, by rw [hK]; exact rs.tru rv e, ⟨W, env, h, Qp, Xp, rs, k, cq, cx⟩⟩
  · rename_i e
    exact ⟨false, by rw [hK]; exact rs.tru rv e, cq W _ h _ H (Wle.refl _) rs rv k⟩
  · exact k.elim
theorem le_or {ca cb : CE} {a b : Expr} {r : List Expr} {pos : Pos} (hK : X.K = G.K) (ha : PE X a (LE G X t Wx (wpE O ca))) (hb : PE X (.BoolOp .Or (b :: r) pos) (LE G X t Wx (wpE O cb))) : PE X (.BoolOp .Or (a :: b :: r) pos) (LE G X t Wx (wpE O (.or ca cb))) := by
  refine pe_imp (L2.pe_orT ha hb) fun σ H Q q => ?_
  refine low1 (σ := σ) (k := fun env x h1 Qp Xp => match truV h1 x with
    | some true => Qp x h1
    | some false => wpE O cb env h1 Qp Xp
    | none => False) (R := fun x H Q => ∃ k, L2.TruV X.K x H k ∧ if k = true then Q x H else LE G X t Wx (wpE O cb) σ H Q) (fun W env h H v x Qp Xp Q rs rv k cq cx => ?_) q
  split at k
  · rename_i e
    exact ⟨true, by rw [hK]; exact rs.tru rv e, cq W _ h _ H (Wle.refl _) rs rv k⟩
  · rename_i e
    exact ⟨false, by rw [hK]; exact rs.tru rv e, ⟨W, env, h, Qp, Xp, rs, k, cq, cx⟩⟩
  · exact k.elim
theorem le_not {ca : CE} {a : Expr} {pos : Pos} (hK : X.K = G.K) (ha : PE X a (LE G X t Wx (wpE O ca))) : PE X (.UnaryOp .Not a pos) (LE G X t Wx (wpE O (.not ca))) := by
  refine pe_imp (L2.pe_notT ha) fun σ H Q q => ?_
  refine low1 (σ := σ) (k := fun env x h1 Qp Xp => match truV h1 x with
    | some b => Qp (.bl !b) h1
    | none => False) (R := fun x H Q => ∃ k, L2.TruV X.K x H k ∧ Q (.bl (!k)) H) (fun W env h H v x Qp Xp Q rs rv k cq cx => ?_) q
  split at k
  · rename_i b e
    exact ⟨b, by rw [hK]; exact rs.tru rv e, cq W _ h _ H (Wle.refl _) rs (.bl _) k⟩
  · exact k.elim
/-- a test's parts -/
theorem wpB_and {ca cb : CE} {env : Env} {h : Hea} {kp : Bool → Hea → Prop} {Xp : KX} : wpB O (.and ca cb) env h kp Xp = wpB O ca env h (fun b h1 => match b with
    | true => wpB O cb env h1 kp Xp
    | false => kp false h1) Xp := by
  simp only [wpB, wpE]
  congr 1
  funext v h1
  cases e : truV h1 v with
  | none => rfl
  | some b => cases b with
    | true => rfl
    | false => first | (dsimp only; done) | (dsimp only; rw [e])
theorem wpB_or {ca cb : CE} {env : Env} {h : Hea} {kp : Bool → Hea → Prop} {Xp : KX} : wpB O (.or ca cb) env h kp Xp = wpB O ca env h (fun b h1 => match b with
    | true => kp true h1
    | false => wpB O cb env h1 kp Xp) Xp := by
  simp only [wpB, wpE]
  congr 1
  funext v h1
  cases e : truV h1 v with
  | none => rfl
  | some b => cases b with
    | false => rfl
    | true => first | (dsimp only; done) | (dsimp only; rw [e])
theorem wpB_not {ca : CE} {env : Env} {h : Hea} {kp : Bool → Hea → Prop} {Xp : KX} : wpB O (.not ca) env h kp Xp = wpB O ca env h (fun b h1 => kp (!b) h1) Xp := by
  show wpE O ca env h _ Xp = wpE O ca env h _ Xp
  refine congrArg (fun K => wpE O ca env h K Xp) ?_
  funext v h1
  cases e : truV h1 v with
  | none => simp only [e]
  | some b => simp only [e, truV]
theorem lt_and {ca cb : CE} {a b : Expr} {r : List Expr} {pos : Pos} (ha : PT X a (LT G X t Wx (wpB O ca))) (hb : PW X (.BoolOp .And (b :: r) pos) (LT G X t Wx (wpB O cb))) : PW X (.BoolOp .And (a :: b :: r) pos) (LT G X t Wx (wpB O (.and ca cb))) := by
  refine pw_imp (L2.pw_and ha hb) fun σ H Q q => ?_
  obtain ⟨W, env, h, kp, Xp, rs, w, cb', cx⟩ := q
  rw [wpB_and] at w
  refine ⟨W, env, h, _, Xp, rs, w, fun W1 b h1 H1 le r1 q1 => ?_, cx⟩
  cases b with
  | true => exact ⟨W1, env, h1, kp, Xp, r1, q1, cb'.mono le, cx.mono le⟩
  | false => exact cb' W1 false h1 H1 le r1 q1
theorem lt_or {ca cb : CE} {a b : Expr} {r : List Expr} {pos : Pos} (ha : PT X a (LT G X t Wx (wpB O ca))) (hb : PW X (.BoolOp .Or (b :: r) pos) (LT G X t Wx (wpB O cb))) : PW X (.BoolOp .Or (a :: b :: r) pos) (LT G X t Wx (wpB O (.or ca cb))) := by
  refine pw_imp (L2.pw_or ha hb) fun σ H Q q => ?_
  obtain ⟨W, env, h, kp, Xp, rs, w, cb', cx⟩ := q
  rw [wpB_or] at w
  refine ⟨W, env, h, _, Xp, rs, w, fun W1 b h1 H1 le r1 q1 => ?_, cx⟩
  cases b with
  | false => exact ⟨W1, env, h1, kp, Xp, r1, q1, cb'.mono le, cx.mono le⟩
  | true => exact cb' W1 true h1 H1 le r1 q1
theorem lt_not {ca : CE} {a : Expr} {pos : Pos} (ha : PT X a (LT G X t Wx (wpB O ca))) : PT X (.UnaryOp .Not a pos) (LT G X t Wx (wpB O (.not ca))) := by
  refine pt_imp (L2.pt_not ha) fun σ H Q q => ?_
  obtain ⟨W, env, h, kp, Xp, rs, w, cb', cx⟩ := q
  rw [wpB_not] at w
  exact ⟨W, env, h, _, Xp, rs, w, fun W1 b h1 H1 le r1 q1 => cb' W1 (!b) h1 H1 le r1 q1, cx⟩
theorem lt_one {op : BoolOp} {ca : CE} {a : Expr} {pos : Pos} (ha : PT X a (LT G X t Wx (wpB O ca))) : PW X (.BoolOp op [a] pos) (LT G X t Wx (wpB O ca)) := by
  cases op with
  | And => exact L2.pw_and1 ha
  | Or => exact L2.pw_or1 ha
theorem lt_cmp {op : COp} {ca cb : CE} {a b : Expr} {pos : Pos} (hu : X.A.units + 65 < PySem.cLine) (hK : X.K = G.K) (hm : PySem.behindInMarks (pyCmp op) b = false) (ha : PE X a (LE G X t Wx (wpE O ca))) (hb : PE X b (LE G X t Wx (wpE O cb))) : PT X (.Compare a [pyCmp op] [b] pos) (LT G X t Wx (wpB O (.cmp op ca cb))) := by
  refine pt_imp (L2.pt_cmpR (op_cmp hu op) ha hb hm) fun σ H Q q => ?_
  obtain ⟨W, env, h, kp, Xp, rs, w, cb, cx⟩ := q
  simp only [wpB, wpE] at w
  refine ⟨W, env, h, _, Xp, rs, w, fun W1 v h1 x H1 le r1 rv q1 => ⟨W1, env, h1, _, Xp, r1, q1, fun W2 v2 h2 y H2 le2 r2 ry q2 => ?_, cx.mono le⟩, cx⟩
  dsimp only at q2
  split at q2
  · rename_i b e
    rw [hK]
    exact cmp_low r2 (rv.mono le2) ry e ⟨b, rfl, cb W2 b h2 H2 (le.trans le2) r2 q2⟩
  · exact q2.elim
theorem le_chain {o1 o2 : COp} {ca cb cc : CE} {a b c : Expr} {pos : Pos} (hu : X.A.units + 65 < PySem.cLine) (hK : X.K = G.K) (hm : PySem.lastMarks [pyCmp o1, pyCmp o2] [b, c] = false)
    (ha : PE X a (LE G X t Wx (wpE O ca))) (hb : PE X b (LE G X t Wx (wpE O cb))) (hc : PE X c (LE G X t Wx (wpE O cc))) : PE X (.Compare a [pyCmp o1, pyCmp o2] [b, c] pos) (LE G X t Wx (wpE O (.chain o1 o2 ca cb cc))) := by
  refine pe_imp (L2.pe_chain (op_cmp hu o1) (op_cmp hu o2) ha hb hc hm) fun σ H Q q => ?_
  obtain ⟨W, env, h, Qp, Xp, rs, w, cq, cx⟩ := q
  simp only [wpE] at w
  refine ⟨W, env, h, _, Xp, rs, w, fun W1 v h1 x H1 le r1 rv q1 => ⟨W1, env, h1, _, Xp, r1, q1, fun W2 v2 h2 y H2 le2 r2 ry q2 => ?_, cx.mono le⟩, cx⟩
  dsimp only at q2
  rw [hK]
  split at q2
  · rename_i e
    refine cmp_low r2 (rv.mono le2) ry e ⟨true, rfl, ?_⟩
    rw [if_pos rfl]
    refine ⟨W2, env, h2, _, Xp, r2, q2, fun W3 v3 h3 z H3 le3 r3 rz q3 => ?_, (cx.mono le).mono le2⟩
    exact cmp_low' r3 (ry.mono le3) rz q3 (((cq.mono le).mono le2).mono le3)
  · rename_i e
    refine cmp_low r2 (rv.mono le2) ry e ⟨false, rfl, ?_⟩
    rw [if_neg Bool.false_ne_true]
    exact cq W2 _ h2 _ H2 (le.trans le2) r2 (.bl _) q2
  · exact q2.elim
theorem lt_chain {o1 o2 : COp} {ca cb cc : CE} {a b c : Expr} {pos : Pos} (hu : X.A.units + 65 < PySem.cLine) (hK : X.K = G.K) (hm : PySem.lastMarks [pyCmp o1, pyCmp o2] [b, c] = false)
    (ha : PE X a (LE G X t Wx (wpE O ca))) (hb : PE X b (LE G X t Wx (wpE O cb))) (hc : PE X c (LE G X t Wx (wpE O cc))) : PT X (.Compare a [pyCmp o1, pyCmp o2] [b, c] pos) (LT G X t Wx (wpB O (.chain o1 o2 ca cb cc))) := by
  refine pt_imp (L2.pt_chain (op_cmp hu o1) (op_cmp hu o2) ha hb hc hm) fun σ H Q q => ?_
  obtain ⟨W, env, h, kp, Xp, rs, w, cq, cx⟩ := q
  simp only [wpB, wpE] at w
  refine ⟨W, env, h, _, Xp, rs, w, fun W1 v h1 x H1 le r1 rv q1 => ⟨W1, env, h1, _, Xp, r1, q1, fun W2 v2 h2 y H2 le2 r2 ry q2 => ?_, cx.mono le⟩, cx⟩
  dsimp only at q2
  rw [hK]
  split at q2
  · rename_i e
    refine cmp_low r2 (rv.mono le2) ry e ⟨true, rfl, ?_⟩
    rw [if_pos rfl]
    refine ⟨W2, env, h2, _, Xp, r2, q2, fun W3 v3 h3 z H3 le3 r3 rz q3 => ?_, (cx.mono le).mono le2⟩
    dsimp only at q3
    split at q3
    · rename_i b e3
      exact cmp_low r3 (ry.mono le3) rz e3 ⟨b, rfl, cq W3 b h3 H3 ((le.trans le2).trans le3) r3 q3⟩
    · exact q3.elim
  · rename_i e
    refine cmp_low r2 (rv.mono le2) ry e ⟨false, rfl, ?_⟩
    rw [if_neg Bool.false_ne_true]
    exact ⟨false, rfl, cq W2 false h2 H2 (le.trans le2) r2 q2⟩
  · exact q2.elim
theorem le_ite {cc ca cb : CE} {c a b : Expr} {pos : Pos} (hc : PT X c (LT G X t Wx (wpB O cc))) (ha : PE X a (LE G X t Wx (wpE O ca))) (hb : PE X b (LE G X t Wx (wpE O cb))) : PE X (.IfExp c a b pos) (LE G X t Wx (wpE O (.ite cc ca cb))) := by
  refine pe_imp (L2.pe_ifExp hc ha hb) fun σ H Q q => ?_
  obtain ⟨W, env, h, Qp, Xp, rs, w, cq, cx⟩ := q
  refine ⟨W, env, h, fun b h1 => match b with
    | true => wpE O ca env h1 Qp Xp
    | false => wpE O cb env h1 Qp Xp, Xp, rs, ?_, fun W1 b h1 H1 le r1 q1 => ?_, cx⟩
  · simp only [wpE] at w
    simp only [wpB]
    refine Eq.mp (congrArg (fun K => wpE O cc env h K Xp) ?_) w
    funext v h1
    cases e : truV h1 v with
    | none => rfl
    | some b => cases b <;> rfl
  · cases b with
    | true => exact ⟨W1, env, h1, Qp, Xp, r1, q1, cq.mono le, cx.mono le⟩
    | false => exact ⟨W1, env, h1, Qp, Xp, r1, q1, cq.mono le, cx.mono le⟩
end
end PC

set_option Elab.async false
set_option maxRecDepth 100000
/-! PC6: displays, subscripts, arguments, built-ins. -/
namespace PC
open PySem PySem.Spec PyProof.Rows
open L2 (V HO Hp upd upd_same upd_ne Rd SqL SqT Cx Inv TE TT TA TS VK PE PT PW PA R2 OpR CallR)
section
variable {G : Gs} {X : Cx} {t : Fm} {Wx : L2.WX} {O : Orc}
theorem la_nil : PA X [] (LA G X t Wx (wpEs O .nil)) := pa_imp L2.pa_nil fun σ H Q q => by
  obtain ⟨W, env, h, kp, Xp, rs, w, ca, cx⟩ := q
  simp only [wpEs] at w
  exact ca W [] h [] H (Wle.refl _) rs .nil w
theorem la_cons {c : CE} {cs : CEs} {e : Expr} {es : List Expr} (he : PE X e (LE G X t Wx (wpE O c))) (hr : PA X es (LA G X t Wx (wpEs O cs))) (hs : starEach (e :: es) X.env = (false, eval e X.env) :: starEach es X.env) : PA X (e :: es) (LA G X t Wx (wpEs O (.cons c cs))) := pa_imp (L2.pa_cons he hr hs) fun σ H Q q => by
  obtain ⟨W, env, h, kp, Xp, rs, w, ca, cx⟩ := q
  simp only [wpEs] at w
  refine ⟨W, env, h, _, Xp, rs, w, fun W1 v h1 x H1 le r1 rv q1 => ⟨W1, env, h1, _, Xp, r1, q1, fun W2 vs h2 xs H2 le2 r2 rvs q2 => ?_, cx.mono le⟩, cx⟩
  exact ca W2 (v :: vs) h2 (x :: xs) H2 (le.trans le2) r2 (.cons (rv.mono le2) rvs) q2
/-- from arguments to a value -/
theorem lowA {wa : WA} {σ : L2.St} {k : Env → List PV → Hea → KQ → KX → Prop} {R : List V → Hp → VK → Prop}
    (hk : ∀ W env h H vs xs Qp Xp Q, RS G X t W env h σ H → RVs G.adr G.K W vs xs → k env vs h Qp Xp → CQ G X t W env σ Qp Q → CX G X t Wx W env σ Xp → R xs H Q) {H : Hp} {Q : VK}
    (q : LE G X t Wx (fun env h Qp Xp => wa env h (fun vs h1 => k env vs h1 Qp Xp) Xp) σ H Q) : LA G X t Wx wa σ H fun xs H1 => R xs H1 Q := by
  obtain ⟨W, env, h, Qp, Xp, rs, w, cq, cx⟩ := q
  exact ⟨W, env, h, _, Xp, rs, w, fun W1 v h1 x H1 le r1 rv q1 => hk W1 env h1 H1 v x Qp Xp Q r1 rv q1 (cq.mono le) (cx.mono le), cx⟩
theorem le_tup {cs : CEs} {es : List Expr} {k : Nat} {pos : Pos} (ha : PA X es (LA G X t Wx (wpEs O cs))) : PE X (.Tuple es k pos) (LE G X t Wx (wpE O (.tup cs))) := by
  refine pe_imp (L2.pe_tup ha) fun σ H Q q => ?_
  refine lowA (k := fun _ vs h Qp _ => vs.length ≤ line ∧ Qp (.tup vs) h) (R := fun xs H1 Q => xs.length ≤ sizeLine ∧ ∀ p, H1 p = none → Q (.ref p) (upd H1 p (.tup xs))) (fun W env h H vs xs Qp Xp Q rs rv k cq cx => ?_) q
  exact ⟨by rw [← rv.length, sizeLine_eq]; exact k.1, rs.newT rv cq k.2⟩
theorem le_lst {fz : Bool} {cs : CEs} {es : List Expr} {pos : Pos} (ha : PA X es (LA G X t Wx (wpEs O cs))) : PE X (.List es pos) (LE G X t Wx (wpE O (.lst fz cs))) := by
  refine pe_imp (L2.pe_lst ha) fun σ H Q q => ?_
  exact lowA (k := fun _ vs h Qp _ => newL fz vs h Qp) (R := fun xs H1 Q => xs.length ≤ sizeLine ∧ ∀ p, H1 p = none → Q (.ref p) (upd H1 p (.lst xs))) (fun W env h H vs xs Qp Xp Q rs rv k cq cx => rs.newL rv cq k) q
theorem le_dict0 {fz : Bool} {pos : Pos} : PE X (.Dict [] [] pos) (LE G X t Wx (wpE O (.dict0 fz))) := by
  refine pe_imp L2.pe_dnewK fun σ H Q q => ?_
  obtain ⟨W, env, h, Qp, Xp, rs, w, cq, cx⟩ := q
  simp only [wpE] at w
  intro p hp
  cases fz with
  | true =>
    obtain ⟨le, r1⟩ := rs.allocF (.dK []) hp
    exact cq _ _ _ _ _ le r1 (.dct addF_at rfl .nil) w
  | false =>
    obtain ⟨le, r1⟩ := rs.allocR (o := .dK [] []) (u := .dK []) hp ⟨[], rfl, rfl, .nil⟩
    exact cq _ _ _ _ _ le r1 (.ref addR_at) w

/-! ### subscripts -/
theorem ixOf_N {i : Int} {n k : Nat} (e : ixOf i n = some k) : L2.ixN n i = some k := by
  unfold ixOf at e
  unfold L2.ixN
  by_cases h0 : 0 ≤ i
  · rw [if_pos h0]
    by_cases h1 : i < n
    · rw [if_pos ⟨h0, h1⟩] at e
      rw [if_pos h1]; exact e
    · rw [if_neg (fun z => h1 z.2), if_neg (by omega)] at e; cases e
  · rw [if_neg (fun z => h0 z.1)] at e
    rw [if_neg h0]
    by_cases h1 : 0 ≤ i + n
    · rw [if_pos ⟨by omega, h1⟩] at e
      rw [if_pos (by omega)]; exact e
    · rw [if_neg (fun z => h1 z.2)] at e; cases e
theorem le_idx {ca ci : CE} {a b : Expr} {pos : Pos} (hK : X.K = G.K) (ha : PE X a (LE G X t Wx (wpE O ca))) (hb : PE X b (LE G X t Wx (wpE O ci))) (hs : L2.PlainIx b) : PE X (.Subscript a b pos) (LE G X t Wx (wpE O (.idx ca ci))) := by
  refine pe_imp (L2.pe_ix (L2.ix_list.or L2.ix_tup) ha hb hs) fun σ H Q q => ?_
  refine low2 (k := fun _ x y h2 Qp Xp => match seqOf h2 x, y with
    | some (_, xs), .int j => (match ixOf j xs.length with
      | some k => (match xs[k]? with
        | some v => Qp v h2
        | none => False)
      | none => False)
    | _, _ => False) (R := fun x y H Q => L2.rIxL X.K x y H Q ∨ L2.rIxT X.K x y H Q) (fun W env h H v x w y Qp Xp Q rs r1 r2 k cq _ => ?_) q
  split at k
  · rename_i b xs j e1
    obtain rfl := r2.intV
    split at k
    · rename_i n e2
      split at k
      · rename_i u e3
        obtain ⟨a, vs, rfl, rv, hq⟩ := rs.toRH.seq r1 e1
        obtain ⟨z, e4, rz⟩ := rv.get e3
        have at_ : L2.atI vs j = some z := by
          unfold L2.atI
          rw [← rv.length, ixOf_N e2]
          exact e4
        rw [hK]
        have fin := cq W u h z H (Wle.refl _) rs rz k
        rcases hq with ⟨_, hq⟩ | ⟨_, hq⟩
        · exact .inr ⟨a, vs, j, z, rfl, rfl, hq, at_, fin⟩
        · exact .inl ⟨a, vs, j, z, rfl, rfl, hq, at_, fin⟩
      · exact k.elim
    · exact k.elim
  · exact k.elim
theorem cutV_eq (xs : List V) (i j : Option Int) : L2.cutV xs i j = (xs.drop (cutLo xs.length i)).take (cutHi xs.length j - cutLo xs.length i) := by
  cases i <;> cases j <;> rfl
theorem RVs.cut {adr K} {W : Wd} {xs : List PV} {vs : List V} (r : RVs adr K W xs vs) (i j : Option Int) : RVs adr K W (PC.cut xs i j) (L2.cutV vs i j) := by
  rw [cutV_eq]
  unfold PC.cut
  rw [r.length]
  exact (r.drop _).take _
theorem sl_two : L2.SlR X (fun x lo hi H Q => ∃ a xs, x = .ref a ∧ SqL X.K H a xs ∧ ∀ p, H p = none → Q (.ref p) (upd H p (.lst (L2.cutV xs lo hi)))) := L2.sl_list
theorem le_slc {fz : Bool} {ca cl ch : CE} {a : Expr} {lo hi : Option Expr} {tl th : L2.TO} {p2 pos : Pos} (hK : X.K = G.K) (ha : PE X a (LE G X t Wx (wpE O ca)))
    (hl : L2.PO X lo tl) (hh : L2.PO X hi th)
    (kl : ∀ (σ : L2.St) (W : Wd) (env : Env) (h : Hea) (H : Hp) (kp : Option Int → Hea → Prop) (Xp : KX) (Q : Option Int → Hp → Prop), RS G X t W env h σ H → partK cl.isNil (wpE O cl env) h kp Xp → (∀ W' i h' H', Wle W W' → RS G X t W' env h' σ H' → kp i h' → Q i H') → CX G X t Wx W env σ Xp → tl σ H Q)
    (kh : ∀ (σ : L2.St) (W : Wd) (env : Env) (h : Hea) (H : Hp) (kp : Option Int → Hea → Prop) (Xp : KX) (Q : Option Int → Hp → Prop), RS G X t W env h σ H → partK ch.isNil (wpE O ch env) h kp Xp → (∀ W' i h' H', Wle W W' → RS G X t W' env h' σ H' → kp i h' → Q i H') → CX G X t Wx W env σ Xp → th σ H Q) :
    PE X (.Subscript a (.Slice lo hi none p2) pos) (LE G X t Wx (wpE O (.slc fz ca cl ch))) := by
  refine pe_imp (L2.pe_slice sl_two ha hl hh) fun σ H Q q => ?_
  obtain ⟨W, env, h, Qp, Xp, rs, w, cq, cx⟩ := q
  simp only [wpE] at w
  refine ⟨W, env, h, _, Xp, rs, w, fun W1 v h1 x H1 le r1 rv q1 => ?_, cx⟩
  refine kl σ W1 env h1 H1 _ Xp _ r1 q1 (fun W2 i h2 H2 le2 r2 q2 => ?_) (cx.mono le)
  refine kh σ W2 env h2 H2 _ Xp _ r2 q2 (fun W3 j h3 H3 le3 r3 q3 => ?_) ((cx.mono le).mono le2)
  split at q3
  · rename_i xs e
    obtain ⟨a, vs, rfl, rvs, hq⟩ := r3.toRH.seq ((rv.mono le2).mono le3) e
    rcases hq with ⟨z, _⟩ | ⟨_, hq⟩
    · cases z
    · exact ⟨a, vs, rfl, by rw [hK]; exact hq, (r3.newL (rvs.cut i j) (((cq.mono le).mono le2).mono le3) q3).2⟩
  · exact q3.elim
theorem part_none {cl : CE} (hn : cl.isNil = true) {σ : L2.St} {W : Wd} {env : Env} {h : Hea} {H : Hp} {kp : Option Int → Hea → Prop} {Xp : KX} {Q : Option Int → Hp → Prop} (rs : RS G X t W env h σ H) (q : partK cl.isNil (wpE O cl env) h kp Xp)
    (cq : ∀ W' i h' H', Wle W W' → RS G X t W' env h' σ H' → kp i h' → Q i H') (cx : CX G X t Wx W env σ Xp) : L2.tNoPart σ H Q := by
  rw [hn] at q
  exact cq W none h H (Wle.refl _) rs q
theorem part_some {cl : CE} (hn : cl.isNil = false) {σ : L2.St} {W : Wd} {env : Env} {h : Hea} {H : Hp} {kp : Option Int → Hea → Prop} {Xp : KX} {Q : Option Int → Hp → Prop} (rs : RS G X t W env h σ H) (q : partK cl.isNil (wpE O cl env) h kp Xp)
    (cq : ∀ W' i h' H', Wle W W' → RS G X t W' env h' σ H' → kp i h' → Q i H') (cx : CX G X t Wx W env σ Xp) : L2.tPart (LE G X t Wx (wpE O cl)) σ H Q := by
  rw [hn] at q
  refine ⟨W, env, h, _, Xp, rs, q, fun W1 v h1 x H1 le r1 rv q1 => ?_, cx⟩
  try dsimp only at q1
  split at q1
  · obtain rfl := rv.intV
    exact ⟨_, rfl, cq W1 _ h1 H1 le r1 q1⟩
  · exact q1.elim
theorem le_rev {fz : Bool} {ca : CE} {a : Expr} {k : Nat} {p1 p2 p3 pos : Pos} (hK : X.K = G.K) (ha : PE X a (LE G X t Wx (wpE O ca))) : PE X (.Subscript a (.Slice none none (some (.UnaryOp .USub (.Constant (.int 1) k p1) p2)) p3) pos) (LE G X t Wx (wpE O (.rev fz ca))) := by
  refine pe_imp (L2.pe_revL ha) fun σ H Q q => ?_
  refine low1 (σ := σ) (k := fun _ x h1 Qp Xp => match seqOf h1 x with
    | some (false, xs) => newL fz xs.reverse h1 Qp
    | _ => False) (R := fun x H1 Q => ∃ a xs, x = .ref a ∧ SqL X.K H1 a xs ∧ ∀ p, H1 p = none → Q (.ref p) (upd H1 p (.lst xs.reverse))) (fun W env h H v x Qp Xp Q rs rv k cq _ => ?_) q
  split at k
  · rename_i xs e
    obtain ⟨a, vs, rfl, rvs, hq⟩ := rs.toRH.seq rv e
    rcases hq with ⟨z, _⟩ | ⟨_, hq⟩
    · cases z
    · exact ⟨a, vs, rfl, by rw [hK]; exact hq, (rs.newL rvs.reverse cq k).2⟩
  · exact k.elim

/-! ### built-ins -/
def biTy : BI → Bool
  | .int => true | .list => true | .tuple => true | _ => false
def biN : BI → String
  | .len => "len" | .abs => "abs" | .int => "int" | .list => "list" | .tuple => "tuple" | .all => "all" | .any => "any" | .sum => "sum" | .sorted => "sorted"
def biF (b : BI) : Value := match biTy b with
  | true => .type (biN b)
  | false => .builtin (biN b)
def rBi (K : Frag) : BI → List V → Hp → VK → Prop
  | .len => fun xs H Q => (∃ p ys, xs = [.ref p] ∧ (SqL K H p ys ∨ SqT K H p ys) ∧ Q (.int ys.length) H) ∨ ∃ z, xs = [.str z] ∧ z.length ≤ sizeLine ∧ Q (.int z.length) H
  | .abs => fun xs H Q => ∃ i, xs = [.int i] ∧ Q (.int (if i < 0 then -i else i)) H
  | .int => fun xs H Q => (∃ i, xs = [.int i] ∧ Q (.int i) H) ∨ ∃ k, xs = [.bl k] ∧ Q (.int (if k then 1 else 0)) H
  | .list => fun xs H Q => ∃ p ys, xs = [.ref p] ∧ (SqL K H p ys ∨ SqT K H p ys) ∧ ∀ l, H l = none → Q (.ref l) (upd H l (.lst ys))
  | .tuple => fun xs H Q => ∃ p ys, xs = [.ref p] ∧ ((SqL K H p ys ∧ ∀ l, H l = none → Q (.ref l) (upd H l (.tup ys))) ∨ (SqT K H p ys ∧ Q (.ref p) H))
  | .all => L2.rAll K
  | .any => L2.rAny K
  | .sum => L2.rSum K
  | .sorted => L2.rSortedI K
theorem callR_or {f : Value} {r r' : List V → Hp → VK → Prop} (a : CallR X f r) (b : CallR X f r') : CallR X f (fun xs H Q => r xs H Q ∨ r' xs H Q) := by
  intro pins s σ H xs us Q I rx q
  rcases q with q | q
  · exact a pins s σ H xs us Q I rx q
  · exact b pins s σ H xs us Q I rx q
theorem bi_ok (hc : X.calm = true) : ∀ b : BI, CallR X (biF b) (rBi X.K b)
  | .len => callR_or L2.call_len_seq L2.call_len_str
  | .abs => L2.call_abs
  | .int => L2.call_int1
  | .list => L2.call_list_of
  | .tuple => L2.call_tuple_of
  | .all => L2.cr_all hc
  | .any => L2.cr_any hc
  | .sum => L2.cr_sum hc
  | .sorted => L2.cr_sortedI
theorem rvs_one {adr K} {W : Wd} {v : PV} {xs : List V} (r : RVs adr K W [v] xs) : ∃ x, xs = [x] ∧ RV adr K W v x := by
  cases r with
  | cons r1 r2 => cases r2; exact ⟨_, rfl, r1⟩
theorem rvs_bools {adr K} {W : Wd} : ∀ {xs : List PV} {vs : List V} {bs : List Bool}, RVs adr K W xs vs → allB xs = some bs → vs = bs.map V.bl
  | [], _, _, r, e => by cases r; cases e; rfl
  | .bl b :: xs, _, bs, r, e => by
    cases r with
    | cons r1 r2 =>
      simp only [allB] at e
      obtain ⟨cs, e1, e2⟩ := Option.map_eq_some_iff.mp e
      subst e2
      rw [r1.blV, rvs_bools r2 e1]
      rfl
theorem rvs_intsOf {adr K} {W : Wd} : ∀ {xs : List PV} {vs : List V} {bs : List Int}, RVs adr K W xs vs → allI xs = some bs → vs = bs.map V.int
  | [], _, _, r, e => by cases r; cases e; rfl
  | .int b :: xs, _, bs, r, e => by
    cases r with
    | cons r1 r2 =>
      simp only [allI] at e
      obtain ⟨cs, e1, e2⟩ := Option.map_eq_some_iff.mp e
      subst e2
      rw [r1.intV, rvs_intsOf r2 e1]
      rfl
theorem insI_perm (a : Int) : ∀ l : List Int, (insI a l).Perm (a :: l)
  | [] => .refl _
  | b :: r => by
    unfold insI
    split
    · exact .refl _
    · exact ((insI_perm a r).cons b).trans (.swap a b r)
theorem sortI_perm : ∀ l : List Int, (sortI l).Perm l
  | [] => .refl _
  | a :: r => (insI_perm a _).trans ((sortI_perm r).cons a)
theorem insI_srt (a : Int) : ∀ {l : List Int}, l.Pairwise (· ≤ ·) → (insI a l).Pairwise (· ≤ ·)
  | [], _ => List.pairwise_singleton _ _
  | b :: r, h => by
    obtain ⟨h1, h2⟩ := List.pairwise_cons.mp h
    unfold insI
    split
    · rename_i q
      exact List.pairwise_cons.mpr ⟨fun x hx => by
        rcases List.mem_cons.mp hx with rfl | hx
        · exact q
        · exact Int.le_trans q (h1 x hx), h⟩
    · rename_i q
      refine List.pairwise_cons.mpr ⟨fun x hx => ?_, insI_srt a h2⟩
      rcases List.mem_cons.mp ((insI_perm a r).mem_iff.mp hx) with rfl | hx
      · omega
      · exact h1 x hx
theorem sortI_srt : ∀ l : List Int, (sortI l).Pairwise (· ≤ ·)
  | [] => .nil
  | a :: r => insI_srt a (sortI_srt r)
theorem srt_one : ∀ {l m : List Int}, l.Perm m → l.Pairwise (· ≤ ·) → m.Pairwise (· ≤ ·) → l = m
  | [], m, p, _, _ => by rw [p.nil_eq]
  | a :: l, m, p, h1, h2 => by
    cases m with
    | nil => exact absurd p.symm.nil_eq (by simp)
    | cons b m =>
      obtain ⟨a1, a2⟩ := List.pairwise_cons.mp h1
      obtain ⟨b1, b2⟩ := List.pairwise_cons.mp h2
      have e : a = b := by
        have x : a ≤ b := by
          rcases List.mem_cons.mp (p.mem_iff.mpr (List.mem_cons_self (a := b) (l := m))) with z | z
          · omega
          · exact a1 b z
        have y : b ≤ a := by
          rcases List.mem_cons.mp (p.mem_iff.mp (List.mem_cons_self (a := a) (l := l))) with z | z
          · omega
          · exact b1 a z
        omega
      subst e
      rw [srt_one (List.perm_cons a |>.mp p) a2 b2]
theorem bi_low {b : BI} {fz : Bool} {W : Wd} {env : Env} {h : Hea} {σ : L2.St} {H : Hp} {vs : List PV} {xs : List V} {Qp : KQ} {Q : VK} (rs : RS G X t W env h σ H) (rv : RVs G.adr G.K W vs xs) (w : resQ fz (biV b h vs) h Qp) (cq : CQ G X t W env σ Qp Q) : rBi G.K b xs H Q := by
  have hl : sizeLine = 16777216 := sizeLine_eq
  have fin : ∀ {v : PV} {z : V}, RV G.adr G.K W v z → Qp v h → Q z H := fun r q => cq W _ h _ H (Wle.refl _) rs r q
  have flat : ∀ {v : PV} {z : V} {ys : List PV}, RV G.adr G.K W v z → seqOf h v = some (false, ys) → ∃ a vs, z = .ref a ∧ RVs G.adr G.K W ys vs ∧ SqL G.K H a vs := fun r e => by
    obtain ⟨a, vs, e1, r1, q⟩ := rs.toRH.seq r e
    rcases q with ⟨z, _⟩ | ⟨_, q⟩
    · cases z
    · exact ⟨a, vs, e1, r1, q⟩
  unfold biV at w
  split at w
  · obtain ⟨x, rfl, r1⟩ := rvs_one rv
    split at w
    · rename_i bb ys e
      obtain ⟨a, us, rfl, r2, q⟩ := rs.toRH.seq r1 e
      refine .inl ⟨a, us, rfl, ?_, ?_⟩
      · rcases q with ⟨_, q⟩ | ⟨_, q⟩
        · exact .inr q
        · exact .inl q
      · rw [← r2.length]; exact fin (.int _) w
    · split at w
      · obtain rfl := r1.strV
        split at w
        · rename_i q
          exact .inr ⟨_, rfl, by rw [hl]; exact q, fin (.int _) w⟩
        · exact w.elim
      · exact w.elim
  · obtain ⟨x, rfl, r1⟩ := rvs_one rv
    obtain rfl := r1.intV
    exact ⟨_, rfl, fin (.int _) w⟩
  · obtain ⟨x, rfl, r1⟩ := rvs_one rv
    obtain rfl := r1.intV
    exact .inl ⟨_, rfl, fin (.int _) w⟩
  · obtain ⟨x, rfl, r1⟩ := rvs_one rv
    obtain rfl := r1.blV
    exact .inr ⟨_, rfl, fin (.int _) w⟩
  · obtain ⟨x, rfl, r1⟩ := rvs_one rv
    rename_i v
    cases e : seqOf h v with
    | none => rw [e] at w; exact w.elim
    | some p =>
      rw [e] at w
      obtain ⟨bb, ys⟩ := p
      obtain ⟨a, us, rfl, r2, q⟩ := rs.toRH.seq r1 e
      refine ⟨a, us, rfl, ?_, (rs.newL r2 cq w).2⟩
      rcases q with ⟨_, q⟩ | ⟨_, q⟩
      · exact .inr q
      · exact .inl q
  · obtain ⟨x, rfl, r1⟩ := rvs_one rv
    rename_i v
    cases e : seqOf h v with
    | none => rw [e] at w; exact w.elim
    | some p =>
      rw [e] at w
      obtain ⟨bb, ys⟩ := p
      obtain ⟨a, us, rfl, r2, q⟩ := rs.toRH.seq r1 e
      refine ⟨a, us, rfl, ?_⟩
      rcases q with ⟨eb, q⟩ | ⟨_, q⟩
      · refine .inr ⟨q, ?_⟩
        subst eb
        cases v with
        | tup zs => cases e; exact fin r1 w
        | ref n =>
          simp only [seqOf] at e
          split at e <;> cases e
        | _ => cases e
      · exact .inl ⟨q, rs.newT r2 cq w⟩
  · obtain ⟨x, rfl, r1⟩ := rvs_one rv
    split at w
    · rename_i ys e
      cases eb : allB ys with
      | none => rw [eb] at w; exact w.elim
      | some bs =>
        rw [eb] at w
        obtain ⟨a, us, rfl, r2, q⟩ := flat r1 e
        exact ⟨a, bs, rfl, by rw [← rvs_bools r2 eb]; exact q, fin (.bl _) w⟩
    · exact w.elim
  · obtain ⟨x, rfl, r1⟩ := rvs_one rv
    split at w
    · rename_i ys e
      cases eb : allB ys with
      | none => rw [eb] at w; exact w.elim
      | some bs =>
        rw [eb] at w
        obtain ⟨a, us, rfl, r2, q⟩ := flat r1 e
        exact ⟨a, bs, rfl, by rw [← rvs_bools r2 eb]; exact q, fin (.bl _) w⟩
    · exact w.elim
  · obtain ⟨x, rfl, r1⟩ := rvs_one rv
    split at w
    · rename_i ys e
      cases eb : allI ys with
      | none => rw [eb] at w; exact w.elim
      | some bs =>
        rw [eb] at w
        obtain ⟨a, us, rfl, r2, q⟩ := flat r1 e
        exact ⟨a, bs, rfl, by rw [← rvs_intsOf r2 eb]; exact q, fin (.int _) w⟩
    · exact w.elim
  · obtain ⟨x, rfl, r1⟩ := rvs_one rv
    split at w
    · rename_i ys e
      cases eb : allI ys with
      | none => rw [eb] at w; exact w.elim
      | some bs =>
        rw [eb] at w
        obtain ⟨a, us, rfl, r2, q⟩ := flat r1 e
        refine ⟨a, bs, rfl, by rw [← rvs_intsOf r2 eb]; exact q, fun ns p hp hs hn => ?_⟩
        rw [srt_one (hp.trans (sortI_perm bs).symm) hs (sortI_srt bs)]
        exact (rs.newL (rvs_ints (sortI bs)) cq w).2 p hn
    · exact w.elim
  · exact w.elim
theorem bi_boot : ∀ b : BI, bootBuiltins (Str.ofString (biN b)) = some (biF b) := by
  intro b
  cases b <;> decide +kernel
theorem le_bi {b : BI} {fz : Bool} {cs : CEs} {e : Expr} {es : List Expr} {p pos : Pos} (hc : X.calm = true) (hK : X.K = G.K) (hg : L2.Gl X (Str.ofString (biN b))) (hm : X.mg (Str.ofString (biN b)) = none) (ha : PA X (e :: es) (LA G X t Wx (wpEs O cs)))
    (hn : Str.ofString (biN b) ≠ "__name__") (hdb : (Str.ofString (biN b) == ("__debug__" : Str)) = false) (he : starEach (e :: es) X.env = (false, eval e X.env) :: starEach es X.env) (hpl : (backTo pos (starEach es X.env)).any (·.1) = false) :
    PE X (.Call (.Name (Str.ofString (biN b)) p) (e :: es) [] pos) (LE G X t Wx (wpE O (.bi b fz cs))) := by
  have key : ∀ σ H Q, LE G X t Wx (wpE O (.bi b fz cs)) σ H Q → L2.tCB (rBi X.K b) (LA G X t Wx (wpEs O cs)) σ H Q := fun σ H Q q => by
    refine lowA (σ := σ) (k := fun _ vs h Qp _ => resQ fz (biV b h vs) h Qp) (R := fun xs H1 Q => rBi X.K b xs H1 Q) (fun W env h H vs xs Qp Xp Q rs rv k cq _ => ?_) q
    rw [hK]
    exact bi_low rs rv k cq
  have ok := bi_ok hc b
  have hv := bi_boot b
  unfold biF at ok hv
  cases ty : biTy b with
  | true =>
    rw [ty] at ok hv
    exact pe_imp (L2.pe_callTy ok hg hm hv ha hn hdb he hpl) key
  | false =>
    rw [ty] at ok hv
    exact pe_imp (L2.pe_callB ok hg hm hv ha hn hdb he hpl) key
end
end PC

set_option Elab.async false
set_option maxRecDepth 100000
/-! PC7: isinstance, methods of lists. -/
namespace PC
open PySem PySem.Spec PyProof.Rows
open L2 (V HO Hp upd upd_same upd_ne Rd SqL SqT Cx Inv TE TT TA TS VK PE PT PW PA R2 OpR CallR)
def Ty7.nm : Ty7 → String
  | .none => "NoneType" | .bool => "bool" | .int => "int" | .str => "str" | .tuple => "tuple" | .list => "list" | .dict => "dict"
def kdN : Kd → String
  | .list => "list" | .tuple => "tuple" | .int => "int" | .bool => "bool" | .str => "str" | .dict => "dict"
theorem kit7 (s : Ty7) (k : Kd) : L2.kitB s.nm (kdN k) = some (s.tab k) := by cases s <;> cases k <;> decide +kernel
theorem kitAny7 {K : Frag} (s : Ty7) : ∀ ks : List Kd, PySem.W.kitAny K (.type s.nm) (ks.map fun k => .type (kdN k)) = some (ks.any fun k => s.tab k)
  | [] => rfl
  | k :: ks => by
    refine L2.kitAny_cons (L2.kit_ty (kit7 s k)) (fun e => ?_) fun e => ?_
    · rw [List.any_cons, e, Bool.false_or]; exact kitAny7 s ks
    · rw [List.any_cons, e, Bool.true_or]
theorem kd_boot (k : Kd) : bootBuiltins (Str.ofString (kdN k)) = some (.type (kdN k)) := by cases k <;> decide +kernel
section
variable {G : Gs} {X : Cx} {t : Fm} {Wx : L2.WX} {O : Orc}
theorem tyX_of {W : Wd} {env : Env} {h : Hea} {σ : L2.St} {H : Hp} (rs : RS G X t W env h σ H) {v : PV} {x : V} {s : Ty7} (r : RV G.adr G.K W v x) (e : pvT h v = some s) : L2.TyX G.K H x (.type s.nm) := by
  cases r with
  | non => cases e; exact .base .non
  | bl b => cases e; exact .base (.bl b)
  | int i => cases e; exact .base (.int i)
  | str z => cases e; exact .base (.str z)
  | tup f rr => cases e; exact .base (.tup (rs.fz _ _ f))
  | tupK f rr =>
    cases e
    obtain ⟨o, its, n, h1, h2, _⟩ := f
    exact .kTuple h1 h2
  | lst f rr => cases e; exact .base (.lst (rs.fz _ _ f))
  | dct f k rr => cases e; exact .base (.dK (rs.fz _ _ f))
  | @ref n a f =>
    cases q : h[n]? with
    | none => simp only [pvT, q] at e; cases e
    | some o =>
      cases o with
      | lst ys =>
        simp only [pvT, q] at e
        cases e
        obtain ⟨a', u, e1, e2, vs, e3, rr⟩ := rs.live n _ q rfl
        rw [f] at e1; cases e1
        subst e3
        exact .base (.lst e2)
      | dK ks ys =>
        simp only [pvT, q] at e
        cases e
        obtain ⟨a', u, e1, e2, kvs, e3, _, rr⟩ := rs.live n _ q rfl
        rw [f] at e1; cases e1
        subst e3
        exact .base (.dK e2)
      | dead => simp only [pvT, q] at e; cases e
  | _ => cases e
/-- a type's name -/
def TyName (X : Cx) (k : Kd) (e : Expr) : Prop := ∃ p, e = .Name (Str.ofString (kdN k)) p ∧ L2.Gl X (Str.ofString (kdN k)) ∧ X.mg (Str.ofString (kdN k)) = none ∧ Str.ofString (kdN k) ≠ "__name__" ∧ (Str.ofString (kdN k) == ("__debug__" : Str)) = false
theorem pe_ty {k : Kd} {e : Expr} (h : TyName X k e) : PE X e (L2.tC (.ty (kdN k))) := by
  obtain ⟨p, rfl, hg, hm, hn, hd⟩ := h
  exact L2.pe_bltn hg hm (kd_boot k) rfl hn hd
inductive TyNames (X : Cx) : List Kd → List Expr → Prop where
  | nil : TyNames X [] []
  | cons {k : Kd} {e : Expr} {ks : List Kd} {es : List Expr} : TyName X k e → TyNames X ks es → TyNames X (k :: ks) (e :: es)
theorem pa_tys : ∀ {ks : List Kd} {es : List Expr}, TyNames X ks es → PA X es (fun _ H Q => Q (ks.map fun k => V.ty (kdN k)) H)
  | _, _, .nil => pa_imp L2.pa_nil fun σ H Q q => q
  | _, _, .cons h1 h2 => by
    have q := L2.pa_cons (pe_ty h1) (pa_tys h2) (by obtain ⟨p, rfl, _⟩ := h1; rfl)
    exact pa_imp q fun σ H Q q => q
theorem le_isi1 {ca : CE} {k : Kd} {a e : Expr} {p pos : Pos} (hK : X.K = G.K) (hg : L2.Gl X "isinstance") (hm : X.mg "isinstance" = none) (ha : PE X a (LE G X t Wx (wpE O ca))) (hs : starEach (a :: [e]) X.env = (false, eval a X.env) :: starEach [e] X.env) (he : TyName X k e) :
    PE X (.Call (.Name "isinstance" p) [a, e] [] pos) (LE G X t Wx (wpE O (.isi ca [k]))) := by
  have hs2 : starEach [e] X.env = (false, eval e X.env) :: starEach [] X.env := by obtain ⟨p, rfl, _⟩ := he; rfl
  have hv : bootBuiltins ("isinstance" : Str) = some (.builtin "isinstance") := by decide +kernel
  refine pe_imp (L2.pe_callB L2.call_isi hg hm hv (L2.pa_cons ha (L2.pa_cons (pe_ty he) L2.pa_nil hs2) hs) (by decide) (by decide) hs (by rw [hs2]; rfl)) fun σ H Q q => ?_
  refine low1 (σ := σ) (k := fun _ x h1 Qp Xp => match isKds h1 x [k] with
    | some b => Qp (.bl b) h1
    | none => False) (R := fun x H Q => L2.rIsi X.K [x, .ty (kdN k)] H Q) (fun W env h H v x Qp Xp Q rs rv k' cq cx => ?_) q
  split at k'
  · rename_i b e1
    simp only [isKds] at e1
    obtain ⟨s, e2, e3⟩ := Option.map_eq_some_iff.mp e1
    subst e3
    rw [hK]
    refine ⟨x, _, _, _, s.tab k, rfl, .ty _, tyX_of rs rv e2, L2.kit_ty (kit7 s k), ?_⟩
    have z := cq W _ h _ H (Wle.refl _) rs (.bl _) k'
    simpa using z
  · exact k'.elim
theorem le_isiN {ca : CE} {ks : List Kd} {a : Expr} {es : List Expr} {n : Nat} {p p2 pos : Pos} (hK : X.K = G.K) (hg : L2.Gl X "isinstance") (hm : X.mg "isinstance" = none) (ha : PE X a (LE G X t Wx (wpE O ca))) (hs : starEach (a :: [.Tuple es n p2]) X.env = (false, eval a X.env) :: starEach [.Tuple es n p2] X.env) (hl : ks.length ≤ 100) (he : TyNames X ks es) :
    PE X (.Call (.Name "isinstance" p) [a, .Tuple es n p2] [] pos) (LE G X t Wx (wpE O (.isi ca ks))) := by
  have hv : bootBuiltins ("isinstance" : Str) = some (.builtin "isinstance") := by decide +kernel
  refine pe_imp (L2.pe_callB L2.call_isiT hg hm hv (L2.pa_cons ha (L2.pa_cons (L2.pe_tup (pa_tys he)) L2.pa_nil) hs) (by decide) (by decide) hs rfl) fun σ H Q q => ?_
  refine low1 (σ := σ) (k := fun _ x h1 Qp Xp => match isKds h1 x ks with
    | some b => Qp (.bl b) h1
    | none => False) (R := fun x H1 Q => (ks.map fun k => V.ty (kdN k)).length ≤ sizeLine ∧ ∀ p, H1 p = none → L2.rIsiT X.K [x, .ref p] (upd H1 p (.tup (ks.map fun k => V.ty (kdN k)))) Q) (fun W env h H v x Qp Xp Q rs rv k' cq cx => ?_) q
  split at k'
  · rename_i b e1
    simp only [isKds] at e1
    obtain ⟨s, e2, e3⟩ := Option.map_eq_some_iff.mp e1
    subst e3
    refine ⟨by rw [List.length_map, sizeLine_eq]; omega, fun p hp => ?_⟩
    have r1 := rs.kept (o := .tup (ks.map fun k => V.ty (kdN k))) hp
    rw [hK]
    have pc : ∀ ks : List Kd, Paired L2.ClsV (ks.map fun k => V.ty (kdN k)) (ks.map fun k => Value.type (kdN k)) := fun ks => by
      induction ks with
      | nil => exact .nil
      | cons k ks ih => exact .cons (.ty _) ih
    exact ⟨x, p, _, _, ks.map fun k => .type (kdN k), _, rfl, upd_same, pc ks, tyX_of r1 rv e2, kitAny7 s ks, cq W _ h _ _ (Wle.refl _) r1 (.bl _) k'⟩
  · exact k'.elim

/-! ### methods of lists -/
def mtN : Mt → String
  | .append => "append" | .extend => "extend" | .pop => "pop" | .popAt => "pop"
def rMt : Mt → V → List V → Hp → VK → Prop
  | .append => L2.rAppend
  | .extend => L2.rExtend
  | .pop => L2.rPop
  | .popAt => L2.rPopAt
theorem ixOf_seq {i : Int} {n k : Nat} (e : ixOf i n = some k) : seqIndex? i n = some k := (L2.ixN_seq (ixOf_N e)).1
theorem meth_low {m : Mt} {W : Wd} {env : Env} {h : Hea} {σ : L2.St} {H : Hp} {v : PV} {x : V} {vs : List PV} {xs : List V} {Qp : KQ} {Q : VK} (rs : RS G X t W env h σ H) (rv : RV G.adr G.K W v x) (rvs : RVs G.adr G.K W vs xs) (w : methV m h v vs Qp) (cq : CQ G X t W env σ Qp Q) :
    L2.tyV G.K "list" x H ∧ rMt m x xs H Q := by
  have hl : sizeLine = 16777216 := sizeLine_eq
  cases v with
  | ref n =>
    simp only [methV] at w
    cases rv with
    | @ref n a f =>
    cases q : h[n]? with
    | none => rw [q] at w; exact w.elim
    | some o =>
      rw [q] at w
      cases o with
      | lst ys =>
        obtain ⟨a', u, e1, e2, us, e3, rr⟩ := rs.live n _ q rfl
        rw [f] at e1; cases e1
        subst e3
        refine ⟨.inl ⟨rfl, us, .inl (.inl e2)⟩, ?_⟩
        have wr : ∀ {ys' : List PV} {us' : List V} {z : PV} {zv : V}, RVs G.adr G.K W ys' us' → RV G.adr G.K W z zv → Qp z (h.set n (.lst ys')) → Q zv (upd H a (.lst us')) := fun r1 r2 q1 => by
          have r3 := rs.toRH.write (o' := .lst _) (u' := .lst _) q rfl f e2 (fun z => z) ⟨_, rfl, r1⟩
          exact cq W _ _ _ _ (Wle.refl _) (rs.lift (Wle.refl _) r3) r2 q1
        dsimp only at w
        split at w
        · obtain ⟨y, rfl, r1⟩ := rvs_one rvs
          exact ⟨a, us, y, rfl, rfl, e2, by rw [← rr.length, hl]; exact w.1, wr (rr.append (.cons r1 .nil)) .non w.2⟩
        · obtain ⟨y, rfl, r1⟩ := rvs_one rvs
          split at w
          · rename_i zs e4
            obtain ⟨b, ws, rfl, r2, e5⟩ := rs.toRH.lstOf r1 e4
            exact ⟨a, b, us, ws, rfl, rfl, e2, e5, by rw [← rr.length, ← r2.length, hl]; exact w.1, wr (rr.append r2) .non w.2⟩
          · exact w.elim
        · cases rvs
          split at w
          · rename_i y e4
            rw [rr.length] at e4
            obtain ⟨z, e5, r5⟩ := rr.get e4
            exact ⟨a, us, z, rfl, rfl, e2, e5, wr rr.dropLast r5 w⟩
          · exact w.elim
        · obtain ⟨y, rfl, r1⟩ := rvs_one rvs
          obtain rfl := r1.intV
          obtain ⟨w1, w2, w⟩ := w
          split at w
          · rename_i k e4
            split at w
            · rename_i y e5
              obtain ⟨z, e6, r6⟩ := rr.get e5
              exact ⟨a, us, _, k, z, rfl, rfl, e2, by omega, by omega, by rw [← rr.length]; exact ixOf_seq e4, e6, wr (rr.eraseIdx k) r6 w⟩
            · exact w.elim
          · exact w.elim
        · exact w.elim
      | _ => exact w.elim
  | _ => exact w.elim
theorem tyL_of {W : Wd} {env : Env} {h : Hea} {σ : L2.St} {H : Hp} (rs : RS G X t W env h σ H) {v : PV} {x : V} (rv : RV G.adr G.K W v x) (e : isL h v = true) : L2.tyV G.K "list" x H := by
  cases v with
  | ref n =>
    cases rv with
    | @ref n a f =>
    simp only [isL] at e
    split at e
    · rename_i ys q
      obtain ⟨a', u, e1, e2, us, e3, rr⟩ := rs.live n _ q rfl
      rw [f] at e1; cases e1
      subst e3
      exact .inl ⟨rfl, us, .inl (.inl e2)⟩
    · cases e
  | _ => cases e
theorem mt_ok : ∀ m : Mt, L2.MtR X ("list." ++ mtN m) (rMt m)
  | .append => L2.mt_append
  | .extend => L2.mt_extend
  | .pop => L2.mt_pop
  | .popAt => L2.mt_popAt
/-- a receiver that is no call of super -/
def plainRecv : Expr → Bool
  | .Name _ _ => true
  | .Subscript _ _ _ => true
  | .Attribute _ _ _ => true
  | _ => false
theorem recv_base {o : Expr} (h : plainRecv o = true) (m : Str) (env : PySem.Env) : attributeBase o m env (eval o env) = eval o env := by
  cases o <;> first | rfl | cases h
theorem le_meth0 {m : Mt} {name : Str} {id : String} {ca : CE} {o : Expr} {apos pos : Pos} (hK : X.K = G.K) (slot : Slot "list" name id) (hty : typeOf (.builtin id) = pure (.type "method_descriptor")) (hm : L2.MtR X id (rMt m)) (hr : plainRecv o = true) (hline : (apos.endLine == pos.line) = true)
    (ho : PE X o (LE G X t Wx (wpE O ca))) : PE X (.Call (.Attribute o name apos) [] [] pos) (LE G X t Wx (wpE O (.meth m ca .nil))) := by
  refine pe_imp (L2.pe_bm0 PySem.F.plainAttrs_list slot hty hm ho (recv_base hr _ _) hline) fun σ H Q q => ?_
  refine low1 (σ := σ) (k := fun _ x h1 Qp _ => isL h1 x = true ∧ methV m h1 x [] Qp) (R := fun x H1 Q => L2.tyV X.K "list" x H1 ∧ rMt m x [] H1 Q) (fun W env h H v x Qp Xp Q rs rv k cq _ => ?_) q
  rw [hK]
  exact meth_low rs rv .nil k.2 cq
theorem le_meth {m : Mt} {name : Str} {id : String} {ca : CE} {cs : CEs} {o e : Expr} {es : List Expr} {apos pos : Pos} (hK : X.K = G.K) (slot : Slot "list" name id) (hty : typeOf (.builtin id) = pure (.type "method_descriptor")) (hm : L2.MtR X id (rMt m)) (hr : plainRecv o = true) (hline : (apos.endLine == pos.line) = true)
    (ho : PE X o (LE G X t Wx (wpE O ca))) (ha : PA X (e :: es) (LA G X t Wx (wpEs O cs)))
    (hfew : ((backTo pos (starEach (e :: es) X.env)).all (fun x => !x.1) && (backToKw pos (keywordEach [] X.env)).all (fun x => x.1.isSome)
      && decide ((e :: es).length + ([] : List Keyword).length + (if ([] : List Keyword).isEmpty then 0 else 1) < 30)) = true)
    (hs : starEach (e :: es) X.env = (false, eval e X.env) :: starEach es X.env) (hpl : (backTo pos (starEach es X.env)).any (·.1) = false) : PE X (.Call (.Attribute o name apos) (e :: es) [] pos) (LE G X t Wx (wpE O (.meth m ca cs))) := by
  refine pe_imp (L2.pe_bm PySem.F.plainAttrs_list slot hty hm ho ha (recv_base hr _ _) hfew hline hs hpl) fun σ H Q q => ?_
  obtain ⟨W, env, h, Qp, Xp, rs, w, cq, cx⟩ := q
  simp only [wpE] at w
  refine ⟨W, env, h, _, Xp, rs, w, fun W1 v h1 x H1 le r1 rv q1 => ?_, cx⟩
  rw [hK]
  refine ⟨tyL_of r1 rv q1.1, W1, env, h1, _, Xp, r1, q1.2, fun W2 vs h2 xs H2 le2 r2 rvs q2 => ?_, cx.mono le⟩
  exact (meth_low r2 (rv.mono le2) rvs q2 ((cq.mono le).mono le2)).2
end
end PC

set_option Elab.async false
set_option maxRecDepth 100000
/-! PC8: calls. The cells of the running frame are told to a callee as objects that stand. -/
namespace PC
open PySem PySem.Spec PyProof.Rows
open L2 (V HO Hp upd upd_same upd_ne Rd SqL SqT Cx Inv TE TT TA TS VK PE PT PW PA R2 OpR CallR Un HOk ObjOk Env0 FnOk Sp XK Room frs)
open scoped Classical in
/-- the cells that are known, told too -/
noncomputable def trk (W : Wd) (hp : Heap) (H : Hp) : Hp := fun c => match H c with
  | some u => some u
  | none => if (W.cv c).isSome then (hp.get? c).map fun ob => CellX c ob else none
/-- .. no more -/
noncomputable def utrk (W : Wd) (H H' : Hp) : Hp := fun c => match H c with
  | some _ => H' c
  | none => if (W.cv c).isSome then none else H' c
theorem trk_some {W : Wd} {hp : Heap} {H : Hp} {c : Addr} {u : HO} (e : H c = some u) : trk W hp H c = some u := by simp only [trk, e]
theorem trk_none {W : Wd} {hp : Heap} {H : Hp} {c : Addr} (e : H c = none) (n : W.cv c = none) : trk W hp H c = none := by simp [trk, e, n]
theorem trk_cell {W : Wd} {hp : Heap} {H : Hp} {c : Addr} {v : V} {ob : Obj} (e : H c = none) (n : W.cv c = some v) (g : hp.get? c = some ob) : trk W hp H c = some (CellX c ob) := by simp [trk, e, n, g]
theorem trk_of {W : Wd} {hp : Heap} {H : Hp} {c : Addr} {u : HO} (e : trk W hp H c = some u) : H c = some u ∨ (H c = none ∧ ∃ v ob, W.cv c = some v ∧ hp.get? c = some ob ∧ u = CellX c ob) := by
  cases q : H c with
  | some w => rw [trk_some q] at e; exact .inl e
  | none =>
    cases n : W.cv c with
    | none => rw [trk_none q n] at e; cases e
    | some v =>
      cases g : hp.get? c with
      | none => simp [trk, q, n, g] at e
      | some ob => rw [trk_cell q n g] at e; cases e; exact .inr ⟨rfl, v, ob, rfl, rfl, rfl⟩
theorem utrk_some {W : Wd} {H H' : Hp} {c : Addr} {u : HO} (e : H c = some u) : utrk W H H' c = H' c := by simp only [utrk, e]
theorem utrk_none {W : Wd} {H H' : Hp} {c : Addr} (e : H c = none) (n : W.cv c = none) : utrk W H H' c = H' c := by simp [utrk, e, n]
theorem utrk_cell {W : Wd} {H H' : Hp} {c : Addr} {v : V} (e : H c = none) (n : W.cv c = some v) : utrk W H H' c = none := by simp [utrk, e, n]
theorem utrk_of {W : Wd} {H H' : Hp} {c : Addr} {u : HO} (e : utrk W H H' c = some u) : H' c = some u ∧ (H c = none → W.cv c = none) := by
  cases q : H c with
  | some w => rw [utrk_some q] at e; exact ⟨e, fun z => by cases z⟩
  | none =>
    cases n : W.cv c with
    | none => rw [utrk_none q n] at e; exact ⟨e, fun _ => rfl⟩
    | some v => rw [utrk_cell q n] at e; cases e
theorem cellX_ok {P : Program} {w : World} {H : Hp} {h : Heap} {c : Addr} {ob : Obj} (e : h.get? c = some ob) : ObjOk P w H h c (CellX c ob) := ⟨e, ⟨ob, e⟩, fun h1 h2 e1 k => k ob e1⟩

section
variable {P : Program} {w : World} {W : Wd} {H H' : Hp} {h h' : Heap}
theorem hok_trk (x : HOk P w H h) : HOk P w (trk W h H) h := fun a o e => by
  rcases trk_of e with e | ⟨_, v, ob, _, g, rfl⟩
  · exact (x a o e).stay (fun _ _ _ q => q) (fun b q => trk_some q) fun b xs q => trk_some q
  · exact cellX_ok g
theorem hok_utrk (x : HOk P w H' h) (hc : ∀ c v, H c = none → W.cv c = some v → ∃ ob, H' c = some (CellX c ob)) : HOk P w (utrk W H H') h := fun a o e => by
  obtain ⟨e1, _⟩ := utrk_of e
  have up : ∀ b u, H' b = some u → (∀ ob, u ≠ CellX b ob) → utrk W H H' b = some u := fun b u q ne => by
    cases hb : H b with
    | some z => rw [utrk_some hb]; exact q
    | none =>
      cases n : W.cv b with
      | none => rw [utrk_none hb n]; exact q
      | some v =>
        obtain ⟨ob, z⟩ := hc b v hb n
        rw [q] at z; cases z
        exact (ne ob rfl).elim
  exact (x a o e1).stay (fun _ _ _ q => q) (fun b q => up b _ q fun ob z => by cases z) fun b xs q => up b _ q fun ob z => by cases z
/-- what a callee has kept -/
theorem un_utrk {fs : List Addr} (u : Un fs [] (trk W h H) H' h h') (ok : HOk P w H' h') (hc : ∀ c v, H c = none → W.cv c = some v → ∃ ob, h.get? c = some ob ∧ H' c = some (CellX c ob)) : Un fs [] H (utrk W H H') h h' := by
  refine ⟨fun b ob e n hb he => ?_, fun b ob e n hb he => ?_, fun b ob e n he => ?_, fun b ob e he => u.there b ob e he, fun b xs e => ?_, fun b o xs e => ?_, fun b ps e => ?_⟩
  · cases q : W.cv b with
    | none => exact u.keep b ob e (trk_none n q) hb he
    | some v =>
      obtain ⟨ob', g, z⟩ := hc b v n q
      rw [e] at g; cases g
      exact (ok b _ z).1
  · cases q : W.cv b with
    | none => exact u.slot b ob e (trk_none n q) hb he
    | some v =>
      obtain ⟨ob', g, z⟩ := hc b v n q
      rw [e] at g; cases g
      exact ⟨ob.slots, (ok b _ z).1⟩
  · cases q : W.cv b with
    | none => rw [utrk_none n q]; exact u.free b ob e (trk_none n q) he
    | some v => exact utrk_cell n q
  · rw [utrk_some e]; exact u.tups b xs (trk_some e)
  · rw [utrk_some e]; exact u.frzs b o xs (trk_some e)
  · rw [utrk_some e]; exact u.tbls b ps (trk_some e)
end

/-- the relation at a call: all cells that are known stand as objects -/
abbrev RL (G : Gs) (B : Heap) (W : Wd) (h : Hea) (H : Hp) : Prop := RH G B (fun _ _ => False) (fun _ _ => True) W h H
/-- what is new behind a call: lambdas of new cells -/
def NewF (W W' : Wd) : Prop := ∀ a ci, W'.fn a = some ci → W.fn a = some ci ∨ ∀ c ∈ ci.cs, W.cv c = none
section
variable {G : Gs} {X : Cx} {t : Fm} {Wx : L2.WX} {W W' : Wd} {env : Env} {h : Hea} {σ : L2.St} {H H' : Hp} {pins : List (Addr × Obj)} {s s' : Shared}
/-- the running frame's cells, as the heap has them -/
theorem cellA_at (I : Inv X pins σ H s) {c : Addr} {v : V} (x : CellA X t σ c v) : H c = none ∧ c ∉ frs X.stack ∧ ∃ ob u, s.heap.get? c = some ob ∧ ob.data = .cell (some u) ∧ L2.RelV v u := by
  rcases x with ⟨_, x⟩ | ⟨_, _, n, nf, nx, ob, u, g, d, ru⟩
  · obtain ⟨y, i, h1, h2, h3, h4, h5⟩ := x
    refine ⟨I.freeC y c h1, fun z => ?_, ?_⟩
    · rcases List.mem_cons.mp (I.stkSub c z) with q | q
      · exact I.cne y c h1 q
      · exact h5 q
    · obtain ⟨m, hn, hl⟩ := I.loc
      obtain ⟨u, ru, q⟩ := hl i y v h3 h4 (h2.imp id id |> fun z => z.elim (fun z => .inr (.inl z)) fun z => .inr (.inr z))
      rcases q with ⟨k, _⟩ | ⟨_, c', e', hc⟩
      · rcases h2 with z | z <;> (rw [k] at z; cases z)
      · rw [h1] at e'; cases e'
        obtain ⟨ob, g, d⟩ := hc
        exact ⟨ob, u, g, d, ru⟩
  · refine ⟨I.base.free c ob g n nx, fun z => ?_, ob, u, I.base.keep c ob g n nf nx, d, ru⟩
    rcases List.mem_cons.mp (I.stkSub c z) with q | q
    · rw [q] at g
      exact absurd (Nat.lt_of_lt_of_le (Heap.lt_size g) I.ok.above) (Nat.lt_irrefl _)
    · exact nf q
open scoped Classical in
/-- the world of a callee -/
noncomputable def Wd.told (W : Wd) (hp : Heap) (H : Hp) : Wd := { W with co := fun c => match H c with
  | some _ => W.co c
  | none => if (W.cv c).isSome then hp.get? c else W.co c }
open scoped Classical in
/-- .. of the caller, behind the call -/
noncomputable def Wd.back (W W' : Wd) (H : Hp) : Wd := { W' with co := fun c => match H c with
  | some _ => W'.co c
  | none => if (W.cv c).isSome then none else W'.co c }
theorem told_at {hp : Heap} {c : Addr} {v : V} (e : H c = none) (n : W.cv c = some v) : (W.told hp H).co c = hp.get? c := by simp [Wd.told, e, n]
theorem told_some {hp : Heap} {c : Addr} {u : HO} (e : H c = some u) : (W.told hp H).co c = W.co c := by simp [Wd.told, e]
theorem told_out {hp : Heap} {c : Addr} (e : W.cv c = none) : (W.told hp H).co c = W.co c := by simp only [Wd.told, e]; cases H c <;> rfl
theorem told_le (r : RS G X t W env h σ H) (I : Inv X pins σ H s) : Wle W (W.told s.heap H) := by
  refine ⟨fun _ _ e => e, fun _ _ e => e, fun _ _ e => e, fun _ _ e => e, fun c vv ob hv e => ?_, fun _ _ e => e⟩
  cases q : H c with
  | some u => rw [told_some q]; exact e
  | none =>
    cases n : W.cv c with
    | none => rw [told_out n]; exact e
    | some v =>
      rcases (r.cv c v n).2 with ⟨_, z⟩ | ⟨ob, u, _, z, _⟩
      · rw [z] at e; cases e
      · rw [q] at z; cases z
theorem RO.told {o : HObj} {u : HO} (x : RO G W o u) (le : Wle W W') : RO G W' o u := x.mono le
/-- ahead of the call -/
theorem RS.toCall (r : RS G X t W env h σ H) (I : Inv X pins σ H s) : RL G X.base (W.told s.heap H) h (trk W s.heap H) := by
  have le := told_le r I
  have k : ∀ b o, H b = some o → Fix o → trk W s.heap H b = some o := fun b o e _ => trk_some e
  refine ⟨fun a o e => trk_some (r.fz a o e), fun n o e l => ?_, r.inj, r.dis, r.new, tabs_keep k r.tabs, fun a ci e => ?_, fun c v e => ⟨(r.cv c v e).1, .inr ?_⟩, fun _ _ _ => trivial, fun a vs e => ⟨trk_some (r.hd a vs e).1, (r.hd a vs e).2⟩⟩
  · obtain ⟨a, u, h1, h2, h3⟩ := r.live n o e l
    exact ⟨a, u, h1, trk_some h2, h3.mono le⟩
  · obtain ⟨h1, h2, h3, h4⟩ := r.fn a ci e
    exact ⟨h1, trk_some h2, trk_some h3, h4⟩
  · rcases (r.cv c v e).2 with ⟨ca, _⟩ | cb
    · obtain ⟨n, _, ob, u, g, d, ru⟩ := cellA_at I ca
      have e' : W.cv c = some v := e
      exact ⟨ob, u, by rw [told_at n e']; exact g, trk_cell n e' g, d, ru⟩
    · exact (cb.mono le e).keep k
/-- behind the call -/
theorem RS.ofCall (r : RS G X t W env h σ H) (F : FmOk X t) (I : Inv X pins σ H s) (le : Wle (W.told s.heap H) W') {h' : Hea} (Q : RL G X.base W' h' H') {hp : Heap} (ok : HOk X.prog X.w H' hp) (hf : NewF W W')
    (hz : ∀ c ob, s.heap.get? c = some ob → trk W s.heap H c = none → H' c = none) :
    Wle W (W.back W' H) ∧ RS G X t (W.back W' H) env h' σ (utrk W H H') ∧ (∀ c v, H c = none → W.cv c = some v → ∃ ob, s.heap.get? c = some ob ∧ H' c = some (CellX c ob)) := by
  have le0 := told_le r I
  have cl0 : ∀ c v, H c = none → W.cv c = some v → ∃ ob u, s.heap.get? c = some ob ∧ H' c = some (CellX c ob) ∧ ob.data = .cell (some u) := fun c v n e => by
    rcases (r.cv c v e).2 with ⟨ca, _⟩ | ⟨ob, u, _, z, _⟩
    · obtain ⟨_, _, ob, u, g, d, ru⟩ := cellA_at I ca
      have e1 : (W.told s.heap H).co c = some ob := by rw [told_at n e]; exact g
      rcases (Q.cv c v (le.cv c v e)).2 with ⟨z, _⟩ | ⟨ob', u', h0, h1, _⟩
      · exact z.elim
      · rw [le.co c v ob e e1] at h0; cases h0
        exact ⟨ob, u, g, h1, d⟩
    · rw [n] at z; cases z
  have up : ∀ b u, H' b = some u → (∀ ob, u ≠ CellX b ob) → utrk W H H' b = some u := fun b u e ne => by
    cases hb : H b with
    | some z => rw [utrk_some hb]; exact e
    | none =>
      cases n : W.cv b with
      | none => rw [utrk_none hb n]; exact e
      | some v =>
        obtain ⟨ob, _, _, z, _⟩ := cl0 b v hb n
        rw [e] at z; cases z
        exact (ne ob rfl).elim
  have codeK : ∀ b q, H' b = some (LamX.CodeO b q) → utrk W H H' b = some (LamX.CodeO b q) := fun b q e => by
    cases hb : H b with
    | some z => rw [utrk_some hb]; exact e
    | none =>
      cases n : W.cv b with
      | none => rw [utrk_none hb n]; exact e
      | some v =>
        obtain ⟨ob, u, _, z, d⟩ := cl0 b v hb n
        obtain ⟨oc, vs, t, g1, g2, _⟩ := (ok b _ e).1
        have g3 : hp.get? b = some ob := (ok b _ z).1
        rw [g3] at g1; cases g1
        rw [d] at g2; cases g2
  have lamK : ∀ b ci, H' b = some (LamO b ci) → utrk W H H' b = some (LamO b ci) := fun b ci e => by
    cases hb : H b with
    | some z => rw [utrk_some hb]; exact e
    | none =>
      cases n : W.cv b with
      | none => rw [utrk_none hb n]; exact e
      | some v =>
        obtain ⟨ob, u, _, z, d⟩ := cl0 b v hb n
        obtain ⟨pm, ctv, g1⟩ := (ok b _ e).1
        have g3 : hp.get? b = some ob := (ok b _ z).1
        rw [g3] at g1; cases g1
        cases d
  have lb : Wle W (W.back W' H) := by
    refine ⟨fun _ _ e => le.rho _ _ (le0.rho _ _ e), fun _ _ e => le.fz _ _ (le0.fz _ _ e), fun _ _ e => le.fn _ _ (le0.fn _ _ e), fun _ _ e => le.cv _ _ (le0.cv _ _ e), fun c vv ob hv e => ?_, fun _ _ e => le.hid _ _ (le0.hid _ _ e)⟩
    cases hb : H c with
    | some z => simp only [Wd.back, hb]; exact le.co _ _ _ (le0.cv _ _ hv) (le0.co _ _ _ hv e)
    | none =>
      cases n : W.cv c with
      | none => simp only [Wd.back, hb, n]; exact le.co _ _ _ (le0.cv _ _ hv) (le0.co _ _ _ hv e)
      | some v =>
        rcases (r.cv c v n).2 with ⟨_, z⟩ | ⟨ob, u, _, z, _⟩
        · rw [z] at e; cases e
        · rw [hb] at z; cases z
  have rvb : ∀ {xs : List PV} {vs : List V}, RVs G.adr G.K W' xs vs → RVs G.adr G.K (W.back W' H) xs vs := fun {xs vs} q =>
    RVs.low (W := W') (W' := W.back W' H) (n := h'.length) (fun _ _ _ e => e) (fun _ _ e => e) (fun _ _ e => e) (fun _ _ e => e) q (q.bound Q.new)
  have rb : ∀ {o : HObj} {u : HO}, RO G W' o u → RO G (W.back W' H) o u := fun {o u} x => by
    cases o with
    | lst xs => obtain ⟨vs, e, q⟩ := x; exact ⟨vs, e, rvb q⟩
    | dK ks xs => obtain ⟨kvs, e, k, q⟩ := x; exact ⟨kvs, e, k, rvb q⟩
    | dead => trivial
  have ndK : ∀ {o : HObj} {u : HO}, o.live = true → RO G W' o u → ∀ b ob, u ≠ CellX b ob := fun {o u} l x b ob z => by
    cases o with
    | lst xs => obtain ⟨vs, e, _⟩ := x; rw [e] at z; cases z
    | dK ks xs => obtain ⟨vs, e, _⟩ := x; rw [e] at z; cases z
    | dead => cases l
  refine ⟨lb, ⟨⟨fun a o e => up a _ (Q.fz a o e) fun ob z => ?_, fun n o e l => ?_, Q.inj, Q.dis, Q.new, ?_, fun a ci e => ?_, fun c v e => ⟨(Q.cv c v e).1, ?_⟩, fun a ci e => ?_, fun a vs e => ⟨up a _ (Q.hd a vs e).1 (fun ob z => by cases z), (Q.hd a vs e).2⟩⟩, r.len, fun i v e => ?_, r.le0.trans lb, r.lek.trans lb⟩, fun c v n e => let ⟨ob, _, g, h1, _⟩ := cl0 c v n e; ⟨ob, g, h1⟩⟩
  · cases o with
    | scr ns ob => cases ob <;> cases z
    | _ => cases z
  · obtain ⟨a, u, h1, h2, h3⟩ := Q.live n o e l
    exact ⟨a, u, h1, up a u h2 (ndK l h3 a), rb h3⟩
  · intro p hp
    obtain ⟨ps, h1, h2, h3⟩ := Q.tabs p hp
    refine ⟨ps, up _ _ h1 (fun ob z => by cases z), h2, fun pos cv hc => ?_⟩
    obtain ⟨c, e1, e2⟩ := h3 pos cv hc
    exact ⟨c, e1, codeK c _ e2⟩
  · obtain ⟨g1, g2, g3, g4⟩ := Q.fn a ci e
    exact ⟨g1, lamK a ci g2, codeK _ _ g3, g4⟩
  · have e' : W'.cv c = some v := e
    rcases (Q.cv c v e').2 with ⟨z, _⟩ | ⟨ob, u, h0, h1, h2, h3⟩
    · exact z.elim
    · cases hb : H c with
      | some z => exact .inr ⟨ob, u, by simp only [Wd.back, hb]; exact h0, by rw [utrk_some hb]; exact h1, h2, h3⟩
      | none =>
        cases n : W.cv c with
        | none => exact .inr ⟨ob, u, by simp only [Wd.back, hb, n]; exact h0, by rw [utrk_none hb n]; exact h1, h2, h3⟩
        | some v0 =>
          have ev := le.cv c v0 n
          rw [e'] at ev; cases ev
          rcases (r.cv c v n).2 with ⟨ca, _⟩ | ⟨_, _, _, z, _⟩
          · exact .inl ⟨ca, by simp [Wd.back, hb, n]⟩
          · rw [hb] at z; cases z
  · rcases hf a ci e with z | z
    · exact r.tk a ci z
    · refine ⟨fun _ c hc ho => ?_, .inr fun c hc => ?_⟩
      · have ⟨nH, ob, g⟩ : H c = none ∧ ∃ ob, s.heap.get? c = some ob := by
          rcases F.owx c ho with ⟨y, hy, hl⟩ | ⟨n, nx, ob, _, g, _⟩
          · obtain ⟨w, ob, g, _⟩ := I.cell y c hl
            exact ⟨I.freeC y c hl, ob, g⟩
          · exact ⟨I.base.free c ob g n nx, I.base.there c ob g nx⟩
        have n : H' c = none := hz c ob g (trk_none nH (z c hc))
        obtain ⟨v, e1⟩ := (Q.fn a ci e).2.2.2 c hc
        rcases (Q.cv c v e1).2 with ⟨q, _⟩ | ⟨_, _, _, q, _⟩
        · exact q.elim
        · rw [n] at q; cases q
      · cases q : t.W0.cv c with
        | none => rfl
        | some v => have w := r.le0.cv c v q; rw [z c hc] at w; cases w
  · obtain ⟨x, e1, r1⟩ := r.env i v e
    exact ⟨x, e1, r1.mono lb⟩
end
end PC

set_option Elab.async false
set_option maxRecDepth 100000
/-! PC9: a call, and behind it. -/
namespace PC
open PySem PySem.Spec PyProof.Rows
open L2 (V HO Hp upd upd_same upd_ne Rd SqL SqT Cx Inv TE TT TA TS VK PE PT PW PA R2 OpR CallR Un UB HOk ObjOk Env0 FnOk Sp XK Room frs CR EP Takes)

/-- a call's end, as the caller may know it -/
def PQ (G : Gs) (B : Heap) (W : Wd) (Qp : KQ) : VK := fun x H' => ∃ W' v h', Wle W W' ∧ NewF W W' ∧ RL G B W' h' H' ∧ RV G.adr G.K W' v x ∧ Qp v h'
def PX (G : Gs) (B : Heap) (W : Wd) (Xp : KX) : XK := fun cls dd H' => ∃ W' ex h', Wle W W' ∧ NewF W W' ∧ RL G B W' h' H' ∧ RX G W' ex cls dd H' ∧ Xp ex h'
/-- a def's promise -/
def spC (G : Gs) (P : Prog) (B : Heap) (d i : Nat) : Sp := fun xs H Q E => ∃ W h vs Qp Xp, RL G B W h H ∧ RVs G.adr G.K W vs xs ∧ (orc P d).call i vs h Qp Xp ∧
  (∀ x H', PQ G B W Qp x H' → Q x H') ∧ ∀ c dd H', PX G B W Xp c dd H' → E c dd H'

section
variable {G : Gs} {X : Cx} {t : Fm} {Wx : L2.WX} {W W' : Wd} {env : Env} {h : Hea} {σ : L2.St} {H H' : Hp} {pins : List (Addr × Obj)} {s s' : Shared} {Qp : KQ} {Xp : KX} {Q : VK}
theorem Inv.envT (I : Inv X pins σ H s) (r : RS G X t W env h σ H) : Env0 X.prog X.w X.K X.mg X.base X.A X.stack s (trk W s.heap H) := by
  have e := I.env0
  refine ⟨e.frames, e.mod, fun b o q => ⟨(e.bs b o q).1, ?_⟩, e.bsz, e.funs, fun b hb => ?_, hok_trk I.hok, e.bare⟩
  · cases n : W.cv b with
    | none => exact trk_none (e.bs b o q).2 n
    | some v => have z := (r.cv b v n).1; rw [q] at z; cases z
  · cases n : W.cv b with
    | none => exact trk_none (e.frf b hb) n
    | some v =>
      rcases (r.cv b v n).2 with ⟨ca, _⟩ | ⟨_, _, _, z, _⟩
      · exact ((cellA_at I ca).2.1 hb).elim
      · rw [e.frf b hb] at z; cases z
theorem back_low {W W' : Wd} {H : Hp} {n : Nat} (hn : ∀ m, n ≤ m → W'.rho m = none) {v : PV} {x : V} (q : RV G.adr G.K W' v x) : RV G.adr G.K (W.back W' H) v x :=
  RV.low (W := W') (W' := W.back W' H) (n := n) (fun _ _ _ e => e) (fun _ _ e => e) (fun _ _ e => e) (fun _ _ e => e) q (q.bound hn)
/-- the exception's dict stays known -/
theorem RX.back (q : RX G W' ex cls dd H') (Q : RL G B W' h' H') (hc : ∀ c v, H c = none → W.cv c = some v → ∃ ob, H' c = some (CellX c ob)) : RX G (W.back W' H) ex cls dd (utrk W H H') := by
  obtain ⟨e, q⟩ := q
  refine ⟨e, ?_⟩
  cases hf : ex.fld with
  | none => rw [hf] at q; exact q
  | some v =>
    rw [hf] at q
    obtain ⟨f, d, x, h1, h2, h3, h4⟩ := q
    refine ⟨f, d, x, h1, h2, ?_, back_low Q.new h4⟩
    cases hb : H d with
    | some z => rw [utrk_some hb]; exact h3
    | none =>
      cases n : W.cv d with
      | none => rw [utrk_none hb n]; exact h3
      | some v =>
        obtain ⟨ob, z⟩ := hc d v hb n
        rw [h3] at z; cases z
def Back (X : Cx) (pins : List (Addr × Obj)) (σ : L2.St) (Q : VK) (res : Result) (s' : Shared) : Prop := match res with
  | .ok (.ret u) => EP X pins σ Q u s'
  | .ok _ => False
  | .error e => X.xe e s'
/-- behind a call -/
theorem callBack (F : FmOk X t) (I : Inv X pins σ H s) (tk : Takes X Wx) (r : RS G X t W env h σ H) (cq : CQ G X t W env σ Qp Q) (cx : CX G X t Wx W env σ Xp) {res : Result}
    (c : CR (L2.CX X.prog X.w) X.stack X.prog X.w (trk W s.heap H) s (PQ G X.base (W.told s.heap H) Qp) (PX G X.base (W.told s.heap H) Xp) res s') : Back X pins σ Q res s' := by
  cases res with
  | error e =>
    obtain ⟨a, B, H', cls, d, rfl, fl, hok, ub, na, os, ag, W', ex, h', le, hf, rl, rx, q⟩ := c
    obtain ⟨le1, r1, hc⟩ := r.ofCall F I le rl hok hf fun c ob g n => ub.free c ob g n
    refine tk _ _ (L2.XE.of_call I (E := fun cls d H2 => ∃ W2 ex h2, Wle W W2 ∧ RS G X t W2 env h2 σ H2 ∧ RX G W2 ex cls d H2 ∧ Xp ex h2) (fun cls d H2 ⟨W2, ex, h2, a1, a2, a3, a4⟩ => cx W2 ex h2 cls d H2 a1 a2 a3 a4) ?_)
    have hc' : ∀ c v, H c = none → W.cv c = some v → ∃ ob, H' c = some (CellX c ob) := fun c v n e => let ⟨ob, _, z⟩ := hc c v n e; ⟨ob, z⟩
    have nfr : ∀ b v, b ∈ frs X.stack → H b = none → W.cv b = some v → False := fun b v hb n e => by
      rcases (r.cv b v e).2 with ⟨ca, _⟩ | ⟨_, _, _, z, _⟩
      · exact (cellA_at I ca).2.1 hb
      · rw [n] at z; cases z
    refine ⟨a, B, utrk W H H', cls, d, rfl, fl, hok_utrk hok hc', ⟨fun b ob e n hb => ?_, fun b ob e hb => ub.slot b ob e hb, fun b ob e n => ?_, ub.there, fun b xs e => ?_, fun b o xs e => ?_, fun b ps e => ?_⟩, ?_, os, ag, _, ex, h', le1, r1, rx.back rl hc', q⟩
    · cases z : W.cv b with
      | none => exact ub.keep b ob e (trk_none n z) hb
      | some v =>
        obtain ⟨ob', g, u⟩ := hc b v n z
        rw [e] at g; cases g
        exact (hok b _ u).1
    · cases z : W.cv b with
      | none => rw [utrk_none n z]; exact ub.free b ob e (trk_none n z)
      | some v => exact utrk_cell n z
    · rw [utrk_some e]; exact ub.tups b xs (trk_some e)
    · rw [utrk_some e]; exact ub.frzs b o xs (trk_some e)
    · rw [utrk_some e]; exact ub.tbls b ps (trk_some e)
    · cases z : utrk W H H' a with
      | none => rfl
      | some u => rw [(utrk_of z).1] at na; cases na
  | ok fl =>
    cases fl with
    | ret u =>
      obtain ⟨v, H', os, bare, un, hok, rv, W', v', h', le, hf, rl, rr, q⟩ := c
      obtain ⟨le1, r1, hc⟩ := r.ofCall F I le rl hok hf fun c ob g n => un.free c ob g n (by simp)
      have hc' : ∀ c v, H c = none → W.cv c = some v → ∃ ob, H' c = some (CellX c ob) := fun c v n e => let ⟨ob, _, z⟩ := hc c v n e; ⟨ob, z⟩
      exact I.after ⟨v, utrk W H H', os, bare, un_utrk un hok hc, hok_utrk hok hc', rv, cq _ _ _ _ _ le1 r1 (back_low rl.new rr) q⟩
    | next => exact c
    | brk => exact c
    | cont => exact c
/-- a def is called -/
theorem run_call {k d i : Nat} {P : Prog} {f : Addr} {fd : FuncData} {ps : List Str} {us : List Value} {xs : List V} {vs : List PV} {args : Args} (F : FnOk X.prog X.w X.K X.mg X.base (L2.CX X.prog X.w) k f fd ps (spC G P X.base d i)) (hr : Room k X.A)
    (hb : PySem.BindsTo s fd args (ps.zip us)) (Fo : FmOk X t) (I : Inv X pins σ H s) (tk : Takes X Wx) (r : RS G X t W env h σ H) (rv : RVs G.adr G.K W vs xs) (ru : L2.Vals xs us) (cq : CQ G X t W env σ Qp Q) (cx : CX G X t Wx W env σ Xp) (q : (orc P d).call i vs h Qp Xp) :
    codeAny (model X.prog X.w) X.A (.call (.ref f) args) (Back X pins σ Q) s :=
  codeAny_mono (F.run X.A X.stack s _ args us xs _ _ hr (Inv.envT I r) hb ru ⟨_, h, vs, Qp, Xp, r.toCall I, rv.mono (told_le r I), q, fun _ _ z => z, fun _ _ _ z => z⟩) fun _ _ c => callBack Fo I tk r cq cx c
end
end PC

set_option Elab.async false
set_option maxRecDepth 100000
/-! PCb: parameters are bound. -/
namespace PC
open PySem PySem.Spec PyProof.Rows

theorem bind_loop {normal : List Str} (f : Str × Value → List (Str × Value) × List (Str × Value) → Sem (ForInStep (List (Str × Value) × List (Str × Value))))
    (hf : ∀ k v ex sl, normal.contains k = true → sl.lookup k = none → f (k, v) (sl, ex) = pure (.yield (sl ++ [(k, v)], ex))) : ∀ (kw : List (Str × Value)) (sl : List (Str × Value)) (ex : List (Str × Value)),
      (∀ p ∈ kw, normal.contains p.1 = true ∧ sl.lookup p.1 = none) → (kw.map (·.1)).Nodup → forIn kw (sl, ex) f = pure (sl ++ kw, ex)
  | [], sl, ex, _, _ => by simp
  | (k, v) :: r, sl, ex, h, nd => by
    obtain ⟨h1, h2⟩ := h (k, v) (List.mem_cons_self ..)
    rw [List.forIn_cons, hf k v ex sl h1 h2, pure_bind]
    show forIn r _ f = _
    rw [List.map_cons, List.nodup_cons] at nd
    rw [bind_loop f hf r (sl ++ [(k, v)]) ex (fun p hp => ⟨(h p (List.mem_cons_of_mem _ hp)).1, ?_⟩) nd.2]
    · simp
    · rw [List.lookup_append, (h p (List.mem_cons_of_mem _ hp)).2]
      have : p.1 ≠ k := fun e => nd.1 (List.mem_map.mpr ⟨p, hp, e⟩)
      simp [List.lookup, beq_eq_false_iff_ne.mpr this]

theorem bind_plain {fd : FuncData} {args : List Arg} {kd : List (Option Expr)} {df : List Expr} {us : List Value} {kw : List (Str × Value)} (hp : fd.params = ⟨[], args, none, [], kd, none, df⟩) (hd : fd.defaults = .none) (hl : us.length ≤ args.length)
    (hk : ∀ p ∈ kw, (args.map (·.arg)).contains p.1 = true ∧ ((args.map (·.arg)).zip us).lookup p.1 = none) (nd : (kw.map (·.1)).Nodup) (full : ∀ n ∈ args.map (·.arg), (((args.map (·.arg)).zip us ++ kw).lookup n).isSome = true) :
    bindArgs fd ⟨us, kw⟩ = pure ((args.map (·.arg)).filterMap fun n => (((args.map (·.arg)).zip us ++ kw).lookup n).map (n, ·)) := by
  unfold bindArgs
  simp only [hp, hd, List.map_nil, List.nil_append, List.append_nil]
  rw [bind_loop (normal := args.map (·.arg)) _ ?_ kw _ _ hk nd, pure_bind]
  · have e1 : (seqItems? Value.none) = pure none := rfl
    have e2 : (decide (us.length > (List.map (fun x => x.arg) args).length) && (none : Option Arg).isNone) = false := by simp; omega
    have e3 : (List.filter (fun n => (List.lookup n ((List.map (fun x => x.arg) args).zip us ++ kw)).isNone) (List.map (fun x => x.arg) args)) = [] := by
      refine List.filter_eq_nil_iff.mpr fun n hn => ?_
      have := full n hn
      cases h : List.lookup n ((List.map (fun x => x.arg) args).zip us ++ kw) with
      | none => rw [h] at this; cases this
      | some _ => simp
    rw [e1, pure_bind]
    simp only [Option.getD_none, List.length_nil, Nat.zero_sub, List.drop_nil, Nat.sub_zero, List.take_length, List.drop_length, e2, e3]
    simp
  · intro k v ex sl h1 h2
    simp only [h1, h2, Bool.true_or, if_true, Option.isSome_none, Bool.false_eq_true, if_false]
theorem look_zip : ∀ {ps : List Str} {us : List Value} {j : Nat} {x : Str} {v : Value}, ps.Nodup → ps[j]? = some x → us[j]? = some v → (ps.zip us).lookup x = some v
  | p :: ps, u :: us, 0, x, v, _, e1, e2 => by simp at e1 e2; subst e1; subst e2; simp [List.lookup]
  | p :: ps, u :: us, j + 1, x, v, nd, e1, e2 => by
    rw [List.nodup_cons] at nd
    simp at e1 e2
    have : x ≠ p := fun e => nd.1 (e ▸ List.mem_of_getElem? e1)
    simp only [List.zip_cons_cons, List.lookup, beq_eq_false_iff_ne.mpr this]
    exact look_zip nd.2 e1 e2
  | [], _, _, _, _, _, e1, _ => by simp at e1
  | _ :: _, [], _, _, _, _, _, e2 => by simp at e2
theorem look_none : ∀ {ps : List Str} {us : List Value} {x : Str}, x ∉ ps.take us.length → (ps.zip us).lookup x = none
  | [], _, _, _ => rfl
  | _ :: _, [], _, _ => rfl
  | p :: ps, u :: us, x, h => by
    simp only [List.length_cons, List.take_succ_cons, List.mem_cons, not_or] at h
    simp only [List.zip_cons_cons, List.lookup, beq_eq_false_iff_ne.mpr h.1]
    exact look_none h.2
theorem fm_zip {L : List (Str × Value)} : ∀ {ps : List Str} {vs : List Value}, ps.length = vs.length → (∀ (j : Nat) (x : Str) (v : Value), ps[j]? = some x → vs[j]? = some v → L.lookup x = some v) → (ps.filterMap fun n => (L.lookup n).map (n, ·)) = ps.zip vs
  | [], [], _, _ => rfl
  | p :: ps, v :: vs, hl, h => by
    have h0 := h 0 p v rfl rfl
    simp only [List.filterMap_cons, h0, Option.map_some, List.zip_cons_cons]
    rw [fm_zip (by simpa using hl) fun j x w e1 e2 => h (j + 1) x w (by simpa using e1) (by simpa using e2)]
  | [], _ :: _, hl, _ => by cases hl
  | _ :: _, [], hl, _ => by cases hl

def pick {α : Type} (d : α) (xs : List α) (perm : List Nat) : List α := perm.map fun i => (xs[i]?).getD d
def kwOk (ps : List Str) (n : Nat) (ks : List Str) (perm : List Nat) : Bool :=
  decide (n ≤ ps.length) && decide ps.Nodup && decide ks.Nodup && (ks.all fun k => ps.contains k && !(ps.take n).contains k) && decide (perm.length = ps.length) &&
    (List.range ps.length).all fun j => match perm[j]? with
      | some i => if j < n then decide (i = j) else decide (n ≤ i) && (match ks[i - n]? with
        | some k => decide (ps[j]? = some k)
        | none => false)
      | none => false
theorem bind_kw {fd : FuncData} {args : List Arg} {kd : List (Option Expr)} {df : List Expr} {us ws : List Value} {n : Nat} {ks : List Str} {perm : List Nat} (hp : fd.params = ⟨[], args, none, [], kd, none, df⟩) (hd : fd.defaults = .none) (ok : kwOk (args.map (·.arg)) n ks perm = true) (hu : us.length = n) (hw : ws.length = ks.length) :
    bindArgs fd ⟨us, ks.zip ws⟩ = pure ((args.map (·.arg)).zip (pick .none (us ++ ws) perm)) := by
  unfold kwOk at ok
  simp only [Bool.and_eq_true, decide_eq_true_eq, List.all_eq_true, Bool.not_eq_true', List.mem_range] at ok
  obtain ⟨⟨⟨⟨⟨h1, h2⟩, h3⟩, h4⟩, h5⟩, h6⟩ := ok
  have km : (ks.zip ws).map (·.1) = ks := List.map_fst_zip (by omega)
  have all : ∀ (j : Nat) (x : Str) (v : Value), (args.map (·.arg))[j]? = some x → (pick Value.none (us ++ ws) perm)[j]? = some v → (((args.map (·.arg)).zip us ++ ks.zip ws).lookup x) = some v := fun j x v e1 e2 => by
    have hj : j < (args.map (·.arg)).length := (List.getElem?_eq_some_iff.mp e1).1
    have q := h6 j hj
    unfold pick at e2
    rw [List.getElem?_map] at e2
    cases hi : perm[j]? with
    | none => rw [hi] at q; cases q
    | some i =>
      rw [hi] at q e2
      simp only [Option.map_some, Option.some.injEq] at e2
      rw [List.lookup_append]
      by_cases hn : j < n
      · simp only [hn, if_true, decide_eq_true_eq] at q
        subst q
        have hi' : i < us.length := by omega
        rw [List.getElem?_append_left hi', List.getElem?_eq_getElem hi'] at e2
        rw [look_zip h2 e1 (v := v) (by rw [List.getElem?_eq_getElem hi']; exact congrArg some e2)]
        rfl
      · simp only [hn, if_false, Bool.and_eq_true, decide_eq_true_eq] at q
        obtain ⟨q1, q2⟩ := q
        cases hk : ks[i - n]? with
        | none => rw [hk] at q2; cases q2
        | some k =>
          rw [hk] at q2
          simp only [decide_eq_true_eq] at q2
          rw [e1] at q2
          have q2 : x = k := Option.some.inj q2
          subst q2
          have nk := (h4 x (List.mem_of_getElem? hk)).2
          rw [look_none (by rw [hu]; simpa using nk)]
          have hm : i - n < ws.length := by rw [hw]; exact (List.getElem?_eq_some_iff.mp hk).1
          rw [List.getElem?_append_right (by omega), hu, List.getElem?_eq_getElem hm] at e2
          rw [look_zip h3 hk (v := v) (by rw [List.getElem?_eq_getElem hm]; exact congrArg some e2)]
          rfl
  have ln : (args.map (·.arg)).length = (pick Value.none (us ++ ws) perm).length := by unfold pick; rw [List.length_map, List.length_map, h5, List.length_map]
  rw [bind_plain hp hd (by rw [List.length_map] at h1; omega) (fun p hp => ?_) (by rw [km]; exact h3) (fun x hx => ?_), fm_zip ln all]
  · have hm : p.1 ∈ ks := by rw [← km]; exact List.mem_map.mpr ⟨p, hp, rfl⟩
    obtain ⟨a1, a2⟩ := h4 p.1 hm
    exact ⟨a1, look_none (by rw [hu]; simpa using a2)⟩
  · obtain ⟨j, hj, e⟩ := List.mem_iff_getElem.mp hx
    have hj2 : j < (pick Value.none (us ++ ws) perm).length := by rw [← ln]; exact hj
    rw [all j x _ (by rw [List.getElem?_eq_getElem hj, e]) (List.getElem?_eq_getElem hj2)]
    rfl
theorem arrange_len {vs ws : List PV} {perm : List Nat} (e : arrange vs perm = some ws) : ws.length = perm.length := by
  induction perm generalizing ws with
  | nil => cases e; rfl
  | cons i r ih =>
    unfold arrange at e
    split at e
    · rename_i e2; cases e; simp [ih e2]
    · cases e
theorem rvs_pick {G : Gs} {W : Wd} {vs ws : List PV} {xs : List L2.V} {perm : List Nat} (e : arrange vs perm = some ws) (r : RVs G.adr G.K W vs xs) : RVs G.adr G.K W ws (pick .non xs perm) := by
  induction perm generalizing ws with
  | nil => cases e; exact .nil
  | cons i p ih =>
    unfold arrange at e
    split at e
    · rename_i v ws' e1 e2
      cases e
      obtain ⟨x, h1, h2⟩ := r.get e1
      refine .cons ?_ (ih e2)
      show RV _ _ _ _ ((xs[i]?).getD .non)
      rw [h1]; exact h2
    · cases e
theorem vals_get : ∀ {xs : List L2.V} {us : List Value} (i : Nat), L2.Vals xs us → L2.RelV ((xs[i]?).getD .non) ((us[i]?).getD .none)
  | [], [], i, .nil => by simp; rfl
  | x :: xs, u :: us, 0, .cons r _ => by simpa using r
  | x :: xs, u :: us, i + 1, .cons _ t => by simpa using vals_get i t
theorem vals_pick {xs : List L2.V} {us : List Value} (r : L2.Vals xs us) : ∀ perm : List Nat, L2.Vals (pick .non xs perm) (pick .none us perm)
  | [] => .nil
  | i :: p => .cons (vals_get i r) (vals_pick r p)
end PC

set_option Elab.async false
set_option maxRecDepth 100000
/-! PC10: a def called by its name, or by a variable. -/
namespace PC
open PySem PySem.Spec PyProof.Rows
open L2 (V HO Hp upd upd_same upd_ne Rd SqL SqT Cx Inv TE TT TA TS VK PE PT PW PA PK R2 OpR CallR Un UB HOk ObjOk Env0 FnOk Sp XK Room frs CR EP Takes)

def isStar : Expr → Bool
  | .Starred _ _ => true
  | _ => false
theorem star_cons {e : Expr} {es : List Expr} {env : PySem.Env} (h : isStar e = false) : starEach (e :: es) env = (false, eval e env) :: starEach es env := by
  cases e <;> first | rfl | cases h
def noStars (es : List Expr) : Bool := es.all fun e => !isStar e
theorem star_any {env : PySem.Env} {pos : Pos} : ∀ {es : List Expr}, noStars es = true → (backTo pos (starEach es env)).any (·.1) = false
  | [], _ => rfl
  | e :: es, h => by
    simp only [noStars, List.all_cons, Bool.and_eq_true, Bool.not_eq_true'] at h
    rw [star_cons h.1]
    show (false || (backTo pos (starEach es env)).any (·.1)) = false
    rw [star_any (es := es) h.2]; rfl
def kwNames : List Keyword → Option (List Str)
  | [] => some []
  | ⟨some n, _, _⟩ :: r => (kwNames r).map (n :: ·)
  | ⟨none, _, _⟩ :: _ => none
theorem kw_facts {env : PySem.Env} {pos : Pos} : ∀ {kws : List Keyword} {ks : List Str}, kwNames kws = some ks → (backToKw pos (keywordEach kws env)).all (·.1.isSome) = true ∧ (backToKw pos (keywordEach kws env)).filterMap (·.1) = ks ∧ (backToKw pos (keywordEach kws env)).any (·.1.isNone) = false
  | [], ks, h => by cases h; exact ⟨rfl, rfl, rfl⟩
  | ⟨some n, e, p⟩ :: r, ks, h => by
    unfold kwNames at h
    cases q : kwNames r with
    | none => rw [q] at h; cases h
    | some l =>
      rw [q] at h; cases h
      obtain ⟨h1, h2, h3⟩ := kw_facts (env := env) (pos := pos) q
      refine ⟨?_, ?_, ?_⟩
      · show (true && (backToKw pos (keywordEach r env)).all (·.1.isSome)) = true
        rw [h1]; rfl
      · show n :: (backToKw pos (keywordEach r env)).filterMap (·.1) = _
        rw [h2]
      · show (false || (backToKw pos (keywordEach r env)).any (·.1.isNone)) = false
        rw [h3]; rfl
  | ⟨none, _, _⟩ :: _, _, h => by cases h

/-- a def as the layer knows it -/
structure DefOk (G : Gs) (P : Prog) (pr : Program) (w : World) (mg : Str → Option Value) (B : Heap) (d i : Nat) (nm : Str) (ps : List Str) : Prop where
  ex : ∃ fd ar kd df, FnOk pr w G.K mg B (L2.CX pr w) (d + 2) (G.adr i) fd ps (spC G P B d i) ∧ ar.map (·.arg) = ps ∧ fd.params = ⟨[], ar, none, [], kd, none, df⟩ ∧ fd.defaults = .none
  m : mg nm = some (.ref (G.adr i))
  kp : PySem.W.keepIn G.K (.ref (G.adr i)) = true
  nd : ps.Nodup

section
variable {G : Gs} {X : Cx} {t : Fm} {Wx : L2.WX} {O : Orc} {P : Prog} {d i : Nat} {nm : Str} {ps : List Str}
theorem lk_nil : PK X [] (LA G X t Wx (wpEs O .nil)) := ⟨fun pos pins s σ H Q I q => (L2.pk_nil (X := X)).run pos pins s σ H Q I (by
  obtain ⟨W, env, h, kp, Xp, rs, w, ca, cx⟩ := q
  simp only [wpEs] at w
  exact ca W [] h [] H (Wle.refl _) rs .nil w)⟩
theorem lk_cons {c : CE} {cs : CEs} {e : Expr} {n : Option Str} {p : Pos} {es : List Keyword} (he : PE X e (LE G X t Wx (wpE O c))) (hr : PK X es (LA G X t Wx (wpEs O cs))) : PK X (⟨n, e, p⟩ :: es) (LA G X t Wx (wpEs O (.cons c cs))) :=
  ⟨fun pos pins s σ H Q I q => (L2.pk_cons he hr).run pos pins s σ H Q I (by
  obtain ⟨W, env, h, kp, Xp, rs, w, ca, cx⟩ := q
  simp only [wpEs] at w
  refine ⟨W, env, h, _, Xp, rs, w, fun W1 v h1 x H1 le r1 rv q1 => ⟨W1, env, h1, _, Xp, r1, q1, fun W2 vs h2 xs H2 le2 r2 rvs q2 => ?_, cx.mono le⟩, cx⟩
  exact ca W2 (v :: vs) h2 (x :: xs) H2 (le.trans le2) r2 (.cons (rv.mono le2) rvs) q2)⟩
/-- the values are there: the def runs -/
theorem run_def {pins : List (Addr × Obj)} {s : Shared} {σ : L2.St} {H : Hp} {Q : VK} {W : Wd} {env : Env} {h : Hea} {Qp : KQ} {Xp : KX} {us ws : List Value} {xs : List V} {vs zs : List PV} {ks : List Str} {perm : List Nat} {n : Nat}
    (D : DefOk G P X.prog X.w X.mg X.base d i nm ps) (hK : X.K = G.K) (hr : Room (d + 2) X.A) (tk : Takes X Wx) (ok : kwOk ps n ks perm = true) (Fo : FmOk X t) (I : Inv X pins σ H s) (r : RS G X t W env h σ H) (rv : RVs G.adr G.K W vs xs) (ru : L2.Vals xs (us ++ ws)) (hu : us.length = n) (hw : ws.length = ks.length)
    (ha : arrange vs perm = some zs) (cq : CQ G X t W env σ Qp Q) (cx : CX G X t Wx W env σ Xp) (q : (orc P d).call i zs h Qp Xp) : wpAny (model X.prog X.w) X.A (call (.ref (G.adr i)) us (ks.zip ws)) (EP X pins σ Q) X.xe s := by
  obtain ⟨fd, ar, kd, df, F, e, hp, hd⟩ := D.ex
  rw [← hK] at F
  subst e
  refine wpAny_call (codeAny_mono (run_call (us := pick .none (us ++ ws) perm) (xs := pick .non xs perm) (vs := zs) F hr ?_ Fo I tk r (rvs_pick ha rv) (vals_pick ru perm) cq cx q) fun r s' hq => ?_)
  · exact PySem.BindsTo.of_eq (bind_kw hp hd ok hu hw)
  · cases r with
    | error e => exact hq
    | ok fl =>
      cases fl with
      | ret u => exact hq
      | next => exact False.elim hq
      | brk => exact False.elim hq
      | cont => exact False.elim hq
theorem vals_app : ∀ {xs ys : List V} {us ws : List Value}, L2.Vals xs us → L2.Vals ys ws → L2.Vals (xs ++ ys) (us ++ ws)
  | _, _, _, _, .nil, s => s
  | _, _, _, _, .cons r t, s => .cons r (vals_app t s)
/-- f(e, .., k = v, ..) -/
theorem le_call {args kws : CEs} {es : List Expr} {kw : List Keyword} {ks : List Str} {perm : List Nat} {p pos : Pos} (D : DefOk G P X.prog X.w X.mg X.base d i nm ps) (hK : X.K = G.K) (hr : Room (d + 2) X.A) (tk : Takes X Wx) (hO : O.call = (orc P d).call)
    (Fo : FmOk X t) (hg : L2.Gl X nm) (hdb : (nm == ("__debug__" : Str)) = false) (ok : kwOk ps args.len ks perm = true) (hkn : kwNames kw = some ks) (hkl : kws.len = ks.length) (hst : noStars es = true) (h0 : es = [] → args = .nil) (ha : PA X es (LA G X t Wx (wpEs O args))) (hkw : PK X kw (LA G X t Wx (wpEs O kws))) :
    PE X (.Call (.Name nm p) es kw pos) (LE G X t Wx (wpE O (.call i args kws perm))) := by
  refine ⟨fun pins s σ H Q I q => ?_⟩
  obtain ⟨W, env, h, Qp, Xp, rs, w, cq, cx⟩ := q
  have kp : PySem.W.keepIn X.K (.ref (G.adr i)) = true := by rw [hK]; exact D.kp
  obtain ⟨k1, k2, k3⟩ := kw_facts (env := X.env) (pos := pos) hkn
  simp only [wpE] at w
  refine wpAny_Call_Name_kw (L2.ld_glob I hg D.m ?_ hdb)
  -- the keywords' values, then the call
  have fin : ∀ {us : List Value} {s1 : Shared} {xs : List V} {H1 : Hp} {vs : List PV} {h1 : Hea} {W1 : Wd}, Inv X pins σ H1 s1 → L2.Vals xs us → RS G X t W1 env h1 σ H1 → Wle W W1 → RVs G.adr G.K W1 vs xs →
      (vs.length = args.len ∧ wpEs O kws env h1 (fun us h2 => us.length = kws.len ∧ match arrange (vs ++ us) perm with
        | some ws => O.call i ws h2 Qp Xp
        | none => False) Xp) →
      wpAny (model X.prog X.w) X.A (evalAll ((backToKw pos (keywordEach kw X.env)).map (·.2))) (fun ws s₂ => X.K.In s₂.heap ∧ wpAny (model X.prog X.w) X.A (call (.ref (G.adr i)) ([] ++ us) (((backToKw pos (keywordEach kw X.env)).filterMap (·.1)).zip ws)) (EP X pins σ Q) X.xe s₂) X.xe s1 := by
    intro us s1 xs H1 vs h1 W1 I1 ru r1 le rv w1
    obtain ⟨hl, w1⟩ := w1
    refine L2.thn (hkw.run pos pins s1 σ H1 (fun zs H2 => ∃ W2 vs2 h2, Wle W1 W2 ∧ RS G X t W2 env h2 σ H2 ∧ RVs G.adr G.K W2 vs2 zs ∧ (vs2.length = kws.len ∧ match arrange (vs ++ vs2) perm with
        | some ws => O.call i ws h2 Qp Xp
        | none => False)) I1 ⟨W1, env, h1, _, Xp, r1, w1, fun W2 vs2 h2 zs H2 le2 r2 rv2 q2 => ⟨W2, vs2, h2, le2, r2, rv2, q2⟩, cx.mono le⟩) fun ws s2 ⟨zs, H2, I2, rz, W2, vs2, h2, le2, r2, rv2, hl2, q2⟩ => ⟨I2.kIn, ?_⟩
    rw [k2, List.nil_append]
    split at q2
    · rename_i us' e
      rw [hO] at q2
      exact run_def D hK hr tk ok Fo I2 r2 ((rv.mono le2).append rv2) (vals_app ru rz) (by rw [← ru.length, ← rv.length, hl]) (by rw [← rz.length, ← rv2.length, hl2, hkl]) e ((cq.mono le).mono le2) ((cx.mono le).mono le2) q2
    · exact q2.elim
  cases es with
  | nil =>
    -- no positional values
    refine PySem.W.callWith_KW0 (h₀ := X.base) I.ok.mod.kin kp k1 ?_ (by rw [k3]; rfl)
    rw [h0 rfl] at w fin
    simp only [wpEs] at w
    exact fin I .nil rs (Wle.refl _) .nil w
  | cons e es =>
    simp only [noStars, List.all_cons, Bool.and_eq_true, Bool.not_eq_true'] at hst
    refine PySem.W.callWith_KW (h₀ := X.base) I.ok.mod.kin kp k1 ?_ (by rw [k3, star_any (by simp only [noStars, List.all_cons, Bool.and_eq_true, Bool.not_eq_true']; exact hst)]; rfl) (star_cons hst.1)
    refine L2.thn (ha.run pos pins s σ H (fun xs H1 => ∃ W1 vs h1, Wle W W1 ∧ RS G X t W1 env h1 σ H1 ∧ RVs G.adr G.K W1 vs xs ∧ (vs.length = args.len ∧ wpEs O kws env h1 (fun us h2 => us.length = kws.len ∧ match arrange (vs ++ us) perm with
        | some ws => O.call i ws h2 Qp Xp
        | none => False) Xp)) I ⟨W, env, h, _, Xp, rs, w, fun W1 vs h1 xs H1 le r1 rv q1 => ⟨W1, vs, h1, le, r1, rv, q1⟩, cx⟩) fun us s1 ⟨xs, H1, I1, ru, W1, vs, h1, le, r1, rv, q1⟩ => ?_
    exact fin I1 ru r1 le rv q1
end
end PC

set_option Elab.async false
set_option maxRecDepth 100000
/-! PC11: a frame's end. -/
namespace PC
open PySem PySem.Spec PyProof.Rows
open L2 (V HO Hp upd upd_same upd_ne Rd SqL SqT Cx Inv TE TT TA TS VK PE PT PW PA PK R2 OpR CallR Un UB HOk ObjOk Env0 FnOk Sp XK Room frs CR EP Takes)

/-- cells that a lambda's frame takes over -/
def Wd.off (cs : List Addr) (W : Wd) : Wd := { W with co := fun c => if c ∈ cs then none else W.co c }
def offH (cs : List Addr) (H : Hp) : Hp := fun c => if c ∈ cs then none else H c
theorem off_nil (W : Wd) : W.off [] = W := by simp [Wd.off]
theorem offH_nil (H : Hp) : offH [] H = H := by funext c; simp [offH]
theorem offH_none {cs : List Addr} {H : Hp} {c : Addr} (e : H c = none) : offH cs H c = none := by unfold offH; split <;> first | rfl | exact e
theorem offH_some {cs : List Addr} {H : Hp} {c : Addr} {u : HO} (e : offH cs H c = some u) : H c = some u ∧ c ∉ cs := by
  unfold offH at e; split at e
  · cases e
  · exact ⟨e, by assumption⟩
theorem offH_out {cs : List Addr} {H : Hp} {c : Addr} (n : c ∉ cs) : offH cs H c = H c := if_neg n

section
variable {G : Gs} {X : Cx} {t : Fm} {Wx : L2.WX} {W W0 W1 : Wd} {env : Env} {h h0 h1 h2 : Hea} {σ : L2.St} {H H0 : Hp} {pins : List (Addr × Obj)} {s s' : Shared} {cs : List Addr}
/-- how a frame began -/
structure Began (X : Cx) (t : Fm) (W0 : Wd) (H0 : Hp) (cs : List Addr) : Prop where
  w0 : t.W0 = W0.off cs
  h0 : X.H_0 = offH cs H0
  ex : X.ex = []
  bk : t.bk = false
  taken : ∀ c ∈ cs, ∃ ob v, W0.cv c = some v ∧ W0.co c = some ob ∧ H0 c = some (CellX c ob) ∧ X.s_0.heap.get? c = some ob ∧ c ∉ X.fs
  cells : ∀ y c, X.env.cells.lookup y = some c → c ∈ cs ∨ X.s_0.heap.objs.size ≤ c
theorem Began.le (b : Began X t W0 H0 cs) (I : Inv X pins σ H s) (r : RS G X t W env h σ H) : Wle W0 (W.told s.heap H) ∧ NewF W0 (W.told s.heap H) := by
  have hex : ∀ c, c ∉ X.ex := fun c z => by rw [b.ex] at z; cases z
  have l0 := r.le0
  rw [b.w0] at l0
  have l1 := told_le r I
  refine ⟨⟨fun n a e => l1.rho n a (l0.rho n a e), fun n a e => l1.fz n a (l0.fz n a e), fun n a e => l1.fn n a (l0.fn n a e), fun n a e => l1.cv n a (l0.cv n a e), fun c vv ob hv e => ?_, fun n a e => l1.hid n a (l0.hid n a e)⟩, fun a ci e => ?_⟩
  · by_cases hc : c ∈ cs
    · obtain ⟨ob', v, e1, e2, _, e3, e4⟩ := b.taken c hc
      rw [e2] at e; cases e
      have n0 : X.H_0 c = none := by rw [b.h0]; exact if_pos hc
      have nH : H c = none := I.base.free c ob e3 n0 (hex c)
      have g := I.base.keep c ob e3 n0 e4 (hex c)
      rw [told_at nH (l0.cv c v e1)]
      exact g
    · exact l1.co c vv ob (l0.cv c vv hv) (l0.co c vv ob hv (by show (if c ∈ cs then none else W0.co c) = some ob; rw [if_neg hc]; exact e))
  · have z := (r.tk a ci e).2
    rw [b.w0] at z
    exact z
/-- what a frame's end has kept -/
theorem Began.un (b : Began X t W0 H0 cs) (I : Inv X pins σ H s) (r : RS G X t W env h σ H) : Un X.fs [] H0 (trk W s.heap H) X.s_0.heap s.heap := by
  have u := I.base
  rw [b.h0, b.ex] at u
  have hex : ∀ c : Addr, c ∉ ([] : List Addr) := fun c z => by cases z
  have up : ∀ (c : Addr) (o : HO), H0 c = some o → (∀ ob, o ≠ CellX c ob) → offH cs H0 c = some o := fun c o e n => by
    rw [offH_out (fun z => ?_)]; exact e
    obtain ⟨ob, v, _, _, e1, _⟩ := b.taken c z
    rw [e] at e1; cases e1
    exact n ob rfl
  refine ⟨fun c o e n => u.keep c o e (offH_none n), fun c o e n => u.slot c o e (offH_none n), fun c o e n hx => ?_, u.there, fun c xs e => ?_, fun c o xs e => ?_, fun c ps e => ?_⟩
  · have nH := u.free c o e (offH_none n) hx
    cases q : W.cv c with
    | none => exact trk_none nH q
    | some v =>
      rcases (r.cv c v q).2 with ⟨⟨_, y, i, e1, _⟩ | ⟨z, _⟩, _⟩ | ⟨_, _, _, z, _⟩
      · rcases b.cells y c e1 with hc | hc
        · obtain ⟨ob, v, _, _, e2, _⟩ := b.taken c hc
          rw [n] at e2; cases e2
        · exact absurd (Nat.lt_of_lt_of_le (Heap.lt_size e) hc) (Nat.lt_irrefl _)
      · rw [b.bk] at z; cases z
      · rw [nH] at z; cases z
  · exact trk_some (u.tups c xs (up c _ e fun ob z => by cases z))
  · exact trk_some (u.frzs c o xs (up c _ e fun ob z => by cases z))
  · obtain ⟨m, q⟩ := u.tbls c ps (up c _ e fun ob z => by cases z)
    exact ⟨m, trk_some q⟩
/-- objects within bounds -/
theorem RO.bnd {o : HObj} {u : HO} {n : Nat} (hn : ∀ m, n ≤ m → W.rho m = none) (r : RO G W o u) : o.bnd n = true := by
  cases o with
  | lst xs => obtain ⟨vs, _, q⟩ := r; exact q.bound hn
  | dK ks xs => obtain ⟨vs, _, _, q⟩ := r; exact q.bound hn
  | dead => rfl
theorem RL.bnd {B : Heap} (r : RL G B W h H) {n : Nat} {o : HObj} (e : h[n]? = some o) : o.bnd h.length = true := by
  cases q : o.live with
  | false => cases o <;> first | rfl | cases q
  | true =>
    obtain ⟨a, u, _, _, h3⟩ := r.live n o e q
    exact h3.bnd r.new
def Wd.cut (n : Nat) (W : Wd) : Wd := { W with rho := fun m => if m < n then W.rho m else none }
theorem cut_val {n : Nat} {v : PV} {x : V} (r : RV G.adr G.K W v x) (b : v.bnd n = true) : RV G.adr G.K (W.cut n) v x :=
  RV.low (W := W) (W' := W.cut n) (n := n) (fun m a hm e => by show (if m < n then W.rho m else none) = some a; rw [if_pos hm]; exact e) (fun _ _ e => e) (fun _ _ e => e) (fun _ _ e => e) r b
theorem cut_vals {n : Nat} {v : List PV} {x : List V} (r : RVs G.adr G.K W v x) (b : bndL n v = true) : RVs G.adr G.K (W.cut n) v x :=
  RVs.low (W := W) (W' := W.cut n) (n := n) (fun m a hm e => by show (if m < n then W.rho m else none) = some a; rw [if_pos hm]; exact e) (fun _ _ e => e) (fun _ _ e => e) (fun _ _ e => e) r b
theorem cut_le {n : Nat} (l : Wle W0 W) (hn : ∀ m, n ≤ m → W0.rho m = none) : Wle W0 (W.cut n) :=
  ⟨fun m a e => (by
    show (if m < n then W.rho m else none) = some a
    by_cases q : m < n
    · rw [if_pos q]; exact l.rho m a e
    · rw [hn m (by omega)] at e; cases e), l.fz, l.fn, l.cv, l.co, l.hid⟩
theorem RL.cut {B : Heap} (r : RL G B W h1 H) (h0 : Hea) (hb : ∀ (n : Nat) (o : HObj), (h1.take h0.length)[n]? = some o → o.bnd h0.length = true) : RL G B (W.cut h0.length) (h1.take h0.length) H := by
  have old : ∀ {n : Nat} {o : HObj}, (h1.take h0.length)[n]? = some o → n < h0.length ∧ h1[n]? = some o := fun {n o} e => by
    by_cases q : n < h0.length
    · rw [List.getElem?_take_of_lt q] at e; exact ⟨q, e⟩
    · rw [List.getElem?_eq_none (by rw [List.length_take]; omega)] at e; cases e
  have rh : ∀ {n : Nat} {a : Addr}, (W.cut h0.length).rho n = some a → W.rho n = some a := fun {n a} e => by
    have e : (if n < h0.length then W.rho n else none) = some a := e
    split at e
    · exact e
    · cases e
  refine ⟨r.fz, fun n o e l => ?_, fun n m o o' a g1 l1 g2 l2 e1 e2 => r.inj n m o o' a (old g1).2 l1 (old g2).2 l2 (rh e1) (rh e2), fun n o a e l q => r.dis n o a (old e).2 l (rh q), fun n hn => ?_, r.tabs, r.fn, r.cv, r.tk, fun a vs e => ⟨(r.hd a vs e).1, (r.hd a vs e).2.1, fun n o g l z => (r.hd a vs e).2.2 n o (old g).2 l (rh z)⟩⟩
  · obtain ⟨a, u, e1, e2, e3⟩ := r.live n o (old e).2 l
    refine ⟨a, u, by show (if n < h0.length then W.rho n else none) = some a; rw [if_pos (old e).1]; exact e1, e2, ?_⟩
    have b := hb n o e
    cases o with
    | lst xs => obtain ⟨vs, z, q⟩ := e3; exact ⟨vs, z, cut_vals q b⟩
    | dK ks xs => obtain ⟨vs, z, k, q⟩ := e3; exact ⟨vs, z, k, cut_vals q b⟩
    | dead => trivial
  · show (if n < h0.length then W.rho n else none) = none
    split
    · rw [List.length_take] at hn
      exact r.new n (by omega)
    · rfl
/-- what is forgotten behind a call -/
theorem trim_world {B : Heap} {v : PV} (r : RL G B W h1 H) (l : Wle W0 W) (nf : NewF W0 W) (hn : ∀ m, h0.length ≤ m → W0.rho m = none) (hb : ∀ (n : Nat) (o : HObj), h0[n]? = some o → o.bnd h0.length = true) (tr : Trim h0 h1 v h2) :
    ∃ W2, Wle W0 W2 ∧ NewF W0 W2 ∧ RL G B W2 h2 H ∧ ∀ {x : V}, RV G.adr G.K W v x → RV G.adr G.K W2 v x := by
  rcases tr with rfl | ⟨rfl, b1, b2⟩
  · exact ⟨W, l, nf, r, id⟩
  · exact ⟨W.cut h0.length, cut_le l hn, nf, r.cut h0 fun n o e => (b2 n o e).elim (hb n o) id, fun q => cut_val q b1⟩
/-- a frame ends by a value -/
theorem Began.ret {Q : VK} {Qp : KQ} {u : Value} {x : V} {v : PV} (b : Began X t W0 H0 cs) (I : Inv X pins σ H s) (r : RS G X t W env h σ H) (hn : ∀ m, h0.length ≤ m → W0.rho m = none) (hb : ∀ (n : Nat) (o : HObj), h0[n]? = some o → o.bnd h0.length = true)
    (rv : RV G.adr G.K W v x) (ru : L2.RelV x u) (q : ends h0 Qp v h) (cq : ∀ x H', PQ G X.base W0 Qp x H' → Q x H') : L2.CE X.outer X.prog X.w H0 X.s_0 Q u s := by
  obtain ⟨h2, tr, q⟩ := q
  obtain ⟨l, nf⟩ := b.le I r
  obtain ⟨W2, l2, nf2, rl, up⟩ := trim_world (r.toCall I) l nf hn hb tr
  exact ⟨x, trk W s.heap H, I.os, I.bare, b.un I r, hok_trk I.hok, ru, cq _ _ ⟨W2, v, h2, l2, nf2, rl, up (rv.mono (told_le r I)), q⟩⟩
theorem RX.trk {ex : Exc} {cls : Value} {dd : Option Addr} (h : ∀ {v : PV} {x : V}, ex.fld = some v → RV G.adr G.K W v x → RV G.adr G.K W1 v x) {hp : Heap} (q : RX G W ex cls dd H) : RX G W1 ex cls dd (trk W hp H) := by
  obtain ⟨e, q⟩ := q
  refine ⟨e, ?_⟩
  cases hf : ex.fld with
  | none => rw [hf] at q; exact q
  | some v =>
    rw [hf] at q
    obtain ⟨f, d, x, h1, h2, h3, h4⟩ := q
    exact ⟨f, d, x, h1, h2, trk_some h3, h hf h4⟩
/-- .. by an exception -/
theorem Began.leave {E : XK} {E₁ : Value → Shared → Prop} {Xp : KX} {u : Value} (b : Began X t W0 H0 cs) (hs : X.stack = X.env :: X.outer) (hf : X.env.frame = some X.env.locals) (hn : ∀ m, h0.length ≤ m → W0.rho m = none) (hb : ∀ (n : Nat) (o : HObj), h0[n]? = some o → o.bnd h0.length = true)
    (cx : ∀ c dd H', PX G X.base W0 Xp c dd H' → E c dd H') (x : L2.XE X (fun cls d σ H => ∃ W env h ex, RS G X t W env h σ H ∧ RX G W ex cls d H ∧ endsX h0 Xp ex h) u s') :
    wpAny (model X.prog X.w) X.A (leaving X.env u) (fun _ s'' => L2.CX X.prog X.w X.outer H0 X.s_0 E u s'') E₁ s' := by
  obtain ⟨a, B, sI, pins, σ, H, cls, d, rfl, I, nb, up, sky, na, os, ag, W, env, h, ex, r, rx, h2, tr, q⟩ := x
  have frX : X.A.frames = some (X.env :: X.outer) := by rw [I.ok.frames, hs]
  have nst : ∀ c ob, X.s_0.heap.get? c = some ob → c ∉ X.fs → c ∉ frs X.stack := fun c ob e hc hm => by
    rcases List.mem_cons.mp (I.stkSub c hm) with z | z
    · rw [z] at e
      exact absurd (Nat.lt_of_lt_of_le (Heap.lt_size e) I.ok.above) (Nat.lt_irrefl _)
    · exact hc z
  obtain ⟨l, nf⟩ := b.le I r
  obtain ⟨W2, l2, nf2, rl, upv⟩ := trim_world (r.toCall I) l nf hn hb tr
  have un := b.un I r
  have okB : HOk X.prog X.w (trk W sI.heap H) B := fun c o e => by
    rcases trk_of e with e | ⟨n, v, ob, e1, g, rfl⟩
    · exact (I.inGround nb c o e).stay (fun _ _ _ z => z) (fun _ z => trk_some z) fun _ _ z => trk_some z
    · refine cellX_ok (nb c ob g ?_)
      rcases (r.cv c v e1).2 with ⟨ca, _⟩ | ⟨_, _, _, z, _⟩
      · exact (cellA_at I ca).2.1
      · rw [n] at z; cases z
  have na' : trk W sI.heap H a = none := by
    cases z : W.cv a with
    | none => exact trk_none na z
    | some v =>
      -- the exception's object is no cell
      exfalso
      rcases (r.cv a v z).2 with ⟨ca, _⟩ | ⟨_, _, _, z2, _⟩
      · obtain ⟨_, nfr, ob, u, g, dd, _⟩ := cellA_at I ca
        have gB := nb a ob g nfr
        rcases sky with ⟨_, hne, _⟩ | fl | hd
        · rw [gB] at hne; cases hne
        · have hne := fl.2.1
          rw [gB] at hne; cases hne
        · have hne := hd.2.1
          rw [gB] at hne; cases hne
      · rw [na] at z2; cases z2
  have hE : E cls d (trk W sI.heap H) := by
    refine cx _ _ _ ⟨W2, ex, h2, l2, nf2, rl, rx.trk fun {v x} hv rr => ?_, q⟩
    have z := upv (x := x)
    rw [hv] at z
    exact z (rr.mono (told_le r I))
  have done : ∀ h', HandSPX.FlyingZ B X.outer a (L2.Zc cls d) h' → s'.heap.UpToSlots h' → L2.CX X.prog X.w X.outer H0 X.s_0 E (.ref a) { s' with heap := h' } := fun h' fl up' => by
    refine ⟨a, B, trk W sI.heap H, cls, d, rfl, fl, okB, ⟨fun c o e n hc => ?_, fun c o e hc => ?_, fun c o e n => un.free c o e n (by simp), fun c o e hc => ?_, un.tups, un.frzs, un.tbls⟩, na', os.trans I.os, ag, hE⟩
    · exact nb c o (un.keep c o e n hc (by simp)) (nst c o e hc)
    · obtain ⟨_, o₀, e₀, hnf⟩ := I.ok.funs.mem hc
      rw [e] at e₀; cases e₀
      have nH0 : H0 c = none := by
        have z := I.ok.frf c hc
        rw [b.h0] at z
        unfold offH at z
        split at z
        · rename_i hcs
          obtain ⟨_, _, _, _, _, _, w⟩ := b.taken c hcs
          exact (w hc).elim
        · exact z
      obtain ⟨s1, e1⟩ := un.slot c o e nH0 hc (by simp)
      obtain ⟨s2, e2⟩ := up c _ e1 hnf
      obtain ⟨s3, e3⟩ := up' c _ e2 hnf
      exact ⟨s3, e3⟩
    · obtain ⟨o', e1⟩ := un.there c o e (by simp)
      exact ⟨o', nb c o' e1 (nst c o e hc)⟩
  rw [hs] at sky
  rcases sky with ⟨hB, hne, hl, oe, vs, he, hz, hd, h1⟩ | fl | hd
  · exact HandSPX.leaving_firstZ L2.Zc.steady frX hl hf he hB hne hd h1 hz done
  · exact HandSPX.leaves_onZ L2.Zc.steady frX hf fl done
  · exact HandSPX.leaves_heldZ hf hd done
end
end PC

set_option Elab.async false
set_option maxRecDepth 100000
/-! PC12: statements. -/
namespace PC
open PySem PySem.Spec PyProof.Rows
open L2 (V HO Hp upd upd_same upd_ne Rd SqL SqT Cx Inv TE TT TA TS TG VK PE PT PW PA PK PS PSs PG R2 OpR CallR Un UB HOk ObjOk Env0 FnOk Sp XK Room frs CR EP Takes Ends)

/-- W' knows what W did, but for lambdas of the level k -/
structure Wlk (k : Nat) (W W' : Wd) : Prop where
  rho : ∀ n a, W.rho n = some a → W'.rho n = some a
  fz : ∀ a o, W.fz a = some o → W'.fz a = some o
  fn : ∀ a o, W.fn a = some o → o.tok ≠ k → W'.fn a = some o ∧ ∀ c v, c ∈ o.cs → W.cv c = some v → W'.cv c = some v
  hid : ∀ a o, W.hid a = some o → W'.hid a = some o
theorem Wle.lk {W W' : Wd} {k : Nat} (l : Wle W W') : Wlk k W W' := ⟨l.rho, l.fz, fun a o e _ => ⟨l.fn a o e, fun c v _ h => l.cv c v h⟩, l.hid⟩
theorem Wlk.refl (k : Nat) (W : Wd) : Wlk k W W := (Wle.refl W).lk
theorem Wlk.trans {k : Nat} {W W1 W2 : Wd} (a : Wlk k W W1) (b : Wlk k W1 W2) : Wlk k W W2 :=
  ⟨fun n x e => b.rho n x (a.rho n x e), fun n x e => b.fz n x (a.fz n x e), fun x o e n => by
    obtain ⟨e1, h1⟩ := a.fn x o e n
    obtain ⟨e2, h2⟩ := b.fn x o e1 n
    exact ⟨e2, fun c v hc hv => h2 c v hc (h1 c v hc hv)⟩, fun x o e => b.hid x o (a.hid x o e)⟩
/-- .. in the frame t -/
structure Wlq (t : Fm) (W W' : Wd) : Prop where
  lk : Wlk t.t W W'
  le : t.st = false → Wle W W'
theorem Wle.lq {W W' : Wd} {t : Fm} (l : Wle W W') : Wlq t W W' := ⟨l.lk, fun _ => l⟩
theorem Wlq.refl (t : Fm) (W : Wd) : Wlq t W W := (Wle.refl W).lq
theorem Wlq.trans {t : Fm} {W W1 W2 : Wd} (a : Wlq t W W1) (b : Wlq t W1 W2) : Wlq t W W2 := ⟨a.lk.trans b.lk, fun z => (a.le z).trans (b.le z)⟩
section
variable {adr : Nat → Addr} {K : Frag} {k : Nat} {W W' : Wd}
theorem RV.lk (l : Wlk k W W') {v : PV} {x : V} (r : RV adr K W v x) (b : v.hasTok k = false) : RV adr K W' v x := RV.kill l.rho l.fz l.fn r b
theorem RV.lq {t : Fm} (l : Wlq t W W') {v : PV} {x : V} (r : RV adr K W v x) (b : (t.st && v.hasTok t.t) = false) : RV adr K W' v x := by
  cases q : t.st with
  | false => exact r.mono (l.le q)
  | true => rw [q] at b; exact r.lk l.lk b
theorem RVs.lk (l : Wlk k W W') {v : List PV} {x : List V} (r : RVs adr K W v x) (b : hasTokL k v = false) : RVs adr K W' v x := RVs.kill l.rho l.fz l.fn r b
theorem RVs.lq {t : Fm} (l : Wlq t W W') {v : List PV} {x : List V} (r : RVs adr K W v x) (b : (t.st && hasTokL t.t v) = false) : RVs adr K W' v x := by
  cases q : t.st with
  | false => exact r.mono (l.le q)
  | true => rw [q] at b; exact r.lk l.lk b
end
section
variable (G : Gs) (X : Cx) (t : Fm) (Wx : L2.WX)
/-- what follows a statement -/
structure CSt (W : Wd) (K : KS) (D : Ends) : Prop where
  nx : ∀ W' env h σ H, Wlq t W W' → RS G X t W' env h σ H → K.nx env h → D.nx σ H
  rt : ∀ W' env h σ H v x, Wlq t W W' → RS G X t W' env h σ H → RV G.adr G.K W' v x → K.rt v h → D.rt x H
  xc : ∀ W' env h σ H ex cls d, Wlq t W W' → RS G X t W' env h σ H → RX G W' ex cls d H → K.xc ex env h → Wx cls d σ H
  bk : ∀ W' env h σ H, Wlq t W W' → RS G X t W' env h σ H → K.bk env h → D.bk σ H
  ct : ∀ W' env h σ H, Wlq t W W' → RS G X t W' env h σ H → K.ct env h → D.ct σ H
abbrev WS := Env → Hea → KS → Prop
def LS (w : WS) : TS := fun D σ H => ∃ W env h K, RS G X t W env h σ H ∧ w env h K ∧ CSt G X t Wx W K D
abbrev WG := PV → Env → Hea → (Env → Hea → Prop) → Prop
def LG (sl : List Nat) (w : WG) : TG := fun x σ H Q => ∃ W v env h k, RS G X t W env h σ H ∧ RV G.adr G.K W v x ∧ w v env h k ∧ ∀ W' env' h' σ' H', Wlq t W W' → RS G X t W' env' h' σ' H' → (∀ j, j ∉ sl → σ'[j]? = σ[j]?) → k env' h' → Q σ' H'
end
theorem ps_imp {X : Cx} {e : Stmt} {t t' : TS} (h : PS X e t) (i : ∀ D σ H, t' D σ H → t D σ H) : PS X e t' := ⟨fun pins s σ H Q I q => h.run pins s σ H Q I (i Q σ H q)⟩
theorem pss_imp {X : Cx} {e : List Stmt} {t t' : TS} (h : PSs X e t) (i : ∀ D σ H, t' D σ H → t D σ H) : PSs X e t' := ⟨fun pins s σ H Q I q => h.run pins s σ H Q I (i Q σ H q)⟩
theorem pg_imp {X : Cx} {e : Expr} {t t' : TG} (h : PG X e t) (i : ∀ v σ H Q, t' v σ H Q → t v σ H Q) : PG X e t' := ⟨fun pins s σ H v u Q I r q => h.run pins s σ H v u Q I r (i v σ H Q q)⟩
section
variable {G : Gs} {X : Cx} {t : Fm} {Wx : L2.WX} {O : Orc} {W W' : Wd} {env : Env} {h : Hea} {σ : L2.St} {H : Hp} {K : KS} {D : Ends} {pos : Pos}
theorem CSt.mono (c : CSt G X t Wx W K D) (l : Wlq t W W') : CSt G X t Wx W' K D :=
  ⟨fun W2 e h σ H a => c.nx W2 e h σ H (l.trans a), fun W2 e h σ H v x a => c.rt W2 e h σ H v x (l.trans a), fun W2 e h σ H ex cl d a => c.xc W2 e h σ H ex cl d (l.trans a), fun W2 e h σ H a => c.bk W2 e h σ H (l.trans a), fun W2 e h σ H a => c.ct W2 e h σ H (l.trans a)⟩
theorem CSt.cx (c : CSt G X t Wx W K D) : CX G X t Wx W env σ (fun ex h1 => K.xc ex env h1) := fun W' ex h' cls d H' le r rx q => c.xc W' env h' σ H' ex cls d le.lq r rx q
theorem ls_nil : PSs X [] (LS G X t Wx (wpSs O .nil)) := pss_imp L2.pss_nil fun D σ H q => by
  obtain ⟨W, env, h, K, rs, w, c⟩ := q
  simp only [wpSs] at w
  exact c.nx W env h σ H (.refl _ _) rs w
theorem ls_cons {a : CS} {b : CSs} {st : Stmt} {rest : List Stmt} (h1 : PS X st (LS G X t Wx (wpS O a))) (h2 : PSs X rest (LS G X t Wx (wpSs O b))) : PSs X (st :: rest) (LS G X t Wx (wpSs O (.cons a b))) := pss_imp (L2.pss_cons h1 h2) fun D σ H q => by
  obtain ⟨W, env, h, K, rs, w, c⟩ := q
  simp only [wpSs] at w
  exact ⟨W, env, h, _, rs, w, ⟨fun W' e h' σ' H' l r q => ⟨W', e, h', K, r, q, c.mono l⟩, c.rt, c.xc, c.bk, c.ct⟩⟩
theorem ls_pass : PS X (.Pass pos) (LS G X t Wx (wpS O .pass)) := ps_imp L2.ps_pass fun D σ H q => by
  obtain ⟨W, env, h, K, rs, w, c⟩ := q
  simp only [wpS] at w
  exact c.nx W env h σ H (.refl _ _) rs w
theorem ls_doc {x j pos'} : PS X (.Expr (.Constant (.str x) j pos) pos') (LS G X t Wx (wpS O .pass)) := ps_imp L2.ps_doc fun D σ H q => by
  obtain ⟨W, env, h, K, rs, w, c⟩ := q
  simp only [wpS] at w
  exact c.nx W env h σ H (.refl _ _) rs w
theorem ls_stuck {st : Stmt} : PS X st (LS G X t Wx (wpS O .stuck)) := ⟨fun pins s σ H Q I q => by
  obtain ⟨W, env, h, K, rs, w, c⟩ := q
  simp only [wpS] at w⟩
theorem ls_ret {a : CE} {e : Expr} (he : PE X e (LE G X t Wx (wpE O a))) : PS X (.Return (some e) pos) (LS G X t Wx (wpS O (.ret a))) := ps_imp (L2.ps_ret he) fun D σ H q => by
  obtain ⟨W, env, h, K, rs, w, c⟩ := q
  simp only [wpS] at w
  exact ⟨W, env, h, _, _, rs, w, fun W' v h' x H' le r rv q => c.rt W' env h' σ H' v x le.lq r rv q, c.cx⟩
theorem ls_retN : PS X (.Return none pos) (LS G X t Wx (wpS O .retN)) := ps_imp L2.ps_retN fun D σ H q => by
  obtain ⟨W, env, h, K, rs, w, c⟩ := q
  simp only [wpS] at w
  exact c.rt W env h σ H .non .non (.refl _ _) rs .non w
theorem ls_expr {a : CE} {e : Expr} (he : PE X e (LE G X t Wx (wpE O a))) (hs : swapsWith e none pos.line X.env = pure false) : PS X (.Expr e pos) (LS G X t Wx (wpS O (.expr a))) := ps_imp (L2.ps_expr he hs) fun D σ H q => by
  obtain ⟨W, env, h, K, rs, w, c⟩ := q
  simp only [wpS] at w
  exact ⟨W, env, h, _, _, rs, w, fun W' v h' x H' le r rv q => c.nx W' env h' σ H' le.lq r q, c.cx⟩
theorem ls_if {a : CE} {b1 b2 : CSs} {e : Expr} {s1 s2 : List Stmt} (hc : PT X e (LT G X t Wx (wpB O a))) (ha : PSs X s1 (LS G X t Wx (wpSs O b1))) (hb : PSs X s2 (LS G X t Wx (wpSs O b2))) : PS X (.If e s1 s2 pos) (LS G X t Wx (wpS O (.ifs a b1 b2))) :=
  ps_imp (L2.ps_if hc ha hb) fun D σ H q => by
  obtain ⟨W, env, h, K, rs, w, c⟩ := q
  simp only [wpS] at w
  refine ⟨W, env, h, _, _, rs, w, fun W' b h' H' le r q => ?_, c.cx⟩
  cases b with
  | true => exact ⟨W', env, h', K, r, q, c.mono le.lq⟩
  | false => exact ⟨W', env, h', K, r, q, c.mono le.lq⟩
theorem ls_while {a : CE} {b : CSs} {e : Expr} {body : List Stmt} (hp : PassesOwn (model X.prog X.w) X.A X.env X.xe) (hc : PT X e (LT G X t Wx (wpB O a))) (hb : PSs X body (LS G X t Wx (wpSs O b))) : PS X (.While e body [] pos) (LS G X t Wx (wpS O (.whl a b))) :=
  ps_imp (L2.ps_while hp hc hb) fun D σ H q => by
  obtain ⟨W, env, h, K, rs, w, c⟩ := q
  simp only [wpS] at w
  obtain ⟨n, w⟩ := w
  refine ⟨fun m σ H => ∃ W1 env1 h1, Wlq t W W1 ∧ RS G X t W1 env1 h1 σ H ∧ wpWhile (wpB O a) (fun e h1 K1 => wpSs O b e h1 K1) m env1 h1 K, ⟨n, W, env, h, .refl _ _, rs, w⟩, ?_⟩
  rintro m σ H ⟨W1, env1, h1, l1, r1, w1⟩
  cases m with
  | zero => exact w1.elim
  | succ m =>
    refine ⟨W1, env1, h1, _, _, r1, w1, fun W' b h' H' le r q => ?_, (c.mono l1).cx⟩
    have l2 : Wlq t W W' := l1.trans le.lq
    cases b with
    | false => exact c.nx W' env1 h' σ H' l2 r q
    | true =>
      refine ⟨fun σ H => ∃ W2 env2 h2, Wlq t W W2 ∧ RS G X t W2 env2 h2 σ H ∧ wpWhile (wpB O a) (fun e h1 K1 => wpSs O b e h1 K1) m env2 h2 K, fun σ' H' z => ⟨m, Nat.lt_succ_self m, z⟩, W', env1, h', _, r, q, ?_⟩
      exact ⟨fun W2 e2 h2 σ2 H2 l r q => ⟨W2, e2, h2, l2.trans l, r, q⟩, fun W2 e2 h2 σ2 H2 v x l r => c.rt W2 e2 h2 σ2 H2 v x (l2.trans l) r, fun W2 e2 h2 σ2 H2 ex cl d l r => c.xc W2 e2 h2 σ2 H2 ex cl d (l2.trans l) r,
        fun W2 e2 h2 σ2 H2 l r q => c.nx W2 e2 h2 σ2 H2 (l2.trans l) r q, fun W2 e2 h2 σ2 H2 l r q => ⟨W2, e2, h2, l2.trans l, r, q⟩⟩
theorem ls_asg {g : CT} {a : CE} {tg e : Expr} (he : PE X e (LE G X t Wx (wpE O a))) (hg : PG X tg (LG G X t g.slots (wpT O g))) (hs : swapsWithSole [tg] e pos.line X.env = pure false) (hw : swappedStores [tg] e X.env = pure none)
    (h1 : (assignEach [tg] X.env).map (·.2) = [assign tg X.env]) : PS X (.Assign [tg] e pos) (LS G X t Wx (wpS O (.asg g a))) := ps_imp (L2.ps_asg he hg hs hw h1) fun D σ H q => by
  obtain ⟨W, env, h, K, rs, w, c⟩ := q
  simp only [wpS] at w
  exact ⟨W, env, h, _, _, rs, w, fun W' v h' x H' le r rv q => ⟨W', v, env, h', K.nx, r, rv, q, fun W2 e2 h2 σ2 H2 l r _ q => c.nx W2 e2 h2 σ2 H2 (le.lq.trans l) r q⟩, c.cx⟩
end
end PC

set_option Elab.async false
set_option maxRecDepth 100000
/-! PC13: targets. -/
namespace PC
open PySem PySem.Spec PyProof.Rows
open L2 (V HO Hp upd upd_same upd_ne Rd SqL SqT Cx Inv TE TT TA TS TG TGs VK PE PT PW PA PK PS PSs PG PGs R2 OpR CallR Un UB HOk ObjOk Env0 FnOk Sp XK Room frs CR EP Takes Ends)

section
variable {G : Gs} {X : Cx} {t : Fm} {Wx : L2.WX} {O : Orc} {W W' : Wd} {env : Env} {h : Hea} {σ : L2.St} {H : Hp}
theorem get_set {env : Env} {i j : Nat} {v w : PV} (e : get (env.set i (some v)) j = some w) : (j = i ∧ w = v) ∨ (j ≠ i ∧ get env j = some w) := by
  by_cases q : j = i
  · subst q
    by_cases l : j < env.length
    · unfold get at e
      rw [List.getElem?_set_self l] at e
      cases e; exact .inl ⟨rfl, rfl⟩
    · unfold get at e
      rw [List.getElem?_eq_none (by simpa using l)] at e
      cases e
  · unfold get at e
    rw [List.getElem?_set_ne (Ne.symm q)] at e
    exact .inr ⟨q, e⟩
theorem get_lt {env : Env} {i : Nat} {v : PV} (e : get env i = some v) : i < env.length := by
  unfold get at e
  by_cases l : i < env.length
  · exact l
  · rw [List.getElem?_eq_none (by omega)] at e; cases e
/-- a plain name is stored -/
theorem RS.setLoc (r : RS G X t W env h σ H) {i : Nat} {x : Str} {v : PV} {u : V} (hi : X.N[i]? = some x) (hx : X.env.scope.names.lookup x = some .local) (rv : RV G.adr G.K W v u) : RS G X t W (env.set i (some v)) h (σ.set i (some u)) H := by
  refine ⟨⟨r.fz, r.live, r.inj, r.dis, r.new, r.tabs, r.fn, fun c w e => ⟨(r.cv c w e).1, (r.cv c w e).2.imp (fun z => ⟨?_, z.2⟩) id⟩, r.tk, r.hd⟩, ?_, fun j w e => ?_, r.le0, r.lek⟩
  · refine z.1.imp (fun ⟨hm, y, j, h1, h2, h3, h4, h5⟩ => ⟨hm, y, j, h1, h2, h3, ?_, h5⟩) id
    rw [List.getElem?_set_ne]
    · exact h4
    · intro q
      rw [← q, hi] at h3; cases h3
      rcases h2 with k | k <;> (have k' : X.env.scope.names.lookup x = _ := k; rw [hx] at k'; cases k')
  · rw [List.length_set, List.length_set]; exact r.len
  · rcases get_set e with ⟨rfl, rfl⟩ | ⟨q, e⟩
    · refine ⟨u, ?_, rv⟩
      have l : j < σ.length := by
        have z := get_lt e
        rw [List.length_set] at z
        rw [← r.len]; exact z
      rw [List.getElem?_set_self l]
    · obtain ⟨V, e1, r1⟩ := r.env j w e
      exact ⟨V, by rw [List.getElem?_set_ne (Ne.symm q)]; exact e1, r1⟩
open scoped Classical in
/-- the world behind a store to the frame's own cell c -/
noncomputable def killW (t : Fm) (c : Addr) (W : Wd) : Wd := { W with
  fn := fun a => match W.fn a with
    | some ci => if ci.tok = t.t ∧ t.Wk.fn a ≠ some ci then none else some ci
    | none => none
  cv := fun d => if d = c then none else W.cv d }
theorem killW_fn {c a : Addr} {ci : Clo} (e : (killW t c W).fn a = some ci) : W.fn a = some ci ∧ (ci.tok = t.t → t.Wk.fn a = some ci) := by
  unfold killW at e
  simp only at e
  split at e
  · split at e
    · cases e
    · rename_i q n
      cases e
      exact ⟨q, fun z => Classical.byContradiction fun k => n ⟨z, k⟩⟩
  · cases e
theorem killW_of {c a : Addr} {ci : Clo} (e : W.fn a = some ci) (h : ci.tok ≠ t.t ∨ t.Wk.fn a = some ci) : (killW t c W).fn a = some ci := by
  unfold killW
  simp only [e]
  rw [if_neg]
  rintro ⟨z, k⟩
  rcases h with h | h
  · exact h z
  · exact k h
theorem killW_cv {c d : Addr} (n : d ≠ c) : (killW t c W).cv d = W.cv d := if_neg n
theorem killE_get {k : Nat} {env : Env} {i : Nat} {v : PV} (e : get (killE k env) i = some v) : get env i = some v ∧ v.hasTok k = false := by
  unfold get killE at e
  rw [List.getElem?_map] at e
  cases q : env[i]? with
  | none => rw [q] at e; cases e
  | some o =>
    rw [q] at e
    cases o with
    | none => cases e
    | some w =>
      simp only [Option.map_some] at e
      by_cases z : w.hasTok k = true
      · simp [z] at e
      · simp only [z] at e
        simp at e
        subst e
        exact ⟨by unfold get; rw [q], by simpa using z⟩
theorem killH_get {k : Nat} {h : Hea} {n : Nat} {o : HObj} (e : (killH k h)[n]? = some o) (l : o.live = true) : h[n]? = some o ∧ o.hasTok k = false := by
  unfold killH at e
  rw [List.getElem?_map] at e
  cases q : h[n]? with
  | none => rw [q] at e; cases e
  | some w =>
    rw [q] at e
    simp only [Option.map_some, Option.some.injEq] at e
    split at e
    · subst e; cases l
    · rename_i z
      subst e
      exact ⟨rfl, by simpa using z⟩
theorem RO.lk {k : Nat} (l : Wlk k W W') {o : HObj} {u : HO} (r : RO G W o u) (b : o.hasTok k = false) : RO G W' o u := by
  cases o with
  | lst xs => obtain ⟨vs, e, q⟩ := r; exact ⟨vs, e, q.lk l b⟩
  | dK ks xs => obtain ⟨kvs, e, k, q⟩ := r; exact ⟨kvs, e, k, q.lk l b⟩
  | dead => trivial
/-- the frame's own cell is stored -/
theorem RS.setCell (r : RS G X t W env h σ H) (F : FmOk X t) (hinj : ∀ x y c, X.env.cells.lookup x = some c → X.env.cells.lookup y = some c → x = y) {i : Nat} {x : Str} {c : Addr} {v : PV} {u : V} (hi : X.N[i]? = some x) (hf : X.fn x = true) (hc : X.env.cells.lookup x = some c)
    (rv : RV G.adr G.K W v u) (hv : v.hasTok t.t = false) : ∃ W', Wlk t.t W W' ∧ RS G X t W' ((killE t.t env).set i (some v)) (killH t.t h) (σ.set i (some u)) H := by
  have own : t.ow c := F.ow1 c ⟨x, hf, hc⟩
  have lk : Wlk t.t W (killW t c W) := ⟨fun _ _ e => e, fun _ _ e => e, fun a o e n => ⟨killW_of e (.inl n), fun d w hd hw => by
    rw [killW_cv (fun z => (r.tk a o e).1 n d hd (by rw [z]; exact own))]; exact hw⟩, fun _ _ e => e⟩
  have kle : Wle t.Wk (killW t c W) := ⟨r.lek.rho, r.lek.fz, fun a ci e => killW_of (r.lek.fn a ci e) (.inr e), fun d w e => by
      rw [killW_cv (fun z => by rw [z, F.kc x c hf hc] at e; cases e)]; exact r.lek.cv d w e, r.lek.co, r.lek.hid⟩
  refine ⟨killW t c W, lk, ⟨⟨r.fz, fun n o e l => ?_, fun n m o o' a g1 l1 g2 l2 => r.inj n m o o' a (killH_get g1 l1).1 l1 (killH_get g2 l2).1 l2, fun n o a e l => r.dis n o a (killH_get e l).1 l, fun n hn => r.new n (by simpa [killH] using hn), r.tabs, fun a ci e => ?_, fun d w e => ?_, fun a ci e => r.tk a ci (killW_fn e).1, fun a vs e => ⟨(r.hd a vs e).1, (r.hd a vs e).2.1, fun n o g l => (r.hd a vs e).2.2 n o (killH_get g l).1 l⟩⟩, ?_, fun j w e => ?_, F.lk.trans kle, kle⟩⟩
  · obtain ⟨e1, b⟩ := killH_get e l
    obtain ⟨a, u, h1, h2, h3⟩ := r.live n o e1 l
    exact ⟨a, u, h1, h2, h3.lk lk b⟩
  · obtain ⟨e1, e2⟩ := killW_fn e
    obtain ⟨h1, h2, h3, h4⟩ := r.fn a ci e1
    refine ⟨h1, h2, h3, fun d hd => ?_⟩
    by_cases q : ci.tok = t.t
    · obtain ⟨w, hw⟩ := F.kf a ci (e2 q) d hd
      exact ⟨w, kle.cv d w hw⟩
    · rw [killW_cv (fun z => (r.tk a ci e1).1 q d hd (by rw [z]; exact own))]
      exact h4 d hd
  · have e' : (if d = c then none else W.cv d) = some w := e
    split at e'
    · cases e'
    · rename_i nd
      refine ⟨(r.cv d w e').1, (r.cv d w e').2.imp (fun z => ⟨?_, z.2⟩) fun z => z⟩
      refine z.1.imp (fun ⟨hm, y, j, h1, h2, h3, h4, h5⟩ => ⟨hm, y, j, h1, h2, h3, ?_, h5⟩) id
      rw [List.getElem?_set_ne]
      · exact h4
      · intro q
        rw [← q, hi] at h3; cases h3
        rw [hc] at h1; cases h1
        exact nd rfl
  · rw [List.length_set, List.length_set, killE, List.length_map]; exact r.len
  · rcases get_set e with ⟨rfl, rfl⟩ | ⟨q, e⟩
    · refine ⟨u, ?_, rv.lk lk hv⟩
      have l : j < σ.length := by
        have z := get_lt e
        rw [List.length_set, killE, List.length_map] at z
        rw [← r.len]; exact z
      rw [List.getElem?_set_self l]
    · obtain ⟨e1, b⟩ := killE_get e
      obtain ⟨V, e2, r2⟩ := r.env j w e1
      exact ⟨V, by rw [List.getElem?_set_ne (Ne.symm q)]; exact e2, r2.lk lk b⟩
variable {pos : Pos}
theorem lg_name {i : Nat} {x : Str} (hN : X.N.Nodup) (hi : X.N[i]? = some x) (hx : X.env.scope.names.lookup x = some .local) : PG X (.Name x pos) (LG G X t [i] (wpT O (.name i false))) :=
  pg_imp (L2.pg_name hN hi (.inl hx) (.inr hx)) fun v σ H Q q => by
  obtain ⟨W, pv, env, h, k, rs, rv, w, c⟩ := q
  simp only [wpT, setE] at w
  exact c W _ h _ H (.refl _ _) (rs.setLoc hi hx rv) (fun j hj => List.getElem?_set_ne (fun z => hj (by simp [z]))) w
theorem lg_cell {i : Nat} {x : Str} (F : FmOk X t) (ht : O.tok = t.t) (hst : O.st = t.st) (hN : X.N.Nodup) (hi : X.N[i]? = some x) (hx : X.env.scope.names.lookup x = some .cell) (hf : X.fn x = true) : PG X (.Name x pos) (LG G X t [i] (wpT O (.name i true))) := by
  refine ⟨fun pins s σ H v u Q I r q => ?_⟩
  refine (L2.pg_name (pos := pos) hN hi (.inr hx) (.inl hf)).run pins s σ H v u Q I r ?_
  obtain ⟨W, pv, env, h, k, rs, rv, w, c⟩ := q
  simp only [wpT, setE] at w
  obtain ⟨cell, hc⟩ := I.ok.has x (.inl hx)
  rw [ht, hst] at w
  obtain ⟨W', lk, r'⟩ := rs.setCell F I.ok.inj hi hf hc rv w.2.1
  exact c W' _ _ _ H ⟨lk, fun z => by rw [w.1] at z; cases z⟩ r' (fun j hj => List.getElem?_set_ne (fun z => hj (by simp [z]))) w.2.2
theorem asgn_cons {e : Expr} {es : List Expr} {env : PySem.Env} (h : isStar e = false) : assignEach (e :: es) env = (false, assign e env) :: assignEach es env := by
  cases e <;> first | rfl | cases h
theorem asgn_facts {env : PySem.Env} : ∀ {es : List Expr}, noStars es = true → (assignEach es env).length = es.length ∧ (assignEach es env).findIdx? (·.1) = none
  | [], _ => ⟨rfl, rfl⟩
  | e :: es, h => by
    simp only [noStars, List.all_cons, Bool.and_eq_true, Bool.not_eq_true'] at h
    obtain ⟨h1, h2⟩ := asgn_facts (env := env) (es := es) h.2
    rw [asgn_cons h.1]
    refine ⟨by rw [List.length_cons, List.length_cons, h1], ?_⟩
    rw [List.findIdx?_cons]
    simp [h2]
abbrev WGs := List PV → Env → Hea → (Env → Hea → Prop) → Prop
def LGs (G : Gs) (X : Cx) (t : Fm) (sl : List Nat) (w : WGs) : TGs := fun xs σ H Q => ∃ W vs env h k, RS G X t W env h σ H ∧ RVs G.adr G.K W vs xs ∧ (t.st && hasTokL t.t vs) = false ∧ w vs env h k ∧ ∀ W' env' h' σ' H', Wlq t W W' → RS G X t W' env' h' σ' H' → (∀ j, j ∉ sl → σ'[j]? = σ[j]?) → k env' h' → Q σ' H'
theorem pgs_imp {X : Cx} {e : List Expr} {t t' : TGs} (h : PGs X e t) (i : ∀ v σ H Q, t' v σ H Q → t v σ H Q) : PGs X e t' := ⟨fun pins s σ H v u Q I r q => h.run pins s σ H v u Q I r (i v σ H Q q)⟩
theorem lgs_nil : PGs X [] (LGs G X t [] (wpTs O .nil)) := pgs_imp L2.pgs_nil fun xs σ H Q q => by
  obtain ⟨W, vs, env, h, k, rs, rv, ht, w, c⟩ := q
  cases rv with
  | nil =>
    simp only [wpTs] at w
    exact ⟨rfl, c W env h σ H (.refl _ _) rs (fun _ _ => rfl) w⟩
  | cons _ _ => simp only [wpTs] at w
theorem lgs_cons {a : CT} {b : CTs} {e : Expr} {es : List Expr} (h1 : PG X e (LG G X t a.slots (wpT O a))) (h2 : PGs X es (LGs G X t b.slots (wpTs O b))) (hs : isStar e = false) : PGs X (e :: es) (LGs G X t (a.slots ++ b.slots) (wpTs O (.cons a b))) :=
  pgs_imp (L2.pgs_cons h1 h2 (by rw [asgn_cons hs]; rfl)) fun xs σ H Q q => by
  obtain ⟨W, vs, env, h, k, rs, rv, ht, w, c⟩ := q
  cases rv with
  | nil => simp only [wpTs] at w
  | @cons pv pvs x xs r1 r2 =>
    simp only [wpTs] at w
    have t2 : (t.st && hasTokL t.t pvs) = false := by
      cases q : t.st with
      | false => rfl
      | true => rw [q] at ht; exact (Bool.or_eq_false_iff.mp ht).2
    exact ⟨x, xs, rfl, W, pv, env, h, _, rs, r1, w, fun W' env' h' σ' H' l r hs q => ⟨W', pvs, env', h', k, r, r2.lq l t2, t2, q, fun W2 e2 h2 σ2 H2 l2 r2 hs2 => c W2 e2 h2 σ2 H2 (l.trans l2) r2 fun j hj => by
      rw [List.mem_append, not_or] at hj
      rw [hs2 j hj.2, hs j hj.1]⟩⟩
theorem lg_tup {b : CTs} {es : List Expr} {k : Nat} (hK : X.K = G.K) (hc : X.calm = true) (ht : O.tok = t.t) (hst : O.st = t.st) (hs : noStars es = true) (hl : b.len = es.length) (h : PGs X es (LGs G X t b.slots (wpTs O b))) : PG X (.Tuple es k pos) (LG G X t b.slots (wpT O (.tup b))) := by
  obtain ⟨f1, f2⟩ := asgn_facts (env := X.env) hs
  refine pg_imp (L2.pg_tup (n := es.length) hc h f1 f2) fun x σ H Q q => ?_
  obtain ⟨W, pv, env, h, k, rs, rv, w, c⟩ := q
  simp only [wpT] at w
  split at w
  · rename_i xs
    obtain ⟨w1, wl, w2⟩ := w
    unfold Orc.dtyL at w1
    rw [ht, hst] at w1
    obtain ⟨a, vs, rfl, r1, q1⟩ := rs.toRH.seq rv rfl
    rcases q1 with ⟨_, q1⟩ | ⟨z, _⟩
    · rw [hK]
      exact ⟨a, vs, rfl, q1, by rw [← r1.length, wl]; exact hl, W, xs, env, h, k, rs, r1, w1, w2, c⟩
    · cases z
  · exact w.elim
theorem lg_idx {o i : CE} {eo ei : Expr} (hK : X.K = G.K) (ho : PE X eo (LE G X t Wx (wpE O o))) (hi : PE X ei (LE G X t Wx (wpE O i)))
    (ha : ∀ v, assign (.Subscript eo ei pos) X.env v = (do
      let ov ← holding [v] (eval eo X.env)
      let iv ← holding [v, ov] (eval ei X.env)
      standAt pos
      holding [v, ov, iv] (setItem ov iv v)
      release [v, ov, iv] [])) : PG X (.Subscript eo ei pos) (LG G X t [] (wpT O (.idx o i))) := by
  refine pg_imp (L2.pg_sub ho hi L2.set_list ha) fun x σ H Q q => ?_
  obtain ⟨W, pv, env, h, k, rs, rv, w, c⟩ := q
  simp only [wpT] at w
  refine ⟨W, env, h, _, _, rs, w, fun W1 x1 h1 u1 H1 le1 r1 rx1 q1 => ⟨W1, env, h1, _, _, r1, q1, fun W2 x2 h2 u2 H2 le2 r2 rx2 q2 => ?_, fun _ _ _ _ _ _ _ _ _ z => z.elim⟩, fun _ _ _ _ _ _ _ _ _ z => z.elim⟩
  have q2 : putV h2 x1 x2 pv (fun h3 => k env h3) := q2
  unfold putV at q2
  split at q2
  · rename_i n j
    split at q2
    · rename_i xs e
      split at q2
      · rename_i p ep
        have rx1 := rx1.mono le2
        cases rx1 with
        | ref ha =>
          obtain ⟨a', u, e1, e2, vs, e3, rr⟩ := r2.live _ _ e rfl
          rw [ha] at e1; cases e1
          subst e3
          obtain rfl := rx2.intV
          refine ⟨_, vs, _, p, rfl, rfl, e2, by rw [← rr.length]; exact ixOf_N ep, ?_⟩
          have r3 := r2.toRH.write e rfl ha e2 (fun z => z) (o' := .lst (xs.set p pv)) (u' := .lst (vs.set p x)) ⟨_, rfl, rr.set ((rv.mono le1).mono le2) p⟩
          exact c W2 env _ σ _ (le1.trans le2).lq (r2.lift (Wle.refl _) r3) (fun _ _ => rfl) q2
      · exact q2.elim
    · exact q2.elim
  · exact q2.elim
end
end PC

set_option Elab.async false
set_option maxRecDepth 100000
set_option maxHeartbeats 2000000
/-! PZ1: zip of any number of lists and tuples, at the library's level. -/
namespace PZ
open PySem
open PySem.Sem (wp)
/-- an iterator over a list or tuple, at its i-th item -/
def St1 (h : Heap) (it l : Addr) (i : Nat) (xs : Array Value) : Prop := (h.IsListIter it l i ∧ h.IsList l xs) ∨ (h.IsTupleIter it l i ∧ h.IsTuple l xs)
theorem St1.at {h h' : Heap} {it l : Addr} {i : Nat} {xs : Array Value} (s : St1 h it l i xs) (k1 : ∀ o, h.get? it = some o → h'.get? it = some o) (k2 : ∀ o, h.get? l = some o → h'.get? l = some o) : St1 h' it l i xs := by
  rcases s with ⟨⟨o, h1, h2⟩, ⟨o', g1, g2⟩⟩ | ⟨⟨o, h1, h2⟩, ⟨o', g1, g2⟩⟩
  · exact .inl ⟨⟨o, k1 o h1, h2⟩, ⟨o', k2 o' g1, g2⟩⟩
  · exact .inr ⟨⟨o, k1 o h1, h2⟩, ⟨o', k2 o' g1, g2⟩⟩
theorem St1.ne {h : Heap} {it l : Addr} {i : Nat} {xs : Array Value} (s : St1 h it l i xs) : l ≠ it := fun e => by
  subst e
  rcases s with ⟨⟨o, h1, h2, h3⟩, ⟨o', g1, g2, n, g3⟩⟩ | ⟨⟨o, h1, h2, h3⟩, ⟨o', g1, g2, n, g3⟩⟩ <;> rw [h1] at g1 <;> cases g1 <;> rw [h3] at g3 <;> cases g3
theorem St1.lt {h : Heap} {it l : Addr} {i : Nat} {xs : Array Value} (s : St1 h it l i xs) : it < h.objs.size ∧ l < h.objs.size := by
  rcases s with ⟨⟨o, h1, h2⟩, ⟨o', g1, g2⟩⟩ | ⟨⟨o, h1, h2⟩, ⟨o', g1, g2⟩⟩ <;> exact ⟨Heap.lt_size h1, Heap.lt_size g1⟩
section
variable {prog : Program} {w : World} {A : Around} {E : Value → Shared → Prop} {s : Shared}
theorem nx_item {it l : Addr} {i : Nat} {xs : Array Value} {x : Value} {Q : Value → Shared → Prop} (st : St1 s.heap it l i xs) (hx : xs[i]? = some x)
    (hQ : ∀ h', St1 h' it l (i + 1) xs → Heap.SameBut it s.heap h' → Q x { s with heap := h' }) : wpAny (model prog w) A (Builtin.SmallTypes.nextOf (.ref it)) Q E s := by
  have ne := st.ne
  rcases st with ⟨h1, h2⟩ | ⟨h1, h2⟩
  · exact wpAny_nextOf_list_item h1 h2 hx fun h' z sb => hQ h' (.inl ⟨z, h2.extBut sb.extBut ne⟩) sb
  · exact RZ.nextOf_tuple_item h1 h2 hx fun h' z sb => hQ h' (.inr ⟨z, h2.extBut sb.extBut ne⟩) sb
theorem nx_end {it l : Addr} {i : Nat} {xs : Array Value} {Q : Value → Shared → Prop} (hh : A.handled = none) (st : St1 s.heap it l i xs) (hx : xs[i]? = none)
    (hE : ∀ h' e, Heap.ExtBut it s.heap h' → (∃ o, h'.get? e = some o ∧ o.cls = .type "StopIteration") → E (.ref e) { s with heap := h' }) : wpAny (model prog w) A (Builtin.SmallTypes.nextOf (.ref it)) Q E s := by
  rcases st with ⟨h1, h2⟩ | ⟨h1, h2⟩
  · exact wpAny_nextOf_list_end hh h1 h2 hx hE
  · exact RZ.nextOf_tuple_end hh h1 h2 hx hE
end
/-- a source: its iterator, itself, its items -/
structure Src where
  it : Addr
  l : Addr
  xs : Array Value
abbrev ZipO (f0 : Value) (b1 : Bool) (TI TO : Addr) : Obj := { cls := .type "zip", dict := none, data := .fields #[f0, .bool b1, .bool false, .ref TI, .ref TO], slots := #[] }
abbrev TupO (xs : Array Value) : Obj := { cls := .type "tuple", data := .seq xs }
structure Ap (z TI TO : Addr) (ps : List Src) : Prop where
  TIz : TI ≠ z
  TOz : TO ≠ z
  TITO : TI ≠ TO
  it : ∀ p ∈ ps, p.it ≠ z ∧ p.it ≠ TI ∧ p.it ≠ TO
  src : ∀ p ∈ ps, p.l ≠ z ∧ p.l ≠ TO ∧ ∀ q ∈ ps, p.l ≠ q.it
  nd : ∀ (j k : Nat) (p q : Src), ps[j]? = some p → ps[k]? = some q → p.it = q.it → j = k
/-- between turns -/
structure Zst (h : Heap) (z TI TO : Addr) (ps : List Src) (i : Nat) (f0 : Value) (b1 : Bool) : Prop where
  z : h.get? z = some (ZipO f0 b1 TI TO)
  ti : h.get? TI = some (TupO (ps.map fun p => Value.ref p.it).toArray)
  to : ∃ ks : Array Value, ks.size = ps.length ∧ h.get? TO = some (TupO ks)
  it : ∀ p ∈ ps, St1 h p.it p.l i p.xs
def Kept (z TO : Addr) (ps : List Src) (h h' : Heap) : Prop := ∀ c o, c ≠ z → c ≠ TO → (∀ p ∈ ps, c ≠ p.it) → h.get? c = some o → h'.get? c = some o
/-- within a turn: j of them drawn -/
structure Mid (h0 h : Heap) (z TO : Addr) (ps : List Src) (i j : Nat) : Prop where
  it : ∀ (k : Nat) (p : Src), ps[k]? = some p → St1 h p.it p.l (if k < j then i + 1 else i) p.xs
  size : h.objs.size = h0.objs.size
  kept : Kept z TO ps h0 h
theorem Mid.step {h0 h h' : Heap} {z TI TO : Addr} {ps : List Src} {i j : Nat} {p : Src} (D : Ap z TI TO ps) (m : Mid h0 h z TO ps i j) (e : ps[j]? = some p) (st : St1 h' p.it p.l (i + 1) p.xs) (sb : Heap.SameBut p.it h h') : Mid h0 h' z TO ps i (j + 1) where
  it := fun k q ek => by
    by_cases q1 : k = j
    · subst q1
      rw [e] at ek; cases ek
      rw [if_pos (Nat.lt_succ_self _)]
      exact st
    · have ne : q.it ≠ p.it := fun z => q1 (D.nd _ _ _ _ ek e z)
      have z := (m.it k q ek).at (h' := h') (fun o g => (sb.2 _ ne).trans g) (fun o g => (sb.2 _ ((D.src q (List.mem_of_getElem? ek)).2.2 p (List.mem_of_getElem? e))).trans g)
      by_cases q2 : k < j
      · rw [if_pos q2] at z; rw [if_pos (by omega)]; exact z
      · rw [if_neg q2] at z; rw [if_neg (by omega)]; exact z
  size := sb.1.trans m.size
  kept := fun c o c1 c2 c3 g => (sb.2 _ (c3 p (List.mem_of_getElem? e))).trans (m.kept c o c1 c2 c3 g)
theorem Mid.other {h0 h h' : Heap} {z TI TO a : Addr} {ps : List Src} {i j : Nat} (D : Ap z TI TO ps) (m : Mid h0 h z TO ps i j) (ha : a = z ∨ a = TO) (sb : Heap.SameBut a h h') : Mid h0 h' z TO ps i j where
  it := fun k q ek => by
    have d1 := D.it q (List.mem_of_getElem? ek)
    have d2 := D.src q (List.mem_of_getElem? ek)
    refine (m.it k q ek).at (fun o g => (sb.2 _ ?_).trans g) (fun o g => (sb.2 _ ?_).trans g)
    · rcases ha with rfl | rfl
      · exact d1.1
      · exact d1.2.2
    · rcases ha with rfl | rfl
      · exact d2.1
      · exact d2.2.1
  size := sb.1.trans m.size
  kept := fun c o c1 c2 c3 g => (sb.2 _ (by rcases ha with rfl | rfl <;> assumption)).trans (m.kept c o c1 c2 c3 g)
section
variable {prog : Program} {w : World} {A : Around} {E : Value → Shared → Prop} {s : Shared}
theorem drop_cons {α : Type} {l : List α} {j : Nat} {x : α} {r : List α} (h : l.drop j = x :: r) : l[j]? = some x ∧ r = l.drop (j + 1) := by
  have hj : j < l.length := by
    rcases Nat.lt_or_ge j l.length with q | q
    · exact q
    · rw [List.drop_eq_nil_of_le q] at h; cases h
  rw [List.drop_eq_getElem_cons hj] at h
  cases h
  exact ⟨List.getElem?_eq_getElem hj, rfl⟩
theorem drop_nil {α : Type} {l : List α} {j : Nat} (h : l.drop j = []) : l.length ≤ j := by
  rcases Nat.lt_or_ge j l.length with q | q
  · rw [List.drop_eq_getElem_cons q] at h; cases h
  · exact q
def Got (ps : List Src) (i j : Nat) (us : Array Value) : Prop := ∀ (k : Nat) (p : Src), k < j → ps[k]? = some p → ∃ x, p.xs[i]? = some x ∧ us[k]? = some x
theorem free_ {z TI TO : Addr} {f0 : Value} {b1 : Bool} (hf : f0 = .none ∨ ∃ a : Nat, f0 = rawInt a) (S : s.heap.get? z = some (ZipO f0 b1 TI TO)) {R : Bool → Shared → Prop} (hR : ∀ b h' b', h'.get? z = some (ZipO f0 b' TI TO) → Heap.SameBut z s.heap h' → R b { s with heap := h' }) :
    wpAny (model prog w) A (Builtin.SmallTypes.ownedTupleIsFree (.ref z)) R E s := by
  have same : Heap.SameBut z s.heap s.heap := ⟨rfl, fun _ _ => rfl⟩
  unfold Builtin.SmallTypes.ownedTupleIsFree
  refine wpAny_bind (wpAny_field S rfl (x := f0) rfl ?_)
  rcases hf with rfl | ⟨a, rfl⟩
  · exact wpAny_pure (hR _ _ _ S same)
  · show wpAny _ _ (loadIfAlive a >>= _) _ _ _
    refine wpAny_bind ?_
    have al : ∀ {Q : Option Obj → Shared → Prop}, Q (s.heap.get? a) s → wpAny (model prog w) A (loadIfAlive a) Q E s := fun h => fun _ _ _ => h
    refine al ?_
    cases e : s.heap.get? a with
    | none =>
      simp only [Option.isNone_none, if_true]
      exact wpAny_pure (hR _ _ _ S same)
    | some o =>
      simp only [Option.isNone_some, Bool.false_eq_true, if_false]
      refine wpAny_bind (wpAny_field S rfl (x := .bool b1) rfl ?_)
      cases b1 with
      | true => 
        rw [if_neg (by decide)]
        exact wpAny_bind (wpAny_pure (wpAny_pure (hR _ _ _ S same)))
      | false =>
        rw [if_pos (by decide)]
        exact wpAny_bind (wpAny_setField_rec S (by simp) fun h₁ hz₁ hs₁ => wpAny_pure (hR _ _ true hz₁ hs₁))
theorem zip_next {z TI TO : Addr} {ps : List Src} {i : Nat} {f0 : Value} {b1 : Bool} {Q : Value → Shared → Prop} (hh : A.handled = none) (D : Ap z TI TO ps) (hn : ps.length ≤ sizeLine) (h0 : ps ≠ [])
    (hf : f0 = .none ∨ ∃ a : Nat, f0 = rawInt a) (S : Zst s.heap z TI TO ps i f0 b1)
    (hQ : ∀ (us : Array Value) h', us.size = ps.length → (∀ (k : Nat) (p : Src), ps[k]? = some p → ∃ x, p.xs[i]? = some x ∧ us[k]? = some x) → (∃ f1 b', (f1 = .none ∨ ∃ a : Nat, f1 = rawInt a) ∧ Zst h' z TI TO ps (i + 1) f1 b') →
      h'.get? s.heap.objs.size = some (TupO us) → h'.objs.size = s.heap.objs.size + 1 → Kept z TO ps s.heap h' → Q (.ref s.heap.objs.size) { s with heap := h' })
    (hE : (∃ p ∈ ps, p.xs[i]? = none) → ∀ h' e, Kept z TO ps s.heap h' → (∃ o, h'.get? e = some o ∧ o.cls = .type "StopIteration") → E (.ref e) { s with heap := h' }) :
    wpAny (model prog w) A (Builtin.«zip.__next__» ⟨[.ref z], []⟩) (fun fin s' => ∃ v, fin = .done (.ret v) ∧ Q v s') E s := by
  obtain ⟨ks, hks, hTO⟩ := S.to
  show wpAny _ _ (field (.ref z) 2 >>= _) _ _ _
  refine wpAny_bind (wpAny_field S.z rfl (x := .bool false) rfl ?_)
  show wpAny _ _ (field (.ref z) 3 >>= _) _ _ _
  refine wpAny_bind (wpAny_field S.z rfl (x := .ref TI) rfl ?_)
  refine wpAny_bind (wpAny_seqItems S.ti rfl ?_)
  have ne : (ps.map fun p => Value.ref p.it).toArray.isEmpty = false := by
    cases ps with
    | nil => exact absurd rfl h0
    | cons => rfl
  simp only [ne, Bool.false_eq_true, if_false]
  show wpAny _ _ (Builtin.SmallTypes.ownedTupleIsFree (.ref z) >>= _) _ _ _
  refine wpAny_bind (free_ hf S.z fun b h₁ b' z₁ sb₁ => ?_)
  have m0 : Mid s.heap h₁ z TO ps i 0 := ⟨fun k p e => by
    rw [if_neg (Nat.not_lt_zero _)]
    have d1 := D.it p (List.mem_of_getElem? e)
    have d2 := D.src p (List.mem_of_getElem? e)
    exact (S.it p (List.mem_of_getElem? e)).at (fun o g => (sb₁.2 _ d1.1).trans g) (fun o g => (sb₁.2 _ d2.1).trans g), sb₁.1, fun c o c1 c2 c3 g => (sb₁.2 _ c1).trans g⟩
  have ti₁ := (sb₁.2 _ D.TIz).trans S.ti
  have to₁ := (sb₁.2 _ D.TOz).trans hTO
  cases b with
  | true =>
    simp only [if_true]
    refine wpAny_bind (wpAny_rule ?_)
    refine wpAny_bind (wpAny_field z₁ rfl (x := .ref TO) rfl ?_)
    refine wpAny_bind (wpAny_setField_rec z₁ (by simp) fun h₂ z₂ sb₂ => ?_)
    have m1 := m0.other D (.inl rfl) sb₂
    refine wpAny_bind ?_
    refine wpAny_forIn_list _ (fun rest b s' => ∃ (j : Nat) (h : Heap) (us : Array Value), rest = ((ps.map fun p => Value.ref p.it).zipIdx).drop j ∧ b = (none, ()) ∧ s' = { s with heap := h } ∧ Mid s.heap h z TO ps i j ∧ h.get? z = some (ZipO .ellipsis b' TI TO) ∧
        h.get? TI = some (TupO (ps.map fun p => Value.ref p.it).toArray) ∧ h.get? TO = some (TupO us) ∧ us.size = ps.length ∧ Got ps i j us) _ ?turn ?fin _ _ ⟨0, h₂, ks, rfl, rfl, rfl, m1, z₂, (sb₂.2 _ D.TIz).trans ti₁, (sb₂.2 _ D.TOz).trans to₁, hks, fun k p z => absurd z (Nat.not_lt_zero _)⟩
    case turn =>
      rintro ⟨x, n⟩ rest b s' ⟨j, h, us, er, rfl, rfl, m, zz, ti, to, hu, got⟩
      obtain ⟨e1, rfl⟩ := drop_cons er.symm
      rw [List.getElem?_zipIdx, List.getElem?_map] at e1
      cases ep : ps[j]? with
      | none => rw [ep] at e1; cases e1
      | some p =>
        rw [ep] at e1
        simp only [Option.map_some, Nat.zero_add, Option.some.injEq, Prod.mk.injEq] at e1
        obtain ⟨rfl, rfl⟩ := e1
        have mem := List.mem_of_getElem? ep
        have st := m.it j p ep
        rw [if_neg (Nat.lt_irrefl _)] at st
        have d1 := D.it p mem
        refine wpAny_bind (wpAny_onRaise ?_)
        show wpAny _ _ (Builtin.SmallTypes.nextOf (.ref p.it) >>= _) _ _ _
        cases hx : p.xs[i]? with
        | some x =>
          refine wpAny_bind (nx_item st hx fun h₃ st₃ sb₃ => wpAny_pure ?_)
          have m3 := m.step D ep st₃ sb₃
          have to₃ := (sb₃.2 _ d1.2.2.symm).trans to
          refine wpAny_bind (wpAny_seqItems to₃ rfl ?_)
          refine wpAny_bind (wpAny_updateSeq to₃ rfl ?_ (by rw [hu]; exact hn) (by rw [Array.size_setIfInBounds, hu]; omega))
          refine wpAny_bind (wpAny_letGo (wpAny_pure ?_))
          have sb₄ : Heap.SameBut TO h₃ (h₃.update TO (Obj.mapSeq (·.setIfInBounds j x))) := Heap.SameBut.update ..
          refine ⟨j + 1, _, us.setIfInBounds j x, rfl, rfl, rfl, m3.other D (.inr rfl) sb₄, (sb₄.2 _ D.TOz.symm).trans ((sb₃.2 _ d1.1.symm).trans zz), (sb₄.2 _ D.TITO).trans ((sb₃.2 _ d1.2.1.symm).trans ti), ?_, by rw [Array.size_setIfInBounds]; exact hu, ?_⟩
          · show Heap.get? (h₃.update TO _) TO = _
            rw [Heap.get?_update_self _ to₃ rfl]
            simp [Obj.mapSeq]
          · intro k q hk ek
            by_cases q1 : k = j
            · subst q1
              rw [ep] at ek; cases ek
              refine ⟨x, hx, ?_⟩
              have : k < us.size := by rw [hu]; exact (List.getElem?_eq_some_iff.mp ep).1
              simp [Array.getElem?_setIfInBounds, this]
            · obtain ⟨y, g1, g2⟩ := got k q (by omega) ek
              refine ⟨y, g1, ?_⟩
              rw [Array.getElem?_setIfInBounds, if_neg (fun z => q1 z.symm)]
              exact g2
        | none =>
          refine wpAny_bind (nx_end hh st hx fun h₃ e xb he => ?_)
          obtain ⟨oe, hoe, hce⟩ := he
          have z3 : h₃.get? z = _ := xb _ _ d1.1.symm zz
          have hez : e ≠ z := fun x => by subst x; rw [z3] at hoe; cases hoe; simp at hce
          refine wpAny_setField_rec z3 (by simp) fun h₄ _ sb₄ => hE ⟨p, mem, hx⟩ h₄ e (fun c o c1 c2 c3 g => ?_) ⟨oe, (sb₄.2 _ hez).trans hoe, hce⟩
          exact (sb₄.2 _ c1).trans (xb _ _ (c3 p mem) (m.kept c o c1 c2 c3 g))
    case fin =>
      rintro b s' ⟨j, h, us, er, rfl, rfl, m, zz, ti, to, hu, got⟩
      have hj : ps.length ≤ j := by simpa using drop_nil er.symm
      refine wpAny_bind (wpAny_seqItems to rfl ?_)
      refine wpAny_bind (wpAny_newTuple ?_ (by rw [Array.length_toList, hu]; exact hn))
      show wpAny _ _ (Builtin.SmallTypes.ownedTupleHandOut (.ref z) (.ref h.objs.size) >>= _) _ _ _
      refine wpAny_bind ?_
      unfold Builtin.SmallTypes.ownedTupleHandOut
      have z₆ : (h.push (TupO us.toList.toArray)).get? z = some (ZipO .ellipsis b' TI TO) := Heap.get?_push_of_some _ zz
      refine wpAny_bind (wpAny_setField_rec z₆ (by simp) fun h₇ z₇ sb₇ => ?_)
      refine wpAny_setField_rec z₇ (by simp) fun h₈ z₈ sb₈ => ?_
      have zl : z < h.objs.size := Heap.lt_size zz
      have up : ∀ c o, c ≠ z → h.get? c = some o → h₈.get? c = some o := fun c o c1 e => (sb₈.2 _ c1).trans ((sb₇.2 _ c1).trans (Heap.get?_push_of_some _ e))
      refine wpAny_pure ⟨_, rfl, ?_⟩
      show Q (.ref h.objs.size) _
      rw [m.size]
      refine hQ us h₈ hu (fun k p e => got k p (Nat.lt_of_lt_of_le (List.getElem?_eq_some_iff.mp e).1 hj) e) ⟨rawInt h.objs.size, false, .inr ⟨_, rfl⟩, ?_⟩ ?_ ?_ fun c o c1 c2 c3 g => up c o c1 (m.kept c o c1 c2 c3 g)
      · refine ⟨z₈, up _ _ D.TIz ti, ⟨us, hu, up _ _ D.TOz to⟩, fun p hp => ?_⟩
        obtain ⟨k, hk⟩ := List.mem_iff_getElem?.mp hp
        have st := m.it k p hk
        rw [if_pos (Nat.lt_of_lt_of_le (List.getElem?_eq_some_iff.mp hk).1 hj)] at st
        exact st.at (fun o g => up _ o (D.it p hp).1 g) (fun o g => up _ o (D.src p hp).1 g)
      · rw [← m.size]
        have e8 : (h.push (TupO us.toList.toArray)).get? h.objs.size = some (TupO us.toList.toArray) := Heap.get?_push_size _ rfl
        rw [Array.toArray_toList] at e8
        exact (sb₈.2 _ (Nat.ne_of_gt zl)).trans ((sb₇.2 _ (Nat.ne_of_gt zl)).trans e8)
      · rw [sb₈.1, sb₇.1, Heap.size_push, m.size]
  | false =>
    simp only [Bool.false_eq_true, if_false]
    refine wpAny_bind ?_
    refine MeetsSeq2.wpAny_forIn_array _ (fun rest b s' => ∃ (j : Nat) (h : Heap), rest = (ps.map fun p => Value.ref p.it).drop j ∧ b.1 = none ∧ s' = { s with heap := h } ∧ Mid s.heap h z TO ps i j ∧ h.get? z = some (ZipO f0 b' TI TO) ∧
        h.get? TI = some (TupO (ps.map fun p => Value.ref p.it).toArray) ∧ h.get? TO = some (TupO ks) ∧ b.2.size = j ∧ j ≤ ps.length ∧ Got ps i j b.2) _ ?turn ?fin _ _ ⟨0, h₁, rfl, rfl, rfl, m0, z₁, ti₁, to₁, rfl, Nat.zero_le _, fun k p z => absurd z (Nat.not_lt_zero _)⟩
    case turn =>
      rintro x rest ⟨b1, us⟩ s' ⟨j, h, er, eb, rfl, m, zz, ti, to, hu, hj, got⟩
      simp only at eb hu got
      subst eb
      obtain ⟨e1, rfl⟩ := drop_cons er.symm
      rw [List.getElem?_map] at e1
      cases ep : ps[j]? with
      | none => rw [ep] at e1; cases e1
      | some p =>
        rw [ep] at e1
        simp only [Option.map_some, Option.some.injEq] at e1
        subst e1
        have mem := List.mem_of_getElem? ep
        have st := m.it j p ep
        rw [if_neg (Nat.lt_irrefl _)] at st
        have d1 := D.it p mem
        refine wpAny_bind (wpAny_holding ?_)
        show wpAny _ _ (Builtin.SmallTypes.nextOf (.ref p.it) >>= _) _ _ _
        cases hx : p.xs[i]? with
        | some x =>
          refine wpAny_bind (nx_item st hx fun h₃ st₃ sb₃ => wpAny_pure (wpAny_pure ?_))
          have m3 := m.step D ep st₃ sb₃
          refine ⟨j + 1, _, rfl, rfl, rfl, m3, (sb₃.2 _ d1.1.symm).trans zz, (sb₃.2 _ d1.2.1.symm).trans ti, (sb₃.2 _ d1.2.2.symm).trans to, by rw [Array.size_push, hu], (List.getElem?_eq_some_iff.mp ep).1, ?_⟩
          intro k q hk ek
          by_cases q1 : k = j
          · subst q1
            rw [ep] at ek; cases ek
            refine ⟨x, hx, ?_⟩
            show (us.push x)[k]? = some x
            rw [← hu]
            simp
          · obtain ⟨y, g1, g2⟩ := got k q (by omega) ek
            refine ⟨y, g1, ?_⟩
            show (us.push x)[k]? = some y
            rw [Array.getElem?_push_lt (by rw [hu]; omega)]
            rw [Array.getElem?_eq_getElem (by rw [hu]; omega)] at g2
            exact g2
        | none =>
          refine wpAny_bind (nx_end hh st hx fun h₃ e xb he => ?_)
          exact hE ⟨p, mem, hx⟩ h₃ e (fun c o c1 c2 c3 g => xb _ _ (c3 p mem) (m.kept c o c1 c2 c3 g)) he
    case fin =>
      rintro ⟨b1, us⟩ s' ⟨j, h, er, eb, rfl, m, zz, ti, to, hu, hj, got⟩
      simp only at eb hu got
      subst eb
      have hj2 : ps.length ≤ j := by simpa using drop_nil er.symm
      have hul : us.size = ps.length := by omega
      refine wpAny_bind (wpAny_newTuple ?_ (by rw [Array.length_toList, hul]; exact hn))
      have up : ∀ c o, h.get? c = some o → (h.push (TupO us.toList.toArray)).get? c = some o := fun c o e => Heap.get?_push_of_some _ e
      refine wpAny_pure ⟨_, rfl, ?_⟩
      show Q (.ref h.objs.size) _
      rw [m.size]
      refine hQ us _ hul (fun k p e => got k p (Nat.lt_of_lt_of_le (List.getElem?_eq_some_iff.mp e).1 hj2) e) ⟨f0, b', hf, ?_⟩ ?_ ?_ fun c o c1 c2 c3 g => up c o (m.kept c o c1 c2 c3 g)
      · refine ⟨up _ _ zz, up _ _ ti, ⟨ks, hks, up _ _ to⟩, fun p hp => ?_⟩
        obtain ⟨k, hk⟩ := List.mem_iff_getElem?.mp hp
        have st := m.it k p hk
        rw [if_pos (Nat.lt_of_lt_of_le (List.getElem?_eq_some_iff.mp hk).1 hj2)] at st
        exact st.at (fun o g => up _ o g) (fun o g => up _ o g)
      · rw [← m.size]
        have e8 : (h.push (TupO us.toList.toArray)).get? h.objs.size = some (TupO us.toList.toArray) := Heap.get?_push_size _ rfl
        rw [Array.toArray_toList] at e8 ⊢
        exact e8
      · rw [Heap.size_push, m.size]
end
end PZ

set_option Elab.async false
set_option maxRecDepth 100000
set_option maxHeartbeats 2000000
/-! PZ2: zip(..) is made, drawn from. -/
namespace PZ
open PySem
theorem ty_call (vs : List Value) : checkTypeCall "zip" ⟨vs, []⟩ = pure () := by kernel_rfl
abbrev zsig : Manifest.Signature := ⟨.keywordsApart, "zip", "zip", .cls, [⟨"iterables", .varPos, false⟩, ⟨"strict", .kwOnly, false⟩]⟩
theorem count_ok (n : Nat) : Bind.checkCount "zip" zsig.params n = pure () := by
  unfold Bind.checkCount
  simp [Bind.isPositional]
  intro _ z
  exact absurd z (by decide)
theorem check_ok (n : Nat) : Bind.check zsig "zip" "zip" n [] = pure () := by
  have h := count_ok n
  unfold Bind.check
  simp only []
  rw [h]
  kernel_rfl
theorem new_call (vs : List Value) : checkBuiltinCall "zip.__new__" ⟨.type "zip" :: vs, []⟩ = pure () := by
  have h := check_ok vs.length
  have e : checkBuiltinCall "zip.__new__" ⟨.type "zip" :: vs, []⟩ = ((Bind.check zsig "zip" "zip" vs.length []).onRaise fun _ => pure ()) := by kernel_rfl
  rw [e, h]
  rfl
theorem init_ok (a : Value) (vs : List Value) : argsOk "object.__init__" ⟨a :: vs, []⟩ := by
  unfold argsOk; rw [signature?_of (id := "object.__init__") (n := ['_', '_', 't', 'i', 'n', 'i', '_', '_']) (o := ['t', 'c', 'e', 'j', 'b', 'o']) (by kernel_rfl) F.owner_object]; kernel_rfl
/-- a list or tuple -/
def Sq1 (h : Heap) (q : Addr × Array Value) : Prop := h.IsList q.1 q.2 ∨ h.IsTuple q.1 q.2
theorem Sq1.at {h h' : Heap} {q : Addr × Array Value} (s : Sq1 h q) (k : ∀ o, h.get? q.1 = some o → h'.get? q.1 = some o) : Sq1 h' q := by
  rcases s with ⟨o, h1, h2⟩ | ⟨o, h1, h2⟩
  · exact .inl ⟨o, k o h1, h2⟩
  · exact .inr ⟨o, k o h1, h2⟩
theorem Sq1.lt {h : Heap} {q : Addr × Array Value} (s : Sq1 h q) : q.1 < h.objs.size := by
  rcases s with ⟨o, h1, h2⟩ | ⟨o, h1, h2⟩ <;> exact Heap.lt_size h1
section
variable {prog : Program} {w : World} {A : Around} {E : Value → Shared → Prop} {s : Shared}
theorem iter_ {q : Addr × Array Value} {Q : Value → Shared → Prop} (h : Sq1 s.heap q) (hQ : ∀ h', h'.objs.size = s.heap.objs.size + 1 → (∀ c o, s.heap.get? c = some o → h'.get? c = some o) → St1 h' s.heap.objs.size q.1 0 q.2 → Q (.ref s.heap.objs.size) { s with heap := h' }) :
    wpAny (model prog w) A (pyIter (.ref q.1)) Q E s := by
  rcases h with h | h
  · refine wpAny_pyIter_list h (hQ _ (Heap.size_push ..) (fun c o e => Heap.get?_push_of_some _ e) (.inl ⟨⟨_, Heap.get?_push_size _ rfl, rfl, rfl⟩, h.push _⟩))
  · refine wpAny_pyIter_tuple h (hQ _ (Heap.size_push ..) (fun c o e => Heap.get?_push_of_some _ e) (.inr ⟨⟨_, Heap.get?_push_size _ rfl, rfl, rfl⟩, h.push _⟩))
theorem new_tup {its : List Value} {Q : Value → Shared → Prop} (hn : its.length ≤ sizeLine) (hQ : ∀ h', h'.objs.size = s.heap.objs.size + 1 → (∀ c o, s.heap.get? c = some o → h'.get? c = some o) → h'.get? s.heap.objs.size = some (TupO its.toArray) → Q (.ref s.heap.objs.size) { s with heap := h' }) :
    wpAny (model prog w) A (newTuple its) Q E s :=
  wpAny_newTuple (hQ _ (Heap.size_push ..) (fun c o e => Heap.get?_push_of_some _ e) (Heap.get?_push_size _ rfl)) hn
theorem new_rec {a b : Addr} {Q : Value → Shared → Prop} (hQ : ∀ h', h'.objs.size = s.heap.objs.size + 1 → (∀ c o, s.heap.get? c = some o → h'.get? c = some o) → h'.get? s.heap.objs.size = some (ZipO .none false a b) → Q (.ref s.heap.objs.size) { s with heap := h' }) :
    wpAny (model prog w) A (Builtin.SmallTypes.newRecord (.type "zip") (Builtin.SmallTypes.ownedTupleFields ++ [.bool false, .ref a, .ref b])) Q E s := by
  unfold Builtin.SmallTypes.newRecord
  exact wpAny_newObj_type (hQ _ (Heap.size_push ..) (fun c o e => Heap.get?_push_of_some _ e) (Heap.get?_push_size _ rfl)) (by first | trivial | (show _ ≤ _; decide) | (simp [sizeOk, Builtin.SmallTypes.ownedTupleFields]; try decide))
/-- the sources, as they are laid from an address on -/
def srcs (b : Addr) : List (Addr × Array Value) → List Src
  | [] => []
  | q :: r => ⟨b, q.1, q.2⟩ :: srcs (b + 1) r
theorem srcs_get : ∀ {qs : List (Addr × Array Value)} {b k : Nat} {p : Src}, (srcs b qs)[k]? = some p → k < qs.length ∧ @Eq Nat p.it (b + k) ∧ ∃ q, qs[k]? = some q ∧ p.l = q.1 ∧ p.xs = q.2
  | [], _, _, _, e => by simp [srcs] at e
  | q :: r, b, 0, p, e => by simp [srcs] at e; subst e; exact ⟨by simp, rfl, q, rfl, rfl, rfl⟩
  | q :: r, b, k + 1, p, e => by
    simp only [srcs, List.getElem?_cons_succ] at e
    obtain ⟨h1, h2, q', h3, h4⟩ := srcs_get e
    exact ⟨by simp; omega, by have h2 : @Eq Nat p.it (b + 1 + k) := h2; omega, q', by simpa using h3, h4⟩
theorem srcs_len : ∀ {qs : List (Addr × Array Value)} {b : Nat}, (srcs b qs).length = qs.length
  | [], _ => rfl
  | _ :: r, b => by simp [srcs, srcs_len]
theorem srcs_app : ∀ {qs rs : List (Addr × Array Value)} {b : Nat}, srcs b (qs ++ rs) = srcs b qs ++ srcs (b + qs.length) rs
  | [], _, _ => rfl
  | q :: r, rs, b => by simp only [List.cons_append, srcs, List.length_cons]; rw [srcs_app, show b + 1 + r.length = b + (r.length + 1) by omega]
theorem nat_ne {a b : Nat} (h : a < b ∨ b < a) : a ≠ b := by omega
theorem srcs_ap {qs : List (Addr × Array Value)} {b : Nat} (h : ∀ q ∈ qs, (q.1 : Nat) < b) : Ap (b + qs.length + 2) (b + qs.length) (b + qs.length + 1) (srcs b qs) where
  TIz := nat_ne (by omega)
  TOz := nat_ne (by omega)
  TITO := nat_ne (by omega)
  it := fun p hp => by
    obtain ⟨k, hk⟩ := List.mem_iff_getElem?.mp hp
    obtain ⟨h1, h2, _⟩ := srcs_get hk
    exact ⟨nat_ne (by rw [h2]; omega), nat_ne (by rw [h2]; omega), nat_ne (by rw [h2]; omega)⟩
  src := fun p hp => by
    obtain ⟨k, hk⟩ := List.mem_iff_getElem?.mp hp
    obtain ⟨h1, h2, q, h3, h4, h5⟩ := srcs_get hk
    have this : @LT.lt Nat _ p.l b := by rw [h4]; exact h q (List.mem_of_getElem? h3)
    refine ⟨nat_ne (by omega), nat_ne (by omega), fun p' hp' => ?_⟩
    obtain ⟨k', hk'⟩ := List.mem_iff_getElem?.mp hp'
    obtain ⟨g1, g2, _⟩ := srcs_get hk'
    exact nat_ne (by rw [g2]; omega)
  nd := fun j k p q e1 e2 e => by
    obtain ⟨_, g1, _⟩ := srcs_get e1
    obtain ⟨_, g2, _⟩ := srcs_get e2
    have : b + j = b + k := by rw [← g1, ← g2]; exact e
    omega
end
theorem meets_new (qs : List (Addr × Array Value)) (hn : qs.length ≤ sizeLine) :
    Meets (Builtin.«zip.__new__» ⟨.type "zip" :: qs.map fun q => Value.ref q.1, []⟩) (fun _ R s => (∀ q ∈ qs, Sq1 s.heap q) ∧
      ∀ h', Zst h' (s.heap.objs.size + qs.length + 2) (s.heap.objs.size + qs.length) (s.heap.objs.size + qs.length + 1) (srcs s.heap.objs.size qs) 0 .none false → (∀ c o, s.heap.get? c = some o → h'.get? c = some o) → h'.objs.size = s.heap.objs.size + qs.length + 3 →
      R (.ok (.ret (.ref (s.heap.objs.size + qs.length + 2)))) { s with heap := h' }) :=
  .of_wp fun prog w A R s h => by
    obtain ⟨hp, g, d, tk, os⟩ := s; obtain ⟨hq, h⟩ := h
    have hsub := sub_zip
    unfold Builtin.«zip.__new__» Builtin.SmallTypes.iterAll
    wp_walk using wpAny_forIn_list _ (fun (rest : List Value) (b : Array Value) s' => ∃ (qd qr : List (Addr × Array Value)) (h2 : Heap), qs = qd ++ qr ∧ rest = qr.map (fun q => Value.ref q.1) ∧ s' = ⟨h2, g, d, tk, os⟩ ∧ b = ((srcs hp.objs.size qd).map fun p => Value.ref p.it).toArray ∧
      h2.objs.size = hp.objs.size + qd.length ∧ (∀ c o, hp.get? c = some o → h2.get? c = some o) ∧ ∀ p ∈ srcs hp.objs.size qd, St1 h2 p.it p.l 0 p.xs) _
    case turn =>
      rintro x rest b s' ⟨qd, qr, h2, eq, er, rfl, rfl, hs, hk, hst⟩
      cases qr with
      | nil => cases er
      | cons q qr =>
        simp only [List.map_cons, List.cons.injEq] at er
        obtain ⟨rfl, rfl⟩ := er
        have mem : q ∈ qs := by rw [eq]; simp
        have sq : Sq1 h2 q := (hq q mem).at fun o e => hk _ o e
        refine wpAny_bind (wpAny_holding (iter_ sq fun h3 g1 g2 g3 => wpAny_pure ?_))
        refine ⟨qd ++ [q], qr, h3, by rw [eq]; simp, rfl, rfl, ?_, ?_, fun c o e => g2 c o (hk c o e), fun p hp => ?_⟩
        · show Array.push _ (Value.ref h2.objs.size) = _
          rw [srcs_app, hs]
          simp [srcs]
        · rw [g1]
          show h2.objs.size + 1 = _
          rw [hs]; simp; omega
        · rw [srcs_app] at hp
          rcases List.mem_append.mp hp with z | z
          · exact (hst p z).at (fun o e => g2 _ o e) (fun o e => g2 _ o e)
          · simp only [srcs, List.mem_singleton] at z
            subst z
            rw [← hs]
            exact g3
    case fin =>
      rintro b s' ⟨qd, qr, h2, eq, er, rfl, rfl, hs, hk, hst⟩
      have z : qr = [] := List.map_eq_nil_iff.mp er.symm
      subst z
      rw [List.append_nil] at eq
      subst eq
      refine wpAny_pure ?_
      have l1 : ((srcs hp.objs.size qs).map fun p => Value.ref p.it).length = qs.length := by rw [List.length_map, srcs_len]
      refine wpAny_bind (new_tup (s := ⟨h2, g, d, tk, os⟩) (by rw [List.toList_toArray, l1]; exact hn) fun h3 s3 k3 g3 => ?_)
      refine wpAny_bind (new_tup (s := ⟨h3, g, d, tk, os⟩) (by rw [List.length_map, List.toList_toArray, l1]; exact hn) fun h4 s4 k4 g4 => ?_)
      refine wpAny_bind (new_rec (s := ⟨h4, g, d, tk, os⟩) fun h5 s5 k5 g5 => ?_)
      refine wpAny_pure ⟨_, rfl, ?_⟩
      have e0 : h2.objs.size = hp.objs.size + qs.length := hs
      have e1 : h3.objs.size = hp.objs.size + qs.length + 1 := by rw [s3]; show h2.objs.size + 1 = _; rw [e0]
      have e2 : h4.objs.size = hp.objs.size + qs.length + 2 := by rw [s4]; show h3.objs.size + 1 = _; rw [e1]
      have e3 : h5.objs.size = hp.objs.size + qs.length + 3 := by rw [s5]; show h4.objs.size + 1 = _; rw [e2]
      simp only [e0, e1, e2] at g3 g4 g5
      show R (.ok (.ret (.ref h4.objs.size))) _
      rw [e2]
      refine h h5 ⟨g5, k5 _ _ (k4 _ _ ?_), ⟨_, ?_, k5 _ _ g4⟩, fun p hp' => ?_⟩ (fun c o e => k5 c o (k4 c o (k3 c o (hk c o e)))) e3
      · exact g3
      · rw [List.size_toArray, List.length_map, l1, srcs_len]
      · exact (hst p hp').at (fun o e => k5 _ o (k4 _ o (k3 _ o e))) (fun o e => k5 _ o (k4 _ o (k3 _ o e)))
    case h => exact ⟨[], qs, hp, rfl, rfl, rfl, rfl, rfl, fun _ _ e => e, fun p hp => nomatch hp⟩
end PZ

set_option Elab.async false
set_option maxRecDepth 100000
set_option maxHeartbeats 2000000
/-! PZ3: zip of any number, walked. -/
namespace PZ
open PySem PySem.Spec PyProof.Rows
open L2 (V HO Hp upd upd_same upd_ne SqL SqT Cx Inv TE TA TI PE PA PI It Turn FpOk ObjOk Vals RelV PIE)
section
variable {prog : Program} {w : World} {A : Around} {E : Value → Shared → Prop} {s : Shared}
def F0 (f0 : Value) : Prop := f0 = .none ∨ ∃ a : Nat, f0 = rawInt a
theorem call_ {qs : List (Addr × Array Value)} {Q : Value → Shared → Prop} (hn : qs.length ≤ sizeLine) (hq : ∀ q ∈ qs, Sq1 s.heap q)
    (h : ∀ h', Zst h' (s.heap.objs.size + qs.length + 2) (s.heap.objs.size + qs.length) (s.heap.objs.size + qs.length + 1) (srcs s.heap.objs.size qs) 0 .none false → (∀ c o, s.heap.get? c = some o → h'.get? c = some o) →
      h'.objs.size = s.heap.objs.size + qs.length + 3 → Q (.ref (s.heap.objs.size + qs.length + 2)) { s with heap := h' }) : wpAny (model prog w) A (call (.type "zip") (qs.map fun q => Value.ref q.1)) Q E s :=
  callType_new F.called_zip (by decide) (ty_call _) (new_call _) (fun obj => init_ok obj _) F.entry_zip_new (meets_new qs hn) ⟨hq, fun h' z k sz => ⟨⟨_, z.z, rfl⟩, h h' z k sz⟩⟩
theorem pyNext_ {z TI TO : Addr} {ps : List Src} {i : Nat} {f0 : Value} {b1 : Bool} {Q : Option Value → Shared → Prop} (hh : A.handled = none) (D : Ap z TI TO ps) (hn : ps.length ≤ sizeLine) (h0 : ps ≠ [])
    (hf : F0 f0) (S : Zst s.heap z TI TO ps i f0 b1)
    (hQ : ∀ (us : Array Value) h', us.size = ps.length → (∀ (k : Nat) (p : Src), ps[k]? = some p → ∃ x, p.xs[i]? = some x ∧ us[k]? = some x) → (∃ f1 b', F0 f1 ∧ Zst h' z TI TO ps (i + 1) f1 b') →
      h'.get? s.heap.objs.size = some (TupO us) → h'.objs.size = s.heap.objs.size + 1 → Kept z TO ps s.heap h' → Q (some (.ref s.heap.objs.size)) { s with heap := h' })
    (hE : (∃ p ∈ ps, p.xs[i]? = none) → ∀ h', Kept z TO ps s.heap h' → Q none { s with heap := h' }) :
    wpAny (model prog w) A (pyNext (.ref z)) Q E s := by
  have hT : s.TypeIs (.ref z) "zip" := ⟨_, S.z, rfl⟩
  unfold pyNext
  refine wpAny_bind (wpAny_attempt (wpAny_callSpecial?_slot (name := Str.ofString "__next__") hT F.slot_zip_next
    (wpAny_call_entry F.slot_zip_next hT F.entry_zip_next
      (zip_next hh D hn h0 hf S (fun us h' a1 a2 a3 a4 a5 a6 => wpAny_pure (hQ us h' a1 a2 a3 a4 a5 a6)) fun q h' e k he => ?_) (F.args_zip_next_1 _))))
  obtain ⟨o, ho, hc⟩ := he
  refine wpAny_bind (wpAny_isInstance (T := "StopIteration") (b := true) ⟨o, ho, hc⟩ isSubtype_stop ?_)
  exact wpAny_pure (hE q h' k)
theorem go_ {tg : Expr} {z TI TO T : Addr} {f0 : Value} {b1 : Bool} {Q : Unit → Shared → Prop} (hf : F0 f0) (hz : s.heap.get? z = some (ZipO f0 b1 TI TO))
    (hQ : ∀ h' f1, F0 f1 → h'.get? z = some (ZipO f1 b1 TI TO) → Heap.SameBut z s.heap h' → Q () { s with heap := h' }) : wpAny (model prog w) A (letOwnedTupleGo tg (.ref z) (.ref T)) Q E s := by
  have same : Q () s := hQ s.heap f0 hf hz ⟨rfl, fun _ _ => rfl⟩
  have two : wpAny (model prog w) A (do
      let o ← load z
      match o.cls, o.data with
      | .type n, .fields vs =>
        if ["enumerate", "zip", "dict_itemiterator", "dict_reverseitemiterator", "odict_iterator", "itertools.zip_longest", "itertools.pairwise"].contains n && vs[0]? == some (rawInt T) then
          rule "for.unpacks-the-owned-tuple"
          updateField z 0 .none
      | _, _ => pure ()) Q E s := by
    refine wpAny_bind (wpAny_load hz ?_)
    show wpAny _ _ (if (["enumerate", "zip", "dict_itemiterator", "dict_reverseitemiterator", "odict_iterator", "itertools.zip_longest", "itertools.pairwise"].contains "zip" &&
        (#[f0, .bool b1, .bool false, .ref TI, .ref TO] : Array Value)[0]? == some (rawInt T)) = true then _ else _) Q E s
    split
    · refine wpAny_bind (wpAny_rule ?_)
      show wpAny _ _ (setField (.ref z) 0 .none) Q E s
      exact wpAny_setField_rec hz (by simp) fun h' hz' hs' => hQ h' _ (.inl rfl) hz' hs'
    · exact wpAny_pure same
  unfold letOwnedTupleGo
  cases tg <;> first
    | exact two
    | exact wpAny_pure same
theorem iter_zip {z TI TO : Addr} {f0 : Value} {b1 : Bool} {Q : Value → Shared → Prop} (hz : s.heap.get? z = some (ZipO f0 b1 TI TO)) (h : Q (.ref z) s) : wpAny (model prog w) A (pyIter (.ref z)) Q E s := by
  have hT : s.TypeIs (.ref z) "zip" := ⟨_, hz, rfl⟩
  refine wpAny_pyIter_slot hT F.slot_zip_iter (wpAny_call_entry F.slot_zip_iter hT F.entry_zip_iter ?_ (F.args_zip_iter_1 _))
  show wpAny _ _ (ret (.ref z)) _ _ s
  exact wpAny_pure ⟨_, rfl, "zip", _, hT, F.slot_zip_next.lookup, h⟩
end
/-- a tuple (true) or a list -/
def Sqk (K : PySem.W.Frag) (H : Hp) (p : Bool × Addr) (xs : List V) : Prop := match p.1 with
  | true => SqT K H p.2 xs
  | false => SqL K H p.2 xs
def Itk (h : Heap) (it : Addr) (p : Bool × Addr) (i : Nat) : Prop := match p.1 with
  | true => h.IsTupleIter it p.2 i
  | false => h.IsListIter it p.2 i
theorem Itk.at {h h' : Heap} {it : Addr} {p : Bool × Addr} {i : Nat} (s : Itk h it p i) (k : ∀ o, h.get? it = some o → h'.get? it = some o) : Itk h' it p i := by
  obtain ⟨b, l⟩ := p
  cases b
  · obtain ⟨o, h1, h2⟩ := s; exact ⟨o, k o h1, h2⟩
  · obtain ⟨o, h1, h2⟩ := s; exact ⟨o, k o h1, h2⟩
theorem sqk {X : Cx} {pins : List (Addr × Obj)} {σ : L2.St} {H : Hp} {s : Shared} {p : Bool × Addr} {xs : List V} (I : Inv X pins σ H s) (h : Sqk X.K H p xs) : ∃ its : List Value, Vals xs its ∧ Sq1 s.heap (p.2, its.toArray) ∧
    ∀ it i, Itk s.heap it p i → St1 s.heap it p.2 i its.toArray := by
  obtain ⟨b, l⟩ := p
  cases b
  · obtain ⟨its, rv, q, _⟩ := I.list h
    exact ⟨its, rv, .inl q.isList, fun it i z => .inl ⟨z, q.isList⟩⟩
  · obtain ⟨its, rv, q, _⟩ := I.tuple h
    exact ⟨its, rv, .inr q, fun it i z => .inr ⟨z, q⟩⟩
/-- the items of all, in new tuples -/
def ItN (K : PySem.W.Frag) (ls : List (Bool × Addr)) : It :=
  ⟨fun i H => ∀ p ∈ ls, ∃ xs x, Sqk K H p xs ∧ xs[i]? = some x,
    fun i H v H' => ∃ T ys, v = .ref T ∧ H T = none ∧ H' = upd H T (.tup ys) ∧ ys.length = ls.length ∧ ∀ (k : Nat) (p : Bool × Addr) (y : V), ls[k]? = some p → ys[k]? = some y → ∀ xs, Sqk K H p xs → xs[i]? = some y,
    fun i H => (∀ p ∈ ls, ∃ xs, Sqk K H p xs) ∧ ∃ p ∈ ls, ∃ xs, Sqk K H p xs ∧ xs.length ≤ i⟩
theorem pick {α β : Type} {R : α → β → Prop} : ∀ {l : List α}, (∀ a ∈ l, ∃ b, R a b) → ∃ m : List β, m.length = l.length ∧ ∀ (k : Nat) (a : α) (b : β), l[k]? = some a → m[k]? = some b → R a b
  | [], _ => ⟨[], rfl, fun k a b e => by simp at e⟩
  | a :: r, h => by
    obtain ⟨b, hb⟩ := h a (List.mem_cons_self ..)
    obtain ⟨m, h1, h2⟩ := pick (l := r) fun a' ha => h a' (List.mem_cons_of_mem _ ha)
    refine ⟨b :: m, by simp [h1], fun k a' b' e1 e2 => ?_⟩
    cases k with
    | zero => simp at e1 e2; subst e1; subst e2; exact hb
    | succ k => simp at e1 e2; exact h2 k a' b' e1 e2
theorem srcs_its : ∀ {qs : List (Addr × Array Value)} {b : Nat}, (srcs b qs).map (fun p => Value.ref p.it) = (List.range' b qs.length).map Value.ref
  | [], _ => rfl
  | q :: r, b => by simp only [srcs, List.map_cons, List.length_cons, List.range'_succ]; rw [srcs_its]
def fpN (b n : Nat) : List Addr := (List.range' b (n + 3))
theorem fpN_mem {b n : Nat} {c : Addr} : c ∈ fpN b n ↔ @LE.le Nat _ b c ∧ @LT.lt Nat _ c (b + n + 3) := by
  unfold fpN
  rw [List.mem_range'_1]
  exact Iff.rfl
structure Tn (b : Nat) (ls : List (Bool × Addr)) (i : Nat) (h : Heap) (f0 : Value) (b1 : Bool) : Prop where
  hf : F0 f0
  z : h.get? (b + ls.length + 2) = some (ZipO f0 b1 (b + ls.length) (b + ls.length + 1))
  ti : h.get? (b + ls.length) = some (TupO ((List.range' b ls.length).map Value.ref).toArray)
  to : ∃ ks : Array Value, ks.size = ls.length ∧ h.get? (b + ls.length + 1) = some (TupO ks)
  it : ∀ (k : Nat) (p : Bool × Addr), ls[k]? = some p → Itk h (b + k) p i
/-- the sources with their items -/
def mkq (ls : List (Bool × Addr)) (m : List (Array Value)) : List (Addr × Array Value) := List.zipWith (fun p a => (p.2, a)) ls m
theorem mkq_len {ls : List (Bool × Addr)} {m : List (Array Value)} (h : m.length = ls.length) : (mkq ls m).length = ls.length := by simp [mkq, h]
theorem mkq_get {ls : List (Bool × Addr)} {m : List (Array Value)} {k : Nat} {q : Addr × Array Value} (e : (mkq ls m)[k]? = some q) : ∃ p, ls[k]? = some p ∧ m[k]? = some q.2 ∧ q.1 = p.2 := by
  unfold mkq at e
  rw [List.getElem?_zipWith] at e
  cases e1 : ls[k]? with
  | none => rw [e1] at e; simp at e
  | some p =>
    cases e2 : m[k]? with
    | none => rw [e1, e2] at e; simp at e
    | some a => rw [e1, e2] at e; simp at e; subst e; exact ⟨p, rfl, rfl, rfl⟩
theorem Tn.zst {b : Nat} {ls : List (Bool × Addr)} {i : Nat} {h : Heap} {f0 : Value} {b1 : Bool} (T : Tn b ls i h f0 b1) {m : List (Array Value)} (hm : m.length = ls.length)
    (hs : ∀ (k : Nat) (p : Bool × Addr) (a : Array Value), ls[k]? = some p → m[k]? = some a → ∀ it i, Itk h it p i → St1 h it p.2 i a) : Zst h (b + ls.length + 2) (b + ls.length) (b + ls.length + 1) (srcs b (mkq ls m)) i f0 b1 where
  z := T.z
  ti := by rw [srcs_its, mkq_len hm]; exact T.ti
  to := by rw [srcs_len, mkq_len hm]; exact T.to
  it := fun p hp => by
    obtain ⟨k, hk⟩ := List.mem_iff_getElem?.mp hp
    obtain ⟨h1, h2, q, h3, h4, h5⟩ := srcs_get hk
    obtain ⟨pl, g1, g2, g3⟩ := mkq_get h3
    have z := hs k pl q.2 g1 g2 (b + k) i (T.it k pl g1)
    rw [h4, h5, g3, show p.it = b + k from h2]
    exact z
theorem mkq_ap {b : Nat} {ls : List (Bool × Addr)} {m : List (Array Value)} (hm : m.length = ls.length) (hb : ∀ p ∈ ls, @LT.lt Nat _ p.2 b) : Ap (b + ls.length + 2) (b + ls.length) (b + ls.length + 1) (srcs b (mkq ls m)) := by
  have z := srcs_ap (qs := mkq ls m) (b := b) fun q hq => by
    obtain ⟨k, hk⟩ := List.mem_iff_getElem?.mp hq
    obtain ⟨p, g1, g2, g3⟩ := mkq_get hk
    rw [g3]
    exact hb p (List.mem_of_getElem? g1)
  rw [mkq_len hm] at z
  exact z
theorem St1.kind {h h' : Heap} {it : Addr} {p : Bool × Addr} {i j : Nat} {it0 : Addr} {xs : Array Value} (st : St1 h' it p.2 i xs) (st0 : St1 h it0 p.2 j xs) (k0 : Itk h it0 p j) (kp : ∀ o, h.get? p.2 = some o → h'.get? p.2 = some o) : Itk h' it p i := by
  obtain ⟨b, l⟩ := p
  cases b
  · rcases st with ⟨g1, g2⟩ | ⟨g1, o, g2, g3, _⟩
    · exact g1
    · rcases st0 with ⟨f1, o', f2, f3, _⟩ | ⟨⟨o', f1, f2, _⟩, _⟩
      · rw [kp _ f2] at g2; cases g2; rw [f3] at g3; exact absurd g3 (by simp)
      · obtain ⟨o2, e1, e2, _⟩ := k0
        rw [e1] at f1; cases f1; rw [e2] at f2; exact absurd f2 (by simp)
  · rcases st with ⟨g1, o, g2, g3, _⟩ | ⟨g1, g2⟩
    · rcases st0 with ⟨⟨o', f1, f2, _⟩, _⟩ | ⟨f1, o', f2, f3, _⟩
      · obtain ⟨o2, e1, e2, _⟩ := k0
        rw [e1] at f1; cases f1; rw [e2] at f2; exact absurd f2 (by simp)
      · rw [kp _ f2] at g2; cases g2; rw [f3] at g3; exact absurd g3 (by simp)
    · exact g1
theorem Tn.obj {b : Nat} {ls : List (Bool × Addr)} {i : Nat} {h : Heap} {f0 : Value} {b1 : Bool} (T : Tn b ls i h f0 b1) {c : Addr} (hc : c ∈ fpN b ls.length) : ∃ o, h.get? c = some o ∧ ∀ v, o.data ≠ .cell v := by
  obtain ⟨h1, h2⟩ := fpN_mem.mp hc
  by_cases q : @LT.lt Nat _ c (b + ls.length)
  · obtain ⟨k, hk⟩ : ∃ k : Nat, c = b + k := ⟨(c : Nat) - b, show @Eq Nat c _ by omega⟩
    subst hk
    have hk : k < ls.length := by have q : b + k < b + ls.length := q; omega
    have it := T.it k ls[k] (List.getElem?_eq_getElem hk)
    revert it
    generalize ls[k] = p
    obtain ⟨b, l⟩ := p
    cases b
    · rintro ⟨o, e1, _, e3⟩; exact ⟨o, e1, fun v z => by rw [e3] at z; cases z⟩
    · rintro ⟨o, e1, _, e3⟩; exact ⟨o, e1, fun v z => by rw [e3] at z; cases z⟩
  · have : (c = b + ls.length) ∨ (c = b + ls.length + 1) ∨ (c = b + ls.length + 2) := by
      have : @Eq Nat c (b + ls.length) ∨ @Eq Nat c (b + ls.length + 1) ∨ @Eq Nat c (b + ls.length + 2) := by omega
      exact this
    rcases this with e | e | e
    · rw [e]; exact ⟨_, T.ti, fun v z => nomatch z⟩
    · rw [e]; obtain ⟨ks, _, e1⟩ := T.to; exact ⟨_, e1, fun v z => nomatch z⟩
    · rw [e]; exact ⟨_, T.z, fun v z => nomatch z⟩
theorem Tn.at {b : Nat} {ls : List (Bool × Addr)} {i : Nat} {h h' : Heap} {f0 : Value} {b1 : Bool} (T : Tn b ls i h f0 b1) (k : ∀ c ∈ fpN b ls.length, ∀ o, h.get? c = some o → h'.get? c = some o) : Tn b ls i h' f0 b1 where
  hf := T.hf
  z := k _ (fpN_mem.mpr ⟨by omega, by omega⟩) _ T.z
  ti := k _ (fpN_mem.mpr ⟨by omega, by omega⟩) _ T.ti
  to := by obtain ⟨ks, e, e1⟩ := T.to; exact ⟨ks, e, k _ (fpN_mem.mpr ⟨by omega, by omega⟩) _ e1⟩
  it := fun j p e => by
    have := (List.getElem?_eq_some_iff.mp e).1
    exact (T.it j p e).at fun o g => k _ (fpN_mem.mpr ⟨by omega, by omega⟩) o g
theorem fp_kept {b n : Nat} {qs : List (Addr × Array Value)} (hn : qs.length = n) {h h' : Heap} (k : Kept (b + n + 2) (b + n + 1) (srcs b qs) h h') : ∀ c o, c ∉ fpN b n → h.get? c = some o → h'.get? c = some o := fun c o hc g => by
  refine k c o (fun z => hc (by rw [z]; exact fpN_mem.mpr ⟨by omega, by omega⟩)) (fun z => hc (by rw [z]; exact fpN_mem.mpr ⟨by omega, by omega⟩)) (fun p hp z => hc ?_) g
  obtain ⟨j, hj⟩ := List.mem_iff_getElem?.mp hp
  obtain ⟨h1, h2, _⟩ := srcs_get hj
  rw [z]
  exact fpN_mem.mpr ⟨by rw [h2]; omega, by rw [h2]; omega⟩
/-- a world's reading of the sources -/
structure Rdg (X : Cx) (H : Hp) (h : Heap) (p : Bool × Addr) (a : Array Value) : Prop where
  sq : Sq1 h (p.2, a)
  kd : ∀ it i, Itk h it p i → St1 h it p.2 i a
  vs : ∃ xs, Sqk X.K H p xs ∧ Vals xs a.toList ∧ ∀ ys, Sqk X.K H p ys → ys = xs
theorem rdg {X : Cx} {pins : List (Addr × Obj)} {σ : L2.St} {H : Hp} {s : Shared} {p : Bool × Addr} {xs : List V} (I : Inv X pins σ H s) (h : Sqk X.K H p xs) : ∃ a, Rdg X H s.heap p a := by
  obtain ⟨its, rv, q, kd⟩ := sqk I h
  refine ⟨its.toArray, q, kd, xs, h, by simpa using rv, fun ys hy => ?_⟩
  obtain ⟨b, l⟩ := p
  cases b
  · exact I.list_inj hy h
  · exact I.tuple_inj hy h
theorem vals_of : ∀ {ys : List V} {us : List Value}, ys.length = us.length → (∀ (k : Nat) (y : V) (u : Value), ys[k]? = some y → us[k]? = some u → RelV y u) → Vals ys us
  | [], [], _, _ => .nil
  | y :: ys, u :: us, h, r => .cons (r 0 y u rfl rfl) (vals_of (by simpa using h) fun k y' u' e1 e2 => r (k + 1) y' u' (by simpa using e1) (by simpa using e2))
  | [], _ :: _, h, _ => by simp at h
  | _ :: _, [], h, _ => by simp at h
theorem turn_n {P : Program} {w : World} {K : PySem.W.Frag} {tg : Expr} {b : Nat} {ls : List (Bool × Addr)} (hn : ls.length ≤ sizeLine) (h0 : ls ≠ []) (hb : ∀ p ∈ ls, @LT.lt Nat _ p.2 b) :
    Turn P w K tg (ItN K ls) (fpN b ls.length) (b + ls.length + 2) (fun i h => ∃ f0 b1, Tn b ls i h f0 b1) where
  mem := fpN_mem.mpr ⟨by omega, by omega⟩
  obj := fun i h ⟨f0, b1, T⟩ c hc => T.obj hc
  keep := fun i h h' ⟨f0, b1, T⟩ k => ⟨f0, b1, T.at k⟩
  item := by
    intro X hP hw hK hc i pins s σ H E I hf st hg
    subst hP hw hK
    obtain ⟨f0, b1, T⟩ := st
    obtain ⟨m, hm, rd⟩ := pick (l := ls) (R := fun p a => Rdg X H s.heap p a) fun p hp => by
      obtain ⟨xs, x, e, _⟩ := hg p hp
      exact rdg I e
    have Z := T.zst hm fun k p a e1 e2 => (rd k p a e1 e2).kd
    have lq := mkq_len hm
    have bad : ¬ ∃ p ∈ srcs b (mkq ls m), p.xs[i]? = none := by
      rintro ⟨p, hp, e⟩
      obtain ⟨k, hk⟩ := List.mem_iff_getElem?.mp hp
      obtain ⟨h1, h2, q, h3, h4, h5⟩ := srcs_get hk
      obtain ⟨pl, g1, g2, g3⟩ := mkq_get h3
      obtain ⟨xs, x, e1, e2⟩ := hg pl (List.mem_of_getElem? g1)
      obtain ⟨zs, f1, f2, f3⟩ := (rd k pl q.2 g1 g2).vs
      rw [f3 xs e1] at e2
      obtain ⟨u, hu, _⟩ := f2.get e2
      rw [h5] at e
      rw [Array.getElem?_toList, e] at hu
      cases hu
    refine pyNext_ (I.ok.hd hc) (mkq_ap hm hb) (by rw [srcs_len, lq]; exact hn) (fun z => h0 (List.eq_nil_of_length_eq_zero (by rw [← lq, ← srcs_len (b := b), z]; rfl))) T.hf Z (fun us h' hus hit hz hT hsz hk => ?_) fun q => absurd q bad
    obtain ⟨f1, b', hf1, Z'⟩ := hz
    refine ⟨_, rfl, go_ (s := { s with heap := h' }) hf1 Z'.z fun h'' f2 hf2 z2 sb => ?_⟩
    rw [srcs_len, lq] at hus
    have zl : @LT.lt Nat _ (b + ls.length + 2) s.heap.objs.size := Heap.lt_size T.z
    obtain ⟨ys, hys, ry⟩ := pick (l := us.toList.zipIdx) (R := fun (u : Value × Nat) (y : V) => RelV y u.1 ∧ ∀ p, ls[u.2]? = some p → ∀ xs, Sqk X.K H p xs → xs[i]? = some y) fun ⟨u, k⟩ hu => by
      have e0 := List.mk_mem_zipIdx_iff_getElem?.mp hu
      rw [Array.getElem?_toList] at e0
      have hk : k < ls.length := by rw [← hus]; exact (Array.getElem?_eq_some_iff.mp e0).1
      have hk2 : k < (srcs b (mkq ls m)).length := by rw [srcs_len, lq]; exact hk
      obtain ⟨h1, h2, q, h3, h4, h5⟩ := srcs_get (List.getElem?_eq_getElem hk2)
      obtain ⟨pl, g1, g2, g3⟩ := mkq_get h3
      obtain ⟨x, e1, e2⟩ := hit k _ (List.getElem?_eq_getElem hk2)
      rw [e0] at e2; cases e2
      obtain ⟨zs, f1, f2, f3⟩ := (rd k pl q.2 g1 g2).vs
      rw [h5] at e1
      obtain ⟨xs, x, e3, e4⟩ := hg pl (List.mem_of_getElem? g1)
      rw [f3 xs e3] at e4
      obtain ⟨u', hu', ru'⟩ := f2.get e4
      rw [Array.getElem?_toList, e1] at hu'; cases hu'
      refine ⟨x, ru', fun p ep xs2 hx2 => ?_⟩
      simp only at ep
      rw [g1] at ep; cases ep
      rw [f3 xs2 hx2]; exact e4
    have hyl : ys.length = ls.length := by rw [hys, List.length_zipIdx, Array.length_toList, hus]
    have at_ : ∀ (k : Nat) (y : V) (u : Value), ys[k]? = some y → us[k]? = some u → RelV y u ∧ ∀ p, ls[k]? = some p → ∀ xs, Sqk X.K H p xs → xs[i]? = some y := fun k y u e1 e2 =>
      ry k (u, k) y (List.mk_mem_zipIdx_iff_getElem?.mpr (by rw [Array.getElem?_toList]; exact e2) |> fun _ => by rw [List.getElem?_zipIdx, Array.getElem?_toList, e2]; simp) e1
    have rvs : Vals ys us.toList := vals_of (by rw [hyl, ← hus]; exact Array.length_toList.symm) fun k y u e1 e2 => (at_ k y u e1 (by rw [← Array.getElem?_toList]; exact e2)).1
    have hT2 : h''.get? s.heap.objs.size = some (TupO us) := (sb.2 _ (nat_ne (.inr zl))).trans hT
    have new : ObjOk X.prog X.w (upd H s.heap.objs.size (.tup ys)) h'' s.heap.objs.size (.tup ys) := ⟨by show ys.length ≤ sizeLine; rw [hyl]; exact hn, us.toList, rvs, ⟨_, hT2, rfl, _, by simp; rfl⟩⟩
    have kk : ∀ c o, c ∉ fpN b ls.length → s.heap.get? c = some o → h''.get? c = some o := fun c o hc g =>
      (sb.2 _ (fun z => hc (by rw [z]; exact fpN_mem.mpr ⟨by omega, by omega⟩))).trans (fp_kept lq hk c o hc g)
    have I1 : Inv X pins σ (upd H s.heap.objs.size (.tup ys)) { s with heap := h'' } := I.turnedNew (t' := s.toks) (ch := fpN b ls.length) kk hf (Nat.le_refl _) new
    refine ⟨.ref s.heap.objs.size, _, I1, rfl, ⟨_, ys, rfl, I.hok.fresh (Nat.le_refl _), rfl, hyl, fun k p y e1 e2 xs hx => ?_⟩, ⟨f2, b', ?_⟩, fun c hcm => ?_⟩
    · have hk1 : k < us.size := by rw [hus]; exact (List.getElem?_eq_some_iff.mp e1).1
      exact (at_ k y us[k] e2 (Array.getElem?_eq_getElem hk1)).2 p e1 xs hx
    · refine ⟨hf2, z2, ?_, ?_, fun k p ek => ?_⟩
      · have := (sb.2 _ (nat_ne (.inl (by omega)))).trans Z'.ti
        rw [srcs_its, lq] at this
        exact this
      · obtain ⟨ks, e1, e2⟩ := Z'.to
        rw [srcs_len, lq] at e1
        exact ⟨ks, e1, (sb.2 _ (nat_ne (.inl (by omega)))).trans e2⟩
      · have hk1 : k < ls.length := (List.getElem?_eq_some_iff.mp ek).1
        have hk2 : k < (srcs b (mkq ls m)).length := by rw [srcs_len, lq]; exact hk1
        have mem : (srcs b (mkq ls m))[k] ∈ srcs b (mkq ls m) := List.getElem_mem hk2
        obtain ⟨h1, h2, q, h3, h4, h5⟩ := srcs_get (List.getElem?_eq_getElem hk2)
        obtain ⟨pl, g1, g2, g3⟩ := mkq_get h3
        rw [ek] at g1; cases g1
        have st0 := (rd k p q.2 ek g2).kd (b + k) i (T.it k p ek)
        have st := Z'.it _ mem
        rw [h4, h5, g3, show (srcs b (mkq ls m))[k].it = b + k from h2] at st
        have pb : @LT.lt Nat _ p.2 b := hb p (List.mem_of_getElem? ek)
        have kp : ∀ o, s.heap.get? p.2 = some o → h''.get? p.2 = some o := fun o g => kk _ o (fun z => by have := (fpN_mem.mp z).1; omega) g
        have st'' : St1 h'' (b + k) p.2 (i + 1) q.2 := st.at (fun o g => (sb.2 _ (nat_ne (.inl (by omega)))).trans g) (fun o g => (sb.2 _ (nat_ne (.inl (by omega)))).trans g)
        exact st''.kind st0 (T.it k p ek) kp
    · have hlt : @LT.lt Nat _ c s.heap.objs.size := by
        have := (fpN_mem.mp hcm).2
        omega
      rw [upd_ne (nat_ne (.inl hlt))]
      exact (hf c hcm).1
  done := by
    intro X hP hw hK hc i pins s σ H E I hf st hg
    subst hP hw hK
    obtain ⟨f0, b1, T⟩ := st
    obtain ⟨ha, hend⟩ := hg
    obtain ⟨m, hm, rd⟩ := pick (l := ls) (R := fun p a => Rdg X H s.heap p a) fun p hp => by
      obtain ⟨xs, e⟩ := ha p hp
      exact rdg I e
    have Z := T.zst hm fun k p a e1 e2 => (rd k p a e1 e2).kd
    have lq := mkq_len hm
    refine pyNext_ (I.ok.hd hc) (mkq_ap hm hb) (by rw [srcs_len, lq]; exact hn) (fun z => h0 (List.eq_nil_of_length_eq_zero (by rw [← lq, ← srcs_len (b := b), z]; rfl))) T.hf Z (fun us h' hus hit hz hT hsz hk => ?_) fun q h' hk => ⟨rfl, I.turnedL (t' := s.toks) (ch := fpN b ls.length) (fp_kept lq hk) hf⟩
    exfalso
    obtain ⟨p, hp, xs, hx, hl⟩ := hend
    obtain ⟨k, ek⟩ := List.mem_iff_getElem?.mp hp
    have hk1 : k < ls.length := (List.getElem?_eq_some_iff.mp ek).1
    have hk2 : k < (srcs b (mkq ls m)).length := by rw [srcs_len, lq]; exact hk1
    obtain ⟨h1, h2, q, h3, h4, h5⟩ := srcs_get (List.getElem?_eq_getElem hk2)
    obtain ⟨pl, g1, g2, g3⟩ := mkq_get h3
    rw [ek] at g1; cases g1
    obtain ⟨x, e1, e2⟩ := hit k _ (List.getElem?_eq_getElem hk2)
    obtain ⟨zs, f1, f2, f3⟩ := (rd k p q.2 ek g2).vs
    have := f3 xs hx
    subst this
    have l2 := f2.length
    rw [h5] at e1
    have l3 := (Array.getElem?_eq_some_iff.mp e1).1
    have l4 : q.2.toList.length = q.2.size := Array.length_toList
    rw [l4] at l2
    omega
  self := fun A i s Q E ⟨f0, b1, T⟩ h => iter_zip T.z h
end PZ

set_option Elab.async false
set_option maxRecDepth 100000
set_option maxHeartbeats 2000000
/-! PZ4: zip of any number, as an iterable. -/
namespace PZ
open PySem PySem.Spec PyProof.Rows
open L2 (V HO Hp upd upd_same upd_ne SqL SqT Cx Inv TE TA TI PE PA PI It Turn FpOk ObjOk Vals RelV PIE Gl)
theorem rdg_kind {X : Cx} {pins : List (Addr × Obj)} {σ : L2.St} {H : Hp} {s : Shared} {p : Bool × Addr} {xs : List V} (I : Inv X pins σ H s) (h : Sqk X.K H p xs) : (p.1 = true → ∃ o, s.heap.get? p.2 = some o ∧ o.cls = .type "tuple") ∧ (p.1 = false → ∃ o, s.heap.get? p.2 = some o ∧ o.cls = .type "list") := by
  obtain ⟨b, l⟩ := p
  cases b
  · obtain ⟨its, rv, q, _⟩ := I.list h
    obtain ⟨o, h1, h2, _⟩ := q.isList
    exact ⟨fun z => (by cases z), fun _ => ⟨o, h1, h2⟩⟩
  · obtain ⟨its, rv, ⟨o, h1, h2, _⟩, _⟩ := I.tuple h
    exact ⟨fun _ => ⟨o, h1, h2⟩, fun z => (by cases z)⟩
theorem kind_of {h h' : Heap} {it : Addr} {p : Bool × Addr} {i : Nat} {xs : Array Value} (st : St1 h' it p.2 i xs) (k : (p.1 = true → ∃ o, h.get? p.2 = some o ∧ o.cls = .type "tuple") ∧ (p.1 = false → ∃ o, h.get? p.2 = some o ∧ o.cls = .type "list")) (kp : ∀ o, h.get? p.2 = some o → h'.get? p.2 = some o) : Itk h' it p i := by
  obtain ⟨b, l⟩ := p
  cases b
  · obtain ⟨o, e1, e2⟩ := k.2 rfl
    rcases st with ⟨g1, g2⟩ | ⟨g1, o', g2, g3, _⟩
    · exact g1
    · rw [kp _ e1] at g2; cases g2; rw [e2] at g3; exact absurd g3 (by simp)
  · obtain ⟨o, e1, e2⟩ := k.1 rfl
    rcases st with ⟨g1, o', g2, g3, _⟩ | ⟨g1, g2⟩
    · rw [kp _ e1] at g2; cases g2; rw [e2] at g3; exact absurd g3 (by simp)
    · exact g1
theorem mkq_map : ∀ {ls : List (Bool × Addr)} {m : List (Array Value)}, m.length = ls.length → (mkq ls m).map (fun q => Value.ref q.1) = ls.map fun p => Value.ref p.2
  | [], [], _ => rfl
  | p :: ls, a :: m, h => by
    show Value.ref p.2 :: (mkq ls m).map _ = _
    rw [mkq_map (by simpa using h)]; rfl
  | [], _ :: _, h => by simp at h
  | _ :: _, [], h => by simp at h
section
variable {X : Cx} {tg : Expr} {pins : List (Addr × Obj)} {σ : L2.St} {H : Hp} {R : It → Hp → Prop} {s : Shared}
theorem zip_made {ls : List (Bool × Addr)} (I : Inv X pins σ H s) (hn : ls.length ≤ sizeLine) (h0 : ls ≠ []) (hs : ∀ p ∈ ls, ∃ xs, Sqk X.K H p xs) (q : R (ItN X.K ls) H) :
    wpAny (model X.prog X.w) X.A (call (.type "zip") (ls.map fun p => Value.ref p.2)) (fun v s1 => wpAny (model X.prog X.w) X.A (pyIter v) (PIE X pins σ tg R) X.xe s1) X.xe s := by
  obtain ⟨m, hm, rd⟩ := pick (l := ls) (R := fun p a => Rdg X H s.heap p a) fun p hp => by
    obtain ⟨xs, e⟩ := hs p hp
    exact rdg I e
  have lq := mkq_len hm
  rw [← mkq_map hm]
  have rdq : ∀ q ∈ mkq ls m, Sq1 s.heap q := fun q hq => by
    obtain ⟨k, hk⟩ := List.mem_iff_getElem?.mp hq
    obtain ⟨p, g1, g2, g3⟩ := mkq_get hk
    have := (rd k p q.2 g1 g2).sq
    rw [← g3] at this
    exact this
  have hb : ∀ p ∈ ls, @LT.lt Nat _ p.2 s.heap.objs.size := fun p hp => by
    obtain ⟨k, hk⟩ := List.mem_iff_getElem?.mp hp
    have hk2 : k < m.length := by rw [hm]; exact (List.getElem?_eq_some_iff.mp hk).1
    exact (rd k p m[k] hk (List.getElem?_eq_getElem hk2)).sq.lt
  refine call_ (by rw [lq]; exact hn) rdq fun h' Z k sz => iter_zip Z.z ?_
  rw [lq] at Z
  rw [lq]
  have I2 : Inv X pins σ H { s with heap := h' } := I.kept (t' := s.toks) k
  refine ⟨s.heap.objs.size + ls.length + 2, fpN s.heap.objs.size ls.length, _, _, H, rfl, I2, turn_n hn h0 hb, ⟨.none, false, .inl rfl, Z.z, ?_, ?_, fun j p e => ?_⟩, fun c hc => ?_, q⟩
  · have := Z.ti
    rw [srcs_its, lq] at this
    exact this
  · obtain ⟨ks, e1, e2⟩ := Z.to
    rw [srcs_len, lq] at e1
    exact ⟨ks, e1, e2⟩
  · have hk1 : j < ls.length := (List.getElem?_eq_some_iff.mp e).1
    have hk2 : j < (srcs s.heap.objs.size (mkq ls m)).length := by rw [srcs_len, lq]; exact hk1
    obtain ⟨h1, h2, q, h3, h4, h5⟩ := srcs_get (List.getElem?_eq_getElem hk2)
    obtain ⟨pl, g1, g2, g3⟩ := mkq_get h3
    rw [e] at g1; cases g1
    have st := Z.it _ (List.getElem_mem hk2)
    rw [h4, h5, g3, show (srcs s.heap.objs.size (mkq ls m))[j].it = s.heap.objs.size + j from h2] at st
    obtain ⟨xs, hx⟩ := hs p (List.mem_of_getElem? e)
    exact kind_of st (rdg_kind I hx) fun o g => k _ o g
  · have hle := (fpN_mem.mp hc).1
    exact I.fpOk hle (I.hok.fresh hle)
end
theorem refs_of : ∀ {ls : List (Bool × Addr)} {us : List Value}, Vals (ls.map fun p => V.ref p.2) us → us = ls.map fun p => Value.ref p.2
  | [], _, h => by cases h; rfl
  | p :: ls, _, h => by
    cases h with
    | cons r rr => cases r; rw [refs_of rr]; rfl
def iZipN (K : PySem.W.Frag) (ta : TA) : TI := fun σ H R => ta σ H fun vs H1 => ∃ ls : List (Bool × Addr), vs = (ls.map fun p => V.ref p.2) ∧ ls.length ≤ sizeLine ∧ ls ≠ [] ∧ (∀ p ∈ ls, ∃ xs, Sqk K H1 p xs) ∧ R (ItN K ls) H1
theorem pi_zipN {X : Cx} {tg e e2 : Expr} {ta : TA} {p pos : Pos} (hg : Gl X "zip") (hm : X.mg "zip" = none) (ha : PA X [e, e2] ta)
    (hs : starEach [e, e2] X.env = (false, eval e X.env) :: starEach [e2] X.env := by rfl) (hpl : (backTo pos (starEach [e2] X.env)).any (·.1) = false := by rfl) :
    PI X tg (.Call (.Name "zip" p) [e, e2] [] pos) (iZipN X.K ta) := by
  refine ⟨fun pins s σ H R I h => ?_⟩
  refine Call_ (L2.ld_blt I hg hm PyProof.Rows.boot_zip (PyProof.Rows.callWith_type1 (L2.thn (ha.run pos pins s σ H _ I h) fun us s1 ⟨vs, H1, I1, r1, q1⟩ => ?_) hs hpl))
  obtain ⟨ls, rfl, hn, h0, hs, q⟩ := q1
  rw [refs_of r1]
  exact zip_made I1 hn h0 hs q
def iZipS (K : PySem.W.Frag) (te : TE) : TI := fun σ H R => te σ H fun v H1 => ∃ (a : Addr) (ls : List (Bool × Addr)), v = .ref a ∧ (SqT K H1 a (ls.map fun p => V.ref p.2) ∨ SqL K H1 a (ls.map fun p => V.ref p.2)) ∧ ls ≠ [] ∧ (∀ p ∈ ls, ∃ xs, Sqk K H1 p xs) ∧ R (ItN K ls) H1
theorem callWith_star {M : Model} {A : Around} {E : Value → Shared → Prop} {s : Shared} {env : Env} {pos p : Pos} {T : String} {e : Expr} {Q : Value → Shared → Prop}
    (h : wpAny M A (eval e env) (fun v s₁ => PySem.W.StarOf M A E v (fun vs s₂ => wpAny M A (call (.type T) vs) Q E s₂) s₁) E s)
    (he : starEach [.Starred e p] env = [(true, eval e env)] := by rfl) : wpAny M A (callWith pos (.type T) [] (backTo pos (starEach [.Starred e p] env)) []) Q E s := by
  rw [he]
  refine PySem.W.ks_call (P := fun _ => True) rfl (fun h _ => ⟨.machine, .inr (.inl rfl), ?_⟩) (PySem.W.ks_lone (wpAny_mono h (fun v s1 h1 => ?_) fun _ _ x => x))
  · exact PySem.W.Looks.of_pure rfl
  · unfold PySem.W.StarOf at h1 ⊢
    exact wpAny_mono h1 (fun b s2 h2 => ⟨h2.1, wpAny_mono h2.2 (fun vs s3 h3 => ⟨trivial, h3⟩) fun _ _ x => x⟩) fun _ _ x => x
theorem pi_zipS {X : Cx} {tg e : Expr} {te : TE} {p sp pos : Pos} (hg : Gl X "zip") (hm : X.mg "zip" = none) (he : PE X e te)
    (hs : starEach [.Starred e sp] X.env = [(true, eval e X.env)] := by rfl) : PI X tg (.Call (.Name "zip" p) [.Starred e sp] [] pos) (iZipS X.K te) := by
  refine ⟨fun pins s σ H R I h => ?_⟩
  refine Call_ (L2.ld_blt I hg hm PyProof.Rows.boot_zip (callWith_star (L2.thn (he.run pins s σ H _ I h) fun u s1 ⟨v, H1, I1, r1, q1⟩ => ?_) hs))
  obtain ⟨a, ls, rfl, hx, h0, hs, q⟩ := q1
  obtain rfl : u = Value.ref a := r1
  have hn : ls.length ≤ sizeLine := by
    rcases hx with z | z
    · obtain ⟨_, _, _, l⟩ := I1.tuple z; simpa using l
    · obtain ⟨_, _, _, l⟩ := I1.list z; simpa using l
  refine StX.star_any I1 hx fun us s2 I2 rv => ?_
  rw [refs_of rv]
  exact zip_made I2 hn h0 hs q
end PZ

set_option Elab.async false
set_option maxRecDepth 100000
/-! PC14: what is walked; for. -/
namespace PC
open PySem PySem.Spec PyProof.Rows
open L2 (V HO Hp upd upd_same upd_ne Rd SqL SqT Cx Inv TE TT TA TS TG TGs TI VK PE PT PW PA PK PS PSs PG PGs PI It R2 OpR CallR Un UB HOk ObjOk Env0 FnOk Sp XK Room frs CR EP Takes Ends)

/-- a world without lists in the making -/
def Wd.bare (W : Wd) : Wd := { W with hid := fun _ => none }
mutual
theorem RV.bare {adr : Nat → Addr} {K : Frag} {W : Wd} {x : PV} {v : V} : RV adr K W x v → RV adr K W.bare x v
  | .non => .non
  | .bl b => .bl b
  | .int i => .int i
  | .str i => .str i
  | .tup e r => .tup e (RVs.bare r)
  | .tupK e r => .tupK e (RVs.bare r)
  | .lst e r => .lst e (RVs.bare r)
  | .dct e k r => .dct e k (RVs.bare r)
  | .ref e => .ref e
  | .fn => .fn
  | .scr e => .scr e
  | .scrK e => .scrK e
  | .clo e h1 h2 r => .clo e h1 h2 (RCs.bare r)
theorem RVs.bare {adr : Nat → Addr} {K : Frag} {W : Wd} {x : List PV} {v : List V} : RVs adr K W x v → RVs adr K W.bare x v
  | .nil => .nil
  | .cons r rs => .cons (RV.bare r) (RVs.bare rs)
theorem RCs.bare {adr : Nat → Addr} {K : Frag} {W : Wd} {x : List PV} {v : List Addr} : RCs adr K W x v → RCs adr K W.bare x v
  | .nil => .nil
  | .cons e r rs => .cons e (RV.bare r) (RCs.bare rs)
end
theorem Wle.bare {W W' : Wd} (l : Wle W W') : Wle W.bare W' := ⟨l.rho, l.fz, l.fn, l.cv, l.co, fun a o e => by cases e⟩
theorem Wlk.bare {k : Nat} {W W' : Wd} (l : Wlk k W W') : Wlk k W.bare W' := ⟨l.rho, l.fz, l.fn, fun a o e => by cases e⟩
theorem Wlq.bare {t : Fm} {W W' : Wd} (l : Wlq t W W') : Wlq t W.bare W' := ⟨l.lk.bare, fun q => (l.le q).bare⟩
def Cnd (t : Fm) (W0 W1 : Wd) (xs : List PV) : Prop := Wle W0.bare W1 ∨ (t.st = true ∧ Wlk t.t W0.bare W1 ∧ hasTokL t.t xs = false)
theorem Cnd.rho {t : Fm} {W0 W1 : Wd} {xs : List PV} (c : Cnd t W0 W1 xs) {n : Nat} {a : Addr} (e : W0.rho n = some a) : W1.rho n = some a := c.elim (fun l => l.rho n a e) fun l => l.2.1.rho n a e
theorem Cnd.fz {t : Fm} {W0 W1 : Wd} {xs : List PV} (c : Cnd t W0 W1 xs) {n : Addr} {a : FO} (e : W0.fz n = some a) : W1.fz n = some a := c.elim (fun l => l.fz n a e) fun l => l.2.1.fz n a e
theorem Cnd.vals {t : Fm} {W0 W1 : Wd} {xs : List PV} (c : Cnd t W0 W1 xs) {adr : Nat → Addr} {K : Frag} {vs : List V} (r : RVs adr K W0 xs vs) : RVs adr K W1 xs vs := c.elim (fun l => r.bare.mono l) fun l => r.bare.lk l.2.1 l.2.2
theorem Cnd.le {t : Fm} {W0 W1 : Wd} {xs : List PV} (l : Wle W0 W1) : Cnd t W0 W1 xs := .inl l.bare
theorem Cnd.of0 {t : Fm} {W0 W1 : Wd} {xs : List PV} (l : Wlq t W0.bare W1) (b : (t.st && hasTokL t.t xs) = false) : Cnd t W0 W1 xs := by
  cases q : t.st with
  | false => exact .inl (l.le q)
  | true => rw [q] at b; exact .inr ⟨q, l.lk, b⟩
theorem Cnd.of {t : Fm} {W0 W1 : Wd} {xs : List PV} (l : Wlq t W0 W1) (b : (t.st && hasTokL t.t xs) = false) : Cnd t W0 W1 xs := .of0 l.bare b
/-- the turns of J are the items -/
def Walks (G : Gs) (t : Fm) (W0 : Wd) (its : Its) (J : It) : Prop := ∀ (B : Heap) (CA : Addr → V → Prop) (tkP : Addr → Clo → Prop) (W1 : Wd) (h1 : Hea) (H1 : Hp), Cnd t W0 W1 its.items → RH G B CA tkP W1 h1 H1 → gsOk its.gs h1 →
  (∀ (i : Nat) (x : PV), its.items[i]? = some x → J.go i H1 ∧ ∀ y H', J.yld i H1 y H' → ∃ W2, Wle W1 W2 ∧ RH G B CA tkP W2 h1 H' ∧ RV G.adr G.K W2 x y) ∧ ∀ i : Nat, its.items.length ≤ i → J.stop i H1
section
variable {G : Gs} {t : Fm} {W0 : Wd} {h0 : Hea}
/-- a list or tuple, later -/
theorem its_later {v : PV} {x : V} {its : Its} {b : Bool} {xs : List PV} (rv : RV G.adr G.K W0 v x) (e : itsOf h0 v = some its) (s : seqOf h0 v = some (b, xs)) : xs = its.items ∧ ∃ a, x = .ref a ∧ ∀ (B : Heap) (CA : Addr → V → Prop) (tkP : Addr → Clo → Prop) (W1 : Wd) (h1 : Hea) (H1 : Hp), Cnd t W0 W1 its.items → RH G B CA tkP W1 h1 H1 → gsOk its.gs h1 →
    ∃ vs, RVs G.adr G.K W1 its.items vs ∧ ((b = true ∧ SqT G.K H1 a vs) ∨ (b = false ∧ SqL G.K H1 a vs)) := by
  cases rv with
  | tup f r => cases e; cases s; exact ⟨rfl, _, rfl, fun B CA tkP W1 h1 H1 c q _ => ⟨_, c.vals r, .inl ⟨rfl, .inl (.inl (q.fz _ _ (c.fz f)))⟩⟩⟩
  | tupK f r => cases e; cases s; exact ⟨rfl, _, rfl, fun B CA tkP W1 h1 H1 c q _ => ⟨_, c.vals r, .inl ⟨rfl, .inr f⟩⟩⟩
  | lst f r => cases e; cases s; exact ⟨rfl, _, rfl, fun B CA tkP W1 h1 H1 c q _ => ⟨_, c.vals r, .inr ⟨rfl, .inl (.inl (q.fz _ _ (c.fz f)))⟩⟩⟩
  | @ref n a f =>
    simp only [itsOf] at e
    split at e
    · rename_i g
      cases e
      simp only [seqOf, g] at s
      cases s
      refine ⟨rfl, a, rfl, fun B CA tkP W1 h1 H1 c q gs => ?_⟩
      have e1 := gs (_, _) (List.mem_singleton.mpr rfl)
      obtain ⟨a', u, r1, r2, vs, r3, rr⟩ := q.live n _ e1 rfl
      rw [c.rho f] at r1; cases r1
      subst r3
      exact ⟨vs, rr, .inr ⟨rfl, .inl (.inl r2)⟩⟩
    · cases e
  | _ => cases e
theorem its_seq {v : PV} {its : Its} (e : itsOf h0 v = some its) : ∃ b, seqOf h0 v = some (b, its.items) := by
  unfold itsOf at e
  split at e
  · split at e
    · rename_i g
      cases e
      exact ⟨false, by simp only [seqOf, g]⟩
    · cases e
  · cases e; exact ⟨false, rfl⟩
  · cases e; exact ⟨true, rfl⟩
  · cases e
theorem walks_list {its : Its} {a : Addr} (L : ∀ (B : Heap) (CA : Addr → V → Prop) (tkP : Addr → Clo → Prop) (W1 : Wd) (h1 : Hea) (H1 : Hp), Cnd t W0 W1 its.items → RH G B CA tkP W1 h1 H1 → gsOk its.gs h1 → ∃ vs, RVs G.adr G.K W1 its.items vs ∧ SqL G.K H1 a vs) : Walks G t W0 its (L2.Itl G.K a) := fun B CA tkP W1 h1 H1 c r g => by
  obtain ⟨vs, rr, q⟩ := L B CA tkP W1 h1 H1 c r g
  refine ⟨fun i x e => ?_, fun i hi => ⟨vs, q, by rw [← rr.length]; exact hi⟩⟩
  obtain ⟨y, e1, r1⟩ := rr.get e
  refine ⟨⟨vs, y, q, e1⟩, fun y' H' ⟨z1, z2⟩ => ?_⟩
  subst z1
  have := z2 vs q
  rw [e1] at this; cases this
  exact ⟨W1, .refl _, r, r1⟩
theorem walks_tup {its : Its} {a : Addr} (L : ∀ (B : Heap) (CA : Addr → V → Prop) (tkP : Addr → Clo → Prop) (W1 : Wd) (h1 : Hea) (H1 : Hp), Cnd t W0 W1 its.items → RH G B CA tkP W1 h1 H1 → gsOk its.gs h1 → ∃ vs, RVs G.adr G.K W1 its.items vs ∧ SqT G.K H1 a vs) : Walks G t W0 its (L2.Itt G.K a) := fun B CA tkP W1 h1 H1 c r g => by
  obtain ⟨vs, rr, q⟩ := L B CA tkP W1 h1 H1 c r g
  refine ⟨fun i x e => ?_, fun i hi => ⟨vs, q, by rw [← rr.length]; exact hi⟩⟩
  obtain ⟨y, e1, r1⟩ := rr.get e
  refine ⟨⟨vs, y, q, e1⟩, fun y' H' ⟨z1, z2⟩ => ?_⟩
  subst z1
  have := z2 vs q
  rw [e1] at this; cases this
  exact ⟨W1, .refl _, r, r1⟩
theorem intsFrom_get : ∀ {n : Nat} {lo : Int} {i : Nat} {x : PV}, (intsFrom lo n)[i]? = some x → i < n ∧ x = .int (lo + i)
  | 0, _, _, _, e => by simp [intsFrom] at e
  | n + 1, lo, 0, x, e => by simp [intsFrom] at e; exact ⟨Nat.succ_pos _, by simp [e]⟩
  | n + 1, lo, i + 1, x, e => by
    simp only [intsFrom, List.getElem?_cons_succ] at e
    obtain ⟨h1, h2⟩ := intsFrom_get e
    exact ⟨by omega, by rw [h2]; congr 1; omega⟩
theorem intsFrom_len : ∀ {n : Nat} {lo : Int}, (intsFrom lo n).length = n
  | 0, _ => rfl
  | n + 1, lo => by simp [intsFrom, intsFrom_len]
theorem walks_range {lo : Int} {n : Nat} : Walks G t W0 ⟨[], intsFrom lo n⟩ (L2.Itr lo n) := fun B CA tkP W1 h1 H1 c r g => by
  refine ⟨fun i x e => ?_, fun i hi => by rw [intsFrom_len] at hi; exact hi⟩
  obtain ⟨h1, rfl⟩ := intsFrom_get e
  refine ⟨h1, fun y H' ⟨z1, z2⟩ => ?_⟩
  subst z1; subst z2
  exact ⟨W1, .refl _, r, .int _⟩
theorem numbered_get : ∀ {xs : List PV} {j : Int} {i : Nat} {x : PV}, (numbered j xs)[i]? = some x → ∃ y, xs[i]? = some y ∧ x = .tup [.int (j + i), y]
  | [], _, _, _, e => by simp [numbered] at e
  | y :: r, j, 0, x, e => by simp [numbered] at e; exact ⟨y, rfl, by simp [← e]⟩
  | y :: r, j, i + 1, x, e => by
    simp only [numbered, List.getElem?_cons_succ] at e
    obtain ⟨z, h1, h2⟩ := numbered_get e
    refine ⟨z, by simpa using h1, ?_⟩
    rw [h2, show j + 1 + (i : Int) = j + ((i + 1 : Nat) : Int) by omega]
theorem numbered_len : ∀ {xs : List PV} {j : Int}, (numbered j xs).length = xs.length
  | [], _ => rfl
  | _ :: r, j => by simp [numbered, numbered_len]
theorem numbered_tok : ∀ {xs : List PV} {j : Int}, hasTokL t.t (numbered j xs) = false → hasTokL t.t xs = false
  | [], _, _ => rfl
  | y :: r, j, h => by
    unfold numbered at h
    unfold hasTokL at h ⊢
    obtain ⟨h1, h2⟩ := Bool.or_eq_false_iff.mp h
    refine Bool.or_eq_false_iff.mpr ⟨?_, numbered_tok h2⟩
    simp [PV.hasTok, hasTokL] at h1
    exact h1
theorem walks_enum {its : Its} {a : Addr} (L : ∀ (B : Heap) (CA : Addr → V → Prop) (tkP : Addr → Clo → Prop) (W1 : Wd) (h1 : Hea) (H1 : Hp), Cnd t W0 W1 its.items → RH G B CA tkP W1 h1 H1 → gsOk its.gs h1 → ∃ vs, RVs G.adr G.K W1 its.items vs ∧ SqL G.K H1 a vs) : Walks G t W0 ⟨its.gs, numbered 0 its.items⟩ (L2.Ite G.K a) := fun B CA tkP W1 h1 H1 c r g => by
  obtain ⟨vs, rr, q⟩ := L B CA tkP W1 h1 H1 (c.imp id fun z => ⟨z.1, z.2.1, numbered_tok z.2.2⟩) r g
  refine ⟨fun i x e => ?_, fun i hi => ⟨vs, q, by rw [numbered_len] at hi; rw [← rr.length]; exact hi⟩⟩
  obtain ⟨pv, e0, rfl⟩ := numbered_get e
  obtain ⟨y, e1, r1⟩ := rr.get e0
  refine ⟨⟨vs, y, q, e1⟩, fun y' H' ⟨T, x, z1, z2, z3, z4⟩ => ?_⟩
  subst z1
  subst z3
  have := z4 vs q
  rw [e1] at this; cases this
  obtain ⟨le, r2⟩ := r.allocF (.tup [.int (i : Nat), y]) z2
  refine ⟨_, le, r2, .tup addF_at (.cons ?_ (.cons (r1.mono le) .nil))⟩
  rw [show (0 : Int) + (i : Int) = ((i : Nat) : Int) by omega]
  exact .int _
theorem zipped_get : ∀ {xs ys : List PV} {i : Nat} {x : PV}, (zipped xs ys)[i]? = some x → ∃ a b, xs[i]? = some a ∧ ys[i]? = some b ∧ x = .tup [a, b]
  | a :: xs, b :: ys, 0, x, e => by simp [zipped] at e; exact ⟨a, b, rfl, rfl, e.symm⟩
  | a :: xs, b :: ys, i + 1, x, e => by
    simp only [zipped, List.getElem?_cons_succ] at e
    obtain ⟨a, b, h1, h2, h3⟩ := zipped_get e
    exact ⟨a, b, by simpa using h1, by simpa using h2, h3⟩
  | [], ys, _, _, e => by simp [zipped] at e
  | _ :: _, [], _, _, e => by simp [zipped] at e
theorem zipped_len : ∀ {xs ys : List PV} {i : Nat}, (zipped xs ys).length ≤ i → xs.length ≤ i ∨ ys.length ≤ i
  | [], _, _, _ => .inl (Nat.zero_le _)
  | _ :: _, [], _, _ => .inr (Nat.zero_le _)
  | a :: xs, b :: ys, 0, h => by simp [zipped] at h
  | a :: xs, b :: ys, i + 1, h => by
    simp only [zipped, List.length_cons] at h
    rcases zipped_len (xs := xs) (ys := ys) (i := i) (by omega) with z | z
    · exact .inl (by simpa using z)
    · exact .inr (by simpa using z)
abbrev LaterS (G : Gs) (t : Fm) (W0 : Wd) (i : Its) (p : Bool × Addr) : Prop := ∀ (B : Heap) (CA : Addr → V → Prop) (tkP : Addr → Clo → Prop) (W1 : Wd) (h1 : Hea) (H1 : Hp), Cnd t W0 W1 i.items → RH G B CA tkP W1 h1 H1 → gsOk i.gs h1 → ∃ vs, RVs G.adr G.K W1 i.items vs ∧ PZ.Sqk G.K H1 p vs
theorem sqk_of {K : Frag} {H : Hp} {b : Bool} {a : Addr} {vs : List V} (z : (b = true ∧ SqT K H a vs) ∨ (b = false ∧ SqL K H a vs)) : PZ.Sqk K H (b, a) vs := by
  rcases z with ⟨rfl, z⟩ | ⟨rfl, z⟩ <;> exact z
theorem rvs_of {adr : Nat → Addr} {K : Frag} {W : Wd} : ∀ {xs : List PV} {vs : List V}, xs.length = vs.length → (∀ (k : Nat) (x : PV) (v : V), xs[k]? = some x → vs[k]? = some v → RV adr K W x v) → RVs adr K W xs vs
  | [], [], _, _ => .nil
  | x :: xs, v :: vs, h, r => .cons (r 0 x v rfl rfl) (rvs_of (by simpa using h) fun k x' v' e1 e2 => r (k + 1) x' v' (by simpa using e1) (by simpa using e2))
  | [], _ :: _, h, _ => by simp at h
  | _ :: _, [], h, _ => by simp at h
theorem walks_zip2 {i1 i2 : Its} {p1 p2 : Bool × Addr} (t1 : (t.st && hasTokL t.t i1.items) = false) (t2 : (t.st && hasTokL t.t i2.items) = false) (L1 : LaterS G t W0 i1 p1) (L2 : LaterS G t W0 i2 p2) :
    Walks G t W0 ⟨i1.gs ++ i2.gs, zipped i1.items i2.items⟩ (PZ.ItN G.K [p1, p2]) := fun B CA tkP W1 h1 H1 c r g => by
  obtain ⟨vs, rr, q⟩ := L1 B CA tkP W1 h1 H1 (c.imp id fun z => ⟨z.1, z.2.1, by rw [z.1] at t1; exact t1⟩) r (fun p hp => g p (List.mem_append_left _ hp))
  obtain ⟨us, ss, p⟩ := L2 B CA tkP W1 h1 H1 (c.imp id fun z => ⟨z.1, z.2.1, by rw [z.1] at t2; exact t2⟩) r (fun p hp => g p (List.mem_append_right _ hp))
  have two : ∀ q' ∈ [p1, p2], q' = p1 ∨ q' = p2 := fun q' h => by simpa using h
  refine ⟨fun i x e => ?_, fun i hi => ⟨fun q' hq => ?_, ?_⟩⟩
  · obtain ⟨pa, pb, ea, eb, rfl⟩ := zipped_get e
    obtain ⟨y, e1, r1⟩ := rr.get ea
    obtain ⟨z, e2, r2⟩ := ss.get eb
    refine ⟨fun q' hq => (two q' hq).elim (fun z0 => by rw [z0]; exact ⟨vs, y, q, e1⟩) fun z0 => by rw [z0]; exact ⟨us, z, p, e2⟩, fun y' H' ⟨T, ys, z1, z2, z3, z4, z5⟩ => ?_⟩
    subst z1
    subst z3
    match ys, z4 with
    | [x, w], _ =>
      have k1 := z5 0 p1 x rfl rfl vs q
      rw [e1] at k1; cases k1
      have k2 := z5 1 p2 w rfl rfl us p
      rw [e2] at k2; cases k2
      obtain ⟨le, r3⟩ := r.allocF (.tup [y, z]) z2
      exact ⟨_, le, r3, .tup addF_at (.cons (r1.mono le) (.cons (r2.mono le) .nil))⟩
  · exact (two q' hq).elim (fun z0 => by rw [z0]; exact ⟨vs, q⟩) fun z0 => by rw [z0]; exact ⟨us, p⟩
  · rcases zipped_len hi with z | z
    · exact ⟨p1, by simp, vs, q, by rw [← rr.length]; exact z⟩
    · exact ⟨p2, by simp, us, p, by rw [← ss.length]; exact z⟩
theorem lensMin_le : ∀ {is : List Its} {k : Nat} {i : Its}, is[k]? = some i → lensMin is ≤ i.items.length
  | [], _, _, e => by simp at e
  | [i], 0, _, e => by simp at e; subst e; exact Nat.le_refl _
  | [i], k + 1, _, e => by simp at e
  | i :: j :: r, 0, _, e => by simp at e; subst e; simp only [lensMin]; exact Nat.min_le_left ..
  | i :: j :: r, k + 1, _, e => by
    have z := lensMin_le (is := j :: r) (k := k) (by simpa using e)
    simp only [lensMin] at z ⊢
    exact Nat.le_trans (Nat.min_le_right ..) z
theorem lensMin_at : ∀ {is : List Its} {n : Nat}, is ≠ [] → lensMin is ≤ n → ∃ (k : Nat) (i : Its), is[k]? = some i ∧ i.items.length ≤ n
  | [], _, h, _ => absurd rfl h
  | [i], n, _, h => ⟨0, i, rfl, h⟩
  | i :: j :: r, n, _, h => by
    simp only [lensMin] at h
    rcases Nat.le_total i.items.length (lensMin (j :: r)) with z | z
    · exact ⟨0, i, rfl, by rw [Nat.min_eq_left z] at h; exact h⟩
    · rw [Nat.min_eq_right z] at h
      obtain ⟨k, i', e1, e2⟩ := lensMin_at (is := j :: r) (by simp) h
      exact ⟨k + 1, i', by simpa using e1, e2⟩
theorem walks_n {is : List Its} {ls : List (Bool × Addr)} (hl : is.length = ls.length) (ne : is ≠ []) (tk : ∀ i ∈ is, (t.st && hasTokL t.t i.items) = false) (L : ∀ (k : Nat) (i : Its) (p : Bool × Addr), is[k]? = some i → ls[k]? = some p → LaterS G t W0 i p) :
    Walks G t W0 ⟨is.flatMap (·.gs), (List.range (lensMin is)).map (column is)⟩ (PZ.ItN G.K ls) := fun B CA tkP W1 h1 H1 c r g => by
  have at_ : ∀ (k : Nat) (i : Its) (p : Bool × Addr), is[k]? = some i → ls[k]? = some p → ∃ vs, RVs G.adr G.K W1 i.items vs ∧ PZ.Sqk G.K H1 p vs := fun k i p e1 e2 =>
    L k i p e1 e2 B CA tkP W1 h1 H1 (c.imp id fun z => ⟨z.1, z.2.1, by have t1 := tk i (List.mem_of_getElem? e1); rw [z.1] at t1; exact t1⟩) r (fun q hq => g q (List.mem_flatMap.mpr ⟨i, List.mem_of_getElem? e1, hq⟩))
  have from_l : ∀ (k : Nat) (p : Bool × Addr), ls[k]? = some p → ∃ i, is[k]? = some i := fun k p e => ⟨_, List.getElem?_eq_getElem (by rw [hl]; exact (List.getElem?_eq_some_iff.mp e).1)⟩
  refine ⟨fun i x e => ?_, fun i hi => ⟨fun q hq => ?_, ?_⟩⟩
  · simp only [List.getElem?_map] at e
    rcases Nat.lt_or_ge i (lensMin is) with hi | hi
    · rw [List.getElem?_eq_getElem (by simpa using hi)] at e
      simp only [List.getElem_range, Option.map_some, Option.some.injEq] at e
      subst e
      have has : ∀ (k : Nat) (p : Bool × Addr), ls[k]? = some p → ∃ it vs v, is[k]? = some it ∧ RVs G.adr G.K W1 it.items vs ∧ PZ.Sqk G.K H1 p vs ∧ vs[i]? = some v ∧ RV G.adr G.K W1 ((it.items[i]?).getD .non) v := fun k p e => by
        obtain ⟨it, e1⟩ := from_l k p e
        obtain ⟨vs, rr, q⟩ := at_ k it p e1 e
        have hlt : i < it.items.length := Nat.lt_of_lt_of_le hi (lensMin_le e1)
        obtain ⟨v, e2, rv⟩ := rr.get (List.getElem?_eq_getElem hlt)
        exact ⟨it, vs, v, e1, rr, q, e2, by rw [List.getElem?_eq_getElem hlt]; exact rv⟩
      refine ⟨fun p hp => ?_, fun y' H' ⟨T, ys, z1, z2, z3, z4, z5⟩ => ?_⟩
      · obtain ⟨k, hk⟩ := List.mem_iff_getElem?.mp hp
        obtain ⟨it, vs, v, _, _, q, e2, _⟩ := has k p hk
        exact ⟨vs, v, q, e2⟩
      · subst z1
        subst z3
        obtain ⟨le, r3⟩ := r.allocF (.tup ys) z2
        refine ⟨_, le, r3, .tup addF_at (rvs_of (by rw [List.length_map, hl, z4]) fun k x v e1 e2 => ?_)⟩
        have hk : k < ls.length := by rw [← z4]; exact (List.getElem?_eq_some_iff.mp e2).1
        obtain ⟨it, vs, v', e3, _, q, e4, rv⟩ := has k ls[k] (List.getElem?_eq_getElem hk)
        have e5 := z5 k _ v (List.getElem?_eq_getElem hk) e2 vs q
        rw [e4] at e5; cases e5
        rw [List.getElem?_map, e3] at e1
        simp only [Option.map_some, Option.some.injEq] at e1
        subst e1
        exact rv.mono le
    · rw [List.getElem?_eq_none (by simpa using hi)] at e; cases e
  · obtain ⟨k, hk⟩ := List.mem_iff_getElem?.mp hq
    obtain ⟨it, e1⟩ := from_l k q hk
    obtain ⟨vs, _, z⟩ := at_ k it q e1 hk
    exact ⟨vs, z⟩
  · have hi : lensMin is ≤ i := by simpa using hi
    obtain ⟨k, it, e1, e2⟩ := lensMin_at ne hi
    have hk : k < ls.length := by rw [← hl]; exact (List.getElem?_eq_some_iff.mp e1).1
    obtain ⟨vs, rr, z⟩ := at_ k it ls[k] e1 (List.getElem?_eq_getElem hk)
    exact ⟨ls[k], List.getElem_mem hk, vs, z, by rw [← rr.length]; exact e2⟩
end
abbrev WI := Env → Hea → (Its → Hea → Prop) → KX → Prop
def LI (G : Gs) (X : Cx) (t : Fm) (Wx : L2.WX) (w : WI) : TI := fun σ H R => ∃ W env h k Xp, RS G X t W env h σ H ∧ w env h k Xp ∧ (∀ W' its h' H' J, Wle W W' → RS G X t W' env h' σ H' → Walks G t W' its J → k its h' → R J H') ∧ CX G X t Wx W env σ Xp
theorem pi_imp {X : Cx} {tg e : Expr} {t t' : TI} (h : PI X tg e t) (i : ∀ σ H Q, t' σ H Q → t σ H Q) : PI X tg e t' := ⟨fun pins s σ H R I q => h.run pins s σ H R I (i σ H R q)⟩
section
variable {G : Gs} {X : Cx} {t : Fm} {Wx : L2.WX} {O : Orc} {tg : Expr} {pos p : Pos}
theorem li_e {c : CE} {e : Expr} (hK : X.K = G.K) (he : PE X e (LE G X t Wx (wpE O c))) : PI X tg e (LI G X t Wx (wpI O (.e c))) := by
  refine ⟨fun pins s σ H R I q => ?_⟩
  obtain ⟨W, env, h, k, Xp, rs, w, kk, cx⟩ := q
  simp only [wpI] at w
  refine L2.thn (he.run pins s σ H (fun x H1 => ∃ W1 v its h1, Wle W W1 ∧ RS G X t W1 env h1 σ H1 ∧ RV G.adr G.K W1 v x ∧ itsOf h1 v = some its ∧ k its h1) I ⟨W, env, h, _, Xp, rs, w, fun W1 v h1 x H1 le r1 rv q1 => ?_, cx⟩) fun u s1 ⟨x, H1, I1, ru, W1, v, its, h1, le, r1, rv, e1, q1⟩ => ?_
  · dsimp only at q1
    split at q1
    · rename_i its e1
      exact ⟨W1, v, its, h1, le, r1, rv, e1, q1⟩
    · exact q1.elim
  · obtain ⟨b, es⟩ := its_seq e1
    obtain ⟨_, a, rfl, L⟩ := its_later (t := t) rv e1 es
    cases ru
    have nf : ∀ c ∈ [s1.heap.objs.size], L2.FpOk X pins H1 c := fun c hc => by
      rw [List.mem_singleton.mp hc]
      exact I1.fpOk (Nat.le_refl _) (I1.hok.fresh (Nat.le_refl _))
    have keep : ∀ o : Obj, Inv X pins σ H1 { s1 with heap := s1.heap.push o } := fun o => I1.kept (t' := s1.toks) fun c u z => Heap.get?_push_of_some _ z
    have gs0 : gsOk its.gs h1 := by
      unfold itsOf at e1
      split at e1
      · split at e1
        · rename_i g
          cases e1
          exact fun pr hp => by rw [List.mem_singleton.mp hp]; exact g
        · cases e1
      · cases e1; exact fun pr hp => by cases hp
      · cases e1; exact fun pr hp => by cases hp
      · cases e1
    obtain ⟨vs, rr, q⟩ := L _ _ _ W1 h1 H1 (.le (.refl _)) r1.toRH gs0
    cases b with
    | false =>
      replace q : SqL G.K H1 a vs := q.elim (fun z => (nomatch z.1)) fun z => z.2
      rw [← hK] at q
      obtain ⟨items, rv2, pl, _⟩ := I1.list q
      refine wpAny_pyIter_list pl.isList ⟨s1.heap.objs.size, [s1.heap.objs.size], _, L2.Itl X.K a, H1, rfl, keep _, L2.turn_list a _, ⟨_, Heap.get?_push_size _ rfl, rfl, rfl⟩, nf, ?_⟩
      refine kk W1 its h1 H1 _ le r1 ?_ q1
      rw [hK]
      refine walks_list fun B CA tkP W2 h2 H2 c r g => ?_
      obtain ⟨vs, rr, z⟩ := L B CA tkP W2 h2 H2 c r g
      rcases z with ⟨z, _⟩ | ⟨_, z⟩
      · cases z
      · exact ⟨vs, rr, z⟩
    | true =>
      replace q : SqT G.K H1 a vs := q.elim (fun z => z.2) fun z => nomatch z.1
      rw [← hK] at q
      obtain ⟨items, rv2, pl, _⟩ := I1.tuple q
      refine wpAny_pyIter_tuple (show s1.heap.IsTuple a items.toArray from pl) ⟨s1.heap.objs.size, [s1.heap.objs.size], _, L2.Itt X.K a, H1, rfl, keep _, L2.turn_tuple a _, ⟨_, Heap.get?_push_size _ rfl, rfl, rfl⟩, nf, ?_⟩
      refine kk W1 its h1 H1 _ le r1 ?_ q1
      rw [hK]
      refine walks_tup fun B CA tkP W2 h2 H2 c r g => ?_
      obtain ⟨vs, rr, z⟩ := L B CA tkP W2 h2 H2 c r g
      rcases z with ⟨_, z⟩ | ⟨z, _⟩
      · exact ⟨vs, rr, z⟩
      · cases z
theorem li_rng1 {c : CE} {e : Expr} (hg : L2.Gl X "range") (hm : X.mg "range" = none) (hs : isStar e = false) (he : PE X e (LE G X t Wx (wpE O c))) : PI X tg (.Call (.Name "range" p) [e] [] pos) (LI G X t Wx (wpI O (.rng1 c))) :=
  pi_imp (L2.pi_range1 hg hm (la_cons he la_nil (star_cons hs)) (star_cons hs)) fun σ H R q => by
  obtain ⟨W, env, h, k, Xp, rs, w, kk, cx⟩ := q
  simp only [wpI] at w
  refine ⟨W, env, h, fun vs h1 => match vs with
    | [v] => (match v with
      | .int j => -(2 ^ 62) ≤ j ∧ j < 2 ^ 62 ∧ k ⟨[], intsFrom 0 j.toNat⟩ h1
      | _ => False)
    | _ => False, Xp, rs, ?_, fun W1 vs h1 xs H1 le r1 rv q1 => ?_, cx⟩
  · simp only [wpEs]
    exact w
  · dsimp only at q1
    split at q1
    · split at q1
      · obtain ⟨a1, a2, q⟩ := q1
        cases rv with
        | cons r rr =>
          cases rr
          obtain rfl := r.intV
          exact ⟨_, rfl, a1, a2, kk W1 _ h1 H1 _ le r1 walks_range q⟩
      · exact q1.elim
    · exact q1.elim
theorem li_rng2 {c d : CE} {e e2 : Expr} (hg : L2.Gl X "range") (hm : X.mg "range" = none) (hs : isStar e = false) (hs2 : isStar e2 = false) (he : PE X e (LE G X t Wx (wpE O c))) (he2 : PE X e2 (LE G X t Wx (wpE O d))) : PI X tg (.Call (.Name "range" p) [e, e2] [] pos) (LI G X t Wx (wpI O (.rng2 c d))) :=
  pi_imp (L2.pi_range2 hg hm (la_cons he (la_cons he2 la_nil (star_cons hs2)) (star_cons hs)) (by rw [star_cons hs, star_cons hs2]; rfl) (star_cons hs2)) fun σ H R q => by
  obtain ⟨W, env, h, k, Xp, rs, w, kk, cx⟩ := q
  simp only [wpI] at w
  refine ⟨W, env, h, fun vs h1 => match vs with
    | [v, w] => (match v, w with
      | .int i, .int j => (-(2 ^ 62) ≤ i ∧ i < 2 ^ 62 ∧ -(2 ^ 62) ≤ j ∧ j < 2 ^ 62) ∧ k ⟨[], intsFrom i (j - i).toNat⟩ h1
      | _, _ => False)
    | _ => False, Xp, rs, ?_, fun W1 vs h1 xs H1 le r1 rv q1 => ?_, cx⟩
  · simp only [wpEs]
    exact w
  · dsimp only at q1
    split at q1
    · split at q1
      · obtain ⟨a1, q⟩ := q1
        cases rv with
        | cons r rr =>
          cases rr with
          | cons r2 rr =>
            cases rr
            obtain rfl := r.intV
            obtain rfl := r2.intV
            exact ⟨_, _, rfl, a1, kk W1 _ h1 H1 _ le r1 walks_range q⟩
      · exact q1.elim
    · exact q1.elim
theorem gs_now {h1 : Hea} {v : PV} {its : Its} (e1 : itsOf h1 v = some its) : gsOk its.gs h1 := by
  unfold itsOf at e1
  split at e1
  · split at e1
    · rename_i g
      cases e1
      exact fun pr hp => by rw [List.mem_singleton.mp hp]; exact g
    · cases e1
  · cases e1; exact fun pr hp => by cases hp
  · cases e1; exact fun pr hp => by cases hp
  · cases e1
theorem li_enum {c : CE} {e : Expr} {elts : List Expr} {kk0 : Nat} {tpos : Pos} (hK : X.K = G.K) (hg : L2.Gl X "enumerate") (hm : X.mg "enumerate" = none) (hs : isStar e = false) (he : PE X e (LE G X t Wx (wpE O c))) : PI X (.Tuple elts kk0 tpos) (.Call (.Name "enumerate" p) [e] [] pos) (LI G X t Wx (wpI O (.enum c))) :=
  pi_imp (L2.pi_enum hg hm (la_cons he la_nil (star_cons hs)) (star_cons hs)) fun σ H R q => by
  obtain ⟨W, env, h, k, Xp, rs, w, kk, cx⟩ := q
  simp only [wpI] at w
  refine ⟨W, env, h, fun vs h1 => match vs with
    | [v] => (match enumOf h1 v with
      | some its => k its h1
      | none => False)
    | _ => False, Xp, rs, ?_, fun W1 vs h1 xs H1 le r1 rv q1 => ?_, cx⟩
  · simp only [wpEs]
    exact w
  · dsimp only at q1
    split at q1
    · rename_i v
      split at q1
      · rename_i its0 e0
        cases rv with
        | cons r rr =>
          cases rr
          unfold enumOf at e0
          split at e0
          · rename_i xs es
            cases e1 : itsOf h1 v with
            | none => rw [e1] at e0; cases e0
            | some its =>
              rw [e1] at e0
              cases e0
              obtain ⟨_, a, rfl, L⟩ := its_later (t := t) r e1 es
              obtain ⟨vs, rr, z⟩ := L _ _ _ W1 h1 H1 (.le (.refl _)) r1.toRH (gs_now e1)
              refine ⟨a, vs, rfl, by rw [hK]; exact z.elim (fun z => (nomatch z.1)) fun z => z.2, ?_⟩
              rw [hK]
              refine kk W1 _ h1 H1 _ le r1 (walks_enum fun B CA tkP W2 h2 H2 c r g => ?_) q1
              obtain ⟨vs, rr, z⟩ := L B CA tkP W2 h2 H2 c r g
              exact ⟨vs, rr, z.elim (fun z => (nomatch z.1)) fun z => z.2⟩
          · cases e0
      · exact q1.elim
    · exact q1.elim
theorem li_zip {c d : CE} {e e2 : Expr} (hK : X.K = G.K) (ht : O.tok = t.t) (hst : O.st = t.st) (hg : L2.Gl X "zip") (hm : X.mg "zip" = none) (hs : isStar e = false) (hs2 : isStar e2 = false) (he : PE X e (LE G X t Wx (wpE O c))) (he2 : PE X e2 (LE G X t Wx (wpE O d))) :
    PI X tg (.Call (.Name "zip" p) [e, e2] [] pos) (LI G X t Wx (wpI O (.zip c d))) :=
  pi_imp (PZ.pi_zipN hg hm (la_cons he (la_cons he2 la_nil (star_cons hs2)) (star_cons hs)) (star_cons hs) (star_any (by simp [noStars, hs2]))) fun σ H R q => by
  obtain ⟨W, env, h, k, Xp, rs, w, kk, cx⟩ := q
  simp only [wpI] at w
  refine ⟨W, env, h, fun vs h1 => match vs with
    | [v, w] => (match zipOf O h1 v w with
      | some its => k its h1
      | none => False)
    | _ => False, Xp, rs, ?_, fun W1 vs h1 xs H1 le r1 rv q1 => ?_, cx⟩
  · simp only [wpEs]
    exact w
  · dsimp only at q1
    split at q1
    · rename_i v w
      split at q1
      · rename_i its0 e0
        cases rv with
        | cons r rr =>
          cases rr with
          | cons r' rr =>
            cases rr
            unfold zipOf at e0
            split at e0
            · rename_i s _ u _ iv iw es1 es2 e1 e2
              split at e0
              · rename_i cnd
                obtain ⟨t1, t2⟩ := cnd
                unfold Orc.dtyL at t1 t2
                rw [ht, hst] at t1 t2
                cases e0
                obtain ⟨_, a, rfl, L⟩ := its_later (t := t) r e1 es1
                obtain ⟨_, b, rfl, M⟩ := its_later (t := t) r' e2 es2
                obtain ⟨vs, _, z⟩ := L _ _ _ W1 h1 H1 (.le (.refl _)) r1.toRH (gs_now e1)
                obtain ⟨us, _, y⟩ := M _ _ _ W1 h1 H1 (.le (.refl _)) r1.toRH (gs_now e2)
                rw [hK]
                refine ⟨[(s, a), (u, b)], rfl, by show 2 ≤ sizeLine; decide, by simp, fun p hp => ?_, kk W1 _ h1 H1 _ le r1 (walks_zip2 t1 t2 (fun B CA tkP W2 h2 H2 c r g => ?_) fun B CA tkP W2 h2 H2 c r g => ?_) q1⟩
                · have : p = (s, a) ∨ p = (u, b) := by simpa using hp
                  rcases this with rfl | rfl
                  · exact ⟨vs, sqk_of z⟩
                  · exact ⟨us, sqk_of y⟩
                · obtain ⟨vs, rr, z⟩ := L B CA tkP W2 h2 H2 c r g
                  exact ⟨vs, rr, sqk_of z⟩
                · obtain ⟨vs, rr, z⟩ := M B CA tkP W2 h2 H2 c r g
                  exact ⟨vs, rr, sqk_of z⟩
              · cases e0
            · cases e0
      · exact q1.elim
    · exact q1.elim
theorem allIts_get : ∀ {dt : List PV → Bool} {h : Hea} {xs : List PV} {is : List Its}, allIts dt h xs = some is → is.length = xs.length ∧ (∀ i ∈ is, dt i.items = false) ∧ ∀ (k : Nat) (x : PV) (i : Its), xs[k]? = some x → is[k]? = some i → itsOf h x = some i
  | dt, h, [], is, e => by simp [allIts] at e; subst e; exact ⟨rfl, fun i hi => (by simp at hi), fun k x i e1 => (by simp at e1)⟩
  | dt, h, v :: r, is, e => by
    unfold allIts at e
    split at e
    · rename_i i is' e1 e2
      split at e
      · rename_i e3
        cases e
        obtain ⟨h1, h2, h3⟩ := allIts_get e2
        refine ⟨by simp [h1], fun j hj => ?_, fun k x j g1 g2 => ?_⟩
        · rcases List.mem_cons.mp hj with rfl | z
          · exact e3
          · exact h2 j z
        · cases k with
          | zero => simp at g1 g2; subst g1; subst g2; exact e1
          | succ k => simp at g1 g2; exact h3 k x j g1 g2
      · cases e
    · cases e
theorem li_zipS {c : CE} {e : Expr} {sp : Pos} (hK : X.K = G.K) (ht : O.tok = t.t) (hst : O.st = t.st) (hg : L2.Gl X "zip") (hm : X.mg "zip" = none) (he : PE X e (LE G X t Wx (wpE O c))) :
    PI X tg (.Call (.Name "zip" p) [.Starred e sp] [] pos) (LI G X t Wx (wpI O (.zipS c))) :=
  pi_imp (PZ.pi_zipS hg hm he rfl) fun σ H R q => by
  obtain ⟨W, env, h, k, Xp, rs, w, kk, cx⟩ := q
  simp only [wpI] at w
  refine ⟨W, env, h, _, Xp, rs, w, fun W1 v h1 x H1 le r1 rv q1 => ?_, cx⟩
  dsimp only at q1
  split at q1
  · rename_i its0 e0
    unfold zipSOf at e0
    split at e0
    · rename_i b x0 xs0 es
      cases e2 : allIts O.dtyL h1 (x0 :: xs0) with
      | none => rw [e2] at e0; cases e0
      | some is =>
        rw [e2] at e0
        simp only [Option.map_some, Option.some.injEq] at e0
        subst e0
        obtain ⟨a1, a2, a3⟩ := allIts_get e2
        obtain ⟨a, vs, rfl, rr, z⟩ := r1.toRH.seq rv es
        obtain ⟨ls, hl, hp⟩ := PZ.pick (l := is.zipIdx) (R := fun (u : Its × Nat) (p : Bool × Addr) => vs[u.2]? = some (V.ref p.2) ∧ LaterS G t W1 u.1 p ∧ ∃ ys, PZ.Sqk G.K H1 p ys) fun ⟨i, k⟩ hu => by
          have e3 := List.mk_mem_zipIdx_iff_getElem?.mp hu
          have hk : k < (x0 :: xs0).length := by rw [← a1]; exact (List.getElem?_eq_some_iff.mp e3).1
          have e4 := List.getElem?_eq_getElem hk
          have e5 := a3 k _ i e4 e3
          obtain ⟨v, e6, rv6⟩ := rr.get e4
          obtain ⟨b', e7⟩ := its_seq e5
          obtain ⟨_, a', rfl, L⟩ := its_later (t := t) rv6 e5 e7
          obtain ⟨ys, _, y⟩ := L _ _ _ W1 h1 H1 (.le (.refl _)) r1.toRH (gs_now e5)
          exact ⟨(b', a'), e6, fun B CA tkP W2 h2 H2 c r g => by
            obtain ⟨vs, rr, z⟩ := L B CA tkP W2 h2 H2 c r g
            exact ⟨vs, rr, sqk_of z⟩, ys, sqk_of y⟩
        rw [List.length_zipIdx] at hl
        have at_ : ∀ (k : Nat) (i : Its) (p : Bool × Addr), is[k]? = some i → ls[k]? = some p → vs[k]? = some (V.ref p.2) ∧ LaterS G t W1 i p ∧ ∃ ys, PZ.Sqk G.K H1 p ys := fun k i p e3 e4 => hp k (i, k) p (by rw [List.getElem?_zipIdx, e3]; simp) e4
        have ev : vs = ls.map fun p => V.ref p.2 := by
          refine List.ext_getElem? fun k => ?_
          rw [List.getElem?_map]
          cases e3 : ls[k]? with
          | some p =>
            have hk : k < is.length := by rw [← hl]; exact (List.getElem?_eq_some_iff.mp e3).1
            exact (at_ k _ p (List.getElem?_eq_getElem hk) e3).1
          | none =>
            have l1 : ls.length ≤ k := List.getElem?_eq_none_iff.mp e3
            have l2 := rr.length
            exact List.getElem?_eq_none (by omega)
        have ne : is ≠ [] := fun z => by rw [z] at a1; simp at a1
        subst ev
        rw [hK]
        refine ⟨a, ls, rfl, z.elim (fun z => .inl z.2) fun z => .inr z.2, fun z => ?_, fun p hp => ?_, kk W1 _ h1 H1 _ le r1 (walks_n hl.symm ne (fun i hi => ?_) fun k i p e3 e4 => (at_ k i p e3 e4).2.1) q1⟩
        · rw [z] at hl
          exact ne (List.eq_nil_of_length_eq_zero hl.symm)
        · obtain ⟨k, hk⟩ := List.mem_iff_getElem?.mp hp
          have hk2 : k < is.length := by rw [← hl]; exact (List.getElem?_eq_some_iff.mp hk).1
          exact (at_ k _ p (List.getElem?_eq_getElem hk2) hk).2.2
        · have := a2 i hi
          unfold Orc.dtyL at this
          rw [ht, hst] at this
          exact this
    · cases e0
  · exact q1.elim
/-- for target in .. -/
theorem ls_for {g : CT} {it : CI} {b : CSs} {iter : Expr} {body : List Stmt} (hp : PassesOwn (model X.prog X.w) X.A X.env X.xe) (hc : X.calm = true) (ht : O.tok = t.t) (hst : O.st = t.st) (hs : ∀ x, foldedSetIterable iter X.env x = pure x) (hi : PI X tg iter (LI G X t Wx (wpI O it))) (hg : PG X tg (LG G X t g.slots (wpT O g))) (hb : PSs X body (LS G X t Wx (wpSs O b))) :
    PS X (.For tg iter body [] pos) (LS G X t Wx (wpS O (.for_ g it b))) := ps_imp (L2.ps_for hp hc hi hg hb hs) fun D σ H q => by
  obtain ⟨W, env, h, K, rs, w, c⟩ := q
  simp only [wpS] at w
  refine ⟨W, env, h, _, _, rs, w, fun W1 its h1 H1 J le r1 wk q1 => ?_, c.cx⟩
  obtain ⟨tk, q1⟩ := q1
  unfold Orc.dtyL at tk
  rw [ht, hst] at tk
  refine ⟨fun i m σ H => ∃ W2 env2 h2, Wlq t W1 W2 ∧ RS G X t W2 env2 h2 σ H ∧ i + m = its.items.length ∧ wpFor its.gs (fun x e h2 K2 => wpT O g x e h2 fun e1 h3 => wpSs O b e1 h3 K2) (its.items.drop i) env2 h2 K,
    ⟨its.items.length, W1, env, h1, .refl _ _, r1, by omega, by rw [List.drop_zero]; exact q1⟩, ?_⟩
  rintro i m σ2 H2 ⟨W2, env2, h2, l2, r2, hm, w2⟩
  have l02 : Wlq t W W2 := le.lq.trans l2
  cases hd : its.items.drop i with
  | nil =>
    rw [hd] at w2
    obtain ⟨gs, nx⟩ := w2
    have hi : its.items.length ≤ i := by
      have := congrArg List.length hd
      rw [List.length_drop, List.length_nil] at this
      omega
    exact .inl ⟨(wk _ _ _ W2 h2 H2 (.of l2 tk) r2.toRH gs).2 i hi, c.nx W2 env2 h2 σ2 H2 l02 r2 nx⟩
  | cons x xs =>
    rw [hd] at w2
    obtain ⟨gs, w2⟩ := w2
    have ex : its.items[i]? = some x := by
      have := congrArg (·[0]?) hd
      simpa using this
    have hx : i < its.items.length := (List.getElem?_eq_some_iff.mp ex).1
    have hxs : its.items.drop (i + 1) = xs := by
      have := congrArg (List.drop 1) hd
      rw [List.drop_drop] at this
      simpa using this
    obtain ⟨go, yl⟩ := (wk _ _ _ W2 h2 H2 (.of l2 tk) r2.toRH gs).1 i x ex
    refine .inr ⟨go, fun σ H => ∃ W3 env3 h3, Wlq t W1 W3 ∧ RS G X t W3 env3 h3 σ H ∧ wpFor its.gs (fun x e h2 K2 => wpT O g x e h2 fun e1 h3 => wpSs O b e1 h3 K2) xs env3 h3 K, fun σ' H' ⟨W3, env3, h3, l3, r3, w3⟩ => ⟨its.items.length - (i + 1), by omega, W3, env3, h3, l3, r3, by omega, by rw [hxs]; exact w3⟩, fun y H' hy => ?_⟩
    obtain ⟨W3, le3, rh3, rv⟩ := yl y H' hy
    have r3 := r2.lift le3 rh3
    refine ⟨W3, x, env2, h2, _, r3, rv, w2, fun W4 env4 h4 σ4 H4 l4 r4 _ q4 => ⟨W4, env4, h4, _, r4, q4, ?_⟩⟩
    have l14 : Wlq t W1 W4 := (l2.trans le3.lq).trans l4
    have l04 : Wlq t W W4 := le.lq.trans l14
    exact ⟨fun W5 e h σ H l r q => ⟨W5, e, h, l14.trans l, r, q⟩, fun W5 e h σ H v x l => c.rt W5 e h σ H v x (l04.trans l), fun W5 e h σ H ex cl d l => c.xc W5 e h σ H ex cl d (l04.trans l), fun W5 e h σ H l r q => c.nx W5 e h σ H (l04.trans l) r q, fun W5 e h σ H l r q => ⟨W5, e, h, l14.trans l, r, q⟩⟩
end
end PC

set_option Elab.async false
set_option maxRecDepth 100000
/-! PC15: comprehensions. -/
namespace PC
open PySem PySem.Spec PyProof.Rows
open L2 (V HO Hp upd upd_same upd_ne Rd SqL SqT Cx Inv TE TT TA TS TG TGs TI VK PE PT PW PA PK PS PSs PG PGs PI PTs It R2 OpR CallR Un UB HOk ObjOk Env0 FnOk Sp XK Room frs CR EP Takes Ends FpOk BlkOk cloFrom)

section
variable {G : Gs} {X : Cx} {t : Fm} {Wx : L2.WX} {O : Orc} {W W' : Wd} {env : Env} {h : Hea} {σ : L2.St} {H : Hp} {pins : List (Addr × Obj)} {s : Shared}
/-- the tests of a clause -/
def LQ (G : Gs) (X : Cx) (t : Fm) (w : Env → Hea → (Bool → Hea → Prop) → Prop) : TT := fun σ H Q => ∃ W env h kp, RS G X t W env h σ H ∧ w env h kp ∧ CB G X t W env σ kp Q
theorem pts_imp {X : Cx} {e : List Expr} {t t' : TT} (h : PTs X e t) (i : ∀ σ H Q, t' σ H Q → t σ H Q) : PTs X e t' := ⟨fun pins s σ H Q I q => h.run pins s σ H Q I (i σ H Q q)⟩
theorem lq_nil : PTs X [] (LQ G X t (wpAll O .nil)) := pts_imp L2.pts_nil fun σ H Q q => by
  obtain ⟨W, env, h, kp, rs, w, c⟩ := q
  simp only [wpAll] at w
  exact c W true h H (.refl _) rs w
theorem lq_one {a : CE} {e : Expr} (he : PT X e (LT G X t Wx (wpB O a))) : PTs X [e] (LQ G X t (wpAll O (.cons a .nil))) := pts_imp (L2.pts_one he) fun σ H Q q => by
  obtain ⟨W, env, h, kp, rs, w, c⟩ := q
  simp only [wpAll] at w
  refine ⟨W, env, h, fun b h1 => match b with
    | true => kp true h1
    | false => kp false h1, fun _ _ => False, rs, w, fun W' b h' H' le r q => c W' b h' H' le r ?_, fun _ _ _ _ _ _ _ _ _ z => z.elim⟩
  cases b <;> exact q

/-! ### the block -/
abbrev bcells (X : Cx) (s : Shared) (scope : Scope) : List (Str × Addr) := PySem.cellsFrom (s.heap.objs.size + 1) scope.names (cloFrom X.env.cells scope.names [])
abbrev benv (X : Cx) (s : Shared) (scope : Scope) : PySem.Env := compEnvC scope (bcells X s scope) s.heap.objs.size X.env
theorem bcells_of {scope : Scope} (I : Inv X pins σ H s) (hfree : ∀ y ∈ scope.names, y.2 = .free → ∃ c, X.env.cells.lookup y.1 = some c) {y : Str} {c : Addr} (e : (bcells X s scope).lookup y = some c) : (X.env.cells.lookup y = some c ∧ (y, NameKind.free) ∈ scope.names) ∨ (s.heap.objs.size ≤ c ∧ (y, NameKind.cell) ∈ scope.names) := by
  have e2 : (y, c) ∈ PySem.cellsFrom (s.heap.push { cls := .type "dict", data := .dict #[] }).objs.size scope.names (cloFrom X.env.cells scope.names []) := by
    rw [Heap.size_push]; exact PySem.mem_of_lookup e
  rcases L2.cells_mem e2 with q | ⟨q2, q, _⟩
  · rcases L2.cloFrom_mem q with q | ⟨q, z⟩
    · cases q
    · obtain ⟨d, hd⟩ := hfree _ q rfl
      have hd : X.env.cells.lookup y = some d := hd
      rw [hd] at z
      exact .inl ⟨by rw [hd, z]; rfl, q⟩
  · rw [Heap.size_push] at q
    exact .inr ⟨Nat.le_of_succ_le q, q2⟩
def bFm (t : Fm) (W : Wd) (Y : Cx) : Fm := { t with Wk := W, bk := true, ow := fun c => t.ow c ∨ Own Y c }
/-- what is known of a block -/
structure IsBlk (X : Cx) (t : Fm) (scope : Scope) (Y : Cx) (tb : Fm) : Prop where
  eq : ∃ s H C cl fp, Y = X.blk s H scope (compEnvC scope cl C X.env) fp
  fm : FmOk Y tb
  tt : tb.t = t.t
  lm : tb.lm = t.lm
  w0 : tb.W0 = t.W0
  st : tb.st = t.st
  cb : (∀ y c, X.env.cells.lookup y = some c → X.base.get? c = none) → ∀ y c, Y.env.cells.lookup y = some c → Y.base.get? c = none
  nw : (∀ y c, X.env.cells.lookup y = some c → t.W0.cv c = none) → ∀ y c, Y.env.cells.lookup y = some c → t.W0.cv c = none
  cf : ∀ y c, Y.env.cells.lookup y = some c → c ∉ Y.fs
/-- cells that are known stand in the heap -/
theorem cv_there (I : Inv X pins σ H s) (r : RS G X t W env h σ H) {c : Addr} {v : V} (e : W.cv c = some v) : ∃ ob, s.heap.get? c = some ob := by
  rcases (r.cv c v e).2 with ⟨ca, _⟩ | ⟨ob, u, _, z, _⟩
  · obtain ⟨_, _, ob, _, g, _⟩ := cellA_at I ca
    exact ⟨ob, g⟩
  · exact ⟨ob, (I.hok c _ z).1⟩
theorem wipe_get : ∀ {own : List Nat} {env : Env} {i : Nat} {v : PV}, get (wipe env own) i = some v → get env i = some v ∧ i ∉ own
  | [], env, i, v, e => ⟨e, by simp⟩
  | o :: r, env, i, v, e => by
    unfold wipe at e
    by_cases q : i = o
    · subst q
      unfold get at e
      by_cases l : i < (wipe env r).length
      · rw [List.getElem?_set_self l] at e; cases e
      · rw [List.getElem?_eq_none (by simpa using l)] at e; cases e
    · have e2 : get (wipe env r) i = some v := by
        unfold get at e ⊢
        rw [List.getElem?_set_ne (Ne.symm q)] at e
        exact e
      obtain ⟨h1, h2⟩ := wipe_get e2
      exact ⟨h1, by simp only [List.mem_cons, not_or]; exact ⟨q, h2⟩⟩
theorem wipe_len : ∀ {own : List Nat} {env : Env}, (wipe env own).length = env.length
  | [], _ => rfl
  | o :: r, env => by unfold wipe; rw [List.length_set, wipe_len]
theorem wipeσ : ∀ {own : List Nat} {σ : L2.St} {i : Nat}, i ∉ own → (L2.wipe σ own)[i]? = σ[i]?
  | [], _, _, _ => rfl
  | o :: r, σ, i, n => by
    simp only [List.mem_cons, not_or] at n
    unfold L2.wipe
    rw [List.getElem?_set_ne (Ne.symm n.1)]
    exact wipeσ n.2
theorem blk_ok {scope : Scope} {own : List (Str × Nat)} {fp : List Addr} (I : Inv X pins σ H s) (F : FmOk X t) (ok : BlkOk X.N X.env.scope scope own) (cf : ∀ y c, X.env.cells.lookup y = some c → c ∉ X.fs) (hfp : ∀ b ∈ fp, FpOk X pins H b ∧ b < s.heap.objs.size) (r : RS G X t W env h σ H)
    (hcell : ∀ c, t.ow c → c ∉ fp) : IsBlk X t scope (X.blk s H scope (benv X s scope) fp) (bFm t W (X.blk s H scope (benv X s scope) fp)) := by
  have hfree : ∀ y ∈ scope.names, y.2 = .free → ∃ c, X.env.cells.lookup y.1 = some c := fun y hy e => (ok.free y hy e).elim (fun k => I.ok.has _ (.inl k)) fun k => I.ok.has _ (.inr k)
  have lt : ∀ {c v}, W.cv c = some v → c < s.heap.objs.size := fun {c v} e => by
    obtain ⟨ob, g⟩ := cv_there I r e
    exact Heap.lt_size g
  have ownBig : ∀ {c}, Own (X.blk s H scope (benv X s scope) fp) c → s.heap.objs.size ≤ c := fun {c} ⟨y, hy, hc⟩ => by
    rcases bcells_of I hfree hc with ⟨_, z⟩ | ⟨z, _⟩
    · have hy : (scope.names.lookup y == some NameKind.cell) = true := hy
      have hy : scope.names.lookup y = some .cell := by simpa using hy
      have := ok.uniq _ z
      rw [hy] at this; cases this
    · exact z
  refine ⟨⟨s, H, _, _, fp, rfl⟩, ⟨r.le0, fun y c hy hc => ?_, fun a ci e => (r.fn a ci e).2.2.2, fun c z => .inr z, fun c z => ?_⟩, rfl, rfl, rfl, rfl, fun cb y c e => ?_, fun nw y c e => ?_, fun y c e => ?_⟩
  · cases q : W.cv c with
    | none => exact q
    | some v => exact absurd (Nat.lt_of_lt_of_le (lt q) (ownBig ⟨y, hy, hc⟩)) (Nat.lt_irrefl _)
  · rcases z with z | z
    · refine .inr ?_
      rcases F.owx c z with ⟨y, hy, hl⟩ | ⟨n, nx, ob, v, g, d⟩
      · obtain ⟨w, ob, g, d⟩ := I.cell y c hl
        exact ⟨I.freeC y c hl, hcell c z, ob, w, g, d⟩
      · obtain ⟨sl, q⟩ := I.base.any g n nx
        exact ⟨I.base.free c ob g n nx, hcell c z, _, v, q, d⟩
    · exact .inl z
  · rcases bcells_of I hfree e with ⟨z, _⟩ | ⟨z, _⟩
    · exact cb y c z
    · exact Heap.get?_none_of_le (Nat.le_trans (Nat.le_trans I.ok.bsz I.sz) z)
  · rcases bcells_of I hfree e with ⟨z, _⟩ | ⟨z, _⟩
    · exact nw y c z
    · cases q : t.W0.cv c with
      | none => rfl
      | some v => exact absurd (Nat.lt_of_lt_of_le (lt (r.le0.cv c v q)) z) (Nat.lt_irrefl _)
  · intro hm
    rcases bcells_of I hfree e with ⟨z, _⟩ | ⟨z, _⟩
    · rcases List.mem_cons.mp (I.stkSub c hm) with q | q
      · exact I.cne y c z q
      · exact cf y c z q
    · obtain ⟨_, o, ho, _⟩ := I.stack.mem hm
      exact absurd (Nat.lt_of_lt_of_le (Heap.lt_size ho) z) (Nat.lt_irrefl _)
/-- the block's relation at its start -/
theorem blk_rs {scope : Scope} {own : List (Str × Nat)} {fp : List Addr} (I : Inv X pins σ H s) (F : FmOk X t) (ok : BlkOk X.N X.env.scope scope own) (hfp : ∀ b ∈ fp, FpOk X pins H b ∧ b < s.heap.objs.size) (r : RS G X t W env h σ H)
    (nfp : ∀ c v, W.cv c = some v → c ∉ fp) : RS G (X.blk s H scope (benv X s scope) fp) (bFm t W (X.blk s H scope (benv X s scope) fp)) W (wipe env (own.map (·.2))) h (L2.wipe σ (own.map (·.2))) H := by
  have hfree : ∀ y ∈ scope.names, y.2 = .free → ∃ c, X.env.cells.lookup y.1 = some c := fun y hy e => (ok.free y hy e).elim (fun k => I.ok.has _ (.inl k)) fun k => I.ok.has _ (.inr k)
  refine ⟨⟨r.fz, r.live, r.inj, r.dis, r.new, r.tabs, r.fn, fun c v e => ⟨(r.cv c v e).1, (r.cv c v e).2.imp (fun z => ⟨.inr ⟨rfl, e, ?_⟩, z.2⟩) id⟩, fun a ci e => ⟨fun n c hc ho => ?_, (r.tk a ci e).2⟩, r.hd⟩, ?_, fun i v e => ?_, r.le0, .refl _⟩
  · obtain ⟨n, nf, ob, u, g, d, ru⟩ := cellA_at I z.1
    exact ⟨n, nf, nfp c v e, ob, u, g, d, ru⟩
  · rcases ho with ho | ⟨y, hy, hl⟩
    · exact (r.tk a ci e).1 n c hc ho
    · obtain ⟨v, hv⟩ := (r.fn a ci e).2.2.2 c hc
      obtain ⟨ob, g⟩ := cv_there I r hv
      rcases bcells_of I hfree hl with ⟨_, z⟩ | ⟨z, _⟩
      · have hy : (scope.names.lookup y == some NameKind.cell) = true := hy
        have hy : scope.names.lookup y = some .cell := by simpa using hy
        have := ok.uniq _ z
        rw [hy] at this; cases this
      · exact absurd (Nat.lt_of_lt_of_le (Heap.lt_size g) z) (Nat.lt_irrefl _)
  · rw [wipe_len, L2.wipe_length]; exact r.len
  · obtain ⟨e1, ni⟩ := wipe_get e
    obtain ⟨V, e2, r2⟩ := r.env i v e1
    exact ⟨V, by rw [wipeσ ni]; exact e2, r2⟩
/-! ### a list that is being made -/
def Wd.hidA (W : Wd) (D : Addr) (vs : List V) : Wd := { W with hid := fun a => if a = D then some vs else W.hid a }
def Wd.hidOff (W : Wd) (D : Addr) : Wd := { W with hid := fun a => if a = D then none else W.hid a }
theorem rv_same {W W' : Wd} {n : Nat} (hn : ∀ m, n ≤ m → W.rho m = none) (h1 : W'.rho = W.rho) (h2 : W'.fz = W.fz) (h3 : W'.fn = W.fn) (h4 : W'.cv = W.cv) {v : PV} {x : V} (r : RV G.adr G.K W v x) : RV G.adr G.K W' v x :=
  RV.low (W := W) (W' := W') (n := n) (fun m a _ e => by rw [h1]; exact e) (fun a o e => by rw [h2]; exact e) (fun a o e => by rw [h3]; exact e) (fun a o e => by rw [h4]; exact e) r (r.bound hn)
theorem rvs_same {W W' : Wd} {n : Nat} (hn : ∀ m, n ≤ m → W.rho m = none) (h1 : W'.rho = W.rho) (h2 : W'.fz = W.fz) (h3 : W'.fn = W.fn) (h4 : W'.cv = W.cv) {v : List PV} {x : List V} (r : RVs G.adr G.K W v x) : RVs G.adr G.K W' v x :=
  RVs.low (W := W) (W' := W') (n := n) (fun m a _ e => by rw [h1]; exact e) (fun a o e => by rw [h2]; exact e) (fun a o e => by rw [h3]; exact e) (fun a o e => by rw [h4]; exact e) r (r.bound hn)
theorem ro_same {W W' : Wd} {n : Nat} (hn : ∀ m, n ≤ m → W.rho m = none) (h1 : W'.rho = W.rho) (h2 : W'.fz = W.fz) (h3 : W'.fn = W.fn) (h4 : W'.cv = W.cv) {o : HObj} {u : HO} (r : RO G W o u) : RO G W' o u := by
  cases o with
  | lst xs => obtain ⟨vs, e, q⟩ := r; exact ⟨vs, e, rvs_same hn h1 h2 h3 h4 q⟩
  | dK ks xs => obtain ⟨kvs, e, k, q⟩ := r; exact ⟨kvs, e, k, rvs_same hn h1 h2 h3 h4 q⟩
  | dead => trivial
variable {B : Heap} {CA : Addr → V → Prop} {tkP : Addr → Clo → Prop}
theorem RH.hide (r : RH G B CA tkP W h H) {D : Addr} (hD : H D = none) (vs : List V) : RH G B CA tkP (W.hidA D vs) h (upd H D (.lst vs)) := by
  have q := r.kept (o := .lst vs) hD
  refine ⟨q.fz, fun n o e l => ?_, q.inj, q.dis, q.new, q.tabs, q.fn, q.cv, q.tk, fun a us e => ?_⟩
  · obtain ⟨a, u, h1, h2, h3⟩ := q.live n o e l
    exact ⟨a, u, h1, h2, ro_same (W' := W.hidA D vs) q.new rfl rfl rfl rfl h3⟩
  · have e : (if a = D then some vs else W.hid a) = some us := e
    split at e
    · rename_i z
      cases e
      subst z
      refine ⟨upd_same, r.fzNone hD, fun n o g l z => ?_⟩
      obtain ⟨b, u, h1, h2, _⟩ := r.live n o g l
      have z : W.rho n = some a := z
      rw [z] at h1; cases h1
      rw [hD] at h2; cases h2
    · exact q.hd a us e
theorem RH.rehide (r : RH G B CA tkP W h H) {D : Addr} {vs : List V} (hD : W.hid D = some vs) (us : List V) : RH G B CA tkP (W.hidA D us) h (upd H D (.lst us)) := by
  obtain ⟨d1, d2, d3⟩ := r.hd D vs hD
  have k : ∀ b w, H b = some w → Fix w → upd H D (.lst us) b = some w := fun b w q f => by
    rw [upd_ne (fun z => by rw [z, d1] at q; cases q; exact f)]; exact q
  refine ⟨fun a o e => by
    have e : W.fz a = some o := e
    rw [upd_ne (fun z => by rw [z, d2] at e; cases e)]; exact r.fz a o e, fun n o e l => ?_, r.inj, r.dis, r.new, tabs_keep k r.tabs, fun a ci e => ?_, fun c v e => ⟨(r.cv c v e).1, (r.cv c v e).2.imp id fun z => z.keep k⟩, r.tk, fun a ws e => ?_⟩
  · obtain ⟨a, u, h1, h2, h3⟩ := r.live n o e l
    exact ⟨a, u, h1, by rw [upd_ne (fun z => d3 n o e l (by rw [← z]; exact h1))]; exact h2, ro_same (W' := W.hidA D us) r.new rfl rfl rfl rfl h3⟩
  · obtain ⟨h1, h2, h3, h4⟩ := r.fn a ci e
    exact ⟨h1, k _ _ h2 (lamO_fix a ci), k _ _ h3 trivial, h4⟩
  · have e : (if a = D then some us else W.hid a) = some ws := e
    split at e
    · rename_i z
      cases e
      subst z
      exact ⟨upd_same, d2, d3⟩
    · rename_i n
      rw [upd_ne n]
      exact r.hd a ws e
theorem RH.unhide (r : RH G B CA tkP W h H) (D : Addr) : RH G B CA tkP (W.hidOff D) h H := by
  refine ⟨r.fz, fun n o e l => ?_, r.inj, r.dis, r.new, r.tabs, r.fn, r.cv, r.tk, fun a us e => ?_⟩
  · obtain ⟨a, u, h1, h2, h3⟩ := r.live n o e l
    exact ⟨a, u, h1, h2, ro_same (W' := W.hidOff D) r.new rfl rfl rfl rfl h3⟩
  · have e : (if a = D then none else W.hid a) = some us := e
    split at e
    · cases e
    · exact r.hd a us e
theorem hidA_le {W0 W : Wd} (l : Wle W0 W) {D : Addr} (n : W0.hid D = none) (vs : List V) : Wle W0 (W.hidA D vs) := ⟨l.rho, l.fz, l.fn, l.cv, l.co, fun a us e => by
  show (if a = D then some vs else W.hid a) = some us
  rw [if_neg (fun z => by rw [z, n] at e; cases e)]; exact l.hid a us e⟩
theorem hidOff_le {W0 W : Wd} (l : Wle W0 W) {D : Addr} (n : W0.hid D = none) : Wle W0 (W.hidOff D) := ⟨l.rho, l.fz, l.fn, l.cv, l.co, fun a us e => by
  show (if a = D then none else W.hid a) = some us
  rw [if_neg (fun z => by rw [z, n] at e; cases e)]; exact l.hid a us e⟩
/-- an object that is known at p becomes one of the own heap -/
theorem RH.addRAt (r : RH G B CA tkP W h H) {p : Addr} {o : HObj} {u : HO} (hp : H p = some u) (nf : W.fz p = none) (nh : W.hid p = none) (nr : ∀ (n : Nat) (ob : HObj), h[n]? = some ob → ob.live = true → W.rho n ≠ some p) (ro : RO G W o u) : Wle W (W.addR h.length p) ∧ RH G B CA tkP (W.addR h.length p) (h ++ [o]) H := by
  have le := Wd.addR_le (p := p) (r.new h.length (Nat.le_refl _))
  have at_ : ∀ n, n ≠ h.length → (W.addR h.length p).rho n = W.rho n := fun n hn => if_neg hn
  have at0 : (W.addR h.length p).rho h.length = some p := if_pos rfl
  have old : ∀ n ob, (h ++ [o])[n]? = some ob → n ≠ h.length → h[n]? = some ob := fun n ob e hn => by
    by_cases q : n < h.length
    · rw [List.getElem?_append_left q] at e; exact e
    · rw [List.getElem?_append_right (by omega), List.getElem?_singleton, if_neg (by omega)] at e; cases e
  refine ⟨le, r.fz, fun n ob e l => ?_, fun n m ob ob' a g1 l1 g2 l2 e1 e2 => ?_, fun n ob a e l q => ?_, fun n hn => ?_, r.tabs, r.fn, r.cv, r.tk, fun a vs e => ⟨(r.hd a vs e).1, (r.hd a vs e).2.1, fun n ob g l z => ?_⟩⟩
  · by_cases hn : n = h.length
    · subst hn
      rw [List.getElem?_append_right (Nat.le_refl _)] at e
      simp at e
      subst e
      exact ⟨p, u, at0, hp, ro.mono le⟩
    · obtain ⟨a, w, h1, h2, h3⟩ := r.live n ob (old n ob e hn) l
      exact ⟨a, w, by rw [at_ n hn]; exact h1, h2, h3.mono le⟩
  · by_cases hn : n = h.length
    · by_cases hm : m = h.length
      · rw [hn, hm]
      · rw [hn, at0] at e1; cases e1
        rw [at_ m hm] at e2
        exact (nr m ob' (old m ob' g2 hm) l2 e2).elim
    · rw [at_ n hn] at e1
      by_cases hm : m = h.length
      · rw [hm, at0] at e2; cases e2
        exact (nr n ob (old n ob g1 hn) l1 e1).elim
      · rw [at_ m hm] at e2
        exact r.inj n m ob ob' a (old n ob g1 hn) l1 (old m ob' g2 hm) l2 e1 e2
  · by_cases hn : n = h.length
    · subst hn; rw [at0] at q; cases q; exact nf
    · rw [at_ n hn] at q; exact r.dis n ob a (old n ob e hn) l q
  · rw [List.length_append] at hn
    have hn' : n ≠ h.length := by simp at hn; omega
    rw [at_ n hn']
    exact r.new n (by simp at hn; omega)
  · by_cases hn : n = h.length
    · subst hn
      rw [at0] at z; cases z
      have e' : W.hid p = some vs := e
      rw [nh] at e'; cases e'
    · rw [at_ n hn] at z
      exact (r.hd a vs e).2.2 n ob (old n ob g hn) l z
end
end PC

set_option Elab.async false
set_option maxRecDepth 100000
/-! PC16: a comprehension runs. -/
namespace PC
open PySem PySem.Spec PyProof.Rows
open L2 (V HO Hp upd upd_same upd_ne Rd SqL SqT Cx Inv TE TT TA TS TG TGs TI VK PE PT PW PA PK PS PSs PG PGs PI PTs It R2 OpR CallR Un UB HOk ObjOk Env0 FnOk Sp XK Room frs CR EP Takes Ends FpOk BlkOk cloFrom)

section
variable {G : Gs} {X : Cx} {t : Fm} {Wx : L2.WX} {O : Orc} {W W' : Wd} {env env' : Env} {h h' : Hea} {σ σ' : L2.St} {H H' : Hp} {pins : List (Addr × Obj)} {s s' : Shared}
open scoped Classical in
/-- the block's own cells alone -/
noncomputable def ownW (Y : Cx) (W : Wd) : Wd := { W with cv := fun c => if Own Y c then W.cv c else none }
theorem ownW_of {Y : Cx} {c : Addr} {v : V} (e : (ownW Y W).cv c = some v) : Own Y c ∧ W.cv c = some v := by
  unfold ownW at e
  simp only at e
  split at e
  · exact ⟨by assumption, e⟩
  · cases e
theorem ownW_in {Y : Cx} {c : Addr} {v : V} (o : Own Y c) (e : W.cv c = some v) : (ownW Y W).cv c = some v := by
  unfold ownW
  simp only
  rw [if_pos o]; exact e
theorem ownW_out {Y : Cx} {c : Addr} (o : ¬ Own Y c) : (ownW Y W).cv c = none := if_neg o
noncomputable def endW (Y : Cx) (W : Wd) (hp : Heap) (H : Hp) : Wd := { W with co := ((ownW Y W).told hp H).co }
/-- behind the block -/
theorem blk_end {scope : Scope} {own : List (Str × Nat)} {fp : List Addr} (I : Inv X pins σ H s) (ok : BlkOk X.N X.env.scope scope own) (hown : ∀ p ∈ own, scope.names.lookup p.1 ≠ some .free) (hfp : ∀ b ∈ fp, FpOk X pins H b) (r : RS G X t W env h σ H)
    (J : Inv (X.blk s H scope (benv X s scope) fp) [] σ' H' s') (q : RS G (X.blk s H scope (benv X s scope) fp) (bFm t W (X.blk s H scope (benv X s scope) fp)) W' env' h' σ' H') (ag : ∀ j, j ∉ own.map (·.2) → σ'[j]? = σ[j]?) :
    Wle W (endW (X.blk s H scope (benv X s scope) fp) W' s'.heap H') ∧ RS G X t (endW (X.blk s H scope (benv X s scope) fp) W' s'.heap H') env h' σ (trk (ownW (X.blk s H scope (benv X s scope) fp) W') s'.heap H') ∧
      Inv X pins σ (trk (ownW (X.blk s H scope (benv X s scope) fp) W') s'.heap H') s' := by
  generalize hYd : X.blk s H scope (benv X s scope) fp = Y at J q
  have hfree : ∀ y ∈ scope.names, y.2 = .free → ∃ c, X.env.cells.lookup y.1 = some c := fun y hy e => (ok.free y hy e).elim (fun k => I.ok.has _ (.inl k)) fun k => I.ok.has _ (.inr k)
  have ycell : ∀ y c, Y.env.cells.lookup y = some c → (X.env.cells.lookup y = some c ∧ (y, NameKind.free) ∈ scope.names) ∨ (s.heap.objs.size ≤ c ∧ Own Y c) := fun y c e => by
    have e2 : (bcells X s scope).lookup y = some c := by rw [← hYd] at e; exact e
    refine (bcells_of I hfree e2).imp id fun z => ⟨z.1, y, ?_, e⟩
    rw [← hYd]
    show (scope.names.lookup y == some NameKind.cell) = true
    rw [ok.uniq _ z.2]
    rfl
  have ynew : ∀ c, Own Y c → s.heap.objs.size ≤ c := fun c ⟨y, hy, hc⟩ => by
    rcases ycell y c hc with ⟨_, z⟩ | z
    · rw [← hYd] at hy
      have hy : (scope.names.lookup y == some NameKind.cell) = true := hy
      have hy : scope.names.lookup y = some .cell := by simpa using hy
      have := ok.uniq _ z
      rw [hy] at this; cases this
    · exact z.1
  have nown : ∀ c ob, s.heap.get? c = some ob → ¬ Own Y c := fun c ob g o => absurd (Nat.lt_of_lt_of_le (Heap.lt_size g) (ynew c o)) (Nat.lt_irrefl _)
  have base : Un (frs X.stack) fp H H' s.heap s'.heap := by have z := J.base; rw [← hYd] at z; exact z
  have lkW : Wle W W' := q.lek
  -- a cell that is tracked at the end
  have trkd : ∀ {c v}, H' c = none → (ownW Y W').cv c = some v → ∃ ob u, s'.heap.get? c = some ob ∧ ob.data = .cell (some u) ∧ L2.RelV v u := fun {c v} n e => by
    obtain ⟨_, e1⟩ := ownW_of e
    rcases (q.cv c v e1).2 with ⟨ca, _⟩ | ⟨_, _, _, z, _⟩
    · obtain ⟨_, _, ob, u, g, d, ru⟩ := cellA_at J ca
      exact ⟨ob, u, g, d, ru⟩
    · rw [n] at z; cases z
  have leE : Wle W' (endW Y W' s'.heap H') := ⟨fun _ _ e => e, fun _ _ e => e, fun _ _ e => e, fun _ _ e => e, fun c v ob hv e => (by
    show ((ownW Y W').told s'.heap H').co c = some ob
    cases n : H' c with
    | some u => rw [told_some n]; exact e
    | none =>
      cases z : (ownW Y W').cv c with
      | none => rw [told_out z]; exact e
      | some w =>
        obtain ⟨_, z1⟩ := ownW_of z
        rcases (q.cv c w z1).2 with ⟨_, k⟩ | ⟨_, _, _, k, _⟩
        · rw [k] at e; cases e
        · rw [n] at k; cases k), fun _ _ e => e⟩
  have le : Wle W (endW Y W' s'.heap H') := lkW.trans leE
  have hokE : HOk X.prog X.w (trk (ownW Y W') s'.heap H') s'.heap := by
    have z := J.hok
    rw [← hYd] at z
    exact hok_trk z
  refine ⟨le, ⟨⟨fun a o e => trk_some (q.fz a o e), fun n o e l => ?_, q.inj, q.dis, q.new, tabs_keep (fun b o e _ => trk_some e) q.tabs, fun a ci e => ?_, fun c v e => ?_, fun a ci e => ⟨fun n c hc ho => (q.tk a ci e).1 n c hc (.inl ho), (q.tk a ci e).2⟩, fun a vs e => ⟨trk_some (q.hd a vs e).1, (q.hd a vs e).2⟩⟩, r.len, fun i v e => ?_, r.le0.trans le, r.lek.trans le⟩, ?_⟩
  · obtain ⟨a, u, h1, h2, h3⟩ := q.live n o e l
    exact ⟨a, u, h1, trk_some h2, h3.mono leE⟩
  · obtain ⟨h1, h2, h3, h4⟩ := q.fn a ci e
    exact ⟨h1, trk_some h2, trk_some h3, h4⟩
  · have e' : W'.cv c = some v := e
    have c1 : X.base.get? c = none := by have z := (q.cv c v e').1; rw [← hYd] at z; exact z
    refine ⟨c1, ?_⟩
    have old : ∀ {v0}, W.cv c = some v0 → H c = none → W'.co c = none → CellA X t σ c v ∧ (endW Y W' s'.heap H').co c = none := fun {v0} e0 n0 hco => by
      have ev := lkW.cv c v0 e0
      rw [e'] at ev; cases ev
      rcases (r.cv c v e0).2 with ⟨ca, _⟩ | ⟨_, _, _, z, _⟩
      · obtain ⟨_, _, ob, u, g, d, _⟩ := cellA_at I ca
        refine ⟨ca, ?_⟩
        show ((ownW Y W').told s'.heap H').co c = none
        rw [told_out (ownW_out (nown c ob g))]
        exact hco
      · rw [n0] at z; cases z
    rcases (q.cv c v e').2 with ⟨ca, hco⟩ | ⟨ob, u, h0, h1, h2, h3⟩
    · rcases ca with ⟨hlm, y, i, e1, e2, e3, e4, e5⟩ | ⟨_, e0, n0, _⟩
      · rcases ycell y c e1 with ⟨z1, z2⟩ | ⟨_, o⟩
        · -- a cell of X's
          left
          have hk := ok.free _ z2 rfl
          have e3' : X.N[i]? = some y := by rw [← hYd] at e3; exact e3
          have ni : i ∉ own.map (·.2) := fun hm => by
            obtain ⟨p, hp, hpi⟩ := List.mem_map.mp hm
            have z := ok.ix p hp
            rw [hpi, e3'] at z
            have z : y = p.1 := Option.some.inj z
            exact hown p hp (by rw [← z]; exact ok.uniq _ z2)
          have nf : c ∉ X.fs := fun hm => e5 (by
            rw [← hYd]
            show c ∈ frs X.stack
            rcases I.ok.stk with k | ⟨k, _⟩
            · rw [k]; exact hm
            · rw [k]
              obtain ⟨en, he, hl⟩ := List.mem_filterMap.mp hm
              exact List.mem_filterMap.mpr ⟨en, List.mem_cons_of_mem _ he, hl⟩)
          refine ⟨.inl ⟨hlm, y, i, z1, hk, e3', by rw [← ag i ni]; exact e4, nf⟩, ?_⟩
          show ((ownW Y W').told s'.heap H').co c = none
          obtain ⟨w, ob, g, _⟩ := I.cell y c z1
          rw [told_out (ownW_out (nown c ob g))]
          exact hco
        · -- the block's own
          right
          obtain ⟨n, _, ob, u, g, d, ru⟩ := cellA_at J (.inl ⟨hlm, y, i, e1, e2, e3, e4, e5⟩)
          have z := ownW_in o e'
          exact ⟨ob, u, by show ((ownW Y W').told s'.heap H').co c = some ob; rw [told_at n z]; exact g, trk_cell n z g, d, ru⟩
      · have n0 : H c = none := by rw [← hYd] at n0; exact n0
        exact .inl (old e0 n0 hco)
    · right
      exact ⟨ob, u, by show ((ownW Y W').told s'.heap H').co c = some ob; rw [told_some h1]; exact h0, trk_some h1, h2, h3⟩
  · obtain ⟨x, e1, r1⟩ := r.env i v e
    exact ⟨x, e1, r1.mono le⟩
  · refine I.call' (ch := fp) (by have z := J.os; rw [← hYd] at z; exact z) ?_ hokE J.bare fun b hb => ⟨(hfp b hb).2.2.2.1, (hfp b hb).2.1, (hfp b hb).2.2.2.2.1, (hfp b hb).2.2.2.2.2⟩
    refine ⟨base.keep, base.slot, fun c ob g n hx => trk_none (base.free c ob g n hx) (ownW_out (nown c ob g)), base.there, fun c xs e => trk_some (base.tups c xs e), fun c o u e => trk_some (base.frzs c o u e), fun c ps e => ?_⟩
    obtain ⟨m, e1⟩ := base.tbls c ps e
    exact ⟨m, trk_some e1⟩
end
end PC

set_option Elab.async false
set_option maxRecDepth 100000
/-! PC17: a comprehension runs. -/
namespace PC
open PySem PySem.Spec PyProof.Rows
open L2 (V HO Hp upd upd_same upd_ne Rd SqL SqT Cx Inv TE TT TA TS TG TGs TI VK PE PT PW PA PK PS PSs PG PGs PI PTs It R2 OpR CallR Un UB HOk ObjOk Env0 FnOk Sp XK Room frs CR EP Takes Ends FpOk BlkOk cloFrom)

section
variable {G : Gs} {X : Cx} {t : Fm} {Wx : L2.WX} {O : Orc} {W W' : Wd} {env env' : Env} {h h' : Hea} {σ σ' : L2.St} {H H' : Hp} {pins : List (Addr × Obj)} {s s' : Shared} {Qp : KQ} {Xp : KX} {Q : VK}
abbrev stepC (O : Orc) (g : CT) (cond : CEs) (ce : CE) (env : Env) (own : List Nat) : PV → Hea → (Option PV → Hea → Prop) → Prop := fun x h2 k => wpT O g x (wipe env own) h2 (fun env2 h3 => wpAll O cond env2 h3 fun t h4 => match t with
  | true => wpE O ce env2 h4 (fun v h5 => O.dty v = false ∧ k (some v) h5) fun _ _ => False
  | false => k none h4)
/-- the new list is handed on -/
theorem RS.give (r : RS G X t W env h σ H) (le : Wle W' W) {D : Addr} {acc : List V} {pvs : List PV} {fz : Bool} (n0 : W'.hid D = none) (hD : W.hid D = some acc) (rv : RVs G.adr G.K W pvs acc) (l0 : Wle t.W0 W') (lk : Wle t.Wk W') (cq : CQ G X t W' env σ Qp Q) (q : PC.newL fz pvs h Qp) (he : ∀ i v, get env i = some v → ∃ V, σ[i]? = some (some V) ∧ RV G.adr G.K W' v V) : Q (.ref D) H := by
  obtain ⟨_, q⟩ := q
  obtain ⟨d1, d2, d3⟩ := r.hd D acc hD
  have r1 := r.toRH.unhide D
  have le1 : Wle W' (W.hidOff D) := hidOff_le le n0
  have no : (W.hidOff D).hid D = none := if_pos rfl
  have rv1 : RVs G.adr G.K (W.hidOff D) pvs acc := rvs_same (W' := W.hidOff D) r.new rfl rfl rfl rfl rv
  have mk : ∀ {W2 : Wd} {h2 : Hea}, Wle (W.hidOff D) W2 → RH G X.base (CellA X t σ) (TK t) W2 h2 H → RS G X t W2 env h2 σ H := fun {W2 h2} l2 r2 => ⟨r2, r.len, fun i v e => by
    obtain ⟨V, e1, r3⟩ := he i v e
    exact ⟨V, e1, r3.mono (le1.trans l2)⟩, l0.trans (le1.trans l2), lk.trans (le1.trans l2)⟩
  cases fz with
  | true =>
    have lF : Wle (W.hidOff D) ((W.hidOff D).addF D (.lst acc)) := Wd.addF_le d2
    exact cq _ _ _ _ _ (le1.trans lF) (mk lF (r1.addF d1 d2 no d3)) (.lst addF_at (rv1.mono lF)) q
  | false =>
    obtain ⟨lR, r2⟩ := r1.addRAt (o := .lst pvs) d1 d2 no d3 ⟨acc, rfl, rv1⟩
    exact cq _ _ _ _ _ (le1.trans lR) (mk lR r2) (.ref addR_at) q

theorem comp_core {elt tg iter : Expr} {ifs : List Expr} {scope : Scope} {own : List (Str × Nat)} {pos pos' : Pos} {use : Option (Value → Sem Unit)} {Qf : Value → Shared → Prop} {fz : Bool} {ce : CE} {g : CT} {it : CI} {cond : CEs}
    (hc : X.calm = true) (hN : X.N.Nodup) (hK : X.K = G.K) (ht : O.tok = t.t) (hst : O.st = t.st) (F : FmOk X t) (cf : ∀ y c, X.env.cells.lookup y = some c → c ∉ X.fs) (I : Inv X pins σ H s) (hi : PI X tg iter (LI G X t Wx (wpI O it))) (ok : BlkOk X.N X.env.scope scope own)
    (hown : ∀ p ∈ own, scope.names.lookup p.1 ≠ some .free) (hsl : ∀ j ∈ g.slots, j ∈ own.map (·.2))
    (hY : ∀ Y tb, IsBlk X t scope Y tb → PG Y tg (LG G Y tb g.slots (wpT O g)) ∧ PTs Y ifs (LQ G Y tb (wpAll O cond)) ∧ PE Y elt (LE G Y tb (fun _ _ _ _ => False) (wpE O ce)))
    (hs : ∀ x, foldedSetIterable iter X.env x = pure x) (rs : RS G X t W env h σ H) (w : wpE O (.comp fz ce g it cond (own.map (·.2))) env h Qp Xp) (cq : CQ G X t W env σ Qp Q) (cx : CX G X t Wx W env σ Xp)
    (hRR : ∀ D C s' m H', Inv X pins σ H' s' → Q (.ref D) H' → s'.heap.Ns C m → FpOk X pins H' C → compPost (model X.prog X.w) X.A X.xe use Qf (.ref D) C (.ok .next) s') :
    wpAny (model X.prog X.w) X.A (comprehension (.ListComp elt [⟨tg, iter, ifs, 0⟩] scope pos) scope X.env pos' (newList []) false (eval iter X.env) use) Qf X.xe s := by
  have hfree : ∀ y ∈ scope.names, y.2 = .free → ∃ c, X.env.cells.lookup y.1 = some c := fun y hy e => (ok.free y hy e).elim (fun k => I.ok.has _ (.inl k)) fun k => I.ok.has _ (.inr k)
  simp only [wpE] at w
  -- the iterable
  refine wpAny_comprehension_free (use := use) rfl hs (L2.closure_ok hfree) ok.kind (fun y hy e => by rw [ok.uniq y hy, e]) (L2.thn (hi.run pins s σ H (fun J H2 => ∃ W1 its h1, Wle W W1 ∧ RS G X t W1 env h1 σ H2 ∧ Walks G t W1 its J ∧ its.items.length ≤ line ∧
    wpMap its.gs (stepC O g cond ce env (own.map (·.2))) its.items h1 fun vs h2 => newL fz vs h2 Qp) I ⟨W, env, h, _, Xp, rs, w, fun W1 its h1 H1 J le r1 wk q => ⟨W1, its, h1, le, r1, wk, q⟩, cx⟩) fun xv sa hx => L2.thn hx fun itv sb hb => ?_)
  obtain ⟨ia, fp, tn, J, Hb, rfl, Ib, T, stb, fb, W1, its, h1, le1, r1, wk, hlen, w1⟩ := hb
  refine wpAny_newObj_type (L2.newEnv_comp ?_) (by show 0 ≤ sizeLine; decide)
  -- the new list
  obtain ⟨D, hD⟩ : ∃ D, D = sb.heap.objs.size := ⟨_, rfl⟩
  have nD : Hb D = none := Ib.hok.fresh (by rw [hD]; exact Nat.le_refl _)
  obtain ⟨sc, hsc⟩ : ∃ sc : Shared, sc = { sb with heap := sb.heap.push { cls := .type "list", data := .seq ([] : List Value).toArray } } := ⟨_, rfl⟩
  have Ic : Inv X pins σ (upd Hb D (.lst [])) sc := by
    rw [hsc]
    refine Ib.laid (t' := sb.toks) (fun b o e => Heap.get?_push_of_some _ e) (by rw [hD]; exact Nat.le_refl _) ⟨Nat.zero_le _, [], 0, .nil, ?_⟩
    rw [hD]
    exact Heap.get?_push_size _ rfl
  have heapc : sc.heap = sb.heap.push { cls := .type "list", data := .seq ([] : List Value).toArray } := by rw [hsc]
  have grow : ∀ b o, sb.heap.get? b = some o → sc.heap.get? b = some o := fun b o e => by rw [heapc]; exact Heap.get?_push_of_some _ e
  have small : ∀ b ∈ fp, b < sb.heap.objs.size := fun b hb => by
    obtain ⟨o, e, _⟩ := T.obj _ _ stb b hb
    exact Heap.lt_size e
  have fc : ∀ b ∈ fp, FpOk X pins (upd Hb D (.lst [])) b ∧ b < sc.heap.objs.size := fun b hb => by
    have l := small b hb
    refine ⟨⟨?_, (fb b hb).2⟩, by rw [heapc, Heap.size_push]; exact Nat.lt_succ_of_lt l⟩
    rw [upd_ne (by rw [hD]; exact Nat.ne_of_lt l)]
    exact (fb b hb).1
  have stc : tn 0 sc.heap := T.keep _ _ _ stb fun b _ o e => grow b o e
  have rc : RS G X t (W1.hidA D []) env h1 σ (upd Hb D (.lst [])) := by
    have n1 := r1.toRH.hdNone nD
    have l := hidA_le (Wle.refl W1) n1 []
    exact r1.lift l (r1.toRH.hide nD [])
  have hid1 : W1.hid D = none := r1.toRH.hdNone nD
  -- iterators are no cells
  have notfp : ∀ c ob v, sc.heap.get? c = some ob → ob.data = .cell v → c ∉ fp := fun c ob v g d hm => by
    obtain ⟨o, e, nc⟩ := T.obj _ _ stc c hm
    rw [g] at e; cases e
    exact nc v d
  have nfp1 : ∀ c v, W1.cv c = some v → c ∉ fp := fun c v e => by
    rcases (rc.cv c v e).2 with ⟨ca, _⟩ | ⟨ob, u, _, z, d, _⟩
    · obtain ⟨_, _, ob, u, g, d, _⟩ := cellA_at Ic ca
      exact notfp c ob _ g d
    · exact notfp c ob _ (Ic.hok c _ z).1 d
  have nfp2 : ∀ c, t.ow c → c ∉ fp := fun c ho => by
    rcases F.owx c ho with ⟨y, hy, hl⟩ | ⟨n, nx, ob, v, g, d⟩
    · obtain ⟨v, ob, g, d⟩ := Ic.cell y c hl
      exact notfp c ob v g d
    · obtain ⟨sl, q⟩ := Ic.base.any g n nx
      exact notfp c _ v q d
  -- the block; what it starts with forgets the new list
  have rc0 : RS G X t W1 env h1 σ (upd Hb D (.lst [])) := r1.kept nD
  obtain ⟨Y, hYd⟩ : ∃ Y, Y = X.blk sc (upd Hb D (.lst [])) scope (benv X sc scope) fp := ⟨_, rfl⟩
  have isb : IsBlk X t scope Y (bFm t W1 Y) := by rw [hYd]; exact blk_ok Ic F ok cf fc rc0 nfp2
  have rb0 : RS G Y (bFm t W1 Y) W1 (wipe env (own.map (·.2))) h1 (L2.wipe σ (own.map (·.2))) (upd Hb D (.lst [])) := by rw [hYd]; exact blk_rs Ic F ok fc rc0 nfp1
  have rb : RS G Y (bFm t W1 Y) (W1.hidA D []) (wipe env (own.map (·.2))) h1 (L2.wipe σ (own.map (·.2))) (upd Hb D (.lst [])) :=
    rb0.lift (hidA_le (Wle.refl W1) hid1 []) ⟨rc.fz, rc.live, rc.inj, rc.dis, rc.new, rc.tabs, rc.fn, rb0.cv, rb0.tk, rc.hd⟩
  have Id := L2.block_start Ic ok hN fc
  obtain ⟨pg, pt, pe⟩ := hY Y _ isb
  obtain ⟨sd, hsd⟩ : ∃ sd : Shared, sd = { sc with heap := pushCells (sc.heap.push { cls := .type "dict", data := .dict #[] }) scope.names } := ⟨_, rfl⟩
  have Id' : Inv Y [] (L2.wipe σ (own.map (·.2))) (upd Hb D (.lst [])) sd := by rw [hYd, hsd]; exact Id
  have Yl : Y.env.locals = sc.heap.objs.size := by rw [hYd]; rfl
  have std : tn 0 sd.heap := T.keep _ _ _ stc fun b _ o e => by rw [hsd]; exact pushCells_keeps _ _ _ _ (Heap.get?_push_of_some _ e)
  have Yprog : Y.prog = X.prog ∧ Y.w = X.w ∧ Y.K = X.K ∧ Y.calm = X.calm ∧ Y.A = X.A ∧ Y.ex = fp ∧ Y.pn = [] ∧ Y.xe = (fun _ _ => False) := by rw [hYd]; exact ⟨rfl, rfl, rfl, rfl, rfl, rfl, rfl, rfl⟩
  obtain ⟨y1, y2, y3, y4, y5, y6, y7, y8⟩ := Yprog
  clear y1 y2 y3 y4 y5 y6 y7 y8
  subst hYd
  have pin0 : ∀ {σ' : L2.St} {H' : Hp} {s' : Shared}, Inv (X.blk sc (upd Hb D (.lst [])) scope (benv X sc scope) fp) [] σ' H' s' → (∀ b ∈ fp, H' b = none) → ∀ b ∈ fp, FpOk (X.blk sc (upd Hb D (.lst [])) scope (benv X sc scope) fp) [] H' b := fun {σ' H' s'} I' hn b hb =>
    ⟨hn b hb, (I'.ok.exf b hb).1, I'.ok.exfs b hb, .inl hb, fun x c e => (I'.ok.exf b hb).2 x c e, fun p hp => by cases hp⟩
  have envB : ∀ {W' : Wd} {σ' : L2.St}, Wle W1 W' → (∀ j, j ∉ own.map (·.2) → σ'[j]? = σ[j]?) → ∀ i v, get (wipe env (own.map (·.2))) i = some v → ∃ V, σ'[i]? = some (some V) ∧ RV G.adr G.K W' v V := fun {W' σ'} l ag i v e => by
    obtain ⟨e1, ni⟩ := wipe_get e
    obtain ⟨V, e2, r2⟩ := r1.env i v e1
    exact ⟨V, by rw [ag i ni]; exact e2, r2.mono l⟩
  have loop : codeAny (model X.prog X.w) X.A (.compLoop (.ListComp elt [⟨tg, iter, ifs, 0⟩] scope pos) 0 (.ref ia) (.ref D) (benv X sc scope)) (compPost (model X.prog X.w) X.A X.xe use Qf (.ref D) sc.heap.objs.size) sd := by
    refine L2.compLoop_any (fun n s' => ∃ i H' σ' W' h' acc pvs, Inv (X.blk sc (upd Hb D (.lst [])) scope (benv X sc scope) fp) [] σ' H' s' ∧ tn i s'.heap ∧ (∀ b ∈ fp, H' b = none) ∧ (∀ j, j ∉ own.map (·.2) → σ'[j]? = σ[j]?) ∧
      RS G (X.blk sc (upd Hb D (.lst [])) scope (benv X sc scope) fp) (bFm t W1 (X.blk sc (upd Hb D (.lst [])) scope (benv X sc scope) fp)) W' (wipe env (own.map (·.2))) h' σ' H' ∧ W'.hid D = some acc ∧ RVs G.adr G.K W' pvs acc ∧ pvs.length ≤ i ∧ i + n = its.items.length ∧ (t.st && hasTokL t.t pvs) = false ∧
      wpMap its.gs (stepC O g cond ce env (own.map (·.2))) (its.items.drop i) h' fun vs h2 => PC.newL fz (pvs ++ vs) h2 Qp) ?_ its.items.length
      ⟨0, _, _, _, h1, [], [], Id', std, fun b hb => (fc b hb).1.1, fun j hj => wipeσ hj, rb, if_pos rfl, .nil, Nat.le_refl _, by omega, by cases t.st <;> rfl, w1⟩
    rintro n s5 ⟨i, H5, σ5, W5, h5, acc, pvs, I5, st5, n5, ag, r5, hd5, rv5, l5, hm, dt, w5⟩
    cases hdrop : its.items.drop i with
    | nil =>
      rw [hdrop] at w5
      obtain ⟨gs, w5⟩ := w5
      rw [List.append_nil] at w5
      have hi' : its.items.length ≤ i := by
        have := congrArg List.length hdrop
        rw [List.length_drop, List.length_nil] at this
        omega
      have stop := (wk _ _ _ W5 h5 H5 (.le r5.lek) r5.toRH gs).2 i hi'
      refine L2.thnF (T.done (X.blk sc (upd Hb D (.lst [])) scope (benv X sc scope) fp) rfl rfl rfl hc i [] s5 _ H5 (fun _ _ => False) I5 (pin0 I5 n5) st5 stop) fun r s6 ⟨hr, I6⟩ => ?_
      subst hr
      obtain ⟨leE, rX, IX⟩ := blk_end Ic ok hown (fun b hb => (fc b hb).1) rc0 I6 r5 ag
      have fin := rX.give (W' := W1) (D := D) (acc := acc) (pvs := pvs) leE hid1 hd5 (rvs_same (W' := endW (X.blk sc (upd Hb D (.lst [])) scope (benv X sc scope) fp) W5 s6.heap H5) r5.new rfl rfl rfl rfl rv5) r1.le0 r1.lek (cq.mono le1) w5 r1.env
      obtain ⟨m, hn, _⟩ := I6.loc
      have nC : (trk (ownW (X.blk sc (upd Hb D (.lst [])) scope (benv X sc scope) fp) W5) s6.heap H5) sc.heap.objs.size = none := by
        refine trk_none I6.free (ownW_out fun ⟨y, _, hl⟩ => ?_)
        exact I6.cne y _ hl rfl
      exact hRR D sc.heap.objs.size s6 m _ IX fin hn (Ic.fpOk (Nat.le_refl _) nC)
    | cons x xs =>
      rw [hdrop] at w5
      obtain ⟨gs, w5⟩ := w5
      have ex : its.items[i]? = some x := by
        have := congrArg (·[0]?) hdrop
        simpa using this
      have hx : i < its.items.length := (List.getElem?_eq_some_iff.mp ex).1
      have hxs : its.items.drop (i + 1) = xs := by
        have := congrArg (List.drop 1) hdrop
        rw [List.drop_drop] at this
        simpa using this
      obtain ⟨go, yl⟩ := (wk _ _ _ W5 h5 H5 (.le r5.lek) r5.toRH gs).1 i x ex
      refine L2.thnF (T.item (X.blk sc (upd Hb D (.lst [])) scope (benv X sc scope) fp) rfl rfl rfl hc i [] s5 _ H5 (fun _ _ => False) I5 (pin0 I5 n5) st5 go) fun r s6 ⟨u, hr, h6⟩ => ?_
      subst hr
      refine L2.thnF h6 fun _ s7 ⟨y, H7, I7, r7, y7, st7, n7⟩ => ?_
      obtain ⟨W7, le7, rh7, rv7⟩ := yl y H7 y7
      have rs7 := r5.lift le7 rh7
      have I7' := I7.pinned (pin0 I7 n7) (T.obj _ _ st7)
      refine L2.thnF (pg.run _ s7 _ H7 y u (fun σ8 H8 => ∃ W8 env8 h8, Wlq (bFm t W1 (X.blk sc (upd Hb D (.lst [])) scope (benv X sc scope) fp)) W7 W8 ∧ RS G (X.blk sc (upd Hb D (.lst [])) scope (benv X sc scope) fp) (bFm t W1 (X.blk sc (upd Hb D (.lst [])) scope (benv X sc scope) fp)) W8 env8 h8 σ8 H8 ∧ (∀ j, j ∉ g.slots → σ8[j]? = σ5[j]?) ∧
        wpAll O cond env8 h8 fun t h4 => match t with
          | true => wpE O ce env8 h4 (fun v h5 => O.dty v = false ∧ wpMap its.gs (stepC O g cond ce env (own.map (·.2))) xs h5 fun vs h2 => PC.newL fz (pvs ++ ((some v).toList ++ vs)) h2 Qp) fun _ _ => False
          | false => wpMap its.gs (stepC O g cond ce env (own.map (·.2))) xs h4 fun vs h2 => PC.newL fz (pvs ++ ((none : Option PV).toList ++ vs)) h2 Qp) I7' r7 ⟨W7, x, _, h5, _, rs7, rv7, w5, fun W8 env8 h8 σ8 H8 l r hs q => ⟨W8, env8, h8, l, r, hs, q⟩⟩) fun _ s8 ⟨σ8, H8, I8, W8, env8, h8, l8, r8, hs8, w8⟩ => ?_
      have ag8 : ∀ j, j ∉ own.map (·.2) → σ8[j]? = σ[j]? := fun j hj => by rw [hs8 j (fun z => hj (hsl j z)), ag j hj]
      have hd8 : W8.hid D = some acc := l8.lk.hid D acc (le7.hid D acc hd5)
      have rv8 : RVs G.adr G.K W8 pvs acc := (rv5.mono le7).lq l8 dt
      -- the turn's end
      have fin : ∀ {s' : Shared} {H' : Hp} {W' : Wd} {h' : Hea} {acc' : List V} {pvs' : List PV}, Inv (X.blk sc (upd Hb D (.lst [])) scope (benv X sc scope) fp) ([] ++ L2.pinsAt fp s7.heap) σ8 H' s' → RS G (X.blk sc (upd Hb D (.lst [])) scope (benv X sc scope) fp) (bFm t W1 (X.blk sc (upd Hb D (.lst [])) scope (benv X sc scope) fp)) W' env8 h' σ8 H' →
          W'.hid D = some acc' → RVs G.adr G.K W' pvs' acc' → pvs'.length ≤ i + 1 → (t.st && hasTokL t.t pvs') = false → (wpMap its.gs (stepC O g cond ce env (own.map (·.2))) xs h' fun vs h2 => PC.newL fz (pvs' ++ vs) h2 Qp) →
          ∃ m, m < n ∧ ∃ i H' σ' W' h' acc pvs, Inv (X.blk sc (upd Hb D (.lst [])) scope (benv X sc scope) fp) [] σ' H' s' ∧ tn i s'.heap ∧ (∀ b ∈ fp, H' b = none) ∧ (∀ j, j ∉ own.map (·.2) → σ'[j]? = σ[j]?) ∧
            RS G (X.blk sc (upd Hb D (.lst [])) scope (benv X sc scope) fp) (bFm t W1 (X.blk sc (upd Hb D (.lst [])) scope (benv X sc scope) fp)) W' (wipe env (own.map (·.2))) h' σ' H' ∧ W'.hid D = some acc ∧ RVs G.adr G.K W' pvs acc ∧ pvs.length ≤ i ∧ i + m = its.items.length ∧ (t.st && hasTokL t.t pvs) = false ∧
            wpMap its.gs (stepC O g cond ce env (own.map (·.2))) (its.items.drop i) h' fun vs h2 => PC.newL fz (pvs ++ vs) h2 Qp := fun {s' H' W' h' acc' pvs'} I' r' hd' rv' l' dt' w' => by
        have pin' : ∀ b ∈ fp, ∀ o, s7.heap.get? b = some o → s'.heap.get? b = some o ∧ H' b = none := fun b hb o e =>
          let z := I'.pin (b, o) (List.mem_append_right _ (List.mem_append_right _ (L2.mem_pinsAt hb e)))
          ⟨z.1, z.2.1⟩
        refine ⟨n - 1, by omega, i + 1, H', σ8, W', h', acc', pvs', I'.unpinned (pins := []), T.keep _ _ _ st7 fun b hb o e => (pin' b hb o e).1, fun b hb => ?_, ag8, ⟨r'.toRH, ?_, envB r'.lek ag8, r'.le0, r'.lek⟩, hd', rv', l', by omega, dt', by rw [hxs]; exact w'⟩
        · obtain ⟨o, e, _⟩ := T.obj _ _ st7 b hb
          exact (pin' b hb o e).2
        · have z1 : σ8.length = X.N.length := I'.len
          have z2 : σ.length = X.N.length := I.len
          rw [wipe_len, r1.len, z1, z2]
      refine L2.thnF (pt.run _ s8 σ8 H8 (fun b H9 => ∃ W9 h9, Wle W8 W9 ∧ RS G (X.blk sc (upd Hb D (.lst [])) scope (benv X sc scope) fp) (bFm t W1 (X.blk sc (upd Hb D (.lst [])) scope (benv X sc scope) fp)) W9 env8 h9 σ8 H9 ∧ match b with
          | true => wpE O ce env8 h9 (fun v h5 => O.dty v = false ∧ wpMap its.gs (stepC O g cond ce env (own.map (·.2))) xs h5 fun vs h2 => PC.newL fz (pvs ++ ((some v).toList ++ vs)) h2 Qp) fun _ _ => False
          | false => wpMap its.gs (stepC O g cond ce env (own.map (·.2))) xs h9 fun vs h2 => PC.newL fz (pvs ++ ((none : Option PV).toList ++ vs)) h2 Qp) I8 ⟨W8, env8, h8, _, r8, w8, fun W9 b h9 H9 le r q => ⟨W9, h9, le, r, q⟩⟩) fun b s9 ⟨H9, I9, W9, h9, le9, r9, q9⟩ => ?_
      cases b with
      | false =>
        rw [if_neg Bool.false_ne_true]
        exact fin I9 r9 (le9.hid D acc hd8) (rv8.mono le9) (by omega) dt q9
      | true =>
        rw [if_pos rfl]
        refine L2.thnF (pe.run _ s9 σ8 H9 (fun z H10 => ∃ W10 v h10, Wle W9 W10 ∧ RS G (X.blk sc (upd Hb D (.lst [])) scope (benv X sc scope) fp) (bFm t W1 (X.blk sc (upd Hb D (.lst [])) scope (benv X sc scope) fp)) W10 env8 h10 σ8 H10 ∧ RV G.adr G.K W10 v z ∧ O.dty v = false ∧ wpMap its.gs (stepC O g cond ce env (own.map (·.2))) xs h10 fun vs h2 => PC.newL fz (pvs ++ ((some v).toList ++ vs)) h2 Qp)
          I9 ⟨W9, env8, h9, _, _, r9, q9, fun W10 v h10 z H10 le r rv q => ⟨W10, v, h10, le, r, rv, q.1, q.2⟩, fun _ _ _ _ _ _ _ _ _ z => z⟩) fun u2 s10 ⟨z, H10, I10, r10, W10, v, h10, le10, rs10, rvz, dv, q10⟩ => ?_
        have hd10 : W10.hid D = some acc := le10.hid D acc (le9.hid D acc hd8)
        have rv10 : RVs G.adr G.K W10 pvs acc := (rv8.mono le9).mono le10
        have la : acc.length < sizeLine := by
          have e1 := rv5.length
          have e2 : sizeLine = line := sizeLine_eq
          rw [← e1, e2]; omega
        refine L2.app_ok (X := X.blk sc (upd Hb D (.lst [])) scope (benv X sc scope) fp) I10 (rs10.hd D acc hd10).1 la r10 fun s11 I11 => ?_
        have lh : ∀ {Wz : Wd}, Wle Wz W10 → Wz.hid D = none → Wle Wz (W10.hidA D (acc ++ [z])) := fun l n => hidA_le l n _
        have r11 : RS G (X.blk sc (upd Hb D (.lst [])) scope (benv X sc scope) fp) (bFm t W1 (X.blk sc (upd Hb D (.lst [])) scope (benv X sc scope) fp)) (W10.hidA D (acc ++ [z])) env8 h10 σ8 (upd H10 D (.lst (acc ++ [z]))) := by
          refine ⟨rs10.toRH.rehide hd10 _, rs10.len, fun i v e => ?_, ?_, lh rs10.lek hid1⟩
          · obtain ⟨V, e1, r2⟩ := rs10.env i v e
            exact ⟨V, e1, rv_same (W' := W10.hidA D (acc ++ [z])) rs10.new rfl rfl rfl rfl r2⟩
          · refine lh rs10.le0 ?_
            cases n0 : t.W0.hid D with
            | none => exact n0
            | some vs0 => have k := r1.le0.hid D vs0 n0; rw [hid1] at k; cases k
        have ap : RVs G.adr G.K (W10.hidA D (acc ++ [z])) (pvs ++ [v]) (acc ++ [z]) := rvs_same (W' := W10.hidA D (acc ++ [z])) rs10.new rfl rfl rfl rfl (rv10.append (.cons rvz .nil))
        refine fin I11 r11 (if_pos rfl) ap (by rw [List.length_append]; simp; omega) ?_ ?_
        · unfold Orc.dty at dv
          rw [ht, hst] at dv
          cases q : t.st with
          | false => rfl
          | true =>
            rw [q] at dt dv
            have app : ∀ l : List PV, hasTokL t.t l = false → hasTokL t.t (l ++ [v]) = false := by
              intro l
              induction l with
              | nil => intro _; exact Bool.or_eq_false_iff.mpr ⟨dv, rfl⟩
              | cons a l ih => intro hl; obtain ⟨a1, a2⟩ := Bool.or_eq_false_iff.mp hl; exact Bool.or_eq_false_iff.mpr ⟨a1, ih a2⟩
            exact app pvs dt
        · have e : (fun vs h2 => PC.newL fz (pvs ++ ((some v).toList ++ vs)) h2 Qp) = fun vs h2 => PC.newL fz ((pvs ++ [v]) ++ vs) h2 Qp := by
            funext vs h2
            simp
          rw [← e]
          exact q10
  have done := codeAny_compStart_list loop (T.self X.A 0 _ _ _ std loop)
  subst hsd hsc hD
  exact done
end
end PC

set_option Elab.async false
set_option maxRecDepth 100000
/-! PC18: a comprehension as a value, and stored at once. -/
namespace PC
open PySem PySem.Spec PyProof.Rows
open L2 (V HO Hp upd upd_same upd_ne Rd SqL SqT Cx Inv TE TT TA TS TG TGs TI VK PE PT PW PA PK PS PSs PG PGs PI PTs It R2 OpR CallR Un UB HOk ObjOk Env0 FnOk Sp XK Room frs CR EP Takes Ends FpOk BlkOk cloFrom)
section
variable {G : Gs} {X : Cx} {t : Fm} {Wx : L2.WX} {O : Orc} {elt tg iter : Expr} {ifs : List Expr} {scope : Scope} {own : List (Str × Nat)} {pos : Pos} {fz : Bool} {ce : CE} {g : CT} {it : CI} {cond : CEs}
theorem le_comp (hc : X.calm = true) (hN : X.N.Nodup) (hK : X.K = G.K) (ht : O.tok = t.t) (hst : O.st = t.st) (F : FmOk X t) (cf : ∀ y c, X.env.cells.lookup y = some c → c ∉ X.fs) (hi : PI X tg iter (LI G X t Wx (wpI O it))) (ok : BlkOk X.N X.env.scope scope own)
    (hown : ∀ p ∈ own, scope.names.lookup p.1 ≠ some .free) (hsl : ∀ j ∈ g.slots, j ∈ own.map (·.2))
    (hY : ∀ Y tb, IsBlk X t scope Y tb → PG Y tg (LG G Y tb g.slots (wpT O g)) ∧ PTs Y ifs (LQ G Y tb (wpAll O cond)) ∧ PE Y elt (LE G Y tb (fun _ _ _ _ => False) (wpE O ce)))
    (hs : ∀ x, foldedSetIterable iter X.env x = pure x) : PE X (.ListComp elt [⟨tg, iter, ifs, 0⟩] scope pos) (LE G X t Wx (wpE O (.comp fz ce g it cond (own.map (·.2))))) := by
  refine ⟨fun pins s σ H Q I q => ?_⟩
  obtain ⟨W, env, h, Qp, Xp, rs, w, cq, cx⟩ := q
  rw [eval_ListComp]
  refine comp_core hc hN hK ht hst F cf I hi ok hown hsl hY hs rs w cq cx fun D C s' m H' I' q hn f => ⟨m, hn, fun h2 sb => ?_⟩
  exact ⟨.ref D, H', I'.turned (t' := s'.toks) (fun b o hb e => (sb.2 b hb).trans e) f.1 f.2.1 f.2.2.2.1 f.2.2.2.2.1 f.2.2.2.2.2, rfl, q⟩
theorem ls_setLc {i : Nat} {y : Str} {py spos : Pos} (hc : X.calm = true) (hN : X.N.Nodup) (hK : X.K = G.K) (ht : O.tok = t.t) (hst : O.st = t.st) (F : FmOk X t) (cf : ∀ y c, X.env.cells.lookup y = some c → c ∉ X.fs) (hy : X.N[i]? = some y) (hyl : X.env.scope.names.lookup y = some .local)
    (hsw : swapsWith (.ListComp elt [⟨tg, iter, ifs, 0⟩] scope pos) (some (.Name y py)) spos.line X.env = pure true) (hi : PI X tg iter (LI G X t Wx (wpI O it))) (ok : BlkOk X.N X.env.scope scope own)
    (hown : ∀ p ∈ own, scope.names.lookup p.1 ≠ some .free) (hsl : ∀ j ∈ g.slots, j ∈ own.map (·.2))
    (hY : ∀ Y tb, IsBlk X t scope Y tb → PG Y tg (LG G Y tb g.slots (wpT O g)) ∧ PTs Y ifs (LQ G Y tb (wpAll O cond)) ∧ PE Y elt (LE G Y tb (fun _ _ _ _ => False) (wpE O ce)))
    (hs : ∀ x, foldedSetIterable iter X.env x = pure x) : PS X (.Assign [.Name y py] (.ListComp elt [⟨tg, iter, ifs, 0⟩] scope pos) spos) (LS G X t Wx (wpS O (.asg (.name i false) (.comp fz ce g it cond (own.map (·.2)))))) := by
  refine ⟨fun pins s σ H D I q => ?_⟩
  obtain ⟨W, env, h, K, rs, w, c⟩ := q
  rw [exec_Assign_Name_used _ _ _ _ hsw]
  refine wpAny_bind (wpAny_standAt (wpAny_bind ?_))
  show wpAny _ X.A (do let _ ← comprehension (.ListComp elt [⟨tg, iter, ifs, 0⟩] scope pos) scope X.env (firstIterPos [⟨tg, iter, ifs, 0⟩] pos) (newList []) false (eval iter X.env) (some (assign (.Name y py) X.env))) _ _ s
  rw [wpS] at w
  refine wpAny_bind (L2.thn (comp_core (Qf := fun _ s' => L2.SP X pins D .next s') (Q := fun x H1 => D.nx (σ.set i (some x)) H1) hc hN hK ht hst F cf I hi ok hown hsl hY hs rs w (fun W' v h' x H' le r rv q => ?_) c.cx fun L C s' m H' I' q hn f => ?_) fun _ s' hq => wpAny_pure (wpAny_pure hq))
  · simp only [wpT, setE] at q
    exact c.nx W' _ h' _ H' le.lq (r.setLoc hy hyl rv) q
  · show wpAny _ _ (assign (.Name y py) X.env (.ref L)) _ _ _
    refine wpAny_assign_Name (L2.store_ok2 (v := V.ref L) I' hN hy (.inl hyl) rfl (fun s2 I2 ⟨a, sb, ha⟩ => ?_) (.inr hyl))
    have ne : C ≠ a := by
      rcases ha with z | z
      · rw [z]; exact f.2.1
      · exact fun e => f.2.2.2.2.1 y a z e.symm
    exact ⟨m, hn.sameBut sb ne, fun h3 sb3 => ⟨_, H', I2.turned (t' := s2.toks) (fun b o hb e => (sb3.2 b hb).trans e) f.1 f.2.1 f.2.2.2.1 f.2.2.2.2.1 f.2.2.2.2.2, q⟩⟩
end
end PC

set_option Elab.async false
set_option maxRecDepth 100000
set_option maxHeartbeats 2000000
/-! PCc: comprehensions of two clauses. -/
namespace PC
open PySem PySem.Spec PyProof.Rows
open L2 (V HO Hp upd upd_same upd_ne Rd SqL SqT Cx Inv TE TT TA TS TG TGs TI VK PE PT PW PA PK PS PSs PG PGs PI PTs It R2 OpR CallR Un UB HOk ObjOk Env0 FnOk Sp XK Room frs CR EP Takes Ends FpOk BlkOk cloFrom)
section
variable {G : Gs} {X : Cx} {t : Fm} {Wx : L2.WX} {O : Orc} {W W' : Wd} {env env' : Env} {h h' : Hea} {σ σ' : L2.St} {H H' : Hp} {pins : List (Addr × Obj)} {s s' : Shared} {Qp : KQ} {Xp : KX} {Q : VK}
abbrev inner2 (O : Orc) (g1 : CT) (it1 : CI) (cond1 : CEs) (ce : CE) (env2 : Env) (h4 : Hea) (k : List PV → Hea → Prop) : Prop := cleanE O env2 = true ∧ wpI O it1 env2 h4 (fun its1 h5 => its1.items.length ≤ 4096 ∧ O.dtyL its1.items = false ∧ wpMap its1.gs (stepC O g1 cond1 ce env2 g1.slots) its1.items h5 k) fun _ _ => False
abbrev step2 (O : Orc) (g : CT) (cond : CEs) (g1 : CT) (it1 : CI) (cond1 : CEs) (ce : CE) (env : Env) (own : List Nat) : PV → Hea → (List PV → Hea → Prop) → Prop := fun x h2 k => wpT O g x (wipe env own) h2 (fun env2 h3 => wpAll O cond env2 h3 fun t h4 => match t with
  | true => inner2 O g1 it1 cond1 ce env2 h4 k
  | false => k [] h4)
theorem clean_get {O : Orc} {env : Env} (c : cleanE O env = true) {i : Nat} {v : PV} (e : get env i = some v) : O.dty v = false := by
  unfold get at e
  split at e
  · rename_i u q
    cases e
    have z := List.all_eq_true.mp c _ (List.mem_of_getElem? q)
    simpa using z
  · cases e
theorem Wlq.bare2 {t : Fm} {W W1 W2 : Wd} (a : Wlq t W.bare W1) (b : Wlq t W1.bare W2) : Wlq t W.bare W2 :=
  ⟨⟨fun n x e => b.lk.rho n x (a.lk.rho n x e), fun n x e => b.lk.fz n x (a.lk.fz n x e), fun x o e n => by
    obtain ⟨e1, h1⟩ := a.lk.fn x o e n
    obtain ⟨e2, h2⟩ := b.lk.fn x o e1 n
    exact ⟨e2, fun c v hc hv => h2 c v hc (h1 c v hc hv)⟩, fun x o e => by cases e⟩,
   fun q => ⟨fun n x e => (b.le q).rho n x ((a.le q).rho n x e), fun n x e => (b.le q).fz n x ((a.le q).fz n x e), fun n x e => (b.le q).fn n x ((a.le q).fn n x e), fun n x e => (b.le q).cv n x ((a.le q).cv n x e), fun c v o hv e => (b.le q).co c v o ((a.le q).cv c v hv) ((a.le q).co c v o hv e), fun x o e => by cases e⟩⟩
theorem Wle.hidB {W W' : Wd} (l : Wle W W') {D : Addr} {vs : List V} : Wle W.bare (W'.hidA D vs) := ⟨l.rho, l.fz, l.fn, l.cv, l.co, fun a o e => by cases e⟩
theorem tok_app {t : Nat} {l : List PV} {v : PV} (h : (true && hasTokL t l) = false) (hv : (true && v.hasTok t) = false) : (true && hasTokL t (l ++ [v])) = false := by
  rw [Bool.true_and] at h hv ⊢
  induction l with
  | nil => exact Bool.or_eq_false_iff.mpr ⟨hv, rfl⟩
  | cons a l ih => obtain ⟨a1, a2⟩ := Bool.or_eq_false_iff.mp h; exact Bool.or_eq_false_iff.mpr ⟨a1, ih a2⟩
theorem comp2_core {elt tg iter tg1 iter1 : Expr} {ifs ifs1 : List Expr} {scope : Scope} {own : List (Str × Nat)} {pos pos' : Pos} {use : Option (Value → Sem Unit)} {Qf : Value → Shared → Prop} {fz : Bool} {ce : CE} {g g1 : CT} {it it1 : CI} {cond cond1 : CEs}
    (hc : X.calm = true) (hN : X.N.Nodup) (hK : X.K = G.K) (ht : O.tok = t.t) (hst : O.st = t.st) (F : FmOk X t) (cf : ∀ y c, X.env.cells.lookup y = some c → c ∉ X.fs) (I : Inv X pins σ H s) (hi : PI X tg iter (LI G X t Wx (wpI O it))) (ok : BlkOk X.N X.env.scope scope own)
    (hown : ∀ p ∈ own, scope.names.lookup p.1 ≠ some .free) (hsl : ∀ j ∈ g.slots, j ∈ own.map (·.2)) (hsl1 : ∀ j ∈ g1.slots, j ∈ own.map (·.2))
    (hY : ∀ Y tb, IsBlk X t scope Y tb → PG Y tg (LG G Y tb g.slots (wpT O g)) ∧ PTs Y ifs (LQ G Y tb (wpAll O cond)) ∧ PI Y tg1 iter1 (LI G Y tb (fun _ _ _ _ => False) (wpI O it1)) ∧ PG Y tg1 (LG G Y tb g1.slots (wpT O g1)) ∧ PTs Y ifs1 (LQ G Y tb (wpAll O cond1)) ∧ PE Y elt (LE G Y tb (fun _ _ _ _ => False) (wpE O ce)))
    (hs : ∀ x, foldedSetIterable iter X.env x = pure x) (hs1 : ∀ (en : PySem.Env) x, foldedSetIterable iter1 en x = pure x) (rs : RS G X t W env h σ H) (w : wpE O (.comp2 fz ce g it cond g1 it1 cond1 (own.map (·.2))) env h Qp Xp) (cq : CQ G X t W env σ Qp Q) (cx : CX G X t Wx W env σ Xp)
    (hRR : ∀ D C s' m H', Inv X pins σ H' s' → Q (.ref D) H' → s'.heap.Ns C m → FpOk X pins H' C → compPost (model X.prog X.w) X.A X.xe use Qf (.ref D) C (.ok .next) s') :
    wpAny (model X.prog X.w) X.A (comprehension (.ListComp elt [⟨tg, iter, ifs, 0⟩, ⟨tg1, iter1, ifs1, 0⟩] scope pos) scope X.env pos' (newList []) false (eval iter X.env) use) Qf X.xe s := by
  have hfree : ∀ y ∈ scope.names, y.2 = .free → ∃ c, X.env.cells.lookup y.1 = some c := fun y hy e => (ok.free y hy e).elim (fun k => I.ok.has _ (.inl k)) fun k => I.ok.has _ (.inr k)
  simp only [wpE] at w
  -- the iterable
  refine wpAny_comprehension_free (use := use) rfl hs (L2.closure_ok hfree) ok.kind (fun y hy e => by rw [ok.uniq y hy, e]) (L2.thn (hi.run pins s σ H (fun J H2 => ∃ W1 its h1, Wle W W1 ∧ RS G X t W1 env h1 σ H2 ∧ Walks G t W1 its J ∧ its.items.length ≤ 4096 ∧
    wpFlat its.gs (step2 O g cond g1 it1 cond1 ce env (own.map (·.2))) its.items h1 fun vs h2 => newL fz vs h2 Qp) I ⟨W, env, h, _, Xp, rs, w, fun W1 its h1 H1 J le r1 wk q => ⟨W1, its, h1, le, r1, wk, q⟩, cx⟩) fun xv sa hx => L2.thn hx fun itv sb hb => ?_)
  obtain ⟨ia, fp, tn, J, Hb, rfl, Ib, T, stb, fb, W1, its, h1, le1, r1, wk, hlen, w1⟩ := hb
  refine wpAny_newObj_type (L2.newEnv_comp ?_) (by show 0 ≤ sizeLine; decide)
  -- the new list
  obtain ⟨D, hD⟩ : ∃ D, D = sb.heap.objs.size := ⟨_, rfl⟩
  have nD : Hb D = none := Ib.hok.fresh (by rw [hD]; exact Nat.le_refl _)
  obtain ⟨sc, hsc⟩ : ∃ sc : Shared, sc = { sb with heap := sb.heap.push { cls := .type "list", data := .seq ([] : List Value).toArray } } := ⟨_, rfl⟩
  have Ic : Inv X pins σ (upd Hb D (.lst [])) sc := by
    rw [hsc]
    refine Ib.laid (t' := sb.toks) (fun b o e => Heap.get?_push_of_some _ e) (by rw [hD]; exact Nat.le_refl _) ⟨Nat.zero_le _, [], 0, .nil, ?_⟩
    rw [hD]
    exact Heap.get?_push_size _ rfl
  have heapc : sc.heap = sb.heap.push { cls := .type "list", data := .seq ([] : List Value).toArray } := by rw [hsc]
  have grow : ∀ b o, sb.heap.get? b = some o → sc.heap.get? b = some o := fun b o e => by rw [heapc]; exact Heap.get?_push_of_some _ e
  have small : ∀ b ∈ fp, b < sb.heap.objs.size := fun b hb => by
    obtain ⟨o, e, _⟩ := T.obj _ _ stb b hb
    exact Heap.lt_size e
  have fc : ∀ b ∈ fp, FpOk X pins (upd Hb D (.lst [])) b ∧ b < sc.heap.objs.size := fun b hb => by
    have l := small b hb
    refine ⟨⟨?_, (fb b hb).2⟩, by rw [heapc, Heap.size_push]; exact Nat.lt_succ_of_lt l⟩
    rw [upd_ne (by rw [hD]; exact Nat.ne_of_lt l)]
    exact (fb b hb).1
  have stc : tn 0 sc.heap := T.keep _ _ _ stb fun b _ o e => grow b o e
  have rc : RS G X t (W1.hidA D []) env h1 σ (upd Hb D (.lst [])) := by
    have n1 := r1.toRH.hdNone nD
    have l := hidA_le (Wle.refl W1) n1 []
    exact r1.lift l (r1.toRH.hide nD [])
  have hid1 : W1.hid D = none := r1.toRH.hdNone nD
  -- iterators are no cells
  have notfp : ∀ c ob v, sc.heap.get? c = some ob → ob.data = .cell v → c ∉ fp := fun c ob v g d hm => by
    obtain ⟨o, e, nc⟩ := T.obj _ _ stc c hm
    rw [g] at e; cases e
    exact nc v d
  have nfp1 : ∀ c v, W1.cv c = some v → c ∉ fp := fun c v e => by
    rcases (rc.cv c v e).2 with ⟨ca, _⟩ | ⟨ob, u, _, z, d, _⟩
    · obtain ⟨_, _, ob, u, g, d, _⟩ := cellA_at Ic ca
      exact notfp c ob _ g d
    · exact notfp c ob _ (Ic.hok c _ z).1 d
  have nfp2 : ∀ c, t.ow c → c ∉ fp := fun c ho => by
    rcases F.owx c ho with ⟨y, hy, hl⟩ | ⟨n, nx, ob, v, g, d⟩
    · obtain ⟨v, ob, g, d⟩ := Ic.cell y c hl
      exact notfp c ob v g d
    · obtain ⟨sl, q⟩ := Ic.base.any g n nx
      exact notfp c _ v q d
  -- the block; what it starts with forgets the new list
  have rc0 : RS G X t W1 env h1 σ (upd Hb D (.lst [])) := r1.kept nD
  obtain ⟨Y, hYd⟩ : ∃ Y, Y = X.blk sc (upd Hb D (.lst [])) scope (benv X sc scope) fp := ⟨_, rfl⟩
  have isb : IsBlk X t scope Y (bFm t W1 Y) := by rw [hYd]; exact blk_ok Ic F ok cf fc rc0 nfp2
  have rb0 : RS G Y (bFm t W1 Y) W1 (wipe env (own.map (·.2))) h1 (L2.wipe σ (own.map (·.2))) (upd Hb D (.lst [])) := by rw [hYd]; exact blk_rs Ic F ok fc rc0 nfp1
  have rb : RS G Y (bFm t W1 Y) (W1.hidA D []) (wipe env (own.map (·.2))) h1 (L2.wipe σ (own.map (·.2))) (upd Hb D (.lst [])) :=
    rb0.lift (hidA_le (Wle.refl W1) hid1 []) ⟨rc.fz, rc.live, rc.inj, rc.dis, rc.new, rc.tabs, rc.fn, rb0.cv, rb0.tk, rc.hd⟩
  have Id := L2.block_start Ic ok hN fc
  obtain ⟨pg, pt, pi1, pg1, pt1, pe⟩ := hY Y _ isb
  obtain ⟨sd, hsd⟩ : ∃ sd : Shared, sd = { sc with heap := pushCells (sc.heap.push { cls := .type "dict", data := .dict #[] }) scope.names } := ⟨_, rfl⟩
  have Id' : Inv Y [] (L2.wipe σ (own.map (·.2))) (upd Hb D (.lst [])) sd := by rw [hYd, hsd]; exact Id
  have Yl : Y.env.locals = sc.heap.objs.size := by rw [hYd]; rfl
  have std : tn 0 sd.heap := T.keep _ _ _ stc fun b _ o e => by rw [hsd]; exact pushCells_keeps _ _ _ _ (Heap.get?_push_of_some _ e)
  have Yprog : Y.prog = X.prog ∧ Y.w = X.w ∧ Y.K = X.K ∧ Y.calm = X.calm ∧ Y.A = X.A ∧ Y.ex = fp ∧ Y.pn = [] ∧ Y.xe = (fun _ _ => False) := by rw [hYd]; exact ⟨rfl, rfl, rfl, rfl, rfl, rfl, rfl, rfl⟩
  obtain ⟨y1, y2, y3, y4, y5, y6, y7, y8⟩ := Yprog
  clear y1 y2 y3 y4 y5 y6 y7 y8
  subst hYd
  have pin0 : ∀ {σ' : L2.St} {H' : Hp} {s' : Shared}, Inv (X.blk sc (upd Hb D (.lst [])) scope (benv X sc scope) fp) [] σ' H' s' → (∀ b ∈ fp, H' b = none) → ∀ b ∈ fp, FpOk (X.blk sc (upd Hb D (.lst [])) scope (benv X sc scope) fp) [] H' b := fun {σ' H' s'} I' hn b hb =>
    ⟨hn b hb, (I'.ok.exf b hb).1, I'.ok.exfs b hb, .inl hb, fun x c e => (I'.ok.exf b hb).2 x c e, fun p hp => by cases hp⟩
  have envB : ∀ {W' : Wd} {σ' : L2.St}, Wle W1 W' → (∀ j, j ∉ own.map (·.2) → σ'[j]? = σ[j]?) → ∀ i v, get (wipe env (own.map (·.2))) i = some v → ∃ V, σ'[i]? = some (some V) ∧ RV G.adr G.K W' v V := fun {W' σ'} l ag i v e => by
    obtain ⟨e1, ni⟩ := wipe_get e
    obtain ⟨V, e2, r2⟩ := r1.env i v e1
    exact ⟨V, by rw [ag i ni]; exact e2, r2.mono l⟩
  have loop : codeAny (model X.prog X.w) X.A (.compLoop (.ListComp elt [⟨tg, iter, ifs, 0⟩, ⟨tg1, iter1, ifs1, 0⟩] scope pos) 0 (.ref ia) (.ref D) (benv X sc scope)) (compPost (model X.prog X.w) X.A X.xe use Qf (.ref D) sc.heap.objs.size) sd := by
    refine L2.compLoop2_out (hs1 _) (fun n s' => ∃ i H' σ' W' h' acc pvs, Inv (X.blk sc (upd Hb D (.lst [])) scope (benv X sc scope) fp) [] σ' H' s' ∧ tn i s'.heap ∧ (∀ b ∈ fp, H' b = none) ∧ (∀ j, j ∉ own.map (·.2) → σ'[j]? = σ[j]?) ∧
      RS G (X.blk sc (upd Hb D (.lst [])) scope (benv X sc scope) fp) (bFm t W1 (X.blk sc (upd Hb D (.lst [])) scope (benv X sc scope) fp)) W' (wipe env (own.map (·.2))) h' σ' H' ∧ W'.hid D = some acc ∧ RVs G.adr G.K W' pvs acc ∧ pvs.length ≤ i * 4096 ∧ i + n = its.items.length ∧ (t.st && hasTokL t.t pvs) = false ∧
      wpFlat its.gs (step2 O g cond g1 it1 cond1 ce env (own.map (·.2))) (its.items.drop i) h' fun vs h2 => PC.newL fz (pvs ++ vs) h2 Qp) ?_ its.items.length
      ⟨0, _, _, _, h1, [], [], Id', std, fun b hb => (fc b hb).1.1, fun j hj => wipeσ hj, rb, if_pos rfl, .nil, Nat.zero_le _, by omega, by cases t.st <;> rfl, w1⟩
    rintro n s5 ⟨i, H5, σ5, W5, h5, acc, pvs, I5, st5, n5, ag, r5, hd5, rv5, l5, hm, dt, w5⟩
    cases hdrop : its.items.drop i with
    | nil =>
      rw [hdrop] at w5
      obtain ⟨gs, w5⟩ := w5
      rw [List.append_nil] at w5
      have hi' : its.items.length ≤ i := by
        have := congrArg List.length hdrop
        rw [List.length_drop, List.length_nil] at this
        omega
      have stop := (wk _ _ _ W5 h5 H5 (.le r5.lek) r5.toRH gs).2 i hi'
      refine L2.thnF (T.done (X.blk sc (upd Hb D (.lst [])) scope (benv X sc scope) fp) rfl rfl rfl hc i [] s5 _ H5 (fun _ _ => False) I5 (pin0 I5 n5) st5 stop) fun r s6 ⟨hr, I6⟩ => ?_
      subst hr
      obtain ⟨leE, rX, IX⟩ := blk_end Ic ok hown (fun b hb => (fc b hb).1) rc0 I6 r5 ag
      have fin := rX.give (W' := W1) (D := D) (acc := acc) (pvs := pvs) leE hid1 hd5 (rvs_same (W' := endW (X.blk sc (upd Hb D (.lst [])) scope (benv X sc scope) fp) W5 s6.heap H5) r5.new rfl rfl rfl rfl rv5) r1.le0 r1.lek (cq.mono le1) w5 r1.env
      obtain ⟨m, hn, _⟩ := I6.loc
      have nC : (trk (ownW (X.blk sc (upd Hb D (.lst [])) scope (benv X sc scope) fp) W5) s6.heap H5) sc.heap.objs.size = none := by
        refine trk_none I6.free (ownW_out fun ⟨y, _, hl⟩ => ?_)
        exact I6.cne y _ hl rfl
      exact hRR D sc.heap.objs.size s6 m _ IX fin hn (Ic.fpOk (Nat.le_refl _) nC)
    | cons x xs =>
      rw [hdrop] at w5
      obtain ⟨gs, w5⟩ := w5
      have ex : its.items[i]? = some x := by
        have := congrArg (·[0]?) hdrop
        simpa using this
      have hx : i < its.items.length := (List.getElem?_eq_some_iff.mp ex).1
      have hxs : its.items.drop (i + 1) = xs := by
        have := congrArg (List.drop 1) hdrop
        rw [List.drop_drop] at this
        simpa using this
      obtain ⟨go, yl⟩ := (wk _ _ _ W5 h5 H5 (.le r5.lek) r5.toRH gs).1 i x ex
      refine L2.thnF (T.item (X.blk sc (upd Hb D (.lst [])) scope (benv X sc scope) fp) rfl rfl rfl hc i [] s5 _ H5 (fun _ _ => False) I5 (pin0 I5 n5) st5 go) fun r s6 ⟨u, hr, h6⟩ => ?_
      subst hr
      refine L2.thnF h6 fun _ s7 ⟨y, H7, I7, r7, y7, st7, n7⟩ => ?_
      obtain ⟨W7, le7, rh7, rv7⟩ := yl y H7 y7
      have rs7 := r5.lift le7 rh7
      have I7' := I7.pinned (pin0 I7 n7) (T.obj _ _ st7)
      refine L2.thnF (pg.run _ s7 _ H7 y u (fun σ8 H8 => ∃ W8 env8 h8, Wlq (bFm t W1 (X.blk sc (upd Hb D (.lst [])) scope (benv X sc scope) fp)) W7 W8 ∧ RS G (X.blk sc (upd Hb D (.lst [])) scope (benv X sc scope) fp) (bFm t W1 (X.blk sc (upd Hb D (.lst [])) scope (benv X sc scope) fp)) W8 env8 h8 σ8 H8 ∧ (∀ j, j ∉ g.slots → σ8[j]? = σ5[j]?) ∧
        wpAll O cond env8 h8 fun t h4 => match t with
          | true => inner2 O g1 it1 cond1 ce env8 h4 fun us h5 => wpFlat its.gs (step2 O g cond g1 it1 cond1 ce env (own.map (·.2))) xs h5 fun vs h2 => PC.newL fz (pvs ++ (us ++ vs)) h2 Qp
          | false => wpFlat its.gs (step2 O g cond g1 it1 cond1 ce env (own.map (·.2))) xs h4 fun vs h2 => PC.newL fz (pvs ++ ([] ++ vs)) h2 Qp) I7' r7 ⟨W7, x, _, h5, _, rs7, rv7, w5, fun W8 env8 h8 σ8 H8 l r hs q => ⟨W8, env8, h8, l, r, hs, q⟩⟩) fun _ s8 ⟨σ8, H8, I8, W8, env8, h8, l8, r8, hs8, w8⟩ => ?_
      have ag8 : ∀ j, j ∉ own.map (·.2) → σ8[j]? = σ[j]? := fun j hj => by rw [hs8 j (fun z => hj (hsl j z)), ag j hj]
      have hd8 : W8.hid D = some acc := l8.lk.hid D acc (le7.hid D acc hd5)
      have rv8 : RVs G.adr G.K W8 pvs acc := (rv5.mono le7).lq l8 dt
      have z2 : σ.length = X.N.length := I.len
      -- the turn's end
      have fin : ∀ {s' : Shared} {σ' : L2.St} {H' : Hp} {W' : Wd} {en : Env} {h' : Hea} {acc' : List V} {pvs' : List PV}, Inv (X.blk sc (upd Hb D (.lst [])) scope (benv X sc scope) fp) ([] ++ L2.pinsAt fp s7.heap) σ' H' s' → (∀ j, j ∉ own.map (·.2) → σ'[j]? = σ[j]?) → RS G (X.blk sc (upd Hb D (.lst [])) scope (benv X sc scope) fp) (bFm t W1 (X.blk sc (upd Hb D (.lst [])) scope (benv X sc scope) fp)) W' en h' σ' H' →
          W'.hid D = some acc' → RVs G.adr G.K W' pvs' acc' → pvs'.length ≤ (i + 1) * 4096 → (t.st && hasTokL t.t pvs') = false → (wpFlat its.gs (step2 O g cond g1 it1 cond1 ce env (own.map (·.2))) xs h' fun vs h2 => PC.newL fz (pvs' ++ vs) h2 Qp) →
          ∃ m, m < n ∧ ∃ i H' σ' W' h' acc pvs, Inv (X.blk sc (upd Hb D (.lst [])) scope (benv X sc scope) fp) [] σ' H' s' ∧ tn i s'.heap ∧ (∀ b ∈ fp, H' b = none) ∧ (∀ j, j ∉ own.map (·.2) → σ'[j]? = σ[j]?) ∧
            RS G (X.blk sc (upd Hb D (.lst [])) scope (benv X sc scope) fp) (bFm t W1 (X.blk sc (upd Hb D (.lst [])) scope (benv X sc scope) fp)) W' (wipe env (own.map (·.2))) h' σ' H' ∧ W'.hid D = some acc ∧ RVs G.adr G.K W' pvs acc ∧ pvs.length ≤ i * 4096 ∧ i + m = its.items.length ∧ (t.st && hasTokL t.t pvs) = false ∧
            wpFlat its.gs (step2 O g cond g1 it1 cond1 ce env (own.map (·.2))) (its.items.drop i) h' fun vs h2 => PC.newL fz (pvs ++ vs) h2 Qp := fun {s' σ' H' W' en h' acc' pvs'} I' ag' r' hd' rv' l' dt' w' => by
        have pin' : ∀ b ∈ fp, ∀ o, s7.heap.get? b = some o → s'.heap.get? b = some o ∧ H' b = none := fun b hb o e =>
          let z := I'.pin (b, o) (List.mem_append_right _ (List.mem_append_right _ (L2.mem_pinsAt hb e)))
          ⟨z.1, z.2.1⟩
        refine ⟨n - 1, by omega, i + 1, H', σ', W', h', acc', pvs', I'.unpinned (pins := []), T.keep _ _ _ st7 fun b hb o e => (pin' b hb o e).1, fun b hb => ?_, ag', ⟨r'.toRH, ?_, envB r'.lek ag', r'.le0, r'.lek⟩, hd', rv', l', by omega, dt', by rw [hxs]; exact w'⟩
        · obtain ⟨o, e, _⟩ := T.obj _ _ st7 b hb
          exact (pin' b hb o e).2
        · have z1 : σ'.length = X.N.length := I'.len
          rw [wipe_len, r1.len, z1, z2]
      refine L2.thnF (pt.run _ s8 σ8 H8 (fun b H9 => ∃ W9 h9, Wle W8 W9 ∧ RS G (X.blk sc (upd Hb D (.lst [])) scope (benv X sc scope) fp) (bFm t W1 (X.blk sc (upd Hb D (.lst [])) scope (benv X sc scope) fp)) W9 env8 h9 σ8 H9 ∧ match b with
          | true => inner2 O g1 it1 cond1 ce env8 h9 fun us h5 => wpFlat its.gs (step2 O g cond g1 it1 cond1 ce env (own.map (·.2))) xs h5 fun vs h2 => PC.newL fz (pvs ++ (us ++ vs)) h2 Qp
          | false => wpFlat its.gs (step2 O g cond g1 it1 cond1 ce env (own.map (·.2))) xs h9 fun vs h2 => PC.newL fz (pvs ++ ([] ++ vs)) h2 Qp) I8 ⟨W8, env8, h8, _, r8, w8, fun W9 b h9 H9 le r q => ⟨W9, h9, le, r, q⟩⟩) fun b s9 ⟨H9, I9, W9, h9, le9, r9, q9⟩ => ?_
      cases b with
      | false =>
        rw [if_neg Bool.false_ne_true]
        exact fin I9 ag8 r9 (le9.hid D acc hd8) (rv8.mono le9) (by omega) dt q9
      | true =>
        rw [if_pos rfl]
        obtain ⟨cln, q9⟩ := q9
        refine L2.thnF (pi1.run _ s9 σ8 H9 (fun J1 H11 => ∃ W11 its1 h11, Wle W9 W11 ∧ RS G (X.blk sc (upd Hb D (.lst [])) scope (benv X sc scope) fp) (bFm t W1 (X.blk sc (upd Hb D (.lst [])) scope (benv X sc scope) fp)) W11 env8 h11 σ8 H11 ∧ Walks G (bFm t W1 (X.blk sc (upd Hb D (.lst [])) scope (benv X sc scope) fp)) W11 its1 J1 ∧ (its1.items.length ≤ 4096 ∧ O.dtyL its1.items = false) ∧
            wpMap its1.gs (stepC O g1 cond1 ce env8 g1.slots) its1.items h11 fun us h5 => wpFlat its.gs (step2 O g cond g1 it1 cond1 ce env (own.map (·.2))) xs h5 fun vs h2 => PC.newL fz (pvs ++ (us ++ vs)) h2 Qp) I9
          ⟨W9, env8, h9, _, _, r9, q9, fun W11 its1 h11 H11 J1 le r wk q => ⟨W11, its1, h11, le, r, wk, ⟨q.1, q.2.1⟩, q.2.2⟩, fun _ _ _ _ _ _ _ _ _ z => z⟩) fun xv s10 hx => L2.thnF hx fun itv s11 h11 => ?_
        obtain ⟨ib, fp1, tn1, J1, Hc, rfl, I11, T1, st11, f11, W11, its1, h11, le11, r11, wk1, ⟨hlen1, dt1⟩, w11⟩ := h11
        have dt1 : (t.st && hasTokL t.t its1.items) = false := by
          unfold Orc.dtyL at dt1
          rw [ht, hst] at dt1
          exact dt1
        have stat1 : ∀ {H' : Hp}, (∀ b ∈ fp1, H' b = none) → ∀ b ∈ fp1, FpOk (X.blk sc (upd Hb D (.lst [])) scope (benv X sc scope) fp) ([] ++ L2.pinsAt fp s7.heap) H' b := fun hn b hb => ⟨hn b hb, (f11 b hb).2⟩
        have l811 : Wlq (bFm t W1 (X.blk sc (upd Hb D (.lst [])) scope (benv X sc scope) fp)) W8.bare W11 := (le9.trans le11).lq.bare
        -- what the inner turns start with
        have env1 : ∀ {W' : Wd} {σ' : L2.St}, Wlq (bFm t W1 (X.blk sc (upd Hb D (.lst [])) scope (benv X sc scope) fp)) W8.bare W' → (∀ j, j ∉ g1.slots → σ'[j]? = σ8[j]?) → ∀ i v, get (wipe env8 g1.slots) i = some v → ∃ V, σ'[i]? = some (some V) ∧ RV G.adr G.K W' v V := fun {W' σ'} l a i v e => by
          obtain ⟨e1, ni⟩ := wipe_get e
          obtain ⟨V, e2, r2⟩ := r8.env i v e1
          refine ⟨V, by rw [a i ni]; exact e2, r2.bare.lq l ?_⟩
          have z := clean_get cln e1
          unfold Orc.dty at z
          rw [ht, hst] at z
          exact z
        have loop1 : codeAny (model X.prog X.w) X.A (.compLoop (.ListComp elt [⟨tg, iter, ifs, 0⟩, ⟨tg1, iter1, ifs1, 0⟩] scope pos) 1 (.ref ib) (.ref D) (benv X sc scope))
            (fun r s' => match r with
              | .ok _ => ∃ m, m < n ∧ ∃ i H' σ' W' h' acc pvs, Inv (X.blk sc (upd Hb D (.lst [])) scope (benv X sc scope) fp) [] σ' H' s' ∧ tn i s'.heap ∧ (∀ b ∈ fp, H' b = none) ∧ (∀ j, j ∉ own.map (·.2) → σ'[j]? = σ[j]?) ∧
                RS G (X.blk sc (upd Hb D (.lst [])) scope (benv X sc scope) fp) (bFm t W1 (X.blk sc (upd Hb D (.lst [])) scope (benv X sc scope) fp)) W' (wipe env (own.map (·.2))) h' σ' H' ∧ W'.hid D = some acc ∧ RVs G.adr G.K W' pvs acc ∧ pvs.length ≤ i * 4096 ∧ i + m = its.items.length ∧ (t.st && hasTokL t.t pvs) = false ∧
                wpFlat its.gs (step2 O g cond g1 it1 cond1 ce env (own.map (·.2))) (its.items.drop i) h' fun vs h2 => PC.newL fz (pvs ++ vs) h2 Qp
              | .error _ => False) s11 := by
          refine L2.compLoop2_in (fun k s' => ∃ j H' σ' W' h' acc' us, Inv (X.blk sc (upd Hb D (.lst [])) scope (benv X sc scope) fp) ([] ++ L2.pinsAt fp s7.heap) σ' H' s' ∧ tn1 j s'.heap ∧ (∀ b ∈ fp1, H' b = none) ∧ (∀ j, j ∉ g1.slots → σ'[j]? = σ8[j]?) ∧ Wlq (bFm t W1 (X.blk sc (upd Hb D (.lst [])) scope (benv X sc scope) fp)) W11.bare W' ∧ Wlq (bFm t W1 (X.blk sc (upd Hb D (.lst [])) scope (benv X sc scope) fp)) W8.bare W' ∧
            RS G (X.blk sc (upd Hb D (.lst [])) scope (benv X sc scope) fp) (bFm t W1 (X.blk sc (upd Hb D (.lst [])) scope (benv X sc scope) fp)) W' (wipe env8 g1.slots) h' σ' H' ∧ W'.hid D = some acc' ∧ RVs G.adr G.K W' (pvs ++ us) acc' ∧ us.length ≤ j ∧ j + k = its1.items.length ∧ (t.st && hasTokL t.t (pvs ++ us)) = false ∧
            wpMap its1.gs (stepC O g1 cond1 ce env8 g1.slots) (its1.items.drop j) h' fun ws h5 => wpFlat its.gs (step2 O g cond g1 it1 cond1 ce env (own.map (·.2))) xs h5 fun vs h2 => PC.newL fz (pvs ++ ((us ++ ws) ++ vs)) h2 Qp) ?_ its1.items.length
            ⟨0, Hc, σ8, W11, h11, acc, [], I11, st11, fun b hb => (f11 b hb).1, fun _ _ => rfl, (Wlq.refl _ _).bare, l811, ⟨r11.toRH, by rw [wipe_len]; exact r11.len, env1 l811 fun _ _ => rfl, r11.le0, r11.lek⟩, le11.hid D acc (le9.hid D acc hd8), by rw [List.append_nil]; exact (rv8.mono le9).mono le11, Nat.le_refl _, by omega, by rw [List.append_nil]; exact dt, w11⟩
          rintro k s12 ⟨j, H12, σ12, W12, h12, acc', us, I12, st12, n12, ag12, l12, m12, r12, hd12, rv12, lj, hk, dt12, w12⟩
          have ag12' : ∀ j, j ∉ own.map (·.2) → σ12[j]? = σ[j]? := fun j hj => by rw [ag12 j (fun z => hj (hsl1 j z)), ag8 j hj]
          cases hdrop1 : its1.items.drop j with
          | nil =>
            rw [hdrop1] at w12
            obtain ⟨gs1, w12⟩ := w12
            rw [List.append_nil] at w12
            have hj' : its1.items.length ≤ j := by
              have := congrArg List.length hdrop1
              rw [List.length_drop, List.length_nil] at this
              omega
            have stop1 := (wk1 _ _ _ W12 h12 H12 (.of0 l12 dt1) r12.toRH gs1).2 j hj'
            refine L2.thnF (T1.done (X.blk sc (upd Hb D (.lst [])) scope (benv X sc scope) fp) rfl rfl rfl hc j _ s12 σ12 H12 (fun _ _ => False) I12 (stat1 n12) st12 stop1) fun r s13 ⟨hr, I13⟩ => ?_
            subst hr
            refine fin I13 ag12' r12 hd12 rv12 (by rw [List.length_append]; omega) dt12 ?_
            have e : (fun vs h2 => PC.newL fz (pvs ++ (us ++ vs)) h2 Qp) = fun vs h2 => PC.newL fz ((pvs ++ us) ++ vs) h2 Qp := by
              funext vs h2
              rw [List.append_assoc]
            rw [← e]
            exact w12
          | cons x1 xs1 =>
            rw [hdrop1] at w12
            obtain ⟨gs1, w12⟩ := w12
            have ex1 : its1.items[j]? = some x1 := by
              have := congrArg (·[0]?) hdrop1
              simpa using this
            have hx1 : j < its1.items.length := (List.getElem?_eq_some_iff.mp ex1).1
            have hxs1 : its1.items.drop (j + 1) = xs1 := by
              have := congrArg (List.drop 1) hdrop1
              rw [List.drop_drop] at this
              simpa using this
            obtain ⟨go1, yl1⟩ := (wk1 _ _ _ W12 h12 H12 (.of0 l12 dt1) r12.toRH gs1).1 j x1 ex1
            refine L2.thnF (T1.item (X.blk sc (upd Hb D (.lst [])) scope (benv X sc scope) fp) rfl rfl rfl hc j _ s12 σ12 H12 (fun _ _ => False) I12 (stat1 n12) st12 go1) fun r s13 ⟨u1, hr, h13⟩ => ?_
            subst hr
            refine L2.thnF h13 fun _ s14 ⟨y1, H14, I14, r14, y14, st14, n14⟩ => ?_
            obtain ⟨W14, le14, rh14, rv14⟩ := yl1 y1 H14 y14
            have rs14 := r12.lift le14 rh14
            have I14' := I14.pinned (stat1 n14) (T1.obj _ _ st14)
            refine L2.thnF (pg1.run _ s14 _ H14 y1 u1 (fun σ15 H15 => ∃ W15 env15 h15, Wlq (bFm t W1 (X.blk sc (upd Hb D (.lst [])) scope (benv X sc scope) fp)) W14 W15 ∧ RS G (X.blk sc (upd Hb D (.lst [])) scope (benv X sc scope) fp) (bFm t W1 (X.blk sc (upd Hb D (.lst [])) scope (benv X sc scope) fp)) W15 env15 h15 σ15 H15 ∧ (∀ j, j ∉ g1.slots → σ15[j]? = σ12[j]?) ∧
              wpAll O cond1 env15 h15 fun t h4 => match t with
                | true => wpE O ce env15 h4 (fun v h5 => O.dty v = false ∧ wpMap its1.gs (stepC O g1 cond1 ce env8 g1.slots) xs1 h5 fun ws h5 => wpFlat its.gs (step2 O g cond g1 it1 cond1 ce env (own.map (·.2))) xs h5 fun vs h2 => PC.newL fz (pvs ++ ((us ++ ((some v).toList ++ ws)) ++ vs)) h2 Qp) fun _ _ => False
                | false => wpMap its1.gs (stepC O g1 cond1 ce env8 g1.slots) xs1 h4 fun ws h5 => wpFlat its.gs (step2 O g cond g1 it1 cond1 ce env (own.map (·.2))) xs h5 fun vs h2 => PC.newL fz (pvs ++ ((us ++ ((none : Option PV).toList ++ ws)) ++ vs)) h2 Qp) I14' r14 ⟨W14, x1, _, h12, _, rs14, rv14, w12, fun W15 env15 h15 σ15 H15 l r hs q => ⟨W15, env15, h15, l, r, hs, q⟩⟩) fun _ s15 ⟨σ15, H15, I15, W15, env15, h15, l15, r15, hs15, w15⟩ => ?_
            have ag15 : ∀ j, j ∉ g1.slots → σ15[j]? = σ8[j]? := fun j hj => by rw [hs15 j hj, ag12 j hj]
            have hd15 : W15.hid D = some acc' := l15.lk.hid D acc' (le14.hid D acc' hd12)
            have rv15 : RVs G.adr G.K W15 (pvs ++ us) acc' := (rv12.mono le14).lq l15 dt12
            have l1115 : Wlq (bFm t W1 (X.blk sc (upd Hb D (.lst [])) scope (benv X sc scope) fp)) W11.bare W15 := (l12.trans le14.lq).trans l15
            have l815 : Wlq (bFm t W1 (X.blk sc (upd Hb D (.lst [])) scope (benv X sc scope) fp)) W8.bare W15 := (m12.trans le14.lq).trans l15
            have fin1 : ∀ {s' : Shared} {H' : Hp} {W' : Wd} {h' : Hea} {acc2 : List V} {us' : List PV}, Inv (X.blk sc (upd Hb D (.lst [])) scope (benv X sc scope) fp) (([] ++ L2.pinsAt fp s7.heap) ++ L2.pinsAt fp1 s14.heap) σ15 H' s' → Wlq (bFm t W1 (X.blk sc (upd Hb D (.lst [])) scope (benv X sc scope) fp)) W15.bare W' → RS G (X.blk sc (upd Hb D (.lst [])) scope (benv X sc scope) fp) (bFm t W1 (X.blk sc (upd Hb D (.lst [])) scope (benv X sc scope) fp)) W' env15 h' σ15 H' →
                W'.hid D = some acc2 → RVs G.adr G.K W' (pvs ++ us') acc2 → us'.length ≤ j + 1 → (t.st && hasTokL t.t (pvs ++ us')) = false → (wpMap its1.gs (stepC O g1 cond1 ce env8 g1.slots) xs1 h' fun ws h5 => wpFlat its.gs (step2 O g cond g1 it1 cond1 ce env (own.map (·.2))) xs h5 fun vs h2 => PC.newL fz (pvs ++ ((us' ++ ws) ++ vs)) h2 Qp) →
                ∃ m, m < k ∧ ∃ j H' σ' W' h' acc' us, Inv (X.blk sc (upd Hb D (.lst [])) scope (benv X sc scope) fp) ([] ++ L2.pinsAt fp s7.heap) σ' H' s' ∧ tn1 j s'.heap ∧ (∀ b ∈ fp1, H' b = none) ∧ (∀ j, j ∉ g1.slots → σ'[j]? = σ8[j]?) ∧ Wlq (bFm t W1 (X.blk sc (upd Hb D (.lst [])) scope (benv X sc scope) fp)) W11.bare W' ∧ Wlq (bFm t W1 (X.blk sc (upd Hb D (.lst [])) scope (benv X sc scope) fp)) W8.bare W' ∧
                  RS G (X.blk sc (upd Hb D (.lst [])) scope (benv X sc scope) fp) (bFm t W1 (X.blk sc (upd Hb D (.lst [])) scope (benv X sc scope) fp)) W' (wipe env8 g1.slots) h' σ' H' ∧ W'.hid D = some acc' ∧ RVs G.adr G.K W' (pvs ++ us) acc' ∧ us.length ≤ j ∧ j + m = its1.items.length ∧ (t.st && hasTokL t.t (pvs ++ us)) = false ∧
                  wpMap its1.gs (stepC O g1 cond1 ce env8 g1.slots) (its1.items.drop j) h' fun ws h5 => wpFlat its.gs (step2 O g cond g1 it1 cond1 ce env (own.map (·.2))) xs h5 fun vs h2 => PC.newL fz (pvs ++ ((us ++ ws) ++ vs)) h2 Qp := fun {s' H' W' h' acc2 us'} I' lw r' hd' rv' l' dt' w' => by
              have pin' : ∀ b ∈ fp1, ∀ o, s14.heap.get? b = some o → s'.heap.get? b = some o ∧ H' b = none := fun b hb o e =>
                let z := I'.pin (b, o) (List.mem_append_right _ (List.mem_append_right _ (L2.mem_pinsAt hb e)))
                ⟨z.1, z.2.1⟩
              refine ⟨k - 1, by omega, j + 1, H', σ15, W', h', acc2, us', I'.unpinned, T1.keep _ _ _ st14 fun b hb o e => (pin' b hb o e).1, fun b hb => ?_, ag15, l1115.bare2 lw, l815.bare2 lw, ⟨r'.toRH, ?_, env1 (l815.bare2 lw) ag15, r'.le0, r'.lek⟩, hd', rv', l', by omega, dt', by rw [hxs1]; exact w'⟩
              · obtain ⟨o, e, _⟩ := T1.obj _ _ st14 b hb
                exact (pin' b hb o e).2
              · have z1 : σ15.length = X.N.length := I'.len
                have z8 : σ8.length = X.N.length := I8.len
                rw [wipe_len, r8.len, z1, z8]
            refine L2.thnF (pt1.run _ s15 σ15 H15 (fun b H16 => ∃ W16 h16, Wle W15 W16 ∧ RS G (X.blk sc (upd Hb D (.lst [])) scope (benv X sc scope) fp) (bFm t W1 (X.blk sc (upd Hb D (.lst [])) scope (benv X sc scope) fp)) W16 env15 h16 σ15 H16 ∧ match b with
                | true => wpE O ce env15 h16 (fun v h5 => O.dty v = false ∧ wpMap its1.gs (stepC O g1 cond1 ce env8 g1.slots) xs1 h5 fun ws h5 => wpFlat its.gs (step2 O g cond g1 it1 cond1 ce env (own.map (·.2))) xs h5 fun vs h2 => PC.newL fz (pvs ++ ((us ++ ((some v).toList ++ ws)) ++ vs)) h2 Qp) fun _ _ => False
                | false => wpMap its1.gs (stepC O g1 cond1 ce env8 g1.slots) xs1 h16 fun ws h5 => wpFlat its.gs (step2 O g cond g1 it1 cond1 ce env (own.map (·.2))) xs h5 fun vs h2 => PC.newL fz (pvs ++ ((us ++ ((none : Option PV).toList ++ ws)) ++ vs)) h2 Qp) I15 ⟨W15, env15, h15, _, r15, w15, fun W16 b h16 H16 le r q => ⟨W16, h16, le, r, q⟩⟩) fun b1 s16 ⟨H16, I16, W16, h16, le16, r16, q16⟩ => ?_
            cases b1 with
            | false =>
              rw [if_neg Bool.false_ne_true]
              exact fin1 I16 le16.lq.bare r16 (le16.hid D acc' hd15) (rv15.mono le16) (by omega) dt12 q16
            | true =>
              rw [if_pos rfl]
              refine L2.thnF (pe.run _ s16 σ15 H16 (fun z H17 => ∃ W17 v h17, Wle W16 W17 ∧ RS G (X.blk sc (upd Hb D (.lst [])) scope (benv X sc scope) fp) (bFm t W1 (X.blk sc (upd Hb D (.lst [])) scope (benv X sc scope) fp)) W17 env15 h17 σ15 H17 ∧ RV G.adr G.K W17 v z ∧ O.dty v = false ∧ wpMap its1.gs (stepC O g1 cond1 ce env8 g1.slots) xs1 h17 fun ws h5 => wpFlat its.gs (step2 O g cond g1 it1 cond1 ce env (own.map (·.2))) xs h5 fun vs h2 => PC.newL fz (pvs ++ ((us ++ ((some v).toList ++ ws)) ++ vs)) h2 Qp)
                I16 ⟨W16, env15, h16, _, _, r16, q16, fun W17 v h17 z H17 le r rv q => ⟨W17, v, h17, le, r, rv, q.1, q.2⟩, fun _ _ _ _ _ _ _ _ _ z => z⟩) fun u2 s17 ⟨z, H17, I17, r17, W17, v, h17, le17, rs17, rvz, dv, q17⟩ => ?_
              have hd17 : W17.hid D = some acc' := le17.hid D acc' (le16.hid D acc' hd15)
              have rv17 : RVs G.adr G.K W17 (pvs ++ us) acc' := (rv15.mono le16).mono le17
              have la : acc'.length < sizeLine := by
                have e1 := rv12.length
                have e2 : sizeLine = line := sizeLine_eq
                rw [← e1, e2, List.length_append]
                have e3 : line = 4096 * 4096 := by decide
                omega
              refine L2.app_ok (X := X.blk sc (upd Hb D (.lst [])) scope (benv X sc scope) fp) I17 (rs17.hd D acc' hd17).1 la r17 fun s18 I18 => ?_
              have lh : ∀ {Wz : Wd}, Wle Wz W17 → Wz.hid D = none → Wle Wz (W17.hidA D (acc' ++ [z])) := fun l n => hidA_le l n _
              have r18 : RS G (X.blk sc (upd Hb D (.lst [])) scope (benv X sc scope) fp) (bFm t W1 (X.blk sc (upd Hb D (.lst [])) scope (benv X sc scope) fp)) (W17.hidA D (acc' ++ [z])) env15 h17 σ15 (upd H17 D (.lst (acc' ++ [z]))) := by
                refine ⟨rs17.toRH.rehide hd17 _, rs17.len, fun i v e => ?_, ?_, lh rs17.lek hid1⟩
                · obtain ⟨V, e1, r2⟩ := rs17.env i v e
                  exact ⟨V, e1, rv_same (W' := W17.hidA D (acc' ++ [z])) rs17.new rfl rfl rfl rfl r2⟩
                · refine lh rs17.le0 ?_
                  cases n0 : t.W0.hid D with
                  | none => exact n0
                  | some vs0 => have k := r1.le0.hid D vs0 n0; rw [hid1] at k; cases k
              have ap : RVs G.adr G.K (W17.hidA D (acc' ++ [z])) (pvs ++ (us ++ [v])) (acc' ++ [z]) := by
                rw [← List.append_assoc]
                exact rvs_same (W' := W17.hidA D (acc' ++ [z])) rs17.new rfl rfl rfl rfl (rv17.append (.cons rvz .nil))
              have lq18 : Wlq (bFm t W1 (X.blk sc (upd Hb D (.lst [])) scope (benv X sc scope) fp)) W15.bare (W17.hidA D (acc' ++ [z])) := (le16.trans le17).hidB.lq
              refine fin1 I18 lq18 r18 (if_pos rfl) ap (by rw [List.length_append]; simp; omega) ?_ ?_
              · rw [← List.append_assoc]
                unfold Orc.dty at dv
                rw [ht, hst] at dv
                cases q : t.st with
                | false => rfl
                | true =>
                  rw [q] at dt12 dv
                  exact tok_app dt12 dv
              · have e : (fun ws h5 => wpFlat its.gs (step2 O g cond g1 it1 cond1 ce env (own.map (·.2))) xs h5 fun vs h2 => PC.newL fz (pvs ++ ((us ++ ((some v).toList ++ ws)) ++ vs)) h2 Qp) = fun ws h5 => wpFlat its.gs (step2 O g cond g1 it1 cond1 ce env (own.map (·.2))) xs h5 fun vs h2 => PC.newL fz (pvs ++ (((us ++ [v]) ++ ws) ++ vs)) h2 Qp := by
                  funext ws h5
                  simp
                rw [← e]
                exact q17
        exact L2.compStart1_ok loop1 (T1.self X.A 0 _ _ _ st11 loop1)
  have done := codeAny_compStart_list loop (T.self X.A 0 _ _ _ std loop)
  subst hsd hsc hD
  exact done
variable {elt tg iter tg1 iter1 : Expr} {ifs ifs1 : List Expr} {scope : Scope} {own : List (Str × Nat)} {pos : Pos} {fz : Bool} {ce : CE} {g g1 : CT} {it it1 : CI} {cond cond1 : CEs}
theorem le_comp2 (hc : X.calm = true) (hN : X.N.Nodup) (hK : X.K = G.K) (ht : O.tok = t.t) (hst : O.st = t.st) (F : FmOk X t) (cf : ∀ y c, X.env.cells.lookup y = some c → c ∉ X.fs) (hi : PI X tg iter (LI G X t Wx (wpI O it))) (ok : BlkOk X.N X.env.scope scope own)
    (hown : ∀ p ∈ own, scope.names.lookup p.1 ≠ some .free) (hsl : ∀ j ∈ g.slots, j ∈ own.map (·.2)) (hsl1 : ∀ j ∈ g1.slots, j ∈ own.map (·.2))
    (hY : ∀ Y tb, IsBlk X t scope Y tb → PG Y tg (LG G Y tb g.slots (wpT O g)) ∧ PTs Y ifs (LQ G Y tb (wpAll O cond)) ∧ PI Y tg1 iter1 (LI G Y tb (fun _ _ _ _ => False) (wpI O it1)) ∧ PG Y tg1 (LG G Y tb g1.slots (wpT O g1)) ∧ PTs Y ifs1 (LQ G Y tb (wpAll O cond1)) ∧ PE Y elt (LE G Y tb (fun _ _ _ _ => False) (wpE O ce)))
    (hs : ∀ x, foldedSetIterable iter X.env x = pure x) (hs1 : ∀ (en : PySem.Env) x, foldedSetIterable iter1 en x = pure x) : PE X (.ListComp elt [⟨tg, iter, ifs, 0⟩, ⟨tg1, iter1, ifs1, 0⟩] scope pos) (LE G X t Wx (wpE O (.comp2 fz ce g it cond g1 it1 cond1 (own.map (·.2))))) := by
  refine ⟨fun pins s σ H Q I q => ?_⟩
  obtain ⟨W, env, h, Qp, Xp, rs, w, cq, cx⟩ := q
  rw [eval_ListComp]
  refine comp2_core hc hN hK ht hst F cf I hi ok hown hsl hsl1 hY hs hs1 rs w cq cx fun D C s' m H' I' q hn f => ⟨m, hn, fun h2 sb => ?_⟩
  exact ⟨.ref D, H', I'.turned (t' := s'.toks) (fun b o hb e => (sb.2 b hb).trans e) f.1 f.2.1 f.2.2.2.1 f.2.2.2.2.1 f.2.2.2.2.2, rfl, q⟩
theorem ls_setLc2 {i : Nat} {y : Str} {py spos : Pos} (hc : X.calm = true) (hN : X.N.Nodup) (hK : X.K = G.K) (ht : O.tok = t.t) (hst : O.st = t.st) (F : FmOk X t) (cf : ∀ y c, X.env.cells.lookup y = some c → c ∉ X.fs) (hy : X.N[i]? = some y) (hyl : X.env.scope.names.lookup y = some .local)
    (hsw : swapsWith (.ListComp elt [⟨tg, iter, ifs, 0⟩, ⟨tg1, iter1, ifs1, 0⟩] scope pos) (some (.Name y py)) spos.line X.env = pure true) (hi : PI X tg iter (LI G X t Wx (wpI O it))) (ok : BlkOk X.N X.env.scope scope own)
    (hown : ∀ p ∈ own, scope.names.lookup p.1 ≠ some .free) (hsl : ∀ j ∈ g.slots, j ∈ own.map (·.2)) (hsl1 : ∀ j ∈ g1.slots, j ∈ own.map (·.2))
    (hY : ∀ Y tb, IsBlk X t scope Y tb → PG Y tg (LG G Y tb g.slots (wpT O g)) ∧ PTs Y ifs (LQ G Y tb (wpAll O cond)) ∧ PI Y tg1 iter1 (LI G Y tb (fun _ _ _ _ => False) (wpI O it1)) ∧ PG Y tg1 (LG G Y tb g1.slots (wpT O g1)) ∧ PTs Y ifs1 (LQ G Y tb (wpAll O cond1)) ∧ PE Y elt (LE G Y tb (fun _ _ _ _ => False) (wpE O ce)))
    (hs : ∀ x, foldedSetIterable iter X.env x = pure x) (hs1 : ∀ (en : PySem.Env) x, foldedSetIterable iter1 en x = pure x) : PS X (.Assign [.Name y py] (.ListComp elt [⟨tg, iter, ifs, 0⟩, ⟨tg1, iter1, ifs1, 0⟩] scope pos) spos) (LS G X t Wx (wpS O (.asg (.name i false) (.comp2 fz ce g it cond g1 it1 cond1 (own.map (·.2)))))) := by
  refine ⟨fun pins s σ H D I q => ?_⟩
  obtain ⟨W, env, h, K, rs, w, c⟩ := q
  rw [exec_Assign_Name_used _ _ _ _ hsw]
  refine wpAny_bind (wpAny_standAt (wpAny_bind ?_))
  show wpAny _ X.A (do let _ ← comprehension (.ListComp elt [⟨tg, iter, ifs, 0⟩, ⟨tg1, iter1, ifs1, 0⟩] scope pos) scope X.env (firstIterPos [⟨tg, iter, ifs, 0⟩, ⟨tg1, iter1, ifs1, 0⟩] pos) (newList []) false (eval iter X.env) (some (assign (.Name y py) X.env))) _ _ s
  rw [wpS] at w
  refine wpAny_bind (L2.thn (comp2_core (Qf := fun _ s' => L2.SP X pins D .next s') (Q := fun x H1 => D.nx (σ.set i (some x)) H1) hc hN hK ht hst F cf I hi ok hown hsl hsl1 hY hs hs1 rs w (fun W' v h' x H' le r rv q => ?_) c.cx fun L C s' m H' I' q hn f => ?_) fun _ s' hq => wpAny_pure (wpAny_pure hq))
  · simp only [wpT, setE] at q
    exact c.nx W' _ h' _ H' le.lq (r.setLoc hy hyl rv) q
  · show wpAny _ _ (assign (.Name y py) X.env (.ref L)) _ _ _
    refine wpAny_assign_Name (L2.store_ok2 (v := V.ref L) I' hN hy (.inl hyl) rfl (fun s2 I2 ⟨a, sb, ha⟩ => ?_) (.inr hyl))
    have ne : C ≠ a := by
      rcases ha with z | z
      · rw [z]; exact f.2.1
      · exact fun e => f.2.2.2.2.1 y a z e.symm
    exact ⟨m, hn.sameBut sb ne, fun h3 sb3 => ⟨_, H', I2.turned (t' := s2.toks) (fun b o hb e => (sb3.2 b hb).trans e) f.1 f.2.1 f.2.2.2.1 f.2.2.2.2.1 f.2.2.2.2.2, q⟩⟩
end
end PC

set_option Elab.async false
set_option maxRecDepth 100000
set_option maxHeartbeats 2000000
/-! PC19: a lambda is made. -/
namespace PC
open PySem PySem.Spec PyProof.Rows
open L2 (V HO Hp upd upd_same upd_ne Rd SqL SqT Cx Inv TE TT TA TS TG TGs TI VK PE PT PW PA PK PS PSs PG PGs PI PTs It R2 OpR CallR Un UB HOk ObjOk Env0 FnOk Sp XK Room frs CR EP Takes Ends FpOk BlkOk cloFrom)
open LamX (Tabs TabS TabB ExtN CodeO)

/-- a lambda of the text -/
structure LamT where
  params : Arguments
  ex : Expr
  scope : Scope
  ps : List Str
  fr : List Str
  N : List Str
/-- its object's words -/
structure LamFacts (L : LamT) (ci : Clo) : Prop where
  name : ci.F.name = "<lambda>"
  params : ci.F.params = L.params
  ex : ci.ex = L.ex
  scope : ci.F.scope = L.scope
  cs : L.fr.map (fun y => ci.F.cl.lookup y) = ci.cs.map some
  sub : ∀ y c, ci.F.cl.lookup y = some c → y ∈ L.fr
  inj : ∀ x y c, ci.F.cl.lookup x = some c → ci.F.cl.lookup y = some c → x = y

theorem rel_inj {x y : V} {u : Value} (a : L2.RelV x u) (b : L2.RelV y u) : x = y := by
  cases x <;> cases y <;> simp only [L2.RelV] at a b <;> first
    | rfl
    | (obtain ⟨t, rfl⟩ := a; obtain ⟨t', e⟩ := b; cases e; rfl)
    | (subst a; cases b; rfl)
    | (obtain ⟨t, rfl⟩ := a; obtain ⟨t', e⟩ := b; cases e)
    | (subst a; obtain ⟨t', e⟩ := b; cases e)
    | (obtain ⟨t, rfl⟩ := a; cases b)
    | (subst a; cases b)
section
variable {G : Gs} {X : Cx} {t : Fm} {Wx : L2.WX} {O : Orc} {W W' : Wd} {env : Env} {h : Hea} {σ : L2.St} {H H1 : Hp} {pins : List (Addr × Obj)} {s s' : Shared}
/-- a lambda's object and its code -/
theorem lam_new {T : List (Addr × Str)} {c P : Addr} {params : Arguments} {body : Expr} {scope : Scope} {pos : Pos} {E : Value → Shared → Prop} {Q : Value → Shared → Prop} (I : Inv X pins σ H s) (B : TabB X.base X.mg c P) (hcode : X.env.code = .ref c)
    (hm : (P, X.env.qual ++ "<lambda>") ∈ T) (hu : ∀ p ∈ T, p.1 = P → p.2 = X.env.qual ++ "<lambda>") (hT : Tabs T H) (hdef : defaultsOf params X.env = ([], [])) (hfree : ∀ y ∈ scope.names, y.2 = .free → ∃ c, X.env.cells.lookup y.1 = some c)
    (fin : ∀ (f c' : Addr) (pm ctv : Value) (H1 : Hp) (s' : Shared), Inv X pins σ H1 s' → ExtN H H1 → Tabs T H1 → s'.heap.get? f = some (PySem.W.kla_obj "<lambda>" (X.env.qual ++ "<lambda>") params body scope (cloFrom X.env.cells scope.names []) pm c' ctv) →
      H1 f = none → s.heap.objs.size ≤ f → H1 c' = some (CodeO c' (X.env.qual ++ "<lambda>")) → Q (.ref f) s') : wpAny (model X.prog X.w) X.A (eval (.Lambda params body scope pos) X.env) Q E s := by
  obtain ⟨tab, hP, ht, ha⟩ := hT _ hm
  have hP' : s.heap.get? P = some { cls := .none, data := .fields tab } := I.hok P _ hP
  refine PySem.W.kla_eval hdef ?_
  cases found : codeAmong pos tab.toList with
  | some cv =>
    obtain ⟨c', rfl, hco⟩ := ha pos cv found
    refine PySem.W.kla_makeFunctionHit (L2.closure_ok hfree) I.ok.glob (I.mod.glob.keeps I.bk) hcode (B.code.keeps I.bk) hP' ht found (B.bm.keeps I.bk) fun ctv h' tk keep sz => ?_
    exact fin _ c' _ ctv H _ (I.kept fun b o e => Heap.get?_push_of_some _ (keep b o e)) (.refl H) hT (Heap.get?_push_size _ rfl) (I.hok.fresh sz) sz hco
  | none =>
    refine PySem.W.kla_makeFunction (L2.closure_ok hfree) I.ok.glob (I.mod.glob.keeps I.bk) hcode (B.code.keeps I.bk) hP' ht found B.gP (B.bm.keeps I.bk) fun c' ctv h' tk keep ge lt rec_ tb => ?_
    obtain ⟨c2, oc, vs, tq, e2, hoc, hd, hv⟩ := rec_
    cases e2
    have sz : s.heap.objs.size ≤ h'.objs.size := Nat.le_trans ge (Nat.le_of_lt lt)
    have nC := I.hok.fresh ge
    have J := LamX.inv_table (t' := tk) (more := #[rawInt pos.line, rawInt pos.col, .ref c']) (h' := h'.push (PySem.W.kla_obj "<lambda>" (X.env.qual ++ "<lambda>") params body scope (cloFrom X.env.cells scope.names []) ((X.mg "__name__").getD .none) c' ctv)) I hP
      (fun b o nb e => Heap.get?_push_of_some _ (keep b o nb e)) (Heap.get?_push_of_some _ tb) ge ⟨oc, vs, tq, Heap.get?_push_of_some _ hoc, hd, hv⟩
    have grow : ExtN H (upd (upd H P (.tbl (tab ++ #[rawInt pos.line, rawInt pos.col, .ref c']))) c' (CodeO c' (X.env.qual ++ "<lambda>"))) := fun b o e n => by
      rw [upd_ne (L2.ne_of_none e nC), upd_ne]
      · exact e
      · intro z
        rw [z, hP] at e; cases e
        exact n tab rfl
    have lst : (tab ++ #[rawInt pos.line, rawInt pos.col, .ref c']).toList = tab.toList ++ [rawInt pos.line, rawInt pos.col, .ref c'] := by simp
    refine fin _ c' _ ctv _ _ J grow (fun p hp => ?_) (Heap.get?_push_size _ rfl) ?_ sz upd_same
    · by_cases same : p.1 = P
      · rw [hu p hp same, same]
        refine ⟨_, by rw [upd_ne (L2.ne_of_none hP nC), upd_same], by rw [lst]; exact PySem.TriplesOk_snoc _ _ _ _ ht, fun at_ cv hc => ?_⟩
        rw [lst] at hc
        rcases LamX.among_app _ ht hc with z | z
        · obtain ⟨d, e1, e2⟩ := ha at_ cv z
          exact ⟨d, e1, grow _ _ e2 LamX.codeO_ne⟩
        · exact ⟨c', z, upd_same⟩
      · obtain ⟨tab', a1, a2, a3⟩ := hT p hp
        refine ⟨tab', by rw [upd_ne (L2.ne_of_none a1 nC), upd_ne same]; exact a1, a2, fun at_ cv hc => ?_⟩
        obtain ⟨d, e1, e2⟩ := a3 at_ cv hc
        exact ⟨d, e1, grow _ _ e2 LamX.codeO_ne⟩
    · rw [upd_ne (Nat.ne_of_gt lt), upd_ne (Nat.ne_of_gt (Nat.lt_of_lt_of_le (Heap.lt_size hP') sz))]
      exact I.hok.fresh sz
/-- an object just made is told -/
theorem Inv.track (I : Inv X pins σ H s) (J : Inv X pins σ H1 s') {f : Addr} {o : HO} (nf : H1 f = none) (hf : s.heap.objs.size ≤ f) (new : ObjOk X.prog X.w (upd H1 f o) s'.heap f o) : Inv X pins σ (upd H1 f o) s' := by
  have lt0 : ∀ b ob, X.s_0.heap.get? b = some ob → b ≠ f := fun b ob e z => by
    rw [z] at e
    exact absurd (Nat.lt_of_lt_of_le (Heap.lt_size e) (Nat.le_trans I.sz hf)) (Nat.lt_irrefl _)
  have some_ : ∀ b u, H1 b = some u → b ≠ f := fun b u e => L2.ne_of_none e nf
  refine ⟨J.ok, J.os, J.bare, ⟨J.base.keep, J.base.slot, fun b ob e n hx => by rw [upd_ne (lt0 b ob e)]; exact J.base.free b ob e n hx, J.base.there, fun b xs e => ?_, fun b ob u e => ?_, fun b ps e => ?_⟩, J.loc, J.cell, ?_, fun y c e => ?_, fun p hp => ?_, fun b u e => ?_, J.len⟩
  · have z := J.base.tups b xs e; rw [upd_ne (some_ b _ z)]; exact z
  · have z := J.base.frzs b ob u e; rw [upd_ne (some_ b _ z)]; exact z
  · obtain ⟨m, z⟩ := J.base.tbls b ps e
    exact ⟨m, by rw [upd_ne (some_ b _ z)]; exact z⟩
  · rw [upd_ne (fun z => by have q := I.lt; rw [z] at q; exact absurd (Nat.lt_of_lt_of_le q hf) (Nat.lt_irrefl _))]; exact J.free
  · rw [upd_ne (fun z => by
      obtain ⟨v, q⟩ := I.cell y c e
      rw [z] at q
      exact absurd (Nat.lt_of_lt_of_le q.lt hf) (Nat.lt_irrefl _))]
    exact J.freeC y c e
  · obtain ⟨h1, h2, h3⟩ := J.pin p hp
    refine ⟨h1, ?_, h3⟩
    rw [upd_ne (fun z => by
      have q := (I.pin p hp).1
      rw [z] at q
      exact absurd (Nat.lt_of_lt_of_le (Heap.lt_size q) hf) (Nat.lt_irrefl _))]
    exact h2
  · by_cases hb : b = f
    · rw [hb, upd_same] at e; cases e
      rw [hb]; exact new
    · rw [upd_ne hb] at e
      exact (J.hok b u e).stay (fun _ _ _ q => q) (fun c q => by rw [upd_ne (some_ c _ q)]; exact q) fun c xs q => by rw [upd_ne (some_ c _ q)]; exact q
theorem lamO_ok {P : Program} {w : World} {hp : Heap} {f : Addr} {ci : Clo} {pm ctv : Value} (e : hp.get? f = some (PySem.W.kla_obj "<lambda>" ci.F.qual ci.F.params ci.ex ci.F.scope ci.F.cl pm ci.F.c ctv)) : ObjOk P w H hp f (LamO f ci) :=
  ⟨⟨pm, ctv, e⟩, ⟨_, e⟩, fun h1 h2 ⟨pm, ctv, z⟩ st => ⟨pm, ctv, st _ z⟩⟩
theorem RH.extN {B : Heap} {CA : Addr → V → Prop} {tkP : Addr → Clo → Prop} (r : RH G B CA tkP W h H) (e : ExtN H H1) (hT : Tabs G.T H1) : RH G B CA tkP W h H1 := by
  have ne : ∀ (c : Addr) (ob : Obj) (ps : Array Value), CellX c ob ≠ .tbl ps := fun c ob ps z => by unfold CellX at z; cases z
  refine ⟨fun a o q => e a _ (r.fz a o q) fun ps z => ?_, fun n o q l => ?_, r.inj, r.dis, r.new, hT, fun a ci q => ?_, fun c v q => ⟨(r.cv c v q).1, (r.cv c v q).2.imp id fun ⟨ob, u, h0, h1, h2⟩ => ⟨ob, u, h0, e c _ h1 (ne c ob), h2⟩⟩, r.tk, fun a vs q => ⟨e a _ (r.hd a vs q).1 (fun ps z => by cases z), (r.hd a vs q).2⟩⟩
  · cases o with
    | scr ns ob => cases ob <;> cases z
    | _ => cases z
  · obtain ⟨a, u, h1, h2, h3⟩ := r.live n o q l
    refine ⟨a, u, h1, e a u h2 fun ps z => ?_, h3⟩
    cases o with
    | lst xs => obtain ⟨vs, k, _⟩ := h3; rw [k] at z; cases z
    | dK ks xs => obtain ⟨vs, k, _⟩ := h3; rw [k] at z; cases z
    | dead => cases l
  · obtain ⟨h1, h2, h3, h4⟩ := r.fn a ci q
    exact ⟨h1, e a _ h2 (fun ps z => by unfold LamO at z; cases z), e _ _ h3 LamX.codeO_ne, h4⟩
/-- one more lambda is known -/
def Wd.addC (W : Wd) (f : Addr) (ci : Clo) (Vs : List V) : Wd := { W with
  fn := fun a => if a = f then some ci else W.fn a
  cv := fun c => match W.cv c with
    | some v => some v
    | none => (ci.cs.zip Vs).lookup c
  co := fun c => match W.cv c with
    | some _ => W.co c
    | none => none }
theorem addC_old {f : Addr} {ci : Clo} {Vs : List V} {c : Addr} {v : V} (e : W.cv c = some v) : (W.addC f ci Vs).cv c = some v ∧ (W.addC f ci Vs).co c = W.co c := by simp [Wd.addC, e]
theorem addC_new {f : Addr} {ci : Clo} {Vs : List V} {c : Addr} (e : W.cv c = none) : (W.addC f ci Vs).cv c = (ci.cs.zip Vs).lookup c ∧ (W.addC f ci Vs).co c = none := by simp [Wd.addC, e]
theorem addC_le {f : Addr} {ci : Clo} {Vs : List V} (n : W.fn f = none) : Wle W (W.addC f ci Vs) :=
  ⟨fun _ _ e => e, fun _ _ e => e, fun a o e => by
    show (if a = f then some ci else W.fn a) = some o
    rw [if_neg (fun z => by rw [z, n] at e; cases e)]; exact e, fun c v e => (addC_old e).1, fun c v o e h => by rw [(addC_old e).2]; exact h, fun _ _ e => e⟩
/-- where a lambda may be made -/
structure MkOk (G : Gs) (X : Cx) (t : Fm) : Prop where
  code : ∃ c Pt, X.env.code = .ref c ∧ TabB X.base X.mg c Pt ∧ (Pt, X.env.qual ++ "<lambda>") ∈ G.T ∧ ∀ p ∈ G.T, p.1 = Pt → p.2 = X.env.qual ++ "<lambda>"
  lm : t.lm = true
  nw : ∀ y c, X.env.cells.lookup y = some c → t.W0.cv c = none
  cf : ∀ y c, X.env.cells.lookup y = some c → c ∉ X.fs ∧ X.base.get? c = none
theorem zip_look : ∀ {cs : List Addr} {Vs : List V} {c : Addr} {v : V}, (cs.zip Vs).lookup c = some v → ∃ i : Nat, cs[i]? = some c ∧ Vs[i]? = some v
  | [], _, _, _, e => by simp at e
  | _ :: _, [], _, _, e => by simp at e
  | d :: cs, w :: Vs, c, v, e => by
    simp only [List.zip_cons_cons, List.lookup] at e
    split at e
    · rename_i q
      cases e
      exact ⟨0, by simp [beq_iff_eq.mp q], rfl⟩
    · obtain ⟨i, h1, h2⟩ := zip_look e
      exact ⟨i + 1, by simpa using h1, by simpa using h2⟩
theorem zip_some : ∀ {cs : List Addr} {Vs : List V} {c : Addr} {i : Nat} {v : V}, cs[i]? = some c → Vs[i]? = some v → ∃ w, (cs.zip Vs).lookup c = some w
  | [], _, _, _, _, e, _ => by simp at e
  | _ :: _, [], _, _, _, _, e => by simp at e
  | d :: cs, w :: Vs, c, 0, v, e1, e2 => by
    simp at e1; subst e1
    exact ⟨w, by simp [List.lookup]⟩
  | d :: cs, w :: Vs, c, i + 1, v, e1, e2 => by
    by_cases q : c = d
    · subst q; exact ⟨w, by simp [List.lookup]⟩
    · obtain ⟨u, h⟩ := zip_some (i := i) (cs := cs) (Vs := Vs) (by simpa using e1) (by simpa using e2)
      exact ⟨u, by simp only [List.zip_cons_cons, List.lookup, beq_eq_false_iff_ne.mpr q]; exact h⟩
theorem getAll_get {env : Env} : ∀ {caps : List Nat} {vs : List PV}, getAll env caps = some vs → vs.length = caps.length ∧ ∀ (i : Nat) (j : Nat) (v : PV), caps[i]? = some j → vs[i]? = some v → get env j = some v
  | [], vs, e => by cases e; exact ⟨rfl, fun i j v a => by simp at a⟩
  | c :: r, vs, e => by
    unfold getAll at e
    split at e
    · rename_i v ws e1 e2
      cases e
      obtain ⟨h1, h2⟩ := getAll_get e2
      refine ⟨by simp [h1], fun i j w a b => ?_⟩
      cases i with
      | zero => simp at a b; subst a; subst b; exact e1
      | succ i => exact h2 i j w (by simpa using a) (by simpa using b)
    · cases e
theorem rcs_of {adr : Nat → Addr} {K : Frag} {W : Wd} : ∀ {vs : List PV} {cs : List Addr} {Vs : List V}, vs.length = cs.length → Vs.length = cs.length → (∀ (i : Nat) (v : PV) (c : Addr) (x : V), vs[i]? = some v → cs[i]? = some c → Vs[i]? = some x → W.cv c = some x ∧ RV adr K W v x) → RCs adr K W vs cs
  | [], [], _, _, _, _ => .nil
  | v :: vs, c :: cs, x :: Vs, h1, h2, h => .cons (h 0 v c x rfl rfl rfl).1 (h 0 v c x rfl rfl rfl).2 (rcs_of (Vs := Vs) (by simpa using h1) (by simpa using h2) fun i v c x a b d => h (i + 1) v c x (by simpa using a) (by simpa using b) (by simpa using d))
  | [], _ :: _, _, h1, _, _ => by cases h1
  | _ :: _, [], _, h1, _, _ => by cases h1
  | _ :: _, _ :: _, [], _, h2, _ => by cases h2
/-- lambda ..: .. -/
theorem le_lam {l : Nat} {L : LamT} {caps : List Nat} {pos : Pos} (M : MkOk G X t) (ht : O.tok = t.t) (hN : X.N.Nodup) (hLG : ∀ ci : Clo, ci.l = l → LamFacts L ci → G.LG ci) (hdef : defaultsOf L.params X.env = ([], []))
    (hfree : ∀ y ∈ L.scope.names, y.2 = .free → X.env.scope.names.lookup y.1 = some .cell ∨ X.env.scope.names.lookup y.1 = some .free) (hfr : ∀ y, (y, NameKind.free) ∈ L.scope.names ↔ y ∈ L.fr) (hcaps : caps.map (fun j => X.N[j]?) = L.fr.map some) (hnd : L.fr.Nodup) :
    PE X (.Lambda L.params L.ex L.scope pos) (LE G X t Wx (wpE O (.lam l caps))) := by
  refine ⟨fun pins s σ H Q I q => ?_⟩
  obtain ⟨W, env, h, Qp, Xp, rs, w, cq, cx⟩ := q
  simp only [wpE] at w
  split at w
  · rename_i vs ev
    obtain ⟨c, Pt, hcode, B, hm, hu⟩ := M.code
    have hf : ∀ y ∈ L.scope.names, y.2 = .free → ∃ c, X.env.cells.lookup y.1 = some c := fun y hy e => (hfree y hy e).elim (fun z => I.ok.has _ (.inl z)) fun z => I.ok.has _ (.inr z)
    refine lam_new I B hcode hm hu rs.tabs hdef hf fun f c' pm ctv H1 s1 J eN T1 hobj nf ge hco => ?_
    obtain ⟨lv, gv⟩ := getAll_get ev
    obtain ⟨cl, hcl⟩ : ∃ cl, cl = cloFrom X.env.cells L.scope.names [] := ⟨_, rfl⟩
    have lcap : caps.length = L.fr.length := by have := congrArg List.length hcaps; simpa using this
    -- the cells
    have cellOf : ∀ y ∈ L.fr, ∃ d, X.env.cells.lookup y = some d ∧ cl.lookup y = some d := fun y hy => by
      obtain ⟨d, hd⟩ := hf (y, .free) ((hfr y).mpr hy) rfl
      exact ⟨d, hd, by rw [hcl]; exact NdefX.clo_has hf ((hfr y).mpr hy) hd⟩
    obtain ⟨cs, hcs⟩ : ∃ cs : List Addr, cs = L.fr.map fun y => (cl.lookup y).getD 0 := ⟨_, rfl⟩
    have lcs : cs.length = L.fr.length := by rw [hcs, List.length_map]
    have csAt : ∀ (i : Nat) (d : Addr), cs[i]? = some d → ∃ y, L.fr[i]? = some y ∧ X.env.cells.lookup y = some d := fun i d e => by
      rw [hcs, List.getElem?_map] at e
      cases q : L.fr[i]? with
      | none => rw [q] at e; cases e
      | some y =>
        rw [q] at e
        obtain ⟨d', h1, h2⟩ := cellOf y (List.mem_of_getElem? q)
        simp only [Option.map_some, Option.some.injEq] at e
        rw [h2] at e
        simp only [Option.getD_some] at e
        exact ⟨y, rfl, by rw [h1, e]⟩
    obtain ⟨Vs, hVs⟩ : ∃ Vs : List V, Vs = caps.map fun j => match σ[j]? with
      | some (some v) => v
      | _ => .non := ⟨_, rfl⟩
    have lVs : Vs.length = caps.length := by rw [hVs, List.length_map]
    have slot : ∀ (i : Nat) (y : Str), L.fr[i]? = some y → ∃ (j : Nat) (pv : PV) (x : V), caps[i]? = some j ∧ X.N[j]? = some y ∧ vs[i]? = some pv ∧ σ[j]? = some (some x) ∧ RV G.adr G.K W pv x ∧ Vs[i]? = some x := fun i y e => by
      have hi : i < caps.length := by rw [lcap]; exact (List.getElem?_eq_some_iff.mp e).1
      have e1 : (caps.map fun j => X.N[j]?)[i]? = some (some y) := by rw [hcaps, List.getElem?_map, e]; rfl
      rw [List.getElem?_map, List.getElem?_eq_getElem hi] at e1
      have e1 : X.N[caps[i]]? = some y := Option.some.inj e1
      have hv : i < vs.length := by omega
      have e2 := gv i caps[i] vs[i] (List.getElem?_eq_getElem hi) (List.getElem?_eq_getElem hv)
      obtain ⟨x, e3, r3⟩ := rs.env _ _ e2
      refine ⟨caps[i], vs[i], x, List.getElem?_eq_getElem hi, e1, List.getElem?_eq_getElem hv, e3, r3, ?_⟩
      rw [hVs, List.getElem?_map, List.getElem?_eq_getElem hi]
      simp [e3]
    obtain ⟨ci, hci⟩ : ∃ ci : Clo, ci = ⟨l, O.tok, ⟨"<lambda>", X.env.qual ++ "<lambda>", L.params, [], L.scope, cl, c'⟩, L.ex, cs⟩ := ⟨_, rfl⟩
    have hcics : ci.cs = cs := by rw [hci]
    have nofn : W.fn f = none := by
      cases q : W.fn f with
      | none => rfl
      | some z =>
        obtain ⟨ob, g⟩ := (I.hok f _ (rs.fn f z q).2.1).2.1
        exact absurd (Nat.lt_of_lt_of_le (Heap.lt_size g) ge) (Nat.lt_irrefl _)
    -- what the cells are known to hold
    have known : ∀ (i : Nat) (d : Addr) (x : V), cs[i]? = some d → Vs[i]? = some x → (W.addC f ci Vs).cv d = some x := fun i d x e1 e2 => by
      obtain ⟨y, hy, hl⟩ := csAt i d e1
      obtain ⟨j, pv, x', h1, h2, _, h4, _, h6⟩ := slot i y hy
      rw [e2] at h6; cases h6
      have kd := hfree (y, .free) ((hfr y).mpr (List.mem_of_getElem? hy)) rfl
      cases q : W.cv d with
      | some v' =>
        rw [(addC_old q).1]
        rcases (rs.cv d v' q).2 with ⟨ca, _⟩ | ⟨_, _, _, z, _⟩
        · obtain ⟨_, _, ob, u, g, dd, ru⟩ := cellA_at I ca
          obtain ⟨m, hn, hloc⟩ := I.loc
          obtain ⟨u', ru', lk⟩ := hloc j y x h2 h4 (kd.elim (fun z => .inr (.inl z)) fun z => .inr (.inr z))
          rcases lk with ⟨k, _⟩ | ⟨_, d', hl', ob', g', dd'⟩
          · have k' : X.env.scope.names.lookup y = some .local := k
            rcases kd with k2 | k2 <;> (have k2' : X.env.scope.names.lookup y = _ := k2; rw [k'] at k2'; cases k2')
          · rw [hl] at hl'; cases hl'
            rw [g] at g'; cases g'
            rw [dd] at dd'; cases dd'
            rw [rel_inj ru ru']
        · rw [I.freeC y d hl] at z; cases z
      | none =>
        rw [(addC_new q).1, hcics]
        obtain ⟨w', hw⟩ := zip_some e1 e2
        rw [hw]
        obtain ⟨i2, k1, k2⟩ := zip_look hw
        obtain ⟨y2, hy2, hl2⟩ := csAt i2 d k1
        have ey := I.ok.inj y2 y d hl2 hl
        subst ey
        obtain ⟨b1, q1⟩ := List.getElem?_eq_some_iff.mp hy
        obtain ⟨b2, q2⟩ := List.getElem?_eq_some_iff.mp hy2
        have ei : i2 = i := (List.getElem_inj hnd).mp (q2.trans q1.symm)
        subst ei
        rw [e2] at k2
        rw [Option.some.inj k2]
    have le := addC_le (ci := ci) (Vs := Vs) nofn
    have r1 := rs.toRH.extN eN T1
    have kp : ∀ b u, H1 b = some u → upd H1 f (LamO f ci) b = some u := fun b u e => by rw [upd_ne (L2.ne_of_none e nf)]; exact e
    have facts : LamFacts L ci := by
      rw [hci]
      refine ⟨rfl, rfl, rfl, rfl, ?_, fun y d e => ?_, fun x y d a b => ?_⟩
      · show L.fr.map (fun y => cl.lookup y) = cs.map some
        rw [hcs, List.map_map]
        refine List.map_congr_left fun y hy => ?_
        obtain ⟨d, _, hd⟩ := cellOf y hy
        simp [hd]
      · have e : cl.lookup y = some d := e
        rw [hcl] at e
        rcases L2.cloFrom_mem (PySem.mem_of_lookup e) with z | ⟨z, _⟩
        · cases z
        · exact (hfr y).mp z
      · have a : cl.lookup x = some d := a
        have b : cl.lookup y = some d := b
        rw [hcl] at a b
        exact I.ok.inj x y d (NdefX.clo_cm hf a) (NdefX.clo_cm hf b)
    have rsN : RS G X t (W.addC f ci Vs) env h σ (upd H1 f (LamO f ci)) := by
      refine ⟨⟨fun a o e => kp a _ (r1.fz a o e), fun n o e z => ?_, r1.inj, r1.dis, r1.new, tabs_keep (fun b o e _ => kp b o e) r1.tabs, fun a k e => ?_, fun d v e => ?_, fun a k e => ?_, fun a us e => ⟨kp a _ (r1.hd a us e).1, (r1.hd a us e).2⟩⟩, rs.len, fun i v e => ?_, rs.le0.trans le, rs.lek.trans le⟩
      · obtain ⟨a, u, h1, h2, h3⟩ := r1.live n o e z
        exact ⟨a, u, h1, kp a u h2, h3.mono le⟩
      · have e : (if a = f then some ci else W.fn a) = some k := e
        split at e
        · rename_i z
          cases e
          subst z
          refine ⟨hLG ci (by rw [hci]) facts, upd_same, ?_, fun d hd => ?_⟩
          · have e1 : ci.F.c = c' := by rw [hci]
            have e2 : ci.F.qual = X.env.qual ++ "<lambda>" := by rw [hci]
            rw [e1, e2]; exact kp _ _ hco
          · rw [hcics] at hd
            obtain ⟨i, hi, e1⟩ := List.mem_iff_getElem.mp hd
            have hV : i < Vs.length := by omega
            exact ⟨_, known i d Vs[i] (by rw [List.getElem?_eq_getElem hi, e1]) (List.getElem?_eq_getElem hV)⟩
        · obtain ⟨h1, h2, h3, h4⟩ := r1.fn a k e
          exact ⟨h1, kp _ _ h2, kp _ _ h3, fun d hd => let ⟨v, hv⟩ := h4 d hd; ⟨v, (addC_old hv).1⟩⟩
      · cases q : W.cv d with
        | some v0 =>
          rw [(addC_old q).1] at e; cases e
          obtain ⟨b1, b2⟩ := r1.cv d v q
          refine ⟨b1, b2.imp (fun z => ⟨z.1, by rw [(addC_old q).2]; exact z.2⟩) fun ⟨ob, u, h0, h1, h2⟩ => ⟨ob, u, by rw [(addC_old q).2]; exact h0, kp d _ h1, h2⟩⟩
        | none =>
          have e0 := e
          rw [(addC_new q).1, hcics] at e
          obtain ⟨i, k1, k2⟩ := zip_look e
          obtain ⟨y, hy, hl⟩ := csAt i d k1
          obtain ⟨j, pv, x', h1, h2, _, h4, _, h6⟩ := slot i y hy
          rw [k2] at h6; cases h6
          exact ⟨(M.cf y d hl).2, .inl ⟨.inl ⟨M.lm, y, j, hl, hfree (y, .free) ((hfr y).mpr (List.mem_of_getElem? hy)) rfl, h2, h4, (M.cf y d hl).1⟩, (addC_new q).2⟩⟩
      · have e : (if a = f then some ci else W.fn a) = some k := e
        split at e
        · cases e
          refine ⟨fun n => ?_, .inr fun d hd => ?_⟩
          · rw [hci] at n; exact (n ht).elim
          · rw [hcics] at hd
            obtain ⟨i, hi, e1⟩ := List.mem_iff_getElem.mp hd
            obtain ⟨y, _, hl⟩ := csAt i d (by rw [List.getElem?_eq_getElem hi, e1])
            exact M.nw y d hl
        · exact r1.tk a k e
      · obtain ⟨x, e1, r3⟩ := rs.env i v e
        exact ⟨x, e1, r3.mono le⟩
    have hobj' : s1.heap.get? f = some (PySem.W.kla_obj "<lambda>" ci.F.qual ci.F.params ci.ex ci.F.scope ci.F.cl pm ci.F.c ctv) := by rw [hci]; rw [← hcl] at hobj; exact hobj
    refine ⟨.ref f, _, Inv.track I J nf ge (lamO_ok hobj'), rfl, cq _ _ h _ _ le rsN (.clo (ci := ci) (if_pos rfl) (by rw [hci]) (by rw [hci]) ?_) w⟩
    rw [hcics]
    refine rcs_of (Vs := Vs) (by omega) (by omega) fun i pv d x e1 e2 e3 => ?_
    refine ⟨known i d x e2 e3, ?_⟩
    obtain ⟨y, hy, _⟩ := csAt i d e2
    obtain ⟨j, pv', x', _, _, h3, _, h5, h6⟩ := slot i y hy
    rw [e1] at h3; cases h3
    rw [e3] at h6; cases h6
    exact h5.mono le
  · exact w.elim
end
end PC

set_option Elab.async false
set_option maxRecDepth 100000
set_option maxHeartbeats 2000000
/-! PC20: a lambda runs. -/
namespace PC
open PySem PySem.Spec PyProof.Rows
open L2 (V HO Hp upd upd_same upd_ne Rd SqL SqT Cx Inv TE TT TA TS TG TGs TI VK PE PT PW PA PK PS PSs PG PGs PI PTs It R2 OpR CallR Un UB HOk ObjOk Env0 FnOk Sp XK Room frs CR EP Takes Ends FpOk BlkOk cloFrom)
open LamX (Tabs TabS TabB ExtN CodeO)

/-- what does not change -/
structure Uni where
  pr : Program
  w : World
  mg : Str → Option Value
  B : Heap
/-- a frame that runs at the level d -/
structure Amb (G : Gs) (U : Uni) (d : Nat) (X : Cx) (t : Fm) (Wx : L2.WX) : Prop where
  pr : X.prog = U.pr
  w : X.w = U.w
  mg : X.mg = U.mg
  B : X.base = U.B
  K : X.K = G.K
  tk : Takes X Wx
  room : Room (d + 2) X.A
  po : PassesOwn (model X.prog X.w) X.A X.env X.xe
  calm : X.calm = true
  nd : X.N.Nodup
  tt : t.t = d
  fm : FmOk X t
  cf : ∀ y c, X.env.cells.lookup y = some c → c ∉ X.fs ∧ X.base.get? c = none
/-- a lambda may be called -/
structure LamRun (G : Gs) (P : Prog) (U : Uni) (d l : Nat) : Prop where
  run : ∀ (A : Around) (outer : List PySem.Env) (s : Shared) (H : Hp) (us : List Value) (W : Wd) (h : Hea) (ci : Clo) (a : Addr) (cap vs : List PV) (xs : List V) (Qp : KQ) (Xp : KX), Room (d + 2) A → Env0 U.pr U.w G.K U.mg U.B A outer s H → RL G U.B W h H → W.fn a = some ci → ci.l = l → RCs G.adr G.K W cap ci.cs →
    RVs G.adr G.K W vs xs → L2.Vals xs us → (orc P d).lam l cap vs h Qp Xp → codeAny (model U.pr U.w) A (.call (.ref a) ⟨us, []⟩) (CR (L2.CX U.pr U.w) outer U.pr U.w H s (PQ G U.B W Qp) (PX G U.B W Xp)) s

theorem rcs_vals {adr : Nat → Addr} {K : Frag} {W : Wd} : ∀ {cap : List PV} {cs : List Addr}, RCs adr K W cap cs → ∃ Vs : List V, Vs.length = cs.length ∧ RVs adr K W cap Vs ∧ ∀ (i : Nat) (c : Addr), cs[i]? = some c → ∃ x, Vs[i]? = some x ∧ W.cv c = some x
  | _, _, .nil => ⟨[], rfl, .nil, fun i c e => by simp at e⟩
  | _, _, .cons (v := v) e r rs => by
    obtain ⟨Vs, h1, h2, h3⟩ := rcs_vals rs
    refine ⟨v :: Vs, by simp [h1], .cons r h2, fun i c e' => ?_⟩
    cases i with
    | zero => simp at e'; subst e'; exact ⟨v, rfl, e⟩
    | succ i => simpa using h3 i c (by simpa using e')
theorem startE_get {slots : Nat} {vs : List PV} {i : Nat} {v : PV} (e : get (startE slots vs) i = some v) : vs[i]? = some v := by
  unfold get startE at e
  by_cases q : i < vs.length
  · rw [List.getElem?_append_left (by rw [List.length_map]; exact q), List.getElem?_map] at e
    cases z : vs[i]? with
    | none => rw [z] at e; cases e
    | some w => rw [z] at e; simp at e; rw [e]
  · rw [List.getElem?_append_right (by rw [List.length_map]; omega), List.getElem?_replicate] at e
    split at e
    · rename_i k
      split at k <;> cases k
    · cases e
theorem startE_len {slots : Nat} {vs : List PV} (l : vs.length ≤ slots) : (startE slots vs).length = slots := by
  unfold startE
  rw [List.length_append, List.length_map, List.length_replicate]; omega
section
variable {G : Gs} {P : Prog} {U : Uni} {d l : Nat} {W : Wd} {h : Hea} {H : Hp}
theorem hok_off {pr : Program} {w : World} {cs : List Addr} {hp : Heap} (x : HOk pr w H hp) (hc : ∀ c ∈ cs, ∃ ob, H c = some (CellX c ob)) : HOk pr w (offH cs H) hp := fun a o e => by
  obtain ⟨e1, _⟩ := offH_some e
  have out : ∀ b u, H b = some u → (∀ ob, u ≠ CellX b ob) → offH cs H b = some u := fun b u q n => by
    rw [offH_out (fun z => ?_)]; exact q
    obtain ⟨ob, k⟩ := hc b z
    rw [q] at k; cases k
    exact n ob rfl
  exact (x a o e1).stay (fun _ _ _ q => q) (fun b q => out b _ q fun ob z => by cases z) fun b xs q => out b _ q fun ob z => by cases z
theorem lam_run_at {L : LamT} {M : Lam} {ar : List Arg} {kd : List (Option Expr)} {df : List Expr} {ci : Clo} (F : LamFacts L ci) (S : NdefX.NScope L.N L.ps L.fr L.scope) (hP : P.lams[l]? = some M) (hn : M.n = L.ps.length) (hcp : M.caps = L.fr.length) (hsl : M.slots = L.N.length)
    (hpar : L.params = ⟨[], ar, none, [], kd, none, df⟩) (har : ar.map (·.arg) = L.ps)
    (hbody : ∀ X t Wx, Amb G U d X t Wx → X.N = L.N → X.env.scope = L.scope → t.st = false → PE X L.ex (LE G X t Wx (wpE (orc P d) M.body))) (A : Around) (outer : List PySem.Env) (s : Shared) (H : Hp) (us : List Value) (W : Wd) (h : Hea) (a : Addr) (cap vs : List PV) (xs : List V) (Qp : KQ) (Xp : KX) (hr : Room (d + 1 + 2) A) (e0 : Env0 U.pr U.w G.K U.mg U.B A outer s H) (rl : RL G U.B W h H)
    (hfn : W.fn a = some ci) (hl : ci.l = l) (rc : RCs G.adr G.K W cap ci.cs) (rv : RVs G.adr G.K W vs xs) (ru : L2.Vals xs us) (w : (orc P (d + 1)).lam l cap vs h Qp Xp) :
    codeAny (model U.pr U.w) A (.call (.ref a) ⟨us, []⟩) (CR (L2.CX U.pr U.w) outer U.pr U.w H s (PQ G U.B W Qp) (PX G U.B W Xp)) s := by
  obtain ⟨g1, g2, g3, g4⟩ := rl.fn a ci hfn
  obtain ⟨pm, ctv, obj⟩ := (e0.hok a _ g2).1
  simp only [orc, hP] at w
  obtain ⟨w1, w2, w⟩ := w
  obtain ⟨Vs, lVs, rVs, kVs⟩ := rcs_vals rc
  have lcs : ci.cs.length = L.fr.length := by have := congrArg List.length F.cs; simpa using this.symm
  -- the captured cells
  have cell : ∀ c ∈ ci.cs, ∃ ob v u, W.cv c = some v ∧ W.co c = some ob ∧ H c = some (CellX c ob) ∧ s.heap.get? c = some ob ∧ ob.data = .cell (some u) ∧ L2.RelV v u ∧ U.B.get? c = none := fun c hc => by
    obtain ⟨v, hv⟩ := g4 c hc
    obtain ⟨b1, b2⟩ := rl.cv c v hv
    rcases b2 with ⟨z, _⟩ | ⟨ob, u, h0, h1, h2, h3⟩
    · exact z.elim
    · exact ⟨ob, v, u, hv, h0, h1, (e0.hok c _ h1).1, h2, h3, b1⟩
  have clCs : ∀ y c, ci.F.cl.lookup y = some c → c ∈ ci.cs := fun y c e => by
    have hy := F.sub y c e
    have hm : some c ∈ ci.cs.map some := by rw [← F.cs]; exact List.mem_map.mpr ⟨y, hy, e⟩
    obtain ⟨c', hc', e'⟩ := List.mem_map.mp hm
    rw [← Option.some.inj e']; exact hc'
  have hcX : ∀ c ∈ ci.cs, ∃ ob, H c = some (CellX c ob) := fun c hc => let ⟨ob, _, _, _, _, z, _⟩ := cell c hc; ⟨ob, z⟩
  have out : ∀ b u, H b = some u → (∀ ob, u = CellX b ob → False) → offH ci.cs H b = some u := fun b u q n => by
    rw [offH_out (fun z => ?_)]; exact q
    obtain ⟨ob, k⟩ := hcX b z
    rw [q] at k; cases k
    exact n ob rfl
  have hok' := hok_off e0.hok hcX
  have e0' : Env0 U.pr U.w G.K U.mg U.B A outer s (offH ci.cs H) := ⟨e0.frames, e0.mod, fun b o q => ⟨(e0.bs b o q).1, offH_none (e0.bs b o q).2⟩, e0.bsz, e0.funs, fun b hb => offH_none (e0.frf b hb), hok', e0.bare⟩
  have S' : NdefX.NScope L.N L.ps L.fr ci.F.scope := by rw [F.scope]; exact S
  have C : NdefX.CellsAt ci.F.cl L.fr (Vs.map some) s.heap (offH ci.cs H) := by
    refine ⟨by rw [List.length_map]; omega, fun y c e => ?_, F.inj, fun i y e => ?_⟩
    · obtain ⟨ob, v, u, _, _, _, g, dd, _⟩ := cell c (clCs y c e)
      exact ⟨if_pos (clCs y c e), _, ob, g, dd⟩
    · have e1 : (L.fr.map fun y => ci.F.cl.lookup y)[i]? = some (ci.F.cl.lookup y) := by rw [List.getElem?_map, e]; rfl
      rw [F.cs, List.getElem?_map] at e1
      cases q : ci.cs[i]? with
      | none => rw [q] at e1; cases e1
      | some c =>
        rw [q] at e1
        refine ⟨c, (Option.some.inj e1).symm, fun v hv => ?_⟩
        obtain ⟨x, hx, hcv⟩ := kVs i c q
        rw [List.getElem?_map, hx] at hv
        have hv : x = v := by simpa using hv
        subst hv
        obtain ⟨ob, v', u, k1, _, _, g, dd, ru', _⟩ := cell c (List.mem_of_getElem? q)
        rw [hcv] at k1; cases k1
        exact ⟨u, ru', ob, g, dd⟩
  -- the code
  have lim : s.heap.NoLimit := e0.mod.nolimit.keeps fun b o e => (e0.bs b o e).1
  have code : s.heap.CodeRec (.ref ci.F.c) ci.F.qual := NdefX.codeO_at e0.hok g3
  have lvs : vs.length = L.ps.length := by omega
  have lxs : xs.length = L.ps.length := by rw [← rv.length]; exact lvs
  have lus : us.length = ar.length := by
    have z := congrArg List.length har
    rw [List.length_map] at z
    rw [← ru.length, lxs, z]
  have bind : ∀ (cv : Value), bindArgs (PySem.W.kla_fn "<lambda>" ci.F.qual ci.F.params ci.ex ci.F.scope ci.F.cl pm cv ctv) ⟨us, []⟩ = pure (L.ps.zip us) := fun cv => by
    have ndp : (ar.map (·.arg)).Nodup := by
      have q := S.nd.sublist (List.take_sublist (L.ps.length + L.fr.length) L.N)
      rw [S.pre] at q
      rw [har]
      exact (List.nodup_append.mp q).1
    have bp := bind_plain (fd := PySem.W.kla_fn "<lambda>" ci.F.qual ci.F.params ci.ex ci.F.scope ci.F.cl pm cv ctv) (us := us) (kw := []) (F.params.trans hpar) rfl (by omega) (fun p hp => by cases hp) .nil (fun n hn => by
      obtain ⟨j, hj, e⟩ := List.mem_iff_getElem.mp hn
      have hj2 : j < us.length := by rw [List.length_map] at hj; omega
      rw [List.append_nil, look_zip ndp (by rw [List.getElem?_eq_getElem hj, e]) (List.getElem?_eq_getElem hj2)]
      rfl)
    rw [bp, List.append_nil, fm_zip (by rw [List.length_map]; omega) fun j x v e1 e2 => look_zip ndp e1 e2, har]
  refine PySem.W.kla_callFunE hr.depth obj rfl (by rw [show (PySem.W.kla_fn "<lambda>" ci.F.qual ci.F.params ci.ex ci.F.scope ci.F.cl pm (.ref ci.F.c) ctv).scope = L.scope from F.scope]; exact S.co) (by rw [show (PySem.W.kla_fn "<lambda>" ci.F.qual ci.F.params ci.ex ci.F.scope ci.F.cl pm (.ref ci.F.c) ctv).scope = L.scope from F.scope]; exact S.gen) rfl code ?_
  rw [bind]
  refine wpAny_pure (wpAny_newFunctionEnv S'.nocell (fun ⟨n, _⟩ hy => S'.par n (List.of_mem_zip hy).1) (fun h₁ hns hsb => ⟨lim.fresh _ hsb, ?_⟩) S'.kind)
  show codeAny _ _ (.expr ci.ex (NdefX.envF ci.F a s.heap.objs.size)) _ _
  have kp : ∀ b o, s.heap.get? b = some o → h₁.get? b = some o := fun b o e => hsb.extBut b o (Nat.ne_of_lt (Heap.lt_size e)) (Heap.get?_push_of_some _ e)
  have I0 := NdefX.inv_startN (CX := L2.CX U.pr U.w) (E := PX G U.B W Xp) (f := a) (tk := s.toks + (L.ps.zip us).length) S' hr.hd e0' lxs ru C hns kp
  -- the context: an exception leaves to the true heap
  obtain ⟨Xc, hXc⟩ : ∃ Xc : Cx, Xc = (NdefX.ncx (L2.CX U.pr U.w) U.pr U.w G.K U.mg U.B L.N ci.F a A outer s (offH ci.cs H) (PX G U.B W Xp)).wish (fun e s' => wpAny (model U.pr U.w) (A.deeper (NdefX.envF ci.F a s.heap.objs.size)) (leaving (NdefX.envF ci.F a s.heap.objs.size) e)
    (fun _ s'' => L2.CX U.pr U.w outer H s (PX G U.B W Xp) e s'') (fun e' s'' => L2.CX U.pr U.w outer H s (PX G U.B W Xp) e' s'') s') := ⟨_, rfl⟩
  obtain ⟨t, htd⟩ : ∃ t : Fm, t = ⟨d, W.off ci.cs, W.off ci.cs, true, false, false, fun _ => False⟩ := ⟨_, rfl⟩
  have I1 : Inv Xc [] (NdefX.startF L.N xs (Vs.map some)) (offH ci.cs H) { s with heap := h₁, toks := s.toks + (L.ps.zip us).length } := by rw [hXc]; exact I0.wish _
  have hpl : L.ps.length + L.fr.length ≤ L.N.length := by
    have q := congrArg List.length S.pre
    rw [List.length_take, List.length_append] at q
    omega
  have stF : NdefX.startF L.N xs (Vs.map some) = (xs ++ Vs).map some ++ List.replicate (L.N.length - xs.length - Vs.length) none := by
    unfold NdefX.startF
    rw [List.length_map, List.map_append, List.append_assoc]
  have rva := rv.append rVs
  have RSl : RS G Xc t (W.off ci.cs) (startE M.slots (vs ++ cap)) h (NdefX.startF L.N xs (Vs.map some)) (offH ci.cs H) := by
    rw [hXc, htd]
    refine ⟨⟨fun b o e => out b _ (rl.fz b o e) fun ob z => ?_, fun n o e lv => ?_, rl.inj, rl.dis, rl.new, fun p hp => ?_, fun b k e => ?_, fun c v e => ⟨(rl.cv c v e).1, ?_⟩, fun b k e => ⟨fun _ _ _ z => z, .inl e⟩, fun b us e => ⟨out b _ (rl.hd b us e).1 (fun ob z => by cases z), (rl.hd b us e).2⟩⟩, ?_, fun i v e => ?_, .refl _, .refl _⟩
    · cases o with
      | scr ns ob => cases ob <;> cases z
      | _ => cases z
    · obtain ⟨b, u, h1, h2, h3⟩ := rl.live n o e lv
      refine ⟨b, u, h1, out b u h2 fun ob z => ?_, ro_same (W' := W.off ci.cs) rl.new rfl rfl rfl rfl h3⟩
      cases o with
      | lst ys => obtain ⟨_, k, _⟩ := h3; rw [k] at z; cases z
      | dK ks ys => obtain ⟨_, k, _⟩ := h3; rw [k] at z; cases z
      | dead => cases lv
    · obtain ⟨ps, h1, h2, h3⟩ := rl.tabs p hp
      refine ⟨ps, out _ _ h1 (fun ob z => by cases z), h2, fun pos cv hc => ?_⟩
      obtain ⟨c, e1, e2⟩ := h3 pos cv hc
      refine ⟨c, e1, ?_⟩
      rw [offH_out fun hm => ?_]; exact e2
      obtain ⟨ob, _, u, _, _, _, g, dd, _⟩ := cell c hm
      obtain ⟨oc, vs, tq, k1, k2, _⟩ := (e0.hok c _ e2).1
      rw [g] at k1; cases k1
      rw [dd] at k2; cases k2
    · obtain ⟨h1, h2, h3, h4⟩ := rl.fn b k e
      refine ⟨h1, ?_, ?_, h4⟩
      · rw [offH_out fun hm => ?_]; exact h2
        obtain ⟨ob, _, u, _, _, _, g, dd, _⟩ := cell b hm
        obtain ⟨_, _, k1⟩ := (e0.hok b _ h2).1
        rw [g] at k1; cases k1
        cases dd
      · rw [offH_out fun hm => ?_]; exact h3
        obtain ⟨ob, _, u, _, _, _, g, dd, _⟩ := cell _ hm
        obtain ⟨oc, vs, tq, k1, k2, _⟩ := (e0.hok _ _ h3).1
        rw [g] at k1; cases k1
        rw [dd] at k2; cases k2
    · have e' : W.cv c = some v := e
      by_cases hm : c ∈ ci.cs
      · left
        obtain ⟨ob, v', u, k1, _, k3, _⟩ := cell c hm
        rw [e'] at k1; cases k1
        obtain ⟨i, hi, ei⟩ := List.mem_iff_getElem.mp hm
        have ci_ : ci.cs[i]? = some c := by rw [List.getElem?_eq_getElem hi, ei]
        obtain ⟨x, hx, hcv⟩ := kVs i c ci_
        rw [e'] at hcv; cases hcv
        have hfr : i < L.fr.length := by omega
        have e1 : (L.fr.map fun y => ci.F.cl.lookup y)[i]? = some (some c) := by rw [F.cs, List.getElem?_map, ci_]; rfl
        rw [List.getElem?_map, List.getElem?_eq_getElem hfr] at e1
        have e1 : ci.F.cl.lookup L.fr[i] = some c := Option.some.inj e1
        refine ⟨.inl ⟨rfl, L.fr[i], L.ps.length + i, e1, .inr ?_, ?_, ?_, fun hm2 => ?_⟩, if_pos hm⟩
        · show ci.F.scope.names.lookup L.fr[i] = _
          exact S'.frk _ (List.getElem_mem hfr)
        · have z : (L.ps ++ L.fr)[L.ps.length + i]? = some L.fr[i] := by rw [List.getElem?_append_right (by omega), Nat.add_sub_cancel_left, List.getElem?_eq_getElem hfr]
          rw [← S.pre, List.getElem?_take_of_lt (by omega)] at z
          exact z
        · rw [stF, List.getElem?_append_left (by rw [List.length_map, List.length_append]; omega), List.getElem?_map, List.getElem?_append_right (by omega), lxs, Nat.add_sub_cancel_left, hx]
          rfl
        · have z := e0.frf c hm2
          rw [k3] at z; cases z
      · right
        rcases (rl.cv c v e').2 with ⟨z, _⟩ | ⟨ob, u, h0, h1, h2⟩
        · exact z.elim
        · exact ⟨ob, u, by show (if c ∈ ci.cs then none else W.co c) = some ob; rw [if_neg hm]; exact h0, by rw [offH_out hm]; exact h1, h2⟩
    · have lcap : cap.length = Vs.length := rVs.length
      rw [startE_len (by rw [List.length_append]; omega), stF, List.length_append, List.length_map, List.length_append, List.length_replicate]
      omega
    · have z := startE_get e
      obtain ⟨x, hx, r⟩ := rva.get z
      have hi : i < (xs ++ Vs).length := (List.getElem?_eq_some_iff.mp hx).1
      refine ⟨x, ?_, rv_same (W' := W.off ci.cs) rl.new rfl rfl rfl rfl r⟩
      rw [stF, List.getElem?_append_left (by rw [List.length_map]; exact hi), List.getElem?_map, hx]
      rfl
  have fm : FmOk Xc t := by
    rw [hXc, htd]
    exact ⟨.refl _, fun y c z => (by cases z), fun b k e => (rl.fn b k e).2.2.2, fun c ⟨y, z, _⟩ => (by cases z), fun c z => z.elim⟩
  have beg : Began Xc t W H ci.cs := by
    rw [hXc, htd]
    refine ⟨rfl, rfl, rfl, rfl, fun c hc => ?_, fun y c e => .inl (clCs y c e)⟩
    obtain ⟨ob, v, u, k1, k2, k3, k4, _⟩ := cell c hc
    exact ⟨ob, v, k1, k2, k3, k4, fun hm => by have z := e0.frf c hm; rw [k3] at z; cases z⟩
  have hn0 : ∀ m, h.length ≤ m → W.rho m = none := rl.new
  have hb0 : ∀ (n : Nat) (o : HObj), h[n]? = some o → o.bnd h.length = true := fun n o e => rl.bnd e
  have tk : Takes Xc (fun cls d' σ H' => ∃ W' env' h' ex, RS G Xc t W' env' h' σ H' ∧ RX G W' ex cls d' H' ∧ endsX h Xp ex h') := fun u s' x => by
    have z := beg.leave (E₁ := fun e' s'' => L2.CX U.pr U.w outer H s (PX G U.B W Xp) e' s'') (by rw [hXc]; rfl) (by rw [hXc]; rfl) hn0 hb0 (E := PX G U.B W Xp) (fun c dd H' q => by rw [hXc] at q; exact q) x
    rw [hXc] at z ⊢
    exact z
  have amb : Amb G U d Xc t (fun cls d' σ H' => ∃ W' env' h' ex, RS G Xc t W' env' h' σ H' ∧ RX G W' ex cls d' H' ∧ endsX h Xp ex h') := by
    refine ⟨by rw [hXc]; rfl, by rw [hXc]; rfl, by rw [hXc]; rfl, by rw [hXc]; rfl, by rw [hXc]; rfl, tk, by rw [hXc]; exact hr.deeper _, ?_, by rw [hXc]; rfl, by rw [hXc]; exact S.nd, by rw [htd], fm, fun y c e => ?_⟩
    · rw [hXc]
      exact L2.passes_of (K := fun e s'' => L2.CX U.pr U.w outer H s (PX G U.B W Xp) e s'') (E₁ := fun e' s'' => L2.CX U.pr U.w outer H s (PX G U.B W Xp) e' s'') rfl
    · have e' : ci.F.cl.lookup y = some c := by rw [hXc] at e; exact e
      obtain ⟨ob, v, u, k1, k2, k3, k4, _, _, k7⟩ := cell c (clCs y c e')
      rw [hXc]
      exact ⟨fun hm => (by have z := e0.frf c hm; rw [k3] at z; cases z), k7⟩
  have pe := hbody Xc t _ amb (by rw [hXc]; rfl) (by rw [hXc]; exact F.scope) (by rw [htd])
  have run := pe.run [] _ _ _ (fun x H' => ∃ W' v h', RS G Xc t W' (startE M.slots (vs ++ cap)) h' (NdefX.startF L.N xs (Vs.map some)) H' ∧ RV G.adr G.K W' v x ∧ ends h Qp v h') I1 ⟨_, _, _, _, _, RSl, w, fun W' v h' x H' le r rv q => ⟨W', v, h', r, rv, q⟩, fun W' ex h' cls dd H' le r rx q => ⟨W', _, h', ex, r, rx, q⟩⟩
  refine PySem.W.kla_codeExpr ?_
  subst hXc
  rw [← F.ex] at run
  refine wpAny_mono run (fun u s' hq => ?_) fun e s' hq => hq
  obtain ⟨x, H', J, ru', W', v, h', r, rv', q⟩ := hq
  exact beg.ret (Q := PQ G U.B W Qp) J r hn0 hb0 rv' ru' q (fun y H2 k => k)
theorem lam_run (h : ∀ ci : Clo, ci.l = l → G.LG ci → ∃ (L : LamT) (M : Lam) (ar : List Arg) (kd : List (Option Expr)) (df : List Expr), LamFacts L ci ∧ NdefX.NScope L.N L.ps L.fr L.scope ∧ P.lams[l]? = some M ∧ M.n = L.ps.length ∧ M.caps = L.fr.length ∧ M.slots = L.N.length ∧ L.params = ⟨[], ar, none, [], kd, none, df⟩ ∧ ar.map (·.arg) = L.ps ∧
    ∀ X t Wx, Amb G U d X t Wx → X.N = L.N → X.env.scope = L.scope → t.st = false → PE X L.ex (LE G X t Wx (wpE (orc P d) M.body))) : LamRun G P U (d + 1) l :=
  ⟨fun A outer s H us W hh ci a cap vs xs Qp Xp hr e0 rl hfn hl rc rv ru w => by
    obtain ⟨L, M, ar, kd, df, F, S, hP, hn, hcp, hsl, hpar, har, hb⟩ := h ci hl (rl.fn a ci hfn).1
    exact lam_run_at F S hP hn hcp hsl hpar har hb A outer s H us W hh a cap vs xs Qp Xp hr e0 rl hfn hl rc rv ru w⟩
end
end PC

set_option Elab.async false
set_option maxRecDepth 100000
set_option maxHeartbeats 2000000
/-! PC21: a variable is called. -/
namespace PC
open PySem PySem.Spec PyProof.Rows
open L2 (V HO Hp upd upd_same upd_ne Rd SqL SqT Cx Inv TE TT TA TS TG TGs TI VK PE PT PW PA PK PS PSs PG PGs PI PTs It R2 OpR CallR Un UB HOk ObjOk Env0 FnOk Sp XK Room frs CR EP Takes Ends FpOk BlkOk cloFrom)
open LamX (Tabs TabS TabB ExtN CodeO)
section
variable {G : Gs} {P : Prog} {U : Uni} {d : Nat} {X : Cx} {t : Fm} {Wx : L2.WX} {O : Orc} {W : Wd} {env : Env} {h : Hea} {σ : L2.St} {H : Hp} {pins : List (Addr × Obj)} {s : Shared} {Qp : KQ} {Xp : KX} {Q : VK}
theorem bind_pos {fd : FuncData} {args : List Arg} {kd : List (Option Expr)} {df : List Expr} {us : List Value} (hp : fd.params = ⟨[], args, none, [], kd, none, df⟩) (hd : fd.defaults = .none) (nd : (args.map (·.arg)).Nodup) (hl : us.length = args.length) : bindArgs fd ⟨us, []⟩ = pure ((args.map (·.arg)).zip us) := by
  have bp := bind_plain (fd := fd) (us := us) (kw := []) hp hd (by omega) (fun p hp => by cases hp) .nil (fun n hn => by
    obtain ⟨j, hj, e⟩ := List.mem_iff_getElem.mp hn
    have hj2 : j < us.length := by rw [List.length_map] at hj; omega
    rw [List.append_nil, look_zip nd (by rw [List.getElem?_eq_getElem hj, e]) (List.getElem?_eq_getElem hj2)]
    rfl)
  rw [bp, List.append_nil, fm_zip (by rw [List.length_map]; omega) fun j x v e1 e2 => look_zip nd e1 e2]
theorem back_ep {us : List Value} {kw : List (Str × Value)} {f : Value} (c : codeAny (model X.prog X.w) X.A (.call f ⟨us, kw⟩) (Back X pins σ Q) s) : wpAny (model X.prog X.w) X.A (call f us kw) (EP X pins σ Q) X.xe s :=
  wpAny_call (codeAny_mono c fun r s' hq => by
    cases r with
    | error e => exact hq
    | ok fl =>
      cases fl with
      | ret u => exact hq
      | next => exact False.elim hq
      | brk => exact False.elim hq
      | cont => exact False.elim hq)
/-- a def, its values in order -/
theorem run_pos {i : Nat} {nm : Str} {ps : List Str} {us : List Value} {xs : List V} {vs : List PV} (D : DefOk G P X.prog X.w X.mg X.base d i nm ps) (hK : X.K = G.K) (hr : Room (d + 2) X.A) (tk : Takes X Wx) (Fo : FmOk X t) (I : Inv X pins σ H s) (r : RS G X t W env h σ H) (rv : RVs G.adr G.K W vs xs) (ru : L2.Vals xs us)
    (cq : CQ G X t W env σ Qp Q) (cx : CX G X t Wx W env σ Xp) (q : (orc P d).call i vs h Qp Xp) : wpAny (model X.prog X.w) X.A (call (.ref (G.adr i)) us) (EP X pins σ Q) X.xe s := by
  obtain ⟨fd, ar, kd, df, F, e, hp, hd⟩ := D.ex
  have nd := D.nd
  rw [← hK] at F
  subst e
  have len : xs.length = (ar.map (·.arg)).length := F.len xs (trk W s.heap H) (PQ G X.base (W.told s.heap H) Qp) (PX G X.base (W.told s.heap H) Xp) ⟨_, h, vs, Qp, Xp, r.toCall I, rv.mono (told_le r I), q, fun _ _ z => z, fun _ _ _ z => z⟩
  refine back_ep (run_call (us := us) (xs := xs) (vs := vs) F hr ?_ Fo I tk r rv ru cq cx q)
  exact PySem.BindsTo.of_eq (bind_pos hp hd nd (by rw [← ru.length, len, List.length_map]))
/-- f(e, ..), f a variable -/
theorem le_callv {i : Nat} {x : Str} {args : CEs} {es : List Expr} {p pos : Pos} (A : Amb G U d X t Wx) (hO : O.call = (orc P d).call) (hO2 : O.lam = (orc P d).lam) (hdefs : ∀ i, (∃ vs h Qp Xp, (orc P d).call i vs h Qp Xp) → ∃ nm ps, DefOk G P U.pr U.w U.mg U.B d i nm ps)
    (hlams : ∀ l, (∃ cap vs h Qp Xp, (orc P d).lam l cap vs h Qp Xp) → LamRun G P U d l) (hkeep : ∀ f, PySem.W.keepIn G.K (.ref (G.adr f)) = true) (hN : X.N[i]? = some x) (hv : L2.Vis X.env.scope x) (hd : (x == ("__debug__" : Str)) = false) (hcd : (x == ("__classdict__" : Str)) = false) (hst : noStars es = true) (h0 : es = [] → args = .nil)
    (ha : PA X es (LA G X t Wx (wpEs O args))) : PE X (.Call (.Name x p) es [] pos) (LE G X t Wx (wpE O (.callv i args))) := by
  have eU : (⟨X.prog, X.w, X.mg, X.base⟩ : Uni) = U := by rw [A.pr, A.w, A.mg, A.B]
  subst eU
  refine ⟨fun pins s σ H Q I q => ?_⟩
  obtain ⟨W, env, h, Qp, Xp, rs, w, cq, cx⟩ := q
  simp only [wpE] at w
  cases ev : get env i with
  | none => rw [ev] at w; exact w.elim
  | some v =>
    rw [ev] at w
    obtain ⟨y, e1, r1⟩ := rs.env i v ev
    refine wpAny_Call_Name_kw (L2.thn ((L2.pe_var (pos := p) hN hv hd hcd).run pins s σ H (fun v H1 => v = y ∧ H1 = H) I ⟨y, e1, rfl, rfl⟩) fun u s1 ⟨v1, H1, I1, ru1, q1⟩ => ?_)
    obtain ⟨rfl, rfl⟩ := q1
    -- the values, then the call
    have go : ∀ (f : Value) (k : List PV → Hea → Prop) (keep : Shared → Prop), wpEs O args env h k Xp → keep s1 →
        (∀ {us : List Value} {s2 : Shared} {xs : List V} {H2 : Hp} {vs : List PV} {h2 : Hea} {W2 : Wd}, Inv X pins σ H2 s2 → L2.Vals xs us → RS G X t W2 env h2 σ H2 → Wle W W2 → RVs G.adr G.K W2 vs xs → k vs h2 → keep s2 ∧ wpAny (model X.prog X.w) X.A (call f us) (EP X pins σ Q) X.xe s2) →
        (∀ (e : Expr) (rest : List Expr), starEach (e :: rest) X.env = (false, eval e X.env) :: starEach rest X.env → (backTo pos (starEach rest X.env)).any (·.1) = false → wpAny (model X.prog X.w) X.A (spliced (backTo pos (starEach (e :: rest) X.env))) (fun vs s₁ => keep s₁ ∧ wpAny (model X.prog X.w) X.A (call f ([] ++ vs)) (EP X pins σ Q) X.xe s₁) X.xe s1 →
          wpAny (model X.prog X.w) X.A (callWith pos f [] (backTo pos (starEach (e :: rest) X.env)) []) (EP X pins σ Q) X.xe s1) →
        (wpAny (model X.prog X.w) X.A (call f ([] ++ [])) (EP X pins σ Q) X.xe s1 → wpAny (model X.prog X.w) X.A (callWith pos f [] (backTo pos (starEach [] X.env)) []) (EP X pins σ Q) X.xe s1) →
        wpAny (model X.prog X.w) X.A (callWith pos f [] (backTo pos (starEach es X.env)) []) (EP X pins σ Q) X.xe s1 := by
      intro f k keep wk kp fin one none_
      cases es with
      | nil =>
        rw [h0 rfl] at wk
        simp only [wpEs] at wk
        exact none_ (fin I1 .nil rs (.refl _) .nil wk).2
      | cons e es =>
        simp only [noStars, List.all_cons, Bool.and_eq_true, Bool.not_eq_true'] at hst
        refine one e es (star_cons hst.1) (star_any hst.2) (L2.thn (ha.run pos pins s1 σ _ (fun xs H2 => ∃ W2 vs h2, Wle W W2 ∧ RS G X t W2 env h2 σ H2 ∧ RVs G.adr G.K W2 vs xs ∧ k vs h2) I1 ⟨W, env, h, _, Xp, rs, wk, fun W2 vs h2 xs H2 le r rv q => ⟨W2, vs, h2, le, r, rv, q⟩, cx⟩) fun us s2 ⟨xs, H2, I2, ru, W2, vs, h2, le, r2, rv, q2⟩ => ?_)
        exact fin I2 ru r2 le rv q2
    have fnAt : ∀ {a : Addr} {ci : Clo} {s2 : Shared} {H2 : Hp} {W2 : Wd} {h2 : Hea}, Inv X pins σ H2 s2 → RS G X t W2 env h2 σ H2 → W2.fn a = some ci → PySem.W.FnAt a s2.heap := fun {a ci s2 H2 W2 h2} I2 r2 e => by
      obtain ⟨pm, ctv, obj⟩ := (I2.hok a _ (r2.fn a ci e).2.1).1
      exact ⟨_, _, _, _, obj⟩
    cases v with
    | clo l tk cap =>
      cases r1 with
      | @clo _ _ _ a ci hfn hl htk rc =>
        obtain rfl : u = Value.ref a := ru1
        refine go (.ref a) (fun vs h1 => O.lam l cap vs h1 Qp Xp) (fun s2 => PySem.W.FnAt a s2.heap) w (fnAt I1 rs hfn) (fun {us s2 xs H2 vs h2 W2} I2 ru r2 le rv q2 => ⟨fnAt I2 r2 (le.fn a ci hfn), ?_⟩) (fun e rest he hpl hw => PySem.W.callWith_F (first := []) (fnAt I1 rs hfn) hw he hpl) fun hw => PySem.W.callWith_F0 (first := []) (fnAt I1 rs hfn) hw
        rw [hO2] at q2
        have LR := hlams l ⟨cap, vs, h2, Qp, Xp, q2⟩
        refine back_ep (codeAny_mono (LR.run X.A X.stack s2 (trk W2 s2.heap H2) us (W2.told s2.heap H2) h2 ci a cap vs xs Qp Xp A.room ?_ ?_ (le.fn a ci hfn) hl ?_ ?_ ru q2) fun res s3 c => ?_)
        · have z := Inv.envT I2 r2
          rw [A.K] at z
          exact z
        · exact r2.toCall I2
        · exact RCs.mono (le.trans (told_le r2 I2)) rc
        · exact rv.mono (told_le r2 I2)
        · exact callBack A.fm I2 A.tk r2 (cq.mono le) (cx.mono le) c
    | fn f =>
      cases r1 with
      | fn =>
        obtain rfl : u = Value.ref (G.adr f) := ru1
        have w : wpEs O args env h (fun vs h1 => O.call f vs h1 Qp Xp) Xp := w
        have kp : PySem.W.keepIn X.K (.ref (G.adr f)) = true := by rw [A.K]; exact hkeep f
        refine go (.ref (G.adr f)) (fun vs h1 => O.call f vs h1 Qp Xp) (fun s2 => X.K.In s2.heap) w I1.kIn (fun {us s2 xs H2 vs h2 W2} I2 ru r2 le rv q2 => ⟨I2.kIn, ?_⟩) (fun e rest he hpl hw => PySem.W.callWith_K (first := []) (h₀ := X.base) I.ok.mod.kin kp hw he hpl) fun hw => PySem.W.callWith_K0 (first := []) I1.kIn kp hw
        rw [hO] at q2
        obtain ⟨nm, ps, D⟩ := hdefs f ⟨vs, h2, Qp, Xp, q2⟩
        exact run_pos D A.K A.room A.tk A.fm I2 r2 rv ru (cq.mono le) (cx.mono le) q2
    | _ => exact w.elim
end
end PC

set_option Elab.async false
set_option maxRecDepth 100000
set_option maxHeartbeats 2000000
/-! PC22: a def runs. -/
namespace PC
open PySem PySem.Spec PyProof.Rows
open L2 (V HO Hp upd upd_same upd_ne Rd SqL SqT Cx Inv TE TT TA TS TG TGs TI VK PE PT PW PA PK PS PSs PG PGs PI PTs It R2 OpR CallR Un UB HOk ObjOk Env0 FnOk Sp XK Room frs CR EP Takes Ends FpOk BlkOk cloFrom FnScope)
open LamX (Tabs TabS TabB ExtN CodeO)
section
variable {G : Gs} {P : Prog} {U : Uni} {d i : Nat} {X : Cx} {t : Fm} {Wx : L2.WX} {W : Wd} {env : Env} {h : Hea} {σ : L2.St} {H : Hp}
/-- all that is known is known of objects -/
abbrev RF (G : Gs) (B : Heap) (t : Fm) (W : Wd) (h : Hea) (H : Hp) : Prop := RH G B (fun _ _ => False) (TK t) W h H
theorem RS.noCells (r : RS G X t W env h σ H) (hl : t.lm = false) (hb : t.bk = false) : RF G X.base t W h H :=
  ⟨r.fz, r.live, r.inj, r.dis, r.new, r.tabs, r.fn, fun c v e => ⟨(r.cv c v e).1, (r.cv c v e).2.imp (fun z => z.1.elim (fun z => by rw [hl] at z; cases z.1) fun z => by rw [hb] at z; cases z.1) id⟩, r.tk, r.hd⟩
open scoped Classical in
/-- what is known of own cells is dropped -/
noncomputable def dropW (t : Fm) (W : Wd) : Wd := { W with
  fn := fun a => match W.fn a with
    | some ci => if ci.tok = t.t ∧ t.W0.fn a ≠ some ci then none else some ci
    | none => none
  cv := fun c => match W.co c with
    | some _ => W.cv c
    | none => none }
theorem dropW_fn {a : Addr} {ci : Clo} (e : (dropW t W).fn a = some ci) : W.fn a = some ci ∧ (ci.tok = t.t → t.W0.fn a = some ci) := by
  unfold dropW at e
  simp only at e
  split at e
  · split at e
    · cases e
    · rename_i q n
      cases e
      exact ⟨q, fun z => Classical.byContradiction fun k => n ⟨z, k⟩⟩
  · cases e
theorem dropW_of {a : Addr} {ci : Clo} (e : W.fn a = some ci) (h : ci.tok ≠ t.t ∨ t.W0.fn a = some ci) : (dropW t W).fn a = some ci := by
  unfold dropW
  simp only [e]
  rw [if_neg]
  rintro ⟨z, k⟩
  exact h.elim (fun h => h z) k
theorem dropW_cv {c : Addr} {ob : Obj} (e : W.co c = some ob) : (dropW t W).cv c = W.cv c := by simp [dropW, e]
theorem dropW_of_cv {c : Addr} {v : V} (e : (dropW t W).cv c = some v) : W.cv c = some v ∧ ∃ ob, W.co c = some ob := by
  unfold dropW at e
  simp only at e
  split at e
  · rename_i ob k; exact ⟨e, ob, k⟩
  · cases e
/-- lambdas of this frame are dropped -/
theorem RS.drop (r : RS G X t W env h σ H) (hb : t.bk = false) (hf : ∀ y c, X.env.cells.lookup y = some c → t.ow c) (h0 : ∀ a ci, t.W0.fn a = some ci → ∀ c ∈ ci.cs, ∃ v ob, t.W0.cv c = some v ∧ t.W0.co c = some ob) (h1 : ∀ c v, t.W0.cv c = some v → ∃ ob, t.W0.co c = some ob) :
    Wlk t.t W (dropW t W) ∧ Wle t.W0 (dropW t W) ∧ RF G X.base t (dropW t W) (killH t.t h) H := by
  have cells : ∀ a ci, W.fn a = some ci → (ci.tok ≠ t.t ∨ t.W0.fn a = some ci) → ∀ c ∈ ci.cs, ∃ v ob, W.cv c = some v ∧ W.co c = some ob := fun a ci e k c hc => by
    rcases k with k | k
    · obtain ⟨v, hv⟩ := (r.fn a ci e).2.2.2 c hc
      rcases (r.cv c v hv).2 with ⟨ca, _⟩ | ⟨ob, u, z, _⟩
      · rcases ca with ⟨_, y, i, e1, _⟩ | ⟨z, _⟩
        · exact ((r.tk a ci e).1 k c hc (hf y c e1)).elim
        · rw [hb] at z; cases z
      · exact ⟨v, ob, hv, z⟩
    · obtain ⟨v, ob, a1, a2⟩ := h0 a ci k c hc
      exact ⟨v, ob, r.le0.cv c v a1, r.le0.co c v ob a1 a2⟩
  have lk : Wlk t.t W (dropW t W) := ⟨fun _ _ e => e, fun _ _ e => e, fun a o e n => ⟨dropW_of e (.inl n), fun c v hc hv => by
    obtain ⟨_, ob, _, z⟩ := cells a o e (.inl n) c hc
    rw [dropW_cv z]; exact hv⟩, fun _ _ e => e⟩
  have le0 : Wle t.W0 (dropW t W) := ⟨r.le0.rho, r.le0.fz, fun a o e => dropW_of (r.le0.fn a o e) (.inr e), fun c v e => by
    obtain ⟨ob, z⟩ := h1 c v e
    rw [dropW_cv (r.le0.co c v ob e z)]; exact r.le0.cv c v e, r.le0.co, r.le0.hid⟩
  refine ⟨lk, le0, ⟨r.fz, fun n o e l => ?_, fun n m o o' a g1 l1 g2 l2 => r.inj n m o o' a (killH_get g1 l1).1 l1 (killH_get g2 l2).1 l2, fun n o a e l => r.dis n o a (killH_get e l).1 l, fun n hn => r.new n (by simpa [killH] using hn), r.tabs, fun a ci e => ?_, fun c v e => ?_, fun a ci e => r.tk a ci (dropW_fn e).1, fun a vs e => ⟨(r.hd a vs e).1, (r.hd a vs e).2.1, fun n o g l => (r.hd a vs e).2.2 n o (killH_get g l).1 l⟩⟩⟩
  · obtain ⟨e1, b⟩ := killH_get e l
    obtain ⟨a, u, h1, h2, h3⟩ := r.live n o e1 l
    exact ⟨a, u, h1, h2, h3.lk lk b⟩
  · obtain ⟨e1, e2⟩ := dropW_fn e
    obtain ⟨h1, h2, h3, h4⟩ := r.fn a ci e1
    refine ⟨h1, h2, h3, fun c hc => ?_⟩
    obtain ⟨v, ob, a1, a2⟩ := cells a ci e1 (Classical.byCases (p := ci.tok = t.t) (fun z => .inr (e2 z)) .inl) c hc
    exact ⟨v, by rw [dropW_cv a2]; exact a1⟩
  · obtain ⟨e1, ob, e2⟩ := dropW_of_cv e
    refine ⟨(r.cv c v e1).1, .inr ?_⟩
    rcases (r.cv c v e1).2 with ⟨_, z⟩ | z
    · rw [e2] at z; cases z
    · exact z
/-- such a relation, behind the frame -/
theorem RF.rl {B : Heap} (r : RF G B t W h H) : RL G B W h H := ⟨r.fz, r.live, r.inj, r.dis, r.new, r.tabs, r.fn, r.cv, fun _ _ _ => trivial, r.hd⟩
/-- a body that goes straight to its last return: the slots at the end are known -/
def SPR (X : Cx) (pins : List (Addr × Obj)) (R : V → L2.St → Hp → Prop) (fl : Flow) (s' : Shared) : Prop := match fl with
  | .ret u => ∃ x σ' H', Inv X pins σ' H' s' ∧ L2.RelV x u ∧ R x σ' H'
  | _ => False
structure PSR (X : Cx) (st : List Stmt) (t : (V → L2.St → Hp → Prop) → L2.St → Hp → Prop) : Prop where
  run : ∀ (pins : List (Addr × Obj)) (s : Shared) (σ : L2.St) (H : Hp) (R : V → L2.St → Hp → Prop), Inv X pins σ H s → t R σ H → wpAny (model X.prog X.w) X.A (execs st X.env) (SPR X pins R) X.xe s
def LSR (G : Gs) (X : Cx) (t : Fm) (Wx : L2.WX) (w : Env → Hea → KQ → (Exc → Env → Hea → Prop) → Prop) : (V → L2.St → Hp → Prop) → L2.St → Hp → Prop := fun R σ H => ∃ W env h Qp Xp, RS G X t W env h σ H ∧ w env h Qp Xp ∧
  (∀ W' env' h' σ' H' v x, Wlq t W W' → RS G X t W' env' h' σ' H' → RV G.adr G.K W' v x → Qp v h' → R x σ' H') ∧ ∀ W' env' h' σ' H' ex cls dd, Wlq t W W' → RS G X t W' env' h' σ' H' → RX G W' ex cls dd H' → Xp ex env' h' → Wx cls dd σ' H'
theorem lsr_last {O : Orc} {a : CE} {e : Expr} {pos : Pos} (he : PE X e (LE G X t Wx (wpE O a))) : PSR X [.Return (some e) pos] (LSR G X t Wx (wpR O (.cons (.ret a) .nil))) := by
  refine ⟨fun pins s σ H R I q => ?_⟩
  obtain ⟨W, env, h, Qp, Xp, rs, w, k, kx⟩ := q
  simp only [wpR, lastE] at w
  refine wpAny_execs_cons (wpAny_Return_some (L2.thn (he.run pins s σ H (fun x H1 => R x σ H1) I ⟨W, env, h, Qp, _, rs, w, fun W' v h' x H' le r rv q => k W' env h' σ H' v x le.lq r rv q, fun W' ex h' cls dd H' le r rx q => kx W' env h' σ H' ex cls dd le.lq r rx q⟩) fun u s1 ⟨x, H1, I1, r1, q1⟩ => ?_))
  exact ⟨x, σ, H1, I1, r1, q1⟩
theorem lsr_cons {O : Orc} {a : CS} {b : CSs} {st : Stmt} {rest : List Stmt} (hl : lastE a b = none) (h1 : PS X st (LS G X t Wx (wpS O a))) (h2 : PSR X rest (LSR G X t Wx (wpR O b))) : PSR X (st :: rest) (LSR G X t Wx (wpR O (.cons a b))) := by
  refine ⟨fun pins s σ H R I q => ?_⟩
  obtain ⟨W, env, h, Qp, Xp, rs, w, k, kx⟩ := q
  unfold wpR at w
  rw [hl] at w
  refine wpAny_execs_cons (L2.thn (h1.run pins s σ H { nx := fun σ' H' => LSR G X t Wx (wpR O b) R σ' H', rt := fun _ _ => False } I ⟨W, env, h, _, rs, w, fun W' e h' σ' H' l r q => ⟨W', e, h', Qp, Xp, r, q, fun W2 env' h' σ' H' v x l2 => k W2 env' h' σ' H' v x (l.trans l2), fun W2 env' h' σ' H' ex cls dd l2 => kx W2 env' h' σ' H' ex cls dd (l.trans l2)⟩, fun _ _ _ _ _ _ _ _ _ _ q => q.elim, fun W' e h' σ' H' ex cls dd l r rx q => kx W' e h' σ' H' ex cls dd l r rx q, fun _ _ _ _ _ _ _ q => q.elim, fun _ _ _ _ _ _ _ q => q.elim⟩) fun f s1 q => ?_)
  cases f with
  | next =>
    obtain ⟨σ', H', I', q⟩ := q
    exact h2.run pins s1 σ' H' R I' q
  | ret u => obtain ⟨_, _, _, _, _, q⟩ := q; exact False.elim q
  | brk => obtain ⟨_, _, _, q⟩ := q; exact False.elim q
  | cont => obtain ⟨_, _, _, q⟩ := q; exact False.elim q
theorem lsr_nil {O : Orc} {st : List Stmt} : PSR X st (LSR G X t Wx (wpR O .nil)) := ⟨fun pins s σ H R I q => by
  obtain ⟨W, env, h, Qp, Xp, rs, w, k, kx⟩ := q
  unfold wpR at w
  exact w.elim⟩
theorem def_run {D : Def} {name qual : Str} {params : Arguments} {body : List Stmt} {scope : Scope} {dV kV doc pm cdv ct oc : Value} {an od : Option Addr} {osl : Array (Option Value)} {N ps : List Str} {f : Addr} (lk : G.K.lookup f = some ⟨oc, od, .func (PySem.W.fnOf name qual params body scope dV kV doc pm an cdv ct), osl⟩) (hcd : PySem.W.codeIn G.K cdv qual = true)
    (S : FnScope N ps scope) (hP : P.defs[i]? = some D) (hn : D.n = ps.length) (hsl : D.slots = N.length) (hstr : D.str = false)
    (hbody : ∀ X t Wx, Amb G U d X t Wx → X.N = N → X.env = envOfC qual scope X.s_0.heap.objs.size f cdv → X.fn = (fun _ => true) → X.stack = X.env :: X.outer → X.env.frame = some X.env.locals → t.lm = D.lm → t.st = D.lm → t.bk = false → (∀ y c, X.env.cells.lookup y = some c → t.W0.cv c = none) →
      PSs X body (LS G X t Wx (wpSs ((orc P d).at D.lm) D.body))) :
    FnOk U.pr U.w G.K U.mg U.B (L2.CX U.pr U.w) (d + 1 + 2) f (PySem.W.fnOf name qual params body scope dV kV doc pm an cdv ct) ps (spC G P U.B (d + 1) i) := by
  have len : ∀ vs H Q E, spC G P U.B (d + 1) i vs H Q E → vs.length = ps.length := fun xs H Q E ⟨W, h, vs, Qp, Xp, rl, rv, w, _⟩ => by
    simp only [orc, hP] at w
    rw [← rv.length, w.1, hn]
  refine ⟨len, fun A outer s H args us xs Q E hr e0 hb ru sp => ?_⟩
  have lxs := len _ _ _ _ sp
  obtain ⟨W, h, vs, Qp, Xp, rl, rv, w, hq, hx⟩ := sp
  simp only [orc, hP] at w
  obtain ⟨w1, w⟩ := w
  rw [hstr] at w
  dsimp only at w
  have KX : G.K.In s.heap := e0.mod.kin.keeps fun b o e => (e0.bs b o e).1
  have lim : s.heap.NoLimit := e0.mod.nolimit.keeps fun b o e => (e0.bs b o e).1
  refine codeAny_call_function hr.depth (KX _ _ lk) rfl S.co S.gen rfl (PySem.W.codeRec_of KX hcd) (hb _ _ _ _ ?_)
  refine wpAny_newFunctionEnv_cells S.kind (fun ⟨n, v⟩ hy => (S.par n (List.of_mem_zip hy).1).imp id fun q => ⟨q, PySem.W.cellsFrom_some _ _ _ (.inl q)⟩) fun en he s1 x => ?_
  subst he
  refine ⟨lim.keeps x.toInCall.keep, codeAny_func ?_⟩
  obtain ⟨X, hX⟩ : ∃ X : Cx, X = L2.cxOf (L2.CX U.pr U.w) U.pr U.w G.K U.mg U.B N qual scope f cdv A outer s H E := ⟨_, rfl⟩
  have I1 : Inv X [] (L2.start N xs) H s1 := by rw [hX]; exact L2.inv_start S hr.hd e0 lxs ru x
  obtain ⟨t, ht⟩ : ∃ t : Fm, t = ⟨d, W, W, D.lm, D.lm, false, Own X⟩ := ⟨_, rfl⟩
  have hfn : ∀ y, X.fn y = true := fun y => by rw [hX]; rfl
  have hs0 : X.s_0 = s := by rw [hX]; rfl
  have new : ∀ y c, X.env.cells.lookup y = some c → s.heap.objs.size ≤ c := fun y c e => by
    have z := I1.ok.cab y c (hfn y) e
    rw [hs0] at z; exact z
  have known : ∀ {c v}, W.cv c = some v → ∃ ob u, W.co c = some ob ∧ H c = some (CellX c ob) ∧ s.heap.get? c = some ob ∧ ob.data = .cell (some u) := fun {c v} e => by
    rcases (rl.cv c v e).2 with ⟨z, _⟩ | ⟨ob, u, h0, h1, h2, _⟩
    · exact z.elim
    · exact ⟨ob, u, h0, h1, (e0.hok c _ h1).1, h2⟩
  have nw : ∀ y c, X.env.cells.lookup y = some c → W.cv c = none := fun y c e => by
    cases q : W.cv c with
    | none => rfl
    | some v =>
      obtain ⟨ob, _, _, _, g, _⟩ := known q
      exact absurd (Nat.lt_of_lt_of_le (Heap.lt_size g) (new y c e)) (Nat.lt_irrefl _)
  have XB : X.base = U.B := by rw [hX]; rfl
  have hH0 : X.H_0 = H := by rw [hX]; rfl
  have lvs : vs.length = ps.length := by rw [w1, hn]
  have hpl : ps.length ≤ N.length := by have := congrArg List.length S.pre; rw [List.length_take] at this; omega
  have RS0 : RS G X t W (startE D.slots vs) h (L2.start N xs) H := by
    rw [ht]
    refine ⟨⟨rl.fz, rl.live, rl.inj, rl.dis, rl.new, rl.tabs, rl.fn, fun c v e => ⟨by rw [XB]; exact (rl.cv c v e).1, (rl.cv c v e).2.imp (fun z => z.1.elim) id⟩, fun a ci e => ⟨fun _ c hc ⟨y, _, hl⟩ => ?_, .inl e⟩, rl.hd⟩, ?_, fun j v e => ?_, .refl _, .refl _⟩
    · obtain ⟨v, hv⟩ := (rl.fn a ci e).2.2.2 c hc
      rw [nw y c hl] at hv; cases hv
    · rw [startE_len (by omega)]
      unfold L2.start
      rw [List.length_append, List.length_map, List.length_replicate, hsl]; omega
    · obtain ⟨x, hx, r⟩ := rv.get (startE_get e)
      have hj : j < xs.length := (List.getElem?_eq_some_iff.mp hx).1
      refine ⟨x, ?_, r⟩
      unfold L2.start
      rw [List.getElem?_append_left (by rw [List.length_map]; exact hj), List.getElem?_map, hx]
      rfl
  have beg : Began X t W H [] := by
    refine ⟨by rw [ht, off_nil], by rw [hH0, offH_nil], by rw [hX]; rfl, by rw [ht], fun c hc => (by cases hc), fun y c e => .inr (by rw [hs0]; exact new y c e)⟩
  have hn0 : ∀ m, h.length ≤ m → W.rho m = none := rl.new
  have hb0 : ∀ (n : Nat) (o : HObj), h[n]? = some o → o.bnd h.length = true := fun n o e => rl.bnd e
  have tk : Takes X (fun cls d' σ H' => ∃ W' env' h' ex, RS G X t W' env' h' σ H' ∧ RX G W' ex cls d' H' ∧ endsX h Xp ex h') := fun u s' xx => by
    have z := beg.leave (E := E) (E₁ := fun e' s'' => L2.CX U.pr U.w outer H s E e' s'') (by rw [hX]; rfl) (by rw [hX]; rfl) hn0 hb0 (Xp := Xp) (fun c dd H' q => hx c dd H' (by rw [XB] at q; exact q)) xx
    rw [hX] at z ⊢
    exact z
  have amb : Amb G U d X t (fun cls d' σ H' => ∃ W' env' h' ex, RS G X t W' env' h' σ H' ∧ RX G W' ex cls d' H' ∧ endsX h Xp ex h') := by
    refine ⟨by rw [hX]; rfl, by rw [hX]; rfl, by rw [hX]; rfl, XB, by rw [hX]; rfl, tk, by rw [hX]; exact hr.deeper _, ?_, by rw [hX]; rfl, by rw [hX]; exact S.nd, by rw [ht], ?_, fun y c e => ⟨fun hm => ?_, ?_⟩⟩
    · rw [hX]
      exact L2.passes_of (K := fun e s'' => L2.CX U.pr U.w outer H s E e s'') (E₁ := fun e' s'' => L2.CX U.pr U.w outer H s E e' s'') rfl
    · rw [ht]
      exact ⟨.refl _, fun y c _ e => nw y c e, fun a ci e => (rl.fn a ci e).2.2.2, fun c z => z, fun c z => .inl z⟩
    · obtain ⟨_, o, ho, _⟩ := I1.ok.funs.mem hm
      rw [hs0] at ho
      exact absurd (Nat.lt_of_lt_of_le (Heap.lt_size ho) (new y c e)) (Nat.lt_irrefl _)
    · rw [XB]
      exact Heap.get?_none_of_le (Nat.le_trans e0.bsz (new y c e))
  have body_ := hbody X t _ amb (by rw [hX]; rfl) (by rw [hX]; rfl) (by rw [hX]; rfl) (by rw [hX]; rfl) (by rw [hX]; rfl) (by rw [ht]) (by rw [ht]) (by rw [ht]) (fun y c e => by rw [ht]; exact nw y c e)
  have W0 : t.W0 = W := by rw [ht]
  have tt : t.t = d := by rw [ht]
  have run := body_.run [] s1 _ H { nx := fun σ' H' => ∃ W' env' h', RS G X t W' env' h' σ' H' ∧ ends h Qp .non h', rt := fun x H' => ∃ W' h' v, RF G X.base t W' h' H' ∧ Wle t.W0 W' ∧ RV G.adr G.K W' v x ∧ ends h Qp v h' } I1
    ⟨W, _, h, _, RS0, w, fun W' env h' σ H l r q => ⟨W', env, h', r, q⟩, fun W' env h' σ H v x l r rv q => ?_, fun W' env h' σ H ex cls dd l r rx q => ⟨W', env, h', ex, r, rx, q⟩, fun _ _ _ _ _ _ _ q => q.elim, fun _ _ _ _ _ _ _ q => q.elim⟩
  · subst hX
    refine wpAny_mono run (fun fl s' hs => ?_) fun e s' hs => hs
    cases fl with
    | ret u =>
      obtain ⟨x, σ', H', J, ru', W', h', v, rf, le, rv', h2, tr, q⟩ := hs
      rw [W0] at le
      obtain ⟨W2, l2, nf2, rl2, up⟩ := trim_world rf.rl le (fun a ci e => by have z := (rf.tk a ci e).2; rw [W0] at z; exact z) hn0 hb0 tr
      exact ⟨x, H', J.os, J.bare, J.base, J.hok, ru', hq x H' ⟨W2, v, h2, l2, nf2, rl2, up rv', q⟩⟩
    | next =>
      obtain ⟨σ', H', J, W', env', h', r, q⟩ := hs
      exact beg.ret (Q := Q) (x := V.non) (v := .non) J r hn0 hb0 .non rfl q hq
    | brk =>
      obtain ⟨_, _, _, q⟩ := hs
      exact False.elim q
    | cont =>
      obtain ⟨_, _, _, q⟩ := hs
      exact False.elim q
  · cases hl : D.lm with
    | false =>
      have q : ends h Qp v h' := by rw [hl] at q; exact q
      exact ⟨W', h', v, r.noCells (by rw [ht]; exact hl) (by rw [ht]), r.le0, rv, q⟩
    | true =>
      have q : v.hasTok d = false ∧ ends h Qp v (killH d h') := by rw [hl] at q; exact q
      have know : ∀ c v, W.cv c = some v → ∃ ob, W.co c = some ob := fun c v e => by
        obtain ⟨ob, _, z, _⟩ := known e
        exact ⟨ob, z⟩
      obtain ⟨lk, le0, rf⟩ := r.drop (by rw [ht]) (fun y c e => by rw [ht]; exact ⟨y, hfn y, e⟩) (by
        rw [W0]
        intro a ci e c hc
        obtain ⟨v, hv⟩ := (rl.fn a ci e).2.2.2 c hc
        obtain ⟨ob, z⟩ := know c v hv
        exact ⟨v, ob, hv, z⟩) (by rw [W0]; exact know)
      rw [tt] at lk rf
      exact ⟨_, _, v, rf, le0, rv.lk lk q.1, q.2⟩
theorem def_run_str {D : Def} {name qual : Str} {params : Arguments} {body : List Stmt} {scope : Scope} {dV kV doc pm cdv ct oc : Value} {an od : Option Addr} {osl : Array (Option Value)} {N ps : List Str} {f : Addr} (lk : G.K.lookup f = some ⟨oc, od, .func (PySem.W.fnOf name qual params body scope dV kV doc pm an cdv ct), osl⟩) (hcd : PySem.W.codeIn G.K cdv qual = true)
    (S : FnScope N ps scope) (hP : P.defs[i]? = some D) (hn : D.n = ps.length) (hsl : D.slots = N.length) (hstr : D.str = true)
    (hbody : ∀ X t Wx, Amb G U d X t Wx → X.N = N → X.env = envOfC qual scope X.s_0.heap.objs.size f cdv → X.fn = (fun _ => true) → X.stack = X.env :: X.outer → X.env.frame = some X.env.locals → t.lm = D.lm → t.st = D.lm → t.bk = false → (∀ y c, X.env.cells.lookup y = some c → t.W0.cv c = none) →
      PSR X body (LSR G X t Wx (wpR ((orc P d).at D.lm) D.body))) :
    FnOk U.pr U.w G.K U.mg U.B (L2.CX U.pr U.w) (d + 1 + 2) f (PySem.W.fnOf name qual params body scope dV kV doc pm an cdv ct) ps (spC G P U.B (d + 1) i) := by
  have len : ∀ vs H Q E, spC G P U.B (d + 1) i vs H Q E → vs.length = ps.length := fun xs H Q E ⟨W, h, vs, Qp, Xp, rl, rv, w, _⟩ => by
    simp only [orc, hP] at w
    rw [← rv.length, w.1, hn]
  refine ⟨len, fun A outer s H args us xs Q E hr e0 hb ru sp => ?_⟩
  have lxs := len _ _ _ _ sp
  obtain ⟨W, h, vs, Qp, Xp, rl, rv, w, hq, hx⟩ := sp
  simp only [orc, hP] at w
  obtain ⟨w1, w⟩ := w
  rw [hstr] at w
  dsimp only at w
  have KX : G.K.In s.heap := e0.mod.kin.keeps fun b o e => (e0.bs b o e).1
  have lim : s.heap.NoLimit := e0.mod.nolimit.keeps fun b o e => (e0.bs b o e).1
  refine codeAny_call_function hr.depth (KX _ _ lk) rfl S.co S.gen rfl (PySem.W.codeRec_of KX hcd) (hb _ _ _ _ ?_)
  refine wpAny_newFunctionEnv_cells S.kind (fun ⟨n, v⟩ hy => (S.par n (List.of_mem_zip hy).1).imp id fun q => ⟨q, PySem.W.cellsFrom_some _ _ _ (.inl q)⟩) fun en he s1 x => ?_
  subst he
  refine ⟨lim.keeps x.toInCall.keep, codeAny_func ?_⟩
  obtain ⟨X, hX⟩ : ∃ X : Cx, X = L2.cxOf (L2.CX U.pr U.w) U.pr U.w G.K U.mg U.B N qual scope f cdv A outer s H E := ⟨_, rfl⟩
  have I1 : Inv X [] (L2.start N xs) H s1 := by rw [hX]; exact L2.inv_start S hr.hd e0 lxs ru x
  obtain ⟨t, ht⟩ : ∃ t : Fm, t = ⟨d, W, W, D.lm, D.lm, false, Own X⟩ := ⟨_, rfl⟩
  have hfn : ∀ y, X.fn y = true := fun y => by rw [hX]; rfl
  have hs0 : X.s_0 = s := by rw [hX]; rfl
  have new : ∀ y c, X.env.cells.lookup y = some c → s.heap.objs.size ≤ c := fun y c e => by
    have z := I1.ok.cab y c (hfn y) e
    rw [hs0] at z; exact z
  have known : ∀ {c v}, W.cv c = some v → ∃ ob u, W.co c = some ob ∧ H c = some (CellX c ob) ∧ s.heap.get? c = some ob ∧ ob.data = .cell (some u) := fun {c v} e => by
    rcases (rl.cv c v e).2 with ⟨z, _⟩ | ⟨ob, u, h0, h1, h2, _⟩
    · exact z.elim
    · exact ⟨ob, u, h0, h1, (e0.hok c _ h1).1, h2⟩
  have nw : ∀ y c, X.env.cells.lookup y = some c → W.cv c = none := fun y c e => by
    cases q : W.cv c with
    | none => rfl
    | some v =>
      obtain ⟨ob, _, _, _, g, _⟩ := known q
      exact absurd (Nat.lt_of_lt_of_le (Heap.lt_size g) (new y c e)) (Nat.lt_irrefl _)
  have XB : X.base = U.B := by rw [hX]; rfl
  have hH0 : X.H_0 = H := by rw [hX]; rfl
  have lvs : vs.length = ps.length := by rw [w1, hn]
  have hpl : ps.length ≤ N.length := by have := congrArg List.length S.pre; rw [List.length_take] at this; omega
  have RS0 : RS G X t W (startE D.slots vs) h (L2.start N xs) H := by
    rw [ht]
    refine ⟨⟨rl.fz, rl.live, rl.inj, rl.dis, rl.new, rl.tabs, rl.fn, fun c v e => ⟨by rw [XB]; exact (rl.cv c v e).1, (rl.cv c v e).2.imp (fun z => z.1.elim) id⟩, fun a ci e => ⟨fun _ c hc ⟨y, _, hl⟩ => ?_, .inl e⟩, rl.hd⟩, ?_, fun j v e => ?_, .refl _, .refl _⟩
    · obtain ⟨v, hv⟩ := (rl.fn a ci e).2.2.2 c hc
      rw [nw y c hl] at hv; cases hv
    · rw [startE_len (by omega)]
      unfold L2.start
      rw [List.length_append, List.length_map, List.length_replicate, hsl]; omega
    · obtain ⟨x, hx, r⟩ := rv.get (startE_get e)
      have hj : j < xs.length := (List.getElem?_eq_some_iff.mp hx).1
      refine ⟨x, ?_, r⟩
      unfold L2.start
      rw [List.getElem?_append_left (by rw [List.length_map]; exact hj), List.getElem?_map, hx]
      rfl
  have beg : Began X t W H [] := by
    refine ⟨by rw [ht, off_nil], by rw [hH0, offH_nil], by rw [hX]; rfl, by rw [ht], fun c hc => (by cases hc), fun y c e => .inr (by rw [hs0]; exact new y c e)⟩
  have hn0 : ∀ m, h.length ≤ m → W.rho m = none := rl.new
  have hb0 : ∀ (n : Nat) (o : HObj), h[n]? = some o → o.bnd h.length = true := fun n o e => rl.bnd e
  have tk : Takes X (fun cls d' σ H' => ∃ W' env' h' ex, RS G X t W' env' h' σ H' ∧ RX G W' ex cls d' H' ∧ endsX h Xp ex h') := fun u s' xx => by
    have z := beg.leave (E := E) (E₁ := fun e' s'' => L2.CX U.pr U.w outer H s E e' s'') (by rw [hX]; rfl) (by rw [hX]; rfl) hn0 hb0 (Xp := Xp) (fun c dd H' q => hx c dd H' (by rw [XB] at q; exact q)) xx
    rw [hX] at z ⊢
    exact z
  have amb : Amb G U d X t (fun cls d' σ H' => ∃ W' env' h' ex, RS G X t W' env' h' σ H' ∧ RX G W' ex cls d' H' ∧ endsX h Xp ex h') := by
    refine ⟨by rw [hX]; rfl, by rw [hX]; rfl, by rw [hX]; rfl, XB, by rw [hX]; rfl, tk, by rw [hX]; exact hr.deeper _, ?_, by rw [hX]; rfl, by rw [hX]; exact S.nd, by rw [ht], ?_, fun y c e => ⟨fun hm => ?_, ?_⟩⟩
    · rw [hX]
      exact L2.passes_of (K := fun e s'' => L2.CX U.pr U.w outer H s E e s'') (E₁ := fun e' s'' => L2.CX U.pr U.w outer H s E e' s'') rfl
    · rw [ht]
      exact ⟨.refl _, fun y c _ e => nw y c e, fun a ci e => (rl.fn a ci e).2.2.2, fun c z => z, fun c z => .inl z⟩
    · obtain ⟨_, o, ho, _⟩ := I1.ok.funs.mem hm
      rw [hs0] at ho
      exact absurd (Nat.lt_of_lt_of_le (Heap.lt_size ho) (new y c e)) (Nat.lt_irrefl _)
    · rw [XB]
      exact Heap.get?_none_of_le (Nat.le_trans e0.bsz (new y c e))
  have body_ := hbody X t _ amb (by rw [hX]; rfl) (by rw [hX]; rfl) (by rw [hX]; rfl) (by rw [hX]; rfl) (by rw [hX]; rfl) (by rw [ht]) (by rw [ht]) (by rw [ht]) (fun y c e => by rw [ht]; exact nw y c e)
  have run := body_.run [] s1 _ H (fun x σ' H' => ∃ W' env' h' v, RS G X t W' env' h' σ' H' ∧ RV G.adr G.K W' v x ∧ ends h Qp v h') I1
    ⟨W, _, h, _, _, RS0, w, fun W' env' h' σ' H' v x l r rv q => ⟨W', env', h', v, r, rv, q⟩, fun W' env' h' σ' H' ex cls dd l r rx q => ⟨W', env', h', ex, r, rx, q⟩⟩
  subst hX
  refine wpAny_mono run (fun fl s' hs => ?_) fun e s' hs => hs
  cases fl with
  | ret u =>
    obtain ⟨x, σ', H', J, ru', W', env', h', v, r, rv', q⟩ := hs
    exact beg.ret (Q := Q) (x := x) (v := v) J r hn0 hb0 rv' ru' q hq
  | next => exact hs.elim
  | brk => exact hs.elim
  | cont => exact hs.elim
end
end PC

set_option Elab.async false
set_option maxRecDepth 100000
set_option maxHeartbeats 2000000
/-! PC23: errors: raised, caught. -/
namespace PC
open PySem PySem.Spec PyProof.Rows
open L2 (V HO Hp upd upd_same upd_ne Rd SqL SqT Cx Inv TE TT TA TS TG TGs TI VK PE PT PW PA PK PS PSs PG PGs PI PTs It R2 OpR CallR Un UB HOk ObjOk Env0 FnOk Sp XK Room frs CR EP Takes Ends FpOk BlkOk cloFrom FnScope SP)

/-! ### try with several clauses, each with or without a name -/
abbrev Cl := Value × Option Nat × (Addr → Value → Option Addr → TS)
/-- the wishes of a suite whose name's slot is freed behind it -/
def unset (D : Ends) : Option Nat → Ends
  | none => D
  | some i => { nx := fun σ H => D.nx (σ.set i none) H, rt := D.rt, bk := fun σ H => D.bk (σ.set i none) H, ct := fun σ H => D.ct (σ.set i none) H }
def bound (σ : L2.St) (a : Addr) : Option Nat → L2.St
  | none => σ
  | some i => σ.set i (some (.ref a))
def wCl (K : Frag) (Wout : L2.WX) (D : Ends) : List Cl → L2.WX
  | [] => Wout
  | (c, o, ts) :: r => fun cls d σ H => ∃ b, PySem.W.exmOne K cls c = some b ∧ (b = true → ∀ a, H a = none → (∀ i, o = some i → i < σ.length) → ts a cls d (unset D o) (bound σ a o) H) ∧ (b = false → wCl K Wout D r cls d σ H)
inductive HdsC (X : Cx) : List ExceptHandler → List Cl → Prop
  | nil : HdsC X [] []
  | cons {x : Str} {c : Value} {nm : Option Str} {o : Option Nat} {ts : Addr → Value → Option Addr → TS} {b₀ : Stmt} {suite : List Stmt} {np pos' : Pos} {hds : List ExceptHandler} {l : List Cl} (hc : L2.Names X x c) (hn : match nm, o with
      | none, none => True
      | some n, some i => X.N[i]? = some n ∧ X.env.scope.names.lookup n = some .local
      | _, _ => False)
      (hsu : ∀ (a : Addr) (oe : Obj) (cls : Value) (d : Option Addr) (pn : List (Addr × Obj)), L2.Zc cls d oe → (∃ vs, oe.data = .fields vs) → PSs (X.suite a ((a, oe) :: pn)) (b₀ :: suite) (ts a cls d)) (r : HdsC X hds l) :
      HdsC X (.ExceptHandler (some (.Name x np)) nm (b₀ :: suite) pos' :: hds) ((c, o, ts) :: l)
section
variable {X : Cx} {body : List Stmt} {h₀ : ExceptHandler} {hds : List ExceptHandler} {l : List Cl} {pos : Pos} {tb : L2.WX → TS} {Wout : L2.WX}
theorem ps_tryC (hN : X.N.Nodup) (hs : X.stack = X.env :: X.outer) (hf : X.env.frame = some X.env.locals) (tk : Takes X Wout)
    (hb : ∀ (W : L2.WX) (pn : List (Addr × Obj)) (xe : Value → Shared → Prop), Takes (X.tr pn xe) W → PassesOwn (model X.prog X.w) X.A X.env xe → PSs (X.tr pn xe) body (tb W)) (hh : HdsC X (h₀ :: hds) l) :
    PS X (.Try body (h₀ :: hds) [] [] pos) (fun D σ H => tb (wCl X.K Wout D l) D σ H) := by
  refine ⟨fun pins s σ H D I hq => ?_⟩
  have okX := I.ok
  refine wpAny_Try_except ?_
  refine wpAny_mono ((hb (wCl X.K Wout D l) (X.pn ++ pins) (fun e sa => wpAny (model X.prog X.w) X.A (noteFrame e X.env) (fun _ sb => wpAny (model X.prog X.w) X.A (setFlight e none) (fun _ sc =>
    wpAny (model X.prog X.w) X.A (handleBy e X.env (h₀ :: hds)) (SP X pins D) X.xe sc) X.xe sb) X.xe sa) (fun u s' air => ?_) PassesOwn.looking).run [] s σ H D (I.toTry _) hq) (fun fl sz z => ?_) (fun _ _ z => z)
  · -- an exception has come
    obtain ⟨a, B, sI, pins', σ', H', cls, d, rfl, Jt, nb, up, sky, na, os, ag, w⟩ := air
    have J : Inv X pins σ' H' sI := Jt.ofTry okX
    show wpAny (model X.prog X.w) X.A (noteFrame (.ref a) X.env) _ _ _
    refine L2.Sky.land L2.Zc.steady (by rw [okX.frames, hs]) hf (show L2.Sky B (X.env :: X.outer) a (L2.Zc cls d) X.env.locals s'.heap by rw [← hs]; exact sky) fun hp fly up1 => ?_
    have Jl : Inv X pins σ' H' { s' with heap := hp } := J.landed nb fly.1 (up.trans up1) os ag
    obtain ⟨oe, fv, ge, ze, de⟩ := fly.there
    have away : a ∉ frs (X.env :: X.outer) := fun hm => by
      obtain ⟨_, o', e', nf⟩ := fly.2.2.1.mem hm
      rw [ge] at e'; cases e'
      exact nf _ de
    have aL : a ≠ X.env.locals := fun z => away (List.mem_filterMap.mpr ⟨X.env, List.mem_cons_self, by rw [hf, z]⟩)
    have aF : a ∉ X.fs := fun hm => by
      obtain ⟨en, h1, h2⟩ := List.mem_filterMap.mp hm
      exact away (List.mem_filterMap.mpr ⟨en, List.mem_cons_of_mem _ h1, h2⟩)
    have Js := Jl.suite ge de na aL aF
    have walk : ∀ {hds' : List ExceptHandler} {l' : List Cl}, HdsC X hds' l' → wCl X.K Wout D l' cls d σ' H' → wpAny (model X.prog X.w) X.A (handleBy (.ref a) X.env hds') (SP X pins D) X.xe { s' with heap := hp } := by
      intro hds' l' hk
      induction hk with
      | nil =>
        intro w
        refine wpAny_handleBy_nil ?_
        obtain ⟨_, _, _, o1, v1, T, o2, v2, g1, _, d1, e1, _⟩ := id fly
        unfold PySem.passOn
        refine wpAny_bind (wpAny_field g1 d1 e1 ?_)
        rw [if_neg (show ¬ ((Value.ref T == Value.none) = true) from by simp)]
        have out : wpAny (model X.prog X.w) X.A (setFlight (.ref a) X.env.frame) (fun _ se => wpAny (model X.prog X.w) X.A (throw (.ref a) : Sem Flow) (SP X pins D) X.xe se) X.xe { s' with heap := hp } := by
          rw [hf]
          refine HandSPX.setFlight_upZ fly fun hp2 held up2 => wpAny_throw (tk _ _ ?_)
          exact ⟨a, B, sI, pins, σ', H', cls, d, rfl, J, nb, (up.trans up1).trans up2, .inr (.inr (by rw [hs]; exact held)), na, os, ag, w⟩
        first
          | exact wpAny_bind (wpAny_pure (wpAny_bind out))
          | exact wpAny_bind out
      | @cons x c nm o ts b₀ suite np pos' hds2 l2 hc hn hsu r ih =>
        intro w
        obtain ⟨b, isb, yes, no⟩ := w
        refine wpAny_handleBy_cons (codeAny_handlers_test ?_) (by intro q; cases q)
        have LT : PySem.W.Looks (model X.prog X.w) hp (typeOf (.ref a)) cls := fun A Q E s k q => wpAny_typeOf_ref (k _ _ ge) (by rw [ze.1]; exact q)
        have named : ∀ {Q : Value → Shared → Prop} {E : Value → Shared → Prop}, Q c { s' with heap := hp } → wpAny (model X.prog X.w) (X.A.mark (some (.ref a))) (eval (.Name x np) X.env) Q E { s' with heap := hp } := fun {Q E} q => by
          obtain ⟨hg, hdb, hm | ⟨hm, hv, hnn⟩⟩ := hc
          · exact L2.ld_glob (X := X.suite a ((a, oe) :: (X.pn ++ pins))) Js hg hm q hdb
          · exact L2.ld_blt (X := X.suite a ((a, oe) :: (X.pn ++ pins))) Js hg hm hv q hnn hdb
        refine named ((PySem.W.exm_one (M := model X.prog X.w) Jl.kIn LT isb).here ?_)
        cases b with
        | false => exact ih (no rfl)
        | true =>
          have yes := yes rfl a na (fun i e => by
            cases nm with
            | none => rw [e] at hn; exact hn.elim
            | some n => rw [e] at hn; rw [J.len]; exact (List.getElem?_eq_some_iff.mp hn.1).1)
          cases nm with
          | none =>
            cases o with
            | some i => exact hn.elim
            | none =>
              refine codeAny_handlers_suite ?_
              refine HandSPX.lands_againZ fly fun hp2 fly2 up2 => ?_
              have J2 : Inv X pins σ' H' { s' with heap := hp2 } := J.landed nb fly2.1 ((up.trans up1).trans up2) os ag
              obtain ⟨oe2, fv2, ge2, ze2, de2⟩ := fly2.there
              refine wpAny_mono ((hsu a oe2 cls d (X.pn ++ pins) ze2 ⟨_, de2⟩).run [] _ _ H' _ (J2.suite ge2 de2 na aL aF) yes) (fun fl sz z => ?_) (fun _ _ z => False.elim z)
              cases fl with
              | ret u => obtain ⟨v, σ6, H6, S6, rv, q⟩ := z; exact ⟨v, σ6, H6, S6.unsuite okX, rv, q⟩
              | next => obtain ⟨σ6, H6, S6, q⟩ := z; exact ⟨σ6, H6, S6.unsuite okX, q⟩
              | brk => obtain ⟨σ6, H6, S6, q⟩ := z; exact ⟨σ6, H6, S6.unsuite okX, q⟩
              | cont => obtain ⟨σ6, H6, S6, q⟩ := z; exact ⟨σ6, H6, S6.unsuite okX, q⟩
          | some n =>
            cases o with
            | none => exact hn.elim
            | some i =>
              obtain ⟨hi, hl⟩ := hn
              refine codeAny_handlers_suite_as ?_
              refine HandSPX.lands_againZ fly fun hp2 fly2 up2 => ?_
              have J2 : Inv X pins σ' H' { s' with heap := hp2 } := J.landed nb fly2.1 ((up.trans up1).trans up2) os ag
              obtain ⟨oe2, fv2, ge2, ze2, de2⟩ := fly2.there
              refine L2.store_ok (X := X.suite a ((a, oe2) :: (X.pn ++ pins))) (v := .ref a) (J2.suite ge2 de2 na aL aF) hN hi (.inl hl) rfl (fun sn Sn => ?_) (.inr hl)
              refine wpAny_mono ((hsu a oe2 cls d (X.pn ++ pins) ze2 ⟨_, de2⟩).run [] sn _ H' _ Sn yes) (fun fl sz z => ?_) (fun _ _ z => False.elim z)
              have gone : ∀ {σ6 : L2.St} {H6 : Hp} {Q : Shared → Prop}, Inv (X.suite a ((a, oe2) :: (X.pn ++ pins))) [] σ6 H6 sz → (∀ s7, Inv X pins (σ6.set i none) H6 s7 → Q s7) →
                  wpAny (model X.prog X.w) X.A (do bindName X.env n .none; unbindBehindTheSuite X.env n pos') (fun _ s7 => Q s7) X.xe sz := fun {σ6 H6 Q} S6 fin => L2.gone_ok (S6.unsuite okX) hN hi hl fin
              cases fl with
              | ret u => obtain ⟨v, σ6, H6, S6, rv, q⟩ := z; exact gone S6 fun _ J7 => ⟨v, _, H6, J7, rv, q⟩
              | next => obtain ⟨σ6, H6, S6, q⟩ := z; exact gone S6 fun _ J7 => ⟨_, H6, J7, q⟩
              | brk => obtain ⟨σ6, H6, S6, q⟩ := z; exact gone S6 fun _ J7 => ⟨_, H6, J7, q⟩
              | cont => obtain ⟨σ6, H6, S6, q⟩ := z; exact gone S6 fun _ J7 => ⟨_, H6, J7, q⟩
    exact walk hh w
  · -- none has come
    cases fl with
    | ret u => obtain ⟨v, σ', H', J', rv, q⟩ := z; exact ⟨v, σ', H', J'.ofTry okX, rv, q⟩
    | next => obtain ⟨σ', H', J', q⟩ := z; exact wpAny_execs_nil ⟨σ', H', J'.ofTry okX, q⟩
    | brk => obtain ⟨σ', H', J', q⟩ := z; exact ⟨σ', H', J'.ofTry okX, q⟩
    | cont => obtain ⟨σ', H', J', q⟩ := z; exact ⟨σ', H', J'.ofTry okX, q⟩
end
end PC

set_option Elab.async false
set_option maxRecDepth 100000
set_option maxHeartbeats 2000000
/-! PC24: own errors. -/
namespace PC
open PySem PySem.Spec PyProof.Rows
open L2 (V HO Hp upd upd_same upd_ne Rd SqL SqT Cx Inv TE TT TA TS TG TGs TI VK PE PT PW PA PK PS PSs PG PGs PI PTs It R2 OpR CallR Un UB HOk ObjOk Env0 FnOk Sp XK Room frs CR EP Takes Ends FpOk BlkOk cloFrom FnScope SP)
open L2 (exo exd del OexC)

/-- what __init__ promises: the one field is stored -/
def spInit (C : Addr) (f : Str) : Sp := fun vs H Q _ => ∃ a v, vs = [.ref a, v] ∧ H a = some (exo a C none) ∧ ∀ dx, H dx = none → dx ≠ a → Q .non (upd (upd H dx (exd dx [(f, v)])) a (exo a C (some dx)))
/-- an own error with one field -/
structure ErrOk (G : Gs) (U : Uni) (c : Nat) (nm f : Str) : Prop where
  T : OexC G.K (G.exC c)
  init : ∃ fI fd, PySem.W.findIn G.K (.ref (G.exC c)) "__init__" = some (some (.ref fI)) ∧ PySem.W.typeIn G.K (.ref fI) = some (.type "function") ∧ FnOk U.pr U.w G.K U.mg U.B (L2.CX U.pr U.w) 1 fI fd ["self", f] (spInit (G.exC c) f) ∧ L2.Binds G.K fd ["self", f] []
  m : U.mg nm = some (.ref (G.exC c))
  fld : G.exF c = some f
  ga : PySem.W.findIn G.K (.ref (G.exC c)) "__getattribute__" = some (some (.builtin "BaseException.__getattribute__"))
  gg : PySem.W.findIn G.K (.ref (G.exC c)) "__getattr__" = some none
  noN : PySem.W.findIn G.K (.ref (G.exC c)) f = some none
  hd : PySem.W.hasDictIn G.K (G.exC c) = true
  lt : c < G.exn
section
variable {G : Gs} {U : Uni} {d : Nat} {X : Cx} {t : Fm} {Wx : L2.WX} {O : Orc} {W : Wd} {env : Env} {h : Hea} {σ : L2.St} {H : Hp}
theorem init_ok {C f1 : Addr} {nm qual f : Str} {params : Arguments} {scope : Scope} {dV kV doc pm cdv ct oc : Value} {an od : Option Addr} {osl : Array (Option Value)} {N : List Str} {q1 q2 q3 q4 : Pos} (T : OexC G.K C) (hno : PySem.W.findIn G.K (.ref C) f = some none)
    (lk : G.K.lookup f1 = some ⟨oc, od, .func (PySem.W.fnOf nm qual params [.Assign [.Attribute (.Name "self" q1) f q2] (.Name f q3) q4] scope dV kV doc pm an cdv ct), osl⟩) (hcd : PySem.W.codeIn G.K cdv qual = true) (S : FnScope N ["self", f] scope)
    (hf : (f == ("__debug__" : Str)) = false) (hf2 : (f == ("__classdict__" : Str)) = false) :
    FnOk U.pr U.w G.K U.mg U.B (L2.CX U.pr U.w) 1 f1 (PySem.W.fnOf nm qual params [.Assign [.Attribute (.Name "self" q1) f q2] (.Name f q3) q4] scope dV kV doc pm an cdv ct) ["self", f] (spInit C f) := by
  refine L2.fn_of lk hcd S (fun vs H Q E ⟨a, v, e, _⟩ => by rw [e]; rfl) fun A outer s H vs Q E hr ⟨a, v, e, ea, q⟩ => ?_
  subst e
  have pre := S.pre
  have n0 : N[0]? = some ("self" : Str) := by
    have z := congrArg (·[0]?) pre
    simp only [List.length_cons, List.length_nil] at z
    rw [List.getElem?_take_of_lt (by omega)] at z
    exact z
  have n1 : N[1]? = some f := by
    have z := congrArg (·[1]?) pre
    simp only [List.length_cons, List.length_nil] at z
    rw [List.getElem?_take_of_lt (by omega)] at z
    exact z
  have vis : ∀ x ∈ [("self" : Str), f], L2.Vis scope x := fun x hx => (S.par x hx).elim .inl fun z => .inr (.inl z)
  refine ⟨_, L2.pss_one (L2.ps_ost (L2.pe_var (i := 0) n0 (vis _ (List.mem_cons_self ..)) (by decide) (by decide)) (L2.pe_var (i := 1) n1 (vis _ (List.mem_cons_of_mem _ (List.mem_cons_self ..))) hf hf2)), ?_⟩
  have s0 : (L2.start N [.ref a, v])[0]? = some (some (.ref a)) := rfl
  have s1 : (L2.start N [.ref a, v])[1]? = some (some v) := rfl
  exact ⟨v, s1, .ref a, s0, a, C, rfl, T, hno, .inl ⟨ea, fun dx n ne => q dx n ne⟩⟩
/-- raise X(e) -/
theorem ls_raise {c : Nat} {nm f : Str} {ca : CE} {e : Expr} {p pos pos2 : Pos} (A : Amb G U d X t Wx) (E : ErrOk G U c nm f) (hg : L2.Gl X nm) (hdb : (nm == ("__debug__" : Str)) = false) (hst : isStar e = false) (he : PE X e (LE G X t Wx (wpE O ca))) :
    PS X (.Raise (some (.Call (.Name nm p) [e] [] pos)) none pos2) (LS G X t Wx (wpS O (.raise c ca))) := by
  obtain ⟨fI, fd, iC, tI, F1, hb⟩ := E.init
  have T := E.T
  rw [← A.K] at T iC tI F1 hb
  rw [← A.pr, ← A.w, ← A.mg, ← A.B] at F1
  have m := E.m
  rw [← A.mg] at m
  refine ps_imp (L2.ps_raise A.calm A.tk (L2.pmk_oex T iC tI F1 (A.room.mono (by omega)) hb .nil (L2.passes_call A.tk fun _ _ _ _ z => z.elim) hg m (L2.pa_cons he L2.pa_nil (star_cons hst)) hdb (star_cons hst) rfl)) fun D σ H q => ?_
  obtain ⟨W, env, h, K, rs, w, k⟩ := q
  simp only [wpS] at w
  refine ⟨W, env, h, _, _, rs, w, fun W1 v h1 x H1 le r1 rv q1 => ?_, k.cx⟩
  refine ⟨by show 1 ≤ 1000; omega, fun a na => ⟨a, x, rfl, upd_same, fun dx hn ne => ⟨rfl, dx, [(f, x)], upd_same, by rw [upd_ne ne]; exact upd_same, ?_, ?_⟩⟩⟩
  · rw [upd_ne ne] at hn; exact hn
  · have nd : H1 dx = none := by rw [upd_ne ne] at hn; exact hn
    have eH : upd (del (upd (upd (upd H1 a (exo a (G.exC c) none)) dx (exd dx [(f, x)])) a (exo a (G.exC c) (some dx))) a) dx (.xd [(f, x)]) = upd H1 dx (.xd [(f, x)]) := by
      funext b
      by_cases h1 : b = dx
      · rw [h1, upd_same, upd_same]
      · rw [upd_ne h1, upd_ne h1]
        by_cases h2 : b = a
        · rw [h2, L2.del_same, na]
        · rw [L2.del_ne h2, upd_ne h2, upd_ne h1, upd_ne h2]
    rw [eH]
    exact k.xc W1 env h1 σ _ ⟨c, some v⟩ _ _ le.lq (r1.kept nd) ⟨⟨E.lt, rfl⟩, f, dx, x, E.fld, rfl, upd_same, rv⟩ q1

/-- an own error without a field -/
structure Err0 (G : Gs) (U : Uni) (c : Nat) (nm : Str) : Prop where
  ex : PySem.W.excIn G.K (G.exC c) He.veBase "ValueError.__new__" = true
  kp : PySem.W.keepIn G.K (.ref (G.exC c)) = true
  sub : PySem.W.subIn G.K (.ref (G.exC c)) (.type "BaseException") = some true
  ty : PySem.W.typeIn G.K (.ref (G.exC c)) = some (.type "type")
  m : U.mg nm = some (.ref (G.exC c))
  fld : G.exF c = none
  lt : c < G.exn
/-- X() -/
theorem pmk_none {C : Addr} {x : Str} {p pos : Pos} (q : PySem.W.excIn X.K C He.veBase "ValueError.__new__" = true) (gC : X.mg x = some (.ref C)) (kC : PySem.W.keepIn X.K (.ref C) = true) (r : L2.Raises X (.ref C)) (hg : L2.Gl X x) (hdb : (x == ("__debug__" : Str)) = false) :
    L2.PMk X (.Call (.Name x p) [] [] pos) (fun _ H Q => Q (.ref C) none H) := by
  intro pins s σ H Q I h
  refine wpAny_Call_Name_kw (L2.ld_glob I hg gC ?_ hdb)
  refine PySem.W.callWith_KW0 (h₀ := X.base) I.ok.mod.kin kC rfl ?_ rfl
  refine wpAny_pure ⟨I.kIn, ?_⟩
  show wpAny _ _ (call (.ref C) []) _ _ _
  obtain ⟨bm, N, nm, qn, bs, hdct, sn, sub, ab, col, dd, k0, k1, k2, k3, k5, mN, hC, hN, hni, T⟩ := L2.exc_obj I.kIn q
  refine wpAny_call_exc_subT PySem.F.excBase_ValueError T hC hN hni (fun h' e hm => ?_) (Nat.zero_le _)
  exact L2.mk_of I hm r h (I.hok.gone hm.new)
theorem ls_raise0 {c : Nat} {nm : Str} {p pos pos2 : Pos} (A : Amb G U d X t Wx) (E : Err0 G U c nm) (hg : L2.Gl X nm) (hdb : (nm == ("__debug__" : Str)) = false) :
    PS X (.Raise (some (.Call (.Name nm p) [] [] pos)) none pos2) (LS G X t Wx (wpS O (.raise0 c))) := by
  have q := E.ex
  have kp := E.kp
  have sub := E.sub
  have ty := E.ty
  rw [← A.K] at q kp sub ty
  have m := E.m
  rw [← A.mg] at m
  refine ps_imp (L2.ps_raise A.calm A.tk (pmk_none q m kp (L2.raises_own sub ty) hg hdb)) fun D σ H z => ?_
  obtain ⟨W, env, h, K, rs, w, k⟩ := z
  simp only [wpS] at w
  exact k.xc W env h σ H ⟨c, none⟩ _ _ (.refl _ _) rs ⟨⟨E.lt, rfl⟩, E.fld⟩ w
/-- an own error, with a field or without -/
def ErrA (G : Gs) (U : Uni) (c : Nat) (p : Str × Option Str) : Prop := match p.2 with
  | some f => ErrOk G U c p.1 f
  | none => Err0 G U c p.1
theorem ErrA.m {G : Gs} {U : Uni} {c : Nat} {p : Str × Option Str} (e : ErrA G U c p) : U.mg p.1 = some (.ref (G.exC c)) := by
  unfold ErrA at e
  split at e
  · exact ErrOk.m e
  · exact Err0.m e
theorem ErrA.lt {G : Gs} {U : Uni} {c : Nat} {p : Str × Option Str} (e : ErrA G U c p) : c < G.exn := by
  unfold ErrA at e
  split at e
  · exact ErrOk.lt e
  · exact Err0.lt e
/-! ### suites -/
theorem RS.bindX (r : RS G X t W env h σ H) {i : Nat} {n : Str} {u : V} (hi : X.N[i]? = some n) (hl : X.env.scope.names.lookup n = some .local) : RS G X t W (env.set i none) h (σ.set i (some u)) H := by
  have none_get : ∀ {j : Nat} {v : PV}, get (env.set i none) j = some v → j ≠ i ∧ get env j = some v := fun {j v} e => by
    by_cases q : j = i
    · subst q
      unfold get at e
      by_cases l : j < env.length
      · rw [List.getElem?_set_self l] at e; cases e
      · rw [List.getElem?_eq_none (by simpa using l)] at e; cases e
    · unfold get at e
      rw [List.getElem?_set_ne (Ne.symm q)] at e
      exact ⟨q, e⟩
  refine ⟨⟨r.fz, r.live, r.inj, r.dis, r.new, r.tabs, r.fn, fun c w e => ⟨(r.cv c w e).1, (r.cv c w e).2.imp (fun z => ⟨?_, z.2⟩) id⟩, r.tk, r.hd⟩, ?_, fun j w e => ?_, r.le0, r.lek⟩
  · refine z.1.imp (fun ⟨hm, y, j, h1, h2, h3, h4, h5⟩ => ⟨hm, y, j, h1, h2, h3, ?_, h5⟩) id
    rw [List.getElem?_set_ne]
    · exact h4
    · intro q
      rw [← q, hi] at h3; cases h3
      rcases h2 with k | k <;> (have k' : X.env.scope.names.lookup n = _ := k; rw [hl] at k'; cases k')
  · rw [List.length_set, List.length_set]; exact r.len
  · obtain ⟨q, e⟩ := none_get e
    obtain ⟨V, e1, r1⟩ := r.env j w e
    exact ⟨V, by rw [List.getElem?_set_ne (Ne.symm q)]; exact e1, r1⟩
/-- the suite of an error: slot i (where it has a name) holds it -/
def LH (G : Gs) (X : Cx) (t : Fm) (a : Addr) (cls : Value) (dd : Option Addr) (o : Option Nat) (w : Exc → PV → Prop) : TE := fun σ H Q => ∃ W env h ex v, RS G X t W env h σ H ∧ (∀ i, o = some i → σ[i]? = some (some (.ref a))) ∧ RX G W ex cls dd H ∧ w ex v ∧
  ∀ W' x H', Wle W W' → RS G X t W' env h σ H' → RX G W' ex cls dd H' → RV G.adr G.K W' v x → Q x H'
theorem lh_const {a : Addr} {cls : Value} {dd : Option Addr} {o : Option Nat} {e : Expr} {x : V} {v : PV} {Y : Cx} (hp : PE Y e (L2.tC x)) (rv : ∀ W, RV G.adr G.K W v x) : PE Y e (LH G Y t a cls dd o fun _ u => u = v) := pe_imp hp fun σ H Q q => by
  obtain ⟨W, env, h, ex, u, rs, hi, rx, rfl, k⟩ := q
  exact k W x H (.refl _) rs rx (rv W)
/-- e.field, e the error -/
theorem lh_fld {a : Addr} {oe : Obj} {cls : Value} {dd : Option Addr} {pn : List (Addr × Obj)} {i c : Nat} {n f nm : Str} {p pos : Pos} (hK : X.K = G.K) (E : ErrOk G U c nm f) (hz : L2.Zc cls dd oe) (hd : ∃ vs, oe.data = .fields vs) (hi : X.N[i]? = some n) (hl : X.env.scope.names.lookup n = some .local)
    (hdb : (n == ("__debug__" : Str)) = false) (hcb : (n == ("__classdict__" : Str)) = false) (hb : attributeBase (.Name n p) f X.env (eval (.Name n p) X.env) = eval (.Name n p) X.env) :
    PE (X.suite a ((a, oe) :: pn)) (.Attribute (.Name n p) f pos) (LH G (X.suite a ((a, oe) :: pn)) t a cls dd (some i) fun ex u => ex.cls = c ∧ ex.fld = some u) := by
  refine ⟨fun pins s σ H Q I q => ?_⟩
  obtain ⟨W, env, h, ex, u, rs, hs, rx, ⟨ec0, eu⟩, k⟩ := q
  have rx0 := rx
  obtain ⟨⟨lt, ec⟩, rx⟩ := rx
  rw [eu] at rx
  rw [ec0] at ec rx
  obtain ⟨g, dx, x, h1, h2, h3, h4⟩ := rx
  rw [E.fld] at h1; cases h1
  subst ec
  subst h2
  refine L2.attr_of hb (L2.thn ((L2.pe_var (X := X.suite a ((a, oe) :: pn)) (pos := p) hi (.inl hl) hdb hcb).run pins s σ H (fun v H1 => v = .ref a ∧ H1 = H) I ⟨.ref a, hs i rfl, rfl, rfl⟩) fun u1 s1 ⟨y, H1, I1, ry, ey, eH⟩ => ?_)
  subst ey
  subst eH
  obtain rfl : u1 = Value.ref a := ry
  obtain ⟨ga, _⟩ := I1.pin (a, oe) (List.mem_append_left _ (List.mem_cons_self ..))
  obtain ⟨fv, hfv⟩ := hd
  obtain ⟨mA, hns, hr⟩ := (show ObjOk X.prog X.w H1 s1.heap dx (.xd [(f, x)]) from I1.hok dx _ h3)
  obtain ⟨od, ho, hlk⟩ := L2.lookIn_ns hns
  have l : List.lookup f [(f, x)] = some x := by simp [List.lookup]
  obtain ⟨w', hw, rw'⟩ := L2.RelO.some_of (v := x) (o := mA f) (by rw [← l]; exact hr f)
  have J : PySem.W.InstAt s1.heap a oe (G.exC c) (some od) := ⟨ga, hz.1, by unfold PySem.W.notCls; rw [hfv] <;> rfl, by rw [hz.2]; exact ho⟩
  have kin : G.K.In s1.heap := by rw [← hK]; exact I1.kIn
  exact HandSPX.exc_get kin J E.ga E.gg E.T.exC (PySem.W.findObj_own E.hd E.noN rfl (by rw [hlk, hw])) (L2.handed_of rw') ⟨x, H1, I1.tok _, rw', k W x H1 (.refl _) rs rx0 h4⟩
/-- a tuple of such -/
def LHs (G : Gs) (X : Cx) (t : Fm) (a : Addr) (cls : Value) (dd : Option Addr) (o : Option Nat) (w : Exc → List PV → Prop) : TA := fun σ H Q => ∃ W env h ex v, RS G X t W env h σ H ∧ (∀ i, o = some i → σ[i]? = some (some (.ref a))) ∧ RX G W ex cls dd H ∧ w ex v ∧
  ∀ W' x H', Wle W W' → RS G X t W' env h σ H' → RX G W' ex cls dd H' → RVs G.adr G.K W' v x → Q x H'
theorem lhs_nil {a : Addr} {cls : Value} {dd : Option Addr} {o : Option Nat} {Y : Cx} : PA Y [] (LHs G Y t a cls dd o fun _ u => u = []) := pa_imp L2.pa_nil fun σ H Q q => by
  obtain ⟨W, env, h, ex, u, rs, hi, rx, rfl, k⟩ := q
  exact k W [] H (.refl _) rs rx .nil
theorem lhs_cons {a : Addr} {cls : Value} {dd : Option Addr} {o : Option Nat} {Y : Cx} {e : Expr} {es : List Expr} {w : Exc → PV → Prop} {ws : Exc → List PV → Prop} (h1 : PE Y e (LH G Y t a cls dd o w)) (h2 : PA Y es (LHs G Y t a cls dd o ws)) (hs : isStar e = false) :
    PA Y (e :: es) (LHs G Y t a cls dd o fun ex u => ∃ v vs, u = v :: vs ∧ w ex v ∧ ws ex vs) := pa_imp (L2.pa_cons h1 h2 (star_cons hs)) fun σ H Q q => by
  obtain ⟨W, env, h, ex, u, rs, hi, rx, ⟨v, vs, rfl, w1, w2⟩, k⟩ := q
  exact ⟨W, env, h, ex, v, rs, hi, rx, w1, fun W1 x H1 le r1 rx1 rv => ⟨W1, env, h, ex, vs, r1, hi, rx1, w2, fun W2 xs H2 le2 r2 rx2 rvs => k W2 (x :: xs) H2 (le.trans le2) r2 rx2 (.cons (rv.mono le2) rvs)⟩⟩
theorem lh_tup {a : Addr} {cls : Value} {dd : Option Addr} {o : Option Nat} {Y : Cx} {es : List Expr} {ws : Exc → List PV → Prop} {k0 : Nat} {pos : Pos} (hl : ∀ ex vs, ws ex vs → vs.length ≤ line) (h2 : PA Y es (LHs G Y t a cls dd o ws)) :
    PE Y (.Tuple es k0 pos) (LH G Y t a cls dd o fun ex u => ∃ vs, u = .tup vs ∧ ws ex vs) := pe_imp (L2.pe_tup h2) fun σ H Q q => by
  obtain ⟨W, env, h, ex, u, rs, hi, rx, ⟨vs, rfl, w1⟩, k⟩ := q
  refine ⟨W, env, h, ex, vs, rs, hi, rx, w1, fun W1 xs H1 le r1 rx1 rv => ⟨by rw [← rv.length, sizeLine_eq]; exact hl ex vs w1, fun p hp => ?_⟩⟩
  obtain ⟨le2, r2⟩ := r1.allocF (.tup xs) hp
  refine k _ _ _ (le.trans le2) r2 ?_ (.tup addF_at (rv.mono le2))
  obtain ⟨e1, e2⟩ := rx1
  refine ⟨e1, ?_⟩
  cases hf : ex.fld with
  | none => rw [hf] at e2; exact e2
  | some v =>
    rw [hf] at e2
    obtain ⟨f, d, x, k1, k2, k3, k4⟩ := e2
    exact ⟨f, d, x, k1, k2, by rw [upd_ne (L2.ne_of_none k3 hp)]; exact k3, k4.mono le2⟩
end
end PC

set_option Elab.async false
set_option maxRecDepth 100000
set_option maxHeartbeats 2000000
/-! PC25: try. -/
namespace PC
open PySem PySem.Spec PyProof.Rows
open L2 (V HO Hp upd upd_same upd_ne Rd SqL SqT Cx Inv TE TT TA TS TG TGs TI VK PE PT PW PA PK PS PSs PG PGs PI PTs It R2 OpR CallR Un UB HOk ObjOk Env0 FnOk Sp XK Room frs CR EP Takes Ends FpOk BlkOk cloFrom FnScope SP)
section
variable {G : Gs} {U : Uni} {d : Nat} {X : Cx} {t : Fm} {Wx : L2.WX} {O : Orc}
theorem lh_imp {a : Addr} {cls : Value} {dd : Option Addr} {o : Option Nat} {Y : Cx} {e : Expr} {w w' : Exc → PV → Prop} (h : PE Y e (LH G Y t a cls dd o w)) (i : ∀ ex u, w' ex u → w ex u) : PE Y e (LH G Y t a cls dd o w') := pe_imp h fun σ H Q q => by
  obtain ⟨W, env, h, ex, u, rs, hi, rx, w1, k⟩ := q
  exact ⟨W, env, h, ex, u, rs, hi, rx, i ex u w1, k⟩
theorem lhs_imp {a : Addr} {cls : Value} {dd : Option Addr} {o : Option Nat} {Y : Cx} {e : List Expr} {w w' : Exc → List PV → Prop} (h : PA Y e (LHs G Y t a cls dd o w)) (i : ∀ ex u, w' ex u → w ex u) : PA Y e (LHs G Y t a cls dd o w') := pa_imp h fun σ H Q q => by
  obtain ⟨W, env, h, ex, u, rs, hi, rx, w1, k⟩ := q
  exact ⟨W, env, h, ex, u, rs, hi, rx, i ex u w1, k⟩
theorem RS.conv {X Y : Cx} {W : Wd} {env : Env} {h : Hea} {σ : L2.St} {H : Hp} (r : RS G X t W env h σ H) (eB : Y.base = X.base) (eC : CellA Y t σ = CellA X t σ) : RS G Y t W env h σ H := ⟨by rw [eB, eC]; exact r.toRH, r.len, r.env, r.le0, r.lek⟩
theorem lh_suite {a : Addr} {cls : Value} {dd : Option Addr} {o : Option Nat} {Y : Cx} {e : Expr} {w : Exc → PV → Prop} (eB : Y.base = X.base) (eC : ∀ σ, CellA Y t σ = CellA X t σ) (h : PE Y e (LH G Y t a cls dd o w)) : PE Y e (LH G X t a cls dd o w) := pe_imp h fun σ H Q q => by
  obtain ⟨W, env, h, ex, u, rs, hi, rx, w1, k⟩ := q
  exact ⟨W, env, h, ex, u, rs.conv eB (eC σ), hi, rx, w1, fun W' x H' le r => k W' x H' le (r.conv eB.symm (eC σ).symm)⟩
theorem ls_tr {Y : Cx} {st : List Stmt} {w : WS} {Wy : L2.WX} (eB : Y.base = X.base) (eC : ∀ σ, CellA Y t σ = CellA X t σ) (h : PSs Y st (LS G Y t Wy w)) : PSs Y st (LS G X t Wy w) := pss_imp h fun D σ H q => by
  obtain ⟨W, env, h, K, rs, w1, c⟩ := q
  have b := fun {W env h σ H} (r : RS G Y t W env h σ H) => r.conv (X := Y) (Y := X) eB.symm (eC σ).symm
  exact ⟨W, env, h, K, rs.conv eB (eC σ), w1, ⟨fun W' e h σ H l r => c.nx W' e h σ H l (b r), fun W' e h σ H v x l r => c.rt W' e h σ H v x l (b r), fun W' e h σ H ex cl d l r => c.xc W' e h σ H ex cl d l (b r), fun W' e h σ H l r => c.bk W' e h σ H l (b r), fun W' e h σ H l r => c.ct W' e h σ H l (b r)⟩⟩
/-- the clauses -/
inductive HdL (G : Gs) (U : Uni) (X : Cx) (t : Fm) : List CH → List ExceptHandler → Prop
  | nil : HdL G U X t [] []
  | cons {c : CH} {cs : List CH} {x : Str} {nm : Option Str} {np p2 pos' : Pos} {e : Expr} {hs : List ExceptHandler} (hg : L2.Gl X x) (hdb : (x == ("__debug__" : Str)) = false) (Em : U.mg x = some (.ref (G.exC c.cls))) (El : c.cls < G.exn)
      (hn : match nm, c.slot with
        | none, none => True
        | some n, some i => X.N[i]? = some n ∧ X.env.scope.names.lookup n = some .local
        | _, _ => False)
      (hsu : ∀ (a : Addr) (oe : Obj) (cls : Value) (dd : Option Addr) (pn : List (Addr × Obj)), L2.Zc cls dd oe → (∃ vs, oe.data = .fields vs) → PE (X.suite a ((a, oe) :: pn)) e (LH G (X.suite a ((a, oe) :: pn)) t a cls dd c.slot fun ex u => ex.cls = c.cls ∧ heV ex.fld c.ret = some u))
      (r : HdL G U X t cs hs) : HdL G U X t (c :: cs) (.ExceptHandler (some (.Name x np)) nm [.Return (some e) p2] pos' :: hs)
abbrev clOf (G : Gs) (X : Cx) (t : Fm) (c : CH) : Cl := (.ref (G.exC c.cls), c.slot, fun a cls dd => L2.tRet (LH G X t a cls dd c.slot fun ex u => ex.cls = c.cls ∧ heV ex.fld c.ret = some u))
theorem hdl_ok (A : Amb G U d X t Wx) : ∀ {cs : List CH} {hs : List ExceptHandler}, HdL G U X t cs hs → HdsC X hs (cs.map (clOf G X t))
  | _, _, .nil => .nil
  | _, _, .cons hg hdb Em El hn hsu r => by
    refine .cons ⟨hg, hdb, .inl (by rw [A.mg]; exact Em)⟩ hn (fun a oe cls dd pn hz hd => ?_) (hdl_ok A r)
    exact L2.pss_one (L2.ps_ret (lh_suite rfl (fun _ => rfl) (hsu a oe cls dd pn hz hd)))
theorem catch_ok {K : KS} {D : Ends} {W0 W : Wd} {env : Env} {h : Hea} {σ : L2.St} {H : Hp} {ex : Exc} {cls : Value} {dd : Option Addr} (A : Amb G U d X t Wx) (hex : ∀ c c', c < G.exn → c' < G.exn → PySem.W.exmOne G.K (.ref (G.exC c)) (.ref (G.exC c')) = some (decide (c = c')))
    (c : CSt G X t Wx W0 K D) (l : Wlq t W0 W) (rs : RS G X t W env h σ H) (rx : RX G W ex cls dd H) : ∀ {cs : List CH} {hs : List ExceptHandler}, HdL G U X t cs hs → catch_ cs K ex env h → wCl G.K Wx D (cs.map (clOf G X t)) cls dd σ H
  | _, _, .nil, q => c.xc W env h σ H ex cls dd l rs rx q
  | _, _, .cons (c := ch) (nm := nm) hg hdb Em El hn hsu r, q => by
    have ec := rx.1.2
    refine ⟨decide (ex.cls = ch.cls), by rw [ec]; exact hex _ _ rx.1.1 El, fun z a na lts => ?_, fun z => ?_⟩
    · have z := of_decide_eq_true z
      unfold catch_ at q
      rw [if_pos z.symm] at q
      cases hv : heV ex.fld ch.ret with
      | none => rw [hv] at q; exact q.elim
      | some v =>
        rw [hv] at q
        have fin : ∀ {σ' : L2.St} {env' : Env}, RS G X t W env' h σ' H → (∀ i, ch.slot = some i → σ'[i]? = some (some (.ref a))) → (unset D ch.slot).rt = D.rt → L2.tRet (LH G X t a cls dd ch.slot fun ex u => ex.cls = ch.cls ∧ heV ex.fld ch.ret = some u) (unset D ch.slot) σ' H := fun {σ' env'} r1 hi e => by
          refine ⟨W, env', h, ex, v, r1, hi, rx, ⟨z, hv⟩, fun W' x H' le r2 rx2 rv => ?_⟩
          rw [e]
          exact c.rt W' env' h σ' H' v x (l.trans le.lq) r2 rv q
        cases hsl : ch.slot with
        | none =>
          have z1 := fin (σ' := σ) (env' := env) rs (fun i e => by rw [hsl] at e; cases e) (by rw [hsl]; rfl)
          rw [hsl] at z1
          exact z1
        | some i =>
          rw [hsl] at hn
          cases nm with
          | none => exact hn.elim
          | some n =>
            obtain ⟨hi, hl⟩ := hn
            have r1 := rs.bindX (u := .ref a) hi hl
            have lt : i < σ.length := lts i hsl
            have z1 := fin (σ' := σ.set i (some (.ref a))) (env' := env.set i none) r1 (fun j e => by
              rw [hsl] at e; cases e
              rw [List.getElem?_set_self lt]) (by rw [hsl]; rfl)
            rw [hsl] at z1
            exact z1
    · have z := of_decide_eq_false z
      unfold catch_ at q
      rw [if_neg (fun k => z k.symm)] at q
      exact catch_ok A hex c l rs rx r q
theorem ls_try {b : CSs} {cs : List CH} {body : List Stmt} {h₀ : ExceptHandler} {hs : List ExceptHandler} {pos : Pos} (A : Amb G U d X t Wx) (hstk : X.stack = X.env :: X.outer) (hfr : X.env.frame = some X.env.locals)
    (hex : ∀ c c', c < G.exn → c' < G.exn → PySem.W.exmOne G.K (.ref (G.exC c)) (.ref (G.exC c')) = some (decide (c = c')))
    (hb : ∀ (W : L2.WX) (pn : List (Addr × Obj)) (xe : Value → Shared → Prop), Takes (X.tr pn xe) W → PassesOwn (model X.prog X.w) X.A X.env xe → PSs (X.tr pn xe) body (LS G (X.tr pn xe) t W (wpSs O b))) (hh : HdL G U X t cs (h₀ :: hs)) :
    PS X (.Try body (h₀ :: hs) [] [] pos) (LS G X t Wx (wpS O (.try_ b cs))) := by
  refine ps_imp (ps_tryC (tb := fun W => LS G X t W (wpSs O b)) A.nd hstk hfr A.tk (fun W pn xe tk po => ls_tr rfl (fun _ => rfl) (hb W pn xe tk po)) (hdl_ok A hh)) fun D σ H q => ?_
  obtain ⟨W, env, h, K, rs, w, c⟩ := q
  simp only [wpS] at w
  refine ⟨W, env, h, _, rs, w, c.nx, c.rt, fun W' env' h' σ' H' ex cls dd l r rx q => ?_, c.bk, c.ct⟩
  rw [A.K]
  exact catch_ok A hex c l r rx hh q
end
end PC

set_option Elab.async false
set_option maxRecDepth 100000
set_option maxHeartbeats 2000000
/-! PC26: freezing; a, b = x, y; what is looked at ahead of a store. -/
namespace PC
open PySem PySem.Spec PyProof.Rows
open L2 (V HO Hp upd upd_same upd_ne Rd SqL SqT Cx Inv TE TT TA TS TG TGs TI VK PE PT PW PA PK PS PSs PG PGs PI PTs It R2 OpR CallR Un UB HOk ObjOk Env0 FnOk Sp XK Room frs CR EP Takes Ends FpOk BlkOk cloFrom FnScope SP)
section
variable {G : Gs} {U : Uni} {d : Nat} {X : Cx} {t : Fm} {Wx : L2.WX} {O : Orc}
mutual
theorem RS.frzD : ∀ (d : Nat) {W : Wd} {env : Env} {h : Hea} {σ : L2.St} {H : Hp} {v w : PV} {h1 : Hea} {x : V}, RS G X t W env h σ H → RV G.adr G.K W v x → PC.frzD d h v = some (w, h1) → ∃ W', Wle W W' ∧ RS G X t W' env h1 σ H ∧ RV G.adr G.K W' w x
  | d + 1, W, env, h, σ, H, .ref n, w, h1, x, r, rv, e => by
    simp only [PC.frzD] at e
    split at e
    · rename_i xs q
      split at e
      · rename_i ys h2 q2
        cases e
        cases rv with
        | @ref _ a ha =>
          obtain ⟨vs, le, r2, rr⟩ := r.toRH.freeze q ha
          obtain ⟨W2, le2, r3, rr2⟩ := RS.frzL d (r.lift le r2) (rr.mono le) q2
          exact ⟨W2, le.trans le2, r3, .lst (le2.fz _ _ addF_at) rr2⟩
      · cases e
    · cases e
  | d + 1, W, env, h, σ, H, .tup xs, w, h1, x, r, rv, e => by
    simp only [PC.frzD] at e
    split at e
    · rename_i ys h2 q2
      cases e
      cases rv with
      | tup f rr =>
        obtain ⟨W2, le2, r3, rr2⟩ := RS.frzL d r rr q2
        exact ⟨W2, le2, r3, .tup (le2.fz _ _ f) rr2⟩
      | tupK f rr =>
        obtain ⟨W2, le2, r3, rr2⟩ := RS.frzL d r rr q2
        exact ⟨W2, le2, r3, .tupK f rr2⟩
    · cases e
  | d + 1, W, env, h, σ, H, .lst xs, w, h1, x, r, rv, e => by
    simp only [PC.frzD] at e
    split at e
    · rename_i ys h2 q2
      cases e
      cases rv with
      | lst f rr =>
        obtain ⟨W2, le2, r3, rr2⟩ := RS.frzL d r rr q2
        exact ⟨W2, le2, r3, .lst (le2.fz _ _ f) rr2⟩
    · cases e
  | 0, W, env, h, σ, H, .ref n, w, h1, x, r, rv, e => by simp [PC.frzD] at e
  | 0, W, env, h, σ, H, .tup xs, w, h1, x, r, rv, e => by simp only [PC.frzD] at e; cases e; exact ⟨W, .refl _, r, rv⟩
  | 0, W, env, h, σ, H, .lst xs, w, h1, x, r, rv, e => by simp only [PC.frzD] at e; cases e; exact ⟨W, .refl _, r, rv⟩
  | d, W, env, h, σ, H, .non, w, h1, x, r, rv, e => by cases d <;> simp only [PC.frzD] at e <;> cases e <;> exact ⟨W, .refl _, r, rv⟩
  | d, W, env, h, σ, H, .bl _, w, h1, x, r, rv, e => by cases d <;> simp only [PC.frzD] at e <;> cases e <;> exact ⟨W, .refl _, r, rv⟩
  | d, W, env, h, σ, H, .int _, w, h1, x, r, rv, e => by cases d <;> simp only [PC.frzD] at e <;> cases e <;> exact ⟨W, .refl _, r, rv⟩
  | d, W, env, h, σ, H, .str _, w, h1, x, r, rv, e => by cases d <;> simp only [PC.frzD] at e <;> cases e <;> exact ⟨W, .refl _, r, rv⟩
  | d, W, env, h, σ, H, .dct _ _, w, h1, x, r, rv, e => by cases d <;> simp only [PC.frzD] at e <;> cases e <;> exact ⟨W, .refl _, r, rv⟩
  | d, W, env, h, σ, H, .fn _, w, h1, x, r, rv, e => by cases d <;> simp only [PC.frzD] at e <;> cases e <;> exact ⟨W, .refl _, r, rv⟩
  | d, W, env, h, σ, H, .clo _ _ _, w, h1, x, r, rv, e => by cases d <;> simp only [PC.frzD] at e <;> cases e <;> exact ⟨W, .refl _, r, rv⟩
  | d, W, env, h, σ, H, .scr _, w, h1, x, r, rv, e => by cases d <;> simp only [PC.frzD] at e <;> cases e <;> exact ⟨W, .refl _, r, rv⟩
theorem RS.frzL : ∀ (d : Nat) {W : Wd} {env : Env} {h : Hea} {σ : L2.St} {H : Hp} {v w : List PV} {h1 : Hea} {x : List V}, RS G X t W env h σ H → RVs G.adr G.K W v x → PC.frzL d h v = some (w, h1) → ∃ W', Wle W W' ∧ RS G X t W' env h1 σ H ∧ RVs G.adr G.K W' w x
  | d, W, env, h, σ, H, [], w, h1, x, r, rv, e => by
    simp only [PC.frzL] at e
    cases e
    cases rv
    exact ⟨W, .refl _, r, .nil⟩
  | d, W, env, h, σ, H, v :: vs, w, h1, x, r, rv, e => by
    simp only [PC.frzL] at e
    split at e
    · rename_i y h2 q1
      split at e
      · rename_i ys h3 q2
        cases e
        cases rv with
        | cons r1 rr =>
          obtain ⟨W1, le1, s1, y1⟩ := RS.frzD d r r1 q1
          obtain ⟨W2, le2, s2, y2⟩ := RS.frzL d s1 (rr.mono le1) q2
          exact ⟨W2, le1.trans le2, s2, .cons (y1.mono le2) y2⟩
      · cases e
    · cases e
end
theorem le_frz {c : CE} {e : Expr} (he : PE X e (LE G X t Wx (wpE O c))) : PE X e (LE G X t Wx (wpE O (.frz c))) := pe_imp he fun σ H Q q => by
  obtain ⟨W, env, h, Qp, Xp, rs, w, cq, cx⟩ := q
  simp only [wpE] at w
  refine ⟨W, env, h, _, Xp, rs, w, fun W1 v h1 x H1 le r1 rv q1 => ?_, cx⟩
  dsimp only [frzV] at q1
  split at q1
  · rename_i u h2 e
    obtain ⟨W2, le2, r2, rr⟩ := r1.frzD 8 rv e
    exact cq _ _ _ _ _ (le.trans le2) r2 rr q1
  · exact q1.elim
mutual
theorem RS.dropV : ∀ (d : Nat) {W : Wd} {env : Env} {h : Hea} {σ : L2.St} {H : Hp} {v : PV}, RS G X t W env h σ H → RS G X t W env (PC.dropV d h v) σ H
  | 0, W, env, h, σ, H, v, r => by cases v <;> (simp only [PC.dropV]; exact r)
  | d + 1, W, env, h, σ, H, v, r => by
    cases v with
    | ref n =>
      simp only [PC.dropV]
      split
      · exact RS.dropL d (r.lift (.refl _) (r.toRH.forget n))
      · exact RS.dropL d (r.lift (.refl _) (r.toRH.forget n))
      · exact r
    | _ => simp only [PC.dropV]; exact r
theorem RS.dropL : ∀ (d : Nat) {W : Wd} {env : Env} {h : Hea} {σ : L2.St} {H : Hp} {v : List PV}, RS G X t W env h σ H → RS G X t W env (PC.dropL d h v) σ H
  | d, W, env, h, σ, H, [], r => by simp only [PC.dropL]; exact r
  | d, W, env, h, σ, H, v :: vs, r => by simp only [PC.dropL]; exact RS.dropL d (RS.dropV d r)
end
theorem ls_drop {i : Nat} {a : CS} {st : Stmt} (h1 : PS X st (LS G X t Wx (wpS O a))) : PS X st (LS G X t Wx (wpS O (.drop i a))) := ps_imp h1 fun D σ H q => by
  obtain ⟨W, env, h, K, rs, w, c⟩ := q
  simp only [wpS] at w
  refine ⟨W, env, h, _, rs, w, ⟨fun W' e h' σ' H' l r q => c.nx W' e _ σ' H' l ?_ q, c.rt, c.xc, c.bk, c.ct⟩⟩
  unfold dropE
  split
  · exact RS.dropV 4 r
  · exact r
theorem lt_frz {c : CE} {e : Expr} (hK : X.K = G.K) (he : PE X e (LE G X t Wx (wpE O (.frz c)))) (hi : ∀ whole, isTrue e X.env whole = (do let v ← whole; standAt e.pos; holding [v] (truthy v))) : PT X e (LT G X t Wx (wpB O (.frz c))) := tst_of hK he hi
theorem swap2 {env : PySem.Env} {x y : Str} {px py pt pt2 : Pos} {kt k2 : Nat} {a b : Expr} (hk : env.scope.kind = .function) (hx : env.scope.names.lookup x = some .local) (hy : env.scope.names.lookup y = some .local) (hl : (py.line == px.line) = true) (ne : (x == y) = false) (ha : isStar a = false) (hb : isStar b = false)
    (hf : [a, b].all (foldedForSure 8) = false) (hc : [a, b].all (constantsAlone 8) = false) : swappedStores [.Tuple [.Name x px, .Name y py] kt pt] (.Tuple [a, b] k2 pt2) env = pure (some [x, y]) := by
  have kx : env.kindOf x = some .local := hx
  have ky : env.kindOf y = some .local := hy
  have bk : env.blockKind = .function := by unfold Env.blockKind; rw [hk]; rfl
  have yx : (y == x) = false := by
    rw [beq_eq_false_iff_ne] at ne ⊢
    exact fun z => ne z.symm
  have st : [a, b].any isStar = false := by simp [ha, hb]
  unfold swappedStores
  simp only [bk]
  rw [if_neg (by simp)]
  show (if [a, b].any isStar = true then _ else _) = _
  rw [if_neg (by rw [st]; simp)]
  simp only [List.head?_cons, Option.map_some, Option.getD_some, Expr.pos, List.filterMap_cons, List.filterMap_nil, kx, ky, hl, beq_self_eq_true, Bool.and_self, if_true]
  rw [if_neg (by simp [List.eraseDups_cons, yx]), if_neg (by rw [hf]; simp), if_neg (by rw [hc]; simp)]
theorem ls_par {i j : Nat} {x y : Str} {a b : Expr} {ca cb : CE} {px py pt pt2 pos : Pos} {kt k2 : Nat} (hc : X.calm = true) (hN : X.N.Nodup) (hi : X.N[i]? = some x) (hj : X.N[j]? = some y) (hij : i ≠ j) (hx : X.env.scope.names.lookup x = some .local) (hy : X.env.scope.names.lookup y = some .local)
    (hk : X.env.scope.kind = .function) (hl : (py.line == px.line) = true) (ne : (x == y) = false) (sa : isStar a = false) (sb : isStar b = false) (hf : [a, b].all (foldedForSure 8) = false) (hcs : [a, b].all (constantsAlone 8) = false)
    (ha : PE X a (LE G X t Wx (wpE O ca))) (hb : PE X b (LE G X t Wx (wpE O cb))) : PS X (.Assign [.Tuple [.Name x px, .Name y py] kt pt] (.Tuple [a, b] k2 pt2) pos) (LS G X t Wx (wpS O (.par i j ca cb))) := by
  refine ps_imp (L2.ps_par hc hN hi hj hij hx hy (la_cons ha (la_cons hb la_nil (star_cons sb)) (star_cons sa)) (swap2 hk hx hy hl ne sa sb hf hcs)) fun D σ H q => ?_
  obtain ⟨W, env, h, K, rs, w, c⟩ := q
  simp only [wpS] at w
  refine ⟨W, env, h, fun vs h1 => match vs with
    | [v, w] => K.nx ((env.set i (some v)).set j (some w)) h1
    | _ => False, fun ex h1 => K.xc ex env h1, rs, ?_, fun W1 vs h1 xs H1 le r1 rv q1 => ?_, c.cx⟩
  · simp only [wpEs]
    exact w
  · dsimp only at q1
    split at q1
    · cases rv with
      | cons r2 rr =>
        cases rr with
        | cons r3 rr =>
          cases rr
          exact ⟨_, _, rfl, c.nx W1 _ h1 _ H1 le.lq ((r1.setLoc hi hx r2).setLoc hj hy r3) q1⟩
    · exact q1.elim
/-- the names among the targets, as the model takes them -/
def swapNames (sc : Scope) (line : Nat) (ts : List Expr) : List Str := ts.filterMap fun e => match e with
  | .Name id pos => (match sc.names.lookup id with
    | some .local => if pos.line == line then some id else none
    | _ => none)
  | _ => none
def swapNo (sc : Scope) (tg e : Expr) : Bool := match tg, e with
  | .Tuple ts _ _, .Tuple vs _ _ => !(ts.length == 2 || ts.length == 3) || vs.length != ts.length || !noStars vs || (swapNames sc ((ts.head?.map (·.pos.line)).getD 0) ts).length != ts.length || vs.all (foldedForSure 8)
  | .List _ _, _ => false
  | _, _ => true
theorem swap_no {env : PySem.Env} {tg e : Expr} (hk : env.scope.kind = .function) (h : swapNo env.scope tg e = true) : swappedStores [tg] e env = pure none := by
  have bk : env.blockKind = .function := by unfold Env.blockKind; rw [hk]; rfl
  cases tg with
  | List ts p => cases h
  | Tuple ts k p =>
    cases e with
    | Tuple vs k2 p2 =>
      simp only [swapNo, Bool.or_eq_true, Bool.not_eq_true'] at h
      unfold swappedStores
      simp only [bk]
      by_cases h1 : (!(ts.length == 2 || ts.length == 3) || vs.length != ts.length || ScopeKind.function != ScopeKind.function) = true
      · rw [if_pos h1]
      rw [if_neg h1]
      show (if vs.any isStar = true then _ else _) = _
      by_cases h2 : vs.any isStar = true
      · rw [if_pos h2]
      rw [if_neg h2]
      have en : swapNames env.scope ((ts.head?.map (·.pos.line)).getD 0) ts = ts.filterMap fun e => match e with
          | .Name id pos => if (env.kindOf id == some .local && pos.line == (ts.head?.map (·.pos.line)).getD 0) = true then some id else none
          | _ => none := by
        unfold swapNames
        congr 1
        funext e
        cases e with
        | Name id pos =>
          show (match env.kindOf id with
            | some .local => if pos.line == _ then some id else none
            | _ => none) = _
          cases q : env.kindOf id with
          | none => simp [q]
          | some k => cases k <;> simp [q]
        | _ => rfl
      by_cases h3 : ((swapNames env.scope ((ts.head?.map (·.pos.line)).getD 0) ts).length != ts.length || (swapNames env.scope ((ts.head?.map (·.pos.line)).getD 0) ts).eraseDups.length != (swapNames env.scope ((ts.head?.map (·.pos.line)).getD 0) ts).length) = true
      · have h3' := h3
        rw [en] at h3'
        exact if_pos h3'
      have h3' := h3
      rw [en] at h3'
      refine (if_neg h3').trans ?_
      by_cases h4 : vs.all (foldedForSure 8) = true
      · exact if_pos h4
      exfalso
      rcases h with (((h | h) | h) | h) | h
      · exact h1 (by rw [h]; rfl)
      · exact h1 (by rw [h]; simp)
      · refine h2 ?_
        unfold noStars at h
        rw [List.all_eq_false] at h
        obtain ⟨x, hx, k⟩ := h
        exact List.any_eq_true.mpr ⟨x, hx, by simpa using k⟩
      · exact h3 (by rw [h]; rfl)
      · exact h4 h
    | _ => rfl
  | _ => first | rfl | (cases e <;> rfl)
end
end PC

set_option Elab.async false
set_option maxRecDepth 100000
set_option maxHeartbeats 2000000
/-! PCo: further operations. -/
namespace PC
open PySem PySem.Spec PyProof.Rows
open L2 (V HO Hp upd upd_same upd_ne Rd SqL SqT Cx Inv TE TT TA TS TG TGs TI VK PE PT PW PA PK PS PSs PG PGs PI PTs It R2 OpR CallR Un UB HOk ObjOk Env0 FnOk Sp XK Room frs CR EP Takes Ends FpOk BlkOk cloFrom FnScope SP)
section
variable {G : Gs} {B : Heap} {CA : Addr → V → Prop} {tkP : Addr → Clo → Prop} {W W' : Wd} {env : Env} {h : Hea} {H H' : Hp}
/-- the layer's heap grows: all is kept -/
theorem RH.ext (r : RH G B CA tkP W h H) (k : ∀ b o, H b = some o → H' b = some o) : RH G B CA tkP W h H' := by
  refine ⟨fun a f e => k _ _ (r.fz a f e), fun n ob e l => ?_, r.inj, r.dis, r.new, tabs_keep (fun b u e _ => k b u e) r.tabs, fun a ci e => ?_, fun c v e => ⟨(r.cv c v e).1, (r.cv c v e).2.imp id fun z => z.keep fun b u q _ => k b u q⟩, r.tk, fun a vs e => ⟨k _ _ (r.hd a vs e).1, (r.hd a vs e).2⟩⟩
  · obtain ⟨a, u, h1, h2, h3⟩ := r.live n ob e l
    exact ⟨a, u, h1, k _ _ h2, h3⟩
  · obtain ⟨h1, h2, h3, h4⟩ := r.fn a ci e
    exact ⟨h1, k _ _ h2, k _ _ h3, h4⟩
variable {X : Cx} {t : Fm} {Wx : L2.WX} {σ : L2.St} {O : Orc}
theorem RS.ext (r : RS G X t W env h σ H) (k : ∀ b o, H b = some o → H' b = some o) : RS G X t W env h σ H' := ⟨r.toRH.ext k, r.len, r.env, r.le0, r.lek⟩
/-- what stands at p is known to stand for good -/
theorem RS.addF (r : RS G X t W env h σ H') {p : Addr} {o : FO} (hp : H' p = some o.ho) (nf : W.fz p = none) (nh : W.hid p = none) (nr : ∀ n ob, h[n]? = some ob → ob.live = true → W.rho n ≠ some p) : Wle W (W.addF p o) ∧ RS G X t (W.addF p o) env h σ H' :=
  ⟨Wd.addF_le nf, r.lift (Wd.addF_le nf) (r.toRH.addF hp nf nh nr)⟩
/-- an address that was new in an earlier heap -/
structure NewAt (W : Wd) (h : Hea) (p : Addr) : Prop where
  fz : W.fz p = none
  hd : W.hid p = none
  rho : ∀ n ob, h[n]? = some ob → ob.live = true → W.rho n ≠ some p
theorem RH.newAt (r : RH G B CA tkP W h H) {p : Addr} (hp : H p = none) : NewAt W h p := ⟨r.fzNone hp, r.hdNone hp, fun n ob e l z => by
  obtain ⟨a, u, h1, h2, _⟩ := r.live n ob e l
  rw [z] at h1; cases h1; rw [hp] at h2; cases h2⟩
/-- list(d.items()) -/
theorem tups_in {kvs : List (Key × V)} {ts : List Addr} (hp : Paired (fun (t : Addr) (q : Key × V) => H' t = some (.tup [L2.kV q.1, q.2])) ts kvs) : ∀ {xs : List PV} {W : Wd}, RS G X t W env h σ H' → RVs G.adr G.K W xs (kvs.map (·.2)) → (∀ a ∈ ts, W.fz a = none ∨ ∃ q, W.fz a = some (.tup q) ∧ H' a = some (.tup q)) → (∀ a ∈ ts, W.hid a = none ∧ ∀ n ob, h[n]? = some ob → ob.live = true → W.rho n ≠ some a) →
    ∃ W', Wle W W' ∧ RS G X t W' env h σ H' ∧ RVs G.adr G.K W' (pairsOf (kvs.map (·.1)) xs) (ts.map V.ref) ∧ (∀ a, a ∉ ts → W'.fz a = W.fz a) ∧ (W'.hid = W.hid) ∧ W'.rho = W.rho := by
  induction hp with
  | nil => intro xs W r rv _ _; cases rv; exact ⟨W, Wle.refl _, r, .nil, fun _ _ => rfl, rfl, rfl⟩
  | @cons a p ts kvs e _ ih =>
    intro xs W r rv hf hn
    cases rv with
    | @cons v vs _ _ r1 r2 =>
      have key : RV G.adr G.K W (keyV p.1) (L2.kV p.1) := by
        cases p.1 with
        | inl i => exact .int i
        | inr z => exact .str z
      have step : ∃ W1, Wle W W1 ∧ RS G X t W1 env h σ H' ∧ W1.fz a = some (.tup [L2.kV p.1, p.2]) ∧ (∀ b, b ≠ a → W1.fz b = W.fz b) ∧ W1.hid = W.hid ∧ W1.rho = W.rho := by
        rcases hf a (List.mem_cons_self ..) with z | ⟨q, z, zh⟩
        · obtain ⟨le, r'⟩ := r.addF (o := .tup [L2.kV p.1, p.2]) e z (hn a (List.mem_cons_self ..)).1 (hn a (List.mem_cons_self ..)).2
          exact ⟨_, le, r', addF_at, fun b hb => if_neg hb, rfl, rfl⟩
        · rw [e] at zh; cases zh
          exact ⟨W, Wle.refl _, r, z, fun _ _ => rfl, rfl, rfl⟩
      obtain ⟨W1, le1, s1, f1, o1, d1, n1⟩ := step
      obtain ⟨W2, le2, s2, v2, o2, d2, n2⟩ := ih s1 (r2.mono le1) (fun b hb => by
        by_cases q : b = a
        · subst q; exact .inr ⟨_, f1, e⟩
        · rw [o1 b q]; exact hf b (List.mem_cons_of_mem _ hb)) (fun b hb => by rw [d1, n1]; exact hn b (List.mem_cons_of_mem _ hb))
      refine ⟨W2, le1.trans le2, s2, .cons (.tup (le2.fz _ _ f1) (.cons (key.mono (le1.trans le2)) (.cons (r1.mono (le1.trans le2)) .nil))) v2, fun b hb => ?_, d2.trans d1, n2.trans n1⟩
      rw [o2 b (fun z => hb (List.mem_cons_of_mem _ z)), o1 b (fun z => hb (by rw [z]; exact List.mem_cons_self ..))]
theorem RS.dctOf (r : RS G X t W env h σ H) {v : PV} {x : V} {ks : List Key} {xs : List PV} (rv : RV G.adr G.K W v x) (e : PC.dctOf h v = some (ks, xs)) : ∃ a kvs, x = .ref a ∧ H a = some (.dK kvs) ∧ kvs.map (·.1) = ks ∧ RVs G.adr G.K W xs (kvs.map (·.2)) := by
  cases rv with
  | dct f k rs => cases e; exact ⟨_, _, rfl, r.fz _ _ f, k, rs⟩
  | @ref n a f =>
    simp only [PC.dctOf] at e
    split at e
    · rename_i q
      cases e
      obtain ⟨a', u, e1, e2, kvs, e3, k, rs⟩ := r.live n _ q rfl
      rw [f] at e1; cases e1
      subst e3
      exact ⟨_, kvs, rfl, e2, k, rs⟩
    · cases e
  | _ => cases e
theorem le_items {c : CE} {e : Expr} {p apos cpos pos : Pos} (hc : X.calm = true) (he : PE X e (LE G X t Wx (wpE O c))) (hg : L2.Gl X "list") (hm : X.mg "list" = none) (hr : plainRecv e = true) (hline : (apos.endLine == cpos.line) = true)
    (hs : starEach [.Call (.Attribute e "items" apos) [] [] cpos] X.env = (false, eval (.Call (.Attribute e "items" apos) [] [] cpos) X.env) :: starEach [] X.env) :
    PE X (.Call (.Name "list" p) [.Call (.Attribute e "items" apos) [] [] cpos] [] pos) (LE G X t Wx (wpE O (.opn .items true (.cons c .nil)))) := by
  refine pe_imp (LiI.pe_listItems hc he hg hm (bi_boot .list) (recv_base hr _ _) hline hs) fun σ H Q q => ?_
  obtain ⟨W, env, h, Qp, Xp, rs, w, cq, cx⟩ := q
  simp only [wpE, wpEs] at w
  refine ⟨W, env, h, _, Xp, rs, w, fun W1 v h1 x H1 le r1 rv q1 => ?_, cx⟩
  simp only [opV] at q1
  cases ed : PC.dctOf h1 v with
  | none => rw [ed] at q1; exact q1.elim
  | some p =>
    obtain ⟨ks, xs⟩ := p
    rw [ed] at q1
    obtain ⟨a, kvs, rfl, ha, hk, hx⟩ := r1.dctOf rv ed
    refine ⟨a, kvs, rfl, ha, fun H' p ts ext np nt pt hp hpa => ?_⟩
    have r2 := r1.ext ext
    have n1 : ∀ a ∈ ts, NewAt W1 h1 a := fun a ha => r1.toRH.newAt (nt a ha)
    have np' := r1.toRH.newAt np
    obtain ⟨W2, le2, r3, rv2, off, hd2, rho2⟩ := tups_in hpa r2 hx (fun a ha => .inl (n1 a ha).fz) fun a ha => ⟨(n1 a ha).hd, (n1 a ha).rho⟩
    rw [hk] at rv2
    have fp : W2.fz p = none := by rw [off p pt]; exact np'.fz
    obtain ⟨z1, z2⟩ : newL true (pairsOf ks xs) h1 Qp := q1
    obtain ⟨le3, r4⟩ := r3.addF (o := .lst (ts.map V.ref)) hp fp (by rw [hd2]; exact np'.hd) (by rw [rho2]; exact np'.rho)
    exact cq _ _ _ _ _ ((le.trans le2).trans le3) r4 (.lst addF_at (rv2.mono le3)) z2
/-- *e among the arguments -/
theorem la_star {c : CE} {cs : CEs} {e : Expr} {es : List Expr} {p : Pos} (hK : X.K = G.K) (he : PE X e (LE G X t Wx (wpE O c))) (hr : PA X es (LA G X t Wx (wpEs O cs))) : PA X (.Starred e p :: es) (LA G X t Wx (wpEs O (.star c cs))) := pa_imp (StX.pa_star he hr rfl) fun σ H Q q => by
  obtain ⟨W, env, h, kp, Xp, rs, w, ca, cx⟩ := q
  simp only [wpEs] at w
  refine ⟨W, env, h, _, Xp, rs, w, fun W1 v h1 x H1 le r1 rv q1 => ?_, cx⟩
  dsimp only at q1
  split at q1
  · rename_i b xs e1
    obtain ⟨a, vs, rfl, rr, z⟩ := r1.toRH.seq rv e1
    refine ⟨a, vs, rfl, by rw [hK]; exact z.elim (fun z => .inl z.2) fun z => .inr z.2, W1, env, h1, _, Xp, r1, q1, fun W2 ws h2 ys H2 le2 r2 rw2 q2 => ?_, cx.mono le⟩
    exact ca W2 (xs ++ ws) h2 (vs ++ ys) H2 (le.trans le2) r2 ((rr.mono le2).append rw2) q2
  · exact q1.elim
theorem rg_vals (a : Int) : ∀ (n : Nat), RVs G.adr G.K W (intsFrom a n) ((List.range n).map fun i => V.int (a + (i : Nat)))
  | 0 => .nil
  | n + 1 => by
    rw [List.range_succ_eq_map, List.map_cons, List.map_map]
    unfold intsFrom
    refine .cons (by rw [show a + ((0 : Nat) : Int) = a by omega]; exact .int a) ?_
    have e : ((fun i : Nat => V.int (a + (i : Nat))) ∘ Nat.succ) = fun i : Nat => V.int (a + 1 + (i : Nat)) := by
      funext i
      show V.int (a + ((i + 1 : Nat) : Int)) = _
      congr 1
      omega
    rw [e]
    exact rg_vals (a + 1) n
theorem rgOk_of {a b : Int} (h : PC.rgOk a b = true) : L2.RgOk a b := by
  unfold PC.rgOk at h
  simp only [Bool.and_eq_true, decide_eq_true_eq] at h
  obtain ⟨⟨⟨⟨h1, h2⟩, h3⟩, h4⟩, h5⟩ := h
  exact ⟨h1, h2, h3, h4, h5⟩
theorem le_lrng1 {fz : Bool} {c : CE} {e : Expr} {p p2 pos pos2 : Pos} (hc : X.calm = true) (hg : L2.Gl X "list") (hm : X.mg "list" = none) (hg2 : L2.Gl X "range") (hm2 : X.mg "range" = none) (hst : isStar e = false) (he : PE X e (LE G X t Wx (wpE O c))) :
    PE X (.Call (.Name "list" p) [.Call (.Name "range" p2) [e] [] pos2] [] pos) (LE G X t Wx (wpE O (.opn .lrng1 fz (.cons c .nil)))) := by
  refine pe_imp (L2.pe_listRg hc hg hm (L2.prg_1 hg2 hm2 he (star_cons hst)) rfl) fun σ H Q q => ?_
  obtain ⟨W, env, h, Qp, Xp, rs, w, cq, cx⟩ := q
  simp only [wpE, wpEs] at w
  refine ⟨W, env, h, _, Xp, rs, w, fun W1 v h1 x H1 le r1 rv q1 => ?_, cx⟩
  cases v with
  | int b =>
    obtain rfl := rv.intV
    simp only [opV] at q1
    split at q1
    · rename_i ok
      exact ⟨b, rfl, rgOk_of ok, (r1.newL (rg_vals 0 _) (cq.mono le) q1).2⟩
    · exact q1.elim
  | _ => exact q1.elim
theorem le_lrng2 {fz : Bool} {c c2 : CE} {e e2 : Expr} {p p2 pos pos2 : Pos} (hc : X.calm = true) (hg : L2.Gl X "list") (hm : X.mg "list" = none) (hg2 : L2.Gl X "range") (hm2 : X.mg "range" = none) (hst : isStar e = false) (hst2 : isStar e2 = false) (he : PE X e (LE G X t Wx (wpE O c))) (he2 : PE X e2 (LE G X t Wx (wpE O c2))) :
    PE X (.Call (.Name "list" p) [.Call (.Name "range" p2) [e, e2] [] pos2] [] pos) (LE G X t Wx (wpE O (.opn .lrng2 fz (.cons c (.cons c2 .nil))))) := by
  refine pe_imp (L2.pe_listRg hc hg hm (L2.prg_2 hg2 hm2 he he2 (star_cons hst) (star_cons hst2) (star_any (by simp [noStars, hst2]))) rfl) fun σ H Q q => ?_
  obtain ⟨W, env, h, Qp, Xp, rs, w, cq, cx⟩ := q
  simp only [wpE, wpEs] at w
  refine ⟨W, env, h, _, Xp, rs, w, fun W1 v h1 x H1 le r1 rv q1 => ⟨W1, env, h1, _, Xp, r1, q1, fun W2 v2 h2 x2 H2 le2 r2 rv2 q2 => ?_, cx.mono le⟩, cx⟩
  cases v with
  | int a =>
    cases v2 with
    | int b =>
      obtain rfl := rv.intV
      obtain rfl := rv2.intV
      simp only [opV] at q2
      split at q2
      · rename_i ok
        exact ⟨a, b, rfl, rfl, rgOk_of ok, (r2.newL (rg_vals a _) ((cq.mono le).mono le2) q2).2⟩
      · exact q2.elim
    | _ => exact q2.elim
  | _ => cases v2 <;> exact q2.elim
end
end PC

set_option Elab.async false
set_option maxRecDepth 100000
set_option maxHeartbeats 2000000
/-! PC27: the compact form against the text. -/
namespace PC
open PySem PySem.Spec PyProof.Rows
open L2 (V HO Hp upd upd_same upd_ne Rd SqL SqT Cx Inv TE TT TA TS TG TGs TI VK PE PT PW PA PK PS PSs PG PGs PI PTs It R2 OpR CallR Un UB HOk ObjOk Env0 FnOk Sp XK Room frs CR EP Takes Ends FpOk BlkOk cloFrom FnScope SP)

structure Tb where
  defs : List (Str × List Str)
  errs : List (Str × Option Str)
  cons : List (Str × PV)
structure Sc where
  N : List Str
  sc : Scope
  own : Str → Bool
/-- a lambda may be made: which, its parameters, body, scope; the maker's scope, names; the slots of what is captured -/
abbrev LC := Nat → Arguments → Expr → Scope → Scope → List Str → List Nat → Bool
def visB (sc : Scope) (x : Str) : Bool := match sc.names.lookup x with
  | some .local => true
  | some .cell => true
  | some .free => true
  | _ => false
def glB (sc : Scope) (x : Str) : Bool := match sc.names.lookup x with
  | some .globalImplicit => true
  | _ => false
def dbg (x : Str) : Bool := !(x == ("__debug__" : Str)) && !(x == ("__classdict__" : Str))
def Sc.blk (S : Sc) (scope : Scope) : Sc := { S with sc := L2.relS scope S.sc, own := fun x => scope.names.lookup x == some .cell }
def ownL (N : List Str) : List Nat → List (Str × Nat)
  | [] => []
  | i :: r => ((N[i]?).getD "", i) :: ownL N r
def isSet : Expr → Bool
  | .Set _ _ _ => true
  | _ => false
def plainIx : Expr → Bool
  | .Name _ _ => true
  | .Constant _ _ _ => true
  | .BinOp _ _ _ _ => true
  | .UnaryOp _ _ _ => true
  | .Call _ _ _ _ => true
  | .Subscript _ _ _ => true
  | _ => false
def kdB (sc : Scope) (k : Kd) (e : Expr) : Bool := match e with
  | .Name x _ => decide (x = Str.ofString (kdN k)) && glB sc x
  | _ => false
def kdsB (sc : Scope) : List Kd → List Expr → Bool
  | [], [] => true
  | k :: ks, e :: es => kdB sc k e && kdsB sc ks es
  | _, _ => false
/-- an expression whose test is its truth -/
def plainT : Expr → Bool
  | .BoolOp _ _ _ => false
  | .UnaryOp .Not _ _ => false
  | .Compare _ _ _ _ => false
  | .IfExp _ _ _ _ => false
  | _ => true
theorem plainT_ok {e : Expr} (h : plainT e = true) (env : PySem.Env) (whole : Sem Value) : isTrue e env whole = (do let v ← whole; standAt e.pos; holding [v] (truthy v)) := by
  cases e with
  | UnaryOp op x p => cases op <;> first | rfl | cases h
  | _ => first | rfl | cases h
def cstB (T : Tb) (S : Sc) (v : PV) (e : Expr) : Bool := match e with
  | .Constant c _ _ => (match c, v with
    | .none, .non => true
    | .bool a, .bl b => decide (a = b)
    | .int a, .int b => decide (a = b)
    | .str a, .str b => decide (a = b)
    | _, _ => false)
  | .Name x _ => glB S.sc x && dbg x && (match v with
    | .fn i => (match T.defs[i]? with
      | some p => decide (p.1 = x)
      | none => false)
    | v => (match T.cons.lookup x with
      | some u => u.same v
      | none => false))
  | _ => false
mutual
def chkE (T : Tb) (L : LC) (S : Sc) : CE → Expr → Bool
  | .stuck, _ => true
  | .nil, _ => false
  | .var i, e => (match e with
    | .Name x _ => decide (S.N[i]? = some x) && visB S.sc x && dbg x
    | _ => false)
  | .cst v, e => cstB T S v e
  | .bin op _ a b, e => (match e with
    | .BinOp x o y _ => decide (o = pyOp op) && chkE T L S a x && chkE T L S b y
    | _ => false)
  | .neg a, e => (match e with
    | .UnaryOp .USub x _ => chkE T L S a x
    | _ => false)
  | .cmp op a b, e => (match e with
    | .Compare x [o] [y] _ => decide (o = pyCmp op) && !behindInMarks (pyCmp op) y && chkE T L S a x && chkE T L S b y
    | _ => false)
  | .chain o1 o2 a b c, e => (match e with
    | .Compare x [p1, p2] [y, z] _ => decide (p1 = pyCmp o1) && decide (p2 = pyCmp o2) && !lastMarks [pyCmp o1, pyCmp o2] [y, z] && chkE T L S a x && chkE T L S b y && chkE T L S c z
    | _ => false)
  | .and a b, e => (match e with
    | .BoolOp .And (x :: y :: r) p => chkE T L S a x && (match r with
      | [] => chkE T L S b y
      | z :: r => chkE T L S b (.BoolOp .And (y :: z :: r) p))
    | _ => false)
  | .or a b, e => (match e with
    | .BoolOp .Or (x :: y :: r) p => chkE T L S a x && (match r with
      | [] => chkE T L S b y
      | z :: r => chkE T L S b (.BoolOp .Or (y :: z :: r) p))
    | _ => false)
  | .not a, e => (match e with
    | .UnaryOp .Not x _ => chkE T L S a x
    | _ => false)
  | .ite c a b, e => (match e with
    | .IfExp x y z _ => chkE T L S c x && chkE T L S a y && chkE T L S b z
    | _ => false)
  | .tup es, e => (match e with
    | .Tuple l _ _ => noStars l && chkEs T L S es l
    | _ => false)
  | .lst _ es, e => (match e with
    | .List l _ => chkEs T L S es l
    | _ => false)
  | .dict0 _, e => (match e with
    | .Dict [] [] _ => true
    | _ => false)
  | .comp _ elt tg it cond own, e => (match e with
    | .ListComp x [⟨t, i, ifs, 0⟩] scope _ => L2.blkC S.N S.sc scope (ownL S.N own) && ((ownL S.N own).all fun p => !decide (scope.names.lookup p.1 = some .free)) && (tg.slots.all fun j => decide (j ∈ own)) && !isSet i && chkI T L S it t i && chkT T L (S.blk scope) tg t &&
      chkC T L (S.blk scope) cond ifs && chkE T L (S.blk scope) elt x
    | _ => false)
  | .comp2 _ elt tg it cond tg1 it1 cond1 own, e => (match e with
    | .ListComp x [⟨t, i, ifs, 0⟩, ⟨t1, i1, ifs1, 0⟩] scope _ => L2.blkC S.N S.sc scope (ownL S.N own) && ((ownL S.N own).all fun p => !decide (scope.names.lookup p.1 = some .free)) && (tg.slots.all fun j => decide (j ∈ own)) && (tg1.slots.all fun j => decide (j ∈ own)) && !isSet i && !isSet i1 && chkI T L S it t i && chkT T L (S.blk scope) tg t &&
      chkC T L (S.blk scope) cond ifs && chkI T L (S.blk scope) it1 t1 i1 && chkT T L (S.blk scope) tg1 t1 && chkC T L (S.blk scope) cond1 ifs1 && chkE T L (S.blk scope) elt x
    | _ => false)
  | .idx a i, e => (match e with
    | .Subscript x y _ => plainIx y && chkE T L S a x && chkE T L S i y
    | _ => false)
  | .slc _ a lo hi, e => (match e with
    | .Subscript x (.Slice l h none _) _ => chkE T L S a x && (match l with
        | none => lo.isNil
        | some y => !lo.isNil && chkE T L S lo y) && (match h with
        | none => hi.isNil
        | some y => !hi.isNil && chkE T L S hi y)
    | _ => false)
  | .rev _ a, e => (match e with
    | .Subscript x (.Slice none none (some (.UnaryOp .USub (.Constant (.int 1) _ _) _)) _) _ => chkE T L S a x
    | _ => false)
  | .call f args kws perm, e => (match e with
    | .Call (.Name x _) es ks _ => glB S.sc x && dbg x && (match T.defs[f]? with
        | some p => decide (p.1 = x) && (match kwNames ks with
          | some kn => kwOk p.2 args.len kn perm && decide (kws.len = kn.length)
          | none => false)
        | none => false) && noStars es && (!es.isEmpty || decide (args.len = 0)) && chkEs T L S args es && chkKs T L S kws ks
    | _ => false)
  | .callv i args, e => (match e with
    | .Call (.Name x _) es [] _ => decide (S.N[i]? = some x) && visB S.sc x && dbg x && noStars es && (!es.isEmpty || decide (args.len = 0)) && chkEs T L S args es
    | _ => false)
  | .bi b _ args, e => (match e with
    | .Call (.Name x _) (y :: es) [] _ => decide (x = Str.ofString (biN b)) && glB S.sc x && noStars (y :: es) && chkEs T L S args (y :: es)
    | _ => false)
  | .opn .items true (.cons a .nil), e => (match e with
    | .Call (.Name x _) [.Call (.Attribute o name apos) [] [] cpos] [] _ => decide (x = "list") && decide (name = "items") && glB S.sc x && plainRecv o && (apos.endLine == cpos.line) && chkE T L S a o
    | _ => false)
  | .opn .lrng1 _ (.cons a .nil), e => (match e with
    | .Call (.Name x _) [.Call (.Name y _) [u] [] _] [] _ => decide (x = "list") && decide (y = "range") && glB S.sc x && glB S.sc y && !isStar u && chkE T L S a u
    | _ => false)
  | .opn .lrng2 _ (.cons a (.cons b .nil)), e => (match e with
    | .Call (.Name x _) [.Call (.Name y _) [u, v] [] _] [] _ => decide (x = "list") && decide (y = "range") && glB S.sc x && glB S.sc y && !isStar u && !isStar v && chkE T L S a u && chkE T L S b v
    | _ => false)
  | .opn _ _ _, _ => false
  | .isi a ks, e => (match e with
    | .Call (.Name x _) [y, z] [] _ => decide (x = "isinstance") && glB S.sc x && !isStar y && chkE T L S a y && (match z with
      | .Tuple es _ _ => decide (ks.length ≤ 100) && kdsB S.sc ks es
      | z => (match ks with
        | [k] => kdB S.sc k z
        | _ => false))
    | _ => false)
  | .meth m a args, e => (match e with
    | .Call (.Attribute o name apos) es [] pos => decide (name = Str.ofString (mtN m)) && plainRecv o && (apos.endLine == pos.line) && noStars es && decide (es.length < 30) && (!es.isEmpty || decide (args.len = 0)) && chkE T L S a o && chkEs T L S args es
    | _ => false)
  | .lam l caps, e => (match e with
    | .Lambda ps x sc _ => L l ps x sc S.sc S.N caps
    | _ => false)
  | .frz a, e => plainT e && chkE T L S a e
def chkEs (T : Tb) (L : LC) (S : Sc) : CEs → List Expr → Bool
  | .nil, es => es.isEmpty
  | .cons c cs, es => (match es with
    | e :: es => !isStar e && chkE T L S c e && chkEs T L S cs es
    | [] => false)
  | .star c cs, es => (match es with
    | .Starred e _ :: es => chkE T L S c e && chkEs T L S cs es
    | _ => false)
def chkKs (T : Tb) (L : LC) (S : Sc) : CEs → List Keyword → Bool
  | .nil, ks => ks.isEmpty
  | .cons c cs, ks => (match ks with
    | ⟨_, e, _⟩ :: ks => chkE T L S c e && chkKs T L S cs ks
    | [] => false)
  | .star _ _, _ => false
/-- a clause's tests -/
def chkC (T : Tb) (L : LC) (S : Sc) : CEs → List Expr → Bool
  | .nil, es => es.isEmpty
  | .cons c cs, es => (match es with
    | [e] => (match cs with
      | .nil => chkE T L S c e
      | _ => false)
    | _ => false)
  | .star _ _, _ => false
def chkT (T : Tb) (L : LC) (S : Sc) : CT → Expr → Bool
  | .name i cl, e => (match e with
    | .Name x _ => decide (S.N[i]? = some x) && (match cl with
      | false => decide (S.sc.names.lookup x = some .local)
      | true => decide (S.sc.names.lookup x = some .cell) && S.own x)
    | _ => false)
  | .tup ts, e => (match e with
    | .Tuple es _ _ => noStars es && chkTs T L S ts es
    | _ => false)
  | .idx o i, e => (match e with
    | .Subscript x y _ => plainIx y && chkE T L S o x && chkE T L S i y
    | _ => false)
def chkTs (T : Tb) (L : LC) (S : Sc) : CTs → List Expr → Bool
  | .nil, es => es.isEmpty
  | .cons t ts, es => (match es with
    | e :: es => chkT T L S t e && chkTs T L S ts es
    | [] => false)
def chkI (T : Tb) (L : LC) (S : Sc) : CI → Expr → Expr → Bool
  | .e a, _, e => chkE T L S a e
  | .rng1 a, _, e => (match e with
    | .Call (.Name x _) [y] [] _ => decide (x = "range") && glB S.sc x && !isStar y && chkE T L S a y
    | _ => false)
  | .rng2 a b, _, e => (match e with
    | .Call (.Name x _) [y, z] [] _ => decide (x = "range") && glB S.sc x && !isStar y && !isStar z && chkE T L S a y && chkE T L S b z
    | _ => false)
  | .enum a, tg, e => (match tg with
    | .Tuple _ _ _ => (match e with
      | .Call (.Name x _) [y] [] _ => decide (x = "enumerate") && glB S.sc x && !isStar y && chkE T L S a y
      | _ => false)
    | _ => false)
  | .zip a b, _, e => (match e with
    | .Call (.Name x _) [y, z] [] _ => decide (x = "zip") && glB S.sc x && !isStar y && !isStar z && chkE T L S a y && chkE T L S b z
    | _ => false)
  | .zipS a, _, e => (match e with
    | .Call (.Name x _) [.Starred y _] [] _ => decide (x = "zip") && glB S.sc x && chkE T L S a y
    | _ => false)
end
end PC

set_option Elab.async false
set_option maxRecDepth 100000
set_option maxHeartbeats 4000000
/-! PC28: what fits the text keeps its wp. -/
namespace PC
open PySem PySem.Spec PyProof.Rows
open L2 (V HO Hp upd upd_same upd_ne Rd SqL SqT Cx Inv TE TT TA TS TG TGs TI VK PE PT PW PA PK PS PSs PG PGs PI PTs It R2 OpR CallR Un UB HOk ObjOk Env0 FnOk Sp XK Room frs CR EP Takes Ends FpOk BlkOk cloFrom FnScope SP)

def bltNames : List Str := ["range", "enumerate", "zip", "isinstance", "len", "abs", "int", "list", "tuple", "all", "any", "sum", "bool", "str", "dict", "sorted"].map Str.ofString
/-- what stands around all frames -/
structure Wf (G : Gs) (P : Prog) (U : Uni) (T : Tb) (d : Nat) : Prop where
  defs : ∀ (i : Nat) (p : Str × List Str), T.defs[i]? = some p → DefOk G P U.pr U.w U.mg U.B d i p.1 p.2
  dflt : ∀ i, (∃ vs h Qp Xp, (orc P d).call i vs h Qp Xp) → ∃ nm ps, DefOk G P U.pr U.w U.mg U.B d i nm ps
  lams : ∀ l, (∃ cap vs h Qp Xp, (orc P d).lam l cap vs h Qp Xp) → LamRun G P U d l
  keep : ∀ f, PySem.W.keepIn G.K (.ref (G.adr f)) = true
  mg : ∀ x ∈ bltNames, U.mg x = none
  errs : ∀ (c : Nat) (p : Str × Option Str), T.errs[c]? = some p → ErrA G U c p
  cons : ∀ x v, T.cons.lookup x = some v → ∃ (y : V) (u : Value), U.mg x = some u ∧ L2.RelV y u ∧ ∀ W, RV G.adr G.K W v y
  exm : ∀ c c', c < G.exn → c' < G.exn → PySem.W.exmOne G.K (.ref (G.exC c)) (.ref (G.exC c')) = some (decide (c = c'))
/-- a frame, seen by the checker -/
structure Fr1 (G : Gs) (P : Prog) (U : Uni) (T : Tb) (d : Nat) (L : LC) (S : Sc) (O : Orc) (X : Cx) (t : Fm) (Wx : L2.WX) : Prop where
  amb : Amb G U d X t Wx
  N : X.N = S.N
  sc : X.env.scope = S.sc
  own : ∀ x, S.own x = true → X.fn x = true
  kind : S.sc.kind = .function
  call : O.call = (orc P d).call
  lam : O.lam = (orc P d).lam
  tok : O.tok = d
  st : O.st = t.st
  nw : (∃ l ps e sc msc N caps, L l ps e sc msc N caps = true) → ∀ y c, X.env.cells.lookup y = some c → t.W0.cv c = none
  code : (∃ l ps e sc msc N caps, L l ps e sc msc N caps = true) → t.lm = true ∧ ∃ c Pt, X.env.code = .ref c ∧ LamX.TabB X.base X.mg c Pt ∧ (Pt, X.env.qual ++ "<lambda>") ∈ G.T ∧ ∀ p ∈ G.T, p.1 = Pt → p.2 = X.env.qual ++ "<lambda>"
/-- what the lambda checker says -/
def LCok (G : Gs) (L : LC) : Prop := ∀ l ps e sc msc N caps, L l ps e sc msc N caps = true → ∃ fr ns M, (∀ ci : Clo, ci.l = l → LamFacts ⟨ps, e, sc, ns, fr, M⟩ ci → G.LG ci) ∧ (∀ env : PySem.Env, defaultsOf ps env = ([], [])) ∧
  (∀ y ∈ sc.names, y.2 = .free → msc.names.lookup y.1 = some .cell ∨ msc.names.lookup y.1 = some .free) ∧ (∀ y, (y, NameKind.free) ∈ sc.names ↔ y ∈ fr) ∧ caps.map (fun j => N[j]?) = fr.map some ∧ fr.Nodup
theorem visB_ok {sc : Scope} {x : Str} (h : visB sc x = true) : L2.Vis sc x := by
  unfold visB at h
  unfold L2.Vis
  split at h
  · exact .inl (by assumption)
  · exact .inr (.inl (by assumption))
  · exact .inr (.inr (by assumption))
  · cases h
theorem dbg_ok {x : Str} (h : dbg x = true) : (x == ("__debug__" : Str)) = false ∧ (x == ("__classdict__" : Str)) = false := by
  unfold dbg at h
  simpa [Bool.and_eq_true, Bool.not_eq_true'] using h
theorem ownL_map {N : List Str} : ∀ {l : List Nat}, (ownL N l).map (·.2) = l
  | [] => rfl
  | i :: r => by simp [ownL, ownL_map]
theorem isSet_ok {e : Expr} {env : PySem.Env} (h : isSet e = false) (x : Value) : foldedSetIterable e env x = pure x := by
  cases e <;> first | rfl | cases h
theorem plainIx_ok {e : Expr} (h : plainIx e = true) : L2.PlainIx e := by
  intro o i
  cases e <;> first | rfl | cases h
theorem plainIx_set {o e : Expr} {env : PySem.Env} {pos : Pos} (h : plainIx e = true) : ∀ v, assign (.Subscript o e pos) env v = (do
      let ov ← holding [v] (eval o env)
      let iv ← holding [v, ov] (eval e env)
      standAt pos
      holding [v, ov, iv] (setItem ov iv v)
      release [v, ov, iv] []) := by
  intro v
  cases e <;> first | rfl | cases h
theorem chkTs_len {T : Tb} {L : LC} {S : Sc} : ∀ {cs : CTs} {es : List Expr}, chkTs T L S cs es = true → cs.len = es.length
  | .nil, [], _ => rfl
  | .nil, _ :: _, h => by simp [chkTs] at h
  | .cons _ _, [], h => by simp [chkTs] at h
  | .cons c cs, e :: es, h => by
    simp only [chkTs, Bool.and_eq_true] at h
    simp [CTs.len, chkTs_len h.2]
section
variable {G : Gs} {P : Prog} {U : Uni} {T : Tb} {d : Nat} {L : LC} {O : Orc}
theorem Fr1.gl {S : Sc} {X : Cx} {t : Fm} {Wx : L2.WX} (F : Fr1 G P U T d L S O X t Wx) {x : Str} (h : glB S.sc x = true) : L2.Gl X x := by
  unfold glB at h
  show X.env.scope.names.lookup x = _
  rw [F.sc]
  split at h
  · assumption
  · cases h
theorem Fr1.blt {S : Sc} {X : Cx} {t : Fm} {Wx : L2.WX} (F : Fr1 G P U T d L S O X t Wx) (w : Wf G P U T d) {x : Str} (h : x ∈ bltNames) : X.mg x = none := by rw [F.amb.mg]; exact w.mg x h
theorem Fr1.hu {S : Sc} {X : Cx} {t : Fm} {Wx : L2.WX} (F : Fr1 G P U T d L S O X t Wx) : X.A.units + 65 < cLine := by
  have := F.amb.room.un
  omega
/-- the frame of a comprehension's block -/
theorem Fr1.blk {S : Sc} {X Y : Cx} {t tb : Fm} {Wx : L2.WX} {scope : Scope} (F : Fr1 G P U T d L S O X t Wx) (B : IsBlk X t scope Y tb) (hk : scope.kind = .function) : Fr1 G P U T d L (S.blk scope) O Y tb (fun _ _ _ _ => False) := by
  obtain ⟨s, H, C, cl, fp, e⟩ := B.eq
  have A := F.amb
  subst e
  refine ⟨⟨A.pr, A.w, A.mg, A.B, A.K, L2.takes_none5, A.room, PassesOwn.never, A.calm, A.nd, B.tt.trans A.tt, B.fm, fun y c h => ⟨B.cf y c h, B.cb (fun y c h => (A.cf y c h).2) y c h⟩⟩, F.N, ?_, fun x h => h, hk, F.call, F.lam, F.tok, by rw [B.st]; exact F.st, fun z y c h => ?_, fun z => ?_⟩
  · show L2.relS scope X.env.scope = _
    rw [F.sc]; rfl
  · rw [B.w0]
    exact B.nw (F.nw z) y c h
  · obtain ⟨h1, h2⟩ := F.code z
    exact ⟨by rw [B.lm]; exact h1, h2⟩
variable {w : Wf G P U T d}
theorem arg_nil {S : Sc} {cs : CEs} {es : List Expr} (h : (!es.isEmpty || decide (cs.len = 0)) = true) : es = [] → cs = .nil := fun e => by
  subst e
  simp at h
  cases cs with
  | nil => rfl
  | cons _ _ => simp [CEs.len] at h
  | star _ _ => simp [CEs.len] at h
theorem kdB_ok {S : Sc} {X : Cx} {t : Fm} {Wx : L2.WX} (F : Fr1 G P U T d L S O X t Wx) (w : Wf G P U T d) {k : Kd} {e : Expr} (h : kdB S.sc k e = true) : TyName X k e := by
  unfold kdB at h
  split at h
  · rename_i x p
    simp only [Bool.and_eq_true, decide_eq_true_eq] at h
    obtain ⟨rfl, h2⟩ := h
    refine ⟨p, rfl, F.gl h2, F.blt w ?_, ?_, ?_⟩ <;> cases k <;> decide +kernel
  · cases h
theorem kdsB_ok {S : Sc} {X : Cx} {t : Fm} {Wx : L2.WX} (F : Fr1 G P U T d L S O X t Wx) (w : Wf G P U T d) : ∀ {ks : List Kd} {es : List Expr}, kdsB S.sc ks es = true → TyNames X ks es
  | [], [], _ => .nil
  | k :: ks, e :: es, h => by
    simp only [kdsB, Bool.and_eq_true] at h
    exact .cons (kdB_ok F w h.1) (kdsB_ok F w h.2)
  | [], _ :: _, h => by simp [kdsB] at h
  | _ :: _, [], h => by simp [kdsB] at h
theorem cstB_ok {S : Sc} {X : Cx} {t : Fm} {Wx : L2.WX} (F : Fr1 G P U T d L S O X t Wx) (w : Wf G P U T d) {v : PV} {e : Expr} (h : cstB T S v e = true) : PE X e (LE G X t Wx (wpE O (.cst v))) := by
  unfold cstB at h
  split at h
  · split at h
    · exact le_cst L2.pe_non fun _ => .non
    · rw [of_decide_eq_true h]; exact le_cst L2.pe_bl fun _ => .bl _
    · rw [of_decide_eq_true h]; exact le_cst L2.pe_int fun _ => .int _
    · rw [of_decide_eq_true h]; exact le_cst L2.pe_str fun _ => .str _
    · cases h
  · rename_i x p
    simp only [Bool.and_eq_true] at h
    obtain ⟨⟨h1, h2⟩, h3⟩ := h
    split at h3
    · rename_i i
      split at h3
      · rename_i q eq
        have h3 := of_decide_eq_true h3
        have D := w.defs i q eq
        have m : X.mg x = some (.ref (G.adr i)) := by rw [F.amb.mg, ← h3]; exact D.m
        have gl := F.gl h1
        refine le_cst (x := .ref (G.adr i)) ⟨fun pins s σ H Q I q => ?_⟩ fun _ => .fn
        exact L2.ld_glob I gl m ⟨.ref (G.adr i), H, I, rfl, q⟩ (dbg_ok h2).1
      · cases h3
    · split at h3
      · rename_i u eu
        obtain ⟨y, z, m, rel, rv⟩ := w.cons _ _ eu
        rw [← F.amb.mg] at m
        rw [← same_eq h3]
        refine le_cst (x := y) ⟨fun pins s σ H Q I q => ?_⟩ rv
        exact L2.ld_glob I (F.gl h1) m ⟨y, H, I, rel, q⟩ (dbg_ok h2).1
      · cases h3
  · cases h
end
end PC

set_option Elab.async false
set_option maxRecDepth 100000
set_option maxHeartbeats 4000000
/-! PC29: expressions that fit the text keep their wp. -/
namespace PC
open PySem PySem.Spec PyProof.Rows
open L2 (V HO Hp upd upd_same upd_ne Rd SqL SqT Cx Inv TE TT TA TS TG TGs TI VK PE PT PW PA PK PS PSs PG PGs PI PTs It R2 OpR CallR Un UB HOk ObjOk Env0 FnOk Sp XK Room frs CR EP Takes Ends FpOk BlkOk cloFrom FnScope SP)
section
variable {G : Gs} {P : Prog} {U : Uni} {T : Tb} {d : Nat} {L : LC} {O : Orc}
def isBool : Expr → Bool
  | .BoolOp _ (_ :: _ :: _) _ => true
  | _ => false
theorem le_andR {S : Sc} {X : Cx} {t : Fm} {Wx : L2.WX} {op : BoolOp} {b : CE} {y : Expr} {p : Pos} {r : List Expr} (h1 : r = [] → PE X y (LE G X t Wx (wpE O b))) (h2 : r ≠ [] → PE X (.BoolOp op (y :: r) p) (LE G X t Wx (wpE O b))) : PE X (.BoolOp op (y :: r) p) (LE G X t Wx (wpE O b)) := by
  cases r with
  | nil => exact L2.pe_one (h1 rfl)
  | cons _ _ => exact h2 (by simp)
theorem lt_andR {X : Cx} {t : Fm} {Wx : L2.WX} {op : BoolOp} {b : CE} {y : Expr} {p : Pos} {r : List Expr} (h1 : r = [] → PT X y (LT G X t Wx (wpB O b))) (h2 : r ≠ [] → PW X (.BoolOp op (y :: r) p) (LT G X t Wx (wpB O b))) : PW X (.BoolOp op (y :: r) p) (LT G X t Wx (wpB O b)) := by
  cases r with
  | nil => exact lt_one (h1 rfl)
  | cons _ _ => exact h2 (by simp)
def shaped : CE → Bool
  | .and _ _ => true
  | .or _ _ => true
  | .not _ => true
  | .cmp _ _ _ => true
  | .chain _ _ _ _ _ => true
  | .ite _ _ _ => true
  | .stuck => true
  | _ => false
theorem chk_opn {S : Sc} : ∀ {o : OpN} {fz : Bool} {l : CEs} {e : Expr}, chkE T L S (.opn o fz l) e = true → plainT e = true
  | .items, true, .cons a .nil, e, h => by
    simp only [chkE] at h
    split at h
    · rfl
    · cases h
  | .lrng1, fz, .cons a .nil, e, h => by
    simp only [chkE] at h
    split at h
    · rfl
    · cases h
  | .lrng2, fz, .cons a (.cons b .nil), e, h => by
    simp only [chkE] at h
    split at h
    · rfl
    · cases h
  | .items, false, _, e, h => by simp [chkE] at h
  | .items, true, .nil, e, h => by simp [chkE] at h
  | .items, true, .star _ _, e, h => by simp [chkE] at h
  | .items, true, .cons _ (.star _ _), e, h => by simp [chkE] at h
  | .items, true, .cons _ (.cons _ _), e, h => by simp [chkE] at h
  | .lrng1, _, .nil, e, h => by simp [chkE] at h
  | .lrng1, _, .star _ _, e, h => by simp [chkE] at h
  | .lrng1, _, .cons _ (.star _ _), e, h => by simp [chkE] at h
  | .lrng1, _, .cons _ (.cons _ _), e, h => by simp [chkE] at h
  | .lrng2, _, .nil, e, h => by simp [chkE] at h
  | .lrng2, _, .star _ _, e, h => by simp [chkE] at h
  | .lrng2, _, .cons _ .nil, e, h => by simp [chkE] at h
  | .lrng2, _, .cons _ (.star _ _), e, h => by simp [chkE] at h
  | .lrng2, _, .cons _ (.cons _ (.cons _ _)), e, h => by simp [chkE] at h
  | .lrng2, _, .cons _ (.cons _ (.star _ _)), e, h => by simp [chkE] at h
theorem chk_plain {S : Sc} {c : CE} {e : Expr} (h : chkE T L S c e = true) (n : shaped c = false) : plainT e = true := by
  cases c
  all_goals first
    | (simp [shaped] at n; done)
    | (simp only [chkE, Bool.and_eq_true] at h; exact h.1)
    | (simp only [chkE] at h; split at h <;> first | rfl | cases h)
    | (simp only [chkE, cstB] at h; split at h <;> first | rfl | cases h)
    | (exact chk_opn h)
    | (simp [chkE] at h)
theorem wpB_ite {cc ca cb : CE} {env : Env} {h : Hea} {kp : Bool → Hea → Prop} {Xp : KX} : wpB O (.ite cc ca cb) env h kp Xp = wpB O cc env h (fun b h1 => match b with
    | true => wpB O ca env h1 kp Xp
    | false => wpB O cb env h1 kp Xp) Xp := by
  simp only [wpB, wpE]
  congr 1
  funext v h1
  cases e : truV h1 v with
  | none => rfl
  | some b => cases b <;> rfl
theorem lt_ite {X : Cx} {t : Fm} {Wx : L2.WX} {cc ca cb : CE} {c a b : Expr} {pos : Pos} (hc : PT X c (LT G X t Wx (wpB O cc))) (ha : PT X a (LT G X t Wx (wpB O ca))) (hb : PT X b (LT G X t Wx (wpB O cb))) : PT X (.IfExp c a b pos) (LT G X t Wx (wpB O (.ite cc ca cb))) := by
  refine ⟨fun pins s σ H Q I q => ?_⟩
  obtain ⟨W, env, h, kp, Xp, rs, w, c1, cx⟩ := q
  rw [wpB_ite] at w
  refine isTrue_IfExp (L2.thn (hc.run pins s σ H (fun b H1 => ∃ W1 h1, Wle W W1 ∧ RS G X t W1 env h1 σ H1 ∧ match b with
    | true => wpB O ca env h1 kp Xp
    | false => wpB O cb env h1 kp Xp) I ⟨W, env, h, _, Xp, rs, w, fun W1 b h1 H1 le r1 q1 => ⟨W1, h1, le, r1, q1⟩, cx⟩) fun b s1 ⟨H1, I1, W1, h1, le, r1, q1⟩ => ?_)
  cases b with
  | true => exact ha.run pins s1 σ H1 Q I1 ⟨W1, env, h1, kp, Xp, r1, q1, c1.mono le, cx.mono le⟩
  | false => exact hb.run pins s1 σ H1 Q I1 ⟨W1, env, h1, kp, Xp, r1, q1, c1.mono le, cx.mono le⟩
theorem rest_ok {S : Sc} {op : BoolOp} {b : CE} {y : Expr} {r : List Expr} {p : Pos} {f : Expr → Bool} (h : (match r with
      | [] => f y
      | z :: r => f (.BoolOp op (y :: z :: r) p)) = true) : (r = [] → f y = true) ∧ (r ≠ [] → f (.BoolOp op (y :: r) p) = true) := by
  cases r with
  | nil => exact ⟨fun _ => h, fun z => (z rfl).elim⟩
  | cons z r => exact ⟨fun z => (by cases z), fun _ => h⟩
theorem star_all {env : PySem.Env} {pos : Pos} : ∀ {es : List Expr}, noStars es = true → (backTo pos (starEach es env)).all (fun x => !x.1) = true
  | [], _ => rfl
  | e :: es, h => by
    simp only [noStars, List.all_cons, Bool.and_eq_true, Bool.not_eq_true'] at h
    rw [star_cons h.1]
    show (!false && (backTo pos (starEach es env)).all fun x => !x.1) = true
    rw [star_all (es := es) h.2]; rfl
theorem mt_slot : ∀ m : Mt, Slot "list" (Str.ofString (mtN m)) ("list." ++ mtN m)
  | .append => PySem.F.slot_list_append
  | .extend => PySem.F.slot_list_extend
  | .pop => PySem.F.slot_list_pop
  | .popAt => PySem.F.slot_list_pop
theorem mt_type : ∀ m : Mt, typeOf (.builtin ("list." ++ mtN m)) = pure (.type "method_descriptor")
  | .append => PySem.F.type_list_append
  | .extend => PySem.F.type_list_extend
  | .pop => PySem.F.type_list_pop
  | .popAt => PySem.F.type_list_pop
theorem noBool {e : Expr} (h : plainT e = true) (b : isBool e = true) : False := by
  cases e <;> first
    | (cases h; done)
    | (cases b; done)
mutual
theorem sndE (w : Wf G P U T d) (lc : LCok G L) : ∀ (c : CE) {S : Sc} {X : Cx} {t : Fm} {Wx : L2.WX} {e : Expr}, Fr1 G P U T d L S O X t Wx → chkE T L S c e = true → PE X e (LE G X t Wx (wpE O c))
  | .stuck, S, X, t, Wx, e, F, h => le_stuck
  | .nil, S, X, t, Wx, e, F, h => by simp [chkE] at h
  | .var i, S, X, t, Wx, e, F, h => by
    simp only [chkE] at h
    split at h
    · simp only [Bool.and_eq_true, decide_eq_true_eq] at h
      exact le_var (by rw [F.N]; exact h.1.1) (by rw [F.sc]; exact visB_ok h.1.2) (dbg_ok h.2).1 (dbg_ok h.2).2
    · cases h
  | .cst v, S, X, t, Wx, e, F, h => by
    simp only [chkE] at h
    exact cstB_ok F w h
  | .bin op fz a b, S, X, t, Wx, e, F, h => by
    simp only [chkE] at h
    split at h
    · simp only [Bool.and_eq_true, decide_eq_true_eq] at h
      obtain ⟨⟨rfl, h1⟩, h2⟩ := h
      exact le_bin F.amb.K (sndE w lc a F h1) (sndE w lc b F h2)
    · cases h
  | .neg a, S, X, t, Wx, e, F, h => by
    simp only [chkE] at h
    split at h
    · exact le_neg (sndE w lc a F h)
    · cases h
  | .cmp op a b, S, X, t, Wx, e, F, h => by
    simp only [chkE] at h
    split at h
    · simp only [Bool.and_eq_true, decide_eq_true_eq, Bool.not_eq_true'] at h
      obtain ⟨⟨⟨rfl, hm⟩, h1⟩, h2⟩ := h
      exact le_cmp F.hu F.amb.K hm (sndE w lc a F h1) (sndE w lc b F h2)
    · cases h
  | .chain o1 o2 a b c, S, X, t, Wx, e, F, h => by
    simp only [chkE] at h
    split at h
    · simp only [Bool.and_eq_true, decide_eq_true_eq, Bool.not_eq_true'] at h
      obtain ⟨⟨⟨⟨⟨rfl, rfl⟩, hm⟩, h1⟩, h2⟩, h3⟩ := h
      exact le_chain F.hu F.amb.K hm (sndE w lc a F h1) (sndE w lc b F h2) (sndE w lc c F h3)
    · cases h
  | .and a b, S, X, t, Wx, e, F, h => by
    simp only [chkE] at h
    split at h
    · simp only [Bool.and_eq_true] at h
      obtain ⟨h1, h2⟩ := h
      obtain ⟨r1, r2⟩ := rest_ok (S := S) (b := b) (f := fun z => chkE T L S b z) h2
      exact le_and F.amb.K (sndE w lc a F h1) (le_andR (S := S) (fun z => sndE w lc b F (r1 z)) fun z => sndE w lc b F (r2 z))
    · cases h
  | .or a b, S, X, t, Wx, e, F, h => by
    simp only [chkE] at h
    split at h
    · simp only [Bool.and_eq_true] at h
      obtain ⟨h1, h2⟩ := h
      obtain ⟨r1, r2⟩ := rest_ok (S := S) (b := b) (f := fun z => chkE T L S b z) h2
      exact le_or F.amb.K (sndE w lc a F h1) (le_andR (S := S) (fun z => sndE w lc b F (r1 z)) fun z => sndE w lc b F (r2 z))
    · cases h
  | .not a, S, X, t, Wx, e, F, h => by
    simp only [chkE] at h
    split at h
    · exact le_not F.amb.K (sndE w lc a F h)
    · cases h
  | .ite c a b, S, X, t, Wx, e, F, h => by
    simp only [chkE] at h
    split at h
    · simp only [Bool.and_eq_true] at h
      exact le_ite (sndT w lc c F h.1.1) (sndE w lc a F h.1.2) (sndE w lc b F h.2)
    · cases h
  | .tup es, S, X, t, Wx, e, F, h => by
    simp only [chkE] at h
    split at h
    · simp only [Bool.and_eq_true] at h
      exact le_tup (sndA w lc es F h.2)
    · cases h
  | .lst fz es, S, X, t, Wx, e, F, h => by
    simp only [chkE] at h
    split at h
    · exact le_lst (sndA w lc es F h)
    · cases h
  | .dict0 fz, S, X, t, Wx, e, F, h => by
    simp only [chkE] at h
    split at h
    · exact le_dict0
    · cases h
  | .comp fz elt tg it cond own, S, X, t, Wx, e, F, h => by
    simp only [chkE] at h
    split at h
    · rename_i x tge i ifs scope pos
      simp only [Bool.and_eq_true, Bool.not_eq_true', List.all_eq_true, decide_eq_true_eq, decide_eq_false_iff_not] at h
      obtain ⟨⟨⟨⟨⟨⟨⟨h1, h2⟩, h3⟩, h4⟩, h5⟩, h6⟩, h7⟩, h8⟩ := h
      have ok := L2.blkOk_by h1
      have z := le_comp (fz := fz) (ce := elt) (g := tg) (it := it) (cond := cond) (own := ownL S.N own) (pos := pos) F.amb.calm F.amb.nd F.amb.K (F.tok.trans F.amb.tt.symm) F.st F.amb.fm (fun y c e => (F.amb.cf y c e).1) (sndI w lc it F h5) (by rw [F.N, F.sc]; exact ok) h2 (fun j hj => by rw [ownL_map]; exact h3 j hj)
        (fun Y tb B => by
          have F' := F.blk B ok.kind
          exact ⟨sndG w lc tg F' h6, sndC w lc cond F' h7, sndE w lc elt F' h8⟩) (isSet_ok h4)
      rw [ownL_map] at z
      exact z
    · cases h
  | .comp2 fz elt tg it cond tg1 it1 cond1 own, S, X, t, Wx, e, F, h => by
    simp only [chkE] at h
    split at h
    · rename_i x tge i ifs tge1 i1 ifs1 scope pos
      simp only [Bool.and_eq_true, Bool.not_eq_true', List.all_eq_true, decide_eq_true_eq, decide_eq_false_iff_not] at h
      obtain ⟨⟨⟨⟨⟨⟨⟨⟨⟨⟨⟨⟨h1, h2⟩, h3⟩, h3'⟩, h4⟩, h4'⟩, h5⟩, h6⟩, h7⟩, g5⟩, g6⟩, g7⟩, h8⟩ := h
      have ok := L2.blkOk_by h1
      have z := le_comp2 (fz := fz) (ce := elt) (g := tg) (it := it) (cond := cond) (g1 := tg1) (it1 := it1) (cond1 := cond1) (own := ownL S.N own) (pos := pos) F.amb.calm F.amb.nd F.amb.K (F.tok.trans F.amb.tt.symm) F.st F.amb.fm (fun y c e => (F.amb.cf y c e).1) (sndI w lc it F h5) (by rw [F.N, F.sc]; exact ok) h2 (fun j hj => by rw [ownL_map]; exact h3 j hj) (fun j hj => by rw [ownL_map]; exact h3' j hj)
        (fun Y tb B => by
          have F' := F.blk B ok.kind
          exact ⟨sndG w lc tg F' h6, sndC w lc cond F' h7, sndI w lc it1 F' g5, sndG w lc tg1 F' g6, sndC w lc cond1 F' g7, sndE w lc elt F' h8⟩) (isSet_ok h4) (fun en => isSet_ok h4')
      rw [ownL_map] at z
      exact z
    · cases h
  | .idx a i, S, X, t, Wx, e, F, h => by
    simp only [chkE] at h
    split at h
    · simp only [Bool.and_eq_true] at h
      exact le_idx F.amb.K (sndE w lc a F h.1.2) (sndE w lc i F h.2) (plainIx_ok h.1.1)
    · cases h
  | .slc fz a lo hi, S, X, t, Wx, e, F, h => by
    simp only [chkE] at h
    split at h
    · rename_i x l hh p1 p2
      simp only [Bool.and_eq_true] at h
      obtain ⟨⟨h1, h2⟩, h3⟩ := h
      have K := F.amb.K
      cases l with
      | none =>
        cases hh with
        | none => exact le_slc K (sndE w lc a F h1) L2.po_none L2.po_none (fun _ _ _ _ _ _ _ _ rs q cq cx => part_none h2 rs q cq cx) (fun _ _ _ _ _ _ _ _ rs q cq cx => part_none h3 rs q cq cx)
        | some z =>
          simp only [Bool.and_eq_true, Bool.not_eq_true'] at h3
          exact le_slc K (sndE w lc a F h1) L2.po_none (L2.po_some (sndE w lc hi F h3.2)) (fun _ _ _ _ _ _ _ _ rs q cq cx => part_none h2 rs q cq cx) (fun _ _ _ _ _ _ _ _ rs q cq cx => part_some h3.1 rs q cq cx)
      | some y =>
        simp only [Bool.and_eq_true, Bool.not_eq_true'] at h2
        cases hh with
        | none => exact le_slc K (sndE w lc a F h1) (L2.po_some (sndE w lc lo F h2.2)) L2.po_none (fun _ _ _ _ _ _ _ _ rs q cq cx => part_some h2.1 rs q cq cx) (fun _ _ _ _ _ _ _ _ rs q cq cx => part_none h3 rs q cq cx)
        | some z =>
          simp only [Bool.and_eq_true, Bool.not_eq_true'] at h3
          exact le_slc K (sndE w lc a F h1) (L2.po_some (sndE w lc lo F h2.2)) (L2.po_some (sndE w lc hi F h3.2)) (fun _ _ _ _ _ _ _ _ rs q cq cx => part_some h2.1 rs q cq cx) (fun _ _ _ _ _ _ _ _ rs q cq cx => part_some h3.1 rs q cq cx)
    · cases h
  | .rev fz a, S, X, t, Wx, e, F, h => by
    simp only [chkE] at h
    split at h
    · exact le_rev F.amb.K (sndE w lc a F h)
    · cases h
  | .call f args kws perm, S, X, t, Wx, e, F, h => by
    simp only [chkE] at h
    split at h
    · simp only [Bool.and_eq_true] at h
      obtain ⟨⟨⟨⟨⟨⟨h1, h2⟩, h3⟩, h4⟩, h5⟩, h6⟩, h7⟩ := h
      split at h3
      · rename_i p ep
        simp only [Bool.and_eq_true, decide_eq_true_eq] at h3
        obtain ⟨e1, h3⟩ := h3
        split at h3
        · rename_i kn ek
          simp only [Bool.and_eq_true, decide_eq_true_eq] at h3
          have D := w.defs f p ep
          have A := F.amb
          rw [← A.pr, ← A.w, ← A.mg, ← A.B] at D
          rw [← e1] at h1 h2 ⊢
          exact le_call D A.K A.room A.tk F.call A.fm (F.gl h1) (dbg_ok h2).1 h3.1 ek h3.2 h4 (arg_nil (S := S) h5) (sndA w lc args F h6) (sndK w lc kws F h7)
        · cases h3
      · cases h3
    · cases h
  | .callv i args, S, X, t, Wx, e, F, h => by
    simp only [chkE] at h
    split at h
    · simp only [Bool.and_eq_true, decide_eq_true_eq] at h
      obtain ⟨⟨⟨⟨⟨h1, h2⟩, h3⟩, h4⟩, h5⟩, h6⟩ := h
      exact le_callv F.amb F.call F.lam w.dflt w.lams w.keep (by rw [F.N]; exact h1) (by rw [F.sc]; exact visB_ok h2) (dbg_ok h3).1 (dbg_ok h3).2 h4 (arg_nil (S := S) h5) (sndA w lc args F h6)
    · cases h
  | .bi b fz args, S, X, t, Wx, e, F, h => by
    simp only [chkE] at h
    split at h
    · rename_i x p1 y es p2
      simp only [Bool.and_eq_true, decide_eq_true_eq] at h
      obtain ⟨⟨⟨rfl, h2⟩, h3⟩, h4⟩ := h
      have st := h3
      simp only [noStars, List.all_cons, Bool.and_eq_true, Bool.not_eq_true'] at st
      exact le_bi F.amb.calm F.amb.K (F.gl h2) (F.blt w (by cases b <;> decide +kernel)) (sndA w lc args F h4) (by cases b <;> decide +kernel) (by cases b <;> decide +kernel) (star_cons st.1) (star_any st.2)
    · cases h
  | .opn .items true (.cons a .nil), S, X, t, Wx, e, F, h => by
    simp only [chkE] at h
    split at h
    · rename_i x p1 o name apos cpos p2
      simp only [Bool.and_eq_true, decide_eq_true_eq] at h
      obtain ⟨⟨⟨⟨⟨rfl, rfl⟩, h3⟩, h4⟩, h5⟩, h6⟩ := h
      exact le_items F.amb.calm (sndE w lc a F h6) (F.gl h3) (F.blt w (by decide +kernel)) h4 h5 rfl
    · cases h
  | .opn .lrng1 fz (.cons a .nil), S, X, t, Wx, e, F, h => by
    simp only [chkE] at h
    split at h
    · simp only [Bool.and_eq_true, decide_eq_true_eq, Bool.not_eq_true'] at h
      obtain ⟨⟨⟨⟨⟨rfl, rfl⟩, h3⟩, h4⟩, h5⟩, h6⟩ := h
      exact le_lrng1 F.amb.calm (F.gl h3) (F.blt w (by decide +kernel)) (F.gl h4) (F.blt w (by decide +kernel)) h5 (sndE w lc a F h6)
    · cases h
  | .opn .lrng2 fz (.cons a (.cons b .nil)), S, X, t, Wx, e, F, h => by
    simp only [chkE] at h
    split at h
    · simp only [Bool.and_eq_true, decide_eq_true_eq, Bool.not_eq_true'] at h
      obtain ⟨⟨⟨⟨⟨⟨⟨rfl, rfl⟩, h3⟩, h4⟩, h5⟩, h6⟩, h7⟩, h8⟩ := h
      exact le_lrng2 F.amb.calm (F.gl h3) (F.blt w (by decide +kernel)) (F.gl h4) (F.blt w (by decide +kernel)) h5 h6 (sndE w lc a F h7) (sndE w lc b F h8)
    · cases h
  | .opn .items false _, S, X, t, Wx, e, F, h => by simp [chkE] at h
  | .opn .items true .nil, S, X, t, Wx, e, F, h => by simp [chkE] at h
  | .opn .items true (.star _ _), S, X, t, Wx, e, F, h => by simp [chkE] at h
  | .opn .items true (.cons _ (.star _ _)), S, X, t, Wx, e, F, h => by simp [chkE] at h
  | .opn .items true (.cons _ (.cons _ _)), S, X, t, Wx, e, F, h => by simp [chkE] at h
  | .opn .lrng1 _ .nil, S, X, t, Wx, e, F, h => by simp [chkE] at h
  | .opn .lrng1 _ (.star _ _), S, X, t, Wx, e, F, h => by simp [chkE] at h
  | .opn .lrng1 _ (.cons _ (.star _ _)), S, X, t, Wx, e, F, h => by simp [chkE] at h
  | .opn .lrng1 _ (.cons _ (.cons _ _)), S, X, t, Wx, e, F, h => by simp [chkE] at h
  | .opn .lrng2 _ .nil, S, X, t, Wx, e, F, h => by simp [chkE] at h
  | .opn .lrng2 _ (.star _ _), S, X, t, Wx, e, F, h => by simp [chkE] at h
  | .opn .lrng2 _ (.cons _ .nil), S, X, t, Wx, e, F, h => by simp [chkE] at h
  | .opn .lrng2 _ (.cons _ (.star _ _)), S, X, t, Wx, e, F, h => by simp [chkE] at h
  | .opn .lrng2 _ (.cons _ (.cons _ (.cons _ _))), S, X, t, Wx, e, F, h => by simp [chkE] at h
  | .opn .lrng2 _ (.cons _ (.cons _ (.star _ _))), S, X, t, Wx, e, F, h => by simp [chkE] at h
  | .isi a ks, S, X, t, Wx, e, F, h => by
    simp only [chkE] at h
    split at h
    · rename_i x p1 y z p2
      simp only [Bool.and_eq_true, decide_eq_true_eq, Bool.not_eq_true'] at h
      obtain ⟨⟨⟨⟨rfl, h2⟩, h3⟩, h4⟩, h5⟩ := h
      have hm : X.mg "isinstance" = none := F.blt w (by decide +kernel)
      split at h5
      · simp only [Bool.and_eq_true, decide_eq_true_eq] at h5
        exact le_isiN F.amb.K (F.gl h2) hm (sndE w lc a F h4) (star_cons h3) h5.1 (kdsB_ok F w h5.2)
      · split at h5
        · exact le_isi1 F.amb.K (F.gl h2) hm (sndE w lc a F h4) (star_cons h3) (kdB_ok F w h5)
        · cases h5
    · cases h
  | .meth m a args, S, X, t, Wx, e, F, h => by
    simp only [chkE] at h
    split at h
    · rename_i o name apos es pos
      simp only [Bool.and_eq_true, decide_eq_true_eq] at h
      obtain ⟨⟨⟨⟨⟨⟨⟨rfl, h2⟩, h3⟩, h4⟩, h5⟩, h6⟩, h7⟩, h8⟩ := h
      cases es with
      | nil =>
        rw [arg_nil (S := S) h6 rfl]
        exact le_meth0 F.amb.K (mt_slot m) (mt_type m) (mt_ok m) h2 h3 (sndE w lc a F h7)
      | cons y es =>
        have st := h4
        simp only [noStars, List.all_cons, Bool.and_eq_true, Bool.not_eq_true'] at st
        exact le_meth F.amb.K (mt_slot m) (mt_type m) (mt_ok m) h2 h3 (sndE w lc a F h7) (sndA w lc args F h8) (by
          rw [star_all h4]
          simp only [Bool.true_and, Bool.and_eq_true, decide_eq_true_eq]
          exact ⟨rfl, by simpa using h5⟩) (star_cons st.1) (star_any st.2)
    · cases h
  | .lam l caps, S, X, t, Wx, e, F, h => by
    simp only [chkE] at h
    split at h
    · rename_i ps x sc pos
      obtain ⟨fr, ns, M, a1, a2, a3, a4, a5, a6⟩ := lc _ _ _ _ _ _ _ h
      have hex : ∃ l ps e sc msc N caps, L l ps e sc msc N caps = true := ⟨_, _, _, _, _, _, _, h⟩
      obtain ⟨c1, c2⟩ := F.code hex
      exact le_lam (L := ⟨ps, x, sc, ns, fr, M⟩) ⟨c2, c1, F.nw hex, fun y c e => F.amb.cf y c e⟩ (F.tok.trans F.amb.tt.symm) F.amb.nd a1 (a2 _) (by rw [F.sc]; exact a3) a4 (by rw [F.N]; exact a5) a6
    · cases h
  | .frz a, S, X, t, Wx, e, F, h => by
    simp only [chkE, Bool.and_eq_true] at h
    exact le_frz (sndE w lc a F h.2)
theorem sndW (w : Wf G P U T d) (lc : LCok G L) : ∀ (c : CE) {S : Sc} {X : Cx} {t : Fm} {Wx : L2.WX} {e : Expr}, Fr1 G P U T d L S O X t Wx → chkE T L S c e = true → isBool e = true → PW X e (LT G X t Wx (wpB O c))
  | .stuck, S, X, t, Wx, e, F, h, hb => lt_stuck
  | .and a b, S, X, t, Wx, e, F, h, hb => by
    simp only [chkE] at h
    split at h
    · simp only [Bool.and_eq_true] at h
      obtain ⟨h1, h2⟩ := h
      obtain ⟨r1, r2⟩ := rest_ok (S := S) (b := b) (f := fun z => chkE T L S b z) h2
      exact lt_and (sndT w lc a F h1) (lt_andR (fun z => sndT w lc b F (r1 z)) fun z => sndW w lc b F (r2 z) (by rename_i r _; cases r with | nil => exact (z rfl).elim | cons _ _ => rfl))
    · cases h
  | .or a b, S, X, t, Wx, e, F, h, hb => by
    simp only [chkE] at h
    split at h
    · simp only [Bool.and_eq_true] at h
      obtain ⟨h1, h2⟩ := h
      obtain ⟨r1, r2⟩ := rest_ok (S := S) (b := b) (f := fun z => chkE T L S b z) h2
      exact lt_or (sndT w lc a F h1) (lt_andR (fun z => sndT w lc b F (r1 z)) fun z => sndW w lc b F (r2 z) (by rename_i r _; cases r with | nil => exact (z rfl).elim | cons _ _ => rfl))
    · cases h
  | .not a, S, X, t, Wx, e, F, h, hb => by
    simp only [chkE] at h
    split at h
    · cases hb
    · cases h
  | .cmp op a b, S, X, t, Wx, e, F, h, hb => by
    simp only [chkE] at h
    split at h
    · cases hb
    · cases h
  | .chain o1 o2 a b c, S, X, t, Wx, e, F, h, hb => by
    simp only [chkE] at h
    split at h
    · cases hb
    · cases h
  | .ite c a b, S, X, t, Wx, e, F, h, hb => by
    simp only [chkE] at h
    split at h
    · cases hb
    · cases h
  | .nil, S, X, t, Wx, e, F, h, hb => by simp [chkE] at h
  | .var _, S, X, t, Wx, e, F, h, hb => (noBool (chk_plain h rfl) hb).elim
  | .cst _, S, X, t, Wx, e, F, h, hb => (noBool (chk_plain h rfl) hb).elim
  | .bin _ _ _ _, S, X, t, Wx, e, F, h, hb => (noBool (chk_plain h rfl) hb).elim
  | .neg _, S, X, t, Wx, e, F, h, hb => (noBool (chk_plain h rfl) hb).elim
  | .tup _, S, X, t, Wx, e, F, h, hb => (noBool (chk_plain h rfl) hb).elim
  | .lst _ _, S, X, t, Wx, e, F, h, hb => (noBool (chk_plain h rfl) hb).elim
  | .dict0 _, S, X, t, Wx, e, F, h, hb => (noBool (chk_plain h rfl) hb).elim
  | .comp _ _ _ _ _ _, S, X, t, Wx, e, F, h, hb => (noBool (chk_plain h rfl) hb).elim
  | .comp2 _ _ _ _ _ _ _ _ _, S, X, t, Wx, e, F, h, hb => (noBool (chk_plain h rfl) hb).elim
  | .idx _ _, S, X, t, Wx, e, F, h, hb => (noBool (chk_plain h rfl) hb).elim
  | .slc _ _ _ _, S, X, t, Wx, e, F, h, hb => (noBool (chk_plain h rfl) hb).elim
  | .rev _ _, S, X, t, Wx, e, F, h, hb => (noBool (chk_plain h rfl) hb).elim
  | .call _ _ _ _, S, X, t, Wx, e, F, h, hb => (noBool (chk_plain h rfl) hb).elim
  | .callv _ _, S, X, t, Wx, e, F, h, hb => (noBool (chk_plain h rfl) hb).elim
  | .bi _ _ _, S, X, t, Wx, e, F, h, hb => (noBool (chk_plain h rfl) hb).elim
  | .opn _ _ _, S, X, t, Wx, e, F, h, hb => (noBool (chk_plain h rfl) hb).elim
  | .isi _ _, S, X, t, Wx, e, F, h, hb => (noBool (chk_plain h rfl) hb).elim
  | .meth _ _ _, S, X, t, Wx, e, F, h, hb => (noBool (chk_plain h rfl) hb).elim
  | .lam _ _, S, X, t, Wx, e, F, h, hb => (noBool (chk_plain h rfl) hb).elim
  | .frz _, S, X, t, Wx, e, F, h, hb => (noBool (chk_plain h rfl) hb).elim
theorem sndT (w : Wf G P U T d) (lc : LCok G L) : ∀ (c : CE) {S : Sc} {X : Cx} {t : Fm} {Wx : L2.WX} {e : Expr}, Fr1 G P U T d L S O X t Wx → chkE T L S c e = true → PT X e (LT G X t Wx (wpB O c))
  | .stuck, S, X, t, Wx, e, F, h => lt_stuck.pt
  | .nil, S, X, t, Wx, e, F, h => by simp [chkE] at h
  | .and a b, S, X, t, Wx, e, F, h => by
    simp only [chkE] at h
    split at h
    · simp only [Bool.and_eq_true] at h
      obtain ⟨h1, h2⟩ := h
      obtain ⟨r1, r2⟩ := rest_ok (S := S) (b := b) (f := fun z => chkE T L S b z) h2
      exact (lt_and (sndT w lc a F h1) (lt_andR (fun z => sndT w lc b F (r1 z)) fun z => sndW w lc b F (r2 z) (by rename_i r _; cases r with | nil => exact (z rfl).elim | cons _ _ => rfl))).pt
    · cases h
  | .or a b, S, X, t, Wx, e, F, h => by
    simp only [chkE] at h
    split at h
    · simp only [Bool.and_eq_true] at h
      obtain ⟨h1, h2⟩ := h
      obtain ⟨r1, r2⟩ := rest_ok (S := S) (b := b) (f := fun z => chkE T L S b z) h2
      exact (lt_or (sndT w lc a F h1) (lt_andR (fun z => sndT w lc b F (r1 z)) fun z => sndW w lc b F (r2 z) (by rename_i r _; cases r with | nil => exact (z rfl).elim | cons _ _ => rfl))).pt
    · cases h
  | .not a, S, X, t, Wx, e, F, h => by
    simp only [chkE] at h
    split at h
    · exact lt_not (sndT w lc a F h)
    · cases h
  | .cmp op a b, S, X, t, Wx, e, F, h => by
    simp only [chkE] at h
    split at h
    · simp only [Bool.and_eq_true, decide_eq_true_eq, Bool.not_eq_true'] at h
      obtain ⟨⟨⟨rfl, hm⟩, h1⟩, h2⟩ := h
      exact lt_cmp F.hu F.amb.K hm (sndE w lc a F h1) (sndE w lc b F h2)
    · cases h
  | .chain o1 o2 a b c, S, X, t, Wx, e, F, h => by
    simp only [chkE] at h
    split at h
    · simp only [Bool.and_eq_true, decide_eq_true_eq, Bool.not_eq_true'] at h
      obtain ⟨⟨⟨⟨⟨rfl, rfl⟩, hm⟩, h1⟩, h2⟩, h3⟩ := h
      exact lt_chain F.hu F.amb.K hm (sndE w lc a F h1) (sndE w lc b F h2) (sndE w lc c F h3)
    · cases h
  | .ite c a b, S, X, t, Wx, e, F, h => by
    simp only [chkE] at h
    split at h
    · simp only [Bool.and_eq_true] at h
      exact lt_ite (sndT w lc c F h.1.1) (sndT w lc a F h.1.2) (sndT w lc b F h.2)
    · cases h
  | .var z0, S, X, t, Wx, e, F, h => tst_of F.amb.K (sndE w lc (.var z0) F h) (plainT_ok (chk_plain h rfl) _)
  | .cst z0, S, X, t, Wx, e, F, h => tst_of F.amb.K (sndE w lc (.cst z0) F h) (plainT_ok (chk_plain h rfl) _)
  | .bin z0 z1 z2 z3, S, X, t, Wx, e, F, h => tst_of F.amb.K (sndE w lc (.bin z0 z1 z2 z3) F h) (plainT_ok (chk_plain h rfl) _)
  | .neg z0, S, X, t, Wx, e, F, h => tst_of F.amb.K (sndE w lc (.neg z0) F h) (plainT_ok (chk_plain h rfl) _)
  | .tup z0, S, X, t, Wx, e, F, h => tst_of F.amb.K (sndE w lc (.tup z0) F h) (plainT_ok (chk_plain h rfl) _)
  | .lst z0 z1, S, X, t, Wx, e, F, h => tst_of F.amb.K (sndE w lc (.lst z0 z1) F h) (plainT_ok (chk_plain h rfl) _)
  | .dict0 z0, S, X, t, Wx, e, F, h => tst_of F.amb.K (sndE w lc (.dict0 z0) F h) (plainT_ok (chk_plain h rfl) _)
  | .comp z0 z1 z2 z3 z4 z5, S, X, t, Wx, e, F, h => tst_of F.amb.K (sndE w lc (.comp z0 z1 z2 z3 z4 z5) F h) (plainT_ok (chk_plain h rfl) _)
  | .comp2 z0 z1 z2 z3 z4 z5 z6 z7 z8, S, X, t, Wx, e, F, h => tst_of F.amb.K (sndE w lc (.comp2 z0 z1 z2 z3 z4 z5 z6 z7 z8) F h) (plainT_ok (chk_plain h rfl) _)
  | .idx z0 z1, S, X, t, Wx, e, F, h => tst_of F.amb.K (sndE w lc (.idx z0 z1) F h) (plainT_ok (chk_plain h rfl) _)
  | .slc z0 z1 z2 z3, S, X, t, Wx, e, F, h => tst_of F.amb.K (sndE w lc (.slc z0 z1 z2 z3) F h) (plainT_ok (chk_plain h rfl) _)
  | .rev z0 z1, S, X, t, Wx, e, F, h => tst_of F.amb.K (sndE w lc (.rev z0 z1) F h) (plainT_ok (chk_plain h rfl) _)
  | .call z0 z1 z2 z3, S, X, t, Wx, e, F, h => tst_of F.amb.K (sndE w lc (.call z0 z1 z2 z3) F h) (plainT_ok (chk_plain h rfl) _)
  | .callv z0 z1, S, X, t, Wx, e, F, h => tst_of F.amb.K (sndE w lc (.callv z0 z1) F h) (plainT_ok (chk_plain h rfl) _)
  | .bi z0 z1 z2, S, X, t, Wx, e, F, h => tst_of F.amb.K (sndE w lc (.bi z0 z1 z2) F h) (plainT_ok (chk_plain h rfl) _)
  | .opn z0 z1 z2, S, X, t, Wx, e, F, h => tst_of F.amb.K (sndE w lc (.opn z0 z1 z2) F h) (plainT_ok (chk_plain h rfl) _)
  | .isi z0 z1, S, X, t, Wx, e, F, h => tst_of F.amb.K (sndE w lc (.isi z0 z1) F h) (plainT_ok (chk_plain h rfl) _)
  | .meth z0 z1 z2, S, X, t, Wx, e, F, h => tst_of F.amb.K (sndE w lc (.meth z0 z1 z2) F h) (plainT_ok (chk_plain h rfl) _)
  | .lam z0 z1, S, X, t, Wx, e, F, h => tst_of F.amb.K (sndE w lc (.lam z0 z1) F h) (plainT_ok (chk_plain h rfl) _)
  | .frz z0, S, X, t, Wx, e, F, h => tst_of F.amb.K (sndE w lc (.frz z0) F h) (plainT_ok (chk_plain h rfl) _)
theorem sndA (w : Wf G P U T d) (lc : LCok G L) : ∀ (c : CEs) {S : Sc} {X : Cx} {t : Fm} {Wx : L2.WX} {es : List Expr}, Fr1 G P U T d L S O X t Wx → chkEs T L S c es = true → PA X es (LA G X t Wx (wpEs O c))
  | .nil, S, X, t, Wx, [], F, h => la_nil
  | .nil, S, X, t, Wx, _ :: _, F, h => by simp [chkEs] at h
  | .cons c cs, S, X, t, Wx, [], F, h => by simp [chkEs] at h
  | .cons c cs, S, X, t, Wx, e :: es, F, h => by
    simp only [chkEs, Bool.and_eq_true, Bool.not_eq_true'] at h
    exact la_cons (sndE w lc c F h.1.2) (sndA w lc cs F h.2) (star_cons h.1.1)
  | .star c cs, S, X, t, Wx, es, F, h => by
    simp only [chkEs] at h
    split at h
    · simp only [Bool.and_eq_true] at h
      exact la_star F.amb.K (sndE w lc c F h.1) (sndA w lc cs F h.2)
    · cases h
theorem sndK (w : Wf G P U T d) (lc : LCok G L) : ∀ (c : CEs) {S : Sc} {X : Cx} {t : Fm} {Wx : L2.WX} {es : List Keyword}, Fr1 G P U T d L S O X t Wx → chkKs T L S c es = true → PK X es (LA G X t Wx (wpEs O c))
  | .nil, S, X, t, Wx, [], F, h => lk_nil
  | .nil, S, X, t, Wx, _ :: _, F, h => by simp [chkKs] at h
  | .cons c cs, S, X, t, Wx, [], F, h => by simp [chkKs] at h
  | .cons c cs, S, X, t, Wx, ⟨n, e, p⟩ :: es, F, h => by
    simp only [chkKs, Bool.and_eq_true] at h
    exact lk_cons (sndE w lc c F h.1) (sndK w lc cs F h.2)
  | .star c cs, S, X, t, Wx, es, F, h => by simp [chkKs] at h
theorem sndC (w : Wf G P U T d) (lc : LCok G L) : ∀ (c : CEs) {S : Sc} {X : Cx} {t : Fm} {Wx : L2.WX} {es : List Expr}, Fr1 G P U T d L S O X t Wx → chkC T L S c es = true → PTs X es (LQ G X t (wpAll O c))
  | .nil, S, X, t, Wx, [], F, h => lq_nil
  | .nil, S, X, t, Wx, _ :: _, F, h => by simp [chkC] at h
  | .cons c .nil, S, X, t, Wx, es, F, h => by
    simp only [chkC] at h
    split at h
    · exact lq_one (sndT w lc c F h)
    · cases h
  | .cons c (.cons _ _), S, X, t, Wx, es, F, h => by
    simp only [chkC] at h
    split at h <;> cases h
  | .cons c (.star _ _), S, X, t, Wx, es, F, h => by
    simp only [chkC] at h
    split at h <;> cases h
  | .star c cs, S, X, t, Wx, es, F, h => by simp [chkC] at h
theorem sndG (w : Wf G P U T d) (lc : LCok G L) : ∀ (c : CT) {S : Sc} {X : Cx} {t : Fm} {Wx : L2.WX} {e : Expr}, Fr1 G P U T d L S O X t Wx → chkT T L S c e = true → PG X e (LG G X t c.slots (wpT O c))
  | .name i cl, S, X, t, Wx, e, F, h => by
    simp only [chkT] at h
    split at h
    · simp only [Bool.and_eq_true, decide_eq_true_eq] at h
      cases cl with
      | false => exact lg_name F.amb.nd (by rw [F.N]; exact h.1) (by rw [F.sc]; exact of_decide_eq_true h.2)
      | true =>
        have h2 := h.2
        simp only [Bool.and_eq_true, decide_eq_true_eq] at h2
        exact lg_cell F.amb.fm (F.tok.trans F.amb.tt.symm) F.st F.amb.nd (by rw [F.N]; exact h.1) (by rw [F.sc]; exact h2.1) (F.own _ h2.2)
    · cases h
  | .tup ts, S, X, t, Wx, e, F, h => by
    simp only [chkT] at h
    split at h
    · simp only [Bool.and_eq_true] at h
      exact lg_tup F.amb.K F.amb.calm (F.tok.trans F.amb.tt.symm) F.st h.1 (chkTs_len h.2) (sndGs w lc ts F h.1 h.2)
    · cases h
  | .idx o i, S, X, t, Wx, e, F, h => by
    simp only [chkT] at h
    split at h
    · simp only [Bool.and_eq_true] at h
      exact lg_idx F.amb.K (sndE w lc o F h.1.2) (sndE w lc i F h.2) (plainIx_set h.1.1)
    · cases h
theorem sndGs (w : Wf G P U T d) (lc : LCok G L) : ∀ (c : CTs) {S : Sc} {X : Cx} {t : Fm} {Wx : L2.WX} {es : List Expr}, Fr1 G P U T d L S O X t Wx → noStars es = true → chkTs T L S c es = true → PGs X es (LGs G X t c.slots (wpTs O c))
  | .nil, S, X, t, Wx, [], F, n, h => lgs_nil
  | .nil, S, X, t, Wx, _ :: _, F, n, h => by simp [chkTs] at h
  | .cons c cs, S, X, t, Wx, [], F, n, h => by simp [chkTs] at h
  | .cons c cs, S, X, t, Wx, e :: es, F, n, h => by
    simp only [chkTs, Bool.and_eq_true] at h
    simp only [noStars, List.all_cons, Bool.and_eq_true, Bool.not_eq_true'] at n
    exact lgs_cons (sndG w lc c F h.1) (sndGs w lc cs F n.2 h.2) n.1
theorem sndI (w : Wf G P U T d) (lc : LCok G L) : ∀ (c : CI) {S : Sc} {X : Cx} {t : Fm} {Wx : L2.WX} {tg e : Expr}, Fr1 G P U T d L S O X t Wx → chkI T L S c tg e = true → PI X tg e (LI G X t Wx (wpI O c))
  | .e a, S, X, t, Wx, tg, e, F, h => by
    simp only [chkI] at h
    exact li_e F.amb.K (sndE w lc a F h)
  | .rng1 a, S, X, t, Wx, tg, e, F, h => by
    simp only [chkI] at h
    split at h
    · simp only [Bool.and_eq_true, decide_eq_true_eq, Bool.not_eq_true'] at h
      obtain ⟨⟨⟨rfl, h2⟩, h3⟩, h4⟩ := h
      exact li_rng1 (F.gl h2) (F.blt w (by decide +kernel)) h3 (sndE w lc a F h4)
    · cases h
  | .rng2 a b, S, X, t, Wx, tg, e, F, h => by
    simp only [chkI] at h
    split at h
    · simp only [Bool.and_eq_true, decide_eq_true_eq, Bool.not_eq_true'] at h
      obtain ⟨⟨⟨⟨⟨rfl, h2⟩, h3⟩, h4⟩, h5⟩, h6⟩ := h
      exact li_rng2 (F.gl h2) (F.blt w (by decide +kernel)) h3 h4 (sndE w lc a F h5) (sndE w lc b F h6)
    · cases h
  | .enum a, S, X, t, Wx, tg, e, F, h => by
    simp only [chkI] at h
    split at h
    · split at h
      · simp only [Bool.and_eq_true, decide_eq_true_eq, Bool.not_eq_true'] at h
        obtain ⟨⟨⟨rfl, h2⟩, h3⟩, h4⟩ := h
        exact li_enum F.amb.K (F.gl h2) (F.blt w (by decide +kernel)) h3 (sndE w lc a F h4)
      · cases h
    · cases h
  | .zip a b, S, X, t, Wx, tg, e, F, h => by
    simp only [chkI] at h
    split at h
    · simp only [Bool.and_eq_true, decide_eq_true_eq, Bool.not_eq_true'] at h
      obtain ⟨⟨⟨⟨⟨rfl, h2⟩, h3⟩, h4⟩, h5⟩, h6⟩ := h
      exact li_zip F.amb.K (F.tok.trans F.amb.tt.symm) F.st (F.gl h2) (F.blt w (by decide +kernel)) h3 h4 (sndE w lc a F h5) (sndE w lc b F h6)
    · cases h
  | .zipS a, S, X, t, Wx, tg, e, F, h => by
    simp only [chkI] at h
    split at h
    · simp only [Bool.and_eq_true, decide_eq_true_eq] at h
      obtain ⟨⟨rfl, h2⟩, h3⟩ := h
      exact li_zipS F.amb.K (F.tok.trans F.amb.tt.symm) F.st (F.gl h2) (F.blt w (by decide +kernel)) (sndE w lc a F h3)
    · cases h
end
end
end PC

set_option Elab.async false
set_option maxRecDepth 100000
set_option maxHeartbeats 4000000
/-! PC30: statements against the text, and what fits keeps its wp. -/
namespace PC
open PySem PySem.Spec PyProof.Rows
open L2 (V HO Hp upd upd_same upd_ne Rd SqL SqT Cx Inv TE TT TA TS TG TGs TI VK PE PT PW PA PK PS PSs PG PGs PI PTs It R2 OpR CallR Un UB HOk ObjOk Env0 FnOk Sp XK Room frs CR EP Takes Ends FpOk BlkOk cloFrom FnScope SP)
def swNo (sc : Scope) (e : Expr) (tg : Option Expr) : Bool := match e with
  | .ListComp _ _ scope pos => (match tg with
    | none => false
    | some (.Name x p) => !(sc.names.lookup x == some .local && p.line == pos.line && !(scope.names.any fun y => y.1 == x && (y.2 == .local || y.2 == .cell)))
    | some _ => true)
  | .SetComp _ _ _ _ => false
  | .DictComp _ _ _ _ _ => false
  | _ => true
theorem sw_false {env : PySem.Env} {e : Expr} {tg : Option Expr} {l : Nat} (hk : env.scope.kind = .function) (h : swNo env.scope e tg = true) : swapsWith e tg l env = pure false := by
  have hb : env.blockKind = .function := by unfold Env.blockKind; rw [hk]; rfl
  cases e
  case ListComp elt gs scope pos =>
    cases tg with
    | none => cases h
    | some tg =>
      cases tg
      case Name x p =>
        simp only [swNo, Bool.not_eq_true'] at h
        unfold swapsWith
        simp only [hb, Env.kindOf, Expr.pos]
        refine congrArg pure ?_
        show (true && _ && _ && _) = false
        rw [Bool.true_and]
        exact h
      all_goals rfl
  all_goals first
    | (cases h; done)
    | rfl
mutual
/-- what a suite hands back; o: the error's name -/
def chkHE (S : Sc) (o : Option Nat) (f : Option Str) : HE → Expr → Bool
  | .non, e => (match e with
    | .Constant .none _ _ => true
    | _ => false)
  | .str x, e => (match e with
    | .Constant (.str y) _ _ => decide (x = y)
    | _ => false)
  | .fld, e => (match e, o with
    | .Attribute (.Name n _) g _, some i => decide (some g = f) && decide (S.N[i]? = some n) && decide (S.sc.names.lookup n = some .local) && dbg n
    | _, _ => false)
  | .tup hs, e => (match e with
    | .Tuple es _ _ => noStars es && decide (es.length ≤ 100) && chkHEs S o f hs es
    | _ => false)
def chkHEs (S : Sc) (o : Option Nat) (f : Option Str) : List HE → List Expr → Bool
  | [], es => es.isEmpty
  | h :: hs, es => (match es with
    | e :: es => chkHE S o f h e && chkHEs S o f hs es
    | [] => false)
end
def chkH (T : Tb) (S : Sc) (c : CH) : ExceptHandler → Bool
  | .ExceptHandler (some (.Name x _)) nm [.Return (some e) _] _ => (match T.errs[c.cls]? with
    | some p => decide (p.1 = x) && glB S.sc x && dbg x && (match nm, c.slot with
      | none, none => true
      | some n, some i => decide (S.N[i]? = some n) && decide (S.sc.names.lookup n = some .local)
      | _, _ => false) && chkHE S c.slot p.2 c.ret e
    | none => false)
  | _ => false
def chkHs (T : Tb) (S : Sc) : List CH → List ExceptHandler → Bool
  | [], hs => hs.isEmpty
  | c :: cs, hs => (match hs with
    | h :: hs => chkH T S c h && chkHs T S cs hs
    | [] => false)
def chkA (T : Tb) (L : LC) (S : Sc) (g : CT) (a : CE) (tg e : Expr) : Bool :=
  !isStar tg && swNo S.sc e (some tg) && swapNo S.sc tg e && chkE T L S a e && chkT T L S g tg
/-- name = [.. for ..], the list stored first -/
def chkAC (T : Tb) (L : LC) (S : Sc) (g : CT) (a : CE) (tg e : Expr) : Bool := match g, a with
  | .name i false, .comp2 fz elt g2 it cond g3 it1 cond1 own => (match tg, e with
    | .Name y py, .ListComp x [⟨t, i2, ifs, 0⟩, ⟨t1, i3, ifs1, 0⟩] scope pos => decide (S.N[i]? = some y) && decide (S.sc.names.lookup y = some .local) && (py.line == pos.line) && !(scope.names.any fun z => z.1 == y && (z.2 == .local || z.2 == .cell)) && chkE T L S (.comp2 fz elt g2 it cond g3 it1 cond1 own) (.ListComp x [⟨t, i2, ifs, 0⟩, ⟨t1, i3, ifs1, 0⟩] scope pos)
    | _, _ => false)
  | .name i false, .comp fz elt g2 it cond own => (match tg, e with
    | .Name y py, .ListComp x [⟨t, i2, ifs, 0⟩] scope pos => decide (S.N[i]? = some y) && decide (S.sc.names.lookup y = some .local) && (py.line == pos.line) && !(scope.names.any fun z => z.1 == y && (z.2 == .local || z.2 == .cell)) && chkE T L S (.comp fz elt g2 it cond own) (.ListComp x [⟨t, i2, ifs, 0⟩] scope pos)
    | _, _ => false)
  | _, _ => false
mutual
def chkS (T : Tb) (L : LC) (S : Sc) : CS → Stmt → Bool
  | .stuck, _ => true
  | .pass, st => (match st with
    | .Pass _ => true
    | .Expr (.Constant (.str _) _ _) _ => true
    | _ => false)
  | .ret a, st => (match st with
    | .Return (some e) _ => chkE T L S a e
    | _ => false)
  | .retN, st => (match st with
    | .Return none _ => true
    | _ => false)
  | .asg g a, st => (match st with
    | .Assign [tg] e _ => chkA T L S g a tg e || chkAC T L S g a tg e
    | _ => false)
  | .par i j a b, st => (match st with
    | .Assign [.Tuple [.Name x px, .Name y py] _ _] (.Tuple [u, v] _ _) _ => decide (S.N[i]? = some x) && decide (S.N[j]? = some y) && decide (i ≠ j) && decide (S.sc.names.lookup x = some .local) && decide (S.sc.names.lookup y = some .local) && (py.line == px.line) && !(x == y) && !isStar u && !isStar v &&
      ![u, v].all (foldedForSure 8) && ![u, v].all (constantsAlone 8) && chkE T L S a u && chkE T L S b v
    | _ => false)
  | .expr a, st => (match st with
    | .Expr e _ => swNo S.sc e none && chkE T L S a e
    | _ => false)
  | .ifs c a b, st => (match st with
    | .If e s1 s2 _ => chkE T L S c e && chkSs T L S a s1 && chkSs T L S b s2
    | _ => false)
  | .whl c b, st => (match st with
    | .While e body [] _ => chkE T L S c e && chkSs T L S b body
    | _ => false)
  | .for_ g it b, st => (match st with
    | .For tg iter body [] _ => !isSet iter && chkI T L S it tg iter && chkT T L S g tg && chkSs T L S b body
    | _ => false)
  | .raise c a, st => (match st with
    | .Raise (some (.Call (.Name x _) [e] [] _)) none _ => (match T.errs[c]? with
      | some p => decide (p.1 = x) && p.2.isSome && glB S.sc x && dbg x && !isStar e && chkE T L S a e
      | none => false)
    | _ => false)
  | .raise0 c, st => (match st with
    | .Raise (some (.Call (.Name x _) [] [] _)) none _ => (match T.errs[c]? with
      | some p => decide (p.1 = x) && p.2.isNone && glB S.sc x && dbg x
      | none => false)
    | _ => false)
  | .try_ b hs, st => (match st with
    | .Try body (h₀ :: hds) [] [] _ => chkSs T L S b body && chkHs T S hs (h₀ :: hds)
    | _ => false)
  | .drop _ a, st => chkS T L S a st
def chkSs (T : Tb) (L : LC) (S : Sc) : CSs → List Stmt → Bool
  | .nil, st => st.isEmpty
  | .cons a b, st => (match st with
    | s :: r => chkS T L S a s && chkSs T L S b r
    | [] => false)
end
/-- a function's own frame -/
structure Fr2 (G : Gs) (P : Prog) (U : Uni) (T : Tb) (d : Nat) (L : LC) (S : Sc) (O : Orc) (X : Cx) (t : Fm) (Wx : L2.WX) : Prop extends Fr1 G P U T d L S O X t Wx where
  stk : X.stack = X.env :: X.outer
  frm : X.env.frame = some X.env.locals
section
variable {G : Gs} {P : Prog} {U : Uni} {T : Tb} {d : Nat} {L : LC} {O : Orc}
theorem Fr2.tr {S : Sc} {X : Cx} {t : Fm} {Wx : L2.WX} (F : Fr2 G P U T d L S O X t Wx) {pn : List (Addr × Obj)} {xe : Value → Shared → Prop} {W : L2.WX} (tk : Takes (X.tr pn xe) W) (po : PassesOwn (model X.prog X.w) X.A X.env xe) : Fr2 G P U T d L S O (X.tr pn xe) t W :=
  ⟨⟨⟨F.amb.pr, F.amb.w, F.amb.mg, F.amb.B, F.amb.K, tk, F.amb.room, po, F.amb.calm, F.amb.nd, F.amb.tt, ⟨F.amb.fm.lk, F.amb.fm.kc, F.amb.fm.kf, F.amb.fm.ow1, F.amb.fm.owx⟩, F.amb.cf⟩, F.N, F.sc, F.own, F.kind, F.call, F.lam, F.tok, F.st, F.nw, F.code⟩, F.stk, F.frm⟩
theorem Fr1.kd {S : Sc} {X : Cx} {t : Fm} {Wx : L2.WX} (F : Fr1 G P U T d L S O X t Wx) : X.env.scope.kind = .function := by rw [F.sc]; exact F.kind
end
end PC

set_option Elab.async false
set_option maxRecDepth 100000
set_option maxHeartbeats 4000000
/-! PC31: statements that fit the text keep their wp. -/
namespace PC
open PySem PySem.Spec PyProof.Rows
open L2 (V HO Hp upd upd_same upd_ne Rd SqL SqT Cx Inv TE TT TA TS TG TGs TI VK PE PT PW PA PK PS PSs PG PGs PI PTs It R2 OpR CallR Un UB HOk ObjOk Env0 FnOk Sp XK Room frs CR EP Takes Ends FpOk BlkOk cloFrom FnScope SP)
section
variable {G : Gs} {P : Prog} {U : Uni} {T : Tb} {d : Nat} {L : LC} {O : Orc}
theorem heVs_len {fl : Option PV} : ∀ {hs : List HE} {vs : List PV}, heVs fl hs = some vs → vs.length = hs.length
  | [], vs, h => by simp only [heVs, Option.some.injEq] at h; subst h; rfl
  | a :: r, vs, h => by
    simp only [heVs] at h
    split at h
    · rename_i v vs' e1 e2
      cases h
      simp [heVs_len e2]
    · cases h
theorem chkHEs_len {S : Sc} {o : Option Nat} {f : Option Str} : ∀ {hs : List HE} {es : List Expr}, chkHEs S o f hs es = true → hs.length = es.length
  | [], [], _ => rfl
  | [], _ :: _, h => by simp [chkHEs] at h
  | _ :: _, [], h => by simp [chkHEs] at h
  | a :: r, e :: es, h => by
    simp only [chkHEs, Bool.and_eq_true] at h
    simp [chkHEs_len h.2]
mutual
theorem he_ok {S : Sc} {X : Cx} {t : Fm} {Wx : L2.WX} (F : Fr1 G P U T d L S O X t Wx) {c : Nat} {nm : Str} {f : Option Str} (E : ErrA G U c (nm, f)) {o : Option Nat} {a : Addr} {oe : Obj} {cls : Value} {dd : Option Addr} {pn : List (Addr × Obj)} (hz : L2.Zc cls dd oe) (hd : ∃ vs, oe.data = .fields vs) :
    ∀ (r : HE) {e : Expr}, chkHE S o f r e = true → PE (X.suite a ((a, oe) :: pn)) e (LH G (X.suite a ((a, oe) :: pn)) t a cls dd o fun ex u => ex.cls = c ∧ heV ex.fld r = some u)
  | .non, e, h => by
    simp only [chkHE] at h
    split at h
    · exact lh_imp (lh_const L2.pe_non fun _ => .non) fun ex u z => by have := z.2; simp only [heV, Option.some.injEq] at this; exact this.symm
    · cases h
  | .str x, e, h => by
    simp only [chkHE] at h
    split at h
    · rw [← of_decide_eq_true h]
      exact lh_imp (lh_const L2.pe_str fun _ => .str _) fun ex u z => by have := z.2; simp only [heV, Option.some.injEq] at this; exact this.symm
    · cases h
  | .fld, e, h => by
    simp only [chkHE] at h
    split at h
    · simp only [Bool.and_eq_true, decide_eq_true_eq] at h
      obtain ⟨⟨⟨rfl, h2⟩, h3⟩, h4⟩ := h
      have E : ErrOk G U c nm _ := E
      exact lh_imp (lh_fld F.amb.K E hz hd (by rw [F.N]; exact h2) (by rw [F.sc]; exact h3) (dbg_ok h4).1 (dbg_ok h4).2 rfl) fun ex u z => ⟨z.1, z.2⟩
    · cases h
  | .tup hs, e, h => by
    simp only [chkHE] at h
    split at h
    · simp only [Bool.and_eq_true, decide_eq_true_eq] at h
      obtain ⟨⟨h1, h2⟩, h3⟩ := h
      refine lh_imp (lh_tup (ws := fun ex vs => ex.cls = c ∧ heVs ex.fld hs = some vs) (fun ex vs z => ?_) (hes_ok F E hz hd hs h1 h3)) fun ex u z => ?_
      · rw [heVs_len z.2, chkHEs_len h3]
        exact Nat.le_trans h2 (by decide)
      · obtain ⟨z1, z2⟩ := z
        simp only [heV] at z2
        cases e2 : heVs ex.fld hs with
        | none => rw [e2] at z2; cases z2
        | some vs =>
          rw [e2] at z2
          cases z2
          exact ⟨vs, rfl, z1, rfl⟩
    · cases h
theorem hes_ok {S : Sc} {X : Cx} {t : Fm} {Wx : L2.WX} (F : Fr1 G P U T d L S O X t Wx) {c : Nat} {nm : Str} {f : Option Str} (E : ErrA G U c (nm, f)) {o : Option Nat} {a : Addr} {oe : Obj} {cls : Value} {dd : Option Addr} {pn : List (Addr × Obj)} (hz : L2.Zc cls dd oe) (hd : ∃ vs, oe.data = .fields vs) :
    ∀ (r : List HE) {es : List Expr}, noStars es = true → chkHEs S o f r es = true → PA (X.suite a ((a, oe) :: pn)) es (LHs G (X.suite a ((a, oe) :: pn)) t a cls dd o fun ex u => ex.cls = c ∧ heVs ex.fld r = some u)
  | [], [], n, h => lhs_imp lhs_nil fun ex u z => by have := z.2; simp only [heVs, Option.some.injEq] at this; exact this.symm
  | [], _ :: _, n, h => by simp [chkHEs] at h
  | _ :: _, [], n, h => by simp [chkHEs] at h
  | r :: rs, e :: es, n, h => by
    simp only [chkHEs, Bool.and_eq_true] at h
    simp only [noStars, List.all_cons, Bool.and_eq_true, Bool.not_eq_true'] at n
    refine lhs_imp (lhs_cons (he_ok F E hz hd r h.1) (hes_ok F E hz hd rs n.2 h.2) n.1) fun ex u z => ?_
    obtain ⟨z1, z2⟩ := z
    simp only [heVs] at z2
    split at z2
    · rename_i v vs e1 e2
      cases z2
      exact ⟨v, vs, rfl, ⟨z1, e1⟩, z1, e2⟩
    · cases z2
end
theorem hs_ok (w : Wf G P U T d) {S : Sc} {X : Cx} {t : Fm} {Wx : L2.WX} (F : Fr1 G P U T d L S O X t Wx) : ∀ {cs : List CH} {hs : List ExceptHandler}, chkHs T S cs hs = true → HdL G U X t cs hs
  | [], [], _ => .nil
  | [], _ :: _, h => by simp [chkHs] at h
  | _ :: _, [], h => by simp [chkHs] at h
  | c :: cs, hd :: hs, h => by
    simp only [chkHs, Bool.and_eq_true] at h
    obtain ⟨h1, h2⟩ := h
    unfold chkH at h1
    split at h1
    · rename_i x p1 nm e p2 p3
      split at h1
      · rename_i p ep
        simp only [Bool.and_eq_true, decide_eq_true_eq] at h1
        obtain ⟨⟨⟨⟨e1, g1⟩, g2⟩, g3⟩, g4⟩ := h1
        have E := w.errs c.cls p ep
        refine .cons (F.gl g1) (dbg_ok g2).1 (by rw [← e1]; exact E.m) E.lt ?_ (fun a oe cls dd pn hz hd => he_ok F (nm := p.1) E hz hd c.ret g4) (hs_ok w F h2)
        cases nm with
        | none => cases hs : c.slot with
          | none => trivial
          | some i => rw [hs] at g3; cases g3
        | some n => cases hs : c.slot with
          | none => rw [hs] at g3; cases g3
          | some i =>
            rw [hs] at g3
            simp only [Bool.and_eq_true, decide_eq_true_eq] at g3
            exact ⟨by rw [F.N]; exact g3.1, by rw [F.sc]; exact g3.2⟩
      · cases h1
    · cases h1
theorem asg_one {tg : Expr} {env : PySem.Env} (h : isStar tg = false) : (assignEach [tg] env).map (·.2) = [assign tg env] := by
  cases tg <;> first | rfl | cases h
mutual
theorem sndS (w : Wf G P U T d) (lc : LCok G L) : ∀ (c : CS) {S : Sc} {X : Cx} {t : Fm} {Wx : L2.WX} {st : Stmt}, Fr2 G P U T d L S O X t Wx → chkS T L S c st = true → PS X st (LS G X t Wx (wpS O c))
  | .stuck, S, X, t, Wx, st, F, h => ls_stuck
  | .pass, S, X, t, Wx, st, F, h => by
    simp only [chkS] at h
    split at h
    · exact ls_pass
    · exact ls_doc
    · cases h
  | .ret a, S, X, t, Wx, st, F, h => by
    simp only [chkS] at h
    split at h
    · exact ls_ret (sndE w lc a F.toFr1 h)
    · cases h
  | .retN, S, X, t, Wx, st, F, h => by
    simp only [chkS] at h
    split at h
    · exact ls_retN
    · cases h
  | .asg g a, S, X, t, Wx, st, F, h => by
    simp only [chkS] at h
    split at h
    · rename_i tg e pos
      simp only [Bool.or_eq_true] at h
      rcases h with h | h
      · simp only [chkA, Bool.and_eq_true, Bool.not_eq_true'] at h
        obtain ⟨⟨⟨⟨h1, h2⟩, h3⟩, h4⟩, h5⟩ := h
        rw [← F.sc] at h2 h3
        exact ls_asg (sndE w lc a F.toFr1 h4) (sndG w lc g F.toFr1 h5) (sw_false F.kd h2) (swap_no F.kd h3) (asg_one h1)
      · unfold chkAC at h
        split at h
        · rename_i i fz elt g2 it cond g3 it1 cond1 own
          split at h
          · rename_i y py x tge i2 ifs tge1 i3 ifs1 scope pos2
            simp only [Bool.and_eq_true, decide_eq_true_eq, Bool.not_eq_true'] at h
            obtain ⟨⟨⟨⟨h1, h2⟩, h3⟩, h4⟩, h5⟩ := h
            simp only [chkE, Bool.and_eq_true, Bool.not_eq_true', List.all_eq_true, decide_eq_true_eq, decide_eq_false_iff_not] at h5
            obtain ⟨⟨⟨⟨⟨⟨⟨⟨⟨⟨⟨⟨k1, k2⟩, k3⟩, k3'⟩, k4⟩, k4'⟩, k5⟩, k6⟩, k7⟩, m5⟩, m6⟩, m7⟩, k8⟩ := h5
            have ok := L2.blkOk_by k1
            rw [← F.sc] at h2
            have z := ls_setLc2 (fz := fz) (ce := elt) (g := g2) (it := it) (cond := cond) (g1 := g3) (it1 := it1) (cond1 := cond1) (own := ownL S.N own) (py := py) (spos := pos) F.amb.calm F.amb.nd F.amb.K (F.tok.trans F.amb.tt.symm) F.st F.amb.fm (fun y c e => (F.amb.cf y c e).1) (by rw [F.N]; exact h1) h2 (L2.sw_true F.kd h2 h3 h4) (sndI w lc it F.toFr1 k5) (by rw [F.N, F.sc]; exact ok) k2 (fun j hj => by rw [ownL_map]; exact k3 j hj) (fun j hj => by rw [ownL_map]; exact k3' j hj)
              (fun Y tb B => by
                have F' := F.toFr1.blk B ok.kind
                exact ⟨sndG w lc g2 F' k6, sndC w lc cond F' k7, sndI w lc it1 F' m5, sndG w lc g3 F' m6, sndC w lc cond1 F' m7, sndE w lc elt F' k8⟩) (isSet_ok k4) (fun en => isSet_ok k4')
            rw [ownL_map] at z
            exact z
          · cases h
        · rename_i i fz elt g2 it cond own
          split at h
          · rename_i y py x tge i2 ifs scope pos2
            simp only [Bool.and_eq_true, decide_eq_true_eq, Bool.not_eq_true'] at h
            obtain ⟨⟨⟨⟨h1, h2⟩, h3⟩, h4⟩, h5⟩ := h
            simp only [chkE, Bool.and_eq_true, Bool.not_eq_true', List.all_eq_true, decide_eq_true_eq, decide_eq_false_iff_not] at h5
            obtain ⟨⟨⟨⟨⟨⟨⟨k1, k2⟩, k3⟩, k4⟩, k5⟩, k6⟩, k7⟩, k8⟩ := h5
            have ok := L2.blkOk_by k1
            rw [← F.sc] at h2
            have z := ls_setLc (fz := fz) (ce := elt) (g := g2) (it := it) (cond := cond) (own := ownL S.N own) (py := py) (spos := pos) F.amb.calm F.amb.nd F.amb.K (F.tok.trans F.amb.tt.symm) F.st F.amb.fm (fun y c e => (F.amb.cf y c e).1) (by rw [F.N]; exact h1) h2 (L2.sw_true F.kd h2 h3 h4) (sndI w lc it F.toFr1 k5) (by rw [F.N, F.sc]; exact ok) k2 (fun j hj => by rw [ownL_map]; exact k3 j hj)
              (fun Y tb B => by
                have F' := F.toFr1.blk B ok.kind
                exact ⟨sndG w lc g2 F' k6, sndC w lc cond F' k7, sndE w lc elt F' k8⟩) (isSet_ok k4)
            rw [ownL_map] at z
            exact z
          · cases h
        · cases h
    · cases h
  | .par i j a b, S, X, t, Wx, st, F, h => by
    simp only [chkS] at h
    split at h
    · simp only [Bool.and_eq_true, decide_eq_true_eq, Bool.not_eq_true'] at h
      obtain ⟨⟨⟨⟨⟨⟨⟨⟨⟨⟨⟨⟨h1, h2⟩, h3⟩, h4⟩, h5⟩, h6⟩, h7⟩, h8⟩, h9⟩, hA⟩, hB⟩, hC⟩, hD⟩ := h
      rw [← F.N] at h1 h2
      rw [← F.sc] at h4 h5
      exact ls_par F.amb.calm F.amb.nd h1 h2 h3 h4 h5 F.kd h6 h7 h8 h9 hA hB (sndE w lc a F.toFr1 hC) (sndE w lc b F.toFr1 hD)
    · cases h
  | .expr a, S, X, t, Wx, st, F, h => by
    simp only [chkS] at h
    split at h
    · simp only [Bool.and_eq_true] at h
      exact ls_expr (sndE w lc a F.toFr1 h.2) (sw_false F.kd (by rw [F.sc]; exact h.1))
    · cases h
  | .ifs c a b, S, X, t, Wx, st, F, h => by
    simp only [chkS] at h
    split at h
    · simp only [Bool.and_eq_true] at h
      exact ls_if (sndT w lc c F.toFr1 h.1.1) (sndSs w lc a F h.1.2) (sndSs w lc b F h.2)
    · cases h
  | .whl c b, S, X, t, Wx, st, F, h => by
    simp only [chkS] at h
    split at h
    · simp only [Bool.and_eq_true] at h
      exact ls_while F.amb.po (sndT w lc c F.toFr1 h.1) (sndSs w lc b F h.2)
    · cases h
  | .for_ g it b, S, X, t, Wx, st, F, h => by
    simp only [chkS] at h
    split at h
    · simp only [Bool.and_eq_true, Bool.not_eq_true'] at h
      obtain ⟨⟨⟨h1, h2⟩, h3⟩, h4⟩ := h
      exact ls_for F.amb.po F.amb.calm (F.tok.trans F.amb.tt.symm) F.st (isSet_ok h1) (sndI w lc it F.toFr1 h2) (sndG w lc g F.toFr1 h3) (sndSs w lc b F h4)
    · cases h
  | .raise c a, S, X, t, Wx, st, F, h => by
    simp only [chkS] at h
    split at h
    · split at h
      · rename_i p ep
        simp only [Bool.and_eq_true, decide_eq_true_eq, Bool.not_eq_true'] at h
        obtain ⟨⟨⟨⟨⟨e1, h0⟩, h2⟩, h3⟩, h4⟩, h5⟩ := h
        have E := w.errs c p ep
        obtain ⟨p1, p2⟩ := p
        cases p2 with
        | none => cases h0
        | some f =>
        have E : ErrOk G U c p1 f := E
        dsimp only at e1
        rw [e1] at E
        exact ls_raise F.amb E (F.gl h2) (dbg_ok h3).1 h4 (sndE w lc a F.toFr1 h5)
      · cases h
    · cases h
  | .raise0 c, S, X, t, Wx, st, F, h => by
    simp only [chkS] at h
    split at h
    · split at h
      · rename_i p ep
        simp only [Bool.and_eq_true, decide_eq_true_eq] at h
        obtain ⟨⟨⟨e1, h0⟩, h2⟩, h3⟩ := h
        have E := w.errs c p ep
        obtain ⟨p1, p2⟩ := p
        cases p2 with
        | some _ => cases h0
        | none =>
        have E : Err0 G U c p1 := E
        dsimp only at e1
        rw [e1] at E
        exact ls_raise0 F.amb E (F.gl h2) (dbg_ok h3).1
      · cases h
    · cases h
  | .try_ b hs, S, X, t, Wx, st, F, h => by
    simp only [chkS] at h
    split at h
    · simp only [Bool.and_eq_true] at h
      exact ls_try F.amb F.stk F.frm w.exm (fun W pn xe tk po => sndSs w lc b (F.tr tk po) h.1) (hs_ok w F.toFr1 h.2)
    · cases h
  | .drop i a, S, X, t, Wx, st, F, h => by
    simp only [chkS] at h
    exact ls_drop (sndS w lc a F h)
theorem sndSs (w : Wf G P U T d) (lc : LCok G L) : ∀ (c : CSs) {S : Sc} {X : Cx} {t : Fm} {Wx : L2.WX} {st : List Stmt}, Fr2 G P U T d L S O X t Wx → chkSs T L S c st = true → PSs X st (LS G X t Wx (wpSs O c))
  | .nil, S, X, t, Wx, [], F, h => ls_nil
  | .nil, S, X, t, Wx, _ :: _, F, h => by simp [chkSs] at h
  | .cons a b, S, X, t, Wx, [], F, h => by simp [chkSs] at h
  | .cons a b, S, X, t, Wx, s :: r, F, h => by
    simp only [chkSs, Bool.and_eq_true] at h
    exact ls_cons (sndS w lc a F h.1) (sndSs w lc b F h.2)
end
theorem sndR (w : Wf G P U T d) (lc : LCok G L) {S : Sc} {X : Cx} {t : Fm} {Wx : L2.WX} (F : Fr2 G P U T d L S O X t Wx) : ∀ (c : CSs) {st : List Stmt}, chkSs T L S c st = true → PSR X st (LSR G X t Wx (wpR O c))
  | .nil, st, h => lsr_nil
  | .cons a b, [], h => by simp [chkSs] at h
  | .cons a b, s :: r, h => by
    simp only [chkSs, Bool.and_eq_true] at h
    cases e : lastE a b with
    | none => exact lsr_cons e (sndS w lc a F h.1) (sndR w lc F b h.2)
    | some x =>
      unfold lastE at e
      split at e
      · cases e
        obtain ⟨h1, h2⟩ := h
        simp only [chkSs] at h2
        cases r with
        | cons _ _ => cases h2
        | nil =>
          simp only [chkS] at h1
          split at h1
          · exact lsr_last (sndE w lc _ F.toFr1 h1)
          · cases h1
      · cases e
end
end PC

set_option Elab.async false
set_option maxRecDepth 100000
set_option maxHeartbeats 4000000
/-! PC32: all levels. -/
namespace PC
open PySem PySem.Spec PyProof.Rows
open L2 (V HO Hp upd upd_same upd_ne Rd SqL SqT Cx Inv TE TT TA TS TG TGs TI VK PE PT PW PA PK PS PSs PG PGs PI PTs It R2 OpR CallR Un UB HOk ObjOk Env0 FnOk Sp XK Room frs CR EP Takes Ends FpOk BlkOk cloFrom FnScope SP)
open LamX (Tabs TabS TabB ExtN CodeO)
def noLC : LC := fun _ _ _ _ _ _ _ => false
/-- a lambda's names: parameters, captured, all slots -/
structure LNm where
  ps : List Str
  fr : List Str
  N : List Str
def parB (params : Arguments) (ps : List Str) : Bool := match params with
  | ⟨[], ar, none, [], [], none, []⟩ => decide (ar.map (·.arg) = ps)
  | _ => false
def lamB (T : Tb) (P : Prog) (LN : List LNm) (l : Nat) (params : Arguments) (e : Expr) (sc : Scope) : Bool := match P.lams[l]?, LN[l]? with
  | some M, some n => parB params n.ps && NdefX.nscB n.N n.ps n.fr sc && decide (M.n = n.ps.length) && decide (M.caps = n.fr.length) && decide (M.slots = n.N.length) && chkE T noLC ⟨n.N, sc, fun _ => false⟩ M.body e
  | _, _ => false
def lcOf (T : Tb) (P : Prog) (LN : List LNm) : LC := fun l params e sc msc N caps => lamB T P LN l params e sc && (sc.names.all fun y => !decide (y.2 = .free) || (decide (msc.names.lookup y.1 = some .cell) || decide (msc.names.lookup y.1 = some .free))) && (match LN[l]? with
  | some n => decide (caps.map (fun j => N[j]?) = n.fr.map some)
  | none => false)
def lgOf (T : Tb) (P : Prog) (LN : List LNm) (ci : Clo) : Prop := ∃ (L : LamT) (n : LNm), LN[ci.l]? = some n ∧ n.ps = L.ps ∧ n.fr = L.fr ∧ n.N = L.N ∧ LamFacts L ci ∧ lamB T P LN ci.l L.params L.ex L.scope = true
theorem look_mem {l : List (Str × NameKind)} {x : Str} {k : NameKind} (h : l.lookup x = some k) : (x, k) ∈ l := by
  induction l with
  | nil => cases h
  | cons a r ih =>
    obtain ⟨y, j⟩ := a
    rw [List.lookup_cons] at h
    split at h
    · rename_i q
      rw [eq_of_beq q]
      cases h
      exact List.mem_cons_self ..
    · exact List.mem_cons_of_mem _ (ih h)
theorem parB_ok {params : Arguments} {ps : List Str} (h : parB params ps = true) : ∃ ar, params = ⟨[], ar, none, [], [], none, []⟩ ∧ ar.map (·.arg) = ps := by
  unfold parB at h
  split at h
  · exact ⟨_, rfl, of_decide_eq_true h⟩
  · cases h
theorem lc_ok {G : Gs} {T : Tb} {P : Prog} {LN : List LNm} (hG : G.LG = lgOf T P LN) : LCok G (lcOf T P LN) := by
  intro l params e sc msc N caps h
  have h0 := h
  unfold lcOf at h
  simp only [Bool.and_eq_true] at h
  obtain ⟨⟨h1, h2⟩, h3⟩ := h
  have h1' := h1
  unfold lamB at h1
  split at h1
  · rename_i M n eM en
    simp only [Bool.and_eq_true, decide_eq_true_eq] at h1
    obtain ⟨⟨⟨⟨⟨k1, k2⟩, k3⟩, k4⟩, k5⟩, k6⟩ := h1
    have S := NdefX.nscope_by k2
    obtain ⟨ar, rfl, har⟩ := parB_ok k1
    rw [en] at h3
    refine ⟨n.fr, n.ps, n.N, fun ci el F => ?_, fun env => rfl, fun y hy e => ?_, fun y => ⟨fun z => S.free _ z rfl, fun z => look_mem (S.frk y z)⟩, of_decide_eq_true h3, ?_⟩
    · rw [hG]
      subst el
      exact ⟨_, n, en, rfl, rfl, rfl, F, h1'⟩
    · have z := List.all_eq_true.mp h2 y hy
      simp only [Bool.or_eq_true, Bool.not_eq_true', decide_eq_true_eq, decide_eq_false_iff_not] at z
      exact z.elim (fun z => (z e).elim) id
    · have nd : (n.N.take (n.ps.length + n.fr.length)).Nodup := S.nd.sublist (List.take_sublist _ _)
      rw [S.pre] at nd
      exact (List.nodup_append.mp nd).2.1
  · cases h1
theorem noLC_ok {G : Gs} : LCok G noLC := fun l params e sc msc N caps h => by cases h
/-- a def of the text, as given -/
structure FunD (G : Gs) (P : Prog) (U : Uni) (T : Tb) (LN : List LNm) (i : Nat) (nm : Str) (ps : List Str) : Prop where
  ex : ∃ (D : Def) (name qual : Str) (params : Arguments) (body : List Stmt) (scope : Scope) (dV kV doc pm cdv ct oc : Value) (an od : Option Addr) (osl : Array (Option Value)) (N : List Str) (ar : List Arg) (kd : List (Option Expr)) (df : List Expr),
    G.K.lookup (G.adr i) = some ⟨oc, od, .func (PySem.W.fnOf name qual params body scope dV kV doc pm an cdv ct), osl⟩ ∧ PySem.W.codeIn G.K cdv qual = true ∧ FnScope N ps scope ∧ P.defs[i]? = some D ∧ D.n = ps.length ∧ D.slots = N.length ∧
    ar.map (·.arg) = ps ∧ params = ⟨[], ar, none, [], kd, none, df⟩ ∧ dV = .none ∧
    (match D.lm with
      | false => chkSs T noLC ⟨N, scope, fun _ => true⟩ D.body body = true
      | true => chkSs T (lcOf T P LN) ⟨N, scope, fun _ => true⟩ D.body body = true ∧ ∃ c Pt, cdv = .ref c ∧ TabB U.B U.mg c Pt ∧ (Pt, qual ++ ".<locals>." ++ "<lambda>") ∈ G.T ∧ ∀ p ∈ G.T, p.1 = Pt → p.2 = qual ++ ".<locals>." ++ "<lambda>")
  m : U.mg nm = some (.ref (G.adr i))
  kp : PySem.W.keepIn G.K (.ref (G.adr i)) = true
  nd : ps.Nodup
/-- the text as a whole -/
structure Txt (G : Gs) (P : Prog) (U : Uni) (T : Tb) (LN : List LNm) : Prop where
  len : T.defs.length = P.defs.length
  fun_ : ∀ (i : Nat) (p : Str × List Str), T.defs[i]? = some p → FunD G P U T LN i p.1 p.2
  lg : G.LG = lgOf T P LN
  keep : ∀ f, PySem.W.keepIn G.K (.ref (G.adr f)) = true
  mg : ∀ x ∈ bltNames, U.mg x = none
  errs : ∀ (c : Nat) (p : Str × Option Str), T.errs[c]? = some p → ErrA G U c p
  cons : ∀ x v, T.cons.lookup x = some v → ∃ (y : V) (u : Value), U.mg x = some u ∧ L2.RelV y u ∧ ∀ W, RV G.adr G.K W v y
  exm : ∀ c c', c < G.exn → c' < G.exn → PySem.W.exmOne G.K (.ref (G.exC c)) (.ref (G.exC c')) = some (decide (c = c'))
section
variable {G : Gs} {P : Prog} {U : Uni} {T : Tb} {LN : List LNm}
theorem at_call (d : Nat) (b : Bool) : ((orc P d).at b).call = (orc P d).call := rfl
theorem orc_st (d : Nat) : (orc P d).st = false := by cases d <;> rfl
theorem call_lt {d i : Nat} {vs : List PV} {h : Hea} {Qp : KQ} {Xp : KX} (z : (orc P (d + 1)).call i vs h Qp Xp) : i < P.defs.length := by
  by_cases q : i < P.defs.length
  · exact q
  · have e : P.defs[i]? = none := List.getElem?_eq_none (Nat.le_of_not_lt q)
    unfold orc at z
    simp only [e] at z
/-- a def of the text keeps its promise, one level up -/
theorem FunD.run (lg : G.LG = lgOf T P LN) {d : Nat} (w : Wf G P U T d) {i : Nat} {nm : Str} {ps : List Str} (FD : FunD G P U T LN i nm ps) : ∃ fd ar kd df oc od osl, G.K.lookup (G.adr i) = some ⟨oc, od, .func fd, osl⟩ ∧ FnOk U.pr U.w G.K U.mg U.B (L2.CX U.pr U.w) (d + 1 + 2) (G.adr i) fd ps (spC G P U.B (d + 1) i) ∧ ar.map (·.arg) = ps ∧ fd.params = ⟨[], ar, none, [], kd, none, df⟩ ∧ fd.defaults = .none := by
  obtain ⟨D, name, qual, params, body, scope, dV, kV, doc, pm, cdv, ct, oc, an, od, osl, N, ar, kd, df, lk, hcd, S, hP, hn, hsl, har, hpar, hdV, hchk⟩ := FD.ex
  refine ⟨_, ar, kd, df, oc, od, osl, lk, ?_, har, hpar, hdV⟩
  have fr : ∀ X t Wx, Amb G U d X t Wx → X.N = N → X.env = envOfC qual scope X.s_0.heap.objs.size (G.adr i) cdv → X.fn = (fun _ => true) → X.stack = X.env :: X.outer → X.env.frame = some X.env.locals → t.lm = D.lm → t.st = D.lm → t.bk = false → (∀ y c, X.env.cells.lookup y = some c → t.W0.cv c = none) →
      ∃ L, LCok G L ∧ Fr2 G P U T d L ⟨N, scope, fun _ => true⟩ ((orc P d).at D.lm) X t Wx ∧ chkSs T L ⟨N, scope, fun _ => true⟩ D.body body = true := fun X t Wx A hN hE hfn hst hfr hlm htst htbk hnew => by
    have sc : X.env.scope = scope := (congrArg PySem.Env.scope hE).trans rfl
    have qe : X.env.qual = qual ++ ".<locals>." := (congrArg PySem.Env.qual hE).trans rfl
    have ce : X.env.code = cdv := (congrArg PySem.Env.code hE).trans rfl
    clear hE
    cases hl : D.lm with
    | false =>
      rw [hl] at hchk htst hlm
      exact ⟨noLC, noLC_ok, ⟨⟨A, hN, sc, fun x _ => by rw [hfn], S.kind, rfl, rfl, orc_tok P d, htst.symm, fun z => (by obtain ⟨_, _, _, _, _, _, _, z⟩ := z; cases z), fun z => (by obtain ⟨_, _, _, _, _, _, _, z⟩ := z; cases z)⟩, hst, hfr⟩, hchk⟩
    | true =>
      rw [hl] at hchk htst hlm
      obtain ⟨hchk, c, Pt, ec, tb, hm, hu⟩ := hchk
      refine ⟨lcOf T P LN, lc_ok lg, ⟨⟨A, hN, sc, fun x _ => by rw [hfn], S.kind, rfl, rfl, orc_tok P d, htst.symm, fun z => hnew, fun z => ⟨hlm, c, Pt, ?_, ?_, ?_, ?_⟩⟩, hst, hfr⟩, hchk⟩
      · rw [ce]; exact ec
      · rw [A.B, A.mg]; exact tb
      · rw [qe]; exact hm
      · rw [qe]; exact hu
  cases hs : D.str with
  | false =>
    refine def_run lk hcd S hP hn hsl hs fun X t Wx A hN hE hfn hst hfr hlm htst htbk hnew => ?_
    obtain ⟨L, lc, F, hc⟩ := fr X t Wx A hN hE hfn hst hfr hlm htst htbk hnew
    exact sndSs w lc D.body F hc
  | true =>
    refine def_run_str lk hcd S hP hn hsl hs fun X t Wx A hN hE hfn hst hfr hlm htst htbk hnew => ?_
    obtain ⟨L, lc, F, hc⟩ := fr X t Wx A hN hE hfn hst hfr hlm htst htbk hnew
    exact sndR w lc F D.body hc
/-- one level up -/
theorem Txt.up (X0 : Txt G P U T LN) {d : Nat} (w : Wf G P U T d) : Wf G P U T (d + 1) := by
  have defs : ∀ (i : Nat) (p : Str × List Str), T.defs[i]? = some p → DefOk G P U.pr U.w U.mg U.B (d + 1) i p.1 p.2 := fun i p e => by
    have FD := X0.fun_ i p e
    obtain ⟨fd, ar, kd, df, oc, od, osl, lk, R, h1, h2, h3⟩ := FD.run X0.lg w
    exact ⟨⟨fd, ar, kd, df, R, h1, h2, h3⟩, FD.m, FD.kp, FD.nd⟩
  refine ⟨defs, fun i ⟨vs, h, Qp, Xp, z⟩ => ?_, fun l _ => lam_run fun ci el hg => ?_, X0.keep, X0.mg, X0.errs, X0.cons, X0.exm⟩
  · have lt : i < T.defs.length := by
      rw [X0.len]
      exact call_lt z
    obtain ⟨p, ep⟩ : ∃ p, T.defs[i]? = some p := ⟨_, List.getElem?_eq_getElem lt⟩
    exact ⟨p.1, p.2, defs i p ep⟩
  · rw [X0.lg] at hg
    obtain ⟨L, n, en, e1, e2, e3, F, hb⟩ := hg
    subst el
    unfold lamB at hb
    rw [en] at hb
    split at hb
    · rename_i M n' eM en'
      cases en'
      simp only [Bool.and_eq_true, decide_eq_true_eq] at hb
      obtain ⟨⟨⟨⟨⟨k1, k2⟩, k3⟩, k4⟩, k5⟩, k6⟩ := hb
      rw [e1, e2, e3] at k2
      rw [e1] at k1 k3
      rw [e2] at k4
      rw [e3] at k5 k6
      have S := NdefX.nscope_by k2
      obtain ⟨ar, hpar, har⟩ := parB_ok k1
      exact ⟨L, M, ar, [], [], F, S, eM, k3, k4, k5, hpar, har, fun X t Wx A hN hsc hts => sndE w noLC_ok M.body ⟨A, hN, hsc, fun x z => (by cases z), S.kind, rfl, rfl, orc_tok P d, (orc_st d).trans hts.symm, fun z => (by obtain ⟨_, _, _, _, _, _, _, z⟩ := z; cases z), fun z => (by obtain ⟨_, _, _, _, _, _, _, z⟩ := z; cases z)⟩ k6⟩
    · cases hb
theorem Txt.zero (X0 : Txt G P U T LN) : Wf G P U T 0 := by
  refine ⟨fun i p e => ?_, fun i ⟨vs, h, Qp, Xp, z⟩ => z.elim, fun l ⟨cap, vs, h, Qp, Xp, z⟩ => z.elim, X0.keep, X0.mg, X0.errs, X0.cons, X0.exm⟩
  have FD := X0.fun_ i p e
  obtain ⟨D, name, qual, params, body, scope, dV, kV, doc, pm, cdv, ct, oc, an, od, osl, N, ar, kd, df, lk, hcd, S, hP, hn, hsl, har, hpar, hdV, hchk⟩ := FD.ex
  exact ⟨⟨PySem.W.fnOf name qual params body scope dV kV doc pm an cdv ct, ar, kd, df, ⟨fun vs H Q E ⟨W, h, vs', Qp, Xp, _, _, z, _⟩ => z.elim, fun A outer s H args us vs Q E _ _ _ _ ⟨W, h, vs', Qp, Xp, _, _, z, _⟩ => z.elim⟩, har, hpar, hdV⟩, FD.m, FD.kp, FD.nd⟩
theorem Txt.wf (X0 : Txt G P U T LN) : ∀ d, Wf G P U T d
  | 0 => X0.zero
  | d + 1 => X0.up (X0.wf d)
end
end PC

set_option Elab.async false
set_option maxRecDepth 100000
set_option maxHeartbeats 4000000
/-! PC33: the head: what the text's top leaves is what the layer wants. -/
namespace PC
open PySem PySem.Spec PyProof.Rows
open L2 (V HO Hp upd upd_same upd_ne Rd SqL SqT Cx Inv TE TT TA TS TG TGs TI VK PE PT PW PA PK PS PSs PG PGs PI PTs It R2 OpR CallR Un UB HOk ObjOk Env0 FnOk Sp XK Room frs CR EP Takes Ends FpOk BlkOk cloFrom FnScope SP)
open LamX (Tabs TabS TabB ExtN CodeO)
/-- a def of the top: its name, parameters, slots, which statement, whether it makes lambdas -/
structure FunL where
  nm : Str
  ps : List Str
  N : List Str
  at_ : Nat
  lm : Bool
/-- an own error with one field -/
structure ErrL where
  nm : Str
  fld : Option Str
  at_ : Nat
def topSt (pw : Program) (i : Nat) : Stmt := (pw.main.body[i]?).getD (.Pass default)
def FunL.st (pw : Program) (f : FunL) : Stmt := topSt pw f.at_
def FunL.dd (pw : Program) (f : FunL) : He.DefD := ⟨(f.nm, none), f.nm, f.nm, L2.defArgs (f.st pw), L2.defBody (f.st pw), L2.defScope (f.st pw), [], []⟩
def isInit : Stmt → Bool
  | .FunctionDef n _ _ _ _ _ _ _ _ _ => decide (n = "__init__")
  | _ => false
def ErrL.st (pw : Program) (e : ErrL) : Stmt := match topSt pw e.at_ with
  | .ClassDef _ _ _ body _ _ _ _ _ _ _ => (body.find? isInit).getD (.Pass default)
  | s => s
def ErrL.dd (pw : Program) (e : ErrL) : He.DefD := ⟨(e.nm, some "__init__"), "__init__", e.nm ++ ".__init__", L2.defArgs (e.st pw), L2.defBody (e.st pw), L2.defScope (e.st pw), [], []⟩
def tbOf (dl : List FunL) (el : List ErrL) (cl : List (Str × PV)) : Tb := ⟨dl.map fun f => (f.nm, f.ps), el.map fun e => (e.nm, e.fld), cl⟩
/-! ### the text alone -/
def scpB (N ps : List Str) (sc : Scope) : Bool := decide (sc.kind = .function) && !sc.isCoroutine && !sc.isGenerator && decide N.Nodup && decide (N.take ps.length = ps) && (ps.all fun x => decide (sc.names.lookup x = some .local) || decide (sc.names.lookup x = some .cell)) && sc.names.all fun y => !decide (y.2 = .free)
theorem scpB_ok {N ps : List Str} {sc : Scope} (h : scpB N ps sc = true) : FnScope N ps sc := by
  unfold scpB at h
  simp only [Bool.and_eq_true, Bool.not_eq_true', decide_eq_true_eq, List.all_eq_true, Bool.or_eq_true, decide_eq_false_iff_not] at h
  obtain ⟨⟨⟨⟨⟨⟨z1, z2⟩, z3⟩, z4⟩, z5⟩, z6⟩, z7⟩ := h
  exact ⟨z1, z2, z3, z4, z5, z6, z7⟩
def argB (params : Arguments) (ps : List Str) : Bool := match params with
  | ⟨[], ar, none, [], _, none, _⟩ => decide (ar.map (·.arg) = ps)
  | _ => false
theorem argB_ok {params : Arguments} {ps : List Str} (h : argB params ps = true) : ∃ ar kd df, params = ⟨[], ar, none, [], kd, none, df⟩ ∧ ar.map (·.arg) = ps := by
  unfold argB at h
  split at h
  · exact ⟨_, _, _, rfl, of_decide_eq_true h⟩
  · cases h
def funB (pw : Program) (P : Prog) (T : Tb) (LN : List LNm) (f : FunL) (i : Nat) : Bool := match P.defs[i]? with
  | some D => scpB f.N f.ps (L2.defScope (f.st pw)) && Nat.beq D.n f.ps.length && Nat.beq D.slots f.N.length && (D.lm == f.lm) && argB (L2.defArgs (f.st pw)) f.ps && decide f.ps.Nodup && (match D.lm with
    | true => chkSs T (lcOf T P LN) ⟨f.N, L2.defScope (f.st pw), fun _ => true⟩ D.body (L2.defBody (f.st pw))
    | false => chkSs T noLC ⟨f.N, L2.defScope (f.st pw), fun _ => true⟩ D.body (L2.defBody (f.st pw)))
  | none => false
def iniB (f : Str) : List Stmt → Bool
  | [.Assign [.Attribute (.Name s _) a _] (.Name b _) _] => decide (s = "self") && decide (a = f) && decide (b = f)
  | _ => false
def errB (pw : Program) (e : ErrL) : Bool := match e.fld with
  | some f => iniB f (L2.defBody (e.st pw)) && scpB ["self", f] ["self", f] (L2.defScope (e.st pw)) && argB (L2.defArgs (e.st pw)) ["self", f] && dbg f
  | none => true
/-! ### the written part -/
def finO (a : Option (Option Value)) (b : Option Value) : Bool := decide (a = some b)
def clsB (K : PySem.W.Frag) (C : Addr) : Bool := (match K.lookup C with
  | some ⟨.type t, _, .cls cd, sl⟩ => (match cd.mro, sl.toList with
    | .ref D :: tl, [_, _, _, _, some (.builtin m), _] => decide (t = "type") && decide (D = C) && decide (m = "ValueError.__new__") && !cd.hasDel && cd.hasDict && PySem.HandSPX.refsVE tl
    | _, _ => false)
  | _ => false) && finO (PySem.W.findIn K (.ref C) "__setattr__") (some (.builtin "object.__setattr__")) && decide (PySem.W.subIn K (.ref C) (.type "BaseException") = some true) && decide (PySem.W.typeIn K (.ref C) = some (.type "type")) && PySem.W.keepIn K (.ref C)
theorem clsB_ok {K : PySem.W.Frag} {C : Addr} (h : clsB K C = true) : L2.OexC K C := by
  unfold clsB finO at h
  simp only [Bool.and_eq_true, decide_eq_true_eq] at h
  obtain ⟨⟨⟨⟨z1, z2⟩, z3⟩, z4⟩, z5⟩ := h
  refine ⟨?_, z2, z3, z4, z5⟩
  split at z1
  · rename_i t dd cd sl hk
    split at z1
    · rename_i D tl q0 q1 q2 q3 m q5 hm hs
      simp only [Bool.and_eq_true, Bool.not_eq_true', decide_eq_true_eq] at z1
      obtain ⟨⟨⟨⟨⟨rfl, rfl⟩, rfl⟩, y4⟩, y5⟩, y6⟩ := z1
      obtain ⟨b1, b2, b3, b4, b5, b6, b7, b8, b9, b10, b11⟩ := cd
      dsimp only at hm y4 y5
      subst hm y4 y5
      obtain ⟨l⟩ := sl
      dsimp only at hs
      subst hs
      exact ⟨_, _, _, _, _, _, _, _, _, _, _, _, _, _, _, hk, y6⟩
    · cases z1
  · cases z1
/-- a constant of the top -/
def conV (K : PySem.W.Frag) : Nat → PV → Value → Bool
  | _, .non, .none => true
  | _, .bl a, .bool b => a == b
  | _, .int a, .int b _ => decide (a = b)
  | _, .str a, .str b _ => decide (a = b)
  | d + 1, .tup xs, .ref a => (match K.lookup a with
    | some ⟨.type t, _, .seq its _, _⟩ => decide (t = "tuple") && decide (its.size ≤ sizeLine) && conVs K d xs its.toList
    | _ => false)
  | _, _, _ => false
where conVs (K : PySem.W.Frag) : Nat → List PV → List Value → Bool
  | _, [], [] => true
  | d, x :: xs, v :: vs => conV K d x v && conVs K d xs vs
  | _, _, _ => false

mutual
theorem conV_ok {adr : Nat → Addr} {K : PySem.W.Frag} : ∀ (d : Nat) {v : PV} {u : Value}, conV K d v u = true → ∃ y : V, L2.RelV y u ∧ ∀ W, RV adr K W v y
  | d, .non, u, h => by
    cases u <;> first | (simp [conV] at h; done) | exact ⟨.non, rfl, fun _ => .non⟩
  | d, .bl a, u, h => by
    cases u with
    | bool b => have e : a = b := by simpa [conV] using h
                subst e; exact ⟨.bl a, rfl, fun _ => .bl a⟩
    | _ => simp [conV] at h
  | d, .int a, u, h => by
    cases u with
    | int b t => have e : a = b := by simpa [conV] using h
                 subst e; exact ⟨.int a, ⟨t, rfl⟩, fun _ => .int a⟩
    | _ => simp [conV] at h
  | d, .str a, u, h => by
    cases u with
    | str b t => have e : a = b := by simpa [conV] using h
                 subst e; exact ⟨.str a, ⟨t, rfl⟩, fun _ => .str a⟩
    | _ => simp [conV] at h
  | d + 1, .tup xs, u, h => by
    cases u with
    | ref a =>
      simp only [conV] at h
      split at h
      · rename_i t dd its n sl hk
        simp only [Bool.and_eq_true, decide_eq_true_eq] at h
        obtain ⟨⟨rfl, h2⟩, h3⟩ := h
        obtain ⟨ys, q1, q2⟩ := conVs_ok (adr := adr) d h3
        exact ⟨.ref a, rfl, fun W => .tupK ⟨_, its, n, hk, rfl, rfl, h2, q1⟩ (q2 W)⟩
      · cases h
    | _ => simp [conV] at h
  | 0, .tup xs, u, h => by cases u <;> simp [conV] at h
  | d, .lst xs, u, h => by cases u <;> simp [conV] at h
  | d, .dct ks xs, u, h => by cases u <;> simp [conV] at h
  | d, .ref n, u, h => by cases u <;> simp [conV] at h
  | d, .fn n, u, h => by cases u <;> simp [conV] at h
  | d, .clo l t c, u, h => by cases u <;> simp [conV] at h
  | d, .scr n, u, h => by cases u <;> simp [conV] at h
theorem conVs_ok {adr : Nat → Addr} {K : PySem.W.Frag} : ∀ (d : Nat) {v : List PV} {u : List Value}, conV.conVs K d v u = true → ∃ y : List V, L2.Vals y u ∧ ∀ W, RVs adr K W v y
  | d, [], [], h => ⟨[], .nil, fun _ => .nil⟩
  | d, [], _ :: _, h => by simp [conV.conVs] at h
  | d, _ :: _, [], h => by simp [conV.conVs] at h
  | d, x :: xs, v :: vs, h => by
    simp only [conV.conVs, Bool.and_eq_true] at h
    obtain ⟨y, q1, q2⟩ := conV_ok (adr := adr) d h.1
    obtain ⟨ys, q3, q4⟩ := conVs_ok (adr := adr) d h.2
    exact ⟨y :: ys, .cons q1 q3, fun W => .cons (q2 W) (q4 W)⟩
end
/-- where the own errors' __init__ stand -/
def iniA (K : PySem.W.Frag) (e : ErrL) : Addr := He.ma K (He.ga K e.nm) "__init__"
def errK (K : PySem.W.Frag) (e : ErrL) : Bool := match e.fld with
  | some f => clsB K (He.ga K e.nm) && finO (PySem.W.findIn K (.ref (He.ga K e.nm)) "__init__") (some (.ref (iniA K e))) && decide (PySem.W.typeIn K (.ref (iniA K e)) = some (.type "function")) &&
    finO (PySem.W.findIn K (.ref (He.ga K e.nm)) "__getattribute__") (some (.builtin "BaseException.__getattribute__")) && finO (PySem.W.findIn K (.ref (He.ga K e.nm)) "__getattr__") none && finO (PySem.W.findIn K (.ref (He.ga K e.nm)) f) none && PySem.W.hasDictIn K (He.ga K e.nm)
  | none => PySem.W.excIn K (He.ga K e.nm) He.veBase "ValueError.__new__" && PySem.W.keepIn K (.ref (He.ga K e.nm)) && decide (PySem.W.subIn K (.ref (He.ga K e.nm)) (.type "BaseException") = some true) && decide (PySem.W.typeIn K (.ref (He.ga K e.nm)) = some (.type "type"))
def exmB (K : PySem.W.Frag) (el : List ErrL) : Bool := el.zipIdx.all fun p => el.zipIdx.all fun q => decide (PySem.W.exmOne K (.ref (He.ga K p.1.nm)) (.ref (He.ga K q.1.nm)) = some (decide (p.2 = q.2)))
def consB (K : PySem.W.Frag) (cl : List (Str × PV)) : Bool := cl.all fun c => match PySem.W.nsIn K mainGlobals c.1 with
  | some (some u) => conV K 8 c.2 u
  | _ => false
/-- the tables of the code objects of defs that make lambdas -/
def lmL (dl : List FunL) : List FunL := dl.filter fun f => f.lm
def tfOf (dl : List FunL) : List He.Defn := (lmL dl).map fun f => (f.nm, none)
def lamQ (f : FunL) : Str := f.nm ++ ".<locals>." ++ "<lambda>"
def tabL (K : PySem.W.Frag) (dl : List FunL) : List (Addr × Str) := (lmL dl).map fun f => ((He.cT K (f.nm, none)).2, lamQ f)
def tabB (K : PySem.W.Frag) (dl : List FunL) : Bool := (tabL K dl).all fun p => (tabL K dl).all fun q => !decide (q.1 = p.1) || decide (q.2 = p.2)
def exB (dl : List FunL) (el : List ErrL) (cl : List (Str × PV)) (K : PySem.W.Frag) : Bool := (el.all (errK K)) && exmB K el && consB K cl && tabB K dl
def faOf (dl : List FunL) (el : List ErrL) : List He.Fa := (dl.map fun f => He.Fa.glo f.nm) ++ (el.map fun e => He.Fa.glo e.nm) ++ bltNames.map He.Fa.free
def fnOf (pw : Program) (dl : List FunL) (el : List ErrL) : List He.DefD := dl.map (FunL.dd pw) ++ (el.filter fun e => e.fld.isSome).map (ErrL.dd pw)
abbrev Says (pw : Program) (dl : List FunL) (el : List ErrL) (cl : List (Str × PV)) (w : World) (h : Heap) (K : PySem.W.Frag) : Prop := He.SaysX (faOf dl el) (fnOf pw dl el) [] (tfOf dl) (exB dl el cl) w h K
def gsOf (P : Prog) (dl : List FunL) (el : List ErrL) (cl : List (Str × PV)) (LN : List LNm) (K : PySem.W.Frag) : Gs where
  adr := fun i => match dl[i]? with
    | some f => He.ga K f.nm
    | none => (match dl with
      | f :: _ => He.ga K f.nm
      | [] => 0)
  K := K
  T := tabL K dl
  LG := lgOf (tbOf dl el cl) P LN
  exC := fun c => match el[c]? with
    | some e => He.ga K e.nm
    | none => 0
  exF := fun c => (el[c]?).bind (·.fld)
  exn := el.length
/-- the text alone fits -/
structure Fits (pw : Program) (P : Prog) (dl : List FunL) (el : List ErrL) (cl : List (Str × PV)) (LN : List LNm) : Prop where
  len : dl.length = P.defs.length
  ne : dl ≠ []
  funs : ∀ (i : Nat) (f : FunL), dl[i]? = some f → funB pw P (tbOf dl el cl) LN f i = true
  errs : ∀ e ∈ el, errB pw e = true
  cons : ∀ x v, cl.lookup x = some v → (x, v) ∈ cl
section
variable {pw : Program} {P : Prog} {dl : List FunL} {el : List ErrL} {cl : List (Str × PV)} {LN : List LNm} {w : World} {h : Heap} {K : PySem.W.Frag} {mg : Str → Option Value}
theorem fad_none (x : Str) : He.fAd K (x, none) = He.ga K x := rfl
theorem look_in {α β : Type} [BEq α] [LawfulBEq α] {x : α} {v : β} : ∀ {l : List (α × β)}, l.lookup x = some v → (x, v) ∈ l
  | [], e => by cases e
  | (y, u) :: r, e => by
    rw [List.lookup_cons] at e
    split at e
    · rename_i q
      cases e
      rw [eq_of_beq q]
      exact List.mem_cons_self ..
    · exact List.mem_cons_of_mem _ (look_in e)
theorem zip_get {α : Type} {l : List α} {i : Nat} {a : α} (e : l[i]? = some a) : (a, i) ∈ l.zipIdx := by
  rw [List.mem_zipIdx_iff_getElem?]
  exact e
theorem gs_adr {i : Nat} {f : FunL} (e : dl[i]? = some f) : (gsOf P dl el cl LN K).adr i = He.ga K f.nm := by
  unfold gsOf
  simp only [e]
theorem gs_exC {c : Nat} {e : ErrL} (q : el[c]? = some e) : (gsOf P dl el cl LN K).exC c = He.ga K e.nm := by
  unfold gsOf
  simp only [q]
theorem bind_all {x qual : Str} {body : List Stmt} {scope : Scope} {kV doc pm cdv ct : Value} {an : Option Addr} {ar : List Arg} {kd : List (Option Expr)} {df : List Expr} {ps : List Str} {us : List Value} (har : ar.map (·.arg) = ps) (nd : ps.Nodup) (hl : us.length = ps.length) :
    bindArgs (PySem.W.fnOf x qual ⟨[], ar, none, [], kd, none, df⟩ body scope .none kV doc pm an cdv ct) ⟨us, []⟩ = pure (ps.zip us) := by
  have ok : kwOk (ar.map (·.arg)) us.length [] (List.range us.length) = true := by
    rw [har, hl]
    unfold kwOk
    simp only [Bool.and_eq_true, decide_eq_true_eq, List.all_eq_true, List.length_range, List.mem_range]
    refine ⟨⟨⟨⟨⟨Nat.le_refl _, nd⟩, List.nodup_nil⟩, fun z hz => by cases hz⟩, trivial⟩, fun j hj => ?_⟩
    rw [List.getElem?_range hj]
    simp [hj]
  have z := bind_kw (fd := PySem.W.fnOf x qual ⟨[], ar, none, [], kd, none, df⟩ body scope .none kV doc pm an cdv ct) (us := us) (ws := []) rfl rfl ok rfl rfl
  rw [har] at z
  have e : pick Value.none (us ++ []) (List.range us.length) = us := by
    unfold pick
    rw [List.append_nil]
    refine List.ext_getElem? fun i => ?_
    rw [List.getElem?_map]
    by_cases q : i < us.length
    · rw [List.getElem?_range q]
      simp [q]
    · rw [List.getElem?_eq_none (by simpa using q), List.getElem?_eq_none (by simpa using q)]
      rfl
  rw [e] at z
  exact z
theorem init_binds {K : PySem.W.Frag} {x qual : Str} {body : List Stmt} {scope : Scope} {f : Addr} {fd : FuncData} {ar : List Arg} {kd : List (Option Expr)} {df : List Expr} {ps : List Str} (F : L2.FunD K x qual ⟨[], ar, none, [], kd, none, df⟩ body scope [] [] f fd) (har : ar.map (·.arg) = ps) (nd : ps.Nodup) : L2.Binds K fd ps [] :=
  L2.FunD.bindsN F fun kV doc pm an cdv ct us hl => bind_all har nd hl
theorem txt_of (F : Fits pw P dl el cl LN) (S : Says pw dl el cl w h K) (KX : K.In h) (G : h.Ns mainGlobals mg) {pr : Program} {B : Heap} (TB : ∀ p ∈ (tfOf dl).map (He.cT K), TabB B mg p.1 p.2) : Txt (gsOf P dl el cl LN K) P ⟨pr, w, mg, B⟩ (tbOf dl el cl) LN := by
  have D := S.t.d
  have ex := S.more
  unfold exB at ex
  simp only [Bool.and_eq_true] at ex
  obtain ⟨⟨⟨x1, x2⟩, x3⟩, x4⟩ := ex
  have glo : ∀ f ∈ dl, mg f.nm = some (.ref (He.ga K f.nm)) := fun f hf => He.glo_ok KX G (D.facts (by
    unfold faOf
    exact List.mem_append_left _ (List.mem_append_left _ (List.mem_map_of_mem hf))))
  have gle : ∀ e ∈ el, mg e.nm = some (.ref (He.ga K e.nm)) := fun f hf => He.glo_ok KX G (D.facts (by
    unfold faOf
    exact List.mem_append_left _ (List.mem_append_right _ (List.mem_map_of_mem hf))))
  have dd : ∀ f ∈ dl, ∃ fd, L2.FunD K f.nm f.nm (L2.defArgs (f.st pw)) (L2.defBody (f.st pw)) (L2.defScope (f.st pw)) [] [] (He.ga K f.nm) fd := fun f hf => D.defs (d := f.dd pw) (List.mem_append_left _ (List.mem_map_of_mem hf))
  have de : ∀ e ∈ el, e.fld.isSome = true → ∃ fd, L2.FunD K "__init__" (e.nm ++ ".__init__") (L2.defArgs (e.st pw)) (L2.defBody (e.st pw)) (L2.defScope (e.st pw)) [] [] (iniA K e) fd := fun e he hs => D.defs (d := e.dd pw) (List.mem_append_right _ (List.mem_map_of_mem (List.mem_filter.mpr ⟨he, hs⟩)))
  have kp : ∀ f ∈ dl, PySem.W.keepIn K (.ref (He.ga K f.nm)) = true := fun f hf => (dd f hf).elim fun _ z => z.kp
  refine ⟨?_, fun i p e => ?_, rfl, fun i => ?_, fun x hx => ?_, fun c p e => ?_, fun x v e => ?_, fun c c' hc hc' => ?_⟩
  · unfold tbOf
    rw [List.length_map]
    exact F.len
  · unfold tbOf at e
    rw [List.getElem?_map] at e
    obtain ⟨f, ef, rfl⟩ := Option.map_eq_some_iff.mp e
    have hf := List.mem_of_getElem? ef
    have fb := F.funs i f ef
    unfold funB at fb
    split at fb
    · rename_i DD eD
      simp only [Bool.and_eq_true, Bool.not_eq_true', decide_eq_true_eq] at fb
      obtain ⟨⟨⟨⟨⟨⟨b1, b2⟩, b3⟩, b5⟩, b6⟩, b7⟩, b8⟩ := fb
      obtain ⟨fd, FF⟩ := dd f hf
      obtain ⟨oc, od, dV, kV, doc, pm, an, cdv, ct, osl, rfl, lk, hcd, hD, hK⟩ := FF.ex
      obtain ⟨ar, kd, df, hp, har⟩ := argB_ok b6
      have dn : dV = .none := by
        rcases hD with ⟨_, z⟩ | ⟨z, _⟩
        · exact z
        · exact absurd rfl z
      refine ⟨⟨DD, f.nm, f.nm, L2.defArgs (f.st pw), L2.defBody (f.st pw), L2.defScope (f.st pw), dV, kV, doc, pm, cdv, ct, oc, an, od, osl, f.N, ar, kd, df, ?_, hcd, scpB_ok b1, eD, Nat.eq_of_beq_eq_true b2, Nat.eq_of_beq_eq_true b3, har, hp, dn, ?_⟩, ?_, ?_, b7⟩
      · rw [gs_adr ef]; exact lk
      · cases hl : DD.lm with
        | false => rw [hl] at b8; exact b8
        | true =>
          rw [hl] at b8 b5
          refine ⟨b8, ?_⟩
          have fl : f ∈ lmL dl := List.mem_filter.mpr ⟨hf, by simpa using b5.symm⟩
          have ft : ((f.nm, none) : He.Defn) ∈ tfOf dl := List.mem_map.mpr ⟨f, fl, rfl⟩
          obtain ⟨c, ec⟩ := He.codeIn_ref hcd
          have eco : He.codeOf K (f.nm, none) = c := He.codeOf_eq (p := (f.nm, none)) lk ec
          have tb := TB (He.cT K (f.nm, none)) (List.mem_map_of_mem ft)
          have hfst : (He.cT K (f.nm, none)).1 = c := eco
          rw [hfst] at tb
          refine ⟨c, (He.cT K (f.nm, none)).2, ec, tb, List.mem_map.mpr ⟨f, fl, rfl⟩, fun p hp e1 => ?_⟩
          unfold tabB at x4
          have z := List.all_eq_true.mp (List.all_eq_true.mp x4 _ (List.mem_map.mpr ⟨f, fl, rfl⟩)) p hp
          simp only [Bool.or_eq_true, Bool.not_eq_true', decide_eq_true_eq, decide_eq_false_iff_not] at z
          exact z.elim (fun z => (z e1).elim) id
      · rw [gs_adr ef]; exact glo f hf
      · rw [gs_adr ef]; exact kp f hf
    · cases fb
  · show PySem.W.keepIn K (.ref ((gsOf P dl el cl LN K).adr i)) = true
    cases e : dl[i]? with
    | some f => rw [gs_adr e]; exact kp f (List.mem_of_getElem? e)
    | none =>
      have ne := F.ne
      unfold gsOf
      simp only [e]
      cases dl with
      | nil => exact (ne rfl).elim
      | cons f r => exact kp f (List.mem_cons_self ..)
  · exact He.free_ok KX G (D.facts (by
      unfold faOf
      exact List.mem_append_right _ (List.mem_map_of_mem hx)))
  · unfold tbOf at e
    rw [List.getElem?_map] at e
    obtain ⟨q, eq, rfl⟩ := Option.map_eq_some_iff.mp e
    have he := List.mem_of_getElem? eq
    have k := List.all_eq_true.mp x1 q he
    have eb := F.errs q he
    have ec := gs_exC (P := P) (dl := dl) (cl := cl) (LN := LN) (K := K) eq
    have efl : (gsOf P dl el cl LN K).exF c = q.fld := by
      show (el[c]?).bind (·.fld) = q.fld
      rw [eq]; rfl
    have lt : c < el.length := (List.getElem?_eq_some_iff.mp eq).1
    show ErrA _ _ c (q.nm, q.fld)
    unfold errK finO at k
    unfold errB at eb
    unfold ErrA
    cases hf : q.fld with
    | none =>
      rw [hf] at k efl
      simp only [Bool.and_eq_true, decide_eq_true_eq] at k
      obtain ⟨⟨⟨k1, k2⟩, k3⟩, k4⟩ := k
      exact ⟨by rw [ec]; exact k1, by rw [ec]; exact k2, by rw [ec]; exact k3, by rw [ec]; exact k4, by rw [ec]; exact gle q he, efl, lt⟩
    | some f =>
      rw [hf] at k eb efl
      simp only [Bool.and_eq_true, decide_eq_true_eq] at k
      obtain ⟨⟨⟨⟨⟨⟨k1, k2⟩, k3⟩, k4⟩, k5⟩, k6⟩, k7⟩ := k
      have O := clsB_ok k1
      simp only [Bool.and_eq_true] at eb
      obtain ⟨⟨⟨e1, e2⟩, e3⟩, e4⟩ := eb
      obtain ⟨fd, FF⟩ := de q he (by rw [hf]; rfl)
      obtain ⟨ar, kd, df, hp, har⟩ := argB_ok e3
      have S2 := scpB_ok e2
      refine ⟨by rw [ec]; exact O, ?_, by rw [ec]; exact gle q he, efl, by rw [ec]; exact k4, by rw [ec]; exact k5, by rw [ec]; exact k6, by rw [ec]; exact k7, lt⟩
      rw [ec]
      have nd : (["self", f] : List Str).Nodup := S2.nd
      have hb : L2.Binds K fd ["self", f] [] := by
        rw [hp] at FF
        exact init_binds FF har nd
      obtain ⟨oc, od, dV, kV, doc, pm, an, cdv, ct, osl, rfl, lk, hcd, hD, hK⟩ := FF.ex
      refine ⟨iniA K q, _, k2, k3, ?_, hb⟩
      unfold iniB at e1
      split at e1
      · rename_i sx p1 a p2 b p3 p4 eb
        simp only [Bool.and_eq_true, decide_eq_true_eq] at e1
        obtain ⟨⟨rfl, rfl⟩, rfl⟩ := e1
        rw [eb] at lk ⊢
        exact init_ok (G := gsOf P dl el cl LN K) (U := ⟨pr, w, mg, B⟩) O k6 lk hcd S2 (dbg_ok e4).1 (dbg_ok e4).2
      · cases e1
  · have hm := look_in (show cl.lookup x = some v from e)
    unfold consB at x3
    have z := List.all_eq_true.mp x3 _ hm
    dsimp only at z
    split at z
    · rename_i u eu
      obtain ⟨y, r1, r2⟩ := conV_ok (adr := (gsOf P dl el cl LN K).adr) (K := K) 8 z
      exact ⟨y, u, PySem.W.mg_of KX G eu, r1, r2⟩
    · cases z
  · have lc : c < el.length := hc
    have lc' : c' < el.length := hc'
    have e1 : el[c]? = some el[c] := List.getElem?_eq_getElem lc
    have e2 : el[c']? = some el[c'] := List.getElem?_eq_getElem lc'
    show PySem.W.exmOne K (.ref ((gsOf P dl el cl LN K).exC c)) (.ref ((gsOf P dl el cl LN K).exC c')) = _
    rw [gs_exC e1, gs_exC e2]
    unfold exmB at x2
    have z := List.all_eq_true.mp (List.all_eq_true.mp x2 _ (zip_get e1)) _ (zip_get e2)
    exact of_decide_eq_true z
end
end PC
namespace PC
open PySem PySem.Spec PyProof.Rows
def fitsB (pw : Program) (P : Prog) (dl : List FunL) (el : List ErrL) (cl : List (Str × PV)) (LN : List LNm) : Bool :=
  Nat.beq dl.length P.defs.length && !dl.isEmpty && (dl.zipIdx.all fun p => funB pw P (tbOf dl el cl) LN p.1 p.2) && el.all (errB pw)
theorem fits_of {pw : Program} {P : Prog} {dl : List FunL} {el : List ErrL} {cl : List (Str × PV)} {LN : List LNm} (h : fitsB pw P dl el cl LN = true) : Fits pw P dl el cl LN := by
  unfold fitsB at h
  simp only [Bool.and_eq_true, List.all_eq_true] at h
  obtain ⟨⟨⟨h1, h2⟩, h3⟩, h4⟩ := h
  exact ⟨Nat.eq_of_beq_eq_true h1, fun z => (by rw [z] at h2; cases h2), fun i f e => h3 _ (zip_get e), h4, fun x v e => look_in e⟩
end PC

set_option maxRecDepth 100000
/-! PE1: an evaluator of the compact forms, and that what it finds holds as a weakest precondition. -/
namespace PC
open PySem (Str)

inductive Out (α : Type) where
  | ok (a : α) (h : Hea) | exc (ex : Exc) (h : Hea) | bad
/-- a statement's end -/
inductive SO where
  | nx (env : Env) (h : Hea) | rt (v : PV) (h : Hea) | xc (ex : Exc) (env : Env) (h : Hea) | bk (env : Env) (h : Hea) | ct (env : Env) (h : Hea) | bad
namespace Out
variable {α β : Type}
def post (o : Out α) (Q : α → Hea → Prop) (X : KX) : Prop := match o with
  | .ok a h => Q a h
  | .exc e h => X e h
  | .bad => False
def bind (o : Out α) (f : α → Hea → Out β) : Out β := match o with
  | .ok a h => f a h
  | .exc e h => .exc e h
  | .bad => .bad
theorem post_bind {o : Out α} {f : α → Hea → Out β} {Q : β → Hea → Prop} {X : KX} : (o.bind f).post Q X ↔ o.post (fun a h => (f a h).post Q X) X := by cases o <;> exact Iff.rfl
theorem post.mono {o : Out α} {Q Q' : α → Hea → Prop} {X X' : KX} (p : o.post Q X) (q : ∀ a h, Q a h → Q' a h) (x : ∀ e h, X e h → X' e h) : o.post Q' X' := by
  cases o with
  | ok a h => exact q a h p
  | exc e h => exact x e h p
  | bad => exact p
end Out
def SO.post (o : SO) (K : KS) : Prop := match o with
  | .nx e h => K.nx e h
  | .rt v h => K.rt v h
  | .xc x e h => K.xc x e h
  | .bk e h => K.bk e h
  | .ct e h => K.ct e h
  | .bad => False
/-- what runs calls -/
structure EO where
  call : Nat → List PV → Hea → Out PV
  lam : Nat → List PV → List PV → Hea → Out PV
  tok : Nat
  st : Bool
  fuel : Nat
def EO.dty (O : EO) (v : PV) : Bool := O.st && v.hasTok O.tok
def EO.dtyL (O : EO) (v : List PV) : Bool := O.st && hasTokL O.tok v
/-- it tells nothing wrong -/
structure EOk (O : EO) (P : Orc) : Prop where
  call : ∀ f vs h Q X, (O.call f vs h).post Q X → P.call f vs h Q X
  lam : ∀ l cap vs h Q X, (O.lam l cap vs h).post Q X → P.lam l cap vs h Q X
  tok : O.tok = P.tok
  st : O.st = P.st

def gsB : List (Nat × List PV) → Hea → Bool
  | [], _ => true
  | p :: r, h => (match h[p.1]? with
    | some (.lst xs) => sameL xs p.2
    | _ => false) && gsB r h
theorem gsB_ok : ∀ {gs : List (Nat × List PV)} {h : Hea}, gsB gs h = true → gsOk gs h
  | [], h, _ => fun p hp => by cases hp
  | p :: r, h, e => by
    simp only [gsB, Bool.and_eq_true] at e
    obtain ⟨e1, e2⟩ := e
    intro q hq
    cases hq with
    | head => split at e1
              · rename_i xs z; rw [z, sameL_eq e1]
              · cases e1
    | tail _ hq => exact gsB_ok e2 q hq
theorem gsB_iff {gs : List (Nat × List PV)} {h : Hea} : gsB gs h = true ↔ gsOk gs h := by
  refine ⟨gsB_ok, fun g => ?_⟩
  induction gs with
  | nil => rfl
  | cons p r ih =>
    simp only [gsB, Bool.and_eq_true]
    refine ⟨?_, ih fun q hq => g q (List.mem_cons_of_mem _ hq)⟩
    rw [g p (List.mem_cons_self ..)]
    exact sameL_refl _

def newO (fz : Bool) (xs : List PV) (h : Hea) : Out PV := match Nat.ble xs.length line with
  | true => (match fz with
    | true => .ok (.lst xs) h
    | false => .ok (.ref h.length) (h ++ [.lst xs]))
  | false => .bad
def resO (fz : Bool) (r : Option Res) (h : Hea) : Out PV := match r with
  | some (.val v) => .ok v h
  | some (.new xs) => newO fz xs h
  | none => .bad
def boolO (o : Option Bool) (h : Hea) : Out PV := match o with
  | some t => .ok (.bl t) h
  | none => .bad
def partO (out : Bool) (w : Hea → Out PV) (h : Hea) : Out (Option Int) := match out with
  | true => .ok none h
  | false => (w h).bind fun v h1 => match v with
    | .int i => .ok (some i) h1
    | _ => .bad
def iterMap (gs : List (Nat × List PV)) (step : PV → Hea → Out (Option PV)) : List PV → Hea → Out (List PV)
  | [], h => (match gsB gs h with
    | true => .ok [] h
    | false => .bad)
  | x :: xs, h => (match gsB gs h with
    | true => (match step x h with
      | .ok o h1 => (match iterMap gs step xs h1 with
        | .ok vs h2 => .ok (o.toList ++ vs) h2
        | _ => .bad)
      | _ => .bad)
    | false => .bad)
def iterFlat (gs : List (Nat × List PV)) (step : PV → Hea → Out (List PV)) : List PV → Hea → Out (List PV)
  | [], h => (match gsB gs h with
    | true => .ok [] h
    | false => .bad)
  | x :: xs, h => (match gsB gs h with
    | true => (match step x h with
      | .ok us h1 => (match iterFlat gs step xs h1 with
        | .ok vs h2 => .ok (us ++ vs) h2
        | _ => .bad)
      | _ => .bad)
    | false => .bad)
def EO.clean (O : EO) (env : Env) : Bool := env.all fun o => match o with
  | some v => !O.dty v
  | none => true
def iterFor (gs : List (Nat × List PV)) (body : PV → Env → Hea → SO) : List PV → Env → Hea → SO
  | [], env, h => (match gsB gs h with
    | true => .nx env h
    | false => .bad)
  | x :: xs, env, h => (match gsB gs h with
    | true => (match body x env h with
      | .nx e h1 => iterFor gs body xs e h1
      | .ct e h1 => iterFor gs body xs e h1
      | .bk e h1 => .nx e h1
      | .rt v h1 => .rt v h1
      | .xc x e h1 => .xc x e h1
      | .bad => .bad)
    | false => .bad)
def iterWh (c : Env → Hea → Out Bool) (b : Env → Hea → SO) : Nat → Env → Hea → SO
  | 0, _, _ => .bad
  | n + 1, env, h => match c env h with
    | .ok t h1 => (match t with
      | true => (match b env h1 with
        | .nx e h2 => iterWh c b n e h2
        | .ct e h2 => iterWh c b n e h2
        | .bk e h2 => .nx e h2
        | .rt v h2 => .rt v h2
        | .xc x e h2 => .xc x e h2
        | .bad => .bad)
      | false => .nx env h1)
    | .exc x h1 => .xc x env h1
    | .bad => .bad
def setO (O : EO) (cl : Bool) (i : Nat) (v : PV) (env : Env) (h : Hea) : Out Env := match cl with
  | false => .ok (env.set i (some v)) h
  | true => (match O.st && !v.hasTok O.tok with
    | true => .ok ((killE O.tok env).set i (some v)) (killH O.tok h)
    | false => .bad)
def frzO (h : Hea) (v : PV) : Out PV := match frzD 8 h v with
  | some (w, h1) => .ok w h1
  | none => .bad
def methO (m : Mt) (h : Hea) (v : PV) (vs : List PV) : Out PV := match v with
  | .ref n => (match h[n]? with
    | some (.lst xs) => (match m, vs with
      | .append, [x] => if xs.length < line then .ok .non (h.set n (.lst (xs ++ [x]))) else .bad
      | .extend, [y] => (match lstOf h y with
        | some ys => if xs.length + ys.length ≤ line then .ok .non (h.set n (.lst (xs ++ ys))) else .bad
        | _ => .bad)
      | .pop, [] => (match xs[xs.length - 1]? with
        | some y => .ok y (h.set n (.lst xs.dropLast))
        | none => .bad)
      | .popAt, [.int i] => if -(2 ^ 62) ≤ i ∧ i < 2 ^ 62 then (match ixOf i xs.length with
        | some k => (match xs[k]? with
          | some y => .ok y (h.set n (.lst (xs.eraseIdx k)))
          | none => .bad)
        | none => .bad) else .bad
      | _, _ => .bad)
    | _ => .bad)
  | _ => .bad
def putO (h : Hea) (o i v : PV) (env : Env) : Out Env := match o, i with
  | .ref n, .int j => (match h[n]? with
    | some (.lst xs) => (match ixOf j xs.length with
      | some p => .ok env (h.set n (.lst (xs.set p v)))
      | none => .bad)
    | _ => .bad)
  | _, _ => .bad
def zipE (O : EO) (h : Hea) (v w : PV) : Option Its := match seqOf h v, seqOf h w, itsOf h v, itsOf h w with
  | some (s, _), some (u, _), some iv, some iw => if O.dtyL iv.items = false ∧ O.dtyL iw.items = false then some ⟨iv.gs ++ iw.gs, zipped iv.items iw.items⟩ else none
  | _, _, _, _ => none
/-- no exception may leave it -/
def Out.shut {α β : Type} (o : Out α) (f : α → Hea → Out β) : Out β := match o with
  | .ok a h => f a h
  | _ => .bad

mutual
def evE (O : EO) : CE → Env → Hea → Out PV
  | .stuck, _, _ => .bad
  | .nil, _, h => .ok .non h
  | .var i, env, h => (match get env i with
    | some v => .ok v h
    | none => .bad)
  | .cst v, _, h => .ok v h
  | .bin op fz a b, env, h => (evE O a env h).bind fun x h1 => (evE O b env h1).bind fun y h2 => resO fz (binV op h2 x y) h2
  | .neg a, env, h => (evE O a env h).bind fun x h1 => (match x with
    | .int i => .ok (.int (-i)) h1
    | _ => .bad)
  | .cmp op a b, env, h => (evE O a env h).bind fun x h1 => (evE O b env h1).bind fun y h2 => boolO (cmpV op h2 x y) h2
  | .chain o1 o2 a b c, env, h => (evE O a env h).bind fun x h1 => (evE O b env h1).bind fun y h2 => (match cmpV o1 h2 x y with
    | some true => (evE O c env h2).bind fun z h3 => boolO (cmpV o2 h3 y z) h3
    | some false => .ok (.bl false) h2
    | none => .bad)
  | .and a b, env, h => (evE O a env h).bind fun x h1 => (match truV h1 x with
    | some true => evE O b env h1
    | some false => .ok x h1
    | none => .bad)
  | .or a b, env, h => (evE O a env h).bind fun x h1 => (match truV h1 x with
    | some true => .ok x h1
    | some false => evE O b env h1
    | none => .bad)
  | .not a, env, h => (evE O a env h).bind fun x h1 => (match truV h1 x with
    | some t => .ok (.bl !t) h1
    | none => .bad)
  | .ite c a b, env, h => (evE O c env h).bind fun x h1 => (match truV h1 x with
    | some true => evE O a env h1
    | some false => evE O b env h1
    | none => .bad)
  | .tup es, env, h => (evEs O es env h).bind fun vs h1 => (match Nat.ble vs.length line with
    | true => .ok (.tup vs) h1
    | false => .bad)
  | .lst fz es, env, h => (evEs O es env h).bind fun vs h1 => newO fz vs h1
  | .dict0 fz, _, h => (match fz with
    | true => .ok (.dct [] []) h
    | false => .ok (.ref h.length) (h ++ [.dK [] []]))
  | .comp fz elt tg it cond own, env, h => (evI O it env h).bind fun its h1 => (match Nat.ble its.items.length line with
    | true => (iterMap its.gs (fun x h2 => (evT O tg x (wipe env own) h2).shut fun env2 h3 => (evAll O cond env2 h3).shut fun t h4 => (match t with
      | true => (evE O elt env2 h4).shut fun v h5 => (match O.dty v with
        | false => .ok (some v) h5
        | true => .bad)
      | false => .ok none h4)) its.items h1).shut fun vs h2 => newO fz vs h2
    | false => .bad)
  | .comp2 fz elt tg it cond tg1 it1 cond1 own, env, h => (evI O it env h).bind fun its h1 => (match Nat.ble its.items.length 4096 with
    | true => (iterFlat its.gs (fun x h2 => (evT O tg x (wipe env own) h2).shut fun env2 h3 => (evAll O cond env2 h3).shut fun t h4 => (match t with
      | true => (match O.clean env2 with
        | true => (evI O it1 env2 h4).shut fun its1 h5 => (match Nat.ble its1.items.length 4096 && !O.dtyL its1.items with
          | true => iterMap its1.gs (fun x1 h6 => (evT O tg1 x1 (wipe env2 tg1.slots) h6).shut fun env3 h7 => (evAll O cond1 env3 h7).shut fun t1 h8 => (match t1 with
            | true => (evE O elt env3 h8).shut fun v h9 => (match O.dty v with
              | false => .ok (some v) h9
              | true => .bad)
            | false => .ok none h8)) its1.items h5
          | false => .bad)
        | false => .bad)
      | false => .ok [] h4)) its.items h1).shut fun vs h2 => newO fz vs h2
    | false => .bad)
  | .idx a i, env, h => (evE O a env h).bind fun x h1 => (evE O i env h1).bind fun y h2 => (match seqOf h2 x, y with
    | some (_, xs), .int j => (match ixOf j xs.length with
      | some k => (match xs[k]? with
        | some v => .ok v h2
        | none => .bad)
      | none => .bad)
    | _, _ => .bad)
  | .slc fz a lo hi, env, h => (evE O a env h).bind fun x h1 => (partO lo.isNil (evE O lo env) h1).bind fun i h2 => (partO hi.isNil (evE O hi env) h2).bind fun j h3 => (match seqOf h3 x with
    | some (false, xs) => newO fz (cut xs i j) h3
    | _ => .bad)
  | .rev fz a, env, h => (evE O a env h).bind fun x h1 => (match seqOf h1 x with
    | some (false, xs) => newO fz xs.reverse h1
    | _ => .bad)
  | .call f args kws perm, env, h => (evEs O args env h).bind fun vs h1 => (match Nat.beq vs.length args.len with
    | true => (evEs O kws env h1).bind fun us h2 => (match Nat.beq us.length kws.len with
      | true => (match arrange (vs ++ us) perm with
        | some ws => O.call f ws h2
        | none => .bad)
      | false => .bad)
    | false => .bad)
  | .callv i args, env, h => (match get env i with
    | some (.clo l _ cap) => (evEs O args env h).bind fun vs h1 => O.lam l cap vs h1
    | some (.fn f) => (evEs O args env h).bind fun vs h1 => O.call f vs h1
    | _ => .bad)
  | .bi b fz args, env, h => (evEs O args env h).bind fun vs h1 => resO fz (biV b h1 vs) h1
  | .opn o fz args, env, h => (evEs O args env h).bind fun vs h1 => resO fz (opV o h1 vs) h1
  | .isi a ks, env, h => (evE O a env h).bind fun x h1 => boolO (isKds h1 x ks) h1
  | .meth m a args, env, h => (evE O a env h).bind fun x h1 => (match isL h1 x with
    | true => (evEs O args env h1).bind fun vs h2 => methO m h2 x vs
    | false => .bad)
  | .lam l caps, env, h => (match getAll env caps with
    | some vs => .ok (.clo l O.tok vs) h
    | none => .bad)
  | .frz a, env, h => (evE O a env h).bind fun x h1 => frzO h1 x
def evEs (O : EO) : CEs → Env → Hea → Out (List PV)
  | .nil, _, h => .ok [] h
  | .cons e es, env, h => (evE O e env h).bind fun v h1 => (evEs O es env h1).bind fun vs h2 => .ok (v :: vs) h2
  | .star e es, env, h => (evE O e env h).bind fun v h1 => (match seqOf h1 v with
    | some (_, xs) => (evEs O es env h1).bind fun vs h2 => .ok (xs ++ vs) h2
    | none => .bad)
def evAll (O : EO) : CEs → Env → Hea → Out Bool
  | .nil, _, h => .ok true h
  | .cons e es, env, h => (evE O e env h).shut fun v h1 => (match truV h1 v with
    | some t => (match t with
      | true => evAll O es env h1
      | false => .ok false h1)
    | none => .bad)
  | .star _ _, _, _ => .bad
def evT (O : EO) : CT → PV → Env → Hea → Out Env
  | .name i cl, v, env, h => setO O cl i v env h
  | .tup ts, v, env, h => (match v with
    | .tup xs => (match !O.dtyL xs && Nat.beq xs.length ts.len with
      | true => evTs O ts xs env h
      | false => .bad)
    | _ => .bad)
  | .idx o i, v, env, h => (evE O o env h).shut fun x h1 => (evE O i env h1).shut fun y h2 => putO h2 x y v env
def evTs (O : EO) : CTs → List PV → Env → Hea → Out Env
  | .nil, [], env, h => .ok env h
  | .cons t ts, x :: xs, env, h => (evT O t x env h).shut fun env1 h1 => evTs O ts xs env1 h1
  | _, _, _, _ => .bad
def evI (O : EO) : CI → Env → Hea → Out Its
  | .e a, env, h => (evE O a env h).bind fun v h1 => (match itsOf h1 v with
    | some its => .ok its h1
    | none => .bad)
  | .rng1 a, env, h => (evE O a env h).bind fun v h1 => (match v with
    | .int j => if -(2 ^ 62) ≤ j ∧ j < 2 ^ 62 then .ok ⟨[], intsFrom 0 j.toNat⟩ h1 else .bad
    | _ => .bad)
  | .rng2 a b, env, h => (evE O a env h).bind fun v h1 => (evE O b env h1).bind fun w h2 => (match v, w with
    | .int i, .int j => if -(2 ^ 62) ≤ i ∧ i < 2 ^ 62 ∧ -(2 ^ 62) ≤ j ∧ j < 2 ^ 62 then .ok ⟨[], intsFrom i (j - i).toNat⟩ h2 else .bad
    | _, _ => .bad)
  | .enum a, env, h => (evE O a env h).bind fun v h1 => (match enumOf h1 v with
    | some its => .ok its h1
    | none => .bad)
  | .zip a b, env, h => (evE O a env h).bind fun v h1 => (evE O b env h1).bind fun w h2 => (match zipE O h2 v w with
    | some its => .ok its h2
    | none => .bad)
  | .zipS a, env, h => (evE O a env h).bind fun v h1 => (match zipSOf O.dtyL h1 v with
    | some its => .ok its h1
    | none => .bad)
end
def evB (O : EO) (e : CE) (env : Env) (h : Hea) : Out Bool := (evE O e env h).bind fun v h1 => match truV h1 v with
  | some t => .ok t h1
  | none => .bad
def toSO (env : Env) (o : Out PV) : SO := match o with
  | .ok v h => .rt v h
  | .exc x h => .xc x env h
  | .bad => .bad
def outS {α : Type} (env : Env) (o : Out α) (f : α → Hea → SO) : SO := match o with
  | .ok a h => f a h
  | .exc x h => .xc x env h
  | .bad => .bad
def shutS {α : Type} (o : Out α) (f : α → Hea → SO) : SO := match o with
  | .ok a h => f a h
  | _ => .bad
def catchO (hs : List CH) (ex : Exc) (env : Env) (h : Hea) : SO := match hs with
  | [] => .xc ex env h
  | c :: r => (match Nat.beq c.cls ex.cls with
    | true => (match heV ex.fld c.ret with
      | some v => .rt v h
      | none => .bad)
    | false => catchO r ex env h)
def SO.thn (o : SO) (f : Env → Hea → SO) : SO := match o with
  | .nx e h => f e h
  | o => o
mutual
def evS (O : EO) : CS → Env → Hea → SO
  | .stuck, _, _ => .bad
  | .pass, env, h => .nx env h
  | .ret e, env, h => toSO env (evE O e env h)
  | .retN, _, h => .rt .non h
  | .asg t e, env, h => outS env (evE O e env h) fun v h1 => shutS (evT O t v env h1) .nx
  | .par i j a b, env, h => outS env (evE O a env h) fun v h1 => outS env (evE O b env h1) fun w h2 => .nx ((env.set i (some v)).set j (some w)) h2
  | .expr e, env, h => outS env (evE O e env h) fun _ h1 => .nx env h1
  | .ifs c a b, env, h => outS env (evB O c env h) fun t h1 => (match t with
    | true => evSs O a env h1
    | false => evSs O b env h1)
  | .whl c b, env, h => iterWh (evB O c) (evSs O b) O.fuel env h
  | .for_ t it b, env, h => outS env (evI O it env h) fun its h1 => (match O.dtyL its.items with
    | false => iterFor its.gs (fun x e h2 => shutS (evT O t x e h2) fun e1 h3 => evSs O b e1 h3) its.items env h1
    | true => .bad)
  | .raise c arg, env, h => outS env (evE O arg env h) fun v h1 => .xc ⟨c, some v⟩ env h1
  | .raise0 c, env, h => .xc ⟨c, none⟩ env h
  | .try_ b hs, env, h => (match evSs O b env h with
    | .xc ex e h1 => catchO hs ex e h1
    | o => o)
  | .drop i s, env, h => (evS O s env h).thn fun e h1 => .nx e (dropE h1 (get e i))
def evSs (O : EO) : CSs → Env → Hea → SO
  | .nil, env, h => .nx env h
  | .cons s r, env, h => (evS O s env h).thn fun e h1 => evSs O r e h1
end
/-- straight to the last return -/
def evR (O : EO) : CSs → Env → Hea → SO
  | .nil, _, _ => .bad
  | .cons s r, env, h => match lastE s r with
    | some e => toSO env (evE O e env h)
    | none => (match evS O s env h with
      | .nx e h1 => evR O r e h1
      | .xc x e h1 => .xc x e h1
      | _ => .bad)
/-- behind a call: what was made within is forgotten if nothing names it -/
def trimH (h h' : Hea) (v : PV) : Hea := match Nat.ble h'.length h.length with
  | true => h'
  | false => (match v.bnd h.length && (h'.take h.length).all fun o => o.bnd h.length with
    | true => h'.take h.length
    | false => h')
def endO (h : Hea) (kill : Option Nat) (o : SO) : Out PV := match o with
  | .nx _ h' => .ok .non (trimH h h' .non)
  | .rt v h' => (match kill with
    | none => .ok v (trimH h h' v)
    | some d => (match v.hasTok d with
      | false => .ok v (trimH h (killH d h') v)
      | true => .bad))
  | .xc ex _ h' => .exc ex (trimH h h' (ex.fld.getD .non))
  | _ => .bad
def endE (h : Hea) (o : Out PV) : Out PV := match o with
  | .ok v h' => .ok v (trimH h h' v)
  | .exc ex h' => .exc ex (trimH h h' (ex.fld.getD .non))
  | .bad => .bad
def killOf (d : Nat) (b : Bool) : Option Nat := match b with
  | true => some d
  | false => none
def evO (P : Prog) (F : Nat) : Nat → EO
  | 0 => ⟨fun _ _ _ => .bad, fun _ _ _ _ => .bad, 0, false, F⟩
  | d + 1 => ⟨fun i vs h => (match P.defs[i]? with
      | some f => (match Nat.beq vs.length f.n with
        | true => (match f.str with
          | false => endO h (killOf d f.lm) (evSs { evO P F d with st := f.lm } f.body (startE f.slots vs) h)
          | true => endO h none (evR { evO P F d with st := f.lm } f.body (startE f.slots vs) h))
        | false => .bad)
      | none => .bad),
    fun l cap vs h => (match P.lams[l]? with
      | some f => (match Nat.beq vs.length f.n && Nat.beq cap.length f.caps with
        | true => endE h (evE (evO P F d) f.body (startE f.slots (vs ++ cap)) h)
        | false => .bad)
      | none => .bad),
    d + 1, false, F⟩
end PC


set_option maxRecDepth 100000
/-! PE2: what the evaluator finds holds. -/
namespace PC
open PySem (Str)
variable {O : EO} {P : Orc}
theorem EOk.dty (k : EOk O P) (v : PV) : O.dty v = P.dty v := by unfold EO.dty Orc.dty; rw [k.tok, k.st]
theorem EOk.dtyL (k : EOk O P) (v : List PV) : O.dtyL v = P.dtyL v := by unfold EO.dtyL Orc.dtyL; rw [k.tok, k.st]
theorem newO_ok {fz : Bool} {xs : List PV} {h : Hea} {Q : KQ} {X : KX} (p : (newO fz xs h).post Q X) : newL fz xs h Q := by
  unfold newO at p
  split at p
  · rename_i e
    refine ⟨Nat.le_of_ble_eq_true e, ?_⟩
    cases fz <;> exact p
  · exact p.elim
theorem resO_ok {fz : Bool} {r : Option Res} {h : Hea} {Q : KQ} {X : KX} (p : (resO fz r h).post Q X) : resQ fz r h Q := by
  unfold resO at p
  unfold resQ
  split at p
  · exact p
  · exact newO_ok p
  · exact p.elim
theorem boolO_ok {r : Option Bool} {h : Hea} {Q : KQ} {X : KX} : (boolO r h).post Q X → match r with | some t => Q (.bl t) h | none => False := by
  intro p
  cases r with
  | none => exact p
  | some t => exact p
theorem partO_ok {out : Bool} {w : Hea → Out PV} {wp : Hea → KQ → KX → Prop} {h : Hea} {k : Option Int → Hea → Prop} {X : KX} (hw : ∀ Q, (w h).post Q X → wp h Q X) (p : (partO out w h).post k X) : partK out wp h k X := by
  unfold partO at p
  unfold partK
  cases out with
  | true => exact p
  | false =>
    refine hw _ ((Out.post_bind.mp p).mono (fun v h1 q => ?_) fun _ _ z => z)
    cases v <;> first | exact q | exact q.elim
theorem shut_ok {α β : Type} {o : Out α} {f : α → Hea → Out β} {Q : β → Hea → Prop} {X : KX} (p : (o.shut f).post Q X) : o.post (fun a h => (f a h).post Q X) fun _ _ => False := by
  cases o <;> exact p
theorem frzO_ok {h : Hea} {v : PV} {Q : KQ} {X : KX} (p : (frzO h v).post Q X) : frzV h v Q := by
  unfold frzO at p
  unfold frzV
  cases e : frzD 8 h v with
  | none => rw [e] at p; exact p
  | some r => rw [e] at p; exact p
theorem methO_ok {m : Mt} {h : Hea} {v : PV} {vs : List PV} {Q : KQ} {X : KX} (p : (methO m h v vs).post Q X) : methV m h v vs Q := by
  unfold methO at p
  unfold methV
  split at p
  · split at p
    · rename_i n xs e
      try simp only [e]
      split at p
      · split at p
        · exact ⟨by assumption, p⟩
        · exact p.elim
      · split at p
        · rename_i ys ey
          try simp only [ey]
          split at p
          · exact ⟨by assumption, p⟩
          · exact p.elim
        · exact p.elim
      · split at p
        · rename_i y ey; (try simp only [ey]); exact p
        · exact p.elim
      · split at p
        · rename_i i z
          refine ⟨z.1, z.2, ?_⟩
          split at p
          · rename_i k ek
            try simp only [ek]
            split at p
            · rename_i y ey; (try simp only [ey]); exact p
            · exact p.elim
          · exact p.elim
        · exact p.elim
      · exact p.elim
    · exact p.elim
  · exact p.elim
theorem putO_ok {h : Hea} {o i v : PV} {env : Env} {k : Env → Hea → Prop} {X : KX} (p : (putO h o i v env).post k X) : putV h o i v fun h3 => k env h3 := by
  unfold putO at p
  unfold putV
  split at p
  · split at p
    · rename_i n j xs e
      try simp only [e]
      split at p
      · rename_i q eq; (try simp only [eq]); exact p
      · exact p.elim
    · exact p.elim
  · exact p.elim
theorem zipE_eq (k : EOk O P) (h : Hea) (v w : PV) : zipE O h v w = zipOf P h v w := by
  unfold zipE zipOf
  simp only [k.dtyL]
  try rfl
theorem iterMap_ok {gs : List (Nat × List PV)} {step : PV → Hea → Out (Option PV)} {ws : PV → Hea → (Option PV → Hea → Prop) → Prop} (hs : ∀ x h k, (step x h).post k (fun _ _ => False) → ws x h k) : ∀ {xs : List PV} {h : Hea} {k : List PV → Hea → Prop},
    (iterMap gs step xs h).post k (fun _ _ => False) → wpMap gs ws xs h k
  | [], h, k, p => by
    unfold iterMap at p
    split at p
    · exact ⟨gsB_ok (by assumption), p⟩
    · exact p.elim
  | x :: xs, h, k, p => by
    unfold iterMap at p
    split at p
    · refine ⟨gsB_ok (by assumption), hs _ _ _ ?_⟩
      split at p
      · rename_i o h1 e
        rw [e]
        refine iterMap_ok hs ?_
        split at p
        · rename_i vs h2 e2; rw [e2]; exact p
        · exact p.elim
      · exact p.elim
    · exact p.elim
theorem iterFlat_ok {gs : List (Nat × List PV)} {step : PV → Hea → Out (List PV)} {ws : PV → Hea → (List PV → Hea → Prop) → Prop} (hs : ∀ x h k, (step x h).post k (fun _ _ => False) → ws x h k) : ∀ {xs : List PV} {h : Hea} {k : List PV → Hea → Prop},
    (iterFlat gs step xs h).post k (fun _ _ => False) → wpFlat gs ws xs h k
  | [], h, k, p => by
    unfold iterFlat at p
    split at p
    · exact ⟨gsB_ok (by assumption), p⟩
    · exact p.elim
  | x :: xs, h, k, p => by
    unfold iterFlat at p
    split at p
    · refine ⟨gsB_ok (by assumption), hs _ _ _ ?_⟩
      split at p
      · rename_i o h1 e
        rw [e]
        refine iterFlat_ok hs ?_
        split at p
        · rename_i vs h2 e2; rw [e2]; exact p
        · exact p.elim
      · exact p.elim
    · exact p.elim
theorem clean_eq (k : EOk O P) (env : Env) : O.clean env = cleanE P env := by
  unfold EO.clean cleanE
  congr 1
  funext o
  cases o with
  | none => rfl
  | some v => exact congrArg (! ·) (k.dty v)
theorem post_nx {o : SO} {K : KS} {k : Env → Hea → Prop} {f : Env → Hea → SO} (hk : ∀ e h, (f e h).post K → k e h) (p : (o.thn f).post K) : o.post { K with nx := k } := by
  cases o <;> first | exact hk _ _ p | exact p
theorem iterFor_ok {gs : List (Nat × List PV)} {body : PV → Env → Hea → SO} {wb : PV → Env → Hea → KS → Prop} (hb : ∀ x e h K, (body x e h).post K → wb x e h K) : ∀ {xs : List PV} {env : Env} {h : Hea} {K : KS},
    (iterFor gs body xs env h).post K → wpFor gs wb xs env h K
  | [], env, h, K, p => by
    unfold iterFor at p
    split at p
    · exact ⟨gsB_ok (by assumption), p⟩
    · exact p.elim
  | x :: xs, env, h, K, p => by
    unfold iterFor at p
    split at p
    · refine ⟨gsB_ok (by assumption), hb _ _ _ _ ?_⟩
      split at p
      · rename_i e; rw [e]; exact iterFor_ok hb p
      · rename_i e; rw [e]; exact iterFor_ok hb p
      · rename_i e; rw [e]; exact p
      · rename_i e; rw [e]; exact p
      · rename_i e; rw [e]; exact p
      · exact p.elim
    · exact p.elim
theorem iterWh_ok {c : Env → Hea → Out Bool} {b : Env → Hea → SO} {wc : Env → Hea → (Bool → Hea → Prop) → (Exc → Hea → Prop) → Prop} {wb : Env → Hea → KS → Prop} (hc : ∀ e h k X, (c e h).post k X → wc e h k X) (hb : ∀ e h K, (b e h).post K → wb e h K) :
    ∀ {n : Nat} {env : Env} {h : Hea} {K : KS}, (iterWh c b n env h).post K → wpWhile wc wb n env h K
  | 0, _, _, _, p => p.elim
  | n + 1, env, h, K, p => by
    unfold iterWh at p
    unfold wpWhile
    refine hc _ _ _ _ ?_
    split at p
    · rename_i t h1 e
      rw [e]
      unfold Out.post
      dsimp only
      split at p
      · refine hb _ _ _ ?_
        split at p
        · rename_i e2; rw [e2]; exact iterWh_ok hc hb p
        · rename_i e2; rw [e2]; exact iterWh_ok hc hb p
        · rename_i e2; rw [e2]; exact p
        · rename_i e2; rw [e2]; exact p
        · rename_i e2; rw [e2]; exact p
        · exact p.elim
      · exact p
    · rename_i e; rw [e]; exact p
    · exact p.elim
theorem setO_ok (k : EOk O P) {cl : Bool} {i : Nat} {v : PV} {env : Env} {h : Hea} {q : Env → Hea → Prop} {X : KX} (p : (setO O cl i v env h).post q X) : setE P cl i v env h q := by
  unfold setO at p
  unfold setE
  cases cl with
  | false => exact p
  | true =>
    dsimp only at p ⊢
    split at p
    · rename_i e
      rw [k.tok, k.st] at e
      rw [k.tok] at p
      simp only [Bool.and_eq_true, Bool.not_eq_true'] at e
      exact ⟨e.1, e.2, p⟩
    · exact p.elim
open Out
mutual
theorem snd_E (k : EOk O P) : ∀ (c : CE) {env : Env} {h : Hea} {Q : KQ} {X : KX}, (evE O c env h).post Q X → wpE P c env h Q X
  | .stuck, _, _, _, _, p => p.elim
  | .nil, _, _, _, _, p => p
  | .var i, env, h, Q, X, p => by
    simp only [evE] at p
    simp only [wpE]
    split at p
    · rename_i e; (try simp only [e]); exact p
    · exact p.elim
  | .cst v, _, _, _, _, p => p
  | .bin op fz a b, env, h, Q, X, p => by
    simp only [evE, post_bind] at p
    exact snd_E k a (p.mono (fun x h1 q => snd_E k b (q.mono (fun y h2 r => resO_ok r) fun _ _ z => z)) fun _ _ z => z)
  | .neg a, env, h, Q, X, p => by
    simp only [evE, post_bind] at p
    refine snd_E k a (p.mono (fun x h1 q => ?_) fun _ _ z => z)
    cases x <;> first | exact q | exact q.elim
  | .cmp op a b, env, h, Q, X, p => by
    simp only [evE, post_bind] at p
    exact snd_E k a (p.mono (fun x h1 q => snd_E k b (q.mono (fun y h2 r => boolO_ok r) fun _ _ z => z)) fun _ _ z => z)
  | .chain o1 o2 a b c, env, h, Q, X, p => by
    simp only [evE, post_bind] at p
    refine snd_E k a (p.mono (fun x h1 q => snd_E k b (q.mono (fun y h2 r => ?_) fun _ _ z => z)) fun _ _ z => z)
    split at r
    · rename_i e
      try simp only [e]
      exact snd_E k c ((post_bind.mp r).mono (fun z h3 r => boolO_ok r) fun _ _ z => z)
    · rename_i e; (try simp only [e]); exact r
    · exact r.elim
  | .and a b, env, h, Q, X, p => by
    simp only [evE, post_bind] at p
    refine snd_E k a (p.mono (fun x h1 q => ?_) fun _ _ z => z)
    split at q
    · rename_i e; (try simp only [e]); exact snd_E k b q
    · rename_i e; (try simp only [e]); exact q
    · exact q.elim
  | .or a b, env, h, Q, X, p => by
    simp only [evE, post_bind] at p
    refine snd_E k a (p.mono (fun x h1 q => ?_) fun _ _ z => z)
    split at q
    · rename_i e; (try simp only [e]); exact q
    · rename_i e; (try simp only [e]); exact snd_E k b q
    · exact q.elim
  | .not a, env, h, Q, X, p => by
    simp only [evE, post_bind] at p
    refine snd_E k a (p.mono (fun x h1 q => ?_) fun _ _ z => z)
    split at q
    · rename_i e; (try simp only [e]); exact q
    · exact q.elim
  | .ite c a b, env, h, Q, X, p => by
    simp only [evE, post_bind] at p
    refine snd_E k c (p.mono (fun x h1 q => ?_) fun _ _ z => z)
    split at q
    · rename_i e; (try simp only [e]); exact snd_E k a q
    · rename_i e; (try simp only [e]); exact snd_E k b q
    · exact q.elim
  | .tup es, env, h, Q, X, p => by
    simp only [evE, post_bind] at p
    refine snd_Es k es (p.mono (fun x h1 q => ?_) fun _ _ z => z)
    split at q
    · exact ⟨Nat.le_of_ble_eq_true (by assumption), q⟩
    · exact q.elim
  | .lst fz es, env, h, Q, X, p => by
    simp only [evE, post_bind] at p
    exact snd_Es k es (p.mono (fun x h1 q => newO_ok q) fun _ _ z => z)
  | .dict0 fz, env, h, Q, X, p => by
    simp only [evE] at p
    cases fz <;> exact p
  | .comp fz elt tg it cond own, env, h, Q, X, p => by
    simp only [evE, post_bind] at p
    refine snd_I k it (p.mono (fun its h1 q => ?_) fun _ _ z => z)
    split at q
    · rename_i e
      refine ⟨Nat.le_of_ble_eq_true e, iterMap_ok (fun x h2 k2 r => ?_) ((shut_ok q).mono (fun vs h2 r => newO_ok r) fun _ _ z => z)⟩
      refine snd_T k tg ((shut_ok r).mono (fun env2 h3 r => ?_) fun _ _ z => z)
      refine snd_All k cond ((shut_ok r).mono (fun t h4 r => ?_) fun _ _ z => z)
      cases t with
      | false => exact r
      | true =>
        refine snd_E k elt ((shut_ok r).mono (fun v h5 r => ?_) fun _ _ z => z)
        rw [← k.dty]
        split at r
        · rename_i e; exact ⟨e, r⟩
        · exact r.elim
    · exact q.elim
  | .comp2 fz elt tg it cond tg1 it1 cond1 own, env, h, Q, X, p => by
    simp only [evE, post_bind] at p
    refine snd_I k it (p.mono (fun its h1 q => ?_) fun _ _ z => z)
    split at q
    · rename_i e
      refine ⟨Nat.le_of_ble_eq_true e, iterFlat_ok (fun x h2 k2 r => ?_) ((shut_ok q).mono (fun vs h2 r => newO_ok r) fun _ _ z => z)⟩
      refine snd_T k tg ((shut_ok r).mono (fun env2 h3 r => ?_) fun _ _ z => z)
      refine snd_All k cond ((shut_ok r).mono (fun t h4 r => ?_) fun _ _ z => z)
      cases t with
      | false => exact r
      | true =>
        dsimp only at r
        split at r
        · rename_i ec
          refine ⟨by rw [← clean_eq k]; exact ec, snd_I k it1 ((shut_ok r).mono (fun its1 h5 r => ?_) fun _ _ z => z)⟩
          split at r
          · rename_i el
            simp only [Bool.and_eq_true, Bool.not_eq_true', k.dtyL] at el
            refine ⟨Nat.le_of_ble_eq_true el.1, el.2, iterMap_ok (fun x1 h6 k6 r => ?_) r⟩
            refine snd_T k tg1 ((shut_ok r).mono (fun env3 h7 r => ?_) fun _ _ z => z)
            refine snd_All k cond1 ((shut_ok r).mono (fun t1 h8 r => ?_) fun _ _ z => z)
            cases t1 with
            | false => exact r
            | true =>
              refine snd_E k elt ((shut_ok r).mono (fun v h9 r => ?_) fun _ _ z => z)
              rw [← k.dty]
              split at r
              · rename_i e; exact ⟨e, r⟩
              · exact r.elim
          · exact r.elim
        · exact r.elim
    · exact q.elim
  | .idx a i, env, h, Q, X, p => by
    simp only [evE, post_bind] at p
    refine snd_E k a (p.mono (fun x h1 q => snd_E k i (q.mono (fun y h2 r => ?_) fun _ _ z => z)) fun _ _ z => z)
    split at r
    · rename_i e
      try simp only [e]
      split at r
      · rename_i e1
        try simp only [e1]
        split at r
        · rename_i e2; (try simp only [e2]); exact r
        · exact r.elim
      · exact r.elim
    · exact r.elim
  | .slc fz a lo hi, env, h, Q, X, p => by
    simp only [evE, post_bind] at p
    refine snd_E k a (p.mono (fun x h1 q => partO_ok (fun Q => snd_E k lo) (q.mono (fun i h2 q => partO_ok (fun Q => snd_E k hi) (q.mono (fun j h3 q => ?_) fun _ _ z => z)) fun _ _ z => z)) fun _ _ z => z)
    split at q
    · rename_i e; (try simp only [e]); exact newO_ok q
    · exact q.elim
  | .rev fz a, env, h, Q, X, p => by
    simp only [evE, post_bind] at p
    refine snd_E k a (p.mono (fun x h1 q => ?_) fun _ _ z => z)
    split at q
    · rename_i e; (try simp only [e]); exact newO_ok q
    · exact q.elim
  | .call f args kws perm, env, h, Q, X, p => by
    simp only [evE, post_bind] at p
    refine snd_Es k args (p.mono (fun vs h1 q => ?_) fun _ _ z => z)
    split at q
    · rename_i e
      refine ⟨Nat.eq_of_beq_eq_true e, snd_Es k kws ((post_bind.mp q).mono (fun us h2 q => ?_) fun _ _ z => z)⟩
      split at q
      · rename_i e
        refine ⟨Nat.eq_of_beq_eq_true e, ?_⟩
        split at q
        · rename_i e; (try simp only [e]); exact k.call _ _ _ _ _ q
        · exact q.elim
      · exact q.elim
    · exact q.elim
  | .callv i args, env, h, Q, X, p => by
    simp only [evE] at p
    simp only [wpE]
    split at p
    · rename_i e
      try simp only [e]
      exact snd_Es k args ((post_bind.mp p).mono (fun vs h1 q => k.lam _ _ _ _ _ _ q) fun _ _ z => z)
    · rename_i e
      try simp only [e]
      exact snd_Es k args ((post_bind.mp p).mono (fun vs h1 q => k.call _ _ _ _ _ q) fun _ _ z => z)
    · exact p.elim
  | .bi b fz args, env, h, Q, X, p => by
    simp only [evE, post_bind] at p
    exact snd_Es k args (p.mono (fun vs h1 q => resO_ok q) fun _ _ z => z)
  | .opn b fz args, env, h, Q, X, p => by
    simp only [evE, post_bind] at p
    exact snd_Es k args (p.mono (fun x h1 q => resO_ok q) fun _ _ z => z)
  | .isi a ks, env, h, Q, X, p => by
    simp only [evE, post_bind] at p
    exact snd_E k a (p.mono (fun x h1 q => boolO_ok q) fun _ _ z => z)
  | .meth m a args, env, h, Q, X, p => by
    simp only [evE, post_bind] at p
    refine snd_E k a (p.mono (fun x h1 q => ?_) fun _ _ z => z)
    split at q
    · rename_i e
      exact ⟨e, snd_Es k args ((post_bind.mp q).mono (fun vs h2 q => methO_ok q) fun _ _ z => z)⟩
    · exact q.elim
  | .lam l caps, env, h, Q, X, p => by
    simp only [evE] at p
    simp only [wpE]
    rw [← k.tok]
    split at p
    · rename_i e; (try simp only [e]); exact p
    · exact p.elim
  | .frz a, env, h, Q, X, p => by
    simp only [evE, post_bind] at p
    exact snd_E k a (p.mono (fun x h1 q => frzO_ok q) fun _ _ z => z)
theorem snd_Es (k : EOk O P) : ∀ (c : CEs) {env : Env} {h : Hea} {Q : List PV → Hea → Prop} {X : KX}, (evEs O c env h).post Q X → wpEs P c env h Q X
  | .nil, _, _, _, _, p => p
  | .cons e es, env, h, Q, X, p => by
    simp only [evEs, post_bind] at p
    exact snd_E k e (p.mono (fun x h1 q => snd_Es k es (q.mono (fun y h2 r => r) fun _ _ z => z)) fun _ _ z => z)
  | .star e es, env, h, Q, X, p => by
    simp only [evEs, post_bind] at p
    refine snd_E k e (p.mono (fun x h1 q => ?_) fun _ _ z => z)
    try dsimp only
    split at q
    · rename_i e2
      try simp only [e2]
      exact snd_Es k es ((post_bind.mp q).mono (fun y h2 r => r) fun _ _ z => z)
    · exact q.elim
theorem snd_All (k : EOk O P) : ∀ (c : CEs) {env : Env} {h : Hea} {Q : Bool → Hea → Prop}, (evAll O c env h).post Q (fun _ _ => False) → wpAll P c env h Q
  | .nil, _, _, _, p => p
  | .cons e es, env, h, Q, p => by
    simp only [evAll] at p
    refine snd_E k e ((shut_ok p).mono (fun v h1 q => ?_) fun _ _ z => z)
    split at q
    · rename_i t e
      try simp only [e]
      cases t with
      | true => exact snd_All k es q
      | false => exact q
    · exact q.elim
  | .star _ _, _, _, _, p => p.elim
theorem snd_T (k : EOk O P) : ∀ (c : CT) {v : PV} {env : Env} {h : Hea} {Q : Env → Hea → Prop}, (evT O c v env h).post Q (fun _ _ => False) → wpT P c v env h Q
  | .name i cl, v, env, h, Q, p => by
    simp only [evT] at p
    exact setO_ok k p
  | .tup ts, v, env, h, Q, p => by
    simp only [evT] at p
    simp only [wpT]
    split at p
    · rename_i xs
      split at p
      · rename_i e
        simp only [Bool.and_eq_true, Bool.not_eq_true', k.dtyL] at e
        exact ⟨e.1, Nat.eq_of_beq_eq_true e.2, snd_Ts k ts p⟩
      · exact p.elim
    · exact p.elim
  | .idx o i, v, env, h, Q, p => by
    simp only [evT] at p
    refine snd_E k o ((shut_ok p).mono (fun x h1 q => snd_E k i ((shut_ok q).mono (fun y h2 q => putO_ok q) fun _ _ z => z)) fun _ _ z => z)
theorem snd_Ts (k : EOk O P) : ∀ (c : CTs) {v : List PV} {env : Env} {h : Hea} {Q : Env → Hea → Prop}, (evTs O c v env h).post Q (fun _ _ => False) → wpTs P c v env h Q
  | .nil, [], env, h, Q, p => p
  | .nil, _ :: _, _, _, _, p => p.elim
  | .cons _ _, [], _, _, _, p => p.elim
  | .cons t ts, x :: xs, env, h, Q, p => by
    simp only [evTs] at p
    exact snd_T k t ((shut_ok p).mono (fun e h1 q => snd_Ts k ts q) fun _ _ z => z)
theorem snd_I (k : EOk O P) : ∀ (c : CI) {env : Env} {h : Hea} {Q : Its → Hea → Prop} {X : KX}, (evI O c env h).post Q X → wpI P c env h Q X
  | .e a, env, h, Q, X, p => by
    simp only [evI, post_bind] at p
    refine snd_E k a (p.mono (fun x h1 q => ?_) fun _ _ z => z)
    split at q
    · rename_i e; (try simp only [e]); exact q
    · exact q.elim
  | .rng1 a, env, h, Q, X, p => by
    simp only [evI, post_bind] at p
    refine snd_E k a (p.mono (fun x h1 q => ?_) fun _ _ z => z)
    split at q
    · split at q
      · rename_i z; exact ⟨z.1, z.2, q⟩
      · exact q.elim
    · exact q.elim
  | .rng2 a b, env, h, Q, X, p => by
    simp only [evI, post_bind] at p
    refine snd_E k a (p.mono (fun x h1 q => snd_E k b (q.mono (fun y h2 r => ?_) fun _ _ z => z)) fun _ _ z => z)
    split at r
    · split at r
      · rename_i z; exact ⟨z, r⟩
      · exact r.elim
    · exact r.elim
  | .enum a, env, h, Q, X, p => by
    simp only [evI, post_bind] at p
    refine snd_E k a (p.mono (fun x h1 q => ?_) fun _ _ z => z)
    split at q
    · rename_i e; (try simp only [e]); exact q
    · exact q.elim
  | .zip a b, env, h, Q, X, p => by
    simp only [evI, post_bind] at p
    refine snd_E k a (p.mono (fun x h1 q => snd_E k b (q.mono (fun y h2 r => ?_) fun _ _ z => z)) fun _ _ z => z)
    rw [zipE_eq k] at r
    split at r
    · rename_i e; (try simp only [e]); exact r
    · exact r.elim
  | .zipS a, env, h, Q, X, p => by
    simp only [evI, post_bind] at p
    refine snd_E k a (p.mono (fun x h1 q => ?_) fun _ _ z => z)
    rw [show O.dtyL = P.dtyL from funext fun v => k.dtyL v] at q
    split at q
    · rename_i e; (try simp only [e]); exact q
    · exact q.elim
end
theorem snd_B (k : EOk O P) (c : CE) {env : Env} {h : Hea} {Q : Bool → Hea → Prop} {X : KX} (p : (evB O c env h).post Q X) : wpB P c env h Q X := by
  unfold evB at p
  rw [post_bind] at p
  refine snd_E k c (p.mono (fun v h1 q => ?_) fun _ _ z => z)
  split at q
  · rename_i e; (try simp only [e]); exact q
  · exact q.elim
theorem outS_post {α : Type} {env : Env} {o : Out α} {f : α → Hea → SO} {K : KS} : (outS env o f).post K ↔ o.post (fun a h => (f a h).post K) fun x h => K.xc x env h := by cases o <;> exact Iff.rfl
theorem shutS_post {α : Type} {o : Out α} {f : α → Hea → SO} {K : KS} : (shutS o f).post K ↔ o.post (fun a h => (f a h).post K) fun _ _ => False := by cases o <;> exact Iff.rfl
theorem toSO_post {env : Env} {o : Out PV} {K : KS} : (toSO env o).post K ↔ o.post K.rt fun x h => K.xc x env h := by cases o <;> exact Iff.rfl
theorem catchO_ok {K : KS} {ex : Exc} {env : Env} {h : Hea} : ∀ {hs : List CH}, (catchO hs ex env h).post K → catch_ hs K ex env h
  | [], p => p
  | c :: r, p => by
    unfold catchO at p
    unfold catch_
    split at p
    · rename_i e
      rw [if_pos (Nat.eq_of_beq_eq_true e)]
      split at p
      · rename_i e; (try simp only [e]); exact p
      · exact p.elim
    · rename_i e
      rw [if_neg (fun z => by rw [z, Nat.beq_refl] at e; cases e)]
      exact catchO_ok p
mutual
theorem snd_S (k : EOk O P) : ∀ (c : CS) {env : Env} {h : Hea} {K : KS}, (evS O c env h).post K → wpS P c env h K
  | .stuck, _, _, _, p => p.elim
  | .pass, _, _, _, p => p
  | .ret e, env, h, K, p => by
    simp only [evS, toSO_post] at p
    exact snd_E k e p
  | .retN, _, _, _, p => p
  | .asg t e, env, h, K, p => by
    simp only [evS, outS_post] at p
    exact snd_E k e (p.mono (fun v h1 q => snd_T k t ((shutS_post.mp q).mono (fun _ _ z => z) fun _ _ z => z)) fun _ _ z => z)
  | .par i j a b, env, h, K, p => by
    simp only [evS, outS_post] at p
    exact snd_E k a (p.mono (fun v h1 q => snd_E k b (q.mono (fun _ _ z => z) fun _ _ z => z)) fun _ _ z => z)
  | .expr e, env, h, K, p => by
    simp only [evS, outS_post] at p
    exact snd_E k e p
  | .ifs c a b, env, h, K, p => by
    simp only [evS, outS_post] at p
    refine snd_B k c (p.mono (fun t h1 q => ?_) fun _ _ z => z)
    cases t with
    | true => exact snd_Ss k a q
    | false => exact snd_Ss k b q
  | .whl c b, env, h, K, p => by
    simp only [evS] at p
    exact ⟨_, iterWh_ok (wc := wpB P c) (wb := fun e h1 K1 => wpSs P b e h1 K1) (fun e h k' X q => snd_B k c q) (fun e h K q => snd_Ss k b q) p⟩
  | .for_ t it b, env, h, K, p => by
    simp only [evS, outS_post] at p
    refine snd_I k it (p.mono (fun its h1 q => ?_) fun _ _ z => z)
    rw [k.dtyL] at q
    split at q
    · rename_i e
      refine ⟨e, iterFor_ok (wb := fun x e h2 K2 => wpT P t x e h2 fun e1 h3 => wpSs P b e1 h3 K2) (fun x e h K r => snd_T k t ((shutS_post.mp r).mono (fun e1 h3 r => snd_Ss k b r) fun _ _ z => z)) q⟩
    · exact q.elim
  | .raise c arg, env, h, K, p => by
    simp only [evS, outS_post] at p
    exact snd_E k arg p
  | .raise0 c, env, h, K, p => p
  | .try_ b hs, env, h, K, p => by
    simp only [evS] at p
    refine snd_Ss k b ?_
    split at p
    · rename_i e; rw [e]; exact catchO_ok p
    · rename_i o hne
      revert hne p
      cases evSs O b env h with
      | xc ex e h1 => exact fun hne _ => (hne _ _ _ rfl).elim
      | nx e h1 => exact fun _ p => p
      | rt v h1 => exact fun _ p => p
      | bk e h1 => exact fun _ p => p
      | ct e h1 => exact fun _ p => p
      | bad => exact fun _ p => p
  | .drop i s, env, h, K, p => by
    simp only [evS] at p
    exact snd_S k s (post_nx (k := fun e h1 => K.nx e (dropE h1 (get e i))) (f := fun e h1 => .nx e (dropE h1 (get e i))) (fun e h q => q) p)
theorem snd_Ss (k : EOk O P) : ∀ (c : CSs) {env : Env} {h : Hea} {K : KS}, (evSs O c env h).post K → wpSs P c env h K
  | .nil, _, _, _, p => p
  | .cons s r, env, h, K, p => by
    simp only [evSs] at p
    exact snd_S k s (post_nx (fun e h q => snd_Ss k r q) p)
end
theorem snd_R (k : EOk O P) : ∀ (c : CSs) {env : Env} {h : Hea} {Q : KQ} {X : Exc → Env → Hea → Prop}, (evR O c env h).post { nx := fun _ _ => False, rt := Q, xc := X } → wpR P c env h Q X
  | .nil, _, _, _, _, p => p.elim
  | .cons s r, env, h, Q, X, p => by
    unfold evR at p
    unfold wpR
    cases e : lastE s r with
    | some a =>
      rw [e] at p
      exact snd_E k a (toSO_post.mp p)
    | none =>
      rw [e] at p
      refine snd_S k s ?_
      dsimp only at p
      revert p
      cases evS O s env h with
      | nx e1 h1 => exact fun p => snd_R k r p
      | rt v h1 => exact fun p => p.elim
      | xc x e1 h1 => exact fun p => p
      | bk e1 h1 => exact fun p => p.elim
      | ct e1 h1 => exact fun p => p.elim
      | bad => exact fun p => p.elim
theorem evR_nx : ∀ (c : CSs) {O : EO} {env : Env} {h : Hea} {e : Env} {h1 : Hea}, evR O c env h = .nx e h1 → False
  | .nil, O, env, h, e, h1, q => by cases q
  | .cons s r, O, env, h, e, h1, q => by
    unfold evR at q
    cases e2 : lastE s r with
    | some a =>
      rw [e2] at q
      dsimp only at q
      revert q
      cases evE O a env h <;> (intro q; cases q)
    | none =>
      rw [e2] at q
      dsimp only at q
      revert q
      cases evS O s env h with
      | nx e1 h2 => exact fun q => evR_nx r q
      | _ => intro q; cases q
theorem trim_ok (h h' : Hea) (v : PV) : Trim h h' v (trimH h h' v) := by
  unfold trimH
  split
  · exact .inl rfl
  · split
    · rename_i e
      simp only [Bool.and_eq_true, List.all_eq_true] at e
      exact .inr ⟨rfl, e.1, fun n o q => .inr (e.2 o (List.mem_of_getElem? q))⟩
    · exact .inl rfl
theorem evO_ok (G : Prog) (F : Nat) : ∀ d, EOk (evO G F d) (orc G d)
  | 0 => ⟨fun _ _ _ _ _ p => p.elim, fun _ _ _ _ _ _ p => p.elim, rfl, rfl⟩
  | d + 1 => by
    have ih := evO_ok G F d
    refine ⟨fun i vs h Q X p => ?_, fun l cap vs h Q X p => ?_, rfl, rfl⟩
    · simp only [evO] at p
      try simp only [orc]
      split at p
      · rename_i f e
        try simp only [e]
        split at p
        · rename_i e1
          refine ⟨Nat.eq_of_beq_eq_true e1, ?_⟩
          have k2 : EOk { evO G F d with st := f.lm } ((orc G d).at f.lm) := ⟨ih.call, ih.lam, ih.tok, rfl⟩
          cases hs : f.str with
          | false =>
            rw [hs] at p
            dsimp only at p
            refine snd_Ss k2 f.body ?_
            revert p
            cases evSs { evO G F d with st := f.lm } f.body (startE f.slots vs) h with
            | nx e h' => exact fun p => ⟨_, trim_ok h h' .non, p⟩
            | rt v h' =>
              intro p
              show retK d f.lm (ends h Q) v h'
              unfold endO killOf at p
              cases q : f.lm with
              | false => rw [q] at p; exact ⟨_, trim_ok h h' v, p⟩
              | true =>
                rw [q] at p
                dsimp only at p
                split at p
                · rename_i e; exact ⟨e, _, trim_ok h (killH d h') v, p⟩
                · exact p.elim
            | xc ex e h' => exact fun p => ⟨_, trim_ok h h' _, p⟩
            | bk e h' => exact fun p => p.elim
            | ct e h' => exact fun p => p.elim
            | bad => exact fun p => p.elim
          | true =>
            rw [hs] at p
            dsimp only at p
            refine snd_R k2 f.body ?_
            have n1 : ¬ ∃ e h1, evR { evO G F d with st := f.lm } f.body (startE f.slots vs) h = .nx e h1 := fun ⟨e, h1, z⟩ => evR_nx _ z
            revert p n1
            cases evR { evO G F d with st := f.lm } f.body (startE f.slots vs) h with
            | nx e h' => exact fun _ n => (n ⟨_, _, rfl⟩).elim
            | rt v h' => exact fun p _ => ⟨_, trim_ok h h' v, p⟩
            | xc ex e h' => exact fun p _ => ⟨_, trim_ok h h' _, p⟩
            | bk e h' => exact fun p _ => p.elim
            | ct e h' => exact fun p _ => p.elim
            | bad => exact fun p _ => p.elim
        · exact p.elim
      · exact p.elim
    · simp only [evO] at p
      try simp only [orc]
      split at p
      · rename_i f e
        try simp only [e]
        split at p
        · rename_i e1
          simp only [Bool.and_eq_true] at e1
          refine ⟨Nat.eq_of_beq_eq_true e1.1, Nat.eq_of_beq_eq_true e1.2, snd_E ih f.body ?_⟩
          revert p
          cases evE (evO G F d) f.body (startE f.slots (vs ++ cap)) h with
          | ok v h' => exact fun p => ⟨_, trim_ok h h' v, p⟩
          | exc ex h' => exact fun p => ⟨_, trim_ok h h' _, p⟩
          | bad => exact fun p => p.elim
        · exact p.elim
      · exact p.elim
end PC

set_option Elab.async false
set_option maxRecDepth 100000
set_option maxHeartbeats 4000000
/-! PC34: a law holds. -/
namespace PC
open PySem PySem.Spec PyProof.Rows
open L2 (V HO Hp upd upd_same upd_ne Rd SqL SqT Cx Inv TE TT TA TS TG TGs TI VK PE PT PW PA PK PS PSs PG PGs PI PTs It R2 OpR CallR Un UB HOk ObjOk Env0 FnOk Sp XK Room frs CR EP Takes Ends FpOk BlkOk cloFrom FnScope SP)
open LamX (Tabs TabS TabB ExtN CodeO)
section
variable {G : Gs} {P : Prog} {U : Uni} {T : Tb} {LN : List LNm}
/-- a def keeps its promise, as the object that stands there -/
theorem Txt.run (X0 : Txt G P U T LN) (d : Nat) {i : Nat} {p : Str × List Str} (e : T.defs[i]? = some p) {oc2 : Value} {od2 : Option Addr} {osl2 : Array (Option Value)} {fd : FuncData} (lk2 : G.K.lookup (G.adr i) = some ⟨oc2, od2, .func fd, osl2⟩) :
    FnOk U.pr U.w G.K U.mg U.B (L2.CX U.pr U.w) (d + 1 + 2) (G.adr i) fd p.2 (spC G P U.B (d + 1) i) := by
  obtain ⟨fd', ar, kd, df, oc, od, osl, lk, R, _, _, _⟩ := (X0.fun_ i p e).run X0.lg (X0.wf d)
  have same := lk2.symm.trans lk
  simp only [Option.some.injEq, Obj.mk.injEq, Data.func.injEq] at same
  obtain ⟨_, _, rfl, _⟩ := same
  exact R
end
/-- the world at the law's call -/
def world0 (f : Addr → Option FO) : Wd := ⟨fun _ => none, f, fun _ => none, fun _ => none, fun _ => none, fun _ => none⟩
theorem start_ok {G : Gs} {B : Heap} {H : Hp} {a : Addr} {ns : List Int} (hS : SqL G.K H a (ns.map V.int)) (hT : ∀ p ∈ G.T, H p.1 = some (.tbl #[])) : ∃ W, RL G B W [] H ∧ RV G.adr G.K W (.scr ns) (.ref a) := by
  have tabs : Tabs G.T H := fun p hp => TabS.nil (hT p hp)
  have mk : ∀ f : Addr → Option FO, (∀ b o, f b = some o → H b = some o.ho) → RL G B (world0 f) [] H := fun f hf =>
    { fz := hf
      live := by intro n o e; simp at e
      inj := by intro n m o o' b e; simp at e
      dis := by intro n o b e; simp at e
      new := fun _ _ => rfl
      tabs := tabs
      fn := by intro b ci e; cases e
      cv := by intro c v e; cases e
      tk := by intro b ci e; cases e
      hd := by intro b vs e; cases e }
  have one : ∀ ob, H a = some (FO.scr ns ob).ho → ∃ W, RL G B W [] H ∧ RV G.adr G.K W (.scr ns) (.ref a) := fun ob e => by
    refine ⟨_, mk (fun b => if b = a then some (.scr ns ob) else none) (fun b o z => ?_), .scr (if_pos rfl)⟩
    by_cases q : b = a
    · rw [if_pos q] at z; cases z; rw [q]; exact e
    · rw [if_neg q] at z; cases z
  rcases hS with (h | ⟨o, h⟩) | h
  · exact one none h
  · exact one (some o) h
  · exact ⟨_, mk (fun _ => none) (fun b o z => by cases z), .scrK h⟩
section
variable {l : PySem.W.OpenLaw} {P : Prog} {dl : List FunL} {el : List ErrL} {cl : List (Str × PV)} {LN : List LNm} {w : World} {h : Heap} {K : PySem.W.Frag} {mg : Str → Option Value}
theorem law_at (F : Fits l.prog P dl el cl LN) (S : Says l.prog dl el cl w h K) (KX : K.In h) (Gn : h.Ns mainGlobals mg) {li d Fu n : Nat} {lf : FunL} {fa : Addr} (hli : dl[li]? = some lf) (hps : lf.ps = [("script" : Str)]) (hfa : mg lf.nm = some (.ref fa))
    (hrun : ∀ ns : List Int, ns.length ≤ n → (∀ z ∈ ns, Builtin.Int.intBits z ≤ 1048576) → ((evO P Fu (d + 1)).call li [.scr ns] []).post (fun v _ => v = .bl true) fun _ _ => False) :
    LamX.LawAtS l w K (L2.CX l.prog w) (d + 1 + 2) n "script" mg fa h := by
  have D := S.t.d
  have hf := List.mem_of_getElem? hli
  obtain ⟨fd, FF⟩ := D.defs (d := lf.dd l.prog) (List.mem_append_left _ (List.mem_map_of_mem hf))
  have FF : L2.FunD K lf.nm lf.nm (L2.defArgs (lf.st l.prog)) (L2.defBody (lf.st l.prog)) (L2.defScope (lf.st l.prog)) [] [] (He.ga K lf.nm) fd := FF
  have glo : mg lf.nm = some (.ref (He.ga K lf.nm)) := He.glo_ok KX Gn (D.facts (by
    unfold faOf
    exact List.mem_append_left _ (List.mem_append_left _ (List.mem_map_of_mem hf))))
  have efa : fa = He.ga K lf.nm := by
    rw [hfa] at glo
    cases glo
    rfl
  subst efa
  have fb := F.funs li lf hli
  unfold funB at fb
  split at fb
  · rename_i DD eD
    simp only [Bool.and_eq_true, Bool.not_eq_true', decide_eq_true_eq] at fb
    obtain ⟨⟨⟨⟨⟨⟨b1, b2⟩, b3⟩, b5⟩, b6⟩, b7⟩, b8⟩ := fb
    obtain ⟨ar, kd, df, hp, har⟩ := argB_ok b6
    have hbind : ∀ (s : Shared) (u : Value), BindsTo s fd ⟨[u], []⟩ [("script", u)] := fun s u => by
      have FF' := FF
      rw [hp] at FF'
      have z := L2.FunD.bindsA (ps := lf.ps) FF' (fun kV doc pm an cdv ct us hl => bind_all har b7 hl) s [u] (by rw [hps]; rfl)
      rw [hps] at z
      exact z
    refine ⟨fd, (tfOf dl).map (He.cT K), fun vs H Q E => ∃ (a : Addr) (ns : List Int), vs = [.ref a] ∧ SqL K H a (ns.map V.int) ∧ (∀ p ∈ (tfOf dl).map (He.cT K), H p.2 = some (.tbl #[])) ∧ ns.length ≤ n ∧ (∀ z ∈ ns, Builtin.Int.intBits z ≤ 1048576) ∧ ∀ H', Q (.bl true) H', ?_, ?_, ?_, hbind, ?_, ?_⟩
    · intro p hp
      obtain ⟨q, hq, rfl⟩ := List.mem_map.mp hp
      exact S.empty q hq
    · intro p hp
      obtain ⟨q, hq, rfl⟩ := List.mem_map.mp hp
      exact S.out q hq
    · intro p hp
      obtain ⟨q, hq, rfl⟩ := List.mem_map.mp hp
      exact PySem.W.codeHd_of_K KX (S.hd q hq)
    · intro H a ns hl hb hT hS
      exact ⟨a, ns, rfl, hS, hT, hl, hb, fun _ => rfl⟩
    · intro base KB GB TB
      have X0 := txt_of (pr := l.prog) F S KX Gn TB
      obtain ⟨oc, od, dV, kV, doc, pm, an, cdv, ct, osl, efd, lk, hcd, hD, hK⟩ := FF.ex
      have e : (tbOf dl el cl).defs[li]? = some (lf.nm, lf.ps) := by
        unfold tbOf
        rw [List.getElem?_map, hli]; rfl
      have ea : (gsOf P dl el cl LN K).adr li = He.ga K lf.nm := gs_adr hli
      have R := X0.run d e (fd := fd) (by rw [ea]; exact lk)
      rw [ea] at R
      have R' : FnOk l.prog w K mg base (L2.CX l.prog w) (d + 1 + 2) (He.ga K lf.nm) fd ["script"] (spC (gsOf P dl el cl LN K) P base (d + 1) li) := by
        rw [← hps]
        exact R
      refine R'.imp fun vs H Q E ⟨a, ns, ev, hS, hT, hl, hb, hQ⟩ => ?_
      subst ev
      obtain ⟨W, rl, rv⟩ := start_ok (G := gsOf P dl el cl LN K) (B := base) hS fun p hp => by
        obtain ⟨f, hf, rfl⟩ := List.mem_map.mp (show p ∈ tabL K dl from hp)
        exact hT (He.cT K (f.nm, none)) (List.mem_map_of_mem (List.mem_map.mpr ⟨f, hf, rfl⟩))
      refine ⟨W, [], [.scr ns], _, _, rl, .cons rv .nil, (evO_ok P Fu (d + 1)).call _ _ _ _ _ (hrun ns hl hb), fun x H' ⟨W', v, h', _, _, _, r2, ev⟩ => ?_, fun c dd H' ⟨W', ex, h', _, _, _, _, q⟩ => q.elim⟩
      subst ev
      obtain rfl := r2.blV
      exact hQ H'
  · cases fb
/-- a law of the text -/
theorem law_holds {q : Program} {loose : List PySem.Str} {dr : DefRec} {n0 li d Fu n : Nat} {lf : FunL}
    (F : Fits l.prog P dl el cl LN) (hn : l.most = some n) (hn2 : n ≤ sizeLine) (hli : dl[li]? = some lf) (hps : lf.ps = [("script" : Str)]) (hnm : dr.name = lf.nm) (hr : Room (d + 1 + 2) callerA)
    (hrun : ∀ ns : List Int, ns.length ≤ n → (∀ z ∈ ns, Builtin.Int.intBits z ≤ 1048576) → ((evO P Fu (d + 1)).call li [.scr ns] []).post (fun v _ => v = .bl true) fun _ _ => False) :
    PySem.W.WalkO q loose (PySem.W.XL q []) (He.hookX n0 (faOf dl el) (fnOf l.prog dl el) [] (tfOf dl) (exB dl el cl)).says l.row.toRowW dr [] (fun f vs => PySem.call f vs) ∨ dr.params.defaults ≠ [] := by
  by_cases hdf : dr.params.defaults = []
  · refine .inl (LamX.walk_ofTsE (l := l) (n := n) (k := d + 1 + 2) (x := "script") (CX := fun w => L2.CX l.prog w) hn hn2 hdf hr (fun w mg fa h Y Gn hmg => ?_) fun w H s e s' z => ?_)
    · obtain ⟨K, KX, S⟩ := Y
      exact ⟨K, KX, law_at F S KX Gn hli hps (by rw [← hnm]; exact hmg) hrun⟩
    · obtain ⟨a, B, H', cls, dd, _, _, _, _, _, _, _, z⟩ := z
      exact z
  · exact .inr hdf
end
end PC

set_option maxRecDepth 100000
set_option maxHeartbeats 2000000
/-! PD1: the drawn stream. -/
namespace PC
def dDraw : Def := ⟨2, 5, false, false, (.cons (.asg (.idx (.var 0) (.cst (.int 2))) (.bin .add false (.idx (.var 0) (.cst (.int 2))) (.cst (.int 1)))) (.cons (.whl (.and (.cmp .eq (.idx (.var 0) (.cst (.int 1))) (.cst (.int 0))) (.cmp .ne (.idx (.var 0) (.cst (.int 0))) (.lst true .nil))) (.cons (.asg (.name 2 false) (.bi .abs true (.cons (.meth .popAt (.idx (.var 0) (.cst (.int 0))) (.cons (.cst (.int 0)) .nil)) .nil))) (.cons (.asg (.idx (.var 0) (.cst (.int 3))) (.bin .mod false (.bi .int true (.cons (.bin .add true (.bin .add true (.bin .mul true (.idx (.var 0) (.cst (.int 3))) (.cst (.int 8191))) (.var 2)) (.cst (.int 3))) .nil)) (.cst (.int 2147483647)))) (.cons (.asg (.idx (.var 0) (.cst (.int 1))) (.ite (.cmp .ge (.var 2) (.bin .pow true (.cst (.int 10)) (.cst (.int 18)))) (.var 2) (.cst (.int 0)))) .nil)))) (.cons (.ifs (.cmp .gt (.idx (.var 0) (.cst (.int 1))) (.cst (.int 0))) (.cons (.asg (.name 3 false) (.bin .mod true (.bi .int true (.cons (.idx (.var 0) (.cst (.int 1))) .nil)) (.var 1))) (.cons (.asg (.idx (.var 0) (.cst (.int 1))) (.bin .fdiv false (.idx (.var 0) (.cst (.int 1))) (.var 1))) (.cons (.ret (.var 3)) .nil))) .nil) (.cons (.asg (.name 4 false) (.bin .mod true (.bi .int true (.cons (.bin .pow true (.bin .add true (.bin .add true (.idx (.var 0) (.cst (.int 3))) (.bin .mul true (.cst (.int 7919)) (.idx (.var 0) (.cst (.int 2))))) (.cst (.int 104729))) (.cst (.int 5))) .nil)) (.cst (.int 2147483629)))) (.cons (.ret (.bin .mod true (.bin .mod true (.bi .int true (.cons (.bin .pow true (.bin .add true (.bin .add true (.bin .mul true (.var 4) (.cst (.int 48271))) (.bin .mul true (.cst (.int 30011)) (.idx (.var 0) (.cst (.int 2))))) (.cst (.int 29))) (.cst (.int 3))) .nil)) (.cst (.int 1000000007))) (.var 1))) .nil)))))⟩
def dStream : Def := ⟨1, 1, false, false, (.cons (.ret (.lst false (.cons (.bi .list false (.cons (.var 0) .nil)) (.cons (.cst (.int 0)) (.cons (.cst (.int 0)) (.cons (.cst (.int 17)) .nil)))))) .nil)⟩
/-- the stream: cells to come, what is left of a great one, how many draws, what was mixed -/
structure Stm where
  cells : List Int
  c : Int
  k : Int
  m : Int
def Stm.hp (s : Stm) : Hea := [.lst (s.cells.map .int), .lst [.ref 0, .int s.c, .int s.k, .int s.m]]
structure Stm.Ok (s : Stm) (n : Int) : Prop where
  c : 0 ≤ s.c
  k : 0 ≤ s.k
  kn : s.k ≤ n
  m : 0 ≤ s.m
  m2 : s.m < 2147483647
  len : s.cells.length ≤ 16777216
theorem mulOk_of {i j : Int} {a b : Nat} (h1 : i.natAbs < 2 ^ a) (h2 : j.natAbs < 2 ^ b) (h : a + b < 1000000) : mulOk i j = true := by
  unfold mulOk
  have l : ∀ {n a : Nat}, n < 2 ^ a → n.log2 ≤ a := fun {n a} h => by
    by_cases z : n = 0
    · subst z; simp
    · exact Nat.le_of_lt ((Nat.log2_lt z).mpr h)
  have := l h1
  have := l h2
  exact decide_eq_true (by omega)
theorem shpL_ints (d : Nat) (l : List Int) : shpL d (l.map .int) = true := by
  induction l with
  | nil => cases d <;> rfl
  | cons a r ih => cases d <;> simp_all [shpL, shp]
theorem peqL_nil (l : List PV) : peqL l [] = l.isEmpty := by cases l <;> rfl
/-- the loop that takes cells -/
theorem draw_loop {c : CE} {b : CSs} (hc : c = (.and (.cmp .eq (.idx (.var 0) (.cst (.int 1))) (.cst (.int 0))) (.cmp .ne (.idx (.var 0) (.cst (.int 0))) (.lst true .nil))))
    (hb : b = (.cons (.asg (.name 2 false) (.bi .abs true (.cons (.meth .popAt (.idx (.var 0) (.cst (.int 0))) (.cons (.cst (.int 0)) .nil)) .nil))) (.cons (.asg (.idx (.var 0) (.cst (.int 3))) (.bin .mod false (.bi .int true (.cons (.bin .add true (.bin .add true (.bin .mul true (.idx (.var 0) (.cst (.int 3))) (.cst (.int 8191))) (.var 2)) (.cst (.int 3))) .nil)) (.cst (.int 2147483647)))) (.cons (.asg (.idx (.var 0) (.cst (.int 1))) (.ite (.cmp .ge (.var 2) (.bin .pow true (.cst (.int 10)) (.cst (.int 18)))) (.var 2) (.cst (.int 0)))) .nil))))
    (many k : Int) : ∀ (cells : List Int) (cc m : Int), 0 ≤ cc → 0 ≤ m → m < 2147483647 →
      ∃ (cells' : List Int) (c' m' : Int), 0 ≤ c' ∧ 0 ≤ m' ∧ m' < 2147483647 ∧ cells'.length ≤ cells.length ∧ ∀ e2, ∃ e2', ∀ (O : EO) (rest : Hea) (n : Nat), cells.length + 1 ≤ n →
        iterWh (evB O c) (evSs O b) n [some (.ref 1), some (.int many), e2, none, none] (.lst (cells.map .int) :: .lst [.ref 0, .int cc, .int k, .int m] :: rest) = .nx [some (.ref 1), some (.int many), e2', none, none] (.lst (cells'.map .int) :: .lst [.ref 0, .int c', .int k, .int m'] :: rest) := by
  intro cells
  induction cells with
  | nil =>
    intro cc m h0 h1 h2
    refine ⟨[], cc, m, h0, h1, h2, Nat.le_refl _, fun e2 => ⟨e2, fun O rest n hn => ?_⟩⟩
    obtain ⟨n, rfl⟩ : ∃ j, n = j + 1 := ⟨n - 1, by simp at hn; omega⟩
    subst hc
    by_cases z : cc = 0
    · subst z
      simp [iterWh, evB, evE, Out.bind, get, seqOf, ixOf, cmpV, deref, shp, peq, boolO, truV, evEs, newO, shpL, peqL, line]
    · have zb : (cc == 0) = false := by simpa using z
      simp [iterWh, evB, evE, Out.bind, get, seqOf, ixOf, cmpV, deref, shp, peq, boolO, truV, evEs, newO, zb]
  | cons a cells ih =>
    intro cc m h0 h1 h2
    by_cases z : cc = 0
    · obtain ⟨A, eA, hA⟩ : ∃ A : Int, (if a < 0 then -a else a) = A ∧ 0 ≤ A := ⟨_, rfl, by split <;> omega⟩
      obtain ⟨C, eC, hC⟩ : ∃ C : Int, (if 1000000000000000000 ≤ A then A else 0) = C ∧ 0 ≤ C := ⟨_, rfl, by split <;> omega⟩
      obtain ⟨M, eM, hM, hM2⟩ : ∃ M : Int, (m * 8191 + A + 3).fmod 2147483647 = M ∧ 0 ≤ M ∧ M < 2147483647 := ⟨_, rfl, Int.fmod_nonneg_of_pos _ (by decide), Int.fmod_lt_of_pos _ (by decide)⟩
      obtain ⟨cells', c', m', g1, g2, g3, g4, g5⟩ := ih C M hC hM hM2
      refine ⟨cells', c', m', g1, g2, g3, by simp; omega, fun e2 => ?_⟩
      obtain ⟨e2', g6⟩ := g5 (some (.int A))
      refine ⟨e2', fun O rest n hn => ?_⟩
      obtain ⟨n, rfl⟩ : ∃ j, n = j + 1 := ⟨n - 1, by simp at hn; omega⟩
      have g := g6 O rest n (by simp at hn; omega)
      have mk : mulOk m 8191 = true := mulOk_of (a := 31) (b := 13) (by omega) (by decide) (by decide)
      subst z
      rw [← g]
      rw [iterWh]
      have e1 : evB O c [some (.ref 1), some (.int many), e2, none, none] (.lst ((a :: cells).map .int) :: .lst [.ref 0, .int 0, .int k, .int m] :: rest) = .ok true (.lst ((a :: cells).map .int) :: .lst [.ref 0, .int 0, .int k, .int m] :: rest) := by
        subst hc
        simp [evB, evE, Out.bind, get, seqOf, ixOf, cmpV, deref, shp, peq, boolO, truV, evEs, newO, shpL, peqL, line, shpL_ints]
      rw [e1]
      have e3 : evSs O b [some (.ref 1), some (.int many), e2, none, none] (.lst ((a :: cells).map .int) :: .lst [.ref 0, .int 0, .int k, .int m] :: rest) = .nx [some (.ref 1), some (.int many), some (.int A), none, none] (.lst (cells.map .int) :: .lst [.ref 0, .int C, .int k, .int M] :: rest) := by
        subst hb
        have i0 : ixOf 0 (cells.length + 1) = some 0 := by unfold ixOf; rw [if_pos (by omega)]; rfl
        have p0 : binV .pow (.lst (cells.map .int) :: .lst [.ref 0, .int 0, .int k, .int M] :: rest) (.int 10) (.int 18) = some (.val (.int 1000000000000000000)) := rfl
        by_cases w : 1000000000000000000 ≤ A
        · rw [if_pos w] at eC
          subst eC
          simp [evSs, evS, evE, evEs, Out.bind, get, seqOf, i0, cmpV, boolO, truV, outS, shutS, evT, setO, methO, isL, biV, resO, Out.shut, putO, SO.thn, ixOf, p0]
          simp [binV, mk, eA, eM, w]
        · rw [if_neg w] at eC
          subst eC
          simp [evSs, evS, evE, evEs, Out.bind, get, seqOf, i0, cmpV, boolO, truV, outS, shutS, evT, setO, methO, isL, biV, resO, Out.shut, putO, SO.thn, ixOf, p0]
          simp [binV, mk, eA, eM, w]
      simp only [e3]
    · refine ⟨a :: cells, cc, m, h0, h1, h2, Nat.le_refl _, fun e2 => ⟨e2, fun O rest n hn => ?_⟩⟩
      obtain ⟨n, rfl⟩ : ∃ j, n = j + 1 := ⟨n - 1, by simp at hn; omega⟩
      subst hc
      have zb : (cc == 0) = false := by simpa using z
      simp [iterWh, evB, evE, Out.bind, get, seqOf, ixOf, cmpV, deref, shp, peq, boolO, truV, evEs, newO, zb]
end PC

set_option maxRecDepth 100000
set_option maxHeartbeats 2000000
/-! PD2: a draw. -/
namespace PC
theorem trim_len {h h' : Hea} {v : PV} (e : h'.length = h.length) : trimH h h' v = h' := by
  unfold trimH
  rw [show Nat.ble h'.length h.length = true from Nat.ble_eq_true_of_le (by omega)]
theorem dropL_ints (d : Nat) (l : List Int) (h : Hea) : dropL d h (l.map .int) = h := by
  induction l generalizing h with
  | nil => simp only [List.map_nil, dropL]
  | cons a r ih =>
    simp only [List.map_cons, dropL]
    have e : dropV d h (.int a) = h := by cases d <;> simp only [dropV]
    rw [e]
    exact ih h
theorem pow_of {h : Hea} {i : Int} {j : Int} {n : Nat} (e : j = n) (hj : n ≤ 1000000) (hi : i.natAbs < 2 ^ 64) : binV .pow h (.int i) (.int j) = some (.val (.int (i ^ n))) := by
  subst e
  simp only [binV, Int.toNat_natCast]
  rw [if_pos ⟨by omega, by omega, hi⟩]
/-- behind the loop -/
def dTail : CSs := (.cons (.ifs (.cmp .gt (.idx (.var 0) (.cst (.int 1))) (.cst (.int 0))) (.cons (.asg (.name 3 false) (.bin .mod true (.bi .int true (.cons (.idx (.var 0) (.cst (.int 1))) .nil)) (.var 1))) (.cons (.asg (.idx (.var 0) (.cst (.int 1))) (.bin .fdiv false (.idx (.var 0) (.cst (.int 1))) (.var 1))) (.cons (.ret (.var 3)) .nil))) .nil) (.cons (.asg (.name 4 false) (.bin .mod true (.bi .int true (.cons (.bin .pow true (.bin .add true (.bin .add true (.idx (.var 0) (.cst (.int 3))) (.bin .mul true (.cst (.int 7919)) (.idx (.var 0) (.cst (.int 2))))) (.cst (.int 104729))) (.cst (.int 5))) .nil)) (.cst (.int 2147483629)))) (.cons (.ret (.bin .mod true (.bin .mod true (.bi .int true (.cons (.bin .pow true (.bin .add true (.bin .add true (.bin .mul true (.var 4) (.cst (.int 48271))) (.bin .mul true (.cst (.int 30011)) (.idx (.var 0) (.cst (.int 2))))) (.cst (.int 29))) (.cst (.int 3))) .nil)) (.cst (.int 1000000007))) (.var 1))) .nil)))
theorem draw_tail {c' k m' : Int} (g1 : 0 ≤ c') (g2 : 0 ≤ m') (g3 : m' < 2147483647) (hk : 0 ≤ k) (hn : k < 1099511627777) {many : Int} (h0 : 0 < many) (h1 : many < 1099511627776) :
    ∃ (r c2 : Int), 0 ≤ r ∧ r < many ∧ 0 ≤ c2 ∧ ∀ (O : EO) (cells : List PV) (e2 : Option PV) (rest : Hea), evSs O dTail [some (.ref 1), some (.int many), e2, none, none] (.lst cells :: .lst [.ref 0, .int c', .int k, .int m'] :: rest) = .rt (.int r) (.lst cells :: .lst [.ref 0, .int c2, .int k, .int m'] :: rest) := by
  have nz : many ≠ 0 := by omega
  have lg : many.natAbs.log2 < 9000 := by
    have : many.natAbs < 2 ^ 40 := by omega
    have := (Nat.log2_lt (n := many.natAbs) (k := 40) (by omega)).mpr this
    omega
  by_cases z : 0 < c'
  · refine ⟨c'.fmod many, c'.fdiv many, Int.fmod_nonneg_of_pos _ h0, Int.fmod_lt_of_pos _ h0, Int.fdiv_nonneg g1 (by omega), fun O cells e2 rest => ?_⟩
    simp [dTail, evSs, evS, evB, evE, evEs, Out.bind, get, seqOf, ixOf, cmpV, boolO, truV, outS, shutS, evT, setO, biV, resO, binV, Out.shut, putO, SO.thn, toSO, z, nz, lg]
  · have c0 : c' = 0 := by omega
    subst c0
    obtain ⟨M, eM, hM, hM2⟩ : ∃ M : Int, ((m' + 7919 * k + 104729) ^ 5).fmod 2147483629 = M ∧ 0 ≤ M ∧ M < 2147483629 := ⟨_, rfl, Int.fmod_nonneg_of_pos _ (by decide), Int.fmod_lt_of_pos _ (by decide)⟩
    obtain ⟨R, eR⟩ : ∃ R : Int, ((M * 48271 + 30011 * k + 29) ^ 3).fmod 1000000007 = R := ⟨_, rfl⟩
    refine ⟨R.fmod many, 0, Int.fmod_nonneg_of_pos _ h0, Int.fmod_lt_of_pos _ h0, Int.le_refl _, fun O cells e2 rest => ?_⟩
    have k1 : mulOk 7919 k = true := mulOk_of (a := 13) (b := 41) (by decide) (by omega) (by decide)
    have k2 : mulOk 30011 k = true := mulOk_of (a := 15) (b := 41) (by decide) (by omega) (by decide)
    have k3 : mulOk M 48271 = true := mulOk_of (a := 31) (b := 16) (by omega) (by decide) (by decide)
    have p1 : ∀ h, binV .pow h (.int (m' + 7919 * k + 104729)) (.int 5) = some (.val (.int ((m' + 7919 * k + 104729) ^ 5))) := fun h => pow_of (n := 5) rfl (by decide) (by omega)
    have p2 : ∀ h, binV .pow h (.int (M * 48271 + 30011 * k + 29)) (.int 3) = some (.val (.int ((M * 48271 + 30011 * k + 29) ^ 3))) := fun h => pow_of (n := 3) rfl (by decide) (by omega)
    have a1 : ∀ h (i j : Int), binV .add h (.int i) (.int j) = some (.val (.int (i + j))) := fun _ _ _ => rfl
    have m1 : ∀ h, binV .mul h (.int 7919) (.int k) = some (.val (.int (7919 * k))) := fun h => by simp [binV, k1]
    have m2 : ∀ h, binV .mul h (.int 30011) (.int k) = some (.val (.int (30011 * k))) := fun h => by simp [binV, k2]
    have m3 : ∀ h, binV .mul h (.int M) (.int 48271) = some (.val (.int (M * 48271))) := fun h => by simp [binV, k3]
    have f1 : ∀ h (i j : Int), j ≠ 0 → binV .mod h (.int i) (.int j) = some (.val (.int (i.fmod j))) := fun h i j hj => by simp [binV, hj]
    simp [dTail, evSs, evS, evB, evE, evEs, Out.bind, get, seqOf, ixOf, cmpV, boolO, truV, outS, shutS, evT, setO, biV, resO, Out.shut, putO, SO.thn, toSO, p1, a1, m1, m2, f1, eM, m3, p2, eR, nz]
theorem evO_fuel (P : Prog) (F d : Nat) : (evO P F d).fuel = F := by cases d <;> rfl
theorem draw_ok {P : Prog} {f F : Nat} (hf : P.defs[f]? = some dDraw) (hF : 16777217 ≤ F) {s : Stm} {n : Int} (hs : s.Ok n) (hn : n < 1099511627776) {many : Int} (h0 : 0 < many) (h1 : many < 1099511627776) :
    ∃ (r : Int) (s' : Stm), s'.Ok (n + 1) ∧ 0 ≤ r ∧ r < many ∧ ∀ rest d, (evO P F (d + 1)).call f [.ref 1, .int many] (s.hp ++ rest) = .ok (.int r) (s'.hp ++ rest) := by
  obtain ⟨cells, c, k, m⟩ := s
  obtain ⟨s1, s2, s3, s4, s5, s6⟩ := hs
  dsimp only at s1 s2 s3 s4 s5 s6
  obtain ⟨cells', c', m', g1, g2, g3, g4, g5⟩ := draw_loop rfl rfl many (k + 1) cells c m s1 s4 s5
  obtain ⟨e2', g6⟩ := g5 none
  obtain ⟨r, c2, t1, t2, t3, t4⟩ := draw_tail g1 g2 g3 (k := k + 1) (by omega) (by omega) h0 h1
  refine ⟨r, ⟨cells', c2, k + 1, m'⟩, ⟨t3, by show 0 ≤ k + 1; omega, by show k + 1 ≤ n + 1; omega, g2, g3, by show cells'.length ≤ _; omega⟩, t1, t2, fun rest d => ?_⟩
  have w := fun O => g6 O rest F (by omega)
  have bd : dDraw.body = (.cons (.asg (.idx (.var 0) (.cst (.int 2))) (.bin .add false (.idx (.var 0) (.cst (.int 2))) (.cst (.int 1)))) (.cons (.whl (.and (.cmp .eq (.idx (.var 0) (.cst (.int 1))) (.cst (.int 0))) (.cmp .ne (.idx (.var 0) (.cst (.int 0))) (.lst true .nil))) (.cons (.asg (.name 2 false) (.bi .abs true (.cons (.meth .popAt (.idx (.var 0) (.cst (.int 0))) (.cons (.cst (.int 0)) .nil)) .nil))) (.cons (.asg (.idx (.var 0) (.cst (.int 3))) (.bin .mod false (.bi .int true (.cons (.bin .add true (.bin .add true (.bin .mul true (.idx (.var 0) (.cst (.int 3))) (.cst (.int 8191))) (.var 2)) (.cst (.int 3))) .nil)) (.cst (.int 2147483647)))) (.cons (.asg (.idx (.var 0) (.cst (.int 1))) (.ite (.cmp .ge (.var 2) (.bin .pow true (.cst (.int 10)) (.cst (.int 18)))) (.var 2) (.cst (.int 0)))) .nil)))) dTail)) := rfl
  have st1 : ∀ O : EO, evS O (.asg (.idx (.var 0) (.cst (.int 2))) (.bin .add false (.idx (.var 0) (.cst (.int 2))) (.cst (.int 1)))) [some (.ref 1), some (.int many), none, none, none] (.lst (cells.map .int) :: .lst [.ref 0, .int c, .int k, .int m] :: rest) = .nx [some (.ref 1), some (.int many), none, none, none] (.lst (cells.map .int) :: .lst [.ref 0, .int c, .int (k + 1), .int m] :: rest) := fun O => by
    simp [evS, evE, evEs, Out.bind, get, seqOf, ixOf, outS, shutS, evT, resO, binV, Out.shut, putO]
  simp only [evO, hf]
  have e0 : startE dDraw.slots [.ref 1, .int many] = [some (.ref 1), some (.int many), none, none, none] := rfl
  rw [e0, bd]
  simp only [Stm.hp, List.cons_append, List.nil_append]
  simp only [evSs]
  rw [st1]
  simp only [SO.thn]
  rw [show ∀ (O : EO) (c : CE) (b : CSs) e h, evS O (.whl c b) e h = iterWh (evB O c) (evSs O b) O.fuel e h from fun _ _ _ _ _ => by simp only [evS]]
  simp only [evO_fuel]
  rw [w]
  simp only [t4]
  rw [show Nat.beq [PV.ref 1, PV.int many].length dDraw.n = true from rfl, show dDraw.str = false from rfl, show dDraw.lm = false from rfl]
  simp only [endO, killOf]
  rw [trim_len (by simp)]
theorem stream_ok {P : Prog} {f F : Nat} (hf : P.defs[f]? = some dStream) {ns : List Int} (hl : ns.length ≤ 63) : ∃ s : Stm, s.Ok 0 ∧ ∀ d, (evO P F (d + 1)).call f [.scr ns] [] = .ok (.ref 1) s.hp := by
  refine ⟨⟨ns, 0, 0, 17⟩, ⟨Int.le_refl 0, Int.le_refl 0, Int.le_refl 0, by show (0 : Int) ≤ 17; decide, by show (17 : Int) < 2147483647; decide, by show ns.length ≤ _; omega⟩, fun d => ?_⟩
  have b : Nat.ble ns.length line = true := Nat.ble_eq_true_of_le (by show ns.length ≤ 16777216; omega)
  simp only [evO, hf]
  rw [show Nat.beq [PV.scr ns].length dStream.n = true from rfl, show dStream.str = false from rfl, show dStream.lm = false from rfl]
  have e0 : startE dStream.slots [.scr ns] = [some (.scr ns)] := rfl
  rw [e0]
  have l4 : Nat.ble 4 line = true := rfl
  simp [dStream, evSs, evS, evE, evEs, Out.bind, get, biV, seqOf, resO, newO, b, SO.thn, toSO, endO, killOf, l4, Stm.hp]
  simp [trimH, PV.bnd, Nat.ble]
end PC

/-! PQ1: fractions, with no program in sight. -/
namespace PC
abbrev Fr := Int × Int
def fr (q : Fr) : PV := .tup [.int q.1, .int q.2]
def red (a b : Int) : Fr := if b < 0 then (a.fdiv (-(Int.gcd a b : Int)), b.fdiv (-(Int.gcd a b : Int))) else (a.fdiv (Int.gcd a b), b.fdiv (Int.gcd a b))
structure Good (q : Fr) : Prop where
  pos : 0 < q.2
  cop : Int.gcd q.1 q.2 = 1
def Sz (k : Nat) (q : Fr) : Prop := q.1.natAbs < 2 ^ k ∧ q.2.natAbs < 2 ^ k
def qadd (p q : Fr) : Fr := red (p.1 * q.2 + q.1 * p.2) (p.2 * q.2)
def qlt (p q : Fr) : Bool := decide (p.1 * q.2 < q.1 * p.2)
def qsum (l : List Fr) : Fr := l.foldl qadd (0, 1)
theorem red_parts {a b : Int} (hb : b ≠ 0) : ∃ (a' b' : Int), a = (Int.gcd a b : Int) * a' ∧ b = (Int.gcd a b : Int) * b' ∧ 0 < (Int.gcd a b : Int) ∧ Int.gcd a' b' = 1 ∧ red a b = if b < 0 then (-a', -b') else (a', b') := by
  have hg : 0 < Int.gcd a b := Nat.pos_of_ne_zero fun z => hb (Int.gcd_eq_zero_iff.mp z).2
  obtain ⟨a', ha⟩ : (Int.gcd a b : Int) ∣ a := Int.gcd_dvd_left ..
  obtain ⟨b', hb'⟩ : (Int.gcd a b : Int) ∣ b := Int.gcd_dvd_right ..
  have gp : 0 < (Int.gcd a b : Int) := by omega
  refine ⟨a', b', ha, hb', gp, ?_, ?_⟩
  · have z : Int.gcd ((Int.gcd a b : Int) * a') ((Int.gcd a b : Int) * b') = Int.gcd a b := by rw [← ha, ← hb']
    rw [Int.gcd_mul_left] at z
    have z2 : Int.gcd a b * Int.gcd a' b' = Int.gcd a b * 1 := by rw [Nat.mul_one]; simpa using z
    exact Nat.eq_of_mul_eq_mul_left hg z2
  · unfold red
    generalize (Int.gcd a b : Int) = g at *
    have e1 : a.fdiv g = a' := by rw [ha]; exact Int.mul_fdiv_cancel_left _ (by omega)
    have e2 : b.fdiv g = b' := by rw [hb']; exact Int.mul_fdiv_cancel_left _ (by omega)
    have e3 : a.fdiv (-g) = -a' := by rw [ha, show g * a' = -g * -a' by rw [Int.neg_mul_neg]]; exact Int.mul_fdiv_cancel_left _ (by omega)
    have e4 : b.fdiv (-g) = -b' := by rw [hb', show g * b' = -g * -b' by rw [Int.neg_mul_neg]]; exact Int.mul_fdiv_cancel_left _ (by omega)
    rw [e1, e2, e3, e4]
theorem red_good {a b : Int} (hb : b ≠ 0) : Good (red a b) := by
  obtain ⟨a', b', h1, h2, h3, h4, h5⟩ := red_parts (a := a) hb
  generalize (Int.gcd a b : Int) = g at *
  rw [h5]
  have nb : b' ≠ 0 := fun z => hb (by rw [h2, z, Int.mul_zero])
  by_cases q : b < 0
  · rw [if_pos q]
    refine ⟨?_, by show Int.gcd (-a') (-b') = 1; rw [Int.neg_gcd, Int.gcd_neg]; exact h4⟩
    show 0 < -b'
    rcases Int.lt_or_gt_of_ne nb with z | z
    · omega
    · have := Int.mul_pos h3 z; omega
  · rw [if_neg q]
    refine ⟨?_, h4⟩
    show 0 < b'
    rcases Int.lt_or_gt_of_ne nb with z | z
    · have := Int.mul_neg_of_pos_of_neg h3 z; omega
    · exact z
theorem red_sz {a b : Int} {k : Nat} (hb : b ≠ 0) (h1 : a.natAbs < 2 ^ k) (h2 : b.natAbs < 2 ^ k) : Sz k (red a b) := by
  obtain ⟨a', b', g1, g2, g3, g4, g5⟩ := red_parts (a := a) hb
  generalize (Int.gcd a b : Int) = g at *
  have le : ∀ x y : Int, x = g * y → y.natAbs ≤ x.natAbs := fun x y e => by
    rw [e, Int.natAbs_mul]
    exact Nat.le_mul_of_pos_left _ (by omega)
  have z1 := le _ _ g1
  have z2 := le _ _ g2
  rw [g5]
  split
  · exact ⟨by show (-a').natAbs < _; rw [Int.natAbs_neg]; omega, by show (-b').natAbs < _; rw [Int.natAbs_neg]; omega⟩
  · exact ⟨by show a'.natAbs < _; omega, by show b'.natAbs < _; omega⟩
theorem red_law {a b s : Int} (hb : b ≠ 0) (hs : s = if b < 0 then -1 else 1) : ((s * a).fdiv (Int.gcd a b), (s * b).fdiv (Int.gcd a b)) = red a b := by
  obtain ⟨a', b', h1, h2, h3, h4, h5⟩ := red_parts (a := a) hb
  rw [h5]
  generalize (Int.gcd a b : Int) = g at *
  by_cases q : b < 0
  · rw [if_pos q] at hs ⊢
    subst hs
    rw [h1, h2, show -1 * (g * a') = g * -a' by rw [Int.mul_neg]; omega, show -1 * (g * b') = g * -b' by rw [Int.mul_neg]; omega, Int.mul_fdiv_cancel_left _ (by omega), Int.mul_fdiv_cancel_left _ (by omega)]
  · rw [if_neg q] at hs ⊢
    subst hs
    rw [Int.one_mul, Int.one_mul, h1, h2, Int.mul_fdiv_cancel_left _ (by omega), Int.mul_fdiv_cancel_left _ (by omega)]
theorem mul_lt {x y : Int} {j k : Nat} (h1 : x.natAbs < 2 ^ j) (h2 : y.natAbs < 2 ^ k) : (x * y).natAbs < 2 ^ (j + k) := by
  rw [Int.natAbs_mul, Nat.pow_add]
  exact Nat.mul_lt_mul'' h1 h2
theorem add_lt {x y : Int} {k : Nat} (h1 : x.natAbs < 2 ^ k) (h2 : y.natAbs < 2 ^ k) : (x + y).natAbs < 2 ^ (k + 1) := by
  have := Int.natAbs_add_le x y
  rw [Nat.pow_succ]
  omega
theorem Good.ne {q : Fr} (g : Good q) : q.2 ≠ 0 := by have := g.pos; omega
theorem qadd_den {p q : Fr} (hp : Good p) (hq : Good q) : p.2 * q.2 ≠ 0 := Int.mul_ne_zero hp.ne hq.ne
theorem qadd_good {p q : Fr} (hp : Good p) (hq : Good q) : Good (qadd p q) := red_good (qadd_den hp hq)
theorem Sz.mono {j k : Nat} {q : Fr} (h : Sz j q) (l : j ≤ k) : Sz k q := ⟨Nat.lt_of_lt_of_le h.1 (Nat.pow_le_pow_right (by decide) l), Nat.lt_of_lt_of_le h.2 (Nat.pow_le_pow_right (by decide) l)⟩
theorem qadd_num {p q : Fr} {j k : Nat} (h1 : Sz j p) (h2 : Sz k q) : (p.1 * q.2 + q.1 * p.2).natAbs < 2 ^ (j + k + 1) := add_lt (mul_lt h1.1 h2.2) (by have := mul_lt h2.1 h1.2; rwa [Nat.add_comm] at this)
theorem qadd_den_lt {p q : Fr} {j k : Nat} (h1 : Sz j p) (h2 : Sz k q) : (p.2 * q.2).natAbs < 2 ^ (j + k + 1) := Nat.lt_of_lt_of_le (mul_lt h1.2 h2.2) (Nat.pow_le_pow_right (by decide) (by omega))
theorem qadd_sz {p q : Fr} {j k : Nat} (hp : Good p) (hq : Good q) (h1 : Sz j p) (h2 : Sz k q) : Sz (j + k + 1) (qadd p q) := red_sz (qadd_den hp hq) (qadd_num h1 h2) (qadd_den_lt h1 h2)
end PC

set_option maxRecDepth 100000
set_option maxHeartbeats 2000000
/-! PQ2: the functions of fractions, by the evaluator. -/
namespace PC
theorem call_eq {P : Prog} {F d f : Nat} {D : Def} {vs : List PV} {h : Hea} (hf : P.defs[f]? = some D) (hn : Nat.beq vs.length D.n = true) (hs : D.str = false) :
    (evO P F (d + 1)).call f vs h = endO h (killOf d D.lm) (evSs { evO P F d with st := D.lm } D.body (startE D.slots vs) h) := by
  simp only [evO, hf, hn, hs]
theorem trim_same {h : Hea} {v : PV} : trimH h h v = h := trim_len rfl
theorem eq_int {h : Hea} {i j : Int} : cmpV .eq h (.int i) (.int j) = some (i == j) := rfl
theorem ne_int {h : Hea} {i j : Int} : cmpV .ne h (.int i) (.int j) = some (!(i == j)) := rfl
theorem lt_int {h : Hea} {i j : Int} : cmpV .lt h (.int i) (.int j) = some (decide (i < j)) := rfl
theorem le_int {h : Hea} {i j : Int} : cmpV .le h (.int i) (.int j) = some (decide (i ≤ j)) := rfl
theorem gt_int {h : Hea} {i j : Int} : cmpV .gt h (.int i) (.int j) = some (decide (j < i)) := rfl
theorem ge_int {h : Hea} {i j : Int} : cmpV .ge h (.int i) (.int j) = some (decide (j ≤ i)) := rfl
theorem is_non {h : Hea} : cmpV .is_ h .non .non = some true := rfl
theorem is_int {h : Hea} {i : Int} : cmpV .is_ h (.int i) .non = some false := rfl
theorem is_lst {h : Hea} {xs : List PV} : cmpV .is_ h (.lst xs) .non = some false := rfl
theorem is_tup {h : Hea} {xs : List PV} : cmpV .is_ h (.tup xs) .non = some false := rfl
theorem isnt_non {h : Hea} : cmpV .isnt h .non .non = some false := rfl
theorem isnt_int {h : Hea} {i : Int} : cmpV .isnt h (.int i) .non = some true := rfl
theorem isnt_lst {h : Hea} {xs : List PV} : cmpV .isnt h (.lst xs) .non = some true := rfl
theorem isnt_tup {h : Hea} {xs : List PV} : cmpV .isnt h (.tup xs) .non = some true := rfl
/-- the evaluator, unfolded -/
def dGcd : Def := ⟨2, 2, false, false, (.cons (.par 0 1 (.bi .abs true (.cons (.var 0) .nil)) (.bi .abs true (.cons (.var 1) .nil))) (.cons (.whl (.var 1) (.cons (.par 0 1 (.var 1) (.bin .mod true (.var 0) (.var 1))) .nil)) (.cons (.ret (.var 0)) .nil)))⟩
def dShare : Def := ⟨2, 2, false, false, (.cons (.par 0 1 (.bi .abs true (.cons (.var 0) .nil)) (.bi .abs true (.cons (.var 1) .nil))) (.cons (.whl (.cmp .ne (.var 1) (.cst (.int 0))) (.cons (.par 0 1 (.var 1) (.bin .mod true (.bi .int true (.cons (.var 0) .nil)) (.var 1))) .nil)) (.cons (.ret (.var 0)) .nil)))⟩
theorem fmod_nat {x y : Nat} : Int.fmod (x : Int) (y : Int) = ((x % y : Nat) : Int) := by
  rw [Int.fmod_eq_emod_of_nonneg _ (Int.natCast_nonneg _)]; rfl
theorem mod_half {x y k : Nat} (hy : y < 2 ^ (k + 1)) (h1 : y ≠ 0) (h2 : x % y ≠ 0) : y % (x % y) < 2 ^ k := by
  have a := Nat.mod_lt x (Nat.pos_of_ne_zero h1)
  have b := Nat.mod_lt y (Nat.pos_of_ne_zero h2)
  have c := Nat.mod_add_div y (x % y)
  have d : 1 ≤ y / (x % y) := (Nat.one_le_div_iff (Nat.pos_of_ne_zero h2)).mpr (by omega)
  have e : x % y ≤ x % y * (y / (x % y)) := Nat.le_mul_of_pos_right _ d
  rw [Nat.pow_succ] at hy
  omega
theorem euclid {O : EO} {c : CE} {b : CSs} {h : Hea} (step : ∀ (x y n : Nat), y ≠ 0 → iterWh (evB O c) (evSs O b) (n + 1) [some (.int x), some (.int y)] h = iterWh (evB O c) (evSs O b) n [some (.int y), some (.int (x % y : Nat))] h)
    (stop : ∀ (x n : Nat), iterWh (evB O c) (evSs O b) (n + 1) [some (.int x), some (.int (0 : Nat))] h = .nx [some (.int x), some (.int (0 : Nat))] h) :
    ∀ (k x y n : Nat), y < 2 ^ k → 2 * k + 1 ≤ n → iterWh (evB O c) (evSs O b) n [some (.int x), some (.int y)] h = .nx [some (.int (Nat.gcd x y)), some (.int (0 : Nat))] h
  | 0, x, y, n, hy, hn => by
    obtain ⟨m, rfl⟩ : ∃ m, n = m + 1 := ⟨n - 1, by omega⟩
    have : y = 0 := by simpa using hy
    subst this
    rw [stop, Nat.gcd_zero_right]
  | k + 1, x, y, n, hy, hn => by
    obtain ⟨m, rfl⟩ : ∃ m, n = m + 2 := ⟨n - 2, by omega⟩
    by_cases h1 : y = 0
    · subst h1; rw [stop, Nat.gcd_zero_right]
    · rw [step x y (m + 1) h1]
      have g1 : Nat.gcd x y = Nat.gcd y (x % y) := by rw [Nat.gcd_comm x y, Nat.gcd_rec y x, Nat.gcd_comm]
      rw [g1]
      by_cases h2 : x % y = 0
      · rw [h2, stop, Nat.gcd_zero_right]
      · rw [step y (x % y) m h2]
        have g2 : Nat.gcd y (x % y) = Nat.gcd (x % y) (y % (x % y)) := by rw [Nat.gcd_comm y (x % y), Nat.gcd_rec (x % y) y, Nat.gcd_comm]
        rw [g2]
        exact euclid step stop k _ _ m (mod_half hy h1 h2) (by omega)
theorem abs_nat (a : Int) : (if a < 0 then -a else a) = (a.natAbs : Int) := by omega
theorem gcd_ok {P : Prog} {f F : Nat} (hf : P.defs[f]? = some dGcd) {a b : Int} {k : Nat} (hb : b.natAbs < 2 ^ k) (hF : 2 * k + 1 ≤ F) (d : Nat) (h : Hea) : (evO P F (d + 1)).call f [.int a, .int b] h = .ok (.int (Int.gcd a b)) h := by
  rw [call_eq hf rfl rfl]
  have e := fun (O : EO) => euclid (O := O) (c := .var 1) (b := .cons (.par 0 1 (.var 1) (.bin .mod true (.var 0) (.var 1))) .nil) (h := h) (fun x y n hy => by
      have hy' : ((y : Int) != 0) = true := by simpa using hy
      have hy2 : ((y : Int) == 0) = false := by simpa using hy
      rw [iterWh]
      simp [evB, evE, get, Out.bind, truV, evSs, evS, outS, binV, resO, SO.thn, hy, hy', fmod_nat]) (fun x n => by
      rw [iterWh]
      simp [evB, evE, get, Out.bind, truV]) k a.natAbs b.natAbs F hb hF
  have w : ∀ (O : EO) (c : CE) (b : CSs) e h, evS O (.whl c b) e h = iterWh (evB O c) (evSs O b) O.fuel e h := fun _ _ _ _ _ => by simp only [evS]
  simp only [dGcd, startE, List.map_cons, List.map_nil, List.length_cons, List.length_nil, List.replicate, List.append_nil, evSs]
  have p : ∀ (O : EO), evS O (.par 0 1 (.bi .abs true (.cons (.var 0) .nil)) (.bi .abs true (.cons (.var 1) .nil))) [some (.int a), some (.int b)] h = .nx [some (.int a.natAbs), some (.int b.natAbs)] h := fun O => by
    simp [evS, evE, evEs, get, Out.bind, outS, biV, resO, abs_nat]
  simp only [Nat.sub_self, List.replicate_zero, List.append_nil, p, SO.thn, w, evO_fuel, e]
  simp [evS, evE, get, toSO, endO, killOf, trim_same, SO.thn, Int.gcd]
theorem share_ok {P : Prog} {f F : Nat} (hf : P.defs[f]? = some dShare) {a b : Int} {k : Nat} (hb : b.natAbs < 2 ^ k) (hF : 2 * k + 1 ≤ F) (d : Nat) (h : Hea) : (evO P F (d + 1)).call f [.int a, .int b] h = .ok (.int (Int.gcd a b)) h := by
  rw [call_eq hf rfl rfl]
  have e := fun (O : EO) => euclid (O := O) (c := .cmp .ne (.var 1) (.cst (.int 0))) (b := .cons (.par 0 1 (.var 1) (.bin .mod true (.bi .int true (.cons (.var 0) .nil)) (.var 1))) .nil) (h := h) (fun x y n hy => by
      have hy2 : ((y : Int) == 0) = false := by simpa using hy
      rw [iterWh]
      simp [evB, evE, evEs, get, Out.bind, truV, evSs, evS, outS, binV, biV, resO, SO.thn, hy, fmod_nat, cmpV, deref, shp, peq, boolO, hy2]) (fun x n => by
      rw [iterWh]
      simp [evB, evE, get, Out.bind, truV, cmpV, deref, shp, peq, boolO]) k a.natAbs b.natAbs F hb hF
  have w : ∀ (O : EO) (c : CE) (b : CSs) e h, evS O (.whl c b) e h = iterWh (evB O c) (evSs O b) O.fuel e h := fun _ _ _ _ _ => by simp only [evS]
  simp only [dShare, startE, List.map_cons, List.map_nil, List.length_cons, List.length_nil, List.replicate, List.append_nil, evSs]
  have p : ∀ (O : EO), evS O (.par 0 1 (.bi .abs true (.cons (.var 0) .nil)) (.bi .abs true (.cons (.var 1) .nil))) [some (.int a), some (.int b)] h = .nx [some (.int a.natAbs), some (.int b.natAbs)] h := fun O => by
    simp [evS, evE, evEs, get, Out.bind, outS, biV, resO, abs_nat]
  simp only [Nat.sub_self, List.replicate_zero, List.append_nil, p, SO.thn, w, evO_fuel, e]
  simp [evS, evE, get, toSO, endO, killOf, trim_same, SO.thn, Int.gcd]
def dRed (g : Nat) : Def := ⟨2, 3, false, false, (.cons (.asg (.name 2 false) (.call g (.cons (.var 0) (.cons (.var 1) .nil)) .nil [0, 1])) (.cons (.ifs (.cmp .lt (.var 1) (.cst (.int 0))) (.cons (.asg (.name 2 false) (.neg (.var 2))) .nil) .nil) (.cons (.ret (.tup (.cons (.bin .fdiv true (.var 0) (.var 2)) (.cons (.bin .fdiv true (.var 1) (.var 2)) .nil)))) .nil)))⟩
def dFrac (g : Nat) : Def := ⟨2, 4, false, false, (.cons (.asg (.name 2 false) (.call g (.cons (.var 0) (.cons (.var 1) .nil)) .nil [0, 1])) (.cons (.asg (.name 3 false) (.ite (.cmp .lt (.var 1) (.cst (.int 0))) (.neg (.cst (.int 1))) (.cst (.int 1)))) (.cons (.ret (.tup (.cons (.bin .fdiv true (.bin .mul true (.var 3) (.var 0)) (.var 2)) (.cons (.bin .fdiv true (.bin .mul true (.var 3) (.var 1)) (.var 2)) .nil)))) .nil)))⟩
theorem fdiv_of {h : Hea} {i j : Int} (h0 : j ≠ 0) (h1 : j.natAbs < 2 ^ 8000) : binV .fdiv h (.int i) (.int j) = some (.val (.int (i.fdiv j))) := by
  have : j.natAbs.log2 < 9000 := by
    have := (Nat.log2_lt (n := j.natAbs) (k := 8000) (by omega)).mpr h1
    omega
  simp [binV, h0, this]
theorem mul_of {h : Hea} {i j : Int} {a b : Nat} (h1 : i.natAbs < 2 ^ a) (h2 : j.natAbs < 2 ^ b) (l : a + b < 1000000) : binV .mul h (.int i) (.int j) = some (.val (.int (i * j))) := by
  simp [binV, mulOk_of h1 h2 l]
theorem gcd_le {a b : Int} {k : Nat} (hb : b ≠ 0) (h : b.natAbs < 2 ^ k) : ((Int.gcd a b : Nat) : Int).natAbs < 2 ^ k := by
  have : Int.gcd a b ≤ b.natAbs := Nat.le_of_dvd (by omega) (by unfold Int.gcd; exact Nat.gcd_dvd_right ..)
  omega
theorem red_ok {P : Prog} {f g F : Nat} (hf : P.defs[f]? = some (dRed g)) (hg : P.defs[g]? = some dGcd) (hF : 20000 ≤ F) {a b : Int} {k : Nat} (hb : b ≠ 0) (h1 : a.natAbs < 2 ^ k) (h2 : b.natAbs < 2 ^ k) (hk : k ≤ 8000) (d : Nat) (h : Hea) :
    (evO P F (d + 2)).call f [.int a, .int b] h = .ok (fr (red a b)) h := by
  rw [call_eq hf rfl rfl]
  have e := gcd_ok hg (a := a) h2 (show 2 * k + 1 ≤ F by omega) d h
  have g0 : ((Int.gcd a b : Nat) : Int) ≠ 0 := fun z => hb (Int.gcd_eq_zero_iff.mp (by exact_mod_cast z)).2
  have g1 : ((Int.gcd a b : Nat) : Int).natAbs < 2 ^ 8000 := Nat.lt_of_lt_of_le (gcd_le hb h2) (Nat.pow_le_pow_right (by decide) hk)
  have n0 : -((Int.gcd a b : Nat) : Int) ≠ 0 := by omega
  have n1 : (-((Int.gcd a b : Nat) : Int)).natAbs < 2 ^ 8000 := by rw [Int.natAbs_neg]; exact g1
  have l2 : Nat.ble 2 line = true := rfl
  simp only [dRed, startE, List.map_cons, List.map_nil, List.length_cons, List.length_nil]
  by_cases q : b < 0
  · simp [evSs, evS, evB, evE, evEs, get, Out.bind, outS, shutS, CEs.len, arrange, e, evT, setO, cmpV, boolO, truV, q, fdiv_of n0 n1, resO, l2, toSO, SO.thn, endO, killOf, trim_same, fr, red]
  · simp [evSs, evS, evB, evE, evEs, get, Out.bind, outS, shutS, CEs.len, arrange, e, evT, setO, cmpV, boolO, truV, q, fdiv_of g0 g1, resO, l2, toSO, SO.thn, endO, killOf, trim_same, fr, red]
theorem frac_ok {P : Prog} {f g F : Nat} (hf : P.defs[f]? = some (dFrac g)) (hg : P.defs[g]? = some dShare) (hF : 20000 ≤ F) {a b : Int} {k : Nat} (hb : b ≠ 0) (h1 : a.natAbs < 2 ^ k) (h2 : b.natAbs < 2 ^ k) (hk : k ≤ 8000) (d : Nat) (h : Hea) :
    (evO P F (d + 2)).call f [.int a, .int b] h = .ok (fr (red a b)) h := by
  rw [call_eq hf rfl rfl]
  have e := share_ok hg (a := a) h2 (show 2 * k + 1 ≤ F by omega) d h
  have g0 : ((Int.gcd a b : Nat) : Int) ≠ 0 := fun z => hb (Int.gcd_eq_zero_iff.mp (by exact_mod_cast z)).2
  have g1 : ((Int.gcd a b : Nat) : Int).natAbs < 2 ^ 8000 := Nat.lt_of_lt_of_le (gcd_le hb h2) (Nat.pow_le_pow_right (by decide) hk)
  have l2 : Nat.ble 2 line = true := rfl
  have m1 : ∀ (i : Int), i.natAbs < 2 ^ k → binV .mul h (.int 1) (.int i) = some (.val (.int (1 * i))) := fun i hi => mul_of (a := 1) (by decide) hi (by omega)
  have m2 : ∀ (i : Int), i.natAbs < 2 ^ k → binV .mul h (.int (-1)) (.int i) = some (.val (.int (-1 * i))) := fun i hi => mul_of (a := 1) (by decide) hi (by omega)
  simp only [dFrac, startE, List.map_cons, List.map_nil, List.length_cons, List.length_nil]
  rw [← red_law hb rfl]
  by_cases q : b < 0
  · rw [if_pos q]
    simp only [evSs, evS, evB, evE, evEs, get, Out.bind, outS, shutS, CEs.len, arrange, evT, setO, eq_int, ne_int, lt_int, le_int, gt_int, ge_int, is_non, is_int, is_lst, is_tup, isnt_non, isnt_int, isnt_lst, isnt_tup, boolO, truV, resO, toSO, SO.thn, endO, killOf, List.getElem?_cons_zero, List.getElem?_cons_succ, List.set_cons_zero, List.set_cons_succ, List.replicate, Nat.beq, List.length_cons, List.length_nil, List.map_cons, List.map_nil, List.append_nil, List.cons_append, List.nil_append, decide_true, decide_false, startE, trim_same, CEs.len, Nat.reduceSub, Nat.reduceAdd, e, q, l2, m2 _ h1, m2 _ h2, fdiv_of g0 g1, fr]
  · rw [if_neg q]
    simp only [evSs, evS, evB, evE, evEs, get, Out.bind, outS, shutS, CEs.len, arrange, evT, setO, eq_int, ne_int, lt_int, le_int, gt_int, ge_int, is_non, is_int, is_lst, is_tup, isnt_non, isnt_int, isnt_lst, isnt_tup, boolO, truV, resO, toSO, SO.thn, endO, killOf, List.getElem?_cons_zero, List.getElem?_cons_succ, List.set_cons_zero, List.set_cons_succ, List.replicate, Nat.beq, List.length_cons, List.length_nil, List.map_cons, List.map_nil, List.append_nil, List.cons_append, List.nil_append, decide_true, decide_false, startE, trim_same, CEs.len, Nat.reduceSub, Nat.reduceAdd, e, q, l2, m1 _ h1, m1 _ h2, fdiv_of g0 g1, fr]
/-! sums, products, looks -/
def dAdd (r : Nat) : Def := ⟨2, 2, false, false, (.cons (.ret (.call r (.cons (.bin .add true (.bin .mul true (.idx (.var 0) (.cst (.int 0))) (.idx (.var 1) (.cst (.int 1)))) (.bin .mul true (.idx (.var 1) (.cst (.int 0))) (.idx (.var 0) (.cst (.int 1))))) (.cons (.bin .mul true (.idx (.var 0) (.cst (.int 1))) (.idx (.var 1) (.cst (.int 1)))) .nil)) .nil [0, 1])) .nil)⟩
def dSub (r : Nat) : Def := ⟨2, 2, false, false, (.cons (.ret (.call r (.cons (.bin .sub true (.bin .mul true (.idx (.var 0) (.cst (.int 0))) (.idx (.var 1) (.cst (.int 1)))) (.bin .mul true (.idx (.var 1) (.cst (.int 0))) (.idx (.var 0) (.cst (.int 1))))) (.cons (.bin .mul true (.idx (.var 0) (.cst (.int 1))) (.idx (.var 1) (.cst (.int 1)))) .nil)) .nil [0, 1])) .nil)⟩
def dMul (r : Nat) : Def := ⟨2, 2, false, false, (.cons (.ret (.call r (.cons (.bin .mul true (.idx (.var 0) (.cst (.int 0))) (.idx (.var 1) (.cst (.int 0)))) (.cons (.bin .mul true (.idx (.var 0) (.cst (.int 1))) (.idx (.var 1) (.cst (.int 1)))) .nil)) .nil [0, 1])) .nil)⟩
def dLt : Def := ⟨2, 2, false, false, (.cons (.ret (.cmp .lt (.bin .mul true (.idx (.var 0) (.cst (.int 0))) (.idx (.var 1) (.cst (.int 1)))) (.bin .mul true (.idx (.var 1) (.cst (.int 0))) (.idx (.var 0) (.cst (.int 1)))))) .nil)⟩
/-- what puts in lowest terms: one of the two -/
def RedOk (P : Prog) (F f : Nat) : Prop := ∀ {a b : Int} {k : Nat}, b ≠ 0 → a.natAbs < 2 ^ k → b.natAbs < 2 ^ k → k ≤ 8000 → ∀ (d : Nat) (h : Hea), (evO P F (d + 2)).call f [.int a, .int b] h = .ok (fr (red a b)) h
theorem red_Ok {P : Prog} {f g F : Nat} (hf : P.defs[f]? = some (dRed g)) (hg : P.defs[g]? = some dGcd) (hF : 20000 ≤ F) : RedOk P F f := fun hb h1 h2 hk d h => red_ok hf hg hF hb h1 h2 hk d h
theorem frac_Ok {P : Prog} {f g F : Nat} (hf : P.defs[f]? = some (dFrac g)) (hg : P.defs[g]? = some dShare) (hF : 20000 ≤ F) : RedOk P F f := fun hb h1 h2 hk d h => frac_ok hf hg hF hb h1 h2 hk d h
theorem seqOf_tup {h : Hea} {xs : List PV} : seqOf h (.tup xs) = some (true, xs) := rfl
theorem ix20 : ixOf 0 2 = some 0 := rfl
theorem ix21 : ixOf 1 2 = some 1 := rfl
theorem add_of {h : Hea} {i j : Int} : binV .add h (.int i) (.int j) = some (.val (.int (i + j))) := rfl
theorem sub_of {h : Hea} {i j : Int} : binV .sub h (.int i) (.int j) = some (.val (.int (i - j))) := rfl
def qsub (p q : Fr) : Fr := red (p.1 * q.2 - q.1 * p.2) (p.2 * q.2)
def qmul (p q : Fr) : Fr := red (p.1 * q.1) (p.2 * q.2)
theorem sub_lt' {x y : Int} {k : Nat} (h1 : x.natAbs < 2 ^ k) (h2 : y.natAbs < 2 ^ k) : (x - y).natAbs < 2 ^ (k + 1) := by
  rw [Int.sub_eq_add_neg]
  exact add_lt h1 (by rw [Int.natAbs_neg]; exact h2)
theorem add_ok {P : Prog} {f r F : Nat} (hf : P.defs[f]? = some (dAdd r)) (hr : RedOk P F r) {p q : Fr} {j k : Nat} (gp : Good p) (gq : Good q) (sp : Sz j p) (sq : Sz k q) (hk : j + k + 1 ≤ 8000) (d : Nat) (h : Hea) :
    (evO P F (d + 3)).call f [fr p, fr q] h = .ok (fr (qadd p q)) h := by
  rw [call_eq hf rfl rfl]
  have e := hr (qadd_den gp gq) (qadd_num sp sq) (qadd_den_lt sp sq) hk d h
  have m1 : binV .mul h (.int p.1) (.int q.2) = some (.val (.int (p.1 * q.2))) := mul_of sp.1 sq.2 (by omega)
  have m2 : binV .mul h (.int q.1) (.int p.2) = some (.val (.int (q.1 * p.2))) := mul_of sq.1 sp.2 (by omega)
  have m3 : binV .mul h (.int p.2) (.int q.2) = some (.val (.int (p.2 * q.2))) := mul_of sp.2 sq.2 (by omega)
  simp only [fr] at e ⊢
  simp only [evSs, evS, evB, evE, evEs, get, Out.bind, outS, shutS, CEs.len, arrange, evT, setO, eq_int, ne_int, lt_int, le_int, gt_int, ge_int, is_non, is_int, is_lst, is_tup, isnt_non, isnt_int, isnt_lst, isnt_tup, boolO, truV, resO, toSO, SO.thn, endO, killOf, List.getElem?_cons_zero, List.getElem?_cons_succ, List.set_cons_zero, List.set_cons_succ, List.replicate, Nat.beq, List.length_cons, List.length_nil, List.map_cons, List.map_nil, List.append_nil, List.cons_append, List.nil_append, decide_true, decide_false, startE, trim_same, CEs.len, Nat.reduceSub, Nat.reduceAdd, dAdd, seqOf_tup, ix20, ix21, m1, m2, m3, add_of, e, qadd]
theorem sub_ok {P : Prog} {f r F : Nat} (hf : P.defs[f]? = some (dSub r)) (hr : RedOk P F r) {p q : Fr} {j k : Nat} (gp : Good p) (gq : Good q) (sp : Sz j p) (sq : Sz k q) (hk : j + k + 1 ≤ 8000) (d : Nat) (h : Hea) :
    (evO P F (d + 3)).call f [fr p, fr q] h = .ok (fr (qsub p q)) h := by
  rw [call_eq hf rfl rfl]
  have e := hr (qadd_den gp gq) (sub_lt' (mul_lt sp.1 sq.2) (by have := mul_lt sp.2 sq.1; rwa [Int.mul_comm] at this)) (qadd_den_lt sp sq) hk d h
  have m1 : binV .mul h (.int p.1) (.int q.2) = some (.val (.int (p.1 * q.2))) := mul_of sp.1 sq.2 (by omega)
  have m2 : binV .mul h (.int q.1) (.int p.2) = some (.val (.int (q.1 * p.2))) := mul_of sq.1 sp.2 (by omega)
  have m3 : binV .mul h (.int p.2) (.int q.2) = some (.val (.int (p.2 * q.2))) := mul_of sp.2 sq.2 (by omega)
  simp only [fr] at e ⊢
  simp only [evSs, evS, evB, evE, evEs, get, Out.bind, outS, shutS, CEs.len, arrange, evT, setO, eq_int, ne_int, lt_int, le_int, gt_int, ge_int, is_non, is_int, is_lst, is_tup, isnt_non, isnt_int, isnt_lst, isnt_tup, boolO, truV, resO, toSO, SO.thn, endO, killOf, List.getElem?_cons_zero, List.getElem?_cons_succ, List.set_cons_zero, List.set_cons_succ, List.replicate, Nat.beq, List.length_cons, List.length_nil, List.map_cons, List.map_nil, List.append_nil, List.cons_append, List.nil_append, decide_true, decide_false, startE, trim_same, CEs.len, Nat.reduceSub, Nat.reduceAdd, dSub, seqOf_tup, ix20, ix21, m1, m2, m3, sub_of, e, qsub]
theorem qmul_ok {P : Prog} {f r F : Nat} (hf : P.defs[f]? = some (dMul r)) (hr : RedOk P F r) {p q : Fr} {j k : Nat} (gp : Good p) (gq : Good q) (sp : Sz j p) (sq : Sz k q) (hk : j + k ≤ 8000) (d : Nat) (h : Hea) :
    (evO P F (d + 3)).call f [fr p, fr q] h = .ok (fr (qmul p q)) h := by
  rw [call_eq hf rfl rfl]
  have e := hr (qadd_den gp gq) (mul_lt sp.1 sq.1) (mul_lt sp.2 sq.2) hk d h
  have m1 : binV .mul h (.int p.1) (.int q.1) = some (.val (.int (p.1 * q.1))) := mul_of sp.1 sq.1 (by omega)
  have m3 : binV .mul h (.int p.2) (.int q.2) = some (.val (.int (p.2 * q.2))) := mul_of sp.2 sq.2 (by omega)
  simp only [fr] at e ⊢
  simp only [evSs, evS, evB, evE, evEs, get, Out.bind, outS, shutS, CEs.len, arrange, evT, setO, eq_int, ne_int, lt_int, le_int, gt_int, ge_int, is_non, is_int, is_lst, is_tup, isnt_non, isnt_int, isnt_lst, isnt_tup, boolO, truV, resO, toSO, SO.thn, endO, killOf, List.getElem?_cons_zero, List.getElem?_cons_succ, List.set_cons_zero, List.set_cons_succ, List.replicate, Nat.beq, List.length_cons, List.length_nil, List.map_cons, List.map_nil, List.append_nil, List.cons_append, List.nil_append, decide_true, decide_false, startE, trim_same, CEs.len, Nat.reduceSub, Nat.reduceAdd, dMul, seqOf_tup, ix20, ix21, m1, m3, e, qmul]
theorem lt_ok {P : Prog} {f F : Nat} (hf : P.defs[f]? = some dLt) {p q : Fr} {j k : Nat} (sp : Sz j p) (sq : Sz k q) (hk : j + k ≤ 8000) (d : Nat) (h : Hea) :
    (evO P F (d + 1)).call f [fr p, fr q] h = .ok (.bl (qlt p q)) h := by
  rw [call_eq hf rfl rfl]
  have m1 : binV .mul h (.int p.1) (.int q.2) = some (.val (.int (p.1 * q.2))) := mul_of sp.1 sq.2 (by omega)
  have m2 : binV .mul h (.int q.1) (.int p.2) = some (.val (.int (q.1 * p.2))) := mul_of sq.1 sp.2 (by omega)
  simp only [fr]
  simp only [evSs, evS, evB, evE, evEs, get, Out.bind, outS, shutS, CEs.len, arrange, evT, setO, eq_int, ne_int, lt_int, le_int, gt_int, ge_int, is_non, is_int, is_lst, is_tup, isnt_non, isnt_int, isnt_lst, isnt_tup, boolO, truV, resO, toSO, SO.thn, endO, killOf, List.getElem?_cons_zero, List.getElem?_cons_succ, List.set_cons_zero, List.set_cons_succ, List.replicate, Nat.beq, List.length_cons, List.length_nil, List.map_cons, List.map_nil, List.append_nil, List.cons_append, List.nil_append, decide_true, decide_false, startE, trim_same, CEs.len, Nat.reduceSub, Nat.reduceAdd, dLt, seqOf_tup, ix20, ix21, m1, m2, qlt]
end PC

set_option maxRecDepth 100000
set_option maxHeartbeats 2000000
/-! PQ3: sums, what is kept of a fraction and of a table. -/
namespace PC
/-- loops that fold -/
theorem iterFor_list {σ β : Type} {gs : List (Nat × List PV)} {h : Hea} {body : PV → Env → Hea → SO} {E : σ → Env} {enc : β → PV} {step : σ → β → σ} {I : List β → σ → Prop} (hg : gsB gs h = true)
    (hs : ∀ b r s, I (b :: r) s → body (enc b) (E s) h = .nx (E (step s b)) h ∧ I r (step s b)) : ∀ (l : List β) (s : σ), I l s → iterFor gs body (l.map enc) (E s) h = .nx (E (l.foldl step s)) h
  | [], s, _ => by simp only [List.map_nil, iterFor, hg, List.foldl_nil]
  | b :: r, s, i => by
    obtain ⟨e, i2⟩ := hs b r s i
    simp only [List.map_cons, iterFor, hg, e, List.foldl_cons]
    exact iterFor_list hg hs r _ i2
def dTotal (r : Nat) : Def := ⟨1, 3, false, false, (.cons (.asg (.name 1 false) (.cst (.tup [(.int 0), (.int 1)]))) (.cons (.for_ (.name 2 false) (.e (.var 0)) (.cons (.asg (.name 1 false) (.call r (.cons (.var 1) (.cons (.var 2) .nil)) .nil [0, 1])) .nil)) (.cons (.ret (.var 1)) .nil)))⟩
def dESum (r : Nat) : Def := ⟨1, 3, false, false, (.cons (.asg (.name 1 false) (.tup (.cons (.cst (.int 0)) (.cons (.cst (.int 1)) .nil)))) (.cons (.for_ (.name 2 false) (.e (.var 0)) (.cons (.asg (.name 1 false) (.call r (.cons (.var 1) (.cons (.var 2) .nil)) .nil [0, 1])) .nil)) (.cons (.ret (.var 1)) .nil)))⟩
def AddOk (P : Prog) (F f : Nat) : Prop := ∀ {p q : Fr} {j k : Nat}, Good p → Good q → Sz j p → Sz k q → j + k + 1 ≤ 8000 → ∀ (d : Nat) (h : Hea), (evO P F (d + 3)).call f [fr p, fr q] h = .ok (fr (qadd p q)) h
theorem add_Ok {P : Prog} {f r F : Nat} (hf : P.defs[f]? = some (dAdd r)) (hr : RedOk P F r) : AddOk P F f := fun gp gq sp sq hk d h => add_ok hf hr gp gq sp sq hk d h
/-- all good, of at most so many bits -/
def GL (k : Nat) (l : List Fr) : Prop := ∀ q ∈ l, Good q ∧ Sz k q
theorem GL.tl {k : Nat} {q : Fr} {l : List Fr} (h : GL k (q :: l)) : GL k l := fun p hp => h p (List.mem_cons_of_mem _ hp)
theorem good01 : Good (0, 1) := ⟨by decide, by decide⟩
theorem fold_good {k : Nat} : ∀ {l : List Fr} {a : Fr} {j : Nat}, Good a → Sz j a → GL k l → Good (l.foldl qadd a) ∧ Sz (j + l.length * (k + 1)) (l.foldl qadd a)
  | [], a, j, ga, sa, _ => ⟨ga, by simpa using sa⟩
  | q :: l, a, j, ga, sa, hl => by
    obtain ⟨g, s⟩ := hl q (List.mem_cons_self ..)
    have z := fold_good (l := l) (qadd_good ga g) (qadd_sz ga g sa s) hl.tl
    rw [show j + (q :: l).length * (k + 1) = j + k + 1 + l.length * (k + 1) by rw [List.length_cons, Nat.add_one_mul]; omega]
    exact z
theorem qsum_good {k : Nat} {l : List Fr} (hl : GL k l) : Good (qsum l) := (fold_good (j := 1) good01 ⟨by decide, by decide⟩ hl).1
theorem qsum_sz {k : Nat} {l : List Fr} (hl : GL k l) : Sz (1 + l.length * (k + 1)) (qsum l) := (fold_good (j := 1) good01 ⟨by decide, by decide⟩ hl).2
theorem sum_loop {O : EO} {P : Prog} {F r : Nat} (hr : AddOk P F r) {d : Nat} (ho : O.call = (evO P F (d + 3)).call) {gs : List (Nat × List PV)} {h : Hea} (hg : gsB gs h = true) {v : PV} {k : Nat} : ∀ {l : List Fr} {a : Fr} {j : Nat} (o : Option PV), Good a → Sz j a → GL k l → j + l.length * (k + 1) ≤ 8000 →
    ∃ o', iterFor gs (fun x e h2 => shutS (evT O (.name 2 false) x e h2) fun e1 h3 => evSs O (.cons (.asg (.name 1 false) (.call r (.cons (.var 1) (.cons (.var 2) .nil)) .nil [0, 1])) .nil) e1 h3) (l.map fr) [some v, some (fr a), o] h = .nx [some v, some (fr (l.foldl qadd a)), o'] h
  | [], a, j, o, ga, sa, _, _ => ⟨o, by simp only [List.map_nil, iterFor, hg, List.foldl_nil]⟩
  | q :: l, a, j, o, ga, sa, hl, hk => by
    obtain ⟨g, s⟩ := hl q (List.mem_cons_self ..)
    rw [List.length_cons, Nat.add_one_mul] at hk
    have e := hr ga g sa s (by omega) d h
    obtain ⟨o', z⟩ := sum_loop (O := O) hr ho hg (v := v) (l := l) (some (fr q)) (qadd_good ga g) (qadd_sz ga g sa s) hl.tl (by omega)
    refine ⟨o', ?_⟩
    have hb : (shutS (evT O (.name 2 false) (fr q) [some v, some (fr a), o] h) fun e1 h3 => evSs O (.cons (.asg (.name 1 false) (.call r (.cons (.var 1) (.cons (.var 2) .nil)) .nil [0, 1])) .nil) e1 h3) = .nx [some v, some (fr (qadd a q)), some (fr q)] h := by
      simp only [evSs, evS, evB, evE, evEs, get, Out.bind, outS, shutS, CEs.len, arrange, evT, setO, eq_int, ne_int, lt_int, le_int, gt_int, ge_int, is_non, is_int, is_lst, is_tup, isnt_non, isnt_int, isnt_lst, isnt_tup, boolO, truV, resO, toSO, SO.thn, endO, killOf, List.getElem?_cons_zero, List.getElem?_cons_succ, List.set_cons_zero, List.set_cons_succ, List.replicate, Nat.beq, List.length_cons, List.length_nil, List.map_cons, List.map_nil, List.append_nil, List.cons_append, List.nil_append, decide_true, decide_false, startE, trim_same, CEs.len, Nat.reduceSub, Nat.reduceAdd, ho, e]
    simp only [List.map_cons, iterFor, hg, List.foldl_cons]
    rw [hb]
    exact z
theorem dtyL_off {O : EO} (h : O.st = false) (v : List PV) : O.dtyL v = false := by unfold EO.dtyL; rw [h]; rfl
theorem dty_off {O : EO} (h : O.st = false) (v : PV) : O.dty v = false := by unfold EO.dty; rw [h]; rfl
theorem evI_var {O : EO} {i : Nat} {env : Env} {h : Hea} {v : PV} {its : Its} (e : get env i = some v) (e2 : itsOf h v = some its) : evI O (.e (.var i)) env h = .ok its h := by
  simp only [evI, evE, e, Out.bind, e2]
theorem evS_for {O : EO} {t : CT} {it : CI} {b : CSs} {env : Env} {h h1 : Hea} {its : Its} (e : evI O it env h = .ok its h1) (dt : O.dtyL its.items = false) :
    evS O (.for_ t it b) env h = iterFor its.gs (fun x e h2 => shutS (evT O t x e h2) fun e1 h3 => evSs O b e1 h3) its.items env h1 := by
  simp only [evS, e, outS, dt]
theorem total_ok {P : Prog} {f r F : Nat} (hf : P.defs[f]? = some (dTotal r)) (hr : AddOk P F r) {h : Hea} {v : PV} {gs : List (Nat × List PV)} {l : List Fr} {k : Nat} (hv : itsOf h v = some ⟨gs, l.map fr⟩) (hg : gsB gs h = true) (hl : GL k l) (hk : 1 + l.length * (k + 1) ≤ 8000) (d : Nat) :
    (evO P F (d + 4)).call f [v] h = .ok (fr (qsum l)) h := by
  rw [call_eq hf rfl rfl]
  obtain ⟨o', e⟩ := sum_loop (O := { evO P F (d + 3) with st := false }) hr (d := d) rfl hg (v := v) (k := k) (l := l) (a := (0, 1)) (j := 1) none good01 ⟨by decide, by decide⟩ hl hk
  have w := evS_for (O := { evO P F (d + 3) with st := false }) (t := .name 2 false) (b := .cons (.asg (.name 1 false) (.call r (.cons (.var 1) (.cons (.var 2) .nil)) .nil [0, 1])) .nil) (evI_var (i := 0) (env := [some v, some (fr (0, 1)), none]) (h := h) rfl hv) (dtyL_off rfl _)
  rw [e] at w
  simp only [fr] at w
  simp only [dTotal, evSs]
  simp only [evS, evE, outS, evT, setO, shutS, startE, List.map_cons, List.map_nil, List.length_cons, List.length_nil, List.replicate, Nat.reduceSub, Nat.reduceAdd, List.cons_append, List.nil_append, List.set_cons_succ, List.set_cons_zero, SO.thn] at w ⊢
  rw [w]
  simp only [evSs, evS, evB, evE, evEs, get, Out.bind, outS, shutS, CEs.len, arrange, evT, setO, eq_int, ne_int, lt_int, le_int, gt_int, ge_int, is_non, is_int, is_lst, is_tup, isnt_non, isnt_int, isnt_lst, isnt_tup, boolO, truV, resO, toSO, SO.thn, endO, killOf, List.getElem?_cons_zero, List.getElem?_cons_succ, List.set_cons_zero, List.set_cons_succ, List.replicate, Nat.beq, List.length_cons, List.length_nil, List.map_cons, List.map_nil, List.append_nil, List.cons_append, List.nil_append, decide_true, decide_false, startE, trim_same, CEs.len, Nat.reduceSub, Nat.reduceAdd, fr, qsum]
theorem esum_ok {P : Prog} {f r F : Nat} (hf : P.defs[f]? = some (dESum r)) (hr : AddOk P F r) {h : Hea} {v : PV} {gs : List (Nat × List PV)} {l : List Fr} {k : Nat} (hv : itsOf h v = some ⟨gs, l.map fr⟩) (hg : gsB gs h = true) (hl : GL k l) (hk : 1 + l.length * (k + 1) ≤ 8000) (d : Nat) :
    (evO P F (d + 4)).call f [v] h = .ok (fr (qsum l)) h := by
  rw [call_eq hf rfl rfl]
  obtain ⟨o', e⟩ := sum_loop (O := { evO P F (d + 3) with st := false }) hr (d := d) rfl hg (v := v) (k := k) (l := l) (a := (0, 1)) (j := 1) none good01 ⟨by decide, by decide⟩ hl hk
  have w := evS_for (O := { evO P F (d + 3) with st := false }) (t := .name 2 false) (b := .cons (.asg (.name 1 false) (.call r (.cons (.var 1) (.cons (.var 2) .nil)) .nil [0, 1])) .nil) (evI_var (i := 0) (env := [some v, some (fr (0, 1)), none]) (h := h) rfl hv) (dtyL_off rfl _)
  rw [e] at w
  simp only [fr] at w
  have l2 : Nat.ble 2 line = true := rfl
  simp only [dESum, evSs]
  simp only [evS, evE, evEs, Out.bind, l2, outS, evT, setO, shutS, startE, List.map_cons, List.map_nil, List.length_cons, List.length_nil, List.replicate, Nat.reduceSub, Nat.reduceAdd, List.cons_append, List.nil_append, List.set_cons_succ, List.set_cons_zero, SO.thn] at w ⊢
  rw [w]
  simp only [evSs, evS, evB, evE, evEs, get, Out.bind, outS, shutS, CEs.len, arrange, evT, setO, eq_int, ne_int, lt_int, le_int, gt_int, ge_int, is_non, is_int, is_lst, is_tup, isnt_non, isnt_int, isnt_lst, isnt_tup, boolO, truV, resO, toSO, SO.thn, endO, killOf, List.getElem?_cons_zero, List.getElem?_cons_succ, List.set_cons_zero, List.set_cons_succ, List.replicate, Nat.beq, List.length_cons, List.length_nil, List.map_cons, List.map_nil, List.append_nil, List.cons_append, List.nil_append, decide_true, decide_false, startE, trim_same, CEs.len, Nat.reduceSub, Nat.reduceAdd, fr, qsum]
/-! comprehensions -/
theorem iterMap_map {gs : List (Nat × List PV)} {h : Hea} {step : PV → Hea → Out (Option PV)} {β : Type} {enc : β → PV} {out : β → PV} (hg : gsB gs h = true) : ∀ {l : List β}, (∀ x ∈ l, step (enc x) h = .ok (some (out x)) h) → iterMap gs step (l.map enc) h = .ok (l.map out) h
  | [], _ => by simp only [List.map_nil, iterMap, hg]
  | x :: l, hs => by
    have e := hs x (List.mem_cons_self ..)
    have z := iterMap_map (gs := gs) (h := h) (step := step) (enc := enc) (out := out) hg (l := l) fun y hy => hs y (List.mem_cons_of_mem _ hy)
    simp only [List.map_cons, iterMap, hg, e, z]
    rfl
theorem new_lst {xs : List PV} {h : Hea} (l : xs.length ≤ line) : newO true xs h = .ok (.lst xs) h := by
  unfold newO
  rw [Nat.ble_eq_true_of_le l]
theorem comp_ok {O : EO} {elt : CE} {i : Nat} {it : CI} {own : List Nat} {env : Env} {h : Hea} {gs : List (Nat × List PV)} {β : Type} {l : List β} {enc out : β → PV} (hi : evI O it env h = .ok ⟨gs, l.map enc⟩ h) (hg : gsB gs h = true) (hl : l.length ≤ line)
    (he : ∀ x ∈ l, evE O elt ((wipe env own).set i (some (enc x))) h = .ok (out x) h) (hd : ∀ x ∈ l, O.dty (out x) = false) : evE O (.comp true elt (.name i false) it .nil own) env h = .ok (.lst (l.map out)) h := by
  have z := iterMap_map (gs := gs) (h := h) (enc := enc) (out := out) (l := l) (step := fun x h2 => (evT O (.name i false) x (wipe env own) h2).shut fun env2 h3 => (evAll O .nil env2 h3).shut fun t h4 => (match t with
      | true => (evE O elt env2 h4).shut fun v h5 => (match O.dty v with
        | false => .ok (some v) h5
        | true => .bad)
      | false => .ok none h4)) hg fun x hx => by
    simp only [evT, setO, Out.shut, evAll, he x hx, hd x hx]
  simp only [evE, hi, Out.bind]
  rw [show Nat.ble (List.map enc l).length line = true from Nat.ble_eq_true_of_le (by rw [List.length_map]; exact hl)]
  exact (congrArg (fun o => Out.shut o fun vs h2 => newO true vs h2) z).trans (new_lst (by rw [List.length_map]; exact hl))
/-- any target, no test -/
theorem comp_tg {O : EO} {elt : CE} {tg : CT} {it : CI} {own : List Nat} {env : Env} {h : Hea} {gs : List (Nat × List PV)} {β : Type} {l : List β} {enc out : β → PV} {env' : β → Env} (hi : evI O it env h = .ok ⟨gs, l.map enc⟩ h) (hg : gsB gs h = true) (hl : l.length ≤ line)
    (ht : ∀ x ∈ l, evT O tg (enc x) (wipe env own) h = .ok (env' x) h) (he : ∀ x ∈ l, evE O elt (env' x) h = .ok (out x) h) (hd : ∀ x ∈ l, O.dty (out x) = false) : evE O (.comp true elt tg it .nil own) env h = .ok (.lst (l.map out)) h := by
  have z := iterMap_map (gs := gs) (h := h) (enc := enc) (out := out) (l := l) (step := fun x h2 => (evT O tg x (wipe env own) h2).shut fun env2 h3 => (evAll O .nil env2 h3).shut fun t h4 => (match t with
      | true => (evE O elt env2 h4).shut fun v h5 => (match O.dty v with
        | false => .ok (some v) h5
        | true => .bad)
      | false => .ok none h4)) hg fun x hx => by
    simp only [ht x hx, Out.shut, evAll, he x hx, hd x hx]
  simp only [evE, hi, Out.bind]
  rw [show Nat.ble (List.map enc l).length line = true from Nat.ble_eq_true_of_le (by rw [List.length_map]; exact hl)]
  exact (congrArg (fun o => Out.shut o fun vs h2 => newO true vs h2) z).trans (new_lst (by rw [List.length_map]; exact hl))
theorem zipped_map {α : Type} {f g : α → PV} : ∀ l : List α, zipped (l.map f) (l.map g) = l.map fun x => .tup [f x, g x]
  | [] => rfl
  | a :: l => by simp only [List.map_cons, zipped, zipped_map l]
/-- zip of two trees -/
theorem evI_zip {O : EO} {i j : Nat} {env : Env} {h : Hea} {v w : PV} {s u : Bool} {xs ys zs us : List PV} (os : O.st = false) (e1 : get env i = some v) (e2 : get env j = some w) (s1 : seqOf h v = some (s, zs)) (s2 : seqOf h w = some (u, us)) (i1 : itsOf h v = some ⟨[], xs⟩) (i2 : itsOf h w = some ⟨[], ys⟩) :
    evI O (.zip (.var i) (.var j)) env h = .ok ⟨[], zipped xs ys⟩ h := by
  simp only [evI, evE, e1, e2, Out.bind, zipE, s1, s2, i1, i2, dtyL_off os, and_self, if_true, List.append_nil]
/-- a tuple or a list -/
def sq (b : Bool) (xs : List PV) : PV := match b with
  | true => .tup xs
  | false => .lst xs
theorem seqOf_sq {h : Hea} {b : Bool} {xs : List PV} : seqOf h (sq b xs) = some (b, xs) := by cases b <;> rfl
theorem itsOf_sq {h : Hea} {b : Bool} {xs : List PV} : itsOf h (sq b xs) = some ⟨[], xs⟩ := by cases b <;> rfl
theorem isKds_sq {h : Hea} {b : Bool} {xs : List PV} : isKds h (sq b xs) [.list, .tuple] = some true := by cases b <;> rfl
theorem len_sq {h : Hea} {b : Bool} {xs : List PV} : biV .len h [sq b xs] = some (.val (.int xs.length)) := by simp only [biV, seqOf_sq]
theorem gs0 {h : Hea} : gsB [] h = true := rfl
/-! small looks -/
def dIsList : Def := ⟨1, 1, false, false, (.cons (.ret (.isi (.var 0) [.list, .tuple])) .nil)⟩
def dIsWhole : Def := ⟨1, 1, false, false, (.cons (.ret (.and (.isi (.var 0) [.int]) (.not (.isi (.var 0) [.bool])))) .nil)⟩
def dIsRow (l : Nat) : Def := ⟨2, 2, false, false, (.cons (.ret (.and (.call l (.cons (.var 0) .nil) .nil [0]) (.cmp .eq (.bi .len true (.cons (.var 0) .nil)) (.var 1)))) .nil)⟩
def dKeptFr (row whole gcd : Nat) : Def := ⟨1, 1, false, false, (.cons (.ifs (.or (.not (.call row (.cons (.var 0) (.cons (.cst (.int 2)) .nil)) .nil [0, 1])) (.or (.not (.call whole (.cons (.idx (.var 0) (.cst (.int 0))) .nil) .nil [0])) (.not (.call whole (.cons (.idx (.var 0) (.cst (.int 1))) .nil) .nil [0])))) (.cons (.ret (.cst .non)) .nil) .nil) (.cons (.ifs (.or (.cmp .lt (.idx (.var 0) (.cst (.int 1))) (.cst (.int 1))) (.cmp .ne (.call gcd (.cons (.idx (.var 0) (.cst (.int 0))) (.cons (.idx (.var 0) (.cst (.int 1))) .nil)) .nil [0, 1]) (.cst (.int 1)))) (.cons (.ret (.cst .non)) .nil) .nil) (.cons (.ret (.tup (.cons (.idx (.var 0) (.cst (.int 0))) (.cons (.idx (.var 0) (.cst (.int 1))) .nil)))) .nil)))⟩
theorem isList_ok {P : Prog} {f F : Nat} (hf : P.defs[f]? = some dIsList) (b : Bool) (xs : List PV) (d : Nat) (h : Hea) : (evO P F (d + 1)).call f [sq b xs] h = .ok (.bl true) h := by
  rw [call_eq hf rfl rfl]
  simp only [evSs, evS, evB, evE, evEs, get, Out.bind, outS, shutS, CEs.len, arrange, evT, setO, eq_int, ne_int, lt_int, le_int, gt_int, ge_int, is_non, is_int, is_lst, is_tup, isnt_non, isnt_int, isnt_lst, isnt_tup, boolO, truV, resO, toSO, SO.thn, endO, killOf, List.getElem?_cons_zero, List.getElem?_cons_succ, List.set_cons_zero, List.set_cons_succ, List.replicate, Nat.beq, List.length_cons, List.length_nil, List.map_cons, List.map_nil, List.append_nil, List.cons_append, List.nil_append, decide_true, decide_false, startE, trim_same, CEs.len, Nat.reduceSub, Nat.reduceAdd, dIsList, isKds_sq]
theorem isWhole_ok {P : Prog} {f F : Nat} (hf : P.defs[f]? = some dIsWhole) (i : Int) (d : Nat) (h : Hea) : (evO P F (d + 1)).call f [.int i] h = .ok (.bl true) h := by
  rw [call_eq hf rfl rfl]
  have k1 : isKds h (.int i) [.int] = some true := rfl
  have k2 : isKds h (.int i) [.bool] = some false := rfl
  simp only [evSs, evS, evB, evE, evEs, get, Out.bind, outS, shutS, CEs.len, arrange, evT, setO, eq_int, ne_int, lt_int, le_int, gt_int, ge_int, is_non, is_int, is_lst, is_tup, isnt_non, isnt_int, isnt_lst, isnt_tup, boolO, truV, resO, toSO, SO.thn, endO, killOf, List.getElem?_cons_zero, List.getElem?_cons_succ, List.set_cons_zero, List.set_cons_succ, List.replicate, Nat.beq, List.length_cons, List.length_nil, List.map_cons, List.map_nil, List.append_nil, List.cons_append, List.nil_append, decide_true, decide_false, startE, trim_same, CEs.len, Nat.reduceSub, Nat.reduceAdd, dIsWhole, k1, k2, Bool.not_false]
theorem isRow_ok {P : Prog} {f l F : Nat} (hf : P.defs[f]? = some (dIsRow l)) (hl : P.defs[l]? = some dIsList) (b : Bool) (xs : List PV) (n : Int) (d : Nat) (h : Hea) : (evO P F (d + 2)).call f [sq b xs, .int n] h = .ok (.bl ((xs.length : Int) == n)) h := by
  rw [call_eq hf rfl rfl]
  have e := isList_ok (F := F) hl b xs d h
  simp only [evSs, evS, evB, evE, evEs, get, Out.bind, outS, shutS, CEs.len, arrange, evT, setO, eq_int, ne_int, lt_int, le_int, gt_int, ge_int, is_non, is_int, is_lst, is_tup, isnt_non, isnt_int, isnt_lst, isnt_tup, boolO, truV, resO, toSO, SO.thn, endO, killOf, List.getElem?_cons_zero, List.getElem?_cons_succ, List.set_cons_zero, List.set_cons_succ, List.replicate, Nat.beq, List.length_cons, List.length_nil, List.map_cons, List.map_nil, List.append_nil, List.cons_append, List.nil_append, decide_true, decide_false, startE, trim_same, CEs.len, Nat.reduceSub, Nat.reduceAdd, dIsRow, e, len_sq, eq_int]
theorem keptFr_ok {P : Prog} {f row l whole gcd F : Nat} (hf : P.defs[f]? = some (dKeptFr row whole gcd)) (hr : P.defs[row]? = some (dIsRow l)) (hl : P.defs[l]? = some dIsList) (hw : P.defs[whole]? = some dIsWhole) (hg : P.defs[gcd]? = some dGcd) (hF : 20000 ≤ F)
    {q : Fr} {k : Nat} (g : Good q) (s : Sz k q) (hk : k ≤ 8000) (b : Bool) (d : Nat) (h : Hea) : (evO P F (d + 3)).call f [sq b [.int q.1, .int q.2]] h = .ok (fr q) h := by
  rw [call_eq hf rfl rfl]
  have e1 := isRow_ok (F := F) hr hl b [.int q.1, .int q.2] 2 d h
  have e2 := isWhole_ok (F := F) hw q.1 (d + 1) h
  have e3 := isWhole_ok (F := F) hw q.2 (d + 1) h
  have e4 := gcd_ok hg (a := q.1) s.2 (show 2 * k + 1 ≤ F by omega) (d + 1) h
  rw [g.cop] at e4
  have l2 : Nat.ble 2 line = true := rfl
  have p : ¬ q.2 < 1 := by have := g.pos; omega
  have c1 : (((2 : Nat) : Int) == 2) = true := rfl
  have c2 : (!(((1 : Nat) : Int) == 1)) = false := rfl
  simp only [evSs, evS, evB, evE, evEs, get, Out.bind, outS, shutS, CEs.len, arrange, evT, setO, eq_int, ne_int, lt_int, le_int, gt_int, ge_int, is_non, is_int, is_lst, is_tup, isnt_non, isnt_int, isnt_lst, isnt_tup, boolO, truV, resO, toSO, SO.thn, endO, killOf, List.getElem?_cons_zero, List.getElem?_cons_succ, List.set_cons_zero, List.set_cons_succ, List.replicate, Nat.beq, List.length_cons, List.length_nil, List.map_cons, List.map_nil, List.append_nil, List.cons_append, List.nil_append, decide_true, decide_false, startE, trim_same, CEs.len, Nat.reduceSub, Nat.reduceAdd, dKeptFr, e1, e2, e3, e4, seqOf_sq, ix20, ix21, c1, Bool.not_true, Bool.not_false, p, ne_int, c2, l2, fr]
end PC

set_option maxRecDepth 100000
set_option maxHeartbeats 2000000
/-! PQ4: tables. -/
namespace PC
def HT (t : Nat) (h : Hea) : Prop := ∀ o ∈ h, o.hasTok t = false
theorem killH_id {t : Nat} : ∀ {h : Hea}, HT t h → killH t h = h
  | [], _ => rfl
  | o :: h, e => by
    show (if o.hasTok t then HObj.dead else o) :: killH t h = o :: h
    rw [e o (List.mem_cons_self ..), killH_id fun o' ho => e o' (List.mem_cons_of_mem _ ho)]
    rfl
theorem evO_tok (P : Prog) (F d : Nat) : (evO P F d).tok = d := by cases d <;> rfl
/-- no lambdas at all -/
def NT (v : PV) : Prop := ∀ t, v.hasTok t = false
def NTL (l : List PV) : Prop := ∀ t, hasTokL t l = false
theorem NTL.of {l : List PV} (h : ∀ v ∈ l, NT v) : NTL l := fun t => by
  induction l with
  | nil => rfl
  | cons a r ih => show (a.hasTok t || hasTokL t r) = false; rw [h a (List.mem_cons_self ..) t, ih fun v hv => h v (List.mem_cons_of_mem _ hv)]; rfl
theorem NTL.map {α : Type} {l : List α} {f : α → PV} (h : ∀ v ∈ l, NT (f v)) : NTL (l.map f) := .of fun v hv => by
  obtain ⟨a, ha, rfl⟩ := List.mem_map.mp hv
  exact h a ha
theorem NT.sq {b : Bool} {l : List PV} (h : NTL l) : NT (sq b l) := fun t => by cases b <;> exact h t
theorem NT.lst {l : List PV} (h : NTL l) : NT (.lst l) := h
theorem NT.tup {l : List PV} (h : NTL l) : NT (.tup l) := h
theorem NT.int (i : Int) : NT (.int i) := fun _ => rfl
theorem NT.bl (i : Bool) : NT (.bl i) := fun _ => rfl
theorem NT.fr (q : Fr) : NT (fr q) := fun _ => rfl
theorem NT.two (b : Bool) (q : Fr) : NT (PC.sq b [.int q.1, .int q.2]) := .sq fun _ => rfl
theorem killE_id {t : Nat} : ∀ {env : Env}, (∀ o ∈ env, ∀ v, o = some v → v.hasTok t = false) → killE t env = env
  | [], _ => rfl
  | none :: r, h => by
    show none :: killE t r = _
    rw [killE_id fun o ho => h o (List.mem_cons_of_mem _ ho)]
  | some v :: r, h => by
    show (if v.hasTok t then none else some v) :: killE t r = _
    rw [h _ (List.mem_cons_self ..) v rfl, killE_id fun o ho => h o (List.mem_cons_of_mem _ ho)]
    rfl
abbrev LFr := Bool × Fr
def lfr (e : LFr) : PV := sq e.1 [.int e.2.1, .int e.2.2]
abbrev LRow := Bool × List LFr
def lrow (e : LRow) : PV := sq e.1 (e.2.map lfr)
def rowv (l : List Fr) : PV := .lst (l.map fr)
def tabv (t : List (List Fr)) : PV := .lst (t.map rowv)
def rowq (e : LRow) : List Fr := e.2.map (·.2)
theorem shpL_frs {d : Nat} (hd : 1 ≤ d) : ∀ l : List Fr, shpL d (l.map fr) = true
  | [] => by cases d <;> rfl
  | q :: l => by
    obtain ⟨e, rfl⟩ : ∃ e, d = e + 1 := ⟨d - 1, by omega⟩
    have z := shpL_frs (d := e + 1) (by omega) l
    simp only [List.map_cons, shpL, z, Bool.and_true]
    cases e <;> rfl
theorem inSeq_frs : ∀ l : List Fr, inSeq .non (l.map fr) = false
  | [] => rfl
  | q :: l => by
    have z := inSeq_frs l
    unfold inSeq at z ⊢
    simp only [List.map_cons, List.any_cons, z]
    rfl
theorem allB_true {α : Type} : ∀ l : List α, allB (l.map fun _ => PV.bl true) = some (l.map fun _ => true)
  | [] => rfl
  | a :: l => by simp only [List.map_cons, allB, allB_true l]; rfl
theorem all_true {h : Hea} {α : Type} (l : List α) : biV .all h [.lst (l.map fun _ => PV.bl true)] = some (.val (.bl true)) := by
  simp only [biV, seqOf, allB_true, Option.map_some]
  congr 3
  induction l with
  | nil => rfl
  | cons a l ih => simpa using ih
def ktA (il : Nat) : CE := .comp true (.call il (.cons (.var 2) .nil) .nil [0]) (.name 2 false) (.e (.var 0)) .nil [2]
def ktB (kf : Nat) : CE := .comp true (.call kf (.cons (.var 3) .nil) .nil [0]) (.name 3 false) (.e (.var 2)) .nil [3]
def ktC (kf : Nat) : CE := .comp true (ktB kf) (.name 2 false) (.e (.var 0)) .nil [2]
def ktD : CE := .comp true (.and (.cmp .eq (.bi .len true (.cons (.var 2) .nil)) (.bi .len true (.cons (.idx (.var 1) (.cst (.int 0))) .nil))) (.cmp .nin (.cst .non) (.var 2))) (.name 2 false) (.e (.var 1)) .nil [2]
def dKeptTab (il kf : Nat) : Def := ⟨1, 4, true, false, (.cons (.ifs (.or (.not (.call il (.cons (.var 0) .nil) .nil [0])) (.or (.cmp .eq (.bi .len true (.cons (.var 0) .nil)) (.cst (.int 0))) (.not (.bi .all true (.cons (ktA il) .nil))))) (.cons (.ret (.cst .non)) .nil) .nil) (.cons (.asg (.name 1 true) (ktC kf)) (.cons (.ifs (.or (.cmp .eq (.idx (.var 1) (.cst (.int 0))) (.lst true .nil)) (.not (.bi .all true (.cons ktD .nil)))) (.cons (.ret (.cst .non)) .nil) .nil) (.cons (.ret (.var 1)) .nil))))⟩
/-- what keeps a fraction -/
def KfOk (P : Prog) (F f : Nat) : Prop := ∀ {q : Fr} {k : Nat}, Good q → Sz k q → k ≤ 8000 → ∀ (b : Bool) (d : Nat) (h : Hea), (evO P F (d + 3)).call f [sq b [.int q.1, .int q.2]] h = .ok (fr q) h
theorem keptFr_Ok {P : Prog} {f row l whole gcd F : Nat} (hf : P.defs[f]? = some (dKeptFr row whole gcd)) (hr : P.defs[row]? = some (dIsRow l)) (hl : P.defs[l]? = some dIsList) (hw : P.defs[whole]? = some dIsWhole) (hg : P.defs[gcd]? = some dGcd) (hF : 20000 ≤ F) : KfOk P F f :=
  fun g s hk b d h => keptFr_ok hf hr hl hw hg hF g s hk b d h
theorem idx_cons {x : PV} {xs : List PV} : (x :: xs)[(0 : Nat)]? = some x := rfl
theorem ix0 {n : Nat} (h : 0 < n) : ixOf 0 n = some 0 := by
  unfold ixOf
  rw [if_pos (by omega)]
  rfl
theorem keptTab_ok {P : Prog} {f il kf F : Nat} (hf : P.defs[f]? = some (dKeptTab il kf)) (hl : P.defs[il]? = some dIsList) (hk : KfOk P F kf) {b : Bool} {t : List LRow} {k n : Nat} (k8 : k ≤ 8000) (ht : 0 < t.length) (ht2 : t.length ≤ line) (hn : 0 < n) (hn2 : n ≤ line)
    (hr : ∀ r ∈ t, r.2.length = n ∧ GL k (rowq r)) (d : Nat) (h : Hea) (hh : HT (d + 3) h) : (evO P F (d + 4)).call f [sq b (t.map lrow)] h = .ok (tabv (t.map rowq)) h := by
  rw [call_eq hf rfl rfl]
  have ntr : ∀ r ∈ t, NT (lrow r) := fun r _ => .sq (.map fun e _ => .two _ _)
  have ntv : NT (sq b (t.map lrow)) := .sq (.map ntr)
  have nto : NT (tabv (t.map rowq)) := .lst (.map fun r _ => .lst (.map fun q _ => .fr q))
  show endO h (killOf (d + 3) true) (evSs ({ evO P F (d + 3) with st := true } : EO) (dKeptTab il kf).body (startE 4 [sq b (t.map lrow)]) h) = _
  generalize hO : ({ evO P F (d + 3) with st := true } : EO) = O
  have oc : O.call = (evO P F (d + 3)).call := by rw [← hO]
  have ot : O.tok = d + 3 := by rw [← hO]; exact evO_tok ..
  have os : O.st = true := by rw [← hO]
  have dt : ∀ v, NT v → O.dty v = false := fun v hv => by unfold EO.dty; rw [hv, Bool.and_false]
  have tn : ((t.length : Int) == 0) = false := beq_false_of_ne (by omega)
  have tl : ((t.map lrow).length : Int) = t.length := by rw [List.length_map]
  -- all rows are lists
  have c1 : evE O (ktA il) [some (sq b (t.map lrow)), none, none, none] h = .ok (.lst (t.map fun _ => PV.bl true)) h :=
    comp_ok (gs := []) (enc := lrow) (out := fun _ => PV.bl true) (evI_var rfl itsOf_sq) rfl ht2 (fun r hr' => by
      have e := isList_ok (F := F) hl r.1 (r.2.map lfr) (d + 2) h
      have e' : O.call il [lrow r] h = .ok (.bl true) h := by rw [oc]; exact e
      simp only [evSs, evS, evB, evE, evEs, get, Out.bind, outS, shutS, CEs.len, arrange, evT, setO, eq_int, ne_int, lt_int, le_int, gt_int, ge_int, is_non, is_int, is_lst, is_tup, isnt_non, isnt_int, isnt_lst, isnt_tup, boolO, truV, resO, toSO, SO.thn, endO, killOf, List.getElem?_cons_zero, List.getElem?_cons_succ, List.set_cons_zero, List.set_cons_succ, List.replicate, Nat.beq, List.length_cons, List.length_nil, List.map_cons, List.map_nil, List.append_nil, List.cons_append, List.nil_append, decide_true, decide_false, startE, trim_same, CEs.len, Nat.reduceSub, Nat.reduceAdd, wipe, e']) fun r _ => dt _ (.bl true)
  have e0 : O.call il [sq b (t.map lrow)] h = .ok (.bl true) h := by rw [oc]; exact isList_ok (F := F) hl b _ (d + 2) h
  have c2 : evE O (ktC kf) [some (sq b (t.map lrow)), none, none, none] h = .ok (.lst (t.map fun r => rowv (rowq r))) h :=
    comp_ok (gs := []) (enc := lrow) (out := fun r => rowv (rowq r)) (evI_var rfl itsOf_sq) rfl ht2 (fun r hr' => by
      obtain ⟨rn, rg⟩ := hr r hr'
      have e : evE O (ktB kf) [some (sq b (t.map lrow)), none, some (lrow r), none] h = .ok (.lst (r.2.map fun e => fr e.2)) h :=
        comp_ok (gs := []) (enc := lfr) (out := fun e => fr e.2) (evI_var rfl itsOf_sq) rfl (by omega) (fun e he => by
          obtain ⟨g, s⟩ := rg e.2 (List.mem_map_of_mem he)
          have e' : O.call kf [lfr e] h = .ok (fr e.2) h := by rw [oc]; exact hk g s k8 e.1 d h
          simp only [evSs, evS, evB, evE, evEs, get, Out.bind, outS, shutS, CEs.len, arrange, evT, setO, eq_int, ne_int, lt_int, le_int, gt_int, ge_int, is_non, is_int, is_lst, is_tup, isnt_non, isnt_int, isnt_lst, isnt_tup, boolO, truV, resO, toSO, SO.thn, endO, killOf, List.getElem?_cons_zero, List.getElem?_cons_succ, List.set_cons_zero, List.set_cons_succ, List.replicate, Nat.beq, List.length_cons, List.length_nil, List.map_cons, List.map_nil, List.append_nil, List.cons_append, List.nil_append, decide_true, decide_false, startE, trim_same, CEs.len, Nat.reduceSub, Nat.reduceAdd, wipe, e']) fun e _ => dt _ (.fr _)
      have e2 : rowv (rowq r) = .lst (r.2.map fun e => fr e.2) := by unfold rowv rowq; rw [List.map_map]; rfl
      rw [e2]
      exact e) fun r _ => dt _ (.lst (.map fun q _ => .fr q))
  have ev2 : (t.map fun r => rowv (rowq r)) = (t.map rowq).map rowv := by rw [List.map_map]; rfl
  rw [ev2] at c2
  obtain ⟨r0, t', et⟩ : ∃ r0 t', t = r0 :: t' := by
    cases t with
    | nil => simp at ht
    | cons a r => exact ⟨a, r, rfl⟩
  have rl : ∀ r ∈ t, (rowq r).length = n := fun r hr' => by unfold rowq; rw [List.length_map]; exact (hr r hr').1
  have c3 : evE O ktD [some (sq b (t.map lrow)), some (tabv (t.map rowq)), none, none] h = .ok (.lst (t.map fun _ => PV.bl true)) h := by
    have i0 : itsOf h (tabv (t.map rowq)) = some ⟨[], t.map fun r => rowv (rowq r)⟩ := by rw [ev2]; rfl
    refine comp_ok (gs := []) (enc := fun r => rowv (rowq r)) (out := fun _ => PV.bl true) (evI_var rfl i0) rfl ht2 (fun r hr' => ?_) fun r _ => dt _ (.bl true)
    have s0 : seqOf h (tabv (t.map rowq)) = some (false, (t.map rowq).map rowv) := rfl
    have lb : ∀ l : List Fr, biV .len h [rowv l] = some (.val (.int l.length)) := fun l => by simp [biV, rowv, seqOf]
    have ni : cmpV .nin h .non (rowv (rowq r)) = some true := by
      have : rowv (rowq r) = .lst ((rowq r).map fr) := rfl
      rw [this]
      simp only [cmpV, shpL_frs (by decide : 1 ≤ 31), deref, shp, Bool.and_self, if_true, inSeq_frs, Bool.not_false]
    have l0 : ((t.map rowq).map rowv)[0]? = some (rowv (rowq r0)) := by rw [et]; rfl
    have x0 : ixOf 0 ((t.map rowq).map rowv).length = some 0 := ix0 (by simpa using ht)
    have eqn : ((((rowq r).length : Nat) : Int) == (((rowq r0).length : Nat) : Int)) = true := by rw [rl r hr', rl r0 (by rw [et]; simp)]; simp
    simp only [evSs, evS, evB, evE, evEs, get, Out.bind, outS, shutS, CEs.len, arrange, evT, setO, eq_int, ne_int, lt_int, le_int, gt_int, ge_int, is_non, is_int, is_lst, is_tup, isnt_non, isnt_int, isnt_lst, isnt_tup, boolO, truV, resO, toSO, SO.thn, endO, killOf, List.getElem?_cons_zero, List.getElem?_cons_succ, List.set_cons_zero, List.set_cons_succ, List.replicate, Nat.beq, List.length_cons, List.length_nil, List.map_cons, List.map_nil, List.append_nil, List.cons_append, List.nil_append, decide_true, decide_false, startE, trim_same, CEs.len, Nat.reduceSub, Nat.reduceAdd, wipe, lb, s0, x0, l0, eqn, ni]
  have s1 : evS O (.ifs (.or (.not (.call il (.cons (.var 0) .nil) .nil [0])) (.or (.cmp .eq (.bi .len true (.cons (.var 0) .nil)) (.cst (.int 0))) (.not (.bi .all true (.cons (ktA il) .nil))))) (.cons (.ret (.cst .non)) .nil) .nil) [some (sq b (t.map lrow)), none, none, none] h = .nx [some (sq b (t.map lrow)), none, none, none] h := by
    simp only [evSs, evS, evB, evE, evEs, get, Out.bind, outS, shutS, CEs.len, arrange, evT, setO, eq_int, ne_int, lt_int, le_int, gt_int, ge_int, is_non, is_int, is_lst, is_tup, isnt_non, isnt_int, isnt_lst, isnt_tup, boolO, truV, resO, toSO, SO.thn, endO, killOf, List.getElem?_cons_zero, List.getElem?_cons_succ, List.set_cons_zero, List.set_cons_succ, List.replicate, Nat.beq, List.length_cons, List.length_nil, List.map_cons, List.map_nil, List.append_nil, List.cons_append, List.nil_append, decide_true, decide_false, startE, trim_same, CEs.len, Nat.reduceSub, Nat.reduceAdd, e0, c1, len_sq, tl, tn, all_true, Bool.not_true]
  have s2 : evS O (.asg (.name 1 true) (ktC kf)) [some (sq b (t.map lrow)), none, none, none] h = .nx [some (sq b (t.map lrow)), some (tabv (t.map rowq)), none, none] h := by
    have k1 : (O.st && !(PV.hasTok O.tok (.lst ((t.map rowq).map rowv)))) = true := by rw [os, show PV.hasTok O.tok (.lst ((t.map rowq).map rowv)) = false from nto _]; rfl
    have k2 : killE O.tok [some (sq b (t.map lrow)), none, none, none] = [some (sq b (t.map lrow)), none, none, none] := killE_id fun o ho v e => by
      subst e
      have : some v = some (sq b (t.map lrow)) := by simpa using ho
      cases this
      exact ntv _
    have k3 : killH O.tok h = h := by rw [ot]; exact killH_id hh
    simp only [evSs, evS, evB, evE, evEs, get, Out.bind, outS, shutS, CEs.len, arrange, evT, setO, eq_int, ne_int, lt_int, le_int, gt_int, ge_int, is_non, is_int, is_lst, is_tup, isnt_non, isnt_int, isnt_lst, isnt_tup, boolO, truV, resO, toSO, SO.thn, endO, killOf, List.getElem?_cons_zero, List.getElem?_cons_succ, List.set_cons_zero, List.set_cons_succ, List.replicate, Nat.beq, List.length_cons, List.length_nil, List.map_cons, List.map_nil, List.append_nil, List.cons_append, List.nil_append, decide_true, decide_false, startE, trim_same, CEs.len, Nat.reduceSub, Nat.reduceAdd, c2, k1, k2, k3, tabv]
  have s3 : evS O (.ifs (.or (.cmp .eq (.idx (.var 1) (.cst (.int 0))) (.lst true .nil)) (.not (.bi .all true (.cons ktD .nil)))) (.cons (.ret (.cst .non)) .nil) .nil) [some (sq b (t.map lrow)), some (tabv (t.map rowq)), none, none] h = .nx [some (sq b (t.map lrow)), some (tabv (t.map rowq)), none, none] h := by
    have s0 : seqOf h (tabv (t.map rowq)) = some (false, (t.map rowq).map rowv) := rfl
    have l0 : ((t.map rowq).map rowv)[0]? = some (rowv (rowq r0)) := by rw [et]; rfl
    have x0 : ixOf 0 ((t.map rowq).map rowv).length = some 0 := ix0 (by simpa using ht)
    have q0 : cmpV .eq h (rowv (rowq r0)) (.lst []) = some false := by
      have : rowv (rowq r0) = .lst ((rowq r0).map fr) := rfl
      rw [this]
      have l1 := rl r0 (by rw [et]; simp)
      have p0 : peqL ((rowq r0).map fr) [] = false := by
        cases e : rowq r0 with
        | nil => rw [e] at l1; simp at l1; omega
        | cons a l => rfl
      simp only [cmpV, deref, shp, shpL, shpL_frs (by decide : 1 ≤ 31), Bool.and_self, if_true, peq, p0]
    have nl : newO true [] h = .ok (.lst []) h := rfl
    simp only [evSs, evS, evB, evE, evEs, get, Out.bind, outS, shutS, CEs.len, arrange, evT, setO, eq_int, ne_int, lt_int, le_int, gt_int, ge_int, is_non, is_int, is_lst, is_tup, isnt_non, isnt_int, isnt_lst, isnt_tup, boolO, truV, resO, toSO, SO.thn, endO, killOf, List.getElem?_cons_zero, List.getElem?_cons_succ, List.set_cons_zero, List.set_cons_succ, List.replicate, Nat.beq, List.length_cons, List.length_nil, List.map_cons, List.map_nil, List.append_nil, List.cons_append, List.nil_append, decide_true, decide_false, startE, trim_same, CEs.len, Nat.reduceSub, Nat.reduceAdd, s0, x0, l0, nl, q0, c3, all_true, Bool.not_true]
  simp only [dKeptTab, startE, List.map_cons, List.map_nil, List.length_cons, List.length_nil, List.replicate, Nat.reduceSub, Nat.reduceAdd, List.cons_append, List.nil_append, evSs, s1, s2, s3, SO.thn]
  have k4 : killH (d + 3) h = h := killH_id hh
  have nt := nto (d + 3)
  simp only [evSs, evS, evB, evE, evEs, get, Out.bind, outS, shutS, CEs.len, arrange, evT, setO, eq_int, ne_int, lt_int, le_int, gt_int, ge_int, is_non, is_int, is_lst, is_tup, isnt_non, isnt_int, isnt_lst, isnt_tup, boolO, truV, resO, toSO, SO.thn, endO, killOf, List.getElem?_cons_zero, List.getElem?_cons_succ, List.set_cons_zero, List.set_cons_succ, List.replicate, Nat.beq, List.length_cons, List.length_nil, List.map_cons, List.map_nil, List.append_nil, List.cons_append, List.nil_append, decide_true, decide_false, startE, trim_same, CEs.len, Nat.reduceSub, Nat.reduceAdd, nt, k4]
end PC

set_option maxRecDepth 100000
set_option maxHeartbeats 2000000
/-! PQ5: the law's copies and comparisons of trees. -/
namespace PC
mutual
/-- a tree of lists, tuples, numbers, texts (dd: empty dicts, too), not deeper than n -/
def tree (dd : Bool) : Nat → PV → Bool
  | _, .non => true
  | _, .bl _ => true
  | _, .int _ => true
  | _, .str x => x.cps.all (· < 0x110000)
  | n + 1, .tup xs => Nat.ble xs.length line && treeL dd n xs
  | n + 1, .lst xs => Nat.ble xs.length line && treeL dd n xs
  | n + 1, .dct ks vs => dd && Nat.ble 1 n && ks.isEmpty && vs.isEmpty
  | 0, .tup _ => false
  | 0, .lst _ => false
  | 0, .dct _ _ => false
  | _, .ref _ => false
  | _, .fn _ => false
  | _, .clo _ _ _ => false
  | _, .scr _ => false
def treeL (dd : Bool) : Nat → List PV → Bool
  | _, [] => true
  | n, x :: r => tree dd n x && treeL dd n r
end
theorem treeL_mem {dd : Bool} {n : Nat} : ∀ {l : List PV}, treeL dd n l = true → ∀ x ∈ l, tree dd n x = true
  | [], _, x, hx => by simp at hx
  | a :: r, h, x, hx => by
    simp only [treeL, Bool.and_eq_true] at h
    rcases List.mem_cons.mp hx with rfl | z
    · exact h.1
    · exact treeL_mem h.2 x z
def cpA (c : Nat) : CE := .comp true (.call c (.cons (.var 2) .nil) .nil [0]) (.name 2 false) (.e (.var 0)) .nil [2]
def dCopied (c : Nat) : Def := ⟨1, 3, false, false, (.cons (.ifs (.isi (.var 0) [.dict]) (.cons (.ret .stuck) .nil) .nil) (.cons (.asg (.name 1 false) (.ite (.isi (.var 0) [.list, .tuple]) (cpA c) (.var 0))) (.cons (.ret (.ite (.isi (.var 0) [.tuple]) (.bi .tuple true (.cons (.var 1) .nil)) (.var 1))) .nil)))⟩
theorem copied_ok {P : Prog} {f F : Nat} (hf : P.defs[f]? = some (dCopied f)) : ∀ (n : Nat) (v : PV), tree false n v = true → ∀ (d : Nat) (h : Hea), (evO P F (d + n + 1)).call f [v] h = .ok v h := by
  have leaf : ∀ (v : PV) (d : Nat) (h : Hea), isKds h v [.dict] = some false → isKds h v [.list, .tuple] = some false → isKds h v [.tuple] = some false → (evO P F (d + 1)).call f [v] h = .ok v h := fun v d h k1 k2 k3 => by
    rw [call_eq hf rfl rfl]
    simp only [evSs, evS, evB, evE, evEs, get, Out.bind, outS, shutS, CEs.len, arrange, evT, setO, eq_int, ne_int, lt_int, le_int, gt_int, ge_int, is_non, is_int, is_lst, is_tup, isnt_non, isnt_int, isnt_lst, isnt_tup, boolO, truV, resO, toSO, SO.thn, endO, killOf, List.getElem?_cons_zero, List.getElem?_cons_succ, List.set_cons_zero, List.set_cons_succ, List.replicate, Nat.beq, List.length_cons, List.length_nil, List.map_cons, List.map_nil, List.append_nil, List.cons_append, List.nil_append, decide_true, decide_false, startE, trim_same, CEs.len, Nat.reduceSub, Nat.reduceAdd, dCopied, k1, k2, k3]
  have seq : ∀ (n : Nat), (∀ (v : PV), tree false n v = true → ∀ (d : Nat) (h : Hea), (evO P F (d + n + 1)).call f [v] h = .ok v h) → ∀ (b : Bool) (xs : List PV), xs.length ≤ line → treeL false n xs = true → ∀ (d : Nat) (h : Hea), (evO P F (d + (n + 1) + 1)).call f [sq b xs] h = .ok (sq b xs) h := fun n ih b xs hl ht d h => by
    rw [call_eq hf rfl rfl]
    show endO h none (evSs ({ evO P F (d + (n + 1)) with st := false } : EO) (dCopied f).body (startE 3 [sq b xs]) h) = _
    generalize hO : ({ evO P F (d + (n + 1)) with st := false } : EO) = O
    have oc : O.call = (evO P F (d + n + 1)).call := by rw [← hO]; rfl
    have os : O.st = false := by rw [← hO]
    have k1 : isKds h (sq b xs) [.dict] = some false := by cases b <;> rfl
    have c : evE O (cpA f) [some (sq b xs), none, none] h = .ok (.lst (xs.map fun x => x)) h :=
      comp_ok (gs := []) (enc := fun x => x) (out := fun x => x) (evI_var rfl (by rw [itsOf_sq, List.map_id'])) rfl hl (fun x hx => by
        have e := ih x (treeL_mem ht x hx) d h
        rw [← oc] at e
        simp only [evSs, evS, evB, evE, evEs, get, Out.bind, outS, shutS, CEs.len, arrange, evT, setO, eq_int, ne_int, lt_int, le_int, gt_int, ge_int, is_non, is_int, is_lst, is_tup, isnt_non, isnt_int, isnt_lst, isnt_tup, boolO, truV, resO, toSO, SO.thn, endO, killOf, List.getElem?_cons_zero, List.getElem?_cons_succ, List.set_cons_zero, List.set_cons_succ, List.replicate, Nat.beq, List.length_cons, List.length_nil, List.map_cons, List.map_nil, List.append_nil, List.cons_append, List.nil_append, decide_true, decide_false, startE, trim_same, CEs.len, Nat.reduceSub, Nat.reduceAdd, wipe, e]) fun x _ => dty_off os _
    rw [List.map_id'] at c
    cases b with
    | true =>
      have k3 : isKds h (sq true xs) [.tuple] = some true := rfl
      have t : biV .tuple h [.lst xs] = some (.val (.tup xs)) := rfl
      simp only [evSs, evS, evB, evE, evEs, get, Out.bind, outS, shutS, CEs.len, arrange, evT, setO, eq_int, ne_int, lt_int, le_int, gt_int, ge_int, is_non, is_int, is_lst, is_tup, isnt_non, isnt_int, isnt_lst, isnt_tup, boolO, truV, resO, toSO, SO.thn, endO, killOf, List.getElem?_cons_zero, List.getElem?_cons_succ, List.set_cons_zero, List.set_cons_succ, List.replicate, Nat.beq, List.length_cons, List.length_nil, List.map_cons, List.map_nil, List.append_nil, List.cons_append, List.nil_append, decide_true, decide_false, startE, trim_same, CEs.len, Nat.reduceSub, Nat.reduceAdd, dCopied, k1, isKds_sq, c, k3, t]
      rfl
    | false =>
      have k3 : isKds h (sq false xs) [.tuple] = some false := rfl
      simp only [evSs, evS, evB, evE, evEs, get, Out.bind, outS, shutS, CEs.len, arrange, evT, setO, eq_int, ne_int, lt_int, le_int, gt_int, ge_int, is_non, is_int, is_lst, is_tup, isnt_non, isnt_int, isnt_lst, isnt_tup, boolO, truV, resO, toSO, SO.thn, endO, killOf, List.getElem?_cons_zero, List.getElem?_cons_succ, List.set_cons_zero, List.set_cons_succ, List.replicate, Nat.beq, List.length_cons, List.length_nil, List.map_cons, List.map_nil, List.append_nil, List.cons_append, List.nil_append, decide_true, decide_false, startE, trim_same, CEs.len, Nat.reduceSub, Nat.reduceAdd, dCopied, k1, isKds_sq, c, k3]
      rfl
  intro n
  induction n with
  | zero =>
    intro v ht d h
    cases v with
    | non => exact leaf _ d h rfl rfl rfl
    | bl b => exact leaf _ d h rfl rfl rfl
    | int i => exact leaf _ d h rfl rfl rfl
    | str x => exact leaf _ d h rfl rfl rfl
    | _ => simp [tree] at ht
  | succ n ih =>
    intro v ht d h
    cases v with
    | non => exact leaf _ (d + (n + 1)) h rfl rfl rfl
    | bl b => exact leaf _ (d + (n + 1)) h rfl rfl rfl
    | int i => exact leaf _ (d + (n + 1)) h rfl rfl rfl
    | str x => exact leaf _ (d + (n + 1)) h rfl rfl rfl
    | tup xs =>
      simp only [tree, Bool.and_eq_true] at ht
      exact seq n ih true xs (Nat.le_of_ble_eq_true ht.1) ht.2 d h
    | lst xs =>
      simp only [tree, Bool.and_eq_true] at ht
      exact seq n ih false xs (Nat.le_of_ble_eq_true ht.1) ht.2 d h
    | dct ks vs => simp [tree] at ht
    | _ => simp [tree] at ht
def smA (c : Nat) : CE := .comp true (.call c (.cons (.var 2) (.cons (.var 3) .nil)) .nil [0, 1]) (.tup (.cons (.name 2 false) (.cons (.name 3 false) .nil))) (.zip (.var 0) (.var 1)) .nil [2, 3]
def dSame (c : Nat) : Def := ⟨2, 4, false, false, (.cons (.ifs (.isi (.var 1) [.list, .tuple]) (.cons (.ifs (.or (.cmp .ne (.isi (.var 0) [.list]) (.isi (.var 1) [.list])) (.cmp .ne (.isi (.var 0) [.tuple]) (.isi (.var 1) [.tuple]))) (.cons (.ret (.cst (.bl false))) .nil) .nil) (.cons (.ret (.and (.cmp .eq (.bi .len true (.cons (.var 0) .nil)) (.bi .len true (.cons (.var 1) .nil))) (.bi .all true (.cons (smA c) .nil)))) .nil)) .nil) (.cons (.ifs (.isi (.var 1) [.dict]) (.cons (.ret (.and (.isi (.var 0) [.dict]) (.call c (.cons (.opn .items true (.cons (.var 0) .nil)) (.cons (.opn .items true (.cons (.var 1) .nil)) .nil)) .nil [0, 1]))) .nil) .nil) (.cons (.ifs (.or (.isi (.var 1) [.bool]) (.isi (.var 0) [.bool])) (.cons (.ret (.and (.isi (.var 1) [.bool]) (.and (.isi (.var 0) [.bool]) (.cmp .eq (.var 0) (.var 1))))) .nil) .nil) (.cons (.ifs (.or (.cmp .is_ (.var 1) (.cst .non)) (.cmp .is_ (.var 0) (.cst .non))) (.cons (.ret (.and (.cmp .is_ (.var 1) (.cst .non)) (.cmp .is_ (.var 0) (.cst .non)))) .nil) .nil) (.cons (.ifs (.or (.cmp .ne (.isi (.var 1) [.int]) (.isi (.var 0) [.int])) (.cmp .ne (.isi (.var 1) [.str]) (.isi (.var 0) [.str]))) (.cons (.ret (.cst (.bl false))) .nil) .nil) (.cons (.ret (.and (.not (.isi (.var 0) [.list, .tuple, .dict])) (.cmp .eq (.var 0) (.var 1)))) .nil))))))⟩
theorem ne_bl {h : Hea} {a b : Bool} : cmpV .ne h (.bl a) (.bl b) = some (!(a == b)) := rfl
theorem eq_bl {h : Hea} {a b : Bool} : cmpV .eq h (.bl a) (.bl b) = some (a == b) := rfl
theorem is_bl {h : Hea} {a : Bool} : cmpV .is_ h (.bl a) .non = some false := rfl
theorem is_str {h : Hea} {a : PySem.Str} : cmpV .is_ h (.str a) .non = some false := rfl
theorem same_ok {P : Prog} {f F : Nat} (hf : P.defs[f]? = some (dSame f)) : ∀ (n : Nat) (v : PV), tree true n v = true → ∀ (d : Nat) (h : Hea), (evO P F (d + n + 1)).call f [v, v] h = .ok (.bl true) h := by
  have seq : ∀ (n : Nat), (∀ (v : PV), tree true n v = true → ∀ (d : Nat) (h : Hea), (evO P F (d + n + 1)).call f [v, v] h = .ok (.bl true) h) → ∀ (b : Bool) (xs : List PV), xs.length ≤ line → treeL true n xs = true → ∀ (d : Nat) (h : Hea), (evO P F (d + (n + 1) + 1)).call f [sq b xs, sq b xs] h = .ok (.bl true) h := fun n ih b xs hl ht d h => by
    rw [call_eq hf rfl rfl]
    show endO h none (evSs ({ evO P F (d + (n + 1)) with st := false } : EO) (dSame f).body (startE 4 [sq b xs, sq b xs]) h) = _
    generalize hO : ({ evO P F (d + (n + 1)) with st := false } : EO) = O
    have oc : O.call = (evO P F (d + n + 1)).call := by rw [← hO]; rfl
    have os : O.st = false := by rw [← hO]
    have c : evE O (smA f) [some (sq b xs), some (sq b xs), none, none] h = .ok (.lst (xs.map fun _ => .bl true)) h := by
      have iz := evI_zip (O := O) (i := 0) (j := 1) (env := [some (sq b xs), some (sq b xs), none, none]) (h := h) os rfl rfl seqOf_sq seqOf_sq itsOf_sq itsOf_sq
      have zm : zipped xs xs = xs.map fun x => .tup [x, x] := by
        have := zipped_map (f := fun x => x) (g := fun x => x) xs
        rwa [List.map_id'] at this
      rw [zm] at iz
      refine comp_tg (gs := []) (enc := fun x => .tup [x, x]) (out := fun _ => .bl true) (env' := fun x => [some (sq b xs), some (sq b xs), some x, some x]) iz rfl hl (fun x hx => ?_) (fun x hx => ?_) fun x _ => dty_off os _
      · simp only [evT, dtyL_off os, Bool.not_false, Bool.true_and, CTs.len, List.length_cons, List.length_nil, Nat.beq, evTs, setO, Out.shut, wipe, List.set_cons_zero, List.set_cons_succ]
      · have e := ih x (treeL_mem ht x hx) d h
        rw [← oc] at e
        simp only [evSs, evS, evB, evE, evEs, get, Out.bind, outS, shutS, CEs.len, arrange, evT, setO, eq_int, ne_int, lt_int, le_int, gt_int, ge_int, is_non, is_int, is_lst, is_tup, isnt_non, isnt_int, isnt_lst, isnt_tup, boolO, truV, resO, toSO, SO.thn, endO, killOf, List.getElem?_cons_zero, List.getElem?_cons_succ, List.set_cons_zero, List.set_cons_succ, List.replicate, Nat.beq, List.length_cons, List.length_nil, List.map_cons, List.map_nil, List.append_nil, List.cons_append, List.nil_append, decide_true, decide_false, startE, trim_same, CEs.len, Nat.reduceSub, Nat.reduceAdd, e]
    have r1 : ((xs.length : Int) == xs.length) = true := beq_self_eq_true _
    have kl : ∃ t, isKds h (sq b xs) [.list] = some t := by cases b <;> exact ⟨_, rfl⟩
    have kt : ∃ t, isKds h (sq b xs) [.tuple] = some t := by cases b <;> exact ⟨_, rfl⟩
    obtain ⟨t1, k1⟩ := kl
    obtain ⟨t2, k2⟩ := kt
    have b1 : (!(t1 == t1)) = false := by cases t1 <;> rfl
    have b2 : (!(t2 == t2)) = false := by cases t2 <;> rfl
    simp only [evSs, evS, evB, evE, evEs, get, Out.bind, outS, shutS, CEs.len, arrange, evT, setO, eq_int, ne_int, lt_int, le_int, gt_int, ge_int, is_non, is_int, is_lst, is_tup, isnt_non, isnt_int, isnt_lst, isnt_tup, boolO, truV, resO, toSO, SO.thn, endO, killOf, List.getElem?_cons_zero, List.getElem?_cons_succ, List.set_cons_zero, List.set_cons_succ, List.replicate, Nat.beq, List.length_cons, List.length_nil, List.map_cons, List.map_nil, List.append_nil, List.cons_append, List.nil_append, decide_true, decide_false, startE, trim_same, CEs.len, Nat.reduceSub, Nat.reduceAdd, dSame, isKds_sq, k1, k2, ne_bl, b1, b2, len_sq, r1, c, all_true]
  have leaf : ∀ (v : PV) (d : Nat) (h : Hea) (a1 a2 a3 : Bool), isKds h v [.list, .tuple] = some false → isKds h v [.dict] = some false → isKds h v [.bool] = some a1 → cmpV .is_ h v .non = some a2 → (∃ t, isKds h v [.int] = some t) → (∃ t, isKds h v [.str] = some t) → isKds h v [.list, .tuple, .dict] = some false → cmpV .eq h v v = some true → (evO P F (d + 1)).call f [v, v] h = .ok (.bl true) h := fun v d h a1 a2 a3 k1 k2 k3 k4 ⟨t5, k5⟩ ⟨t6, k6⟩ k7 k8 => by
    rw [call_eq hf rfl rfl]
    have b1 : (!(t5 == t5)) = false := by cases t5 <;> rfl
    have b2 : (!(t6 == t6)) = false := by cases t6 <;> rfl
    cases a1 <;> cases a2 <;> simp only [evSs, evS, evB, evE, evEs, get, Out.bind, outS, shutS, CEs.len, arrange, evT, setO, eq_int, ne_int, lt_int, le_int, gt_int, ge_int, is_non, is_int, is_lst, is_tup, isnt_non, isnt_int, isnt_lst, isnt_tup, boolO, truV, resO, toSO, SO.thn, endO, killOf, List.getElem?_cons_zero, List.getElem?_cons_succ, List.set_cons_zero, List.set_cons_succ, List.replicate, Nat.beq, List.length_cons, List.length_nil, List.map_cons, List.map_nil, List.append_nil, List.cons_append, List.nil_append, decide_true, decide_false, startE, trim_same, CEs.len, Nat.reduceSub, Nat.reduceAdd, dSame, k1, k2, k3, k4, k5, k6, k7, k8, ne_bl, b1, b2, Bool.not_false]
  have lf : ∀ (n : Nat) (v : PV), tree true 0 v = true → ∀ (d : Nat) (h : Hea), (evO P F (d + n + 1)).call f [v, v] h = .ok (.bl true) h := fun n v ht d h => by
    cases v with
    | non => exact leaf _ (d + n) h _ _ false rfl rfl rfl rfl ⟨_, rfl⟩ ⟨_, rfl⟩ rfl rfl
    | bl b => exact leaf _ (d + n) h _ _ false rfl rfl rfl rfl ⟨_, rfl⟩ ⟨_, rfl⟩ rfl (by rw [eq_bl, beq_self_eq_true])
    | int i => exact leaf _ (d + n) h _ _ false rfl rfl rfl rfl ⟨_, rfl⟩ ⟨_, rfl⟩ rfl (by rw [eq_int, beq_self_eq_true])
    | str x => exact leaf _ (d + n) h _ _ false rfl rfl rfl rfl ⟨_, rfl⟩ ⟨_, rfl⟩ rfl (by
        have : shp 32 (.str x) = true := by simpa [tree, shp] using ht
        simp only [cmpV, deref, this, Bool.and_self, if_true, peq, beq_self_eq_true])
    | _ => simp [tree] at ht
  intro n
  induction n with
  | zero => exact fun v ht d h => lf 0 v ht d h
  | succ n ih =>
    intro v ht d h
    cases v with
    | non => exact lf (n + 1) _ rfl d h
    | bl b => exact lf (n + 1) _ rfl d h
    | int i => exact lf (n + 1) _ rfl d h
    | str x => exact lf (n + 1) _ (by simpa [tree] using ht) d h
    | tup xs =>
      simp only [tree, Bool.and_eq_true] at ht
      exact seq n ih true xs (Nat.le_of_ble_eq_true ht.1) ht.2 d h
    | lst xs =>
      simp only [tree, Bool.and_eq_true] at ht
      exact seq n ih false xs (Nat.le_of_ble_eq_true ht.1) ht.2 d h
    | dct ks vs =>
      simp only [tree, Bool.true_and, Bool.and_eq_true, List.isEmpty_iff] at ht
      obtain ⟨⟨n1', rfl⟩, rfl⟩ := ht
      rw [call_eq hf rfl rfl]
      have k1 : isKds h (.dct [] []) [.list, .tuple] = some false := rfl
      have k2 : isKds h (.dct [] []) [.dict] = some true := rfl
      have o1 : opV .items h [.dct [] []] = some (.new []) := rfl
      have n1 : newO true [] h = .ok (.lst []) h := rfl
      have e : (evO P F (d + (n + 1))).call f [.lst [], .lst []] h = .ok (.bl true) h := by
        cases n with
        | zero => simp [Nat.ble] at n1'
        | succ n => exact ih (.lst []) rfl d h
      simp only [evSs, evS, evB, evE, evEs, get, Out.bind, outS, shutS, CEs.len, arrange, evT, setO, eq_int, ne_int, lt_int, le_int, gt_int, ge_int, is_non, is_int, is_lst, is_tup, isnt_non, isnt_int, isnt_lst, isnt_tup, boolO, truV, resO, toSO, SO.thn, endO, killOf, List.getElem?_cons_zero, List.getElem?_cons_succ, List.set_cons_zero, List.set_cons_succ, List.replicate, Nat.beq, List.length_cons, List.length_nil, List.map_cons, List.map_nil, List.append_nil, List.cons_append, List.nil_append, decide_true, decide_false, startE, trim_same, CEs.len, Nat.reduceSub, Nat.reduceAdd, dSame, k1, k2, o1, n1, e]
    | _ => simp [tree] at ht
end PC

set_option maxRecDepth 100000
set_option maxHeartbeats 2000000
/-! PQ6: picks, loosened trees. -/
namespace PC
theorem Stm.Ok.mono {s : Stm} {n m : Int} (h : s.Ok n) (l : n ≤ m) : s.Ok m := ⟨h.c, h.k, Int.le_trans h.kn l, h.m, h.m2, h.len⟩
theorem hp_len {s s' : Stm} {rest : Hea} : (s.hp ++ rest).length = (s'.hp ++ rest).length := by simp [Stm.hp]
def dPick (dr : Nat) : Def := ⟨2, 2, false, false, (.cons (.ret (.idx (.var 1) (.call dr (.cons (.var 0) (.cons (.bi .len true (.cons (.var 1) .nil)) .nil)) .nil [0, 1]))) .nil)⟩
theorem pick_ok {P : Prog} {f dr F : Nat} (hf : P.defs[f]? = some (dPick dr)) (hd : P.defs[dr]? = some dDraw) (hF : 16777217 ≤ F) {s : Stm} {n : Int} (hs : s.Ok n) (hn : n < 1099511627776) {b : Bool} {xs : List PV} (hx : 0 < xs.length) (hl : xs.length < 1099511627776) :
    ∃ x ∈ xs, ∃ s' : Stm, s'.Ok (n + 1) ∧ ∀ rest d, (evO P F (d + 2)).call f [.ref 1, sq b xs] (s.hp ++ rest) = .ok x (s'.hp ++ rest) := by
  obtain ⟨r, s', h1, h2, h3, e⟩ := draw_ok hd hF hs hn (many := xs.length) (by omega) (by omega)
  obtain ⟨k, rfl⟩ : ∃ k : Nat, r = k := ⟨r.toNat, by omega⟩
  have hk : k < xs.length := by omega
  refine ⟨xs[k], List.getElem_mem hk, s', h1, fun rest d => ?_⟩
  rw [call_eq hf rfl rfl]
  have i0 : ixOf (k : Int) xs.length = some k := by
    unfold ixOf
    rw [if_pos ⟨by omega, by omega⟩]
    simp
  have e1 := e rest d
  have q : xs[k]? = some xs[k] := List.getElem?_eq_getElem hk
  simp only [evSs, evS, evB, evE, evEs, get, Out.bind, outS, shutS, CEs.len, arrange, evT, setO, eq_int, ne_int, lt_int, le_int, gt_int, ge_int, is_non, is_int, is_lst, is_tup, isnt_non, isnt_int, isnt_lst, isnt_tup, boolO, truV, resO, toSO, SO.thn, endO, killOf, List.getElem?_cons_zero, List.getElem?_cons_succ, List.set_cons_zero, List.set_cons_succ, List.replicate, Nat.beq, List.length_cons, List.length_nil, List.map_cons, List.map_nil, List.append_nil, List.cons_append, List.nil_append, decide_true, decide_false, startE, trim_same, CEs.len, Nat.reduceSub, Nat.reduceAdd, dPick, len_sq, e1, seqOf_sq, i0, q, trim_len (hp_len (s := s') (s' := s) (rest := rest))]
mutual
def nodes : PV → Nat
  | .tup xs => 1 + nodesL xs
  | .lst xs => 1 + nodesL xs
  | _ => 0
def nodesL : List PV → Nat
  | [] => 0
  | x :: r => nodes x + nodesL r
end
mutual
/-- the same with lists for tuples and the other way about -/
inductive Lk : PV → PV → Prop
  | leaf {v : PV} (h : isKds [] v [.list, .tuple] = some false) : Lk v v
  | seq (b c : Bool) {xs ys : List PV} (h : LkL xs ys) : Lk (sq b xs) (sq c ys)
inductive LkL : List PV → List PV → Prop
  | nil : LkL [] []
  | cons {x y : PV} {xs ys : List PV} (h : Lk x y) (r : LkL xs ys) : LkL (x :: xs) (y :: ys)
end
def lsA (c : Nat) : CE := .comp true (.call c (.cons (.var 0) (.cons (.var 3) .nil)) .nil [0, 1]) (.name 3 false) (.e (.var 1)) .nil [3]
def dLoose (c dr : Nat) : Def := ⟨2, 4, false, false, (.cons (.ifs (.not (.isi (.var 1) [.list, .tuple])) (.cons (.ret (.var 1)) .nil) .nil) (.cons (.asg (.name 2 false) (lsA c)) (.cons (.ret (.ite (.cmp .eq (.call dr (.cons (.var 0) (.cons (.cst (.int 2)) .nil)) .nil [0, 1]) (.cst (.int 0))) (.bi .tuple true (.cons (.var 2) .nil)) (.var 2))) .nil)))⟩
theorem LkL.len : ∀ {xs ys : List PV}, LkL xs ys → ys.length = xs.length
  | _, _, .nil => rfl
  | _, _, .cons _ r => by simp [r.len]
theorem loose_ok {P : Prog} {f dr F : Nat} (hf : P.defs[f]? = some (dLoose f dr)) (hd : P.defs[dr]? = some dDraw) (hF : 16777217 ≤ F) : ∀ (n : Nat) (v : PV), tree false n v = true → ∀ (d : Nat) (rest : Hea) (s : Stm) (c : Int), s.Ok c → c + nodes v < 1099511627776 →
    ∃ (v' : PV) (s' : Stm), Lk v v' ∧ s'.Ok (c + nodes v) ∧ (evO P F (d + n + 1)).call f [.ref 1, v] (s.hp ++ rest) = .ok v' (s'.hp ++ rest) := by
  have leaf : ∀ (v : PV) (d : Nat) (rest : Hea) (s : Stm) (c : Int), isKds [] v [.list, .tuple] = some false → (∀ h, isKds h v [.list, .tuple] = some false) → nodes v = 0 → s.Ok c → ∃ (v' : PV) (s' : Stm), Lk v v' ∧ s'.Ok (c + nodes v) ∧ (evO P F (d + 1)).call f [.ref 1, v] (s.hp ++ rest) = .ok v' (s'.hp ++ rest) := fun v d rest s c k0 k1 k2 hs => by
    refine ⟨v, s, .leaf k0, by rw [k2]; simpa using hs, ?_⟩
    rw [call_eq hf rfl rfl]
    simp only [evSs, evS, evB, evE, evEs, get, Out.bind, outS, shutS, CEs.len, arrange, evT, setO, eq_int, ne_int, lt_int, le_int, gt_int, ge_int, is_non, is_int, is_lst, is_tup, isnt_non, isnt_int, isnt_lst, isnt_tup, boolO, truV, resO, toSO, SO.thn, endO, killOf, List.getElem?_cons_zero, List.getElem?_cons_succ, List.set_cons_zero, List.set_cons_succ, List.replicate, Nat.beq, List.length_cons, List.length_nil, List.map_cons, List.map_nil, List.append_nil, List.cons_append, List.nil_append, decide_true, decide_false, startE, trim_same, CEs.len, Nat.reduceSub, Nat.reduceAdd, dLoose, k1, Bool.not_false]
  have seq : ∀ (n : Nat), (∀ (v : PV), tree false n v = true → ∀ (d : Nat) (rest : Hea) (s : Stm) (c : Int), s.Ok c → c + nodes v < 1099511627776 → ∃ (v' : PV) (s' : Stm), Lk v v' ∧ s'.Ok (c + nodes v) ∧ (evO P F (d + n + 1)).call f [.ref 1, v] (s.hp ++ rest) = .ok v' (s'.hp ++ rest)) →
      ∀ (b : Bool) (xs : List PV), xs.length ≤ line → treeL false n xs = true → ∀ (d : Nat) (rest : Hea) (s : Stm) (c : Int), s.Ok c → c + (1 + nodesL xs) < 1099511627776 →
      ∃ (v' : PV) (s' : Stm), Lk (sq b xs) v' ∧ s'.Ok (c + (1 + nodesL xs)) ∧ (evO P F (d + (n + 1) + 1)).call f [.ref 1, sq b xs] (s.hp ++ rest) = .ok v' (s'.hp ++ rest) := fun n ih b xs hl ht d rest s c hs hc => by
    have hit : ∀ (O : EO), O.call = (evO P F (d + n + 1)).call → O.st = false → ∀ (l : List PV), treeL false n l = true → ∀ (s : Stm) (c : Int), s.Ok c → c + nodesL l < 1099511627776 →
        ∃ (ys : List PV) (s' : Stm), LkL l ys ∧ s'.Ok (c + nodesL l) ∧ iterMap [] (fun x h2 => (evT O (.name 3 false) x (wipe [some (.ref 1), some (sq b xs), none, none] [3]) h2).shut fun env2 h3 => (evAll O .nil env2 h3).shut fun t h4 => (match t with
          | true => (evE O (.call f (.cons (.var 0) (.cons (.var 3) .nil)) .nil [0, 1]) env2 h4).shut fun v h5 => (match O.dty v with
            | false => .ok (some v) h5
            | true => .bad)
          | false => .ok none h4)) l (s.hp ++ rest) = .ok ys (s'.hp ++ rest) := fun O oc os l => by
      induction l with
      | nil => exact fun _ s c hs _ => ⟨[], s, .nil, by simpa [nodesL] using hs, by simp only [iterMap, gs0]⟩
      | cons x l ihl =>
        intro hx s c hs hc
        simp only [treeL, Bool.and_eq_true] at hx
        simp only [nodesL] at hc ⊢
        obtain ⟨y, s1, k1, o1, e1⟩ := ih x hx.1 d rest s c hs (by omega)
        obtain ⟨ys, s2, k2, o2, e2⟩ := ihl hx.2 s1 (c + nodes x) o1 (by omega)
        refine ⟨y :: ys, s2, .cons k1 k2, o2.mono (by omega), ?_⟩
        rw [← oc] at e1
        have step : ((evT O (.name 3 false) x (wipe [some (.ref 1), some (sq b xs), none, none] [3]) (s.hp ++ rest)).shut fun env2 h3 => (evAll O .nil env2 h3).shut fun t h4 => (match t with
          | true => (evE O (.call f (.cons (.var 0) (.cons (.var 3) .nil)) .nil [0, 1]) env2 h4).shut fun v h5 => (match O.dty v with
            | false => .ok (some v) h5
            | true => .bad)
          | false => .ok none h4)) = Out.ok (some y) (s1.hp ++ rest) := by
          simp only [evT, setO, Out.shut, evAll, wipe]
          simp only [evSs, evS, evB, evE, evEs, get, Out.bind, outS, shutS, CEs.len, arrange, evT, setO, eq_int, ne_int, lt_int, le_int, gt_int, ge_int, is_non, is_int, is_lst, is_tup, isnt_non, isnt_int, isnt_lst, isnt_tup, boolO, truV, resO, toSO, SO.thn, endO, killOf, List.getElem?_cons_zero, List.getElem?_cons_succ, List.set_cons_zero, List.set_cons_succ, List.replicate, Nat.beq, List.length_cons, List.length_nil, List.map_cons, List.map_nil, List.append_nil, List.cons_append, List.nil_append, decide_true, decide_false, startE, trim_same, CEs.len, Nat.reduceSub, Nat.reduceAdd, e1, Out.shut, dty_off os]
        simp only [iterMap, gs0]
        simp only [step, e2]
        rfl
    obtain ⟨ys, s1, k1, o1, e1⟩ := hit { evO P F (d + (n + 1)) with st := false } rfl rfl xs ht s c hs (by omega)
    obtain ⟨r, s2, o2, r0, r1, e2⟩ := draw_ok hd hF o1 (by omega) (many := 2) (by decide) (by decide)
    have e3 : (evO P F (d + (n + 1))).call dr [.ref 1, .int 2] (s1.hp ++ rest) = .ok (.int r) (s2.hp ++ rest) := e2 rest (d + n)
    have ln : Nat.ble xs.length line = true := Nat.ble_eq_true_of_le hl
    have nl : newO true ys (s1.hp ++ rest) = .ok (.lst ys) (s1.hp ++ rest) := new_lst (by rw [k1.len]; exact hl)
    have c1 : evE { evO P F (d + (n + 1)) with st := false } (lsA f) [some (.ref 1), some (sq b xs), none, none] (s.hp ++ rest) = .ok (.lst ys) (s1.hp ++ rest) := by
      have i0 := evI_var (O := { evO P F (d + (n + 1)) with st := false }) (i := 1) (env := [some (.ref 1), some (sq b xs), none, none]) (h := s.hp ++ rest) rfl itsOf_sq
      simp only [lsA, evE, i0, Out.bind, ln]
      exact (congrArg (fun o => Out.shut o fun vs h2 => newO true vs h2) e1).trans nl
    have tl := trim_len (h := s.hp ++ rest) (h' := s2.hp ++ rest) (v := .tup ys) hp_len
    have tl2 := trim_len (h := s.hp ++ rest) (h' := s2.hp ++ rest) (v := .lst ys) hp_len
    have tb : biV .tuple (s2.hp ++ rest) [.lst ys] = some (.val (.tup ys)) := rfl
    by_cases q : r = 0
    · refine ⟨sq true ys, s2, .seq b true k1, o2.mono (by omega), ?_⟩
      rw [call_eq hf rfl rfl]
      have q1 : (r == 0) = true := by simpa using q
      simp only [evSs, evS, evB, evE, evEs, get, Out.bind, outS, shutS, CEs.len, arrange, evT, setO, eq_int, ne_int, lt_int, le_int, gt_int, ge_int, is_non, is_int, is_lst, is_tup, isnt_non, isnt_int, isnt_lst, isnt_tup, boolO, truV, resO, toSO, SO.thn, endO, killOf, List.getElem?_cons_zero, List.getElem?_cons_succ, List.set_cons_zero, List.set_cons_succ, List.replicate, Nat.beq, List.length_cons, List.length_nil, List.map_cons, List.map_nil, List.append_nil, List.cons_append, List.nil_append, decide_true, decide_false, startE, trim_same, CEs.len, Nat.reduceSub, Nat.reduceAdd, dLoose, isKds_sq, Bool.not_true, c1, e3, q1, tb, tl]
      rfl
    · refine ⟨sq false ys, s2, .seq b false k1, o2.mono (by omega), ?_⟩
      rw [call_eq hf rfl rfl]
      have q1 : (r == 0) = false := by simpa using q
      simp only [evSs, evS, evB, evE, evEs, get, Out.bind, outS, shutS, CEs.len, arrange, evT, setO, eq_int, ne_int, lt_int, le_int, gt_int, ge_int, is_non, is_int, is_lst, is_tup, isnt_non, isnt_int, isnt_lst, isnt_tup, boolO, truV, resO, toSO, SO.thn, endO, killOf, List.getElem?_cons_zero, List.getElem?_cons_succ, List.set_cons_zero, List.set_cons_succ, List.replicate, Nat.beq, List.length_cons, List.length_nil, List.map_cons, List.map_nil, List.append_nil, List.cons_append, List.nil_append, decide_true, decide_false, startE, trim_same, CEs.len, Nat.reduceSub, Nat.reduceAdd, dLoose, isKds_sq, Bool.not_true, c1, e3, q1, tl2]
      rfl
  intro n
  induction n with
  | zero =>
    intro v ht d rest s c hs hc
    cases v with
    | non => exact leaf _ d rest s c rfl (fun _ => rfl) rfl hs
    | bl b => exact leaf _ d rest s c rfl (fun _ => rfl) rfl hs
    | int i => exact leaf _ d rest s c rfl (fun _ => rfl) rfl hs
    | str x => exact leaf _ d rest s c rfl (fun _ => rfl) rfl hs
    | _ => simp [tree] at ht
  | succ n ih =>
    intro v ht d rest s c hs hc
    cases v with
    | non => exact leaf _ (d + (n + 1)) rest s c rfl (fun _ => rfl) rfl hs
    | bl b => exact leaf _ (d + (n + 1)) rest s c rfl (fun _ => rfl) rfl hs
    | int i => exact leaf _ (d + (n + 1)) rest s c rfl (fun _ => rfl) rfl hs
    | str x => exact leaf _ (d + (n + 1)) rest s c rfl (fun _ => rfl) rfl hs
    | tup xs =>
      simp only [tree, Bool.and_eq_true] at ht
      simp only [nodes] at hc ⊢
      have := seq n ih true xs (Nat.le_of_ble_eq_true ht.1) ht.2 d rest s c hs (by omega)
      simpa [sq] using this
    | lst xs =>
      simp only [tree, Bool.and_eq_true] at ht
      simp only [nodes] at hc ⊢
      have := seq n ih false xs (Nat.le_of_ble_eq_true ht.1) ht.2 d rest s c hs (by omega)
      simpa [sq] using this
    | dct ks vs => simp [tree] at ht
    | _ => simp [tree] at ht
end PC

set_option Elab.async false
set_option maxRecDepth 100000
set_option maxHeartbeats 0
namespace PC.K43
open PC
abbrev f_is_list : Nat := 0
abbrev f_is_whole : Nat := 1
abbrev f_is_number : Nat := 2
abbrev f_is_below : Nat := 3
abbrev f_is_row : Nat := 4
abbrev f_common_divisor : Nat := 5
abbrev f_reduced : Nat := 6
abbrev f_plus : Nat := 7
abbrev f_minus : Nat := 8
abbrev f_times : Nat := 9
abbrev f_is_under : Nat := 10
abbrev f_total : Nat := 11
abbrev f_dot : Nat := 12
abbrev f_least : Nat := 13
abbrev f_kept_fraction : Nat := 14
abbrev f_kept_row : Nat := 15
abbrev f_kept_table : Nat := 16
abbrev f_need_table : Nat := 17
abbrev f_kept_sums : Nat := 18
abbrev f_firsts_of : Nat := 19
abbrev f_common_part : Nat := 20
abbrev f_corner_by : Nat := 21
abbrev f_cost_by : Nat := 22
abbrev f_kept_shares : Nat := 23
abbrev f_need_shares : Nat := 24
abbrev f_corners_of : Nat := 25
abbrev f_first_corners : Nat := 26
abbrev f_sums_by : Nat := 27
abbrev f_sums_of : Nat := 28
abbrev f_need_sums : Nat := 29
abbrev f_most_together : Nat := 30
abbrev f_least_together : Nat := 31
abbrev f_need_pair : Nat := 32
abbrev f_first_more : Nat := 33
abbrev f_stepped : Nat := 34
abbrev f_next_filled : Nat := 35
abbrev f_depth_of : Nat := 36
abbrev f_first_gap : Nat := 37
abbrev f_step_towards : Nat := 38
abbrev f_steps_or_corner : Nat := 39
abbrev f_kept_step : Nat := 40
abbrev f_are_steps : Nat := 41
abbrev f_mean_of : Nat := 42
abbrev f_corner_table : Nat := 43
abbrev f__law_stream : Nat := 44
abbrev f__law_draw : Nat := 45
abbrev f__law_pick : Nat := 46
abbrev f__law_same : Nat := 47
abbrev f__law_copied : Nat := 48
abbrev f__law_is_very : Nat := 49
abbrev f__law_share : Nat := 50
abbrev f__law_frac : Nat := 51
abbrev f__law_c_odd_tables : Nat := 52
abbrev f__law_c_shares : Nat := 53
abbrev f__law_met : Nat := 54
abbrev f_law : Nat := 55
abbrev e_BadTable : Nat := 0
abbrev e_BadRow : Nat := 1
abbrev e_BadColumn : Nat := 2
abbrev e_BadOne : Nat := 3
abbrev e_BadOther : Nat := 4
abbrev e_BadShares : Nat := 5
abbrev e_BadRowSums : Nat := 6
abbrev e_BadColumnSums : Nat := 7
abbrev e_BadMany : Nat := 8
def D_is_list : Def := ⟨1, 1, false, false, (.cons (.ret (.isi (.var 0) [.list, .tuple])) .nil)⟩
def D_is_whole : Def := ⟨1, 1, false, false, (.cons (.ret (.and (.isi (.var 0) [.int]) (.not (.isi (.var 0) [.bool])))) .nil)⟩
def D_is_number : Def := ⟨1, 1, false, false, (.cons (.ret (.and (.call f_is_whole (.cons (.var 0) .nil) .nil [0]) (.cmp .ge (.var 0) (.cst (.int 0))))) .nil)⟩
def D_is_below : Def := ⟨2, 2, false, false, (.cons (.ret (.and (.call f_is_number (.cons (.var 0) .nil) .nil [0]) (.cmp .lt (.var 0) (.var 1)))) .nil)⟩
def D_is_row : Def := ⟨2, 2, false, false, (.cons (.ret (.and (.call f_is_list (.cons (.var 0) .nil) .nil [0]) (.cmp .eq (.bi .len true (.cons (.var 0) .nil)) (.var 1)))) .nil)⟩
def D_common_divisor : Def := ⟨2, 2, false, false, (.cons (.par 0 1 (.bi .abs true (.cons (.var 0) .nil)) (.bi .abs true (.cons (.var 1) .nil))) (.cons (.whl (.var 1) (.cons (.par 0 1 (.var 1) (.bin .mod true (.var 0) (.var 1))) .nil)) (.cons (.ret (.var 0)) .nil)))⟩
def D_reduced : Def := ⟨2, 3, false, false, (.cons (.asg (.name 2 false) (.call f_common_divisor (.cons (.var 0) (.cons (.var 1) .nil)) .nil [0, 1])) (.cons (.ifs (.cmp .lt (.var 1) (.cst (.int 0))) (.cons (.asg (.name 2 false) (.neg (.var 2))) .nil) .nil) (.cons (.ret (.tup (.cons (.bin .fdiv true (.var 0) (.var 2)) (.cons (.bin .fdiv true (.var 1) (.var 2)) .nil)))) .nil)))⟩
def D_plus : Def := ⟨2, 2, false, false, (.cons (.ret (.call f_reduced (.cons (.bin .add true (.bin .mul true (.idx (.var 0) (.cst (.int 0))) (.idx (.var 1) (.cst (.int 1)))) (.bin .mul true (.idx (.var 1) (.cst (.int 0))) (.idx (.var 0) (.cst (.int 1))))) (.cons (.bin .mul true (.idx (.var 0) (.cst (.int 1))) (.idx (.var 1) (.cst (.int 1)))) .nil)) .nil [0, 1])) .nil)⟩
def D_minus : Def := ⟨2, 2, false, false, (.cons (.ret (.call f_reduced (.cons (.bin .sub true (.bin .mul true (.idx (.var 0) (.cst (.int 0))) (.idx (.var 1) (.cst (.int 1)))) (.bin .mul true (.idx (.var 1) (.cst (.int 0))) (.idx (.var 0) (.cst (.int 1))))) (.cons (.bin .mul true (.idx (.var 0) (.cst (.int 1))) (.idx (.var 1) (.cst (.int 1)))) .nil)) .nil [0, 1])) .nil)⟩
def D_times : Def := ⟨2, 2, false, false, (.cons (.ret (.call f_reduced (.cons (.bin .mul true (.idx (.var 0) (.cst (.int 0))) (.idx (.var 1) (.cst (.int 0)))) (.cons (.bin .mul true (.idx (.var 0) (.cst (.int 1))) (.idx (.var 1) (.cst (.int 1)))) .nil)) .nil [0, 1])) .nil)⟩
def D_is_under : Def := ⟨2, 2, false, false, (.cons (.ret (.cmp .lt (.bin .mul true (.idx (.var 0) (.cst (.int 0))) (.idx (.var 1) (.cst (.int 1)))) (.bin .mul true (.idx (.var 1) (.cst (.int 0))) (.idx (.var 0) (.cst (.int 1)))))) .nil)⟩
def D_total : Def := ⟨1, 3, false, false, (.cons (.asg (.name 1 false) (.cst (.tup [(.int 0), (.int 1)]))) (.cons (.for_ (.name 2 false) (.e (.var 0)) (.cons (.asg (.name 1 false) (.call f_plus (.cons (.var 1) (.cons (.var 2) .nil)) .nil [0, 1])) .nil)) (.cons (.ret (.var 1)) .nil)))⟩
def D_dot : Def := ⟨2, 4, false, false, (.cons (.ret (.call f_total (.cons (.comp true (.call f_times (.cons (.var 2) (.cons (.var 3) .nil)) .nil [0, 1]) (.tup (.cons (.name 2 false) (.cons (.name 3 false) .nil))) (.zip (.var 0) (.var 1)) .nil [2, 3]) .nil) .nil [0])) .nil)⟩
def D_least : Def := ⟨1, 3, false, false, (.cons (.asg (.name 1 false) (.idx (.var 0) (.cst (.int 0)))) (.cons (.for_ (.name 2 false) (.e (.var 0)) (.cons (.asg (.name 1 false) (.ite (.call f_is_under (.cons (.var 2) (.cons (.var 1) .nil)) .nil [0, 1]) (.var 2) (.var 1))) .nil)) (.cons (.ret (.var 1)) .nil)))⟩
def D_kept_fraction : Def := ⟨1, 1, false, false, (.cons (.ifs (.or (.not (.call f_is_row (.cons (.var 0) (.cons (.cst (.int 2)) .nil)) .nil [0, 1])) (.or (.not (.call f_is_whole (.cons (.idx (.var 0) (.cst (.int 0))) .nil) .nil [0])) (.not (.call f_is_whole (.cons (.idx (.var 0) (.cst (.int 1))) .nil) .nil [0])))) (.cons (.ret (.cst .non)) .nil) .nil) (.cons (.ifs (.or (.cmp .lt (.idx (.var 0) (.cst (.int 1))) (.cst (.int 1))) (.cmp .ne (.call f_common_divisor (.cons (.idx (.var 0) (.cst (.int 0))) (.cons (.idx (.var 0) (.cst (.int 1))) .nil)) .nil [0, 1]) (.cst (.int 1)))) (.cons (.ret (.cst .non)) .nil) .nil) (.cons (.ret (.tup (.cons (.idx (.var 0) (.cst (.int 0))) (.cons (.idx (.var 0) (.cst (.int 1))) .nil)))) .nil)))⟩
def D_kept_row : Def := ⟨1, 3, false, false, (.cons (.ifs (.not (.call f_is_list (.cons (.var 0) .nil) .nil [0])) (.cons (.ret (.cst .non)) .nil) .nil) (.cons (.asg (.name 1 false) (.comp true (.call f_kept_fraction (.cons (.var 2) .nil) .nil [0]) (.name 2 false) (.e (.var 0)) .nil [2])) (.cons (.ret (.ite (.cmp .in_ (.cst .non) (.var 1)) (.cst .non) (.bi .tuple true (.cons (.var 1) .nil)))) .nil)))⟩
def D_kept_table : Def := ⟨1, 4, true, false, (.cons (.ifs (.or (.not (.call f_is_list (.cons (.var 0) .nil) .nil [0])) (.or (.cmp .eq (.bi .len true (.cons (.var 0) .nil)) (.cst (.int 0))) (.not (.bi .all true (.cons (.comp true (.call f_is_list (.cons (.var 2) .nil) .nil [0]) (.name 2 false) (.e (.var 0)) .nil [2]) .nil))))) (.cons (.ret (.cst .non)) .nil) .nil) (.cons (.asg (.name 1 true) (.comp true (.comp true (.call f_kept_fraction (.cons (.var 3) .nil) .nil [0]) (.name 3 false) (.e (.var 2)) .nil [3]) (.name 2 false) (.e (.var 0)) .nil [2])) (.cons (.ifs (.or (.cmp .eq (.idx (.var 1) (.cst (.int 0))) (.lst true .nil)) (.not (.bi .all true (.cons (.comp true (.and (.cmp .eq (.bi .len true (.cons (.var 2) .nil)) (.bi .len true (.cons (.idx (.var 1) (.cst (.int 0))) .nil))) (.cmp .nin (.cst .non) (.var 2))) (.name 2 false) (.e (.var 1)) .nil [2]) .nil)))) (.cons (.ret (.cst .non)) .nil) .nil) (.cons (.ret (.var 1)) .nil))))⟩
def D_need_table : Def := ⟨1, 2, false, false, (.cons (.asg (.name 1 false) (.call f_kept_table (.cons (.var 0) .nil) .nil [0])) (.cons (.ifs (.cmp .is_ (.var 1) (.cst .non)) (.cons (.raise e_BadTable (.var 0)) .nil) .nil) (.cons (.ret (.var 1)) .nil)))⟩
def D_kept_sums : Def := ⟨1, 3, false, false, (.cons (.asg (.name 1 false) (.call f_kept_row (.cons (.var 0) .nil) .nil [0])) (.cons (.ifs (.or (.not (.var 1)) (.bi .any true (.cons (.comp true (.cmp .lt (.idx (.var 2) (.cst (.int 0))) (.cst (.int 0))) (.name 2 false) (.e (.var 1)) .nil [2]) .nil))) (.cons (.ret (.cst .non)) .nil) .nil) (.cons (.ret (.bi .list true (.cons (.var 1) .nil))) .nil)))⟩
def D_firsts_of : Def := ⟨1, 3, false, false, (.cons (.asg (.name 1 false) (.lst false (.cons (.cst (.tup [(.int 0), (.int 1)])) .nil))) (.cons (.for_ (.name 2 false) (.e (.var 0)) (.cons (.expr (.meth .append (.var 1) (.cons (.call f_plus (.cons (.idx (.var 1) (.neg (.cst (.int 1)))) (.cons (.var 2) .nil)) .nil [0, 1]) .nil))) .nil)) (.cons (.ret (.frz (.var 1))) .nil)))⟩
def D_common_part : Def := ⟨2, 4, false, false, (.cons (.asg (.name 2 false) (.ite (.call f_is_under (.cons (.idx (.var 1) (.cst (.int 0))) (.cons (.idx (.var 0) (.cst (.int 0))) .nil)) .nil [0, 1]) (.idx (.var 0) (.cst (.int 0))) (.idx (.var 1) (.cst (.int 0))))) (.cons (.asg (.name 3 false) (.call f_least (.cons (.lst true (.cons (.idx (.var 0) (.cst (.int 1))) (.cons (.idx (.var 1) (.cst (.int 1))) .nil))) .nil) .nil [0])) (.cons (.ret (.ite (.call f_is_under (.cons (.var 2) (.cons (.var 3) .nil)) .nil [0, 1]) (.call f_minus (.cons (.var 3) (.cons (.var 2) .nil)) .nil [0, 1]) (.cst (.tup [(.int 0), (.int 1)])))) .nil)))⟩
def D_corner_by : Def := ⟨2, 7, true, false, (.cons (.par 2 3 (.call f_firsts_of (.cons (.var 0) .nil) .nil [0]) (.call f_firsts_of (.cons (.var 1) .nil) .nil [0])) (.cons (.asg (.name 4 false) (.lst false .nil)) (.cons (.for_ (.name 5 true) (.zip (.var 2) (.slc true (.var 2) (.cst (.int 1)) .nil)) (.cons (.expr (.meth .append (.var 4) (.cons (.comp true (.call f_common_part (.cons (.var 5) (.cons (.var 6) .nil)) .nil [0, 1]) (.name 6 false) (.zip (.var 3) (.slc true (.var 3) (.cst (.int 1)) .nil)) .nil [6]) .nil))) .nil)) (.cons (.ret (.frz (.var 4))) .nil))))⟩
def D_cost_by : Def := ⟨2, 4, false, false, (.cons (.ret (.call f_total (.cons (.comp true (.call f_dot (.cons (.var 2) (.cons (.var 3) .nil)) .nil [0, 1]) (.tup (.cons (.name 2 false) (.cons (.name 3 false) .nil))) (.zip (.var 0) (.var 1)) .nil [2, 3]) .nil) .nil [0])) .nil)⟩
def D_kept_shares : Def := ⟨1, 4, false, false, (.cons (.asg (.name 1 false) (.call f_kept_table (.cons (.var 0) .nil) .nil [0])) (.cons (.ifs (.or (.cmp .is_ (.var 1) (.cst .non)) (.bi .any true (.cons (.comp2 true (.cmp .lt (.idx (.var 3) (.cst (.int 0))) (.cst (.int 0))) (.name 2 false) (.e (.var 1)) .nil (.name 3 false) (.e (.var 2)) .nil [2, 3]) .nil))) (.cons (.ret (.cst .non)) .nil) .nil) (.cons (.ret (.ite (.cmp .eq (.call f_total (.cons (.comp true (.call f_total (.cons (.var 2) .nil) .nil [0]) (.name 2 false) (.e (.var 1)) .nil [2]) .nil) .nil [0]) (.cst (.tup [(.int 1), (.int 1)]))) (.var 1) (.cst .non))) .nil)))⟩
def D_need_shares : Def := ⟨1, 2, false, false, (.cons (.asg (.name 1 false) (.call f_kept_shares (.cons (.var 0) .nil) .nil [0])) (.cons (.ifs (.cmp .is_ (.var 1) (.cst .non)) (.cons (.raise e_BadShares (.var 0)) .nil) .nil) (.cons (.ret (.var 1)) .nil)))⟩
def D_corners_of : Def := ⟨1, 8, false, false, (.cons (.par 1 2 (.lst false .nil) (.bin .mul true (.lst true (.cons (.cst (.tup [(.int 0), (.int 1)])) .nil)) (.bi .len true (.cons (.idx (.var 0) (.cst (.int 0))) .nil)))) (.cons (.for_ (.name 3 false) (.e (.var 0)) (.cons (.par 4 5 (.cst (.tup [(.int 0), (.int 1)])) (.lst false .nil)) (.cons (.for_ (.tup (.cons (.name 6 false) (.cons (.name 7 false) .nil))) (.zip (.var 2) (.var 3)) (.cons (.asg (.name 4 false) (.call f_plus (.cons (.var 4) (.cons (.var 7) .nil)) .nil [0, 1])) (.cons (.expr (.meth .append (.var 5) (.cons (.call f_plus (.cons (.var 6) (.cons (.var 4) .nil)) .nil [0, 1]) .nil))) .nil))) (.cons (.expr (.meth .append (.var 1) (.cons (.var 5) .nil))) (.cons (.asg (.name 2 false) (.var 5)) .nil))))) (.cons (.ret (.frz (.var 1))) .nil)))⟩
def D_first_corners : Def := ⟨1, 1, false, false, (.cons (.ret (.call f_corners_of (.cons (.call f_need_shares (.cons (.var 0) .nil) .nil [0]) .nil) .nil [0])) .nil)⟩
def D_sums_by : Def := ⟨1, 3, false, false, (.cons (.ret (.tup (.cons (.comp true (.call f_total (.cons (.var 1) .nil) .nil [0]) (.name 1 false) (.e (.var 0)) .nil [1]) (.cons (.comp true (.call f_total (.cons (.var 2) .nil) .nil [0]) (.name 2 false) (.zipS (.var 0)) .nil [2]) .nil)))) .nil)⟩
def D_sums_of : Def := ⟨1, 1, false, false, (.cons (.ret (.call f_sums_by (.cons (.call f_need_shares (.cons (.var 0) .nil) .nil [0]) .nil) .nil [0])) .nil)⟩
def D_need_sums : Def := ⟨2, 4, false, false, (.cons (.par 2 3 (.call f_kept_sums (.cons (.var 0) .nil) .nil [0]) (.call f_kept_sums (.cons (.var 1) .nil) .nil [0])) (.cons (.ifs (.or (.cmp .is_ (.var 2) (.cst .non)) (.cmp .ne (.call f_total (.cons (.var 2) .nil) .nil [0]) (.cst (.tup [(.int 1), (.int 1)])))) (.cons (.raise e_BadRowSums (.var 0)) .nil) .nil) (.cons (.ifs (.or (.cmp .is_ (.var 3) (.cst .non)) (.cmp .ne (.call f_total (.cons (.var 3) .nil) .nil [0]) (.cst (.tup [(.int 1), (.int 1)])))) (.cons (.raise e_BadColumnSums (.var 1)) .nil) .nil) (.cons (.ret (.tup (.cons (.var 2) (.cons (.var 3) .nil)))) .nil))))⟩
def D_most_together : Def := ⟨2, 4, false, false, (.cons (.asg (.tup (.cons (.name 2 false) (.cons (.name 3 false) .nil))) (.call f_need_sums (.cons (.var 0) (.cons (.var 1) .nil)) .nil [0, 1])) (.cons (.ret (.call f_corner_by (.cons (.var 2) (.cons (.var 3) .nil)) .nil [0, 1])) .nil))⟩
def D_least_together : Def := ⟨2, 5, false, false, (.cons (.asg (.tup (.cons (.name 2 false) (.cons (.name 3 false) .nil))) (.call f_need_sums (.cons (.var 0) (.cons (.var 1) .nil)) .nil [0, 1])) (.cons (.ret (.comp true (.rev true (.var 4)) (.name 4 false) (.e (.call f_corner_by (.cons (.var 2) (.cons (.rev true (.var 3)) .nil)) .nil [0, 1])) .nil [4])) .nil))⟩
def D_need_pair : Def := ⟨2, 4, false, false, (.cons (.par 2 3 (.call f_kept_shares (.cons (.var 0) .nil) .nil [0]) (.call f_kept_shares (.cons (.var 1) .nil) .nil [0])) (.cons (.ifs (.cmp .is_ (.var 2) (.cst .non)) (.cons (.raise e_BadOne (.var 0)) .nil) .nil) (.cons (.ifs (.or (.cmp .is_ (.var 3) (.cst .non)) (.cmp .ne (.call f_sums_by (.cons (.var 2) .nil) .nil [0]) (.call f_sums_by (.cons (.var 3) .nil) .nil [0]))) (.cons (.raise e_BadOther (.var 1)) .nil) .nil) (.cons (.ret (.tup (.cons (.var 2) (.cons (.var 3) .nil)))) .nil))))⟩
-- first_more: stuck at Call:Name:zip
def D_first_more : Def := ⟨2, 8, false, false, (.cons (.for_ (.tup (.cons (.name 2 false) (.cons (.tup (.cons (.name 3 false) (.cons (.name 4 false) .nil))) .nil))) (.enum .stuck) (.cons (.for_ (.tup (.cons (.name 5 false) (.cons (.tup (.cons (.name 6 false) (.cons (.name 7 false) .nil))) .nil))) (.enum .stuck) (.cons (.ifs (.call f_is_under (.cons (.var 7) (.cons (.var 6) .nil)) .nil [0, 1]) (.cons (.ret (.tup (.cons (.var 2) (.cons (.var 5) .nil)))) .nil) .nil) .nil)) .nil)) (.cons (.ret (.cst .non)) .nil))⟩
def D_stepped : Def := ⟨2, 12, false, false, (.cons (.asg (.tup (.cons (.name 2 false) (.cons (.name 3 false) (.cons (.name 4 false) (.cons (.name 5 false) (.cons (.name 6 false) .nil)))))) (.var 1)) (.cons (.asg (.name 8 false) (.comp false (.bi .list false (.cons (.var 7) .nil)) (.name 7 false) (.e (.var 0)) .nil [7])) (.cons (.for_ (.tup (.cons (.name 7 false) (.cons (.name 9 false) (.cons (.name 10 false) .nil)))) (.e (.tup (.cons (.tup (.cons (.var 2) (.cons (.var 4) (.cons (.cst (.bl true)) .nil)))) (.cons (.tup (.cons (.var 3) (.cons (.var 5) (.cons (.cst (.bl true)) .nil)))) (.cons (.tup (.cons (.var 2) (.cons (.var 5) (.cons (.cst (.bl false)) .nil)))) (.cons (.tup (.cons (.var 3) (.cons (.var 4) (.cons (.cst (.bl false)) .nil)))) .nil)))))) (.cons (.asg (.name 11 false) (.idx (.idx (.var 8) (.var 7)) (.var 9))) (.cons (.asg (.idx (.idx (.var 8) (.var 7)) (.var 9)) (.ite (.var 10) (.call f_plus (.cons (.var 11) (.cons (.var 6) .nil)) .nil [0, 1]) (.call f_minus (.cons (.var 11) (.cons (.var 6) .nil)) .nil [0, 1]))) .nil))) (.cons (.ret (.frz (.var 8))) .nil))))⟩
def D_next_filled : Def := ⟨2, 3, false, false, (.cons (.ret (.idx (.comp true (.var 2) (.name 2 false) (.rng2 (.bin .add true (.var 1) (.cst (.int 1))) (.bi .len true (.cons (.var 0) .nil))) (.cons (.cmp .gt (.idx (.idx (.var 0) (.var 2)) (.cst (.int 0))) (.cst (.int 0))) .nil) [2]) (.cst (.int 0)))) .nil)⟩
def D_depth_of : Def := ⟨3, 7, true, false, (.cons (.asg (.name 3 false) (.lst false .nil)) (.cons (.for_ (.name 4 true) (.e (.var 2)) (.cons (.asg (.name 5 false) (.comp true (.var 6) (.name 6 false) (.rng2 (.bin .add true (.var 1) (.cst (.int 1))) (.bi .len true (.cons (.var 0) .nil))) (.cons (.cmp .eq (.idx (.idx (.idx (.var 0) (.var 6)) (.var 4)) (.cst (.int 0))) (.cst (.int 0))) .nil) [6])) (.cons (.expr (.meth .append (.var 3) (.cons (.tup (.cons (.idx (.var 5) (.cst (.int 0))) (.cons (.var 4) .nil))) .nil))) .nil))) (.cons (.ret (.idx (.bi .sorted true (.cons (.var 3) .nil)) (.cst (.int 0)))) .nil)))⟩
def D_first_gap : Def := ⟨1, 5, false, false, (.cons (.ret (.idx (.comp2 true (.tup (.cons (.var 1) (.cons (.var 3) .nil))) (.tup (.cons (.name 1 false) (.cons (.name 2 false) .nil))) (.enum (.var 0)) .nil (.tup (.cons (.name 3 false) (.cons (.name 4 false) .nil))) (.enum (.var 2)) (.cons (.cmp .gt (.idx (.var 4) (.cst (.int 0))) (.cst (.int 0))) .nil) [1, 2, 3, 4]) (.cst (.int 0)))) .nil)⟩
def D_step_towards : Def := ⟨2, 19, true, false, (.cons (.par 2 3 (.call f_corners_of (.cons (.var 0) .nil) .nil [0]) (.call f_corners_of (.cons (.var 1) .nil) .nil [0])) (.cons (.asg (.name 4 true) (.comp true (.comp true (.call f_minus (.cons (.var 16) (.cons (.var 17) .nil)) .nil [0, 1]) (.tup (.cons (.name 16 false) (.cons (.name 17 false) .nil))) (.zip (.var 14) (.var 15)) .nil [16, 17]) (.tup (.cons (.name 14 false) (.cons (.name 15 false) .nil))) (.zip (.var 3) (.var 2)) .nil [14, 15])) (.cons (.asg (.tup (.cons (.name 5 false) (.cons (.name 6 false) .nil))) (.call f_first_gap (.cons (.var 4) .nil) .nil [0])) (.cons (.asg (.name 7 true) (.call f_next_filled (.cons (.idx (.var 0) (.var 5)) (.cons (.var 6) .nil)) .nil [0, 1])) (.cons (.asg (.tup (.cons (.name 8 true) (.cons (.name 9 false) .nil))) (.call f_depth_of (.cons (.var 4) (.cons (.var 5) (.cons (.opn .lrng2 true (.cons (.var 6) (.cons (.var 7) .nil))) .nil))) .nil [0, 1, 2])) (.cons (.asg (.name 11 false) (.comp true (.var 10) (.name 10 false) (.rng2 (.var 6) (.bin .add true (.var 9) (.cst (.int 1)))) (.cons (.cmp .gt (.idx (.idx (.idx (.var 0) (.var 8)) (.var 10)) (.cst (.int 0))) (.cst (.int 0))) .nil) [10])) (.cons (.whl (.not (.var 11)) (.cons (.asg (.name 12 true) (.bin .sub true (.var 6) (.cst (.int 1)))) (.cons (.asg (.name 5 false) (.idx (.comp true (.var 14) (.name 14 false) (.rng2 (.bin .add true (.var 5) (.cst (.int 1))) (.bi .len true (.cons (.var 4) .nil))) (.cons (.cmp .gt (.idx (.idx (.idx (.var 4) (.var 14)) (.var 12)) (.cst (.int 0))) (.cst (.int 0))) .nil) [14]) (.cst (.int 0)))) (.cons (.asg (.name 6 false) (.var 12)) (.cons (.whl (.and (.cmp .gt (.var 6) (.cst (.int 0))) (.cmp .gt (.idx (.idx (.idx (.var 4) (.var 5)) (.bin .sub true (.var 6) (.cst (.int 1)))) (.cst (.int 0))) (.cst (.int 0)))) (.cons (.asg (.name 6 false) (.bin .sub true (.var 6) (.cst (.int 1)))) .nil)) (.cons (.asg (.name 7 true) (.call f_next_filled (.cons (.idx (.var 0) (.var 5)) (.cons (.var 12) .nil)) .nil [0, 1])) (.cons (.asg (.tup (.cons (.name 8 true) (.cons (.name 9 false) .nil))) (.call f_depth_of (.cons (.var 4) (.cons (.var 5) (.cons (.opn .lrng2 true (.cons (.var 6) (.cons (.var 7) .nil))) .nil))) .nil [0, 1, 2])) (.cons (.asg (.name 11 false) (.comp true (.var 10) (.name 10 false) (.rng2 (.var 6) (.bin .add true (.var 9) (.cst (.int 1)))) (.cons (.cmp .gt (.idx (.idx (.idx (.var 0) (.var 8)) (.var 10)) (.cst (.int 0))) (.cst (.int 0))) .nil) [10])) .nil)))))))) (.cons (.asg (.name 10 true) (.idx (.var 11) (.cst (.int 0)))) (.cons (.asg (.name 13 false) (.comp2 true (.idx (.idx (.var 4) (.var 14)) (.var 18)) (.name 14 false) (.rng2 (.var 5) (.var 8)) .nil (.name 18 false) (.rng2 (.var 10) (.var 7)) .nil [14, 18])) (.cons (.ret (.tup (.cons (.var 5) (.cons (.var 8) (.cons (.var 10) (.cons (.var 7) (.cons (.call f_least (.cons (.lst true (.star (.var 13) (.cons (.idx (.idx (.var 0) (.var 5)) (.var 7)) (.cons (.idx (.idx (.var 0) (.var 8)) (.var 10)) .nil)))) .nil) .nil [0]) .nil))))))) .nil))))))))))⟩
def D_steps_or_corner : Def := ⟨2, 7, false, false, (.cons (.asg (.tup (.cons (.name 2 false) (.cons (.name 3 false) .nil))) (.call f_need_pair (.cons (.var 0) (.cons (.var 1) .nil)) .nil [0, 1])) (.cons (.asg (.name 4 false) (.call f_first_more (.cons (.var 2) (.cons (.var 3) .nil)) .nil [0, 1])) (.cons (.ifs (.cmp .isnt (.var 4) (.cst .non)) (.cons (.ret (.tup (.cons (.cst (.str ⟨#[99, 111, 114, 110, 101, 114]⟩)) (.cons (.idx (.var 4) (.cst (.int 0))) (.cons (.idx (.var 4) (.cst (.int 1))) .nil))))) .nil) .nil) (.cons (.asg (.name 5 false) (.lst false .nil)) (.cons (.whl (.cmp .ne (.var 2) (.var 3)) (.cons (.asg (.name 6 false) (.call f_step_towards (.cons (.var 2) (.cons (.var 3) .nil)) .nil [0, 1])) (.cons (.expr (.meth .append (.var 5) (.cons (.var 6) .nil))) (.cons (.asg (.name 2 false) (.call f_stepped (.cons (.var 2) (.cons (.var 6) .nil)) .nil [0, 1])) .nil)))) (.cons (.ret (.tup (.cons (.cst (.str ⟨#[115, 116, 101, 112, 115]⟩)) (.cons (.var 5) .nil)))) .nil))))))⟩
def D_kept_step : Def := ⟨2, 8, false, false, (.cons (.ifs (.not (.call f_is_row (.cons (.var 1) (.cons (.cst (.int 5)) .nil)) .nil [0, 1])) (.cons (.ret (.cst .non)) .nil) .nil) (.cons (.asg (.tup (.cons (.name 2 false) (.cons (.name 3 false) (.cons (.name 4 false) (.cons (.name 5 false) (.cons (.name 6 false) .nil)))))) (.var 1)) (.cons (.ifs (.or (.not (.call f_is_below (.cons (.var 3) (.cons (.bi .len true (.cons (.var 0) .nil)) .nil)) .nil [0, 1])) (.not (.call f_is_below (.cons (.var 2) (.cons (.var 3) .nil)) .nil [0, 1]))) (.cons (.ret (.cst .non)) .nil) .nil) (.cons (.ifs (.or (.not (.call f_is_below (.cons (.var 5) (.cons (.bi .len true (.cons (.idx (.var 0) (.cst (.int 0))) .nil)) .nil)) .nil [0, 1])) (.not (.call f_is_below (.cons (.var 4) (.cons (.var 5) .nil)) .nil [0, 1]))) (.cons (.ret (.cst .non)) .nil) .nil) (.cons (.asg (.name 7 false) (.call f_kept_fraction (.cons (.var 6) .nil) .nil [0])) (.cons (.ifs (.or (.cmp .is_ (.var 7) (.cst .non)) (.or (.cmp .le (.idx (.var 7) (.cst (.int 0))) (.cst (.int 0))) (.or (.call f_is_under (.cons (.idx (.idx (.var 0) (.var 2)) (.var 5)) (.cons (.var 7) .nil)) .nil [0, 1]) (.call f_is_under (.cons (.idx (.idx (.var 0) (.var 3)) (.var 4)) (.cons (.var 7) .nil)) .nil [0, 1])))) (.cons (.ret (.cst .non)) .nil) .nil) (.cons (.ret (.tup (.cons (.var 2) (.cons (.var 3) (.cons (.var 4) (.cons (.var 5) (.cons (.var 7) .nil))))))) .nil)))))))⟩
def D_are_steps : Def := ⟨3, 7, false, false, (.cons (.asg (.tup (.cons (.name 3 false) (.cons (.name 4 false) .nil))) (.call f_need_pair (.cons (.var 0) (.cons (.var 1) .nil)) .nil [0, 1])) (.cons (.ifs (.not (.call f_is_list (.cons (.var 2) .nil) .nil [0])) (.cons (.ret (.cst (.bl false))) .nil) .nil) (.cons (.for_ (.name 5 false) (.e (.var 2)) (.cons (.asg (.name 6 false) (.call f_kept_step (.cons (.var 3) (.cons (.var 5) .nil)) .nil [0, 1])) (.cons (.ifs (.cmp .is_ (.var 6) (.cst .non)) (.cons (.ret (.cst (.bl false))) .nil) .nil) (.cons (.asg (.name 3 false) (.call f_stepped (.cons (.var 3) (.cons (.var 6) .nil)) .nil [0, 1])) .nil)))) (.cons (.ret (.cmp .eq (.var 3) (.var 4))) .nil))))⟩
def D_mean_of : Def := ⟨2, 4, false, false, (.cons (.asg (.name 2 false) (.call f_need_table (.cons (.var 0) .nil) .nil [0])) (.cons (.asg (.name 3 false) (.call f_need_shares (.cons (.var 1) .nil) .nil [0])) (.cons (.ifs (.or (.cmp .ne (.bi .len true (.cons (.var 3) .nil)) (.bi .len true (.cons (.var 2) .nil))) (.cmp .ne (.bi .len true (.cons (.idx (.var 3) (.cst (.int 0))) .nil)) (.bi .len true (.cons (.idx (.var 2) (.cst (.int 0))) .nil)))) (.cons (.raise e_BadShares (.var 1)) .nil) .nil) (.cons (.ret (.call f_cost_by (.cons (.var 2) (.cons (.var 3) .nil)) .nil [0, 1])) .nil))))⟩
def D_corner_table : Def := ⟨4, 7, true, false, (.cons (.for_ (.name 4 false) (.e (.tup (.cons (.var 0) (.cons (.var 1) .nil)))) (.cons (.ifs (.or (.not (.call f_is_whole (.cons (.var 4) .nil) .nil [0])) (.not (.chain .le .le (.cst (.int 1)) (.var 4) (.cst (.int 4))))) (.cons (.raise e_BadMany (.var 4)) .nil) .nil) .nil)) (.cons (.ifs (.not (.call f_is_below (.cons (.var 2) (.cons (.var 0) .nil)) .nil [0, 1])) (.cons (.raise e_BadRow (.var 2)) .nil) .nil) (.cons (.ifs (.not (.call f_is_below (.cons (.var 3) (.cons (.var 1) .nil)) .nil [0, 1])) (.cons (.raise e_BadColumn (.var 3)) .nil) .nil) (.cons (.ret (.comp true (.comp true (.ite (.and (.cmp .le (.var 5) (.var 2)) (.cmp .le (.var 6) (.var 3))) (.tup (.cons (.neg (.cst (.int 1))) (.cons (.cst (.int 1)) .nil))) (.cst (.tup [(.int 0), (.int 1)]))) (.name 6 false) (.rng1 (.var 1)) .nil [6]) (.name 5 true) (.rng1 (.var 0)) .nil [5])) .nil))))⟩
def D__law_stream : Def := ⟨1, 1, false, false, (.cons (.ret (.lst false (.cons (.bi .list false (.cons (.var 0) .nil)) (.cons (.cst (.int 0)) (.cons (.cst (.int 0)) (.cons (.cst (.int 17)) .nil)))))) .nil)⟩
def D__law_draw : Def := ⟨2, 5, false, false, (.cons (.asg (.idx (.var 0) (.cst (.int 2))) (.bin .add false (.idx (.var 0) (.cst (.int 2))) (.cst (.int 1)))) (.cons (.whl (.and (.cmp .eq (.idx (.var 0) (.cst (.int 1))) (.cst (.int 0))) (.cmp .ne (.idx (.var 0) (.cst (.int 0))) (.lst true .nil))) (.cons (.asg (.name 2 false) (.bi .abs true (.cons (.meth .popAt (.idx (.var 0) (.cst (.int 0))) (.cons (.cst (.int 0)) .nil)) .nil))) (.cons (.asg (.idx (.var 0) (.cst (.int 3))) (.bin .mod false (.bi .int true (.cons (.bin .add true (.bin .add true (.bin .mul true (.idx (.var 0) (.cst (.int 3))) (.cst (.int 8191))) (.var 2)) (.cst (.int 3))) .nil)) (.cst (.int 2147483647)))) (.cons (.asg (.idx (.var 0) (.cst (.int 1))) (.ite (.cmp .ge (.var 2) (.bin .pow true (.cst (.int 10)) (.cst (.int 18)))) (.var 2) (.cst (.int 0)))) .nil)))) (.cons (.ifs (.cmp .gt (.idx (.var 0) (.cst (.int 1))) (.cst (.int 0))) (.cons (.asg (.name 3 false) (.bin .mod true (.bi .int true (.cons (.idx (.var 0) (.cst (.int 1))) .nil)) (.var 1))) (.cons (.asg (.idx (.var 0) (.cst (.int 1))) (.bin .fdiv false (.idx (.var 0) (.cst (.int 1))) (.var 1))) (.cons (.ret (.var 3)) .nil))) .nil) (.cons (.asg (.name 4 false) (.bin .mod true (.bi .int true (.cons (.bin .pow true (.bin .add true (.bin .add true (.idx (.var 0) (.cst (.int 3))) (.bin .mul true (.cst (.int 7919)) (.idx (.var 0) (.cst (.int 2))))) (.cst (.int 104729))) (.cst (.int 5))) .nil)) (.cst (.int 2147483629)))) (.cons (.ret (.bin .mod true (.bin .mod true (.bi .int true (.cons (.bin .pow true (.bin .add true (.bin .add true (.bin .mul true (.var 4) (.cst (.int 48271))) (.bin .mul true (.cst (.int 30011)) (.idx (.var 0) (.cst (.int 2))))) (.cst (.int 29))) (.cst (.int 3))) .nil)) (.cst (.int 1000000007))) (.var 1))) .nil)))))⟩
def D__law_pick : Def := ⟨2, 2, false, false, (.cons (.ret (.idx (.var 1) (.call f__law_draw (.cons (.var 0) (.cons (.bi .len true (.cons (.var 1) .nil)) .nil)) .nil [0, 1]))) .nil)⟩
def D__law_same : Def := ⟨2, 4, false, false, (.cons (.ifs (.isi (.var 1) [.list, .tuple]) (.cons (.ifs (.or (.cmp .ne (.isi (.var 0) [.list]) (.isi (.var 1) [.list])) (.cmp .ne (.isi (.var 0) [.tuple]) (.isi (.var 1) [.tuple]))) (.cons (.ret (.cst (.bl false))) .nil) .nil) (.cons (.ret (.and (.cmp .eq (.bi .len true (.cons (.var 0) .nil)) (.bi .len true (.cons (.var 1) .nil))) (.bi .all true (.cons (.comp true (.call f__law_same (.cons (.var 2) (.cons (.var 3) .nil)) .nil [0, 1]) (.tup (.cons (.name 2 false) (.cons (.name 3 false) .nil))) (.zip (.var 0) (.var 1)) .nil [2, 3]) .nil)))) .nil)) .nil) (.cons (.ifs (.isi (.var 1) [.dict]) (.cons (.ret (.and (.isi (.var 0) [.dict]) (.call f__law_same (.cons (.opn .items true (.cons (.var 0) .nil)) (.cons (.opn .items true (.cons (.var 1) .nil)) .nil)) .nil [0, 1]))) .nil) .nil) (.cons (.ifs (.or (.isi (.var 1) [.bool]) (.isi (.var 0) [.bool])) (.cons (.ret (.and (.isi (.var 1) [.bool]) (.and (.isi (.var 0) [.bool]) (.cmp .eq (.var 0) (.var 1))))) .nil) .nil) (.cons (.ifs (.or (.cmp .is_ (.var 1) (.cst .non)) (.cmp .is_ (.var 0) (.cst .non))) (.cons (.ret (.and (.cmp .is_ (.var 1) (.cst .non)) (.cmp .is_ (.var 0) (.cst .non)))) .nil) .nil) (.cons (.ifs (.or (.cmp .ne (.isi (.var 1) [.int]) (.isi (.var 0) [.int])) (.cmp .ne (.isi (.var 1) [.str]) (.isi (.var 0) [.str]))) (.cons (.ret (.cst (.bl false))) .nil) .nil) (.cons (.ret (.and (.not (.isi (.var 0) [.list, .tuple, .dict])) (.cmp .eq (.var 0) (.var 1)))) .nil))))))⟩
-- _law_copied: stuck at Call:Name:dict
def D__law_copied : Def := ⟨1, 3, false, false, (.cons (.ifs (.isi (.var 0) [.dict]) (.cons (.ret .stuck) .nil) .nil) (.cons (.asg (.name 1 false) (.ite (.isi (.var 0) [.list, .tuple]) (.comp true (.call f__law_copied (.cons (.var 2) .nil) .nil [0]) (.name 2 false) (.e (.var 0)) .nil [2]) (.var 0))) (.cons (.ret (.ite (.isi (.var 0) [.tuple]) (.bi .tuple true (.cons (.var 1) .nil)) (.var 1))) .nil)))⟩
def D__law_is_very : Def := ⟨2, 4, true, false, (.cons (.asg (.name 3 true) (.lst false (.cons (.cst (.str ⟨#[111, 100, 100]⟩)) .nil))) (.cons (.asg (.name 2 false) (.call f__law_met (.cons (.lam 0 [1, 3]) .nil) .nil [0])) (.cons (.expr (.meth .append (.var 3) (.cons (.cst (.str ⟨#[108, 97, 116, 101]⟩)) .nil))) (.cons (.ret (.call f__law_same (.cons (.var 2) (.cons (.tup (.cons (.var 0) (.cons (.var 3) .nil))) .nil)) .nil [0, 1])) .nil))))⟩
def D__law_share : Def := ⟨2, 2, false, false, (.cons (.par 0 1 (.bi .abs true (.cons (.var 0) .nil)) (.bi .abs true (.cons (.var 1) .nil))) (.cons (.whl (.cmp .ne (.var 1) (.cst (.int 0))) (.cons (.par 0 1 (.var 1) (.bin .mod true (.bi .int true (.cons (.var 0) .nil)) (.var 1))) .nil)) (.cons (.ret (.var 0)) .nil)))⟩
def D__law_frac : Def := ⟨2, 4, false, false, (.cons (.asg (.name 2 false) (.call f__law_share (.cons (.var 0) (.cons (.var 1) .nil)) .nil [0, 1])) (.cons (.asg (.name 3 false) (.ite (.cmp .lt (.var 1) (.cst (.int 0))) (.neg (.cst (.int 1))) (.cst (.int 1)))) (.cons (.ret (.tup (.cons (.bin .fdiv true (.bin .mul true (.var 3) (.var 0)) (.var 2)) (.cons (.bin .fdiv true (.bin .mul true (.var 3) (.var 1)) (.var 2)) .nil)))) .nil)))⟩
def D__law_c_odd_tables : Def := ⟨0, 2, false, false, (.cons (.asg (.name 0 false) (.tup (.cons (.cst (.int 0)) (.cons (.cst (.int 1)) .nil)))) (.cons (.asg (.name 1 false) (.lst true (.cons (.cst .non) (.cons (.cst (.int 5)) (.cons (.cst (.str ⟨#[97, 98]⟩)) (.cons (.dict0 true) (.cons (.lst true .nil) (.cons (.lst true (.cons (.lst true .nil) .nil)) (.cons (.lst true (.cons (.cst .non) .nil)) (.cons (.lst true (.cons (.var 0) .nil)) (.cons (.lst true (.cons (.lst true (.cons (.var 0) .nil)) (.cons (.lst true .nil) .nil))) (.cons (.lst true (.cons (.lst true (.cons (.var 0) .nil)) (.cons (.lst true (.cons (.var 0) (.cons (.var 0) .nil))) .nil))) (.cons (.lst true (.cons (.lst true (.cons (.var 0) (.cons (.var 0) .nil))) (.cons (.lst true (.cons (.var 0) .nil)) .nil))) (.cons (.lst true (.cons (.lst true (.cons (.cst .non) .nil)) .nil)) (.cons (.lst true (.cons (.lst true (.cons (.cst (.int 0)) .nil)) .nil)) (.cons (.lst true (.cons (.lst true (.cons (.tup (.cons (.cst (.int 0)) (.cons (.cst (.int 2)) .nil))) .nil)) .nil)) (.cons (.lst true (.cons (.lst true (.cons (.tup (.cons (.cst (.int 2)) (.cons (.cst (.int 2)) .nil))) .nil)) .nil)) (.cons (.lst true (.cons (.lst true (.cons (.tup (.cons (.cst (.int 1)) (.cons (.cst (.int 0)) .nil))) .nil)) .nil)) (.cons (.lst true (.cons (.lst true (.cons (.tup (.cons (.cst (.int 1)) (.cons (.neg (.cst (.int 1))) .nil))) .nil)) .nil)) .nil))))))))))))))))))) (.cons (.ret (.bin .add true (.var 1) (.lst true (.cons (.lst true (.cons (.lst true (.cons (.tup (.cons (.cst (.bl true)) (.cons (.cst (.int 1)) .nil))) .nil)) .nil)) (.cons (.lst true (.cons (.lst true (.cons (.tup (.cons (.cst (.int 1)) (.cons (.cst (.bl true)) .nil))) .nil)) .nil)) (.cons (.lst true (.cons (.lst true (.cons (.tup (.cons (.cst (.int 1)) .nil)) .nil)) .nil)) (.cons (.lst true (.cons (.lst true (.cons (.tup (.cons (.cst (.int 1)) (.cons (.cst (.int 1)) (.cons (.cst (.int 1)) .nil)))) .nil)) .nil)) (.cons (.lst true (.cons (.lst true (.cons (.cst (.str ⟨#[97, 98]⟩)) .nil)) .nil)) (.cons (.lst true (.cons (.lst true (.cons (.var 0) .nil)) (.cons (.cst .non) .nil))) (.cons (.lst true (.cons (.lst true (.cons (.var 0) .nil)) (.cons (.cst (.int 5)) .nil))) (.cons (.lst true (.cons (.lst true (.cons (.lst true (.cons (.var 0) .nil)) .nil)) .nil)) (.cons (.var 0) .nil)))))))))))) .nil)))⟩
def D__law_c_shares : Def := ⟨3, 9, true, false, (.cons (.asg (.name 3 false) (.comp false (.comp false (.call f__law_pick (.cons (.var 0) (.cons (.lst true (.cons (.cst (.int 0)) (.cons (.cst (.int 0)) (.cons (.cst (.int 1)) (.cons (.cst (.int 1)) (.cons (.cst (.int 2)) (.cons (.cst (.int 3)) .nil))))))) .nil)) .nil [0, 1]) (.name 6 false) (.rng1 (.var 2)) .nil [6]) (.name 5 false) (.rng1 (.var 1)) .nil [5])) (.cons (.asg (.idx (.idx (.var 3) (.call f__law_draw (.cons (.var 0) (.cons (.var 1) .nil)) .nil [0, 1])) (.call f__law_draw (.cons (.var 0) (.cons (.var 2) .nil)) .nil [0, 1])) (.bin .add true (.cst (.int 1)) (.call f__law_draw (.cons (.var 0) (.cons (.cst (.int 3)) .nil)) .nil [0, 1]))) (.cons (.asg (.name 4 true) (.bi .sum true (.cons (.comp true (.bi .sum true (.cons (.var 7) .nil)) (.name 7 false) (.e (.var 3)) .nil [7]) .nil))) (.cons (.ret (.comp true (.comp true (.call f__law_frac (.cons (.var 8) (.cons (.var 4) .nil)) .nil [0, 1]) (.name 8 false) (.e (.var 7)) .nil [8]) (.name 7 false) (.e (.var 3)) .nil [7])) .nil))))⟩
def D__law_met : Def := ⟨1, 2, false, false, (.cons (.try_ (.cons (.ret (.tup (.cons (.cst (.str ⟨#[116, 111, 108, 100]⟩)) (.cons (.callv 0 .nil) .nil)))) .nil) [⟨e_BadShares, (some 1), (.tup [(.str ⟨#[115, 104, 97, 114, 101, 115]⟩), .fld])⟩, ⟨e_BadRowSums, (some 1), (.tup [(.str ⟨#[114, 111, 119, 115]⟩), .fld])⟩, ⟨e_BadColumnSums, (some 1), (.tup [(.str ⟨#[99, 111, 108, 117, 109, 110, 115]⟩), .fld])⟩, ⟨e_BadOne, (some 1), (.tup [(.str ⟨#[111, 110, 101]⟩), .fld])⟩, ⟨e_BadOther, (some 1), (.tup [(.str ⟨#[111, 116, 104, 101, 114]⟩), .fld])⟩, ⟨e_BadTable, (some 1), (.tup [(.str ⟨#[116, 97, 98, 108, 101]⟩), .fld])⟩, ⟨e_BadMany, (some 1), (.tup [(.str ⟨#[109, 97, 110, 121]⟩), .fld])⟩, ⟨e_BadRow, (some 1), (.tup [(.str ⟨#[114, 111, 119]⟩), .fld])⟩, ⟨e_BadColumn, (some 1), (.tup [(.str ⟨#[99, 111, 108, 117, 109, 110]⟩), .fld])⟩]) .nil)⟩
def D_law : Def := ⟨1, 12, true, false, (.cons (.asg (.name 1 false) (.call f__law_stream (.cons (.var 0) .nil) .nil [0])) (.cons (.asg (.tup (.cons (.name 9 true) (.cons (.name 6 true) (.cons (.name 7 true) .nil)))) (.tup (.cons (.tup (.cons (.cst (.int 1)) (.cons (.cst (.int 1)) .nil))) (.cons (.tup (.cons (.cst (.int 1)) (.cons (.cst (.int 2)) .nil))) (.cons (.tup (.cons (.cst (.int 0)) (.cons (.cst (.int 1)) .nil))) .nil))))) (.cons (.drop 1 (.asg (.tup (.cons (.name 10 true) (.cons (.name 2 false) .nil))) (.tup (.cons (.call f__law_c_shares (.cons (.var 1) (.cons (.cst (.int 2)) (.cons (.cst (.int 2)) .nil))) .nil [0, 1, 2]) (.cons (.bin .add true (.call f__law_c_odd_tables .nil .nil []) (.lst true (.cons (.lst true (.cons (.lst true (.cons (.var 7) .nil)) .nil)) (.cons (.lst true (.cons (.lst true (.cons (.var 6) .nil)) .nil)) (.cons (.lst true (.cons (.lst true (.cons (.var 9) (.cons (.var 9) .nil))) .nil)) (.cons (.lst true (.cons (.lst true (.cons (.tup (.cons (.cst (.int 3)) (.cons (.cst (.int 2)) .nil))) (.cons (.tup (.cons (.neg (.cst (.int 1))) (.cons (.cst (.int 2)) .nil))) .nil))) .nil)) (.cons (.lst true (.cons (.lst true (.cons (.var 6) .nil)) (.cons (.lst true (.cons (.var 6) .nil)) (.cons (.lst true (.cons (.var 6) .nil)) .nil)))) .nil))))))) .nil))))) (.cons (.for_ (.name 8 true) (.e (.var 2)) (.cons (.asg (.name 3 false) (.lst false (.cons (.lam 1 [8]) .nil))) (.cons (.expr (.meth .append (.var 3) (.cons (.lam 2 [8]) .nil))) (.cons (.expr (.meth .append (.var 3) (.cons (.lam 3 [8, 9]) .nil))) (.cons (.ifs (.not (.call f__law_same (.cons (.comp true (.call f__law_met (.cons (.var 11) .nil) .nil [0]) (.name 11 false) (.e (.var 3)) .nil [11]) (.cons (.bin .mul true (.lst true (.cons (.tup (.cons (.cst (.str ⟨#[115, 104, 97, 114, 101, 115]⟩)) (.cons (.var 8) .nil))) .nil)) (.cst (.int 3))) .nil)) .nil [0, 1])) (.cons (.ret (.cst (.bl false))) .nil) .nil) (.cons (.ifs (.not (.call f__law_same (.cons (.lst true (.cons (.call f__law_met (.cons (.lam 5 [8]) .nil) .nil [0]) (.cons (.call f__law_met (.cons (.lam 4 [8]) .nil) .nil [0]) .nil))) (.cons (.bin .mul true (.lst true (.cons (.tup (.cons (.cst (.str ⟨#[111, 110, 101]⟩)) (.cons (.var 8) .nil))) .nil)) (.cst (.int 2))) .nil)) .nil [0, 1])) (.cons (.ret (.cst (.bl false))) .nil) .nil) (.cons (.ifs (.not (.call f__law_same (.cons (.lst true (.cons (.call f__law_met (.cons (.lam 7 [8, 10]) .nil) .nil [0]) (.cons (.call f__law_met (.cons (.lam 6 [8, 10]) .nil) .nil [0]) .nil))) (.cons (.bin .mul true (.lst true (.cons (.tup (.cons (.cst (.str ⟨#[111, 116, 104, 101, 114]⟩)) (.cons (.var 8) .nil))) .nil)) (.cst (.int 2))) .nil)) .nil [0, 1])) (.cons (.ret (.cst (.bl false))) .nil) .nil) .nil))))))) (.cons (.asg (.name 4 false) (.lst true (.cons (.lst true (.cons (.lst true (.cons (.var 9) .nil)) .nil)) (.cons (.lst true (.cons (.lst true (.cons (.var 9) (.cons (.var 7) .nil))) .nil)) (.cons (.lst true (.cons (.lst true (.cons (.var 6) (.cons (.var 6) .nil))) .nil)) (.cons (.lst true (.cons (.lst true (.cons (.var 6) (.cons (.var 7) .nil))) (.cons (.lst true (.cons (.var 6) (.cons (.var 7) .nil))) .nil))) (.cons (.lst true (.cons (.lst true (.cons (.var 7) (.cons (.var 6) .nil))) (.cons (.lst true (.cons (.var 7) (.cons (.var 6) .nil))) .nil))) (.cons (.lst true (.cons (.lst true (.cons (.tup (.cons (.cst (.int 1)) (.cons (.cst (.int 3)) .nil))) (.cons (.var 7) .nil))) (.cons (.lst true (.cons (.var 7) (.cons (.tup (.cons (.cst (.int 2)) (.cons (.cst (.int 3)) .nil))) .nil))) .nil))) .nil)))))))) (.cons (.for_ (.name 8 true) (.e (.var 4)) (.cons (.ifs (.not (.call f__law_same (.cons (.call f__law_met (.cons (.lam 8 [6, 7, 8]) .nil) .nil [0]) (.cons (.tup (.cons (.cst (.str ⟨#[111, 116, 104, 101, 114]⟩)) (.cons (.var 8) .nil))) .nil)) .nil [0, 1])) (.cons (.ret (.cst (.bl false))) .nil) .nil) .nil)) (.cons (.for_ (.name 8 true) (.e (.tup (.cons (.lst true (.cons (.lst true (.cons (.var 9) (.cons (.var 7) .nil))) .nil)) (.cons (.lst true (.cons (.lst true (.cons (.var 9) .nil)) (.cons (.lst true (.cons (.var 7) .nil)) .nil))) (.cons (.lst true (.cons (.lst true (.cons (.var 6) (.cons (.var 7) .nil))) (.cons (.lst true (.cons (.var 7) (.cons (.var 6) .nil))) .nil))) .nil))))) (.cons (.ifs (.not (.call f__law_same (.cons (.call f__law_met (.cons (.lam 9 [8, 9]) .nil) .nil [0]) (.cons (.tup (.cons (.cst (.str ⟨#[115, 104, 97, 114, 101, 115]⟩)) (.cons (.var 8) .nil))) .nil)) .nil [0, 1])) (.cons (.ret (.cst (.bl false))) .nil) .nil) .nil)) (.cons (.for_ (.name 8 true) (.e (.call f__law_c_odd_tables .nil .nil [])) (.cons (.ifs (.not (.call f__law_same (.cons (.lst true (.cons (.call f__law_met (.cons (.lam 11 [8]) .nil) .nil [0]) (.cons (.call f__law_met (.cons (.lam 10 [8]) .nil) .nil [0]) .nil))) (.cons (.bin .mul true (.lst true (.cons (.tup (.cons (.cst (.str ⟨#[116, 97, 98, 108, 101]⟩)) (.cons (.var 8) .nil))) .nil)) (.cst (.int 2))) .nil)) .nil [0, 1])) (.cons (.ret (.cst (.bl false))) .nil) .nil) .nil)) (.cons (.for_ (.name 8 true) (.e (.tup (.cons (.cst .non) (.cons (.cst (.int 5)) (.cons (.cst (.str ⟨#[97, 98]⟩)) (.cons (.dict0 true) (.cons (.lst true .nil) (.cons (.lst true (.cons (.var 7) .nil)) (.cons (.lst true (.cons (.var 6) .nil)) (.cons (.lst true (.cons (.var 9) (.cons (.var 9) .nil))) (.cons (.lst true (.cons (.tup (.cons (.cst (.int 3)) (.cons (.cst (.int 2)) .nil))) (.cons (.tup (.cons (.neg (.cst (.int 1))) (.cons (.cst (.int 2)) .nil))) .nil))) (.cons (.lst true (.cons (.cst (.int 1)) .nil)) (.cons (.lst true (.cons (.cst .non) .nil)) (.cons (.lst true (.cons (.tup (.cons (.cst (.int 2)) (.cons (.cst (.int 2)) .nil))) .nil)) (.cons (.lst true (.cons (.tup (.cons (.cst (.bl true)) (.cons (.cst (.int 1)) .nil))) .nil)) (.cons (.var 9) (.cons (.lst true (.cons (.lst true (.cons (.var 9) .nil)) .nil)) .nil))))))))))))))))) (.cons (.asg (.name 5 false) (.lst false (.cons (.call f__law_met (.cons (.lam 13 [8]) .nil) .nil [0]) (.cons (.call f__law_met (.cons (.lam 12 [8]) .nil) .nil [0]) .nil)))) (.cons (.expr (.meth .extend (.var 5) (.cons (.lst true (.cons (.call f__law_met (.cons (.lam 15 [6, 8]) .nil) .nil [0]) (.cons (.call f__law_met (.cons (.lam 14 [8, 9]) .nil) .nil [0]) .nil))) .nil))) (.cons (.ifs (.not (.call f__law_same (.cons (.var 5) (.cons (.bin .add true (.bin .mul true (.lst true (.cons (.tup (.cons (.cst (.str ⟨#[114, 111, 119, 115]⟩)) (.cons (.var 8) .nil))) .nil)) (.cst (.int 2))) (.bin .mul true (.lst true (.cons (.tup (.cons (.cst (.str ⟨#[99, 111, 108, 117, 109, 110, 115]⟩)) (.cons (.var 8) .nil))) .nil)) (.cst (.int 2)))) .nil)) .nil [0, 1])) (.cons (.ret (.cst (.bl false))) .nil) .nil) .nil)))) (.cons (.for_ (.name 8 true) (.e (.tup (.cons (.cst .non) (.cons (.cst (.int 0)) (.cons (.cst (.int 5)) (.cons (.neg (.cst (.int 1))) (.cons (.cst (.bl true)) (.cons (.cst (.str ⟨#[50]⟩)) (.cons (.lst true .nil) (.cons (.dict0 true) .nil)))))))))) (.cons (.ifs (.not (.call f__law_same (.cons (.lst true (.cons (.call f__law_met (.cons (.lam 17 [8]) .nil) .nil [0]) (.cons (.call f__law_met (.cons (.lam 16 [8]) .nil) .nil [0]) .nil))) (.cons (.bin .mul true (.lst true (.cons (.tup (.cons (.cst (.str ⟨#[109, 97, 110, 121]⟩)) (.cons (.var 8) .nil))) .nil)) (.cst (.int 2))) .nil)) .nil [0, 1])) (.cons (.ret (.cst (.bl false))) .nil) .nil) .nil)) (.cons (.for_ (.name 8 true) (.e (.tup (.cons (.cst .non) (.cons (.cst (.int 3)) (.cons (.neg (.cst (.int 1))) (.cons (.cst (.bl true)) (.cons (.cst (.str ⟨#[48]⟩)) (.cons (.lst true .nil) (.cons (.dict0 true) .nil))))))))) (.cons (.ifs (.not (.call f__law_same (.cons (.lst true (.cons (.call f__law_met (.cons (.lam 19 [8]) .nil) .nil [0]) (.cons (.call f__law_met (.cons (.lam 18 [8]) .nil) .nil [0]) .nil))) (.cons (.lst true (.cons (.tup (.cons (.cst (.str ⟨#[114, 111, 119]⟩)) (.cons (.var 8) .nil))) (.cons (.tup (.cons (.cst (.str ⟨#[99, 111, 108, 117, 109, 110]⟩)) (.cons (.var 8) .nil))) .nil))) .nil)) .nil [0, 1])) (.cons (.ret (.cst (.bl false))) .nil) .nil) .nil)) (.cons (.ifs (.not (.call f__law_is_very (.cons (.cst (.str ⟨#[115, 104, 97, 114, 101, 115]⟩)) (.cons (.lam 20 []) .nil)) .nil [0, 1])) (.cons (.ret (.cst (.bl false))) .nil) .nil) (.cons (.ret (.call f__law_is_very (.cons (.cst (.str ⟨#[114, 111, 119, 115]⟩)) (.cons (.lam 21 []) .nil)) .nil [0, 1])) .nil)))))))))))))⟩
def L_0 : Lam := ⟨0, 2, 2, (.callv 0 (.cons (.var 1) .nil))⟩
def L_1 : Lam := ⟨0, 1, 1, (.call f_first_corners (.cons (.var 0) .nil) .nil [0])⟩
def L_2 : Lam := ⟨0, 1, 1, (.call f_sums_of .nil (.cons (.var 0) .nil) [0])⟩
def L_3 : Lam := ⟨0, 2, 2, (.call f_mean_of (.cons (.lst true (.cons (.lst true (.cons (.var 1) .nil)) .nil)) (.cons (.var 0) .nil)) .nil [0, 1])⟩
def L_4 : Lam := ⟨0, 1, 1, (.call f_are_steps .nil (.cons (.cst .non) (.cons (.cst .non) (.cons (.var 0) .nil))) [2, 1, 0])⟩
def L_5 : Lam := ⟨0, 1, 1, (.call f_steps_or_corner (.cons (.var 0) (.cons (.var 0) .nil)) .nil [0, 1])⟩
def L_6 : Lam := ⟨0, 2, 2, (.call f_are_steps .nil (.cons (.cst .non) (.cons (.var 0) (.cons (.call f__law_copied (.cons (.var 1) .nil) .nil [0]) .nil))) [2, 1, 0])⟩
def L_7 : Lam := ⟨0, 2, 2, (.call f_steps_or_corner (.cons (.call f__law_copied (.cons (.var 1) .nil) .nil [0]) (.cons (.var 0) .nil)) .nil [0, 1])⟩
def L_8 : Lam := ⟨0, 3, 3, (.call f_steps_or_corner (.cons (.lst true (.cons (.lst true (.cons (.var 0) (.cons (.var 1) .nil))) (.cons (.lst true (.cons (.var 1) (.cons (.var 0) .nil))) .nil))) (.cons (.var 2) .nil)) .nil [0, 1])⟩
def L_9 : Lam := ⟨0, 2, 2, (.call f_mean_of (.cons (.lst true (.cons (.lst true (.cons (.var 1) .nil)) .nil)) (.cons (.var 0) .nil)) .nil [0, 1])⟩
def L_10 : Lam := ⟨0, 1, 1, (.call f_mean_of .nil (.cons (.cst .non) (.cons (.var 0) .nil)) [1, 0])⟩
def L_11 : Lam := ⟨0, 1, 1, (.call f_mean_of (.cons (.var 0) (.cons (.cst .non) .nil)) .nil [0, 1])⟩
def L_12 : Lam := ⟨0, 1, 1, (.call f_least_together .nil (.cons (.cst .non) (.cons (.var 0) .nil)) [1, 0])⟩
def L_13 : Lam := ⟨0, 1, 1, (.call f_most_together (.cons (.var 0) (.cons (.cst .non) .nil)) .nil [0, 1])⟩
def L_14 : Lam := ⟨0, 2, 2, (.call f_least_together .nil (.cons (.var 0) (.cons (.lst true (.cons (.var 1) .nil)) .nil)) [1, 0])⟩
def L_15 : Lam := ⟨0, 2, 2, (.call f_most_together (.cons (.lst true (.cons (.var 0) (.cons (.var 0) .nil))) (.cons (.var 1) .nil)) .nil [0, 1])⟩
def L_16 : Lam := ⟨0, 1, 1, (.call f_corner_table .nil (.cons (.cst .non) (.cons (.cst .non) (.cons (.var 0) (.cons (.cst (.int 2)) .nil)))) [3, 2, 1, 0])⟩
def L_17 : Lam := ⟨0, 1, 1, (.call f_corner_table (.cons (.var 0) (.cons (.cst .non) (.cons (.cst .non) (.cons (.cst .non) .nil)))) .nil [0, 1, 2, 3])⟩
def L_18 : Lam := ⟨0, 1, 1, (.call f_corner_table (.cons (.cst (.int 4)) (.cons (.cst (.int 3)) (.cons (.cst (.int 2)) (.cons (.var 0) .nil)))) .nil [0, 1, 2, 3])⟩
def L_19 : Lam := ⟨0, 1, 1, (.call f_corner_table (.cons (.cst (.int 3)) (.cons (.cst (.int 3)) (.cons (.var 0) (.cons (.cst .non) .nil)))) .nil [0, 1, 2, 3])⟩
def L_20 : Lam := ⟨1, 0, 1, (.call f_first_corners (.cons (.var 0) .nil) .nil [0])⟩
def L_21 : Lam := ⟨1, 0, 1, (.call f_most_together (.cons (.var 0) (.cons (.cst .non) .nil)) .nil [0, 1])⟩
def P : Prog := ⟨[D_is_list, D_is_whole, D_is_number, D_is_below, D_is_row, D_common_divisor, D_reduced, D_plus, D_minus, D_times, D_is_under, D_total, D_dot, D_least, D_kept_fraction, D_kept_row, D_kept_table, D_need_table, D_kept_sums, D_firsts_of, D_common_part, D_corner_by, D_cost_by, D_kept_shares, D_need_shares, D_corners_of, D_first_corners, D_sums_by, D_sums_of, D_need_sums, D_most_together, D_least_together, D_need_pair, D_first_more, D_stepped, D_next_filled, D_depth_of, D_first_gap, D_step_towards, D_steps_or_corner, D_kept_step, D_are_steps, D_mean_of, D_corner_table, D__law_stream, D__law_draw, D__law_pick, D__law_same, D__law_copied, D__law_is_very, D__law_share, D__law_frac, D__law_c_odd_tables, D__law_c_shares, D__law_met, D_law], [L_0, L_1, L_2, L_3, L_4, L_5, L_6, L_7, L_8, L_9, L_10, L_11, L_12, L_13, L_14, L_15, L_16, L_17, L_18, L_19, L_20, L_21]⟩
abbrev pw : PySem.Program := PySem.Challenge.pw_downcorners_k43_together_refused
abbrev R : PySem.W.OpenRow := PySem.W.OpenLaw.row PySem.Challenge.rw_downcorners_k43_together_refused
def dl : List FunL := [
  ⟨"is_list", ["thing"], ["thing"], 1, false⟩,
  ⟨"is_whole", ["thing"], ["thing"], 2, false⟩,
  ⟨"is_number", ["thing"], ["thing"], 3, false⟩,
  ⟨"is_below", ["thing", "most"], ["thing", "most"], 4, false⟩,
  ⟨"is_row", ["thing", "many"], ["thing", "many"], 5, false⟩,
  ⟨"common_divisor", ["one", "other"], ["one", "other"], 16, false⟩,
  ⟨"reduced", ["above", "below"], ["above", "below", "divisor"], 17, false⟩,
  ⟨"plus", ["one", "other"], ["one", "other"], 18, false⟩,
  ⟨"minus", ["one", "other"], ["one", "other"], 19, false⟩,
  ⟨"times", ["one", "other"], ["one", "other"], 20, false⟩,
  ⟨"is_under", ["one", "other"], ["one", "other"], 21, false⟩,
  ⟨"total", ["things"], ["things", "found", "thing"], 22, false⟩,
  ⟨"dot", ["one", "other"], ["one", "other", "mine", "theirs"], 23, false⟩,
  ⟨"least", ["things"], ["things", "found", "thing"], 24, false⟩,
  ⟨"kept_fraction", ["thing"], ["thing"], 25, false⟩,
  ⟨"kept_row", ["thing"], ["thing", "found", "part"], 26, false⟩,
  ⟨"kept_table", ["thing"], ["thing", "found", "row", "one"], 28, true⟩,
  ⟨"need_table", ["table"], ["table", "kept"], 29, false⟩,
  ⟨"kept_sums", ["thing"], ["thing", "found", "one"], 31, false⟩,
  ⟨"firsts_of", ["sums"], ["sums", "found", "one"], 32, false⟩,
  ⟨"common_part", ["one", "other"], ["one", "other", "low", "high"], 33, false⟩,
  ⟨"corner_by", ["supplies", "demands"], ["supplies", "demands", "rows", "columns", "found", "up", "across"], 34, true⟩,
  ⟨"cost_by", ["table", "plan"], ["table", "plan", "row", "other"], 35, false⟩,
  ⟨"kept_shares", ["thing"], ["thing", "kept", "row", "one"], 42, false⟩,
  ⟨"need_shares", ["shares"], ["shares", "kept"], 43, false⟩,
  ⟨"corners_of", ["shares"], ["shares", "found", "above", "row", "here", "line", "up", "number"], 44, false⟩,
  ⟨"first_corners", ["shares"], ["shares"], 45, false⟩,
  ⟨"sums_by", ["shares"], ["shares", "row", "column"], 46, false⟩,
  ⟨"sums_of", ["shares"], ["shares"], 47, false⟩,
  ⟨"need_sums", ["rows", "columns"], ["rows", "columns", "first", "second"], 48, false⟩,
  ⟨"most_together", ["rows", "columns"], ["rows", "columns", "first", "second"], 49, false⟩,
  ⟨"least_together", ["rows", "columns"], ["rows", "columns", "first", "second", "row"], 50, false⟩,
  ⟨"need_pair", ["one", "other"], ["one", "other", "mine", "theirs"], 51, false⟩,
  ⟨"first_more", ["one", "other"], ["one", "other", "i", "row", "later", "j", "mine", "theirs"], 52, false⟩,
  ⟨"stepped", ["shares", "step"], ["shares", "step", "i", "k", "j", "later", "share", "row", "found", "column", "is_put", "number"], 53, false⟩,
  ⟨"next_filled", ["row", "start"], ["row", "start", "at"], 54, false⟩,
  ⟨"depth_of", ["gaps", "row", "columns"], ["gaps", "row", "columns", "found", "column", "below", "k"], 55, true⟩,
  ⟨"first_gap", ["gaps"], ["gaps", "i", "row", "j", "gap"], 56, false⟩,
  ⟨"step_towards", ["one", "other"], ["one", "other", "low", "high", "gaps", "i", "left", "right", "k", "column", "j", "some", "edge", "room", "row", "later", "mine", "theirs", "at"], 57, true⟩,
  ⟨"steps_or_corner", ["one", "other"], ["one", "other", "mine", "theirs", "place", "found", "step"], 58, false⟩,
  ⟨"kept_step", ["shares", "thing"], ["shares", "thing", "i", "k", "j", "later", "share", "own"], 59, false⟩,
  ⟨"are_steps", ["one", "other", "thing"], ["one", "other", "thing", "mine", "theirs", "part", "step"], 60, false⟩,
  ⟨"mean_of", ["table", "shares"], ["table", "shares", "kept", "own"], 61, false⟩,
  ⟨"corner_table", ["rows", "columns", "i", "j"], ["rows", "columns", "i", "j", "many", "row", "column"], 62, true⟩,
  ⟨"_law_stream", ["script"], ["script"], 64, false⟩,
  ⟨"_law_draw", ["stream", "many"], ["stream", "many", "cell", "digit", "mixed"], 65, false⟩,
  ⟨"_law_pick", ["stream", "things"], ["stream", "things"], 66, false⟩,
  ⟨"_law_same", ["found", "due"], ["found", "due", "mine", "theirs"], 67, false⟩,
  ⟨"_law_copied", ["thing"], ["thing", "some", "one"], 68, false⟩,
  ⟨"_law_is_very", ["word", "ask"], ["word", "ask", "found", "odd"], 69, true⟩,
  ⟨"_law_share", ["one", "other"], ["one", "other"], 70, false⟩,
  ⟨"_law_frac", ["above", "below"], ["above", "below", "share", "sign"], 71, false⟩,
  ⟨"_law_c_odd_tables", [], ["one", "odds"], 72, false⟩,
  ⟨"_law_c_shares", ["stream", "rows", "columns"], ["stream", "rows", "columns", "counts", "whole", "i", "j", "row", "one"], 73, true⟩,
  ⟨"_law_met", ["ask"], ["ask", "e"], 74, false⟩,
  ⟨"law", ["script"], ["script", "stream", "odds", "asks", "unlike", "found", "half", "none", "odd", "one", "shares", "ask"], 75, true⟩]
def el : List ErrL := [
  ⟨"BadTable", some "table", 8⟩,
  ⟨"BadRow", some "row", 9⟩,
  ⟨"BadColumn", some "column", 10⟩,
  ⟨"BadOne", some "one", 11⟩,
  ⟨"BadOther", some "other", 12⟩,
  ⟨"BadShares", some "shares", 37⟩,
  ⟨"BadRowSums", some "rows", 38⟩,
  ⟨"BadColumnSums", some "columns", 39⟩,
  ⟨"BadMany", some "many", 40⟩]
def LN : List LNm := [⟨[], ["ask", "odd"], ["ask", "odd"]⟩, ⟨[], ["odd"], ["odd"]⟩, ⟨[], ["odd"], ["odd"]⟩, ⟨[], ["odd", "one"], ["odd", "one"]⟩, ⟨[], ["odd"], ["odd"]⟩, ⟨[], ["odd"], ["odd"]⟩, ⟨[], ["odd", "shares"], ["odd", "shares"]⟩, ⟨[], ["odd", "shares"], ["odd", "shares"]⟩, ⟨[], ["half", "none", "odd"], ["half", "none", "odd"]⟩, ⟨[], ["odd", "one"], ["odd", "one"]⟩, ⟨[], ["odd"], ["odd"]⟩, ⟨[], ["odd"], ["odd"]⟩, ⟨[], ["odd"], ["odd"]⟩, ⟨[], ["odd"], ["odd"]⟩, ⟨[], ["odd", "one"], ["odd", "one"]⟩, ⟨[], ["half", "odd"], ["half", "odd"]⟩, ⟨[], ["odd"], ["odd"]⟩, ⟨[], ["odd"], ["odd"]⟩, ⟨[], ["odd"], ["odd"]⟩, ⟨[], ["odd"], ["odd"]⟩, ⟨["odd"], [], ["odd"]⟩, ⟨["odd"], [], ["odd"]⟩]
def cl : List (PySem.Str × PV) := [("NOUGHT", (.tup [(.int 0), (.int 1)])), ("ONE", (.tup [(.int 1), (.int 1)]))]
def loose0 : List PySem.Str := [PySem.Str.ofString "is_list", PySem.Str.ofString "is_whole", PySem.Str.ofString "is_number", PySem.Str.ofString "is_below", PySem.Str.ofString "is_row", PySem.Str.ofString "CornerError", PySem.Str.ofString "BadTable", PySem.Str.ofString "BadRow", PySem.Str.ofString "BadColumn", PySem.Str.ofString "BadOne", PySem.Str.ofString "BadOther", PySem.Str.ofString "NOUGHT", PySem.Str.ofString "ONE", PySem.Str.ofString "common_divisor", PySem.Str.ofString "reduced", PySem.Str.ofString "plus", PySem.Str.ofString "minus", PySem.Str.ofString "times", PySem.Str.ofString "is_under", PySem.Str.ofString "total", PySem.Str.ofString "dot", PySem.Str.ofString "least", PySem.Str.ofString "kept_fraction", PySem.Str.ofString "kept_row", PySem.Str.ofString "kept_table", PySem.Str.ofString "need_table", PySem.Str.ofString "kept_sums", PySem.Str.ofString "firsts_of", PySem.Str.ofString "common_part", PySem.Str.ofString "corner_by", PySem.Str.ofString "cost_by", PySem.Str.ofString "BadShares", PySem.Str.ofString "BadRowSums", PySem.Str.ofString "BadColumnSums", PySem.Str.ofString "BadMany"]
def loose1 : List PySem.Str := [PySem.Str.ofString "kept_shares", PySem.Str.ofString "need_shares", PySem.Str.ofString "corners_of", PySem.Str.ofString "first_corners", PySem.Str.ofString "sums_by", PySem.Str.ofString "sums_of", PySem.Str.ofString "need_sums", PySem.Str.ofString "most_together", PySem.Str.ofString "least_together", PySem.Str.ofString "need_pair", PySem.Str.ofString "first_more", PySem.Str.ofString "stepped", PySem.Str.ofString "next_filled", PySem.Str.ofString "depth_of", PySem.Str.ofString "first_gap", PySem.Str.ofString "step_towards", PySem.Str.ofString "steps_or_corner", PySem.Str.ofString "kept_step", PySem.Str.ofString "are_steps", PySem.Str.ofString "mean_of", PySem.Str.ofString "corner_table", PySem.Str.ofString "_law_stream", PySem.Str.ofString "_law_draw", PySem.Str.ofString "_law_pick", PySem.Str.ofString "_law_same", PySem.Str.ofString "_law_copied", PySem.Str.ofString "_law_is_very", PySem.Str.ofString "_law_share", PySem.Str.ofString "_law_frac", PySem.Str.ofString "_law_c_odd_tables", PySem.Str.ofString "_law_c_shares", PySem.Str.ofString "_law_met"]
def loose : List PySem.Str := loose0 ++ loose1
abbrev hk : PySem.W.Hook := He.hookX 5 (faOf dl el) (fnOf pw dl el) [] (tfOf dl) (exB dl el cl)
def ob (s : PySem.W.SharedT) : He.AlX := He.obsX 5 (faOf dl el) (fnOf pw dl el) [] (tfOf dl) (exB dl el cl) (HandSHeadRun.getT s)
theorem ob_eq (s : PySem.W.SharedT) : ob s = hk.obs s.abs := He.obsX_eq (HandSHeadRun.getT_eq s)
theorem fits : Fits pw P dl el cl LN := fits_of (by decide +kernel)
theorem run (w : PySem.World) : HandSHeadRun.RunEq R (PySem.W.view R.prog [75]) hk ob 20000 loose w := by
  intro os
  kernel_rfl
end PC.K43

set_option Elab.async false
set_option maxRecDepth 100000
set_option maxHeartbeats 4000000
namespace PC.K43
abbrev F : Nat := 18446744073709551616
theorem hF : 20000 ≤ F := by decide
theorem hF2 : 16777217 ≤ F := by decide
theorem addOk : AddOk P F f_plus := add_Ok (r := f_reduced) rfl (red_Ok (g := f_common_divisor) rfl rfl hF)
theorem kfOk : KfOk P F f_kept_fraction := keptFr_Ok (row := f_is_row) (l := f_is_list) (whole := f_is_whole) (gcd := f_common_divisor) rfl rfl rfl rfl rfl hF
def shV (p q r s : Fr) : PV := tabv [[p, q], [r, s]]
def aA : CE := .comp2 true (.cmp .lt (.idx (.var 3) (.cst (.int 0))) (.cst (.int 0))) (.name 2 false) (.e (.var 1)) .nil (.name 3 false) (.e (.var 2)) .nil [2, 3]
def aB : CE := .comp true (.call f_total (.cons (.var 2) .nil) .nil [0]) (.name 2 false) (.e (.var 1)) .nil [2]
theorem ks_body : D_kept_shares.body = (.cons (.asg (.name 1 false) (.call f_kept_table (.cons (.var 0) .nil) .nil [0])) (.cons (.ifs (.or (.cmp .is_ (.var 1) (.cst .non)) (.bi .any true (.cons aA .nil))) (.cons (.ret (.cst .non)) .nil) .nil) (.cons (.ret (.ite (.cmp .eq (.call f_total (.cons aB .nil) .nil [0]) (.cst (.tup [(.int 1), (.int 1)]))) (.var 1) (.cst .non))) .nil))) := rfl
structure Sh (p q r s : Fr) : Prop where
  g : GL 8 [p, q, r, s]
  p0 : 0 ≤ p.1
  q0 : 0 ≤ q.1
  r0 : 0 ≤ r.1
  s0 : 0 ≤ s.1
  one : qsum [qsum [p, q], qsum [r, s]] = (1, 1)
theorem keptShares {p q r s : Fr} (H : Sh p q r s) (d : Nat) (h : Hea) (hh : HT (d + 3) h) : (evO P F (d + 5)).call f_kept_shares [shV p q r s] h = .ok (shV p q r s) h := by
  rw [call_eq (D := D_kept_shares) rfl rfl rfl]
  show endO h none (evSs ({ evO P F (d + 4) with st := false } : EO) D_kept_shares.body [some (shV p q r s), none, none, none] h) = _
  rw [ks_body]
  generalize hO : ({ evO P F (d + 4) with st := false } : EO) = O
  have oc : O.call = (evO P F (d + 4)).call := by rw [← hO]
  have os : O.st = false := by rw [← hO]
  have g2 : GL 8 [p, q] := fun x hx => H.g x (by simp at hx ⊢; rcases hx with z | z <;> simp [z])
  have g3 : GL 8 [r, s] := fun x hx => H.g x (by simp at hx ⊢; rcases hx with z | z <;> simp [z])
  have kt : O.call f_kept_table [shV p q r s] h = .ok (shV p q r s) h := by
    rw [oc]
    exact keptTab_ok (f := f_kept_table) (il := f_is_list) (kf := f_kept_fraction) rfl rfl kfOk (b := false) (t := [(false, [(true, p), (true, q)]), (false, [(true, r), (true, s)])]) (k := 8) (n := 2) (Nat.le_of_ble_eq_true rfl) (Nat.le_of_ble_eq_true rfl) (Nat.le_of_ble_eq_true rfl) (Nat.le_of_ble_eq_true rfl) (Nat.le_of_ble_eq_true rfl) (fun x hx => by
      have : x = (false, [(true, p), (true, q)]) ∨ x = (false, [(true, r), (true, s)]) := by simpa using hx
      rcases this with rfl | rfl
      · exact ⟨rfl, g2⟩
      · exact ⟨rfl, g3⟩) d h hh
  have t1 : O.call f_total [rowv [p, q]] h = .ok (fr (qsum [p, q])) h := by rw [oc]; exact total_ok (r := f_plus) rfl addOk (gs := []) (k := 8) (l := [p, q]) rfl rfl g2 (Nat.le_of_ble_eq_true rfl) d
  have t2 : O.call f_total [rowv [r, s]] h = .ok (fr (qsum [r, s])) h := by rw [oc]; exact total_ok (r := f_plus) rfl addOk (gs := []) (k := 8) (l := [r, s]) rfl rfl g3 (Nat.le_of_ble_eq_true rfl) d
  have t3 : O.call f_total [.lst [fr (qsum [p, q]), fr (qsum [r, s])]] h = .ok (.tup [.int 1, .int 1]) h := by
    rw [oc]
    have z := total_ok (P := P) (f := f_total) (r := f_plus) (F := F) rfl addOk (h := h) (v := .lst [fr (qsum [p, q]), fr (qsum [r, s])]) (gs := []) (k := 19) (l := [qsum [p, q], qsum [r, s]]) rfl rfl (fun x hx => by
      have : x = qsum [p, q] ∨ x = qsum [r, s] := by simpa using hx
      rcases this with rfl | rfl
      · exact ⟨qsum_good g2, qsum_sz g2⟩
      · exact ⟨qsum_good g3, qsum_sz g3⟩) (Nat.le_of_ble_eq_true rfl) d
    rw [H.one] at z
    exact z
  have cB : evE O aB [some (shV p q r s), some (shV p q r s), none, none] h = .ok (.lst [fr (qsum [p, q]), fr (qsum [r, s])]) h := by
    have i0 : itsOf h (shV p q r s) = some ⟨[], [[p, q], [r, s]].map rowv⟩ := rfl
    refine comp_ok (gs := []) (enc := rowv) (out := fun l => fr (qsum l)) (l := [[p, q], [r, s]]) (evI_var rfl i0) rfl (Nat.le_of_ble_eq_true rfl) (fun x hx => ?_) fun _ _ => dty_off os _
    have : x = [p, q] ∨ x = [r, s] := by simpa using hx
    rcases this with rfl | rfl
    · simp only [evSs, evS, evB, evE, evEs, get, Out.bind, outS, shutS, CEs.len, arrange, evT, setO, eq_int, ne_int, lt_int, le_int, gt_int, ge_int, is_non, is_int, is_lst, is_tup, isnt_non, isnt_int, isnt_lst, isnt_tup, boolO, truV, resO, toSO, SO.thn, endO, killOf, List.getElem?_cons_zero, List.getElem?_cons_succ, List.set_cons_zero, List.set_cons_succ, List.replicate, Nat.beq, List.length_cons, List.length_nil, List.map_cons, List.map_nil, List.append_nil, List.cons_append, List.nil_append, decide_true, decide_false, startE, trim_same, CEs.len, Nat.reduceSub, Nat.reduceAdd, wipe, t1]
    · simp only [evSs, evS, evB, evE, evEs, get, Out.bind, outS, shutS, CEs.len, arrange, evT, setO, eq_int, ne_int, lt_int, le_int, gt_int, ge_int, is_non, is_int, is_lst, is_tup, isnt_non, isnt_int, isnt_lst, isnt_tup, boolO, truV, resO, toSO, SO.thn, endO, killOf, List.getElem?_cons_zero, List.getElem?_cons_succ, List.set_cons_zero, List.set_cons_succ, List.replicate, Nat.beq, List.length_cons, List.length_nil, List.map_cons, List.map_nil, List.append_nil, List.cons_append, List.nil_append, decide_true, decide_false, startE, trim_same, CEs.len, Nat.reduceSub, Nat.reduceAdd, wipe, t2]
  have cA : evE O aA [some (shV p q r s), some (shV p q r s), none, none] h = .ok (.lst [.bl false, .bl false, .bl false, .bl false]) h := by
    have i0 : itsOf h (shV p q r s) = some ⟨[], [rowv [p, q], rowv [r, s]]⟩ := rfl
    have i1 : ∀ a b : Fr, itsOf h (rowv [a, b]) = some ⟨[], [fr a, fr b]⟩ := fun _ _ => rfl
    have c2 : ∀ xs : List PV, xs.length = 2 → Nat.ble xs.length 4096 = true := fun xs e => by rw [e]; rfl
    have n4 : newO true [.bl false, .bl false, .bl false, .bl false] h = .ok (.lst [.bl false, .bl false, .bl false, .bl false]) h := rfl
    have f0 : ∀ a : Fr, seqOf h (fr a) = some (true, [.int a.1, .int a.2]) := fun _ => rfl
    have b0 : Nat.ble 2 4096 = true := rfl
    have l0 : ∀ a : Fr, 0 ≤ a.1 → decide (a.1 < 0) = false := fun a ha => decide_eq_false (by omega)
    simp only [aA, evE, evI, get, List.getElem?_cons_zero, List.getElem?_cons_succ, Out.bind, i0, i1, iterFlat, iterMap, gs0, evT, setO, Out.shut, evAll, wipe, CT.slots, EO.clean, List.all_cons, List.all_nil, dty_off os, dtyL_off os, Bool.not_false, Bool.and_self, Bool.and_true, f0, ix20, lt_int, boolO, b0, List.length_cons, List.length_nil, Nat.reduceAdd, List.set_cons_zero, List.set_cons_succ, l0 _ H.p0, l0 _ H.q0, l0 _ H.r0, l0 _ H.s0, Option.toList, List.cons_append, List.nil_append, n4]
  have any0 : biV .any h [.lst [.bl false, .bl false, .bl false, .bl false]] = some (.val (.bl false)) := rfl
  have il : cmpV .is_ h (shV p q r s) .non = some false := rfl
  have e11 : cmpV .eq h (.tup [.int 1, .int 1]) (.tup [.int 1, .int 1]) = some true := rfl
  simp only [evSs, evS, evB, evE, evEs, get, Out.bind, outS, shutS, CEs.len, arrange, evT, setO, eq_int, ne_int, lt_int, le_int, gt_int, ge_int, is_non, is_int, is_lst, is_tup, isnt_non, isnt_int, isnt_lst, isnt_tup, boolO, truV, resO, toSO, SO.thn, endO, killOf, List.getElem?_cons_zero, List.getElem?_cons_succ, List.set_cons_zero, List.set_cons_succ, List.replicate, Nat.beq, List.length_cons, List.length_nil, List.map_cons, List.map_nil, List.append_nil, List.cons_append, List.nil_append, decide_true, decide_false, startE, trim_same, CEs.len, Nat.reduceSub, Nat.reduceAdd, kt, il, cA, any0, cB, t3, e11]
end PC.K43

set_option Elab.async false
set_option maxRecDepth 100000
set_option maxHeartbeats 4000000
namespace PC
def CSs.tl : CSs → CSs
  | .cons _ r => r
  | .nil => .nil
def CSs.hd : CSs → CS
  | .cons s _ => s
  | .nil => .stuck
def CS.inner : CS → CSs
  | .for_ _ _ b => b
  | .drop _ s => s.inner
  | _ => .nil
def CS.hs : CS → List CH
  | .try_ _ hs => hs
  | _ => []
namespace K43
abbrev O : EO := { evO P F 24 with st := true }
def other : PV := .str ⟨#[111, 116, 104, 101, 114]⟩
def t3 : CS := D_law.body.tl.tl.tl.hd.inner.tl.tl.tl.tl.tl.hd
theorem t3_eq : t3 = .ifs (.not (.call f__law_same (.cons (.lst true (.cons (.call f__law_met (.cons (.lam 7 [8, 10]) .nil) .nil [0]) (.cons (.call f__law_met (.cons (.lam 6 [8, 10]) .nil) .nil [0]) .nil))) (.cons (.bin .mul true (.lst true (.cons (.tup (.cons (.cst other) (.cons (.var 8) .nil))) .nil)) (.cst (.int 2))) .nil)) .nil [0, 1])) (.cons (.ret (.cst (.bl false))) .nil) .nil := rfl
theorem needPair {p q r s : Fr} (H : Sh p q r s) {odd : PV} {h : Hea} (hh : HT 18 h) (k : (evO P F 20).call f_kept_shares [odd] h = .ok .non h) : (evO P F 21).call f_need_pair [shV p q r s, odd] h = .exc ⟨e_BadOther, some odd⟩ h := by
  rw [call_eq (d := 20) (D := D_need_pair) rfl rfl rfl]
  have k0 := keptShares H 15 h hh
  have il : cmpV .is_ h (shV p q r s) .non = some false := rfl
  simp only [evSs, evS, evB, evE, evEs, get, Out.bind, outS, shutS, CEs.len, arrange, evT, setO, eq_int, ne_int, lt_int, le_int, gt_int, ge_int, is_non, is_int, is_lst, is_tup, isnt_non, isnt_int, isnt_lst, isnt_tup, boolO, truV, resO, toSO, SO.thn, endO, killOf, List.getElem?_cons_zero, List.getElem?_cons_succ, List.set_cons_zero, List.set_cons_succ, List.replicate, Nat.beq, List.length_cons, List.length_nil, List.map_cons, List.map_nil, List.append_nil, List.cons_append, List.nil_append, decide_true, decide_false, startE, trim_same, CEs.len, Nat.reduceSub, Nat.reduceAdd, D_need_pair, k, k0, il, Option.getD_some]
theorem soc {p q r s : Fr} (H : Sh p q r s) {odd : PV} {h : Hea} (hh : HT 18 h) (k : (evO P F 20).call f_kept_shares [odd] h = .ok .non h) : (evO P F 22).call f_steps_or_corner [shV p q r s, odd] h = .exc ⟨e_BadOther, some odd⟩ h := by
  rw [call_eq (d := 21) (D := D_steps_or_corner) rfl rfl rfl]
  have k0 := needPair H hh k
  simp only [evSs, evS, evB, evE, evEs, get, Out.bind, outS, shutS, CEs.len, arrange, evT, setO, eq_int, ne_int, lt_int, le_int, gt_int, ge_int, is_non, is_int, is_lst, is_tup, isnt_non, isnt_int, isnt_lst, isnt_tup, boolO, truV, resO, toSO, SO.thn, endO, killOf, List.getElem?_cons_zero, List.getElem?_cons_succ, List.set_cons_zero, List.set_cons_succ, List.replicate, Nat.beq, List.length_cons, List.length_nil, List.map_cons, List.map_nil, List.append_nil, List.cons_append, List.nil_append, decide_true, decide_false, startE, trim_same, CEs.len, Nat.reduceSub, Nat.reduceAdd, D_steps_or_corner, k0, Option.getD_some]
theorem ars {p q r s : Fr} (H : Sh p q r s) {odd : PV} {h : Hea} (hh : HT 18 h) (k : (evO P F 20).call f_kept_shares [odd] h = .ok .non h) : (evO P F 22).call f_are_steps [shV p q r s, odd, .non] h = .exc ⟨e_BadOther, some odd⟩ h := by
  rw [call_eq (d := 21) (D := D_are_steps) rfl rfl rfl]
  have k0 := needPair H hh k
  simp only [evSs, evS, evB, evE, evEs, get, Out.bind, outS, shutS, CEs.len, arrange, evT, setO, eq_int, ne_int, lt_int, le_int, gt_int, ge_int, is_non, is_int, is_lst, is_tup, isnt_non, isnt_int, isnt_lst, isnt_tup, boolO, truV, resO, toSO, SO.thn, endO, killOf, List.getElem?_cons_zero, List.getElem?_cons_succ, List.set_cons_zero, List.set_cons_succ, List.replicate, Nat.beq, List.length_cons, List.length_nil, List.map_cons, List.map_nil, List.append_nil, List.cons_append, List.nil_append, decide_true, decide_false, startE, trim_same, CEs.len, Nat.reduceSub, Nat.reduceAdd, D_are_steps, k0, Option.getD_some]
theorem shV_tree (p q r s : Fr) : tree false 3 (shV p q r s) = true := rfl
theorem lam_eq {d l : Nat} {L : Lam} {cap vs : List PV} {h : Hea} (hl : P.lams[l]? = some L) (e : (Nat.beq vs.length L.n && Nat.beq cap.length L.caps) = true) : (evO P F (d + 1)).lam l cap vs h = endE h (evE (evO P F d) L.body (startE L.slots (vs ++ cap)) h) := by
  simp only [evO, hl, e]
theorem lam7 {p q r s : Fr} (H : Sh p q r s) {odd : PV} {h : Hea} (hh : HT 18 h) (k : (evO P F 20).call f_kept_shares [odd] h = .ok .non h) : (evO P F 23).lam 7 [odd, shV p q r s] [] h = .exc ⟨e_BadOther, some odd⟩ h := by
  rw [lam_eq (d := 22) (L := L_7) rfl rfl]
  have k0 := soc H hh k
  have k1 := copied_ok (P := P) (F := F) (f := f__law_copied) rfl 3 _ (shV_tree p q r s) 18 h
  simp only [evSs, evS, evB, evE, evEs, get, Out.bind, outS, shutS, CEs.len, arrange, evT, setO, eq_int, ne_int, lt_int, le_int, gt_int, ge_int, is_non, is_int, is_lst, is_tup, isnt_non, isnt_int, isnt_lst, isnt_tup, boolO, truV, resO, toSO, SO.thn, endO, killOf, List.getElem?_cons_zero, List.getElem?_cons_succ, List.set_cons_zero, List.set_cons_succ, List.replicate, Nat.beq, List.length_cons, List.length_nil, List.map_cons, List.map_nil, List.append_nil, List.cons_append, List.nil_append, decide_true, decide_false, startE, trim_same, CEs.len, Nat.reduceSub, Nat.reduceAdd, L_7, k1, k0, endE, Option.getD_some]
theorem lam6 {p q r s : Fr} (H : Sh p q r s) {odd : PV} {h : Hea} (hh : HT 18 h) (k : (evO P F 20).call f_kept_shares [odd] h = .ok .non h) : (evO P F 23).lam 6 [odd, shV p q r s] [] h = .exc ⟨e_BadOther, some odd⟩ h := by
  rw [lam_eq (d := 22) (L := L_6) rfl rfl]
  have k0 := ars H hh k
  have k1 := copied_ok (P := P) (F := F) (f := f__law_copied) rfl 3 _ (shV_tree p q r s) 18 h
  simp only [evSs, evS, evB, evE, evEs, get, Out.bind, outS, shutS, CEs.len, arrange, evT, setO, eq_int, ne_int, lt_int, le_int, gt_int, ge_int, is_non, is_int, is_lst, is_tup, isnt_non, isnt_int, isnt_lst, isnt_tup, boolO, truV, resO, toSO, SO.thn, endO, killOf, List.getElem?_cons_zero, List.getElem?_cons_succ, List.set_cons_zero, List.set_cons_succ, List.replicate, Nat.beq, List.length_cons, List.length_nil, List.map_cons, List.map_nil, List.append_nil, List.cons_append, List.nil_append, decide_true, decide_false, startE, trim_same, CEs.len, Nat.reduceSub, Nat.reduceAdd, L_6, k1, k0, endE, Option.getD_some]
def metHs : List CH := D__law_met.body.hd.hs
theorem met_of {l : Nat} {cap : List PV} {odd : PV} {h : Hea} (k : (evO P F 23).lam l cap [] h = .exc ⟨e_BadOther, some odd⟩ h) : (evO P F 24).call f__law_met [.clo l 24 cap] h = .ok (.tup [other, odd]) h := by
  rw [call_eq (d := 23) (D := D__law_met) rfl rfl rfl]
  have mb : D__law_met.body = .cons (.try_ (.cons (.ret (.tup (.cons (.cst (.str ⟨#[116, 111, 108, 100]⟩)) (.cons (.callv 0 .nil) .nil)))) .nil) metHs) .nil := rfl
  have ce : ∀ env, catchO metHs ⟨e_BadOther, some odd⟩ env h = .rt (.tup [other, odd]) h := fun _ => rfl
  rw [mb]
  have sl : D__law_met.slots = 2 := rfl
  have lm : D__law_met.lm = false := rfl
  simp only [evSs, evS, evB, evE, evEs, get, Out.bind, outS, shutS, CEs.len, arrange, evT, setO, eq_int, ne_int, lt_int, le_int, gt_int, ge_int, is_non, is_int, is_lst, is_tup, isnt_non, isnt_int, isnt_lst, isnt_tup, boolO, truV, resO, toSO, SO.thn, endO, killOf, List.getElem?_cons_zero, List.getElem?_cons_succ, List.set_cons_zero, List.set_cons_succ, List.replicate, Nat.beq, List.length_cons, List.length_nil, List.map_cons, List.map_nil, List.append_nil, List.cons_append, List.nil_append, decide_true, decide_false, startE, trim_same, CEs.len, Nat.reduceSub, Nat.reduceAdd, sl, lm, k, ce, Option.getD_some]
theorem t3_ok {p q r s : Fr} (H : Sh p q r s) {odd : PV} {env : Env} {h : Hea} (hh : HT 18 h) (k : (evO P F 20).call f_kept_shares [odd] h = .ok .non h) (ht : tree true 21 odd = true) (e8 : get env 8 = some odd) (e10 : get env 10 = some (shV p q r s)) : evS O t3 env h = .nx env h := by
  rw [t3_eq]
  have m7 : (evO P F 24).call f__law_met [.clo 7 24 [odd, shV p q r s]] h = .ok (.tup [other, odd]) h := met_of (lam7 H hh k)
  have m6 : (evO P F 24).call f__law_met [.clo 6 24 [odd, shV p q r s]] h = .ok (.tup [other, odd]) h := met_of (lam6 H hh k)
  have tr : tree true 23 (.lst [.tup [other, odd], .tup [other, odd]]) = true := by
    have to : tree true 21 other = true := by simp [other, tree]
    simp only [tree, treeL, ht, to, Bool.and_true]; rfl
  have sm : (evO P F 24).call f__law_same [.lst [.tup [other, odd], .tup [other, odd]], .lst [.tup [other, odd], .tup [other, odd]]] h = .ok (.bl true) h := same_ok (P := P) (F := F) (f := f__law_same) rfl 23 _ tr 0 h
  have ga : getAll env [8, 10] = some [odd, shV p q r s] := by simp only [getAll, e8, e10]
  have tk : (evO P F 24).tok = 24 := rfl
  have l7 : evE O (.lam 7 [8, 10]) env h = .ok (.clo 7 24 [odd, shV p q r s]) h := by simp only [evE, ga, tk]
  have l6 : evE O (.lam 6 [8, 10]) env h = .ok (.clo 6 24 [odd, shV p q r s]) h := by simp only [evE, ga, tk]
  have v8 : evE O (.var 8) env h = .ok odd h := by simp only [evE, e8]
  have mu : binV .mul h (.lst [.tup [other, odd]]) (.int 2) = some (.new [.tup [other, odd], .tup [other, odd]]) := rfl
  have n1 : ∀ x : PV, newO true [x] h = .ok (.lst [x]) h := fun _ => rfl
  have n2 : ∀ x y : PV, newO true [x, y] h = .ok (.lst [x, y]) h := fun _ _ => rfl
  have b2 : Nat.ble 2 line = true := rfl
  have c7 : evE O (.call f__law_met (.cons (.lam 7 [8, 10]) .nil) .nil [0]) env h = .ok (.tup [other, odd]) h := by
    simp only [evE, evEs, ga, tk, Out.bind, CEs.len, List.length_cons, List.length_nil, Nat.beq, arrange, List.append_nil, List.getElem?_cons_zero, m7]
  have c6 : evE O (.call f__law_met (.cons (.lam 6 [8, 10]) .nil) .nil [0]) env h = .ok (.tup [other, odd]) h := by
    simp only [evE, evEs, ga, tk, Out.bind, CEs.len, List.length_cons, List.length_nil, Nat.beq, arrange, List.append_nil, List.getElem?_cons_zero, m6]
  generalize hC7 : CE.call f__law_met (.cons (.lam 7 [8, 10]) .nil) .nil [0] = C7 at *
  generalize hC6 : CE.call f__law_met (.cons (.lam 6 [8, 10]) .nil) .nil [0] = C6 at *
  generalize hV8 : CE.var 8 = V8 at *
  simp only [evSs, evS, evB, evE, evEs, get, Out.bind, outS, shutS, CEs.len, arrange, evT, setO, eq_int, ne_int, lt_int, le_int, gt_int, ge_int, is_non, is_int, is_lst, is_tup, isnt_non, isnt_int, isnt_lst, isnt_tup, boolO, truV, resO, toSO, SO.thn, endO, killOf, List.getElem?_cons_zero, List.getElem?_cons_succ, List.set_cons_zero, List.set_cons_succ, List.replicate, Nat.beq, List.length_cons, List.length_nil, List.map_cons, List.map_nil, List.append_nil, List.cons_append, List.nil_append, decide_true, decide_false, startE, trim_same, CEs.len, Nat.reduceSub, Nat.reduceAdd, c7, c6, v8, mu, n1, n2, b2, sm, Bool.not_true]
end K43
end PC

set_option Elab.async false
set_option maxRecDepth 100000
set_option maxHeartbeats 0
namespace PC
namespace K43
def one : PV := .tup [.int 1, .int 1]
def half : PV := .tup [.int 1, .int 2]
def nought : PV := .tup [.int 0, .int 1]
def dead2 : Hea := [.dead, .dead]
def s2 : CS := D_law.body.tl.tl.hd
def oddsE : CE := match s2 with
  | .drop _ (.asg _ (.tup (.cons _ (.cons e .nil)))) => e
  | _ => .stuck
def oddsX : List PV := [.non, .int (5), .str ⟨#[97, 98]⟩, .dct [] [], .lst [], .lst [.lst []], .lst [.non], .lst [.tup [.int (0), .int (1)]], .lst [.lst [.tup [.int (0), .int (1)]], .lst []], .lst [.lst [.tup [.int (0), .int (1)]], .lst [.tup [.int (0), .int (1)], .tup [.int (0), .int (1)]]], .lst [.lst [.tup [.int (0), .int (1)], .tup [.int (0), .int (1)]], .lst [.tup [.int (0), .int (1)]]], .lst [.lst [.non]], .lst [.lst [.int (0)]], .lst [.lst [.tup [.int (0), .int (2)]]], .lst [.lst [.tup [.int (2), .int (2)]]], .lst [.lst [.tup [.int (1), .int (0)]]], .lst [.lst [.tup [.int (1), .int (-1)]]], .lst [.lst [.tup [.bl true, .int (1)]]], .lst [.lst [.tup [.int (1), .bl true]]], .lst [.lst [.tup [.int (1)]]], .lst [.lst [.tup [.int (1), .int (1), .int (1)]]], .lst [.lst [.str ⟨#[97, 98]⟩]], .lst [.lst [.tup [.int (0), .int (1)]], .non], .lst [.lst [.tup [.int (0), .int (1)]], .int (5)], .lst [.lst [.lst [.tup [.int (0), .int (1)]]]], .tup [.int (0), .int (1)], .lst [.lst [.tup [.int (0), .int (1)]]], .lst [.lst [.tup [.int (1), .int (2)]]], .lst [.lst [.tup [.int (1), .int (1)], .tup [.int (1), .int (1)]]], .lst [.lst [.tup [.int (3), .int (2)], .tup [.int (-1), .int (2)]]], .lst [.lst [.tup [.int (1), .int (2)]], .lst [.tup [.int (1), .int (2)]], .lst [.tup [.int (1), .int (2)]]]]
def oAt (k : Nat) : PV := (oddsX[k]?).getD .non
def loopB : CSs := D_law.body.tl.tl.tl.hd.inner
/-- the first five statements of the loop -/
def five : CSs := match loopB with
  | .cons a (.cons b (.cons c (.cons d (.cons e _)))) => .cons a (.cons b (.cons c (.cons d (.cons e .nil))))
  | _ => .nil
def first5 (o : PV) (env : Env) (h : Hea) : SO := shutS (evT O (.name 8 true) o env h) fun e1 h3 => evSs O five e1 h3
def asks (o : PV) : HObj := .lst [.clo 1 24 [o], .clo 2 24 [o], .clo 3 24 [o, one]]
def envA (S : PV) (ns : List Int) : Nat → Env
  | 0 => [some (.scr ns), some (.ref 1), some (.lst oddsX), none, none, none, some half, some nought, none, some one, some S, none]
  | k + 1 => [some (.scr ns), some (.ref 1), some (.lst oddsX), some (.ref (2 + k)), none, none, some half, some nought, some (oAt k), some one, some S, none]
def heaA : Nat → Hea
  | 0 => dead2
  | k + 1 => List.replicate (2 + k) .dead ++ [asks (oAt k)]
theorem steps5 (a b c d e f g i : Int) (ns : List Int) : (List.range 31).map (fun k => first5 (oAt k) (envA (shV (a, b) (c, d) (e, f) (g, i)) ns k) (heaA k)) = (List.range 31).map (fun k => .nx (envA (shV (a, b) (c, d) (e, f) (g, i)) ns (k + 1)) (heaA (k + 1))) := by kernel_rfl
end K43
end PC

set_option Elab.async false
set_option maxRecDepth 100000
set_option maxHeartbeats 0
namespace PC
namespace K43
theorem kept20 : (List.range 31).map (fun k => (evO P F 20).call f_kept_shares [oAt k] (heaA (k + 1))) = (List.range 31).map (fun k => .ok .non (heaA (k + 1))) := by kernel_rfl
theorem trees : (List.range 31).all (fun k => tree true 21 (oAt k)) = true := by decide +kernel
theorem toks : (List.range 31).all (fun k => (heaA (k + 1)).all fun o => !o.hasTok 18) = true := by kernel_rfl
theorem map_at {α : Type} {f g : Nat → α} {n k : Nat} (h : (List.range n).map f = (List.range n).map g) (hk : k < n) : f k = g k := by
  have z := congrArg (·[k]?) h
  simpa [List.getElem?_map, List.getElem?_range hk] using z
theorem five_t3 : loopB = .cons five.hd (.cons five.tl.hd (.cons five.tl.tl.hd (.cons five.tl.tl.tl.hd (.cons five.tl.tl.tl.tl.hd (.cons t3 .nil))))) := rfl
theorem five_eq : five = .cons five.hd (.cons five.tl.hd (.cons five.tl.tl.hd (.cons five.tl.tl.tl.hd (.cons five.tl.tl.tl.tl.hd .nil)))) := rfl
theorem thn_nx {o : SO} : o.thn (fun e h => .nx e h) = o := by cases o <;> rfl
theorem thn_thn {o : SO} {f g : Env → Hea → SO} : (o.thn f).thn g = o.thn fun e h => (f e h).thn g := by cases o <;> rfl
/-- six statements -/
theorem six (env : Env) (h : Hea) : evSs O loopB env h = (evSs O five env h).thn fun e h1 => evS O t3 e h1 := by
  rw [five_t3, five_eq]
  simp only [evSs, thn_thn, CSs.hd, CSs.tl]
  congr 1; funext e1 h1; congr 1; funext e2 h2; congr 1; funext e3 h3; congr 1; funext e4 h4; congr 1; funext e5 h5
  simp only [SO.thn]
  cases evS O t3 e5 h5 <;> rfl
theorem step_at (p q r s : Fr) (H : Sh p q r s) (ns : List Int) {k : Nat} (hk : k < 31) : (shutS (evT O (.name 8 true) (oAt k) (envA (shV p q r s) ns k) (heaA k)) fun e1 h3 => evSs O loopB e1 h3) = .nx (envA (shV p q r s) ns (k + 1)) (heaA (k + 1)) := by
  have z := map_at (steps5 p.1 p.2 q.1 q.2 r.1 r.2 s.1 s.2 ns) hk
  have y := map_at kept20 hk
  have t := List.all_eq_true.mp trees k (List.mem_range.mpr hk)
  have w := List.all_eq_true.mp toks k (List.mem_range.mpr hk)
  have hh : HT 18 (heaA (k + 1)) := fun o ho => by
    have := List.all_eq_true.mp w o ho
    simpa using this
  unfold first5 at z
  cases e : evT O (.name 8 true) (oAt k) (envA (shV p q r s) ns k) (heaA k) with
  | ok e1 h1 =>
    simp only [shutS] at z ⊢
    rw [e] at z
    simp only [] at z
    rw [six, z]
    simp only [SO.thn]
    exact t3_ok H hh y t rfl rfl
  | exc _ _ => rw [e] at z; simp only [shutS] at z; cases z
  | bad => rw [e] at z; simp only [shutS] at z; cases z
theorem loop_at (p q r s : Fr) (H : Sh p q r s) (ns : List Int) : ∀ (n k : Nat), n + k = 31 → iterFor [] (fun x e h2 => shutS (evT O (.name 8 true) x e h2) fun e1 h3 => evSs O loopB e1 h3) ((List.range' k n).map oAt) (envA (shV p q r s) ns k) (heaA k) = .nx (envA (shV p q r s) ns 31) (heaA 31)
  | 0, k, e => by
    have : k = 31 := by omega
    subst this
    rfl
  | n + 1, k, e => by
    have z := step_at p q r s H ns (k := k) (by omega)
    simp only [List.range'_succ, List.map_cons, iterFor, gs0, z]
    exact loop_at p q r s H ns n (k + 1) (by omega)
theorem odds_range : oddsX = (List.range' 0 31).map oAt := by kernel_rfl
end K43
end PC

set_option Elab.async false
set_option maxRecDepth 100000
set_option maxHeartbeats 0
namespace PC
def isT : Out PV → Bool
  | .ok (.bl b) _ => b
  | _ => false
theorem isT_post {o : Out PV} {X : KX} (h : isT o = true) : o.post (fun v _ => v = .bl true) X := by
  cases o with
  | ok v h' => cases v <;> first | (simp [isT] at h; done) | (simp only [isT] at h; subst h; rfl)
  | exc _ _ => simp [isT] at h
  | bad => simp [isT] at h
namespace K43
def tailB : CSs := D_law.body.tl.tl.tl.tl
theorem tail_ok (a b c d e f g i : Int) (ns : List Int) : isT (endO [] (killOf 24 true) (evSs O tailB (envA (shV (a, b) (c, d) (e, f) (g, i)) ns 31) (heaA 31))) = true := by kernel_rfl
end K43
end PC

set_option Elab.async false
set_option maxRecDepth 100000
set_option maxHeartbeats 4000000
namespace PC
theorem hp_get {s : Stm} {l : Hea} {n : Nat} : (s.hp ++ l)[n + 2]? = l[n]? := rfl
theorem hp_set {s : Stm} {l : Hea} {n : Nat} {o : HObj} : (s.hp ++ l).set (n + 2) o = s.hp ++ l.set n o := rfl
theorem hp_length {s : Stm} {l : Hea} : (s.hp ++ l).length = l.length + 2 := by simp [Stm.hp]
theorem hp_app {s : Stm} {l m : Hea} : (s.hp ++ l) ++ m = s.hp ++ (l ++ m) := List.append_assoc ..
theorem tok_ints {t : Nat} : ∀ l : List Int, hasTokL t (l.map .int) = false
  | [] => rfl
  | a :: l => by simp only [List.map_cons, hasTokL, PV.hasTok, tok_ints l, Bool.or_self]
theorem hp_HT {s : Stm} {l : Hea} {t : Nat} (h : HT t l) : HT t (s.hp ++ l) := fun o ho => by
  rcases List.mem_append.mp ho with z | z
  · have : o = .lst (s.cells.map .int) ∨ o = .lst [.ref 0, .int s.c, .int s.k, .int s.m] := by simpa [Stm.hp] using z
    rcases this with rfl | rfl
    · exact tok_ints _
    · rfl
  · exact h o z
namespace K43
abbrev sixL : PV := .lst [.int 0, .int 0, .int 1, .int 1, .int 2, .int 3]
theorem pick6 {s : Stm} {n : Int} (hs : s.Ok n) (hn : n < 1000000) : ∃ (x : Int) (s' : Stm), 0 ≤ x ∧ x ≤ 3 ∧ s'.Ok (n + 1) ∧ ∀ rest d, (evO P F (d + 2)).call f__law_pick [.ref 1, sixL] (s.hp ++ rest) = .ok (.int x) (s'.hp ++ rest) := by
  obtain ⟨x, hx, s', o, e⟩ := pick_ok (P := P) (f := f__law_pick) (dr := f__law_draw) (F := F) rfl rfl hF2 hs (by omega) (b := false) (xs := [.int 0, .int 0, .int 1, .int 1, .int 2, .int 3]) (by decide) (by decide)
  have : x = .int 0 ∨ x = .int 1 ∨ x = .int 2 ∨ x = .int 3 := by
    simp only [List.mem_cons, List.not_mem_nil, or_false] at hx
    rcases hx with z | z | z | z | z | z <;> rw [z] <;> simp
  rcases this with rfl | rfl | rfl | rfl
  · exact ⟨0, s', by decide, by decide, o, e⟩
  · exact ⟨1, s', by decide, by decide, o, e⟩
  · exact ⟨2, s', by decide, by decide, o, e⟩
  · exact ⟨3, s', by decide, by decide, o, e⟩
def inC : CE := .comp false (.call f__law_pick (.cons (.var 0) (.cons (.lst true (.cons (.cst (.int 0)) (.cons (.cst (.int 0)) (.cons (.cst (.int 1)) (.cons (.cst (.int 1)) (.cons (.cst (.int 2)) (.cons (.cst (.int 3)) .nil))))))) .nil)) .nil [0, 1]) (.name 6 false) (.rng1 (.var 2)) .nil [6]
def outC : CE := .comp false inC (.name 5 false) (.rng1 (.var 1)) .nil [5]
def Oc : EO := { evO P F 23 with st := true }
theorem inC_ok {s : Stm} {n : Int} (hs : s.Ok n) (hn : n < 900000) (l : Hea) (o3 o4 o5 o6 o7 o8 : Option PV) : ∃ (a b : Int) (s' : Stm), 0 ≤ a ∧ a ≤ 3 ∧ 0 ≤ b ∧ b ≤ 3 ∧ s'.Ok (n + 2) ∧
    evE Oc inC [some (.ref 1), some (.int 2), some (.int 2), o3, o4, o5, o6, o7, o8] (s.hp ++ l) = .ok (.ref (l.length + 2)) (s'.hp ++ (l ++ [.lst [.int a, .int b]])) := by
  obtain ⟨a, s1, a0, a3, h1, e1⟩ := pick6 hs (by omega)
  obtain ⟨b, s2, b0, b3, h2, e2⟩ := pick6 h1 (by omega)
  refine ⟨a, b, s2, a0, a3, b0, b3, h2.mono (by omega), ?_⟩
  have oc : Oc.call = (evO P F 23).call := rfl
  have p1 : Oc.call f__law_pick [.ref 1, sixL] (s.hp ++ l) = .ok (.int a) (s1.hp ++ l) := e1 l 21
  have p2 : Oc.call f__law_pick [.ref 1, sixL] (s1.hp ++ l) = .ok (.int b) (s2.hp ++ l) := e2 l 21
  have r2 : intsFrom 0 (2 : Int).toNat = [.int 0, .int 1] := rfl
  have c0 : (-(2 ^ 62) ≤ (2 : Int) ∧ (2 : Int) < 2 ^ 62) = True := by simp
  have d1 : ∀ i : Int, Oc.dty (.int i) = false := fun _ => rfl
  have b2 : Nat.ble 2 line = true := rfl
  have n6 : ∀ h, newO true [.int 0, .int 0, .int 1, .int 1, .int 2, .int 3] h = .ok sixL h := fun _ => rfl
  have nl : ∀ h, newO false [.int a, .int b] h = .ok (.ref h.length) (h ++ [.lst [.int a, .int b]]) := fun _ => rfl
  simp only [inC, evE, evI, evEs, get, List.getElem?_cons_zero, List.getElem?_cons_succ, Out.bind, c0, if_true, r2, iterMap, gs0, evT, setO, Out.shut, evAll, wipe, List.set_cons_zero, List.set_cons_succ, List.length_cons, List.length_nil, Nat.reduceAdd, b2, CEs.len, Nat.beq, arrange, List.append_nil, List.cons_append, List.nil_append, n6, p1, p2, d1, Option.toList, nl, hp_length, hp_app]
theorem outC_ok {s : Stm} {n : Int} (hs : s.Ok n) (hn : n < 800000) (o3 o4 o5 o6 o7 o8 : Option PV) : ∃ (a b c d : Int) (s' : Stm), 0 ≤ a ∧ a ≤ 3 ∧ 0 ≤ b ∧ b ≤ 3 ∧ 0 ≤ c ∧ c ≤ 3 ∧ 0 ≤ d ∧ d ≤ 3 ∧ s'.Ok (n + 4) ∧
    evE Oc outC [some (.ref 1), some (.int 2), some (.int 2), o3, o4, o5, o6, o7, o8] (s.hp ++ []) = .ok (.ref 4) (s'.hp ++ [.lst [.int a, .int b], .lst [.int c, .int d], .lst [.ref 2, .ref 3]]) := by
  obtain ⟨a, b, s1, a0, a3, b0, b3, h1, e1⟩ := inC_ok hs (by omega) [] o3 o4 (some (.int 0)) o6 o7 o8
  obtain ⟨c, d, s2, c0, c3, d0, d3, h2, e2⟩ := inC_ok h1 (by omega) [.lst [.int a, .int b]] o3 o4 (some (.int 1)) o6 o7 o8
  refine ⟨a, b, c, d, s2, a0, a3, b0, b3, c0, c3, d0, d3, h2.mono (by omega), ?_⟩
  have r2 : intsFrom 0 (2 : Int).toNat = [.int 0, .int 1] := rfl
  have cc : (-(2 ^ 62) ≤ (2 : Int) ∧ (2 : Int) < 2 ^ 62) = True := by simp
  have d1 : ∀ i : Nat, Oc.dty (.ref i) = false := fun _ => rfl
  have b2 : Nat.ble 2 line = true := rfl
  have nl : ∀ h, newO false [.ref 2, .ref 3] h = .ok (.ref h.length) (h ++ [.lst [.ref 2, .ref 3]]) := fun _ => rfl
  simp only [List.length_nil, List.length_cons, Nat.reduceAdd, Nat.zero_add, List.nil_append, List.cons_append] at e1 e2
  simp only [outC, evE, evI, get, List.getElem?_cons_zero, List.getElem?_cons_succ, Out.bind, cc, if_true, r2, iterMap, gs0, evT, setO, Out.shut, evAll, wipe, List.set_cons_zero, List.set_cons_succ, List.length_cons, List.length_nil, Nat.reduceAdd, b2, e1, e2, d1, Option.toList, List.cons_append, List.nil_append, nl, hp_length, hp_app]
def putS : CS := .asg (.idx (.idx (.var 3) (.call f__law_draw (.cons (.var 0) (.cons (.var 1) .nil)) .nil [0, 1])) (.call f__law_draw (.cons (.var 0) (.cons (.var 2) .nil)) .nil [0, 1])) (.bin .add true (.cst (.int 1)) (.call f__law_draw (.cons (.var 0) (.cons (.cst (.int 3)) .nil)) .nil [0, 1]))
def cnt (a b c d : Int) : Hea := [.lst [.int a, .int b], .lst [.int c, .int d], .lst [.ref 2, .ref 3]]
theorem putS_ok {s : Stm} {n : Int} (hs : s.Ok n) (hn : n < 800000) {a b c d : Int} (a0 : 0 ≤ a) (a3 : a ≤ 3) (b0 : 0 ≤ b) (b3 : b ≤ 3) (c0 : 0 ≤ c) (c3 : c ≤ 3) (d0 : 0 ≤ d) (d3 : d ≤ 3) (o4 o5 o6 o7 o8 : Option PV) :
    ∃ (a' b' c' d' : Int) (s' : Stm), 0 ≤ a' ∧ a' ≤ 3 ∧ 0 ≤ b' ∧ b' ≤ 3 ∧ 0 ≤ c' ∧ c' ≤ 3 ∧ 0 ≤ d' ∧ d' ≤ 3 ∧ 1 ≤ a' + b' + c' + d' ∧ s'.Ok (n + 3) ∧
      evS Oc putS [some (.ref 1), some (.int 2), some (.int 2), some (.ref 4), o4, o5, o6, o7, o8] (s.hp ++ cnt a b c d) = .nx [some (.ref 1), some (.int 2), some (.int 2), some (.ref 4), o4, o5, o6, o7, o8] (s'.hp ++ cnt a' b' c' d') := by
  obtain ⟨v, s1, h1, v0, v1, e1⟩ := draw_ok (P := P) (f := f__law_draw) (F := F) rfl hF2 hs (by omega) (many := 3) (by decide) (by decide)
  obtain ⟨i, s2, h2, i0, i1, e2⟩ := draw_ok (P := P) (f := f__law_draw) (F := F) rfl hF2 h1 (by omega) (many := 2) (by decide) (by decide)
  obtain ⟨j, s3, h3, j0, j1, e3⟩ := draw_ok (P := P) (f := f__law_draw) (F := F) rfl hF2 h2 (by omega) (many := 2) (by decide) (by decide)
  have p1 : Oc.call f__law_draw [.ref 1, .int 3] (s.hp ++ cnt a b c d) = .ok (.int v) (s1.hp ++ cnt a b c d) := e1 _ 22
  have p2 : Oc.call f__law_draw [.ref 1, .int 2] (s1.hp ++ cnt a b c d) = .ok (.int i) (s2.hp ++ cnt a b c d) := e2 _ 22
  have p3 : Oc.call f__law_draw [.ref 1, .int 2] (s2.hp ++ cnt a b c d) = .ok (.int j) (s3.hp ++ cnt a b c d) := e3 _ 22
  have g4 : ∀ s : Stm, seqOf (s.hp ++ cnt a b c d) (.ref 4) = some (false, [.ref 2, .ref 3]) := fun _ => rfl
  have u0 : ∀ (s : Stm) (y : Int) (env : Env), putO (s.hp ++ cnt a b c d) (.ref 2) (.int 0) (.int y) env = .ok env (s.hp ++ cnt y b c d) := fun _ _ _ => rfl
  have u1 : ∀ (s : Stm) (y : Int) (env : Env), putO (s.hp ++ cnt a b c d) (.ref 2) (.int 1) (.int y) env = .ok env (s.hp ++ cnt a y c d) := fun _ _ _ => rfl
  have u2 : ∀ (s : Stm) (y : Int) (env : Env), putO (s.hp ++ cnt a b c d) (.ref 3) (.int 0) (.int y) env = .ok env (s.hp ++ cnt a b y d) := fun _ _ _ => rfl
  have u3 : ∀ (s : Stm) (y : Int) (env : Env), putO (s.hp ++ cnt a b c d) (.ref 3) (.int 1) (.int y) env = .ok env (s.hp ++ cnt a b c y) := fun _ _ _ => rfl
  have m := h3.mono (m := n + 3) (by omega)
  have ii : i = 0 ∨ i = 1 := by omega
  have jj : j = 0 ∨ j = 1 := by omega
  rcases ii with rfl | rfl <;> rcases jj with rfl | rfl
  · refine ⟨1 + v, b, c, d, s3, by omega, by omega, b0, b3, c0, c3, d0, d3, by omega, m, ?_⟩
    simp only [putS, evS, evE, evEs, get, List.getElem?_cons_zero, List.getElem?_cons_succ, Out.bind, outS, shutS, evT, Out.shut, CEs.len, List.length_cons, List.length_nil, Nat.reduceAdd, Nat.beq, arrange, List.cons_append, List.nil_append, List.append_nil, p1, p2, p3, add_of, resO, g4, ix20, ix21, u0, u1, u2, u3]
  · refine ⟨a, 1 + v, c, d, s3, a0, a3, by omega, by omega, c0, c3, d0, d3, by omega, m, ?_⟩
    simp only [putS, evS, evE, evEs, get, List.getElem?_cons_zero, List.getElem?_cons_succ, Out.bind, outS, shutS, evT, Out.shut, CEs.len, List.length_cons, List.length_nil, Nat.reduceAdd, Nat.beq, arrange, List.cons_append, List.nil_append, List.append_nil, p1, p2, p3, add_of, resO, g4, ix20, ix21, u0, u1, u2, u3]
  · refine ⟨a, b, 1 + v, d, s3, a0, a3, b0, b3, by omega, by omega, d0, d3, by omega, m, ?_⟩
    simp only [putS, evS, evE, evEs, get, List.getElem?_cons_zero, List.getElem?_cons_succ, Out.bind, outS, shutS, evT, Out.shut, CEs.len, List.length_cons, List.length_nil, Nat.reduceAdd, Nat.beq, arrange, List.cons_append, List.nil_append, List.append_nil, p1, p2, p3, add_of, resO, g4, ix20, ix21, u0, u1, u2, u3]
  · refine ⟨a, b, c, 1 + v, s3, a0, a3, b0, b3, c0, c3, by omega, by omega, by omega, m, ?_⟩
    simp only [putS, evS, evE, evEs, get, List.getElem?_cons_zero, List.getElem?_cons_succ, Out.bind, outS, shutS, evT, Out.shut, CEs.len, List.length_cons, List.length_nil, Nat.reduceAdd, Nat.beq, arrange, List.cons_append, List.nil_append, List.append_nil, p1, p2, p3, add_of, resO, g4, ix20, ix21, u0, u1, u2, u3]
def sumI : CE := .comp true (.bi .sum true (.cons (.var 7) .nil)) (.name 7 false) (.e (.var 3)) .nil [7]
def sumS : CS := .asg (.name 4 true) (.bi .sum true (.cons sumI .nil))
theorem cnt_HT {t : Nat} {a b c d : Int} : HT t (cnt a b c d) := fun o ho => by
  have : o = .lst [.int a, .int b] ∨ o = .lst [.int c, .int d] ∨ o = .lst [.ref 2, .ref 3] := by simpa [cnt] using ho
  rcases this with rfl | rfl | rfl <;> rfl
theorem gs_cnt {s : Stm} {a b c d : Int} : gsB [(4, [.ref 2, .ref 3])] (s.hp ++ cnt a b c d) = true := rfl
theorem its_cnt {s : Stm} {a b c d : Int} : itsOf (s.hp ++ cnt a b c d) (.ref 4) = some ⟨[(4, [.ref 2, .ref 3])], [.ref 2, .ref 3]⟩ := rfl
theorem sumS_ok {s : Stm} {a b c d : Int} (o5 o6 o8 : Option PV) (k5 : o5 = none) (k6 : o6 = none) (k8 : o8 = none) :
    evS Oc sumS [some (.ref 1), some (.int 2), some (.int 2), some (.ref 4), none, o5, o6, none, o8] (s.hp ++ cnt a b c d) = .nx [some (.ref 1), some (.int 2), some (.int 2), some (.ref 4), some (.int (a + b + c + d)), o5, o6, none, o8] (s.hp ++ cnt a b c d) := by
  subst k5; subst k6; subst k8
  have c1 : evE Oc sumI [some (.ref 1), some (.int 2), some (.int 2), some (.ref 4), none, none, none, none, none] (s.hp ++ cnt a b c d) = .ok (.lst [.int (a + b), .int (c + d)]) (s.hp ++ cnt a b c d) := by
    have b1 : biV .sum (s.hp ++ cnt a b c d) [.ref 2] = some (.val (.int ([a, b].sum))) := rfl
    have b2 : biV .sum (s.hp ++ cnt a b c d) [.ref 3] = some (.val (.int ([c, d].sum))) := rfl
    have l2 : Nat.ble 2 line = true := rfl
    have d1 : ∀ i : Int, Oc.dty (.int i) = false := fun _ => rfl
    have n2 : ∀ (x y : PV) h, newO true [x, y] h = .ok (.lst [x, y]) h := fun _ _ _ => rfl
    simp only [sumI, evE, evI, evEs, get, List.getElem?_cons_zero, List.getElem?_cons_succ, Out.bind, its_cnt, iterMap, gs_cnt, evT, setO, Out.shut, evAll, wipe, List.set_cons_zero, List.set_cons_succ, List.length_cons, List.length_nil, Nat.reduceAdd, l2, b1, b2, resO, d1, Option.toList, List.cons_append, List.nil_append, n2, List.sum_cons, List.sum_nil, Int.add_zero]
  have b3 : biV .sum (s.hp ++ cnt a b c d) [.lst [.int (a + b), .int (c + d)]] = some (.val (.int ([a + b, c + d].sum))) := rfl
  have k1 : ∀ i : Int, (Oc.st && !(PV.hasTok Oc.tok (.int i))) = true := fun _ => rfl
  have k2 : killE Oc.tok [some (.ref 1), some (.int 2), some (.int 2), some (.ref 4), none, none, none, none, none] = [some (.ref 1), some (.int 2), some (.int 2), some (.ref 4), none, none, none, none, none] := rfl
  have k3 : killH Oc.tok (s.hp ++ cnt a b c d) = s.hp ++ cnt a b c d := killH_id (hp_HT cnt_HT)
  have sm : [a + b, c + d].sum = a + b + c + d := by simp; omega
  simp only [sumS, evS, evE, evEs, Out.bind, outS, c1, b3, resO, evT, setO, k1, k2, k3, shutS, List.set_cons_zero, List.set_cons_succ, sm]
def frI : CE := .comp true (.call f__law_frac (.cons (.var 8) (.cons (.var 4) .nil)) .nil [0, 1]) (.name 8 false) (.e (.var 7)) .nil [8]
def frE : CE := .comp true frI (.name 7 false) (.e (.var 3)) .nil [7]
theorem lawFrac : RedOk P F f__law_frac := frac_Ok (g := f__law_share) rfl rfl hF
theorem frE_ok {s : Stm} {a b c d : Int} (a0 : 0 ≤ a) (a3 : a ≤ 3) (b0 : 0 ≤ b) (b3 : b ≤ 3) (c0 : 0 ≤ c) (c3 : c ≤ 3) (d0 : 0 ≤ d) (d3 : d ≤ 3) {w : Int} (w1 : 1 ≤ w) (w2 : w ≤ 12) :
    evE Oc frE [some (.ref 1), some (.int 2), some (.int 2), some (.ref 4), some (.int w), none, none, none, none] (s.hp ++ cnt a b c d) = .ok (shV (red a w) (red b w) (red c w) (red d w)) (s.hp ++ cnt a b c d) := by
  have fc : ∀ x : Int, 0 ≤ x → x ≤ 3 → Oc.call f__law_frac [.int x, .int w] (s.hp ++ cnt a b c d) = .ok (fr (red x w)) (s.hp ++ cnt a b c d) := fun x x0 x3 => lawFrac (k := 4) (by omega) (by omega) (by omega) (by decide) 21 _
  have dr : ∀ q : Fr, Oc.dty (fr q) = false := fun _ => rfl
  have l2 : Nat.ble 2 line = true := rfl
  have n2 : ∀ (x y : PV) h, newO true [x, y] h = .ok (.lst [x, y]) h := fun _ _ _ => rfl
  have row : ∀ (n : Nat) (x y : Int), itsOf (s.hp ++ cnt a b c d) (.ref n) = some ⟨[(n, [.int x, .int y])], [.int x, .int y]⟩ → gsB [(n, [.int x, .int y])] (s.hp ++ cnt a b c d) = true → 0 ≤ x → x ≤ 3 → 0 ≤ y → y ≤ 3 →
      evE Oc frI [some (.ref 1), some (.int 2), some (.int 2), some (.ref 4), some (.int w), none, none, some (.ref n), none] (s.hp ++ cnt a b c d) = .ok (rowv [red x w, red y w]) (s.hp ++ cnt a b c d) := fun n x y i g x0 x3 y0 y3 => by
    simp only [frI, evE, evI, evEs, get, List.getElem?_cons_zero, List.getElem?_cons_succ, Out.bind, i, iterMap, g, evT, setO, Out.shut, evAll, wipe, List.set_cons_zero, List.set_cons_succ, List.length_cons, List.length_nil, Nat.reduceAdd, l2, CEs.len, Nat.beq, arrange, List.append_nil, fc x x0 x3, fc y y0 y3, dr, Option.toList, List.cons_append, List.nil_append, n2, rowv, List.map_cons, List.map_nil]
  have gi : ∀ (n : Nat) (x y : Int), (s.hp ++ cnt a b c d)[n]? = some (.lst [.int x, .int y]) → gsB [(n, [.int x, .int y])] (s.hp ++ cnt a b c d) = true := fun n x y e => by
    simp only [gsB, e, sameL_refl, Bool.and_self]
  have r1 := row 2 a b rfl (gi 2 a b rfl) a0 a3 b0 b3
  have r2 := row 3 c d rfl (gi 3 c d rfl) c0 c3 d0 d3
  have dl : ∀ x y : Fr, Oc.dty (rowv [x, y]) = false := fun _ _ => rfl
  simp only [frE, evE, evI, get, List.getElem?_cons_zero, List.getElem?_cons_succ, Out.bind, its_cnt, iterMap, gs_cnt, evT, setO, Out.shut, evAll, wipe, List.set_cons_zero, List.set_cons_succ, List.length_cons, List.length_nil, Nat.reduceAdd, l2, r1, r2, dl, Option.toList, List.cons_append, List.nil_append, n2, shV, tabv, List.map_cons, List.map_nil]
end K43
end PC

set_option Elab.async false
set_option maxRecDepth 100000
set_option maxHeartbeats 4000000
namespace PC
theorem bnd_ints {n : Nat} : ∀ l : List Int, bndL n (l.map .int) = true
  | [] => rfl
  | a :: l => by simp only [List.map_cons, bndL, PV.bnd, bnd_ints l, Bool.and_self]
theorem trim_hp {s s' : Stm} {l : Hea} {v : PV} (h1 : 0 < l.length) (h2 : v.bnd 2 = true) : trimH s.hp (s'.hp ++ l) v = s'.hp := by
  have e : Nat.ble (s'.hp ++ l).length s.hp.length = false := by
    rw [hp_length]
    show Nat.ble (l.length + 2) 2 = false
    exact Bool.eq_false_iff.mpr fun z => by have := Nat.le_of_ble_eq_true z; omega
  have t : (s'.hp ++ l).take s.hp.length = s'.hp := rfl
  unfold trimH
  rw [e, t]
  have b : (s'.hp.all fun o => o.bnd s.hp.length) = true := by
    show (bndL 2 (s'.cells.map .int) && (true && true)) = true
    rw [bnd_ints]; rfl
  have h2' : v.bnd s.hp.length = true := h2
  simp only [h2', b, Bool.and_self]
namespace K43
theorem cs_body : D__law_c_shares.body = .cons (.asg (.name 3 false) outC) (.cons putS (.cons sumS (.cons (.ret frE) .nil))) := rfl
theorem shares_ok {s : Stm} {n : Int} (hs : s.Ok n) (hn : n < 700000) : ∃ (a b c d : Int) (s' : Stm), 0 ≤ a ∧ a ≤ 3 ∧ 0 ≤ b ∧ b ≤ 3 ∧ 0 ≤ c ∧ c ≤ 3 ∧ 0 ≤ d ∧ d ≤ 3 ∧ 1 ≤ a + b + c + d ∧
    (evO P F 24).call f__law_c_shares [.ref 1, .int 2, .int 2] s.hp = .ok (shV (red a (a + b + c + d)) (red b (a + b + c + d)) (red c (a + b + c + d)) (red d (a + b + c + d))) s'.hp := by
  obtain ⟨a1, b1, c1, d1, s1, x0, x1, x2, x3, x4, x5, x6, x7, h1, e1⟩ := outC_ok hs (by omega) none none none none none none
  obtain ⟨a, b, c, d, s2, a0, a3, b0, b3, c0, c3, d0, d3, one, h2, e2⟩ := putS_ok h1 (by omega) x0 x1 x2 x3 x4 x5 x6 x7 none none none none none
  refine ⟨a, b, c, d, s2, a0, a3, b0, b3, c0, c3, d0, d3, one, ?_⟩
  have e3 := sumS_ok (s := s2) (a := a) (b := b) (c := c) (d := d) none none none rfl rfl rfl
  have e4 := frE_ok (s := s2) a0 a3 b0 b3 c0 c3 d0 d3 one (show a + b + c + d ≤ 12 by omega)
  rw [call_eq (d := 23) (D := D__law_c_shares) rfl rfl rfl]
  show endO s.hp (some 23) (evSs Oc D__law_c_shares.body [some (.ref 1), some (.int 2), some (.int 2), none, none, none, none, none, none] s.hp) = _
  rw [cs_body]
  rw [List.append_nil] at e1
  have nt : ∀ p q r s : Fr, (shV p q r s).hasTok 23 = false := fun _ _ _ _ => rfl
  have bd : ∀ p q r s : Fr, (shV p q r s).bnd 2 = true := fun _ _ _ _ => rfl
  have kh : killH 23 (s2.hp ++ cnt a b c d) = s2.hp ++ cnt a b c d := killH_id (hp_HT cnt_HT)
  have st1 : evS Oc (.asg (.name 3 false) outC) [some (.ref 1), some (.int 2), some (.int 2), none, none, none, none, none, none] s.hp = .nx [some (.ref 1), some (.int 2), some (.int 2), some (.ref 4), none, none, none, none, none] (s1.hp ++ cnt a1 b1 c1 d1) := by
    simp only [evS, e1, outS, evT, setO, shutS, List.set_cons_zero, List.set_cons_succ]
    rfl
  simp only [evSs, st1, e2, e3, SO.thn]
  simp only [evS, e4, toSO, endO, nt, kh, trim_hp (s := s) (s' := s2) (l := cnt a b c d) (Nat.le_of_ble_eq_true rfl) (bd _ _ _ _)]
end K43
end PC

set_option Elab.async false
set_option maxRecDepth 100000
set_option maxHeartbeats 4000000
namespace PC
namespace K43
def chk (a b c d : Nat) : Bool := let w : Int := (a : Int) + b + c + d; w == 0 || (decide (0 ≤ (red a w).1) && decide (0 ≤ (red b w).1) && decide (0 ≤ (red c w).1) && decide (0 ≤ (red d w).1) && decide (qsum [qsum [red a w, red b w], qsum [red c w, red d w]] = (1, 1)))
theorem chk_all : ((List.range 4).all fun a => (List.range 4).all fun b => (List.range 4).all fun c => (List.range 4).all fun d => chk a b c d) = true := by decide +kernel
theorem sh_ok {a b c d : Int} (a0 : 0 ≤ a) (a3 : a ≤ 3) (b0 : 0 ≤ b) (b3 : b ≤ 3) (c0 : 0 ≤ c) (c3 : c ≤ 3) (d0 : 0 ≤ d) (d3 : d ≤ 3) (one : 1 ≤ a + b + c + d) :
    Sh (red a (a + b + c + d)) (red b (a + b + c + d)) (red c (a + b + c + d)) (red d (a + b + c + d)) := by
  obtain ⟨a, rfl⟩ := Int.eq_ofNat_of_zero_le a0
  obtain ⟨b, rfl⟩ := Int.eq_ofNat_of_zero_le b0
  obtain ⟨c, rfl⟩ := Int.eq_ofNat_of_zero_le c0
  obtain ⟨d, rfl⟩ := Int.eq_ofNat_of_zero_le d0
  have m : ∀ x : Nat, (x : Int) ≤ 3 → x ∈ List.range 4 := fun x hx => List.mem_range.mpr (by omega)
  have z := List.all_eq_true.mp (List.all_eq_true.mp (List.all_eq_true.mp (List.all_eq_true.mp chk_all a (m a a3)) b (m b b3)) c (m c c3)) d (m d d3)
  unfold chk at z
  have w0 : (((a : Int) + b + c + d) == 0) = false := beq_false_of_ne (by omega)
  simp only [w0, Bool.false_or, Bool.and_eq_true, decide_eq_true_eq] at z
  obtain ⟨⟨⟨⟨z1, z2⟩, z3⟩, z4⟩, z5⟩ := z
  have g : ∀ x : Int, 0 ≤ x → x ≤ 3 → Good (red x ((a : Int) + b + c + d)) ∧ Sz 8 (red x ((a : Int) + b + c + d)) := fun x x0 x3 => ⟨red_good (by omega), red_sz (by omega) (by omega) (by omega)⟩
  refine ⟨fun q hq => ?_, z1, z2, z3, z4, z5⟩
  simp only [List.mem_cons, List.not_mem_nil, or_false] at hq
  rcases hq with e | e | e | e <;> rw [e]
  · exact g _ a0 a3
  · exact g _ b0 b3
  · exact g _ c0 c3
  · exact g _ d0 d3
end K43
end PC

set_option Elab.async false
set_option maxRecDepth 100000
set_option maxHeartbeats 0
namespace PC
namespace K43
theorem odds_eq (s : Stm) (ns : List Int) : evE O oddsE [some (.scr ns), some (.ref 1), none, none, none, none, some half, some nought, none, some one, none, none] s.hp = .ok (.lst oddsX) s.hp := by kernel_rfl
end K43
end PC

set_option Elab.async false
set_option maxRecDepth 100000
set_option maxHeartbeats 4000000
namespace PC
namespace K43
def st0 : CS := .asg (.name 1 false) (.call f__law_stream (.cons (.var 0) .nil) .nil [0])
def st1 : CS := .asg (.tup (.cons (.name 9 true) (.cons (.name 6 true) (.cons (.name 7 true) .nil)))) (.tup (.cons (.tup (.cons (.cst (.int 1)) (.cons (.cst (.int 1)) .nil))) (.cons (.tup (.cons (.cst (.int 1)) (.cons (.cst (.int 2)) .nil))) (.cons (.tup (.cons (.cst (.int 0)) (.cons (.cst (.int 1)) .nil))) .nil))))
def st2 : CS := .drop 1 (.asg (.tup (.cons (.name 10 true) (.cons (.name 2 false) .nil))) (.tup (.cons (.call f__law_c_shares (.cons (.var 1) (.cons (.cst (.int 2)) (.cons (.cst (.int 2)) .nil))) .nil [0, 1, 2]) (.cons oddsE .nil))))
theorem law_body : D_law.body = .cons st0 (.cons st1 (.cons st2 (.cons (.for_ (.name 8 true) (.e (.var 2)) loopB) tailB))) := rfl
theorem law_run (ns : List Int) (hl : ns.length ≤ 63) : ((evO P F 25).call f_law [.scr ns] []).post (fun v _ => v = .bl true) fun _ _ => False := by
  obtain ⟨s, hs, e1⟩ := stream_ok (P := P) (f := f__law_stream) (F := F) rfl hl
  obtain ⟨a, b, c, d, s', a0, a3, b0, b3, c0, c3, d0, d3, one1, e2⟩ := shares_ok hs (by decide)
  have H := sh_ok a0 a3 b0 b3 c0 c3 d0 d3 one1
  refine isT_post ?_
  have q0 : (evO P F 25).call f_law [.scr ns] [] = endO [] (killOf 24 true) (evSs O D_law.body [some (.scr ns), none, none, none, none, none, none, none, none, none, none, none] []) := rfl
  have q1 : (evO P F 24).call f__law_stream [.scr ns] [] = .ok (.ref 1) s.hp := e1 23
  have r0 : evS O st0 [some (.scr ns), none, none, none, none, none, none, none, none, none, none, none] [] = .nx [some (.scr ns), some (.ref 1), none, none, none, none, none, none, none, none, none, none] s.hp := by
    simp [st0, evS, evE, evEs, Out.bind, get, CEs.len, arrange, q1, outS, shutS, evT, setO]
  have kh : ∀ s : Stm, killH 24 s.hp = s.hp := fun s => by
    have := killH_id (hp_HT (s := s) (l := []) (t := 24) (fun o ho => by cases ho))
    rwa [List.append_nil] at this
  have r1 : evS O st1 [some (.scr ns), some (.ref 1), none, none, none, none, none, none, none, none, none, none] s.hp = .nx [some (.scr ns), some (.ref 1), none, none, none, none, some half, some nought, none, some one, none, none] s.hp := by
    have l2 : Nat.ble 2 line = true := rfl
    have l3 : Nat.ble 3 line = true := rfl
    have tk : (evO P F 24).tok = 24 := rfl
    simp [st1, evS, evE, evEs, Out.bind, outS, shutS, evT, evTs, setO, CTs.len, EO.dtyL, Out.shut, PV.hasTok, hasTokL, killE, kh, tk, l2, l3, one, half, nought, Nat.beq]
  have q2 : (evO P F 24).call f__law_c_shares [.ref 1, .int 2, .int 2] s.hp = .ok (shV (red a (a + b + c + d)) (red b (a + b + c + d)) (red c (a + b + c + d)) (red d (a + b + c + d))) s'.hp := e2
  generalize red a (a + b + c + d) = p at *
  generalize red b (a + b + c + d) = q at *
  generalize red c (a + b + c + d) = r at *
  generalize red d (a + b + c + d) = t at *
  have oe := odds_eq s' ns
  have r2 : evS O st2 [some (.scr ns), some (.ref 1), none, none, none, none, some half, some nought, none, some one, none, none] s.hp = .nx (envA (shV p q r t) ns 0) (heaA 0) := by
    have l2 : Nat.ble 2 line = true := rfl
    have tk : (evO P F 24).tok = 24 := rfl
    have ts : (shV p q r t).hasTok 24 = false := rfl
    have to : hasTokL 24 oddsX = false := by kernel_rfl
    have th : PV.hasTok 24 half = false := rfl
    have tn : PV.hasTok 24 nought = false := rfl
    have t1 : PV.hasTok 24 one = false := rfl
    simp [st2, evS, evE, evEs, Out.bind, get, CEs.len, arrange, q2, oe, l2, outS, shutS, evT, evTs, setO, CTs.len, EO.dtyL, Out.shut, hasTokL, ts, to, killE, kh, tk, th, tn, t1, Nat.beq, SO.thn, PV.hasTok, envA, heaA, dead2]
    simp [dropE, dropV, dropL, Stm.hp, dropL_ints]
  have r3 := loop_at p q r t H ns 31 0 rfl
  rw [← odds_range] at r3
  have r4 : evS O (.for_ (.name 8 true) (.e (.var 2)) loopB) (envA (shV p q r t) ns 0) (heaA 0) = .nx (envA (shV p q r t) ns 31) (heaA 31) := by
    rw [evS_for (its := ⟨[], oddsX⟩) (h1 := heaA 0) (evI_var rfl rfl) (by kernel_rfl)]
    exact r3
  rw [q0, law_body]
  simp only [evSs, r0, r1, r2, r4, SO.thn]
  exact tail_ok p.1 p.2 q.1 q.2 r.1 r.2 t.1 t.2 ns
end K43
end PC

set_option Elab.async false
set_option maxRecDepth 100000
set_option maxHeartbeats 0
open PySem PySem.W PySem.Calls PyProof.Rows
theorem PySem.Challenge.cw_downcorners_k43_together_refused_holds : PySem.Challenge.rw_downcorners_k43_together_refused.Holds := by
  w_on; o_law
  refine HandSHeadRun.head_any (r := PC.K43.R) (q := view PC.K43.R.prog [75]) (H := PC.K43.hk) (ob := PC.K43.ob) (M := 20000) (loose := PC.K43.loose) (d := HandSHeadRun.topDef PC.K43.R.prog 75) (kwd := []) PC.K43.ob_eq
    (by kernel_rfl) (fun s => by kernel_rfl) PC.K43.run (by kernel_rfl) (by kernel_rfl) (by kernel_rfl) (by rfl) (by first | assumption | decide +kernel) (by decide +kernel) ⟨rfl, rfl, rfl, rfl, rfl, by decide +kernel⟩ ?hw ?hc
  case hw => w_witness2
  case hc => exact (PC.law_holds (l := PySem.Challenge.rw_downcorners_k43_together_refused) PC.K43.fits (n := 63) (li := 55) (d := 24) (Fu := PC.K43.F) rfl (by decide) rfl rfl rfl ⟨rfl, by decide, by decide⟩ fun ns hl _ => PC.K43.law_run ns hl).elim id fun z => absurd rfl z
