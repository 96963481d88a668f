import PyProof.Rows.All
import Wide.All
import OpenK.AllK
import Wide.FinOn
import HandS.Base
import HandS.Call
import HandS.List
import HandS.Comp
import HandS.Ends
import HandS.Iter
import HandS.Exc
import HandS.ExcOwn
import KE.DataCmp
import HandS.Words
import HandS.WordsList
import HandS.WordsExc
import HandS.CallSlots
import HandS.Defaults
import HandS.Text
import HandS.TupAny
import HandS.Style
import HandS.Wide
import HandS.Conv
import HandS.IsInst
import HandS.Deep
import HandS.ExcIs
import HandS.Strs
import HandS.OwnIter
import HandS.NamedTupGet
import KE.GoesComp
import HandS.SetFor
import HandS.TryOnly
import HandS.SortInts
import HandS.SortOrd
import HandS.Sort
import HandS.Zip
import KE.GoesNew
import KE.GoesRev
import HandS.RepeatKit
import HandS.ClsMeth
import HandS.More
import HandS.Head0
import HandS.Head1
import HandS.Head2
import HandS.HeadEnd
import HandS.HeadHook1
import HandS.HeadHook2
import KE.DatumMore
import PySem.Challenge.RW_judgetables_k20_whole_named
set_option Elab.async false
set_option linter.all false
set_option maxRecDepth 100000
set_option maxHeartbeats 8000000
/-! The tree layer: Python data as trees over the abstract heap; an evaluator of the text on trees. -/
namespace T
open PySem PySem.Spec PyProof.Rows L2

abbrev D := PyData
/-- a handle of a changing object; a caught error -/
def hdl (k : Nat) : D := .dict [(.int k, .none)]
def exc (c : Str) : D := .dict [(.str c, .none)]
abbrev Rho := List (Option D)

/-! ### results -/
inductive Res (W α : Type) where
  | ok (a : α) (w : W)
  | ex (c : Str) (w : W)
  | no
def Res.bind {W α β : Type} : Res W α → (α → W → Res W β) → Res W β
  | .ok a w, f => f a w
  | .ex c w, _ => .ex c w
  | .no, _ => .no
def lift {W α : Type} : Option α → W → Res W α
  | some a, w => .ok a w
  | none, _ => .no
def guardR {W α : Type} : Bool → Res W α → Res W α
  | true, x => x
  | false, _ => .no
/-- a block's own errors go on -/
def calmR {W α : Type} (r : Res W α) : Res W α := r
def trav {W α β : Type} (f : α → W → Res W β) : List α → W → Res W (List β)
  | [], w => .ok [] w
  | a :: as, w => (f a w).bind fun b w => (trav f as w).bind fun bs w => .ok (b :: bs) w
def compR {W : Type} (g : D → W → Res W (Option D)) : List D → W → Res W (List D)
  | [], w => .ok [] w
  | a :: as, w => (g a w).bind fun o w => (compR g as w).bind fun bs w => .ok (match o with
    | some b => b :: bs
    | none => bs) w
def sl {W : Type} (ρ : Rho) (i : Nat) (w : W) : Res W D := match ρ[i]? with
  | some (some d) => .ok d w
  | _ => .no
def asBool {W : Type} : D → W → Res W Bool
  | .bool b, w => .ok b w
  | _, _ => .no
def andR {W : Type} : List (W → Res W Bool) → W → Res W Bool
  | [], _ => .no
  | [x], w => x w
  | x :: y :: xs, w => (x w).bind fun b w => match b with
    | true => andR (y :: xs) w
    | false => .ok false w
def orR {W : Type} : List (W → Res W Bool) → W → Res W Bool
  | [], _ => .no
  | [x], w => x w
  | x :: y :: xs, w => (x w).bind fun b w => match b with
    | true => .ok true w
    | false => orR (y :: xs) w
def iteR {W α : Type} (c : Res W Bool) (a b : W → Res W α) : Res W α := c.bind fun t w => match t with
  | true => a w
  | false => b w

/-! ### operations on trees -/
def lenOk (n : Nat) : Bool := decide (n ≤ 1000000)
def mulOk (i j : Int) : Bool := decide (i.natAbs < 18446744073709551616) || decide (j.natAbs < 18446744073709551616)
def binD : Operator → D → D → Option D
  | .Add, .int i, .int j => some (.int (i + j))
  | .Add, .list xs, .list ys => if lenOk (xs.length + ys.length) then some (.list (xs ++ ys)) else none
  | .Add, .tuple xs, .tuple ys => if lenOk (xs.length + ys.length) then some (.tuple (xs ++ ys)) else none
  | .Add, .str x, .str y => if lenOk (x.length + y.length) then some (.str (x ++ y)) else none
  | .Sub, .int i, .int j => some (.int (i - j))
  | .Mult, .int i, .int j => if mulOk i j then some (.int (i * j)) else none
  | .Mult, .list xs, .int k => if lenOk (xs.length * k.toNat) && decide (k.natAbs < 1000000000) then some (.list (List.replicate k.toNat xs).flatten) else none
  | .FloorDiv, .int i, .int j => if decide (0 < j) && decide (j < 1000000000000000000000000000000) then some (.int (i / j)) else none
  | .Mod, .int i, .int j => if decide (0 < j) then some (.int (i % j)) else none
  | .Pow, .int i, .int j => if decide (0 ≤ j) && decide (j ≤ 1000) && decide (i.natAbs < 18446744073709551616) then some (.int (i ^ j.toNat)) else none
  | _, _, _ => none
def scalB : D → Bool
  | .none => true
  | .bool _ => true
  | .int _ => true
  | .str _ => true
  | _ => false
/-- tuples of ints compared -/
def intsOf : List D → Option (List Int)
  | [] => some []
  | .int i :: r => (intsOf r).map (i :: ·)
  | _ :: _ => none
def blsOf : List D → Option (List Bool)
  | [] => some []
  | .bool b :: r => (blsOf r).map (b :: ·)
  | _ :: _ => none
def isNoneD : D → Bool
  | .none => true
  | _ => false
def cmpD : CmpOp → D → D → Option Bool
  | .Eq, x, y => if SeqAt.shaped x && SeqAt.shaped y then some (PyData.eqv x y) else none
  | .NotEq, x, y => if SeqAt.shaped x && SeqAt.shaped y then some (!PyData.eqv x y) else none
  | .Lt, .int i, .int j => some (decide (i < j))
  | .LtE, .int i, .int j => some (decide (i ≤ j))
  | .Gt, .int i, .int j => some (decide (j < i))
  | .GtE, .int i, .int j => some (decide (j ≤ i))
  | .GtE, .tuple xs, .tuple ys => if SeqAt.shaped (.tuple xs) && SeqAt.shaped (.tuple ys) && PySem.W.alike (.tuple xs) (.tuple ys) then some (!PySem.W.dataLt (.tuple xs) (.tuple ys)) else none
  | .Is, x, .none => some (isNoneD x)
  | .IsNot, x, .none => some (!isNoneD x)
  | .Is, .bool a, .bool b => some (a == b)
  | .IsNot, .bool a, .bool b => some (!(a == b))
  | .In, x, .list ys => if scalB x && ys.all scalB then some (ys.any fun y => PyData.eqv y x) else none
  | .NotIn, x, .list ys => if scalB x && ys.all scalB then some (!(ys.any fun y => PyData.eqv y x)) else none
  | .In, x, .tuple ys => if scalB x && ys.all scalB then some (ys.any fun y => PyData.eqv y x) else none
  | .NotIn, x, .tuple ys => if scalB x && ys.all scalB then some (!(ys.any fun y => PyData.eqv y x)) else none
  | .In, .str x, .str y => some (!(Builtin.Str.occurrences y x 0 y.length 1).isEmpty)
  | _, _, _ => none
mutual
/-- list nodes lie above depth n alone -/
def flatD : Nat → D → Bool
  | 0, .list _ => false
  | n + 1, .list ds => flatDs n ds
  | n, .tuple ds => flatDs (n - 1) ds
  | _, _ => true
def flatDs : Nat → List D → Bool
  | _, [] => true
  | n, d :: ds => flatD n d && flatDs n ds
end
def itemsOf : D → Option (List D)
  | .list ds => some ds
  | .tuple ds => some ds
  | .str x => if lenOk x.length then some (x.cps.toList.map fun c => .str ⟨#[c]⟩) else none
  | _ => none
def isListD : D → Bool
  | .list _ => true
  | _ => false
def ixD : D → D → Option D
  | .list ds, .int i => atI ds i
  | .tuple ds, .int i => atI ds i
  | _, _ => none
def cutD {α : Type} (xs : List α) (lo hi : Option Int) : List α := (xs.drop (HT.sIx xs.length 0 lo)).take (HT.sIx xs.length xs.length hi - HT.sIx xs.length 0 lo)
def sliceD : D → Option Int → Option Int → Option D
  | .list ds, lo, hi => some (.list (cutD ds lo hi))
  | .str x, lo, hi => if lenOk x.length then some (.str (L2.cutS x lo hi)) else none
  | _, _, _ => none
def asInt : D → Option Int
  | .int i => some i
  | _ => none

/-! ### the evaluator -/
/-- changing dicts, told by handles -/
structure Dx (W : Type) where
  dc : W → Nat → Option (List (List Int × D))
  dw : W → Nat → List (List Int × D) → W
  dn : W → Option (Nat × W)
def valK (kds : List (List Int × D)) (k : List Int) : Option D := (kds.find? fun kv => decide (kv.1 = k)).map (·.2)
def putKD (kds : List (List Int × D)) (k : List Int) (d : D) : List (List Int × D) :=
  if (kds.any fun kv => decide (kv.1 = k)) = true then kds.map (fun kv => if kv.1 = k then (kv.1, d) else kv) else kds ++ [(k, d)]
def keyOf (_ : D) : Option (List Int) := none
/-- instances, told by handles -/
structure Ix (W : Type) where
  fg : W → Nat → Option (List (Str × D))
  fp : W → Nat → List (Str × D) → W
  mkI : W → Nat × W
  mkL : W → List D → Nat × W
  fresh : List (List D) → W
/-- the class's fields and methods, its maker, its length, defs that change their arguments -/
structure Io (W : Type) where
  ix : Ix W
  fd : List Str
  mt : List (Str × (List D → W → Res W D))
  mkr : List (Str × (List D → W → Res W D))
  ln : Option (List D → W → Res W D)
  mu : List (Str × (List D → W → Res W D))
def lookD {α : Type} : List (Str × α) → Str → Option α
  | [], _ => none
  | p :: ps, x => match decide (p.1 = x) with
    | true => some p.2
    | false => lookD ps x
structure Cfg (W : Type) where
  N : List Str
  own : List Nat
  Φ : Str → Option (List D → W → Res W D)
  Γ : Str → Option D
  errs : List Str
  wf : Nat
  hl : W → Nat → Option (List D)
  hp : W → Nat → List D → W
  ch : Str → Option (List D → W → Res W D)
  dx : Dx W
  io : Io W
/-- a handle's number -/
def hdlOf : D → Option Nat
  | .dict [(.int i, .none)] => if 0 ≤ i then some i.toNat else none
  | _ => none
/-- a changing list by its items -/
def deref {W : Type} (C : Cfg W) (w : W) (d : D) : D := match hdlOf d with
  | some k => (match C.hl w k with
    | some ds => .list ds
    | none => d)
  | none => d
def ixH {W : Type} (C : Cfg W) (w : W) (x y : D) : Option D := match hdlOf x with
  | some k => (match C.hl w k with
    | some ds => ixD (.list ds) y
    | none => none)
  | none => ixD x y
def dgH {W : Type} (C : Cfg W) (w : W) (x y : D) : Option D := match hdlOf x with
  | some k => (match keyOf y with
    | some key => (match C.dx.dc w k with
      | some kds => valK kds key
      | none => none)
    | none => none)
  | none => none
def dnR {W : Type} (C : Cfg W) (w : W) : Res W D := match C.dx.dn w with
  | some p => .ok (hdl p.1) p.2
  | none => .no
/-- an instance's field -/
def fldV (fs : List (Str × D)) (x : Str) : Option D := match fs with
  | [] => none
  | p :: ps => match decide (p.1 = x) with
    | true => some p.2
    | false => fldV ps x
def fldH {W : Type} (C : Cfg W) (w : W) (x : D) (fl : Str) : Option D := match C.io.fd.contains fl with
  | true => (match hdlOf x with
    | some k => (match C.io.ix.fg w k with
      | some fs => fldV fs fl
      | none => none)
    | none => none)
  | false => none
/-- an instance without such a field -/
def isIns {W : Type} (C : Cfg W) (w : W) (x : D) (nm : Str) : Bool := match hdlOf x with
  | some k => (match C.io.ix.fg w k with
    | some fs => (fldV fs nm).isNone
    | none => false)
  | none => false
/-- the last item of a changing list is taken away -/
def popH {W : Type} (C : Cfg W) (w : W) (x : D) : Res W D := match hdlOf x with
  | some k => (match C.hl w k with
    | some ds => (match ds.getLast? with
      | some d => .ok d (C.hp w k ds.dropLast)
      | none => .no)
    | none => .no)
  | none => .no
/-- an instance is made -/
def makeR {W : Type} (C : Cfg W) (g : List D → W → Res W D) (ds : List D) (w : W) : Res W D :=
  (g (hdl (C.io.ix.mkI w).1 :: ds) (C.io.ix.mkI w).2).bind fun d w' => match d with
    | .none => .ok (hdl (C.io.ix.mkI w).1) w'
    | _ => .no
def isAtE : Expr → Bool
  | .Attribute _ _ _ => true
  | _ => false
def isNmE : Expr → Bool
  | .Name _ _ => true
  | _ => false
/-- what stands in a field is read by its items -/
def drA {W : Type} (C : Cfg W) (w : W) (e : Expr) (x : D) : D := match isAtE e with
  | true => deref C w x
  | false => x
def drL {W : Type} (C : Cfg W) (w : W) (d : D) : D := match hdlOf d with
  | some k => (match C.hl w k with
    | some ds => .list ds
    | none => .none)
  | none => .none
def drI {W : Type} (C : Cfg W) (w : W) (e : Expr) (ds : List D) : List D := match isAtE e with
  | true => ds.map (drL C w)
  | false => ds
def pureIf : List Expr → Bool
  | [] => true
  | [.Compare (.Name _ _) [.Eq] [.Name _ _] _] => true
  | _ => false
def pureIt (it elt : Expr) (ifs : List Expr) : Bool := match isAtE it with
  | true => isNmE elt && pureIf ifs
  | false => true
def isLenE : Expr → Bool
  | .Call (.Name x _) [.Name _ _] [] _ => decide (x = "len")
  | _ => false
def lenD : D → Bool
  | .int i => decide (0 ≤ i) && decide (i ≤ 1000000)
  | _ => false
def lenR {W : Type} : Res W D → Res W D
  | .ok d w => guardR (lenD d) (.ok d w)
  | _ => .no
/-- len of an instance -/
def insOf {W : Type} (C : Cfg W) (w : W) : List D → Bool
  | [d] => isIns C w d "__len__"
  | _ => false

def idx (N : List Str) (x : Str) : Option Nat := N.findIdx? (fun y => decide (y = x))
def okName (x : Str) : Bool := !(x == ("__debug__" : Str)) && !(x == ("__classdict__" : Str)) && !(x == ("__name__" : Str))
def visK : Option NameKind → Bool
  | some .local => true
  | some .cell => true
  | some .free => true
  | _ => false
def locK : Option NameKind → Bool
  | some .local => true
  | some .cell => true
  | _ => false
def gloK : Option NameKind → Bool
  | some .globalImplicit => true
  | _ => false
/-- the slot of a name that is read here, that is stored here -/
def rdSlot (N : List Str) (sc : Scope) (x : Str) : Option Nat := match okName x && visK (sc.names.lookup x) with
  | true => idx N x
  | false => none
def wrSlot (N : List Str) (sc : Scope) (x : Str) : Option Nat := match okName x && locK (sc.names.lookup x) with
  | true => idx N x
  | false => none
def isGlo (sc : Scope) (x : Str) : Bool := okName x && gloK (sc.names.lookup x)
def notStar : Expr → Bool
  | .Starred _ _ => false
  | _ => true
def notSet : Expr → Bool
  | .Set _ _ _ => false
  | _ => true
def oneIf : List Expr → Bool
  | [] => true
  | [_] => true
  | _ => false
/-- an own name: 0 not owned; n + 1 owned, its items new down to n; 100 owned with its rows -/
def ownAt (own : List Nat) (i : Nat) : Nat := own.getD i 0
inductive OwnK where
  | sh
  | rows
  | its (n : Nat)
  | nw (n : Nat)
def ownK : Nat → OwnK
  | 0 => .sh
  | 100 => .rows
  | n + 1 => if 200 ≤ n + 1 then .nw (n + 1 - 200) else .its n
def topK : OwnK → Nat
  | .sh => 0
  | .rows => 2
  | .its _ => 1
  | .nw _ => 0
def frK : OwnK → Nat
  | .sh => 0
  | .rows => 2
  | .its n => n + 1
  | .nw n => n
def topOwn (m : Nat) : Nat := topK (ownK m)
def frOwn (m : Nat) : Nat := frK (ownK m)
def fK : Nat → Nat
  | 0 => 0
  | 1 => 0
  | k => k
def sucK : Nat → Nat
  | 0 => 0
  | k + 1 => k + 2
def maxK : List Nat → Nat
  | [] => 0
  | k :: ks => max k (maxK ks)
def minK : List Nat → Nat
  | [] => 9
  | k :: ks => min k (minK ks)
/-- how deep the nodes may be those of own names -/
def expo (N : List Str) (own : List Nat) : Nat → Scope → Expr → Nat
  | 0, _, _ => 9
  | n + 1, sc, e => match e with
    | .Name x _ => (match rdSlot N sc x with
      | some i => topOwn (ownAt own i)
      | none => 0)
    | .Tuple es _ _ => sucK (maxK (es.map (expo N own n sc)))
    | .List es _ => sucK (maxK (es.map (expo N own n sc)))
    | .IfExp _ a b _ => max (expo N own n sc a) (expo N own n sc b)
    | .Subscript a (.Slice _ _ _ _) _ => fK (expo N own n sc a)
    | .Subscript a _ _ => expo N own n sc a - 1
    | .BinOp a _ b _ => max (fK (expo N own n sc a)) (fK (expo N own n sc b))
    | .ListComp elt _ scope _ => sucK (expo N own n (relS scope sc) elt)
    | _ => 0
/-- how deep its nodes are new; r: since the def's entry -/
def newK (N : List Str) (own : List Nat) (r : Bool) : Nat → Scope → Expr → Nat
  | 0, _, _ => 0
  | n + 1, sc, e => match e with
    | .Name x _ => (match r, rdSlot N sc x with
      | true, some i => frOwn (ownAt own i)
      | _, _ => 0)
    | .Tuple es _ _ => minK (es.map (newK N own r n sc)) + 1
    | .List es _ => minK (es.map (newK N own r n sc)) + 1
    | .IfExp _ a b _ => min (newK N own r n sc a) (newK N own r n sc b)
    | .Subscript _ (.Slice _ _ _ _) _ => 1
    | .Subscript a _ _ => newK N own r n sc a - 1
    | .BinOp _ _ _ _ => 1
    | .ListComp elt _ scope _ => newK N own r n (relS scope sc) elt + 1
    | .Constant _ _ _ => 9
    | .Compare _ _ _ _ => 9
    | .BoolOp _ _ _ => 9
    | .UnaryOp _ _ _ => 9
    | .Call _ _ _ _ => 9
    | _ => 0

/-! #### methods that read -/
def strsOf : List D → Option (List Str)
  | [] => some []
  | .str x :: r => (strsOf r).map (x :: ·)
  | _ :: _ => none
def mtGo (nm : Str) : D → Bool
  | .list _ => decide (nm = "count") || decide (nm = "index")
  | .str _ => decide (nm = "join") || decide (nm = "split")
  | .tuple _ => decide (nm = "index")
  | _ => false
def mtT (nm : Str) (ds : List D) (d : D) : Option D := match decide (nm = "index"), intsOf ds, d with
  | true, some ns, .int i => (ns.findIdx? fun z => z == i).map fun (j : Nat) => .int (j : Nat)
  | _, _, _ => none
def mtL (nm : Str) (ds : List D) (d : D) : Option D := match SeqAt.shaped (.list ds) && SeqAt.shaped d with
  | true => (match decide (nm = "count") with
    | true => some (.int (ds.countP fun z => PyData.eqv z d : Nat))
    | false => (match decide (nm = "index") with
      | true => (ds.findIdx? fun z => PyData.eqv z d).map fun (j : Nat) => .int (j : Nat)
      | false => none))
  | false => none
def mtS (nm : Str) (a : Str) (d : D) : Option D := match decide (nm = "join"), d with
  | true, .list ds => (match strsOf ds with
    | some xs => if lenOk ((xs.map (·.length)).sum + xs.length * a.length) then some (.str (Txt.join a xs)) else none
    | none => none)
  | _, d => (match decide (nm = "split"), d with
    | true, .str b => if !(b.length == 0) && lenOk (a.length + 2) then some (.list ((Txt.split a b).map .str)) else none
    | _, _ => none)
def mtD (nm : Str) : D → D → Option D
  | .list ds, d => mtL nm ds d
  | .str a, d => mtS nm a d
  | .tuple ds, d => mtT nm ds d
  | _, _ => none
def okMt (nm : Str) : Bool := decide (nm = "count") || decide (nm = "index") || decide (nm = "join") || decide (nm = "split")
def noCall : Expr → Bool
  | .Call _ _ _ _ => false
  | _ => true
/-! #### isinstance of a caught error -/
def subE (c c2 : Str) : Bool := decide (c = c2) || decide (c2 = "JudgeError") || decide (c2 = "ValueError")
def errNm (errs : List Str) (c : Str) : Bool := errs.contains c || decide (c = "ValueError")
def isxC (errs : List Str) (sc : Scope) (x : Str) : List Expr → Option Str
  | [.Name c _] => (match decide (x = "isinstance") && isGlo sc x && isGlo sc c && errNm errs c with
    | true => some c
    | false => none)
  | _ => none
def isxD (c : Str) : D → Option D
  | .dict [(.str c', .none)] => some (.bool (subE c' c))
  | _ => none
/-! #### plain forms: some parts from the left, then a function -/
def rangeL (lo : Int) : Nat → List D
  | 0 => []
  | n + 1 => .int lo :: rangeL (lo + 1) n
def downL (hi : Int) : Nat → List D
  | 0 => []
  | n + 1 => .int hi :: downL (hi - 1) n
def small (i : Int) : Bool := decide (i.natAbs ≤ 1000000)
def rg1 : List D → Option (List D)
  | [.int j] => if small j then some (rangeL 0 j.toNat) else none
  | _ => none
def rg2 : List D → Option (List D)
  | [.int i, .int j] => if small i && small j then some (rangeL i (j - i).toNat) else none
  | _ => none
def rg3 : List D → Option (List D)
  | [.int i, .int j, .int c] => if small i && small j && decide (c = -1) then some (downL i (i - j).toNat) else none
  | _ => none
def zip2 : List D → List D → List D
  | a :: as, b :: bs => .tuple [a, b] :: zip2 as bs
  | _, _ => []
def zip3 : List D → List D → List D → List D
  | a :: as, b :: bs, c :: cs => .tuple [a, b, c] :: zip3 as bs cs
  | _, _, _ => []
def enumL (i : Int) : List D → List D
  | [] => []
  | a :: as => .tuple [.int i, a] :: enumL (i + 1) as
def zp2 : List D → Option (List D)
  | [.list xs, .list ys] => some (zip2 xs ys)
  | _ => none
def zp3 : List D → Option (List D)
  | [.list xs, .list ys, .list zs] => some (zip3 xs ys zs)
  | _ => none
def en1 : List D → Option (List D)
  | [.list xs] => some (enumL 0 xs)
  | _ => none
def it1 : List D → Option (List D)
  | [d] => itemsOf d
  | _ => none
def isTupE : Expr → Bool
  | .Tuple _ _ _ => true
  | _ => false
def rgN (sc : Scope) : Expr → Bool
  | .Call (.Name y _) [.Name _ _] [] _ => isGlo sc y && decide (y = "range")
  | _ => false
def nmA : Expr → Expr
  | .Call _ [a] _ _ => a
  | e => e
def zr2 : List D → Option (List D)
  | [.int n, .int m] => if small n && small m then some (zip2 (rangeL 0 n.toNat) (rangeL 0 m.toNat)) else none
  | _ => none
/-- what a loop walks: the parts that are evaluated, the items -/
def itPl (sc : Scope) (tg e : Expr) : List Expr × (List D → Option (List D)) := match e with
  | .Call (.Name x _) args [] _ => (match isGlo sc x with
    | true => (match decide (x = "range"), args with
      | true, [a] => ([a], rg1)
      | true, [a, b] => ([a, b], rg2)
      | true, [a, b, c] => ([a, b, c], rg3)
      | _, _ => (match isTupE tg, decide (x = "zip"), args with
        | true, true, [a, b] => (match rgN sc a && rgN sc b with
          | true => ([nmA a, nmA b], zr2)
          | false => ([e], it1))
        | _, _, _ => ([e], it1)))
    | false => ([e], it1))
  | _ => ([e], it1)
/-- stores into names -/
def asgL (N : List Str) (sc : Scope) : Expr → D → Option (List (Nat × D))
  | .Name x _, d => (match wrSlot N sc x with
    | some i => some [(i, d)]
    | none => none)
  | .Tuple [.Name x _, .Name y _] _ _, .tuple [d, e] => (match wrSlot N sc x, wrSlot N sc y with
    | some i, some j => some [(i, d), (j, e)]
    | _, _ => none)
  | .Tuple [.Name x _, .Name y _, .Name z _] _ _, .tuple [d, e, f] => (match wrSlot N sc x, wrSlot N sc y, wrSlot N sc z with
    | some i, some j, some k => some [(i, d), (j, e), (k, f)]
    | _, _, _ => none)
  | _, _ => none
def setR (ρ : Rho) : List (Nat × D) → Rho
  | [] => ρ
  | p :: ps => setR (ρ.set p.1 (some p.2)) ps
def asgR (N : List Str) (sc : Scope) (tg : Expr) (d : D) (ρ : Rho) : Option Rho := (asgL N sc tg d).map (setR ρ)
/-- the same, the item looked at last -/
def tup2 {R : Type} (no : R) : D → (D → D → R) → R
  | .tuple [a, b], k => k a b
  | _, _ => no
def tup3 {R : Type} (no : R) : D → (D → D → D → R) → R
  | .tuple [a, b, c], k => k a b c
  | _, _ => no
def asgK {R : Type} (no : R) (N : List Str) (sc : Scope) (tg : Expr) (d : D) (ρ : Rho) (k : Rho → R) : R := match tg with
  | .Name x _ => (match wrSlot N sc x with
    | some i => k (ρ.set i (some d))
    | none => no)
  | .Tuple [.Name x _, .Name y _] _ _ => (match wrSlot N sc x, wrSlot N sc y with
    | some i, some j => tup2 no d fun a b => k ((ρ.set i (some a)).set j (some b))
    | _, _ => no)
  | .Tuple [.Name x _, .Name y _, .Name z _] _ _ => (match wrSlot N sc x, wrSlot N sc y, wrSlot N sc z with
    | some i, some j, some l => tup3 no d fun a b c => k (((ρ.set i (some a)).set j (some b)).set l (some c))
    | _, _, _ => no)
  | _ => no
def optK {R α : Type} (no : R) (k : α → R) : Option α → R
  | some a => k a
  | none => no
def isNs : List Expr → Bool
  | [.Name _ _, .Name _ _] => true
  | [.Name _ _, .Name _ _, .Name _ _] => true
  | _ => false
theorem asgK_eq {R : Type} (no : R) (N : List Str) (sc : Scope) (tg : Expr) (d : D) (ρ : Rho) (k : Rho → R) : asgK no N sc tg d ρ k = optK no k (asgR N sc tg d ρ) := by
  unfold asgR
  cases tg with
  | Name x p =>
    show (match wrSlot N sc x with
      | some i => k (ρ.set i (some d))
      | none => no) = optK no k ((match wrSlot N sc x with
      | some i => some [(i, d)]
      | none => none).map (setR ρ))
    cases wrSlot N sc x <;> rfl
  | Tuple es kk p =>
    cases hN : isNs es with
    | false =>
      have a1 : asgK no N sc (.Tuple es kk p) d ρ k = no := by
        unfold asgK
        split
        · rename_i h; cases h
        · rename_i h; injection h with h; subst h; cases hN
        · rename_i h; injection h with h; subst h; cases hN
        · rfl
      have a2 : asgL N sc (.Tuple es kk p) d = none := by
        unfold asgL
        split
        · rename_i h; cases h
        · rename_i h; injection h with h; subst h; cases hN
        · rename_i h; injection h with h; subst h; cases hN
        · rfl
      rw [a1, a2]; rfl
    | true =>
      unfold isNs at hN
      split at hN
      · rename_i x px y py
        show (match wrSlot N sc x, wrSlot N sc y with
          | some i, some j => tup2 no d fun a b => k ((ρ.set i (some a)).set j (some b))
          | _, _ => no) = _
        cases d with
        | tuple l =>
          match l with
          | [a, b] =>
            show _ = optK no k ((match wrSlot N sc x, wrSlot N sc y with
              | some i, some j => some [(i, a), (j, b)]
              | _, _ => none).map (setR ρ))
            cases wrSlot N sc x <;> cases wrSlot N sc y <;> rfl
          | [] => cases wrSlot N sc x <;> cases wrSlot N sc y <;> rfl
          | [_] => cases wrSlot N sc x <;> cases wrSlot N sc y <;> rfl
          | _ :: _ :: _ :: _ => cases wrSlot N sc x <;> cases wrSlot N sc y <;> rfl
        | _ => cases wrSlot N sc x <;> cases wrSlot N sc y <;> rfl
      · rename_i x px y py z pz
        show (match wrSlot N sc x, wrSlot N sc y, wrSlot N sc z with
          | some i, some j, some l => tup3 no d fun a b c => k (((ρ.set i (some a)).set j (some b)).set l (some c))
          | _, _, _ => no) = _
        cases d with
        | tuple l =>
          match l with
          | [a, b, c] =>
            show _ = optK no k ((match wrSlot N sc x, wrSlot N sc y, wrSlot N sc z with
              | some i, some j, some k => some [(i, a), (j, b), (k, c)]
              | _, _, _ => none).map (setR ρ))
            cases wrSlot N sc x <;> cases wrSlot N sc y <;> cases wrSlot N sc z <;> rfl
          | [] => cases wrSlot N sc x <;> cases wrSlot N sc y <;> cases wrSlot N sc z <;> rfl
          | [_] => cases wrSlot N sc x <;> cases wrSlot N sc y <;> cases wrSlot N sc z <;> rfl
          | [_, _] => cases wrSlot N sc x <;> cases wrSlot N sc y <;> cases wrSlot N sc z <;> rfl
          | _ :: _ :: _ :: _ :: _ => cases wrSlot N sc x <;> cases wrSlot N sc y <;> cases wrSlot N sc z <;> rfl
        | _ => cases wrSlot N sc x <;> cases wrSlot N sc y <;> cases wrSlot N sc z <;> rfl
      · cases hN
  | _ => rfl
theorem asgK_R {W α : Type} (N : List Str) (sc : Scope) (tg : Expr) (d : D) (ρ : Rho) (w : W) (k : Rho → W → Res W α) : asgK .no N sc tg d ρ (fun ρ => k ρ w) = (lift (asgR N sc tg d ρ) w).bind k := by
  rw [asgK_eq]
  cases asgR N sc tg d ρ <;> rfl
def asgSlots (N : List Str) (sc : Scope) : Expr → List Nat
  | .Name x _ => (wrSlot N sc x).toList
  | .Tuple [.Name x _, .Name y _] _ _ => (wrSlot N sc x).toList ++ (wrSlot N sc y).toList
  | .Tuple [.Name x _, .Name y _, .Name z _] _ _ => (wrSlot N sc x).toList ++ (wrSlot N sc y).toList ++ (wrSlot N sc z).toList
  | _ => []
/-- the names of a comprehension's own -/
def ownNames (N : List Str) (scope : Scope) : List (Str × Nat) := scope.names.filterMap fun p => match locK (some p.2) with
  | true => (idx N p.1).map fun i => (p.1, i)
  | false => none
def wipeR (ρ : Rho) : List Nat → Rho
  | [] => ρ
  | v :: vs => (wipeR ρ vs).set v none
section
variable {W : Type} (C : Cfg W) (pl : Scope → Expr → Option (List Expr × (List D → Option D)))
def tst (f : Scope → Expr → Rho → W → Res W D) : Nat → Scope → Expr → Rho → W → Res W Bool
  | 0, _, _, _, _ => .no
  | m + 1, sc, e, ρ, w => match e with
    | .BoolOp .And es _ => andR (es.map fun e w => tst f m sc e ρ w) w
    | .BoolOp .Or es _ => orR (es.map fun e w => tst f m sc e ρ w) w
    | .UnaryOp .Not a _ => (tst f m sc a ρ w).bind fun b w => .ok (!b) w
    | .IfExp _ _ _ _ => .no
    | e => (f sc e ρ w).bind asBool
/-- an end of a slice -/
def partR (f : Expr → W → Res W D) : Option Expr → W → Res W (Option Int)
  | none, w => Res.ok none w
  | some e, w => (f e w).bind fun d w => (lift (asInt d) w).bind fun i w => Res.ok (some i) w
/-- one item of a comprehension -/
def elR (f : Scope → Expr → Rho → W → Res W D) (n : Nat) (sc scope : Scope) (tg : Expr) (ifs : List Expr) (elt : Expr) (ρ : Rho) (d : D) (w : W) : Res W (Option D) :=
  asgK .no C.N scope tg d ρ fun ρ => match ifs with
    | [] => (f sc elt ρ w).bind fun x w => .ok (some x) w
    | [c] => (tst f n sc c ρ w).bind fun b w => match b with
      | true => (f sc elt ρ w).bind fun x w => .ok (some x) w
      | false => .ok none w
    | _ => .no
theorem elR_eq (f : Scope → Expr → Rho → W → Res W D) (n : Nat) (sc scope : Scope) (tg : Expr) (ifs : List Expr) (elt : Expr) (ρ : Rho) (d : D) (w : W) : elR C f n sc scope tg ifs elt ρ d w =
    (lift (asgR C.N scope tg d ρ) w).bind fun ρ w => match ifs with
    | [] => (f sc elt ρ w).bind fun x w => .ok (some x) w
    | [c] => (tst f n sc c ρ w).bind fun b w => match b with
      | true => (f sc elt ρ w).bind fun x w => .ok (some x) w
      | false => .ok none w
    | _ => .no := by
  unfold elR
  rw [asgK_eq]
  cases asgR C.N scope tg d ρ <;> rfl
def evN (f : Scope → Expr → Rho → W → Res W D) (n : Nat) (sc : Scope) (e : Expr) (ρ : Rho) (w : W) : Res W D := match e with
  | .Constant (.int i) _ _ => .ok (.int i) w
  | .Constant (.bool b) _ _ => .ok (.bool b) w
  | .Constant (.str x) _ _ => .ok (.str x) w
  | .Constant .none _ _ => .ok .none w
  | .Name x _ => (match rdSlot C.N sc x with
    | some i => sl ρ i w
    | none => guardR (isGlo sc x) (lift (C.Γ x) w))
  | .BinOp a op b _ => (f sc a ρ w).bind fun x w => (f sc b ρ w).bind fun y w => lift (binD op x y) w
  | .UnaryOp .USub a _ => (f sc a ρ w).bind fun x w => lift ((asInt x).map fun i => .int (-i)) w
  | .UnaryOp .Not _ _ => (tst f n sc e ρ w).bind fun b w => .ok (.bool b) w
  | .BoolOp _ _ _ => (tst f n sc e ρ w).bind fun b w => .ok (.bool b) w
  | .Compare a [op] [b] _ => guardR (notSet b) <| (f sc a ρ w).bind fun x w => (f sc b ρ w).bind fun y w => (lift (cmpD op (drA C w a x) y) w).bind fun t w => .ok (.bool t) w
  | .Compare a [op, op'] [b, c] _ => guardR (notSet b && notSet c) <| (f sc a ρ w).bind fun x w => (f sc b ρ w).bind fun y w => (lift (cmpD op x y) w).bind fun t w => match t with
    | true => (f sc c ρ w).bind fun z w => (lift (cmpD op' y z) w).bind fun t w => .ok (.bool t) w
    | false => .ok (.bool false) w
  | .IfExp c a b _ => (tst f n sc c ρ w).bind fun t w => match t with
    | true => f sc a ρ w
    | false => f sc b ρ w
  | .Tuple es _ _ => guardR (es.all notStar && lenOk es.length) ((trav (fun e w => f sc e ρ w) es w).bind fun ds w => .ok (.tuple ds) w)
  | .List es _ => guardR (es.all notStar && lenOk es.length) ((trav (fun e w => f sc e ρ w) es w).bind fun ds w => .ok (.list ds) w)
  | .Subscript a (.Slice lo hi none _) _ => (f sc a ρ w).bind fun x w => (partR (fun e w => f sc e ρ w) lo w).bind fun l w => (partR (fun e w => f sc e ρ w) hi w).bind fun h w => lift (sliceD x l h) w
  | .Subscript _ (.Slice _ _ _ _) _ => .no
  | .Subscript a (.Tuple es c2 p2) _ => (f sc a ρ w).bind fun x w => (f sc (.Tuple es c2 p2) ρ w).bind fun y w => lift (dgH C w x y) w
  | .Subscript a b _ => (f sc a ρ w).bind fun x w => (f sc b ρ w).bind fun y w => lift (ixH C w x y) w
  | .Dict [] [] _ => dnR C w
  | .Call (.Name x _) (a :: es) [] _ => (match isxC C.errs sc x es with
    | some c => guardR (notStar a) ((f sc a ρ w).bind fun d w => lift (isxD c d) w)
    | none => guardR (isGlo sc x && (a :: es).all notStar) (match C.Φ x with
      | some g => (trav (fun e w => f sc e ρ w) (a :: es) w).bind g
      | none => (match lookD C.io.mkr x with
        | some g => (trav (fun e w => f sc e ρ w) (a :: es) w).bind (makeR C g)
        | none => .no)))
  | .Call (.Name x _) [] [] _ => guardR (isGlo sc x) (match C.Φ x with
    | some g => g [] w
    | none => .no)
  | .Call (.Attribute o nm ap) args [] cp => (match lookD C.io.mt nm with
    | some g => guardR ((ap.endLine == cp.line) && isNmE o && args.all notStar && decide (args.length < 20)) ((f sc o ρ w).bind fun x w => guardR (isIns C w x nm) ((trav (fun e w => f sc e ρ w) args w).bind fun ds w => g (x :: ds) w))
    | none => (match args with
      | [b] => guardR ((ap.endLine == cp.line) && notStar b && noCall o && okMt nm) ((f sc o ρ w).bind fun l w => guardR (mtGo nm (deref C w l)) ((f sc b ρ w).bind fun d w => lift (mtD nm (deref C w l) d) w))
      | [] => guardR ((ap.endLine == cp.line) && noCall o && decide (nm = "pop")) ((f sc o ρ w).bind fun l w => popH C w l)
      | _ => .no))
  | .Attribute o fl _ => guardR (isNmE o) ((f sc o ρ w).bind fun x w => lift (fldH C w x fl) w)
  | .ListComp elt [⟨tg, it, ifs, asy⟩] scope _ => guardR (decide (asy = 0)) <|
      let ips := itPl sc tg it
      let ow := ownNames C.N scope
      guardR (pureIt it elt ifs && oneIf ifs && notSet it && ips.1.all notStar && ips.1.all (fun e => decide (expo C.N C.own n sc e ≤ 1)) && blkC C.N sc scope ow && (asgSlots C.N scope tg).all (fun i => (ow.map (·.2)).contains i) && (ow.map (·.2)).all (fun i => decide (ownAt C.own i = 0)))
        ((trav (fun e w => f sc e ρ w) ips.1 w).bind fun ds w => (lift (ips.2 (drI C w it ds)) w).bind fun items w =>
          (calmR (compR (elR C f n (relS scope sc) scope tg ifs elt (wipeR ρ (ow.map (·.2)))) items w)).bind fun ys w => .ok (.list ys) w)
  | _ => .no
def ev : Nat → Scope → Expr → Rho → W → Res W D
  | 0, _, _, _, _ => .no
  | n + 1, sc, e, ρ, w => match pl sc e with
    | some (es, g) => guardR (es.all notStar) ((trav (fun e w => ev n sc e ρ w) es w).bind fun ds w => (match C.io.ln with
      | none => lift (g (ds.map (deref C w))) w
      | some h => (match isLenE e && insOf C w ds with
        | true => lenR (h ds w)
        | false => lift (g (ds.map (deref C w))) w)))
    | none => evN C (ev n) n sc e ρ w
end
end T
namespace T
open PySem PySem.Spec PyProof.Rows L2

abbrev Pd := Nat → Addr → Prop
def excPhi (K a : Addr) : Heap → Prop := fun h => ∃ oe vs, h.get? a = some oe ∧ oe.cls = .ref K ∧ oe.dict = none ∧ oe.data = .fields vs
/-- a tuple of the program's own making: its record has no dict -/
def Ft (H : Hp) (a : Addr) (vs : List V) : Prop := ∃ o : Obj, o.dict = none ∧ H a = some (.frz o (.tup vs))
theorem Ft.sq {K : PySem.W.Frag} {H : Hp} {a : Addr} {vs : List V} (h : Ft H a vs) : SqT K H a vs := let ⟨o, _, e⟩ := h; .inl (.inr ⟨o, e⟩)
theorem Ft.ne {H : Hp} {a : Addr} {vs : List V} (h : Ft H a vs) : H a ≠ none := let ⟨_, _, e⟩ := h; fun z => by rw [e] at z; cases z
mutual
/-- a value and its tree; P: what holds of a list's address at a depth -/
inductive Rep (ce : Str → Option Addr) (hs : List Addr) (H : Hp) : Pd → V → D → Prop
  | non {P : Pd} : Rep ce hs H P .non .none
  | bl {P : Pd} (b : Bool) : Rep ce hs H P (.bl b) (.bool b)
  | int {P : Pd} (i : Int) : Rep ce hs H P (.int i) (.int i)
  | str {P : Pd} (x : Str) : Rep ce hs H P (.str x) (.str x)
  | lst {P : Pd} {a : Addr} {vs : List V} {ds : List D} : H a = some (.lst vs) → vs.length ≤ sizeLine → P 0 a → Reps ce hs H (fun j b => P (j + 1) b ∧ b ≠ a) vs ds → Rep ce hs H P (.ref a) (.list ds)
  | tup {P : Pd} {a : Addr} {vs : List V} {ds : List D} : Ft H a vs → vs.length ≤ sizeLine → Reps ce hs H (fun j b => P (j + 1) b) vs ds → Rep ce hs H P (.ref a) (.tuple ds)
  | hdl {P : Pd} {a : Addr} {k : Nat} : hs[k]? = some a → Rep ce hs H P (.ref a) (hdl k)
  | exc {P : Pd} {a K : Addr} {c : Str} : H a = some (.ext (excPhi K a)) → ce c = some K → Rep ce hs H P (.ref a) (exc c)
inductive Reps (ce : Str → Option Addr) (hs : List Addr) (H : Hp) : Pd → List V → List D → Prop
  | nil {P : Pd} : Reps ce hs H P [] []
  | cons {P : Pd} {v : V} {vs : List V} {d : D} {ds : List D} : Rep ce hs H P v d → Reps ce hs H P vs ds → Reps ce hs H P (v :: vs) (d :: ds)
end
/-- what never changes -/
def isT : HO → Prop
  | .tup _ => True
  | .ext _ => True
  | .frz _ _ => True
  | _ => False
section
variable {ce : Str → Option Addr} {hs hs' : List Addr} {H H' : Hp} {P P' : Pd} {v : V} {d : D} {vs : List V} {ds : List D}
mutual
theorem Rep.go_ (kt : ∀ b o, isT o → H b = some o → H' b = some o) (hh : ∀ (k : Nat) (a : Addr), hs[k]? = some a → hs'[k]? = some a) : ∀ {P P' : Pd} {v : V} {d : D}, (∀ j b o, P j b → H b = some (.lst o) → P' j b ∧ H' b = some (.lst o)) →
    Rep ce hs H P v d → Rep ce hs' H' P' v d
  | _, _, _, _, _, .non => .non
  | _, _, _, _, _, .bl b => .bl b
  | _, _, _, _, _, .int i => .int i
  | _, _, _, _, _, .str x => .str x
  | P, P', _, _, k, .lst (a := a) e n p r => .lst (k 0 _ _ p e).2 n (k 0 _ _ p e).1 (Reps.go_ kt hh (P := fun j b => P (j + 1) b ∧ b ≠ a) (P' := fun j b => P' (j + 1) b ∧ b ≠ a) (fun j b o p e => ⟨⟨(k (j + 1) b o p.1 e).1, p.2⟩, (k (j + 1) b o p.1 e).2⟩) r)
  | P, P', _, _, k, .tup ⟨o, hd, e⟩ n r => .tup ⟨o, hd, kt _ _ trivial e⟩ n (Reps.go_ kt hh (P := fun j b => P (j + 1) b) (P' := fun j b => P' (j + 1) b) (fun j b o p e => k (j + 1) b o p e) r)
  | _, _, _, _, _, .hdl e => .hdl (hh _ _ e)
  | _, _, _, _, _, .exc e c => .exc (kt _ _ trivial e) c
theorem Reps.go_ (kt : ∀ b o, isT o → H b = some o → H' b = some o) (hh : ∀ (k : Nat) (a : Addr), hs[k]? = some a → hs'[k]? = some a) : ∀ {P P' : Pd} {vs : List V} {ds : List D}, (∀ j b o, P j b → H b = some (.lst o) → P' j b ∧ H' b = some (.lst o)) →
    Reps ce hs H P vs ds → Reps ce hs' H' P' vs ds
  | _, _, _, _, _, .nil => .nil
  | _, _, _, _, k, .cons a b => .cons (Rep.go_ kt hh k a) (Reps.go_ kt hh k b)
end
theorem Rep.go (r : Rep ce hs H P v d) (k : ∀ j b o, P j b → H b = some (.lst o) → P' j b ∧ H' b = some (.lst o)) (kt : ∀ b o, isT o → H b = some o → H' b = some o) (hh : ∀ (k : Nat) (a : Addr), hs[k]? = some a → hs'[k]? = some a) : Rep ce hs' H' P' v d := Rep.go_ kt hh k r
theorem Reps.go (r : Reps ce hs H P vs ds) (k : ∀ j b o, P j b → H b = some (.lst o) → P' j b ∧ H' b = some (.lst o)) (kt : ∀ b o, isT o → H b = some o → H' b = some o) (hh : ∀ (k : Nat) (a : Addr), hs[k]? = some a → hs'[k]? = some a) : Reps ce hs' H' P' vs ds := Reps.go_ kt hh k r
theorem Rep.mono (r : Rep ce hs H P v d) (k : ∀ j b, P j b → P' j b) : Rep ce hs H P' v d := r.go (fun j b o p e => ⟨k j b p, e⟩) (fun _ _ _ e => e) fun _ _ e => e
theorem Reps.mono (r : Reps ce hs H P vs ds) (k : ∀ j b, P j b → P' j b) : Reps ce hs H P' vs ds := r.go (fun j b o p e => ⟨k j b p, e⟩) (fun _ _ _ e => e) fun _ _ e => e
/-- list nodes stand in the heap -/
theorem Rep.dom (r : Rep ce hs H P v d) : Rep ce hs H (fun j b => P j b ∧ H b ≠ none) v d := r.go (fun j b o p e => ⟨⟨p, by rw [e]; exact fun z => nomatch z⟩, e⟩) (fun _ _ _ e => e) fun _ _ e => e
theorem Reps.dom (r : Reps ce hs H P vs ds) : Reps ce hs H (fun j b => P j b ∧ H b ≠ none) vs ds := r.go (fun j b o p e => ⟨⟨p, by rw [e]; exact fun z => nomatch z⟩, e⟩) (fun _ _ _ e => e) fun _ _ e => e
def HExt (H H' : Hp) : Prop := ∀ b o, H b = some o → H' b = some o
theorem HExt.refl : HExt H H := fun _ _ e => e
theorem HExt.trans {H1 H2 H3 : Hp} (a : HExt H1 H2) (b : HExt H2 H3) : HExt H1 H3 := fun c o e => b c o (a c o e)
theorem HExt.upd {p : Addr} {o : HO} (h : H p = none) : HExt H (upd H p o) := fun b u e => by rw [upd_ne (ne_of_none e h)]; exact e
theorem HExt.none {p : Addr} (x : HExt H H') (h : H' p = none) : H p = none := by
  cases q : H p with
  | none => rfl
  | some o => rw [x p o q] at h; cases h
theorem Rep.ext (r : Rep ce hs H P v d) (x : HExt H H') : Rep ce hs H' P v d := r.go (fun j b o p e => ⟨p, x b _ e⟩) (fun b o _ e => x b o e) fun _ _ e => e
theorem Reps.ext (r : Reps ce hs H P vs ds) (x : HExt H H') : Reps ce hs H' P vs ds := r.go (fun j b o p e => ⟨p, x b _ e⟩) (fun b o _ e => x b o e) fun _ _ e => e

/-! ### lists of values -/
theorem Reps.length : ∀ {vs : List V} {ds : List D}, Reps ce hs H P vs ds → vs.length = ds.length
  | _, _, .nil => rfl
  | _, _, .cons _ r => congrArg Nat.succ (Reps.length r)
theorem Reps.append : ∀ {vs ws : List V} {ds es : List D}, Reps ce hs H P vs ds → Reps ce hs H P ws es → Reps ce hs H P (vs ++ ws) (ds ++ es)
  | _, _, _, _, .nil, s => s
  | _, _, _, _, .cons a r, s => .cons a (Reps.append r s)
theorem Reps.get : ∀ {vs : List V} {ds : List D} {i : Nat} {d : D}, Reps ce hs H P vs ds → ds[i]? = some d → ∃ v, vs[i]? = some v ∧ Rep ce hs H P v d
  | _, _, _, _, .nil, e => by simp at e
  | _, _, 0, _, .cons a _, e => by simp at e; subst e; exact ⟨_, rfl, a⟩
  | _, _, i + 1, d, .cons _ r, e => by
    obtain ⟨v, h1, h2⟩ := Reps.get (i := i) (d := d) r (by simpa using e)
    exact ⟨v, by simpa using h1, h2⟩
theorem Reps.getV : ∀ {vs : List V} {ds : List D} {i : Nat} {v : V}, Reps ce hs H P vs ds → vs[i]? = some v → ∃ d, ds[i]? = some d ∧ Rep ce hs H P v d
  | _, _, _, _, .nil, e => by simp at e
  | _, _, 0, _, .cons a _, e => by simp at e; subst e; exact ⟨_, rfl, a⟩
  | _, _, i + 1, v, .cons _ r, e => by
    obtain ⟨d, h1, h2⟩ := Reps.getV (i := i) (v := v) r (by simpa using e)
    exact ⟨d, by simpa using h1, h2⟩
theorem Reps.drop : ∀ {vs : List V} {ds : List D} (n : Nat), Reps ce hs H P vs ds → Reps ce hs H P (vs.drop n) (ds.drop n)
  | _, _, 0, r => r
  | _, _, _ + 1, .nil => .nil
  | _, _, n + 1, .cons _ r => Reps.drop n r
theorem Reps.take : ∀ {vs : List V} {ds : List D} (n : Nat), Reps ce hs H P vs ds → Reps ce hs H P (vs.take n) (ds.take n)
  | _, _, 0, _ => .nil
  | _, _, _ + 1, .nil => .nil
  | _, _, n + 1, .cons a r => .cons a (Reps.take n r)
theorem Reps.set {v : V} {d : D} (a : Rep ce hs H P v d) : ∀ {vs : List V} {ds : List D} (i : Nat), Reps ce hs H P vs ds → Reps ce hs H P (vs.set i v) (ds.set i d)
  | _, _, _, .nil => .nil
  | _, _, 0, .cons _ r => .cons a r
  | _, _, i + 1, .cons b r => .cons b (Reps.set a i r)
theorem Reps.rep (r : Reps ce hs H P vs ds) : ∀ n : Nat, Reps ce hs H P (List.replicate n vs).flatten (List.replicate n ds).flatten
  | 0 => .nil
  | n + 1 => by
    rw [List.replicate_succ, List.replicate_succ, List.flatten_cons, List.flatten_cons]
    exact r.append (Reps.rep r n)
theorem Reps.dropLast (r : Reps ce hs H P vs ds) : Reps ce hs H P vs.dropLast ds.dropLast := by
  rw [List.dropLast_eq_take, List.dropLast_eq_take, r.length]
  exact r.take _
theorem Reps.reverse : ∀ {vs : List V} {ds : List D}, Reps ce hs H P vs ds → Reps ce hs H P vs.reverse ds.reverse
  | _, _, .nil => .nil
  | _, _, .cons a r => by
    rw [List.reverse_cons, List.reverse_cons]
    exact (Reps.reverse r).append (.cons a .nil)
theorem Reps.one {v : V} {d : D} (a : Rep ce hs H P v d) : Reps ce hs H P [v] [d] := .cons a .nil
theorem Reps.ofInts : ∀ {vs : List V} {ds : List D} {ns : List Int}, Reps ce hs H P vs ds → intsOf ds = some ns → vs = ns.map V.int
  | _, _, _, .nil, e => by cases e; rfl
  | _, _, ns, .cons (d := d) (ds := ds) a r, e => by
    cases d with
    | int i =>
      cases a
      cases q : intsOf ds with
      | none => rw [intsOf, q] at e; cases e
      | some ms => rw [intsOf, q] at e; cases e; rw [Reps.ofInts r q]; rfl
    | _ => cases e
theorem Reps.ofBls : ∀ {vs : List V} {ds : List D} {ns : List Bool}, Reps ce hs H P vs ds → blsOf ds = some ns → vs = ns.map V.bl
  | _, _, _, .nil, e => by cases e; rfl
  | _, _, ns, .cons (d := d) (ds := ds) a r, e => by
    cases d with
    | bool i =>
      cases a
      cases q : blsOf ds with
      | none => rw [blsOf, q] at e; cases e
      | some ms => rw [blsOf, q] at e; cases e; rw [Reps.ofBls r q]; rfl
    | _ => cases e
theorem Reps.ints (ns : List Int) : Reps ce hs H P (ns.map V.int) (ns.map PyData.int) := by
  induction ns with
  | nil => exact .nil
  | cons n r ih => exact .cons (.int n) ih
mutual
/-- as the layer's own data -/
theorem Rep.dp {K : PySem.W.Frag} : ∀ {P : Pd} {v : V} {d : D}, Rep ce hs H P v d → d.canLay0 = true → Dp K H v d
  | _, _, _, .non, _ => .non
  | _, _, _, .bl b, _ => .bl b
  | _, _, _, .int i, _ => .int i
  | _, _, _, .str x, _ => .str x
  | _, _, _, .lst e _ _ r, h => .lst (SqL.of e) (Reps.dp r (by simpa [PyData.canLay0] using h))
  | _, _, _, .tup e _ r, h => .tup e.sq (Reps.dp r (by simpa [PyData.canLay0] using h))
  | _, _, _, .hdl _, h => nomatch h
  | _, _, _, .exc _ _, h => nomatch h
theorem Reps.dp {K : PySem.W.Frag} : ∀ {P : Pd} {vs : List V} {ds : List D}, Reps ce hs H P vs ds → PyData.canLayAll0 ds = true → DpAll K H vs ds
  | _, _, _, .nil, _ => .nil
  | _, _, _, .cons a r, h => .cons (Rep.dp a (by simp only [PyData.canLayAll0, Bool.and_eq_true] at h; exact h.1)) (Reps.dp r (by simp only [PyData.canLayAll0, Bool.and_eq_true] at h; exact h.2))
end
mutual
/-- where the lists lie above depth n, what holds there holds at all -/
theorem Rep.flat : ∀ {P P' : Pd} {v : V} {d : D} (n : Nat), (∀ i j b, j < n → P j b → P' i b) → Rep ce hs H P v d → flatD n d = true → Rep ce hs H P' v d
  | _, _, _, _, _, _, .non, _ => .non
  | _, _, _, _, _, _, .bl b, _ => .bl b
  | _, _, _, _, _, _, .int i, _ => .int i
  | _, _, _, _, _, _, .str x, _ => .str x
  | P, P', _, _, 0, k, .lst e n p r, h => nomatch h
  | P, P', _, _, m + 1, k, .lst (a := a) e n p r, h => .lst e n (k 0 0 _ (Nat.succ_pos _) p) (Reps.flat (P := fun j b => P (j + 1) b ∧ b ≠ a) (P' := fun j b => P' (j + 1) b ∧ b ≠ a) m (fun i j b hj p => ⟨k (i + 1) (j + 1) b (Nat.succ_lt_succ hj) p.1, p.2⟩) r (by simpa [flatD] using h))
  | P, P', _, _, m, k, .tup e n r, h => .tup e n (Reps.flat (P := fun j b => P (j + 1) b) (P' := fun j b => P' (j + 1) b) (m - 1) (fun i j b hj p => k (i + 1) (j + 1) b (by omega) p) r (by cases m <;> simpa [flatD] using h))
  | _, _, _, _, _, _, .hdl e, _ => .hdl e
  | _, _, _, _, _, _, .exc e c, _ => .exc e c
theorem Reps.flat : ∀ {P P' : Pd} {vs : List V} {ds : List D} (n : Nat), (∀ i j b, j < n → P j b → P' i b) → Reps ce hs H P vs ds → flatDs n ds = true → Reps ce hs H P' vs ds
  | _, _, _, _, _, _, .nil, _ => .nil
  | _, _, _, _, n, k, .cons a r, h => .cons (Rep.flat n k a (by simp only [flatDs, Bool.and_eq_true] at h; exact h.1)) (Reps.flat n k r (by simp only [flatDs, Bool.and_eq_true] at h; exact h.2))
end
/-- a new list, a new tuple -/
theorem Rep.newL {p : Addr} (r : Reps ce hs H (fun j b => P (j + 1) b) vs ds) (hp : H p = none) (hl : vs.length ≤ sizeLine) (h0 : P 0 p) : Rep ce hs (upd H p (.lst vs)) P (.ref p) (.list ds) :=
  .lst upd_same hl h0 ((r.dom.mono fun j b q => ⟨q.1, fun z => q.2 (z ▸ hp)⟩).ext (HExt.upd hp))
theorem Rep.newT {p : Addr} {o : Obj} (r : Reps ce hs H (fun j b => P (j + 1) b) vs ds) (hp : H p = none) (ho : o.dict = none) (hl : vs.length ≤ sizeLine) : Rep ce hs (upd H p (.frz o (.tup vs))) P (.ref p) (.tuple ds) :=
  .tup ⟨o, ho, upd_same⟩ hl (r.ext (HExt.upd hp))
end
end T
/-! tuples made and left frozen -/
namespace T
open PySem PySem.Spec PyProof.Rows L2
section
variable {X : Cx}
def tTupF (t : TA) : TE := fun σ H Q => t σ H fun xs H1 => xs.length ≤ sizeLine ∧ ∀ p (o : Obj), H1 p = none → o.dict = none → Q (.ref p) (upd H1 p (.frz o (.tup xs)))
theorem pe_tupF {es : List Expr} {t : TA} {x1 : Nat} {pos : Pos} (h : PA X es t) : PE X (.Tuple es x1 pos) (tTupF t) := by
  refine ⟨fun pins s σ H Q I hq => ?_⟩
  refine wpAny_Tuple_spliced (thn (h.run pos pins s σ H _ I hq) fun us y ⟨xs, H1, I1, r, z, q⟩ => ⟨by rw [← r.length]; exact z, ?_⟩)
  exact ⟨.ref y.heap.objs.size, _, I1.laid (t' := y.toks) (o := .frz _ (.tup xs)) (fun b u e => Heap.get?_push_of_some _ e) (Nat.le_refl _) ⟨Heap.get?_push_size _ rfl, z, us, r, ⟨_, Heap.get?_push_size _ rfl, rfl, _, rfl⟩⟩, rfl, q _ _ (I1.hok.fresh (Nat.le_refl _)) rfl⟩
def rCatF (K : PySem.W.Frag) : R2 := fun x y H Q => ∃ a b xs ys, x = .ref a ∧ y = .ref b ∧ SqT K H a xs ∧ SqT K H b ys ∧ xs.length + ys.length ≤ sizeLine ∧
  (xs = [] → Q (.ref b) H) ∧ (xs ≠ [] → ys = [] → Q (.ref a) H) ∧ (xs ≠ [] → ys ≠ [] → ∀ p (o : Obj), H p = none → o.dict = none → Q (.ref p) (upd H p (.frz o (.tup (xs ++ ys)))))
theorem op_catF : OpR X (binaryOp .Add) (rCatF X.K) := by
  rintro pins s σ H x y v u Q I rx ry ⟨a, b, xs, ys, rfl, rfl, ha, hb, hz, q0, q1, q2⟩
  by_cases hx : xs = []
  · exact op_catA pins s σ H _ _ v u Q I rx ry ⟨a, b, xs, ys, rfl, rfl, ha, hb, hz, q0, fun z => absurd hx z, fun z => absurd hx z⟩
  · cases rx
    cases ry
    obtain ⟨us, k1, p1, _⟩ := I.tuple ha
    obtain ⟨ws, k2, p2, _⟩ := I.tuple hb
    refine HT.cat_tup p1 p2 (fun z => hx (k1.nil_iff.mp z)) (fun z => ⟨.ref a, H, I, rfl, q1 hx (k2.nil_iff.mp z)⟩) (fun z => ?_) (by rw [← k1.length, ← k2.length]; exact hz)
    exact ⟨.ref s.heap.objs.size, _, I.laid (t' := s.toks) (o := .frz _ (.tup (xs ++ ys))) (fun b ob e => Heap.get?_push_of_some _ e) (Nat.le_refl _) ⟨Heap.get?_push_size _ rfl, by rw [List.length_append]; exact hz, _, k1.append k2, IsTup.new _ _⟩, rfl, q2 hx (fun w => z (k2.nil_iff.mpr w)) _ _ (I.hok.fresh (Nat.le_refl _)) rfl⟩
theorem call_tupleF : CallR X (.type "tuple") (fun xs H Q => ∃ p ys, xs = [.ref p] ∧ ((SqL X.K H p ys ∧ ∀ l (o : Obj), H l = none → o.dict = none → Q (.ref l) (upd H l (.frz o (.tup ys)))) ∨ (SqT X.K H p ys ∧ Q (.ref p) H))) := by
  rintro pins s σ H xs us Q I r ⟨p, ys, rfl, h⟩
  obtain ⟨u, rfl, rx⟩ := vals1 r
  cases rx
  rcases h with ⟨hq, q⟩ | ⟨hq, q⟩
  · obtain ⟨its, k, pl, hz⟩ := I.list hq
    have hlen := k.length
    refine call_tuple_list pl.isList (fun h' kp => ?_) (by simp only [List.size_toArray] <;> omega)
    have I1 : Inv X pins σ H { s with heap := h' } := I.kept (t' := s.toks) kp
    exact ⟨.ref h'.objs.size, _, I1.laid (t' := s.toks) (o := .frz _ (.tup ys)) (fun b o e => Heap.get?_push_of_some _ e) (Nat.le_refl _) ⟨Heap.get?_push_size _ rfl, hz, its, k, IsTup.new _ _⟩, rfl, q _ _ (I1.hok.fresh (Nat.le_refl _)) rfl⟩
  · obtain ⟨its, k, pl, hz⟩ := I.tuple hq
    exact call_tuple_same pl ⟨.ref p, H, I, rfl, q⟩
def tTupRgF (te : L2.St → Hp → (Int → Int → Hp → Prop) → Prop) : TE := fun σ H Q => te σ H fun a b H1 => RgOk a b ∧ ∀ q (o : Obj), H1 q = none → o.dict = none → Q (.ref q) (upd H1 q (.frz o (.tup (rgV a b))))
theorem pe_tupRgF {e : Expr} {te : L2.St → Hp → (Int → Int → Hp → Prop) → Prop} {p pos : Pos} (hc : X.calm = true) (hg : Gl X "tuple") (hm : X.mg "tuple" = none) (he : PRg X e te) (na : starEach [e] X.env = (false, eval e X.env) :: starEach [] X.env := by rfl) : PE X (.Call (.Name "tuple" p) [e] [] pos) (tTupRgF te) := by
  refine ⟨fun pins s σ H Q I h => ?_⟩
  refine Call_ (ld_blt I hg hm boot_tuple (PyProof.Rows.callWith_type1 (args_cons (thn (he pins s σ H _ I h) fun x y ⟨r, a, b, t, u, v, H1, ex, hr, I1, ⟨b1, b2, b3, b4, b5⟩, q⟩ => args_nil ?_) na) na))
  subst ex
  refine call_tuple_range (n := (b - a).toNat) (I1.ok.hd hc) hr (small_one b1 b2 b3 b4) (rangeSize_nat a b) b5 fun g tk acc hk hi => ?_
  have I2 : Inv X pins σ H1 { y with heap := g, toks := tk } := I1.kept hk
  refine ⟨.ref g.objs.size, _, I2.laid (t' := tk) (o := .frz _ (.tup (rgV a b))) (fun c o e => Heap.get?_push_of_some _ e) (Nat.le_refl _) ⟨Heap.get?_push_size _ rfl, ?_, acc.toList, vals_rg hi, ?_⟩, rfl, q _ _ (I2.hok.fresh (Nat.le_refl _)) rfl⟩
  · rw [rgV_length, sizeLine_eq]; omega
  · rw [Array.toArray_toList]; exact IsTup.new _ _
end
end T
namespace T
open PySem PySem.Spec PyProof.Rows L2

/-! ### the world of changing objects -/
structure Gh where
  Om : List Addr
  hs : List Addr
structure Wd (W : Type) where
  rel : Gh → Hp → W → Prop
  stab : ∀ {g : Gh} {H H' : Hp} {w : W}, rel g H w → (∀ a ∈ g.Om, H' a = H a) → (∀ b o, isT o → H b = some o → H' b = some o) → rel g H' w
section
variable {W : Type}
structure WOk (Z : Wd W) (g : Gh) (H : Hp) (w : W) : Prop where
  rel : Z.rel g H w
  dom : ∀ a ∈ g.Om, H a ≠ none
  mu : ∀ a ∈ g.Om, ∀ o, H a = some o → ¬ isT o
structure CStep (g : Gh) (H : Hp) (g' : Gh) (H' : Hp) : Prop where
  keep : ∀ b o, b ∉ g.Om → H b = some o → H' b = some o
  sub : ∀ a ∈ g.Om, a ∈ g'.Om
  new : ∀ a ∈ g'.Om, a ∈ g.Om ∨ H a = none
  hs : ∀ (k : Nat) (a : Addr), g.hs[k]? = some a → g'.hs[k]? = some a
variable {Z : Wd W} {g g' g'' : Gh} {H H' H'' : Hp} {w w' : W}
theorem CStep.refl : CStep g H g H := ⟨fun _ _ _ e => e, fun _ h => h, fun _ h => .inl h, fun _ _ e => e⟩
theorem CStep.ext (x : HExt H H') : CStep g H g H' := ⟨fun b o _ e => x b o e, fun _ h => h, fun _ h => .inl h, fun _ _ e => e⟩
theorem CStep.trans (a : CStep g H g' H') (b : CStep g' H' g'' H'') : CStep g H g'' H'' where
  keep := fun c o h e => b.keep c o (fun z => (a.new c z).elim h fun q => by rw [q] at e; cases e) (a.keep c o h e)
  sub := fun c h => b.sub c (a.sub c h)
  new := fun c h => by
    rcases b.new c h with z | z
    · exact a.new c z
    · refine Classical.byCases (p := c ∈ g.Om) .inl fun hc => .inr ?_
      cases q : H c with
      | none => rfl
      | some o => rw [a.keep c o hc q] at z; cases z
  hs := fun k c e => b.hs k c (a.hs k c e)
theorem CStep.none (x : CStep g H g' H') (wk : WOk Z g' H' w') {a : Addr} (h : H' a = none) : H a = none := by
  cases q : H a with
  | none => rfl
  | some o =>
    refine Classical.byCases (p := a ∈ g.Om) (fun hc => absurd h (wk.dom a (x.sub a hc))) fun hc => ?_
    rw [x.keep a o hc q] at h; cases h
theorem CStep.keepT (x : CStep g H g' H') (wk : WOk Z g H w) {a : Addr} {o : HO} (t : isT o) (e : H a = some o) : H' a = some o :=
  x.keep a o (fun hc => wk.mu a hc o e t) e
theorem WOk.ext (wk : WOk Z g H w) (x : HExt H H') : WOk Z g H' w := by
  have same : ∀ a ∈ g.Om, H' a = H a := fun a ha => by
    cases q : H a with
    | none => exact absurd q (wk.dom a ha)
    | some o => exact x a o q
  exact ⟨Z.stab wk.rel same (fun b o _ e => x b o e), fun a ha => by rw [same a ha]; exact wk.dom a ha, fun a ha o e => wk.mu a ha o (by rw [← same a ha]; exact e)⟩
/-- a representation over a step -/
theorem Rep.step {ce : Str → Option Addr} {P : Pd} {v : V} {d : D} (r : Rep ce g.hs H P v d) (wk : WOk Z g H w) (x : CStep g H g' H') (k : ∀ j b, P j b → b ∉ g.Om) : Rep ce g'.hs H' P v d :=
  r.go (fun j b o p e => ⟨p, x.keep b _ (k j b p) e⟩) (fun b o t e => x.keepT wk t e) x.hs
theorem Reps.step {ce : Str → Option Addr} {P : Pd} {v : List V} {d : List D} (r : Reps ce g.hs H P v d) (wk : WOk Z g H w) (x : CStep g H g' H') (k : ∀ j b, P j b → b ∉ g.Om) : Reps ce g'.hs H' P v d :=
  r.go (fun j b o p e => ⟨p, x.keep b _ (k j b p) e⟩) (fun b o t e => x.keepT wk t e) x.hs
end

/-! ### the slots of a frame -/
structure GP where
  g0 : Gh
  g : Gh
  H0 : Hp
  Vv : List Addr
  L : List Addr
  Tp : Nat → List Addr
/-- rows of an own table -/
def Rows (ce : Str → Option Addr) (hs : List Addr) (H : Hp) (L : List Addr) : List Addr → List D → Prop
  | [], [] => True
  | q :: qs, d :: ds => (∃ vs es, d = .list es ∧ H q = some (.lst vs) ∧ vs.length ≤ sizeLine ∧ Reps ce hs H (fun _ a => a ∉ L) vs es) ∧ Rows ce hs H L qs ds
  | _, _ => False
def Slot (ce : Str → Option Addr) (hs : List Addr) (H H0 : Hp) (L : List Addr) (m : OwnK) (v : V) (d : D) (A : List Addr) : Prop :=
  match m with
  | .sh => Rep ce hs H (fun _ a => a ∉ L) v d
  | .rows => (∃ p qs ds, v = .ref p ∧ d = .list ds ∧ H p = some (.lst (qs.map V.ref)) ∧ qs.length ≤ sizeLine ∧ A = p :: qs ∧ (p :: qs).Nodup ∧ Rows ce hs H L qs ds) ∨ (isListD d = false ∧ Rep ce hs H (fun j a => a ∉ L ∧ H0 a = none) v d)
  | .nw n => Rep ce hs H (fun j a => a ∉ L ∧ (j < n → H0 a = none)) v d
  | .its nd => (∃ p vs ds, v = .ref p ∧ d = .list ds ∧ H p = some (.lst vs) ∧ vs.length ≤ sizeLine ∧ A = [p] ∧ Reps ce hs H (fun j a => a ∉ L ∧ (j < nd → H0 a = none)) vs ds) ∨ (isListD d = false ∧ Rep ce hs H (fun j a => a ∉ L ∧ (j < nd + 1 → H0 a = none)) v d)
section
variable {W : Type}
structure Good (Z : Wd W) (ce : Str → Option Addr) (own : List Nat) (γ : GP) (σ : L2.St) (H : Hp) (ρ : Rho) (w : W) : Prop where
  wok : WOk Z γ.g H w
  st0 : CStep γ.g0 γ.H0 γ.g H
  omV : ∀ a ∈ γ.g.Om, a ∈ γ.Vv
  vL : ∀ a ∈ γ.Vv, a ∈ γ.L
  dom : ∀ a ∈ γ.L, H a ≠ none
  tp : ∀ i a, a ∈ γ.Tp i → a ∈ γ.L ∧ a ∉ γ.Vv ∧ γ.H0 a = none
  dis : ∀ i j a, a ∈ γ.Tp i → a ∈ γ.Tp j → i = j
  len : ρ.length = σ.length
  slot : ∀ (i : Nat) (d : D), ρ[i]? = some (some d) → ∃ v, σ[i]? = some (some v) ∧ Slot ce γ.g.hs H γ.H0 γ.L (ownK (ownAt own i)) v d (γ.Tp i)
variable {Z : Wd W} {ce : Str → Option Addr} {own : List Nat} {γ : GP} {σ : L2.St} {H H' : Hp} {ρ : Rho} {w w' : W} {g' : Gh}
def GP.step (γ : GP) (g' : Gh) : GP := { γ with g := g', Vv := g'.Om ++ γ.Vv, L := g'.Om ++ γ.L }
theorem Rows.go {hs hs' : List Addr} {L L' : List Addr} (k : ∀ b o, H b = some (.lst o) → b ∉ L → H' b = some (.lst o) ∧ b ∉ L') (kt : ∀ b o, isT o → H b = some o → H' b = some o) (hh : ∀ (k : Nat) (a : Addr), hs[k]? = some a → hs'[k]? = some a) :
    ∀ {qs : List Addr} {ds : List D}, (∀ q ∈ qs, ∀ o, H q = some o → H' q = some o) → Rows ce hs H L qs ds → Rows ce hs' H' L' qs ds
  | [], [], _, _ => trivial
  | [], _ :: _, _, h => h.elim
  | _ :: _, [], _, h => h.elim
  | q :: qs, d :: ds, kq, ⟨⟨vs, es, e1, e2, n, r⟩, h⟩ => ⟨⟨vs, es, e1, kq q (List.mem_cons_self) _ e2, n, r.go (fun j b o p e => ⟨(k b o e p).2, (k b o e p).1⟩) kt hh⟩, Rows.go k kt hh (fun q hq => kq q (List.mem_cons_of_mem _ hq)) h⟩
theorem Slot.go {hs hs' : List Addr} {H0 : Hp} {L L' : List Addr} {m : OwnK} {v : V} {d : D} {A : List Addr} (k : ∀ b o, H b = some (.lst o) → b ∉ L → H' b = some (.lst o) ∧ b ∉ L') (kA : ∀ b ∈ A, ∀ o, H b = some o → H' b = some o)
    (kt : ∀ b o, isT o → H b = some o → H' b = some o) (hh : ∀ (k : Nat) (a : Addr), hs[k]? = some a → hs'[k]? = some a) (s : Slot ce hs H H0 L m v d A) : Slot ce hs' H' H0 L' m v d A := by
  cases m
  · exact Rep.go s (fun j b o p e => ⟨(k b o e p).2, (k b o e p).1⟩) kt hh
  · rcases s with ⟨p, qs, ds, e1, e2, e3, n, e4, nd, r⟩ | ⟨e, r⟩
    · exact .inl ⟨p, qs, ds, e1, e2, kA p (by rw [e4]; exact List.mem_cons_self) _ e3, n, e4, nd, r.go k kt hh fun q hq o e => kA q (by rw [e4]; exact List.mem_cons_of_mem _ hq) o e⟩
    · exact .inr ⟨e, r.go (fun j b o p e => ⟨⟨(k b o e p.1).2, p.2⟩, (k b o e p.1).1⟩) kt hh⟩
  · rcases s with s | s
    · obtain ⟨p, vs, ds, e1, e2, e3, n, e4, r⟩ := s
      exact .inl ⟨p, vs, ds, e1, e2, kA p (by rw [e4]; exact List.mem_cons_self) _ e3, n, e4, r.go (fun j b o p e => ⟨⟨(k b o e p.1).2, p.2⟩, (k b o e p.1).1⟩) kt hh⟩
    · obtain ⟨e, r⟩ := s
      exact .inr ⟨e, r.go (fun j b o p e => ⟨⟨(k b o e p.1).2, p.2⟩, (k b o e p.1).1⟩) kt hh⟩
  · exact Rep.go s (fun j b o p e => ⟨⟨(k b o e p.1).2, p.2⟩, (k b o e p.1).1⟩) kt hh
theorem Good.step (G : Good Z ce own γ σ H ρ w) (x : CStep γ.g H g' H') (wk : WOk Z g' H' w') : Good Z ce own (γ.step g') σ H' ρ w' where
  wok := wk
  st0 := G.st0.trans x
  omV := fun a h => List.mem_append_left _ h
  vL := fun a h => (List.mem_append.mp h).elim (fun z => List.mem_append_left _ z) fun z => List.mem_append_right _ (G.vL a z)
  dom := fun a h => by
    rcases List.mem_append.mp h with z | z
    · exact wk.dom a z
    · exact fun q => G.dom a z (x.none wk q)
  tp := fun i a h => by
    obtain ⟨h1, h2, h3⟩ := G.tp i a h
    refine ⟨List.mem_append_right _ h1, fun z => ?_, h3⟩
    rcases List.mem_append.mp z with z | z
    · rcases x.new a z with q | q
      · exact h2 (G.omV a q)
      · exact G.dom a h1 q
    · exact h2 z
  dis := G.dis
  len := G.len
  slot := fun i d e => by
    obtain ⟨v, e1, s⟩ := G.slot i d e
    refine ⟨v, e1, s.go (fun b o e n => ⟨x.keep b _ (fun z => n (G.vL b (G.omV b z))) e, fun z => ?_⟩) (fun b hb o e => x.keep b o (fun z => (G.tp i b hb).2.1 (G.omV b z)) e) (fun b o t e => x.keepT G.wok t e) x.hs⟩
    rcases List.mem_append.mp z with z | z
    · rcases x.new b z with q | q
      · exact n (G.vL b (G.omV b q))
      · rw [q] at e; cases e
    · exact n z
/-- what an expression's list nodes are: new, not among the own ones below k -/
def Pex (k nF nT : Nat) (γ : GP) (H : Hp) : Pd := fun j a => (j < nF → H a = none) ∧ (j < nT → γ.H0 a = none) ∧ a ∉ γ.Vv ∧ (k ≤ j → a ∉ γ.L)
theorem Pex.om (G : Good Z ce own γ σ H ρ w) {k nF nT j : Nat} {a : Addr} {H2 : Hp} (p : Pex k nF nT γ H2 j a) : a ∉ γ.g.Om := fun z => p.2.2.1 (G.omV a z)
def Post {α : Type} (r : Res W α) (ok : α → W → Prop) (ex : Str → W → Prop) : Prop := match r with
  | .ok a w => ok a w
  | .ex c w => ex c w
  | .no => False
theorem Post.bind {α β : Type} {r : Res W α} {f : α → W → Res W β} {ok : β → W → Prop} {ex : Str → W → Prop} (h : Post (r.bind f) ok ex) : Post r (fun a w => Post (f a w) ok ex) ex := by
  cases r <;> exact h
theorem Post.of_bind {α β : Type} {r : Res W α} {f : α → W → Res W β} {ok : β → W → Prop} {ex : Str → W → Prop} (h : Post r (fun a w => Post (f a w) ok ex) ex) : Post (r.bind f) ok ex := by
  cases r <;> exact h
theorem Post.imp {α : Type} {r : Res W α} {ok ok' : α → W → Prop} {ex ex' : Str → W → Prop} (h : Post r ok ex) (k : ∀ a w, ok a w → ok' a w) (kx : ∀ c w, ex c w → ex' c w) : Post r ok' ex' := by
  cases r with
  | ok a w => exact k a w h
  | ex c w => exact kx c w h
  | no => exact h
theorem Post.lift {α : Type} {o : Option α} {w : W} {ok : α → W → Prop} {ex : Str → W → Prop} (h : Post (T.lift o w) ok ex) : ∃ a, o = some a ∧ ok a w := by
  cases o with
  | none => exact h.elim
  | some a => exact ⟨a, rfl, h⟩
theorem Post.guard {α : Type} {b : Bool} {r : Res W α} {ok : α → W → Prop} {ex : Str → W → Prop} (h : Post (guardR b r) ok ex) : b = true ∧ Post r ok ex := by
  cases b with
  | false => exact h.elim
  | true => exact ⟨rfl, h⟩
theorem Post.calm {α : Type} {r : Res W α} {ok : α → W → Prop} {ex : Str → W → Prop} (h : Post (calmR r) ok ex) : Post r ok ex := h
/-- and none of those that change -/
def PexO (k nF nT : Nat) (γ : GP) (H : Hp) (g' : Gh) : Pd := fun j a => Pex k nF nT γ H j a ∧ a ∉ g'.Om
/-- the wish of an expression -/
def okE (Z : Wd W) (ce : Str → Option Addr) (k nF nT : Nat) (γ : GP) (H : Hp) (Q : VK) (d : D) (w' : W) : Prop := ∀ v H' g', CStep γ.g H g' H' → WOk Z g' H' w' → Rep ce g'.hs H' (PexO k nF nT γ H g') v d → Q v H'
def exE (Z : Wd W) (γ : GP) (H : Hp) (Wx : Str → L2.St → Hp → Prop) (σ : L2.St) (c : Str) (w' : W) : Prop := ∀ H' g', CStep γ.g H g' H' → WOk Z g' H' w' → Wx c σ H'
def tE (Z : Wd W) (ce : Str → Option Addr) (own : List Nat) (k nF nT : Nat) (Wx : Str → L2.St → Hp → Prop) (f : Rho → W → Res W D) : TE := fun σ H Q => ∃ γ ρ w, Good Z ce own γ σ H ρ w ∧ Post (f ρ w) (okE Z ce k nF nT γ H Q) (exE Z γ H Wx σ)
def tT (Z : Wd W) (ce : Str → Option Addr) (own : List Nat) (Wx : Str → L2.St → Hp → Prop) (f : Rho → W → Res W Bool) : TT := fun σ H Q => ∃ γ ρ w, Good Z ce own γ σ H ρ w ∧ Post (f ρ w) (fun b w' => ∀ H' g', CStep γ.g H g' H' → WOk Z g' H' w' → Q b H') (exE Z γ H Wx σ)
def okL (Z : Wd W) (ce : Str → Option Addr) (k nF nT : Nat) (γ : GP) (H : Hp) (Q : List V → Hp → Prop) (ds : List D) (w' : W) : Prop := ∀ vs H' g', CStep γ.g H g' H' → WOk Z g' H' w' → Reps ce g'.hs H' (PexO k nF nT γ H g') vs ds → Q vs H'
theorem Rep.stepO {g1 g2 : Gh} {H1 H2 : Hp} {P : Pd} {v : V} {d : D} {w1 : W} (r : Rep ce g1.hs H1 (fun j a => P j a ∧ a ∉ g1.Om) v d) (wk : WOk Z g1 H1 w1) (x : CStep g1 H1 g2 H2) : Rep ce g2.hs H2 (fun j a => P j a ∧ a ∉ g2.Om) v d :=
  r.go (fun j b o p e => ⟨⟨p.1, fun z => (x.new b z).elim p.2 fun q => by rw [q] at e; cases e⟩, x.keep b _ p.2 e⟩) (fun b o t e => x.keepT wk t e) x.hs
theorem Reps.stepO {g1 g2 : Gh} {H1 H2 : Hp} {P : Pd} {v : List V} {d : List D} {w1 : W} (r : Reps ce g1.hs H1 (fun j a => P j a ∧ a ∉ g1.Om) v d) (wk : WOk Z g1 H1 w1) (x : CStep g1 H1 g2 H2) : Reps ce g2.hs H2 (fun j a => P j a ∧ a ∉ g2.Om) v d :=
  r.go (fun j b o p e => ⟨⟨p.1, fun z => (x.new b z).elim p.2 fun q => by rw [q] at e; cases e⟩, x.keep b _ p.2 e⟩) (fun b o t e => x.keepT wk t e) x.hs
/-- a new address is what is asked -/
theorem Good.newP (G : Good Z ce own γ σ H ρ w) {g2 : Gh} {H2 : Hp} {w2 : W} (x : CStep γ.g H g2 H2) (wk : WOk Z g2 H2 w2) {a : Addr} (h : H2 a = none) (k nF nT j : Nat) : PexO k nF nT γ H g2 j a := by
  have h1 : H a = none := x.none wk h
  refine ⟨⟨fun _ => h1, fun _ => G.st0.none G.wok h1, fun z => G.dom a (G.vL a z) h1, fun _ z => G.dom a z h1⟩, fun z => wk.dom a z h⟩
/-- a wish over the step -/
theorem Pex.back {k nF nT j : Nat} {a : Addr} {H : Hp} {H1 : Hp} {g1 : Gh} {w1 : W} (x : CStep γ.g H g1 H1) (wk : WOk Z g1 H1 w1) (p : Pex k nF nT (γ.step g1) H1 j a) : Pex k nF nT γ H j a :=
  ⟨fun h => x.none wk (p.1 h), p.2.1, fun z => p.2.2.1 (List.mem_append_right _ z), fun h z => p.2.2.2 h (List.mem_append_right _ z)⟩
theorem Pex.weak {k k' nF nF' nT nT' j : Nat} {a : Addr} {H : Hp} (p : Pex k nF nT γ H j a) (h1 : k ≤ k') (h2 : nF' ≤ nF) (h3 : nT' ≤ nT) : Pex k' nF' nT' γ H j a :=
  ⟨fun h => p.1 (Nat.lt_of_lt_of_le h h2), fun h => p.2.1 (Nat.lt_of_lt_of_le h h3), p.2.2.1, fun h => p.2.2.2 (Nat.le_trans h1 h)⟩
theorem imE {X : Cx} {e : Expr} {t t' : TE} (h : PE X e t) (k : ∀ σ H Q, t' σ H Q → t σ H Q) : PE X e t' := ⟨fun pins s σ H Q I q => h.run pins s σ H Q I (k σ H Q q)⟩
theorem imT {X : Cx} {e : Expr} {t t' : TT} (h : PT X e t) (k : ∀ σ H Q, t' σ H Q → t σ H Q) : PT X e t' := ⟨fun pins s σ H Q I q => h.run pins s σ H Q I (k σ H Q q)⟩
theorem imW {X : Cx} {e : Expr} {t t' : TT} (h : PW X e t) (k : ∀ σ H Q, t' σ H Q → t σ H Q) : PW X e t' := ⟨fun wh pins s σ H Q I q => h.run wh pins s σ H Q I (k σ H Q q)⟩
theorem imA {X : Cx} {e : List Expr} {t t' : TA} (h : PA X e t) (k : ∀ σ H Q, t' σ H Q → t σ H Q) : PA X e t' := ⟨fun p pins s σ H Q I q => h.run p pins s σ H Q I (k σ H Q q)⟩
theorem imS {X : Cx} {e : Stmt} {t t' : TS} (h : PS X e t) (k : ∀ Dn σ H, t' Dn σ H → t Dn σ H) : PS X e t' := ⟨fun pins s σ H Dn I q => h.run pins s σ H Dn I (k Dn σ H q)⟩
theorem imSs {X : Cx} {e : List Stmt} {t t' : TS} (h : PSs X e t) (k : ∀ Dn σ H, t' Dn σ H → t Dn σ H) : PSs X e t' := ⟨fun pins s σ H Dn I q => h.run pins s σ H Dn I (k Dn σ H q)⟩
end
end T
namespace T
open PySem PySem.Spec PyProof.Rows L2
/-! ### operators over trees -/
section
variable {X : Cx} {ce : Str → Option Addr}
theorem OpR.imp {f : Value → Value → Sem Value} {r r' : R2} (h : OpR X f r) (k : ∀ x y H Q, r' x y H Q → r x y H Q) : OpR X f r' := fun pins s σ H x y v u Q I rx ry q => h pins s σ H x y v u Q I rx ry (k x y H Q q)
/-- new at the top, the rest as it was -/
def Ptop (H : Hp) (P : Pd) : Pd := fun j a => (j = 0 → H a = none) ∧ (1 ≤ j → P j a)
def rBin (ce : Str → Option Addr) (op : Operator) : R2 := fun x y H Q => ∃ hs P d e z, Rep ce hs H P x d ∧ Rep ce hs H P y e ∧ binD op d e = some z ∧ ∀ v H', HExt H H' → Rep ce hs H' (Ptop H P) v z → Q v H'
theorem line_le {n : Nat} (h : lenOk n = true) : n ≤ sizeLine := by
  have h1 : n ≤ 1000000 := of_decide_eq_true h
  rw [sizeLine_eq]; omega
theorem list_new {hs : List Addr} {H : Hp} {P : Pd} {vs : List V} {ds : List D} {Q : VK} (r : Reps ce hs H (fun j b => P (j + 1) b) vs ds) (hl : vs.length ≤ sizeLine) (q : ∀ v H', HExt H H' → Rep ce hs H' (Ptop H P) v (.list ds) → Q v H') :
    ∀ p, H p = none → Q (.ref p) (upd H p (.lst vs)) := fun p hp => q _ _ (HExt.upd hp) (Rep.newL (r.mono fun j b h => ⟨(fun z => nomatch z), fun _ => h⟩) hp hl ⟨fun _ => hp, fun z => nomatch z⟩)
theorem tup_new {hs : List Addr} {H : Hp} {P : Pd} {vs : List V} {ds : List D} {Q : VK} (r : Reps ce hs H (fun j b => P (j + 1) b) vs ds) (hl : vs.length ≤ sizeLine) (q : ∀ v H', HExt H H' → Rep ce hs H' (Ptop H P) v (.tuple ds) → Q v H') :
    ∀ p (o : Obj), H p = none → o.dict = none → Q (.ref p) (upd H p (.frz o (.tup vs))) := fun p o hp ho => q _ _ (HExt.upd hp) (Rep.newT (r.mono fun j b h => ⟨(fun z => nomatch z), fun _ => h⟩) hp ho hl)
theorem bin_ok (op : Operator) : OpR X (binaryOp op) (rBin ce op) := by
  intro pins s σ H x y v u Q I rx ry h
  obtain ⟨hs, P, d, e, z, hd, he, hz, q⟩ := h
  unfold binD at hz
  split at hz
  · cases hz; cases hd; cases he
    exact op_add pins s σ H _ _ v u Q I rx ry ⟨_, _, rfl, rfl, q _ _ HExt.refl (.int _)⟩
  · split at hz
    · rename_i hl
      cases hz
      cases hd with
      | lst e1 n1 p1 r1 =>
        cases he with
        | lst e2 n2 p2 r2 =>
          have hle := line_le hl
          rw [← r1.length, ← r2.length] at hle
          exact op_cat pins s σ H _ _ v u Q I rx ry ⟨_, _, _, _, rfl, rfl, e1, e2, hle, list_new ((r1.mono fun j b p => p.1).append (r2.mono fun j b p => p.1)) (by rw [List.length_append]; exact hle) q⟩
    · cases hz
  · split at hz
    · rename_i hl
      cases hz
      cases hd with
      | tup e1 n1 r1 =>
        cases he with
        | tup e2 n2 r2 =>
          have hle := line_le hl
          rw [← r1.length, ← r2.length] at hle
          refine op_catF pins s σ H _ _ v u Q I rx ry ⟨_, _, _, _, rfl, rfl, e1.sq, e2.sq, hle, fun z => ?_, fun _ z => ?_, fun _ _ => tup_new (r1.append r2) (by rw [List.length_append]; exact hle) q⟩
          · have l1 := r1.length
            rw [z] at l1
            have z2 := List.eq_nil_of_length_eq_zero l1.symm
            subst z2
            exact q _ _ HExt.refl (.tup e2 n2 (r2.mono fun j b p => ⟨(fun z => nomatch z), fun _ => p⟩))
          · have l1 := r2.length
            rw [z] at l1
            have z2 := List.eq_nil_of_length_eq_zero l1.symm
            subst z2
            rw [List.append_nil] at q
            exact q _ _ HExt.refl (.tup e1 n1 (r1.mono fun j b p => ⟨(fun z => nomatch z), fun _ => p⟩))
    · cases hz
  · split at hz
    · rename_i hl
      cases hz; cases hd; cases he
      exact op_add_str pins s σ H _ _ v u Q I rx ry ⟨_, _, rfl, rfl, line_le hl, q _ _ HExt.refl (.str _)⟩
    · cases hz
  · cases hz; cases hd; cases he
    exact op_sub pins s σ H _ _ v u Q I rx ry ⟨_, _, rfl, rfl, q _ _ HExt.refl (.int _)⟩
  · split at hz
    · rename_i hm
      cases hz; cases hd; cases he
      refine op_mul pins s σ H _ _ v u Q I rx ry ⟨_, _, rfl, rfl, ?_, q _ _ HExt.refl (.int _)⟩
      unfold mulOk at hm
      rcases Bool.or_eq_true_iff.mp hm with h | h
      · have := of_decide_eq_true h
        exact .inl ⟨by omega, by omega⟩
      · have := of_decide_eq_true h
        exact .inr ⟨by omega, by omega⟩
    · cases hz
  · split at hz
    · rename_i hm
      cases hz
      obtain ⟨h1, h2⟩ := Bool.and_eq_true_iff.mp hm
      have h2 := of_decide_eq_true h2
      cases he
      cases hd with
      | lst e1 n1 p1 r1 =>
        have hle := line_le h1
        rw [← r1.length] at hle
        refine op_rep pins s σ H _ _ v u Q I rx ry ⟨_, _, _, rfl, rfl, e1, by omega, by omega, hle, list_new ((r1.mono fun j b p => p.1).rep _) ?_ q⟩
        rw [List.length_flatten, List.map_replicate, List.sum_replicate_nat, Nat.mul_comm]
        exact hle
    · cases hz
  · split at hz
    · rename_i hm
      cases hz; cases hd; cases he
      obtain ⟨h1, h2⟩ := Bool.and_eq_true_iff.mp hm
      have h1 := of_decide_eq_true h1
      have h2 := of_decide_eq_true h2
      exact op_fdivW pins s σ H _ _ v u Q I rx ry ⟨_, _, rfl, rfl, wide_div (b := 100) h1 (by omega) (by decide) (by decide), q _ _ HExt.refl (.int _)⟩
    · cases hz
  · split at hz
    · rename_i hm
      cases hz; cases hd; cases he
      exact op_mod pins s σ H _ _ v u Q I rx ry ⟨_, _, rfl, rfl, of_decide_eq_true hm, q _ _ HExt.refl (.int _)⟩
    · cases hz
  · split at hz
    · rename_i hm
      cases hz; cases hd; cases he
      obtain ⟨h1, h3⟩ := Bool.and_eq_true_iff.mp hm
      obtain ⟨h1, h2⟩ := Bool.and_eq_true_iff.mp h1
      have h1 := of_decide_eq_true h1
      have h2 := of_decide_eq_true h2
      have h3 := of_decide_eq_true h3
      exact op_pow pins s σ H _ _ v u Q I rx ry ⟨_, _, rfl, rfl, ⟨h1, by omega, by omega⟩, q _ _ HExt.refl (.int _)⟩
    · cases hz
  · cases hz
theorem scal_flat {hs : List Addr} {H : Hp} {P : Pd} {v : V} {d : D} (r : Rep ce hs H P v d) (h : scalB d = true) : flatV v = true := by
  cases r <;> first | rfl | cases h
theorem scal_flats {hs : List Addr} {H : Hp} {P : Pd} : ∀ {vs : List V} {ds : List D}, Reps ce hs H P vs ds → ds.all scalB = true → vs.all flatV = true
  | _, _, .nil, _ => rfl
  | _, _, .cons a r, h => by
    simp only [List.all_cons, Bool.and_eq_true] at h ⊢
    exact ⟨scal_flat a h.1, scal_flats r h.2⟩
theorem eqV_scal {hs : List Addr} {H : Hp} {P P' : Pd} {v u : V} {d e : D} (r : Rep ce hs H P v d) (s : Rep ce hs H P' u e) (h1 : scalB d = true) (h2 : scalB e = true) : eqV v u = PyData.eqv d e := by
  cases r <;> cases s <;> first
    | rfl
    | exact absurd h1 Bool.false_ne_true
    | exact absurd h2 Bool.false_ne_true
theorem inV_scal {hs : List Addr} {H : Hp} {P P' : Pd} {u : V} {e : D} (s : Rep ce hs H P' u e) (h2 : scalB e = true) : ∀ {vs : List V} {ds : List D}, Reps ce hs H P vs ds → ds.all scalB = true → inV u vs = ds.any fun y => PyData.eqv y e
  | _, _, .nil, _ => rfl
  | _, _, .cons a r, h => by
    simp only [List.all_cons, Bool.and_eq_true] at h
    have ih := inV_scal s h2 r h.2
    unfold inV at ih ⊢
    rw [List.any_cons, List.any_cons, eqV_scal a s h.1 h2, ih]
def rCmp (ce : Str → Option Addr) (op : CmpOp) : R2 := fun x y H Q => ∃ hs P P' d e t, Rep ce hs H P x d ∧ Rep ce hs H P' y e ∧ cmpD op d e = some t ∧ Q (.bl t) H
theorem bool_dec (a b : Bool) : (a == b) = decide (a = b) := by cases a <;> cases b <;> rfl
theorem none_dec {hs : List Addr} {H : Hp} {P : Pd} {v : V} {d : D} (r : Rep ce hs H P v d) : decide (v = .non) = isNoneD d := by cases r <;> rfl
theorem cmp_ok (hu : X.A.units + 64 < cLine) (op : CmpOp) : OpR X (compareOp op) (rCmp ce op) := by
  intro pins s σ H x y v u Q I rx ry h
  obtain ⟨hs, P, P', d, e, z, hd, he, hz, q⟩ := h
  unfold cmpD at hz
  split at hz
  · split at hz
    · rename_i hs
      cases hz
      obtain ⟨s1, s2⟩ := Bool.and_eq_true_iff.mp hs
      exact op_eqD hu pins s σ H _ _ v u Q I rx ry ⟨d, e, hd.dp (SeqAt.canLay_of_shaped s1), he.dp (SeqAt.canLay_of_shaped s2), s1, s2, q⟩
    · cases hz
  · split at hz
    · rename_i hs
      cases hz
      obtain ⟨s1, s2⟩ := Bool.and_eq_true_iff.mp hs
      exact op_neD hu pins s σ H _ _ v u Q I rx ry ⟨d, e, hd.dp (SeqAt.canLay_of_shaped s1), he.dp (SeqAt.canLay_of_shaped s2), s1, s2, q⟩
    · cases hz
  · cases hz; cases hd; cases he; exact op_lt pins s σ H _ _ v u Q I rx ry ⟨_, _, rfl, rfl, q⟩
  · cases hz; cases hd; cases he; exact op_le pins s σ H _ _ v u Q I rx ry ⟨_, _, rfl, rfl, q⟩
  · cases hz; cases hd; cases he; exact op_gt pins s σ H _ _ v u Q I rx ry ⟨_, _, rfl, rfl, q⟩
  · cases hz; cases hd; cases he; exact op_ge pins s σ H _ _ v u Q I rx ry ⟨_, _, rfl, rfl, q⟩
  · split at hz
    · rename_i hs
      cases hz
      obtain ⟨hs, s3⟩ := Bool.and_eq_true_iff.mp hs
      obtain ⟨s1, s2⟩ := Bool.and_eq_true_iff.mp hs
      obtain ⟨as, r1⟩ := Dp.reads I _ _ v (hd.dp (SeqAt.canLay_of_shaped s1)) rx
      obtain ⟨bs, r2⟩ := Dp.reads I _ _ u (he.dp (SeqAt.canLay_of_shaped s2)) ry
      exact PySem.W.rcGe_alike _ _ _ _ _ _ _ _ r1 r2 s3 (fun z => nomatch z) (SeqAt.room_of_shaped s1 hu) _ _ _ _ ⟨.bl _, H, I, rfl, q⟩
    · cases hz
  · have hz := Option.some.inj hz
    cases he
    exact op_isN pins s σ H _ _ v u Q I rx ry ⟨rfl, by rw [none_dec hd, hz]; exact q⟩
  · have hz := Option.some.inj hz
    cases he
    exact op_notN pins s σ H _ _ v u Q I rx ry ⟨rfl, by rw [none_dec hd, hz]; exact q⟩
  · cases hz; cases hd; cases he; exact op_isBl pins s σ H _ _ v u Q I rx ry ⟨_, _, rfl, rfl, by rw [← bool_dec]; exact q⟩
  · cases hz; cases hd; cases he; exact op_notBl pins s σ H _ _ v u Q I rx ry ⟨_, _, rfl, rfl, by rw [← bool_dec]; exact q⟩
  · split at hz
    · rename_i hs
      cases hz
      obtain ⟨s1, s2⟩ := Bool.and_eq_true_iff.mp hs
      cases he with
      | lst e1 n1 p1 r1 => exact op_in_seq pins s σ H _ _ v u Q I rx ry ⟨_, _, rfl, .inl (SqL.of e1), scal_flat hd s1, scal_flats r1 s2, by rw [inV_scal hd s1 r1 s2]; exact q⟩
    · cases hz
  · split at hz
    · rename_i hs
      cases hz
      obtain ⟨s1, s2⟩ := Bool.and_eq_true_iff.mp hs
      cases he with
      | lst e1 n1 p1 r1 => exact op_notIn_seq pins s σ H _ _ v u Q I rx ry ⟨_, _, rfl, .inl (SqL.of e1), scal_flat hd s1, scal_flats r1 s2, by rw [inV_scal hd s1 r1 s2]; exact q⟩
    · cases hz
  · split at hz
    · rename_i hs
      cases hz
      obtain ⟨s1, s2⟩ := Bool.and_eq_true_iff.mp hs
      cases he with
      | tup e1 n1 r1 => exact op_in_seq pins s σ H _ _ v u Q I rx ry ⟨_, _, rfl, .inr (e1.sq), scal_flat hd s1, scal_flats r1 s2, by rw [inV_scal hd s1 r1 s2]; exact q⟩
    · cases hz
  · split at hz
    · rename_i hs
      cases hz
      obtain ⟨s1, s2⟩ := Bool.and_eq_true_iff.mp hs
      cases he with
      | tup e1 n1 r1 => exact op_notIn_seq pins s σ H _ _ v u Q I rx ry ⟨_, _, rfl, .inr (e1.sq), scal_flat hd s1, scal_flats r1 s2, by rw [inV_scal hd s1 r1 s2]; exact q⟩
    · cases hz
  · cases hz; cases hd; cases he; exact op_in_str pins s σ H _ _ v u Q I rx ry ⟨_, _, rfl, rfl, q⟩
  · cases hz
/-- items by place -/
theorem at_rep {hs : List Addr} {H : Hp} {P : Pd} {vs : List V} {ds : List D} {i : Int} {d : D} (r : Reps ce hs H P vs ds) (h : atI ds i = some d) : ∃ v, atI vs i = some v ∧ Rep ce hs H P v d := by
  unfold atI at h ⊢
  rw [r.length]
  cases q : ixN ds.length i with
  | none => rw [q] at h; cases h
  | some j =>
    rw [q] at h
    exact r.get h
def rIxD (ce : Str → Option Addr) : R2 := fun x y H Q => ∃ hs P P' d e z, Rep ce hs H P x d ∧ Rep ce hs H P' y e ∧ ixD d e = some z ∧ ∀ v, Rep ce hs H (fun j b => P (j + 1) b) v z → Q v H
theorem ix_ok : IxR X (rIxD ce) := by
  intro value slice pins s σ H x y v u Q I rx ry h hsl
  obtain ⟨hs, P, P', d, e, z, hd, he, hz, q⟩ := h
  unfold ixD at hz
  split at hz
  · cases he
    cases hd with
    | lst e1 n1 p1 r1 =>
      obtain ⟨v', h1, h2⟩ := at_rep r1 hz
      exact ix_list value slice pins s σ H _ _ v u Q I rx ry ⟨_, _, _, _, rfl, rfl, SqL.of e1, h1, q _ (h2.mono fun j b p => p.1)⟩ hsl
  · cases he
    cases hd with
    | tup e1 n1 r1 =>
      obtain ⟨v', h1, h2⟩ := at_rep r1 hz
      exact ix_tup value slice pins s σ H _ _ v u Q I rx ry ⟨_, _, _, _, rfl, rfl, e1.sq, h1, q _ h2⟩ hsl
  · cases hz
def rSlD (ce : Str → Option Addr) : V → Option Int → Option Int → Hp → VK → Prop := fun x lo hi H Q => ∃ hs P d z, Rep ce hs H P x d ∧ sliceD d lo hi = some z ∧ ∀ v H', HExt H H' → Rep ce hs H' (Ptop H P) v z → Q v H'
theorem sl_ok : SlR X (rSlD ce) := by
  intro pins s σ H x v vl vu lo hi sl Q I rx hs pl pu h
  obtain ⟨hs', P, d, z, hd, hz, q⟩ := h
  cases d with
  | list ds =>
    cases hz
    cases hd with
    | @lst _ a vs _ e1 n1 p1 r1 =>
      refine sl_list pins s σ H _ v vl vu lo hi sl Q I rx hs pl pu ⟨_, _, rfl, SqL.of e1, ?_⟩
      have e : Reps ce hs' H (fun j b => P (j + 1) b) (cutV vs lo hi) (cutD ds lo hi) := by
        have := (((r1.mono fun j b p => p.1).drop (HT.sIx ds.length 0 lo)).take (HT.sIx ds.length ds.length hi - HT.sIx ds.length 0 lo))
        unfold cutV cutD
        rw [r1.length]
        exact this
      exact list_new e (Nat.le_trans (cutV_length _ _ _) n1) q
  | str x =>
    have hz : (if lenOk x.length then some (PyData.str (L2.cutS x lo hi)) else none) = some z := hz
    split at hz
    · rename_i hl
      cases hz
      cases hd
      exact sl_str pins s σ H _ v vl vu lo hi sl Q I rx hs pl pu ⟨_, rfl, line_le hl, q _ _ HExt.refl (.str _)⟩
    · cases hz
  | _ => cases hz
end
end T
namespace T
open PySem PySem.Spec PyProof.Rows L2
/-! ### contexts -/
def biNames : List Str := ["len", "sum", "abs", "min", "max", "range", "list", "tuple", "set", "sorted", "zip", "enumerate", "isinstance", "str", "int", "bool", "any", "all", "ValueError"]
structure Bok (X : Cx) (sc : Scope) : Prop where
  sc_ : X.env.scope = sc
  calm : X.calm = true
  un : X.A.units + 64 < cLine
  un1 : X.A.units + 65 < cLine
  bi : ∀ x ∈ biNames, X.mg x = none
def tList (te : Expr → TE) : List Expr → TA
  | [] => tNil
  | e :: es => tCons (te e) (tList te es)
section
variable {W : Type}
/-- what a def of trees promises -/
def spOf (Z : Wd W) (ce : Str → Option Addr) (den : List D → W → Res W D) : Sp := fun vs H Q E => ∃ g ds w, WOk Z g H w ∧ Reps ce g.hs H (fun _ a => a ∉ g.Om) vs ds ∧
  Post (den ds w) (fun d w' => ∀ v H' g', CStep g H g' H' → WOk Z g' H' w' → Rep ce g'.hs H' (fun _ a => H a = none ∧ a ∉ g'.Om) v d → Q v H')
    (fun c w' => ∀ H' g' K, CStep g H g' H' → WOk Z g' H' w' → ce c = some K → E (.ref K) none H')
/-- what a def promises that gives its argument back -/
def spId (Z : Wd W) (ce : Str → Option Addr) (den : List D → W → Res W D) : Sp := fun vs H Q E => ∃ g v d w, vs = [v] ∧ WOk Z g H w ∧ Rep ce g.hs H (fun _ a => a ∉ g.Om) v d ∧
  Post (den [d] w) (fun _ w' => ∀ H' g', CStep g H g' H' → WOk Z g' H' w' → Q v H')
    (fun c w' => ∀ H' g' K, CStep g H g' H' → WOk Z g' H' w' → ce c = some K → E (.ref K) none H')
def rPl (ce : Str → Option Addr) (g : List D → Option D) : List V → Hp → VK → Prop := fun vs H Q => ∃ hs P ds d, Reps ce hs H P vs ds ∧ g ds = some d ∧ ∀ v H', HExt H H' → Rep ce hs H' (fun j a => j = 0 ∧ H a = none) v d → Q v H'
def MonoE (te : Expr → TE) : Prop := ∀ e σ H Q Q', (∀ v H', Q v H' → Q' v H') → te e σ H Q → te e σ H Q'
abbrev Pl := Scope → Expr → Option (List Expr × (List D → Option D))
def PlOk (ce : Str → Option Addr) (K : PySem.W.Frag) (pl : Pl) : Prop := ∀ (X : Cx) (sc : Scope), X.K = K → Bok X sc → ∀ e es g, pl sc e = some (es, g) → es.all notStar = true → ∀ te : Expr → TE, MonoE te → (∀ a ∈ es, PE X a (te a)) → PE X e (tCB (rPl ce g) (tList te es))
/-- changing lists, told by handles -/
structure Hlo (Z : Wd W) (ce : Str → Option Addr) (hl : W → Nat → Option (List D)) (hp : W → Nat → List D → W) : Prop where
  get : ∀ {g : Gh} {H : Hp} {w : W} {k : Nat} {ds : List D}, Z.rel g H w → hl w k = some ds → ∃ a vs, g.hs[k]? = some a ∧ a ∈ g.Om ∧ H a = some (.lst vs) ∧ vs.length ≤ sizeLine ∧ Reps ce g.hs H (fun _ _ => False) vs ds
  put : ∀ {g : Gh} {H : Hp} {w : W} {k : Nat} {ds ds' : List D} {a : Addr} {vs' : List V}, Z.rel g H w → hl w k = some ds → g.hs[k]? = some a → vs'.length ≤ sizeLine → Reps ce g.hs H (fun _ _ => False) vs' ds' → Z.rel g (upd H a (.lst vs')) (hp w k ds')
/-- a dict and its reading -/
inductive DKV (ce : Str → Option Addr) (hs : List Addr) (H : Hp) : List (List Key × V) → List (List Int × D) → Prop
  | nil : DKV ce hs H [] []
  | cons {k : List Int} {v : V} {d : D} {kvs : List (List Key × V)} {kds : List (List Int × D)} : Rep ce hs H (fun _ _ => False) v d → DKV ce hs H kvs kds → DKV ce hs H ((k.map Sum.inl, v) :: kvs) ((k, d) :: kds)
structure Hdo (Z : Wd W) (ce : Str → Option Addr) (dx : Dx W) : Prop where
  get : ∀ {g : Gh} {H : Hp} {w : W} {k : Nat} {kds : List (List Int × D)}, Z.rel g H w → dx.dc w k = some kds → ∃ a kvs, g.hs[k]? = some a ∧ a ∈ g.Om ∧ H a = some (.dT kvs) ∧ DKV ce g.hs H kvs kds
  put : ∀ {g : Gh} {H : Hp} {w : W} {k : Nat} {kds kds' : List (List Int × D)} {a : Addr} {kvs' : List (List Key × V)}, Z.rel g H w → dx.dc w k = some kds → g.hs[k]? = some a → DKV ce g.hs H kvs' kds' → Z.rel g (upd H a (.dT kvs')) (dx.dw w k kds')
  new : ∀ {g : Gh} {H : Hp} {w w' : W} {k : Nat} {p : Addr}, WOk Z g H w → dx.dn w = some (k, w') → H p = none → ∃ g', CStep g H g' (upd H p (.dT [])) ∧ WOk Z g' (upd H p (.dT [])) w' ∧ g'.hs[k]? = some p
/-- fields and their reading -/
inductive FRep (ce : Str → Option Addr) (hs : List Addr) (H : Hp) : List (Str × V) → List (Str × D) → Prop
  | nil : FRep ce hs H [] []
  | cons {x : Str} {v : V} {d : D} {fvs : List (Str × V)} {fs : List (Str × D)} : Rep ce hs H (fun _ _ => False) v d → FRep ce hs H fvs fs → FRep ce hs H ((x, v) :: fvs) ((x, d) :: fs)
structure Hio (Z : Wd W) (ce : Str → Option Addr) (cw : Addr) (ix : Ix W) : Prop where
  get : ∀ {g : Gh} {H : Hp} {w : W} {k : Nat} {fs : List (Str × D)}, Z.rel g H w → ix.fg w k = some fs → ∃ a dx fvs, g.hs[k]? = some a ∧ a ∈ g.Om ∧ H a = some (.ins cw dx fvs) ∧ FRep ce g.hs H fvs fs
  put : ∀ {g : Gh} {H : Hp} {w : W} {k : Nat} {fs fs' : List (Str × D)} {a dx : Addr} {fvs fvs' : List (Str × V)}, Z.rel g H w → ix.fg w k = some fs → g.hs[k]? = some a → H a = some (.ins cw dx fvs) → FRep ce g.hs H fvs' fs' → Z.rel g (upd H a (.ins cw dx fvs')) (ix.fp w k fs')
  newI : ∀ {g0 g : Gh} {H0 H : Hp} {w : W} {a dx : Addr}, CStep g0 H0 g H → WOk Z g H w → H a = some (.ins cw dx []) → H0 a = none → a ∉ g.Om → ∃ g', CStep g0 H0 g' H ∧ WOk Z g' H (ix.mkI w).2 ∧ g'.hs[(ix.mkI w).1]? = some a
  newL : ∀ {g0 g : Gh} {H0 H : Hp} {w : W} {a : Addr} {vs : List V} {ds : List D}, CStep g0 H0 g H → WOk Z g H w → H a = some (.lst vs) → vs.length ≤ sizeLine → H0 a = none → a ∉ g.Om → Reps ce g.hs H (fun _ _ => False) vs ds → ∃ g', CStep g0 H0 g' H ∧ WOk Z g' H (ix.mkL w ds).2 ∧ g'.hs[(ix.mkL w ds).1]? = some a
  new : ∀ {H : Hp} {as : List Addr} {dss : List (List D)}, as.Nodup → as.length = dss.length → (∀ (i : Nat) (a : Addr) (ds : List D), as[i]? = some a → dss[i]? = some ds → ∃ vs, H a = some (.lst vs) ∧ vs.length ≤ sizeLine ∧ Reps ce as H (fun _ _ => False) vs ds) → WOk Z ⟨as, as⟩ H (ix.fresh dss)
/-- the value of a class's name -/
def ClsVal (mg : Str → Option Value) (c : Str) (v : V) (u : Value) : Prop := (∃ a, v = .ref a ∧ u = .ref a ∧ mg c = some u) ∨ (∃ t, v = .ty t ∧ u = .type t ∧ mg c = none ∧ bootBuiltins c = some u)
/-- what the class says -/
structure IoOk (Z : Wd W) (ce : Str → Option Addr) (C : Cfg W) (X : Cx) (cw : Addr) : Prop where
  hi : Hio Z ce cw C.io.ix
  fld : ∀ f, C.io.fd.contains f = true → Cls X.K cw ∧ NoAttr X.K cw f
  mth : ∀ m g, lookD C.io.mt m = some g → ∃ k f fd ps, Cls X.K cw ∧ Meth X.K cw m f ∧ FnOk X.prog X.w X.K X.mg X.base (L2.CX X.prog X.w) k f fd ps (spOf Z ce g) ∧ Room k X.A ∧ Binds X.K fd ps []
  mkr : ∀ x g, lookD C.io.mkr x = some g → ∃ k f fd ps, Mk X.K cw f ∧ X.mg x = some (.ref cw) ∧ FnOk X.prog X.w X.K X.mg X.base (L2.CX X.prog X.w) k f fd ps (spOf Z ce g) ∧ Room (k + 1) X.A ∧ Binds X.K fd ps []
  len : ∀ g, C.io.ln = some g → ∃ k f fd ps, PySem.W.findIn X.K (.ref cw) "__len__" = some (some (.ref f)) ∧ PySem.W.isFn X.K (.ref f) = true ∧ FnOk X.prog X.w X.K X.mg X.base (L2.CX X.prog X.w) k f fd ps (spOf Z ce g) ∧ Room (k + 1) X.A ∧ Binds X.K fd ps []
  muf : ∀ x g, lookD C.io.mu x = some g → ∃ k f fd ps, FnOk X.prog X.w X.K X.mg X.base (L2.CX X.prog X.w) k f fd ps (spOf Z ce g) ∧ Room k X.A ∧ X.mg x = some (.ref f) ∧ PySem.W.keepIn X.K (.ref f) = true ∧ Binds X.K fd ps []
/-- an error noted by the frame at L -/
def XEa (L : Addr) (X : Cx) (W : WX) (u : Value) (s' : Shared) : Prop :=
  ∃ (a : Addr) (B : Heap) (sI : Shared) (pins : List (Addr × Obj)) (σ : L2.St) (H : Hp) (cls : Value) (d : Option Addr), u = .ref a ∧ Inv X pins σ H sI ∧ (∀ b o, sI.heap.get? b = some o → b ∉ frs X.stack → B.get? b = some o) ∧ sI.heap.UpToSlots s'.heap ∧
    HandSPX.HeldZ B X.stack a (Zc cls d) L s'.heap ∧ H a = none ∧ s'.os = sI.os ∧ AllBare s'.gens ∧ W cls d σ H
theorem tf_of {X : Cx} {W : WX} (h : X.env.frame = some X.env.locals) (t : Takes X W) : ∀ L, X.env.frame = some L → ∀ u s', XEa L X W u s' → X.xe u s' := by
  rintro L hL u s' ⟨a, B, sI, pins, σ, H, cls, d, e, I, nb, up, hz, na, os, ag, w⟩
  rw [h] at hL
  cases hL
  exact t u s' ⟨a, B, sI, pins, σ, H, cls, d, e, I, nb, up, .inr (.inr hz), na, os, ag, w⟩
structure Cok (Z : Wd W) (ce : Str → Option Addr) (C : Cfg W) (X : Cx) (sc : Scope) (Wx : Str → L2.St → Hp → Prop) : Prop extends Bok X sc where
  nm : X.N = C.N
  hh : Hlo Z ce C.hl C.hp
  hd : Hdo Z ce C.dx
  io : ∃ cw, IoOk Z ce C X cw
  nd : C.N.Nodup
  gam : ∀ x d, C.Γ x = some d → (∃ i t, d = .int i ∧ X.mg x = some (.int i t)) ∨ (∃ z t, d = .str z ∧ X.mg x = some (.str z t))
  fns : ∀ x g, C.Φ x = some g → ∃ k f fd ps, FnOk X.prog X.w X.K X.mg X.base (L2.CX X.prog X.w) k f fd ps (spOf Z ce g) ∧ Room k X.A ∧ X.mg x = some (.ref f) ∧ PySem.W.keepIn X.K (.ref f) = true ∧ Binds X.K fd ps []
  chk : ∀ x g, C.ch x = some g → ∃ k f fd ps, FnOk X.prog X.w X.K X.mg X.base (L2.CX X.prog X.w) k f fd ps (spId Z ce g) ∧ Room k X.A ∧ X.mg x = some (.ref f) ∧ PySem.W.keepIn X.K (.ref f) = true ∧ Binds X.K fd ps []
  tk : Takes X (fun cls d σ H => d = none ∧ ∃ c K, ce c = some K ∧ cls = .ref K ∧ Wx c σ H)
  fr : ∃ e0 out L, X.stack = e0 :: out ∧ e0.frame = some L ∧ X.env.frame = some L
  tf : ∀ L, X.env.frame = some L → ∀ u s', XEa L X (fun cls d σ H => d = none ∧ ∃ c K, ce c = some K ∧ cls = .ref K ∧ Wx c σ H) u s' → X.xe u s'
  exi : ∀ c Kc, ce c = some Kc → L2.ExcC X.K Kc
  kit : ∀ c Kc, ce c = some Kc → ∀ c2, errNm C.errs c2 = true → ∃ v u, ClsVal X.mg c2 v u ∧ PySem.W.kitOne X.K (.ref Kc) u = some (subE c c2)
end
/-! ### names -/
theorem idx_ok {N : List Str} {x : Str} {i : Nat} (h : idx N x = some i) : N[i]? = some x := by
  unfold idx at h
  obtain ⟨hi, h1, _⟩ := List.findIdx?_eq_some_iff_getElem.mp h
  rw [List.getElem?_eq_getElem hi, of_decide_eq_true h1]
theorem okName_d {x : Str} (h : okName x = true) : (x == ("__debug__" : Str)) = false ∧ (x == ("__classdict__" : Str)) = false ∧ x ≠ ("__name__" : Str) := by
  unfold okName at h
  simp only [Bool.and_eq_true, Bool.not_eq_true'] at h
  exact ⟨h.1.1, h.1.2, fun z => by have := h.2; rw [z] at this; simp at this⟩
theorem rdSlot_ok {N : List Str} {sc : Scope} {x : Str} {i : Nat} (h : rdSlot N sc x = some i) : N[i]? = some x ∧ Vis sc x ∧ okName x = true := by
  unfold rdSlot at h
  split at h
  · rename_i hb
    obtain ⟨h1, h2⟩ := Bool.and_eq_true_iff.mp hb
    refine ⟨idx_ok h, ?_, h1⟩
    unfold Vis
    unfold visK at h2
    split at h2 <;> first | exact .inl (by assumption) | exact .inr (.inl (by assumption)) | exact .inr (.inr (by assumption)) | cases h2
  · cases h
theorem wrSlot_ok {N : List Str} {sc : Scope} {x : Str} {i : Nat} (h : wrSlot N sc x = some i) : N[i]? = some x ∧ L2.Loc sc x ∧ okName x = true := by
  unfold wrSlot at h
  split at h
  · rename_i hb
    obtain ⟨h1, h2⟩ := Bool.and_eq_true_iff.mp hb
    refine ⟨idx_ok h, ?_, h1⟩
    unfold L2.Loc
    unfold locK at h2
    split at h2 <;> first | exact .inl (by assumption) | exact .inr (by assumption) | cases h2
  · cases h
theorem isGlo_ok {X : Cx} {sc : Scope} {x : Str} (e : X.env.scope = sc) (h : isGlo sc x = true) : Gl X x ∧ okName x = true := by
  unfold isGlo at h
  obtain ⟨h1, h2⟩ := Bool.and_eq_true_iff.mp h
  refine ⟨?_, h1⟩
  show X.env.scope.names.lookup x = some .globalImplicit
  rw [e]
  unfold gloK at h2
  split at h2
  · assumption
  · cases h2
theorem star_cons {e : Expr} {es : List Expr} {env : Env} (h : notStar e = true) : starEach (e :: es) env = (false, eval e env) :: starEach es env := by
  cases e <;> first | rfl | cases h
theorem star_none {env : Env} {pos : Pos} : ∀ {es : List Expr}, es.all notStar = true → (backTo pos (starEach es env)).any (·.1) = false
  | [], _ => rfl
  | e :: es, h => by
    simp only [List.all_cons, Bool.and_eq_true] at h
    rw [star_cons h.1]
    show (false || (backTo pos (starEach es env)).any (·.1)) = false
    rw [star_none h.2]; rfl
theorem pa_list {X : Cx} {te : Expr → TE} : ∀ {es : List Expr}, es.all notStar = true → (∀ a ∈ es, PE X a (te a)) → PA X es (tList te es)
  | [], _, _ => pa_nil
  | e :: es, h, k => by
    simp only [List.all_cons, Bool.and_eq_true] at h
    exact pa_cons (k e List.mem_cons_self) (pa_list h.2 fun a ha => k a (List.mem_cons_of_mem _ ha)) (star_cons h.1)
theorem marks0 {op : CmpOp} {b : Expr} (h : notSet b = true) : behindInMarks op b = false := by
  cases b <;> first | rfl | cases h
theorem plainIx {b : Expr} (h : ∀ l u s p, b ≠ .Slice l u s p) : PlainIx b := fun o i => by
  cases b with
  | Slice l u s p => exact absurd rfl (h l u s p)
  | _ => rfl

section
variable {W : Type} {Z : Wd W} {ce : Str → Option Addr} {own : List Nat} {X : Cx} {Wx : Str → L2.St → Hp → Prop} {a b c : Expr} {pos : Pos} {fa fb fc : Rho → W → Res W D} {ka Fa Ta kb Fb Tb kc Fc Tc : Nat}
theorem le_none {e : Expr} {k nF nT : Nat} {f : Rho → W → Res W D} (h : ∀ ρ w, f ρ w = .no) : PE X e (tE Z ce own k nF nT Wx f) := ⟨fun pins s σ H Q I ⟨γ, ρ, w, G, q⟩ => by rw [h] at q; exact q.elim⟩
/-- a result without lists -/
theorem Rep.scal {hs : List Addr} {H : Hp} {P P' : Pd} {v : V} {d : D} (r : Rep ce hs H P v d) (h : scalB d = true) : Rep ce hs H P' v d := by
  cases r <;> first | exact .non | exact .bl _ | exact .int _ | exact .str _ | exact absurd h Bool.false_ne_true
theorem le_const {v : V} {d : D} {k nF nT : Nat} {e : Expr} (h : PE X e (tC v)) (r : ∀ hs H P, Rep ce hs H P v d) : PE X e (tE Z ce own k nF nT Wx fun _ w => .ok d w) :=
  imE h fun σ H Q ⟨γ, ρ, w, G, q⟩ => q v H γ.g CStep.refl G.wok (r _ _ _)
theorem Good.rd {γ : GP} {σ : L2.St} {H : Hp} {ρ : Rho} {w : W} (G : Good Z ce own γ σ H ρ w) {i : Nat} {d : D} (e : ρ[i]? = some (some d)) :
    ∃ v, σ[i]? = some (some v) ∧ Rep ce γ.g.hs H (PexO (topOwn (ownAt own i)) 0 (frOwn (ownAt own i)) γ H γ.g) v d := by
  obtain ⟨v, e1, s⟩ := G.slot i d e
  refine ⟨v, e1, ?_⟩
  have notL : ∀ {a : Addr}, a ∉ γ.L → a ∉ γ.Vv ∧ a ∉ γ.g.Om := fun h => ⟨fun z => h (G.vL _ z), fun z => h (G.vL _ (G.omV _ z))⟩
  have tpA : ∀ {a : Addr}, a ∈ γ.Tp i → a ∉ γ.Vv ∧ a ∉ γ.g.Om ∧ γ.H0 a = none := fun h => ⟨(G.tp i _ h).2.1, fun z => (G.tp i _ h).2.1 (G.omV _ z), (G.tp i _ h).2.2⟩
  have LT : ∀ {a b : Addr}, a ∈ γ.Tp i → b ∉ γ.L → b ≠ a := fun h1 h2 z => h2 (z ▸ (G.tp i _ h1).1)
  unfold topOwn frOwn
  cases hm : ownK (ownAt own i) with
  | sh =>
    rw [hm] at s
    exact Rep.mono s fun j b p => ⟨⟨(fun z => absurd z (Nat.not_lt_zero _)), (fun z => absurd z (Nat.not_lt_zero _)), (notL p).1, fun _ => p⟩, (notL p).2⟩
  | its nd =>
    rw [hm] at s
    rcases s with ⟨p, vs, ds, rfl, rfl, e3, n, e4, r⟩ | ⟨_, r⟩
    · have hp : p ∈ γ.Tp i := by rw [e4]; exact List.mem_cons_self
      refine .lst e3 n ⟨⟨(fun z => absurd z (Nat.not_lt_zero _)), fun _ => (tpA hp).2.2, (tpA hp).1, fun z => absurd z (by show ¬ 1 ≤ 0; omega)⟩, (tpA hp).2.1⟩ (r.mono fun j b q => ⟨⟨⟨(fun z => absurd z (Nat.not_lt_zero _)), fun z => q.2 (Nat.lt_of_succ_lt_succ z), (notL q.1).1, fun _ => q.1⟩, (notL q.1).2⟩, LT hp q.1⟩)
    · exact r.mono fun j b q => ⟨⟨(fun z => absurd z (Nat.not_lt_zero _)), q.2, (notL q.1).1, fun _ => q.1⟩, (notL q.1).2⟩
  | nw n =>
    rw [hm] at s
    exact Rep.mono s fun j b p => ⟨⟨(fun z => absurd z (Nat.not_lt_zero _)), p.2, (notL p.1).1, fun _ => p.1⟩, (notL p.1).2⟩
  | rows =>
    rw [hm] at s
    rcases s with ⟨p, qs, ds, rfl, rfl, e3, n, e4, nd, r⟩ | ⟨_, r⟩
    · have hp : p ∈ γ.Tp i := by rw [e4]; exact List.mem_cons_self
      have hq : ∀ q ∈ qs, q ∈ γ.Tp i := fun q h => by rw [e4]; exact List.mem_cons_of_mem _ h
      refine .lst e3 (by rw [List.length_map]; exact n) ⟨⟨(fun z => absurd z (Nat.not_lt_zero _)), fun _ => (tpA hp).2.2, (tpA hp).1, fun z => absurd z (by show ¬ 2 ≤ 0; omega)⟩, (tpA hp).2.1⟩ ?_
      have go : ∀ (qs : List Addr) (ds : List D), (∀ q ∈ qs, q ∈ γ.Tp i) → (∀ q ∈ qs, q ≠ p) → Rows ce γ.g.hs H γ.L qs ds →
          Reps ce γ.g.hs H (fun j b => PexO 2 0 2 γ H γ.g (j + 1) b ∧ b ≠ p) (qs.map V.ref) ds := by
        intro qs
        induction qs with
        | nil =>
          intro ds _ _ h
          cases ds with
          | nil => exact .nil
          | cons _ _ => exact h.elim
        | cons q qs ih =>
          intro ds h1 h2 h
          cases ds with
          | nil => exact h.elim
          | cons d ds =>
            obtain ⟨⟨vs, es, rfl, eq, n, rr⟩, h⟩ := h
            have hq1 := h1 q List.mem_cons_self
            refine .cons (.lst eq n ⟨⟨⟨(fun z => absurd z (Nat.not_lt_zero _)), fun _ => (tpA hq1).2.2, (tpA hq1).1, fun z => absurd z (by omega)⟩, (tpA hq1).2.1⟩, h2 q List.mem_cons_self⟩ (rr.mono fun j b z => ⟨⟨⟨⟨(fun z => absurd z (Nat.not_lt_zero _)), fun z => absurd z (by omega), (notL z).1, fun _ => z⟩, (notL z).2⟩, LT hp z⟩, LT hq1 z⟩))
              (ih ds (fun q hq => h1 q (List.mem_cons_of_mem _ hq)) (fun q hq => h2 q (List.mem_cons_of_mem _ hq)) h)
      exact go qs ds hq (fun q h z => (List.nodup_cons.mp nd).1 (z ▸ h)) r
    · exact r.mono fun j b q => ⟨⟨(fun z => absurd z (Nat.not_lt_zero _)), fun _ => q.2, (notL q.1).1, fun _ => q.1⟩, (notL q.1).2⟩
theorem le_name {C : Cfg W} {sc : Scope} {x : Str} {i : Nat} (K : Cok Z ce C X sc Wx) (h : rdSlot C.N sc x = some i) : PE X (.Name x pos) (tE Z ce C.own (topOwn (ownAt C.own i)) 0 (frOwn (ownAt C.own i)) Wx fun ρ w => sl ρ i w) := by
  obtain ⟨h1, h2, h3⟩ := rdSlot_ok h
  obtain ⟨d1, d2, _⟩ := okName_d h3
  refine imE (pe_var (i := i) (by rw [K.nm]; exact h1) (by rw [K.sc_]; exact h2) d1 d2) fun σ H Q ⟨γ, ρ, w, G, q⟩ => ?_
  dsimp only at q
  unfold sl at q
  split at q
  · rename_i d e
    obtain ⟨v, e1, r⟩ := G.rd e
    exact ⟨v, e1, q v H γ.g CStep.refl G.wok r⟩
  · exact q.elim
theorem Post.ok {α : Type} {a : α} {w : W} {ok : α → W → Prop} {ex : Str → W → Prop} (h : Post (.ok a w) ok ex) : ok a w := h
theorem le_bin {op : Operator} (ha : PE X a (tE Z ce own ka Fa Ta Wx fa)) (hb : PE X b (tE Z ce own kb Fb Tb Wx fb)) :
    PE X (.BinOp a op b pos) (tE Z ce own (max (fK ka) (fK kb)) 1 1 Wx fun ρ w => (fa ρ w).bind fun x w => (fb ρ w).bind fun y w => lift (binD op x y) w) := by
  refine imE (pe_op (bin_ok (ce := ce) op) ha hb) fun σ H Q ⟨γ, ρ, w, G, h⟩ => ⟨γ, ρ, w, G, h.bind.imp (fun d w1 h1 v H1 g1 x1 wk1 r1 => ⟨γ.step g1, ρ, w1, G.step x1 wk1, h1.bind.imp (fun e w2 h2 u H2 g2 x2 wk2 r2 => ?_) fun c w2 h2 H' g' x wk => h2 H' g' (x1.trans x) wk⟩) fun c w1 h1 => h1⟩
  obtain ⟨z, ez, q⟩ := h2.lift
  have x12 : CStep γ.g H g2 H2 := x1.trans x2
  have fKle : ∀ {k j m : Nat}, fK k ≤ m → 1 ≤ j → m ≤ j → k ≤ j := fun {k j m} h1 h2 h3 => by
    match k with
    | 0 => omega
    | 1 => omega
    | k + 2 => exact Nat.le_trans h1 h3
  refine ⟨g2.hs, fun j a => (1 ≤ j → max (fK ka) (fK kb) ≤ j → a ∉ γ.L) ∧ a ∉ γ.Vv ∧ a ∉ g2.Om, d, e, z, ?_, ?_, ez, fun v' H' xx rr => ?_⟩
  · exact (r1.stepO wk1 x2).mono fun j a p => ⟨fun h1 h2 => p.1.2.2.2 (fKle (Nat.le_max_left _ _) h1 h2), p.1.2.2.1, p.2⟩
  · exact r2.mono fun j a p => ⟨fun h1 h2 z => p.1.2.2.2 (fKle (Nat.le_max_right _ _) h1 h2) (List.mem_append_right _ z), fun z => p.1.2.2.1 (List.mem_append_right _ z), p.2⟩
  · refine q v' H' g2 (x12.trans (.ext xx)) (wk2.ext xx) (rr.mono fun j a p => ?_)
    by_cases hj : j = 0
    · exact G.newP x12 wk2 (p.1 hj) _ _ _ _
    · obtain ⟨p1, p2, p3⟩ := p.2 (by omega)
      exact ⟨⟨fun z => absurd z (by omega), fun z => absurd z (by omega), p2, p1 (by omega)⟩, p3⟩
theorem le_neg (ha : PE X a (tE Z ce own ka Fa Ta Wx fa)) {k nF nT : Nat} : PE X (.UnaryOp .USub a pos) (tE Z ce own k nF nT Wx fun ρ w => (fa ρ w).bind fun x w => lift ((asInt x).map fun i => .int (-i)) w) := by
  refine imE (pe_un un_neg ha) fun σ H Q ⟨γ, ρ, w, G, h⟩ => ⟨γ, ρ, w, G, h.bind.imp (fun d w1 h1 v H1 g1 x1 wk1 r1 => ?_) fun c w1 h1 => h1⟩
  obtain ⟨z, ez, q⟩ := h1.lift
  cases d with
  | int i =>
    cases r1
    cases ez
    exact ⟨i, rfl, q _ H1 g1 x1 wk1 (.int _)⟩
  | _ => cases ez
theorem hdlOf_rep {hs : List Addr} {H : Hp} {P : Pd} {v : V} {d : D} {k : Nat} (r : Rep ce hs H P v d) (h : hdlOf d = some k) : ∃ a, v = .ref a ∧ hs[k]? = some a := by
  cases r with
  | hdl e =>
    rename_i a k'
    have h : (if (0 : Int) ≤ (k' : Int) then some ((k' : Int).toNat) else none) = some k := h
    rw [if_pos (Int.natCast_nonneg k')] at h
    have : k' = k := by simpa using h
    subst this
    exact ⟨_, rfl, e⟩
  | exc e c => cases h
  | _ => cases h
/-- a handle's list as a tree -/
theorem Hlo.rep {hl : W → Nat → Option (List D)} {hp : W → Nat → List D → W} (K : Hlo Z ce hl hp) {g : Gh} {H : Hp} {P P' : Pd} {w : W} {v : V} {d : D} {k : Nat} {ds : List D} (rl : Z.rel g H w) (r : Rep ce g.hs H P v d) (h : hdlOf d = some k) (e : hl w k = some ds) (p0 : ∀ a, P' 0 a) : Rep ce g.hs H P' v (.list ds) := by
  obtain ⟨a, rfl, ea⟩ := hdlOf_rep r h
  obtain ⟨a', vs, e1, e2, e3, e4, e5⟩ := K.get rl e
  rw [ea] at e1
  cases e1
  exact .lst e3 e4 (p0 a) (e5.mono fun _ _ z => z.elim)
theorem deref_rep {C : Cfg W} (K : Hlo Z ce C.hl C.hp) {g : Gh} {H : Hp} {P : Pd} {w : W} {v : V} {d : D} (rl : Z.rel g H w) (r : Rep ce g.hs H P v d) : Rep ce g.hs H (fun _ _ => True) v (deref C w d) := by
  unfold deref
  split
  · rename_i k h
    split
    · rename_i ds e
      exact K.rep rl r h e fun _ => trivial
    · exact r.mono fun _ _ _ => trivial
  · exact r.mono fun _ _ _ => trivial
theorem drA_rep {C : Cfg W} (K : Hlo Z ce C.hl C.hp) {g : Gh} {H : Hp} {P : Pd} {w : W} {v : V} {d : D} (e : Expr) (rl : Z.rel g H w) (r : Rep ce g.hs H P v d) : Rep ce g.hs H (fun _ _ => True) v (drA C w e d) := by
  unfold drA
  split
  · exact deref_rep K rl r
  · exact r.mono fun _ _ _ => trivial
theorem cmp_read {C : Cfg W} (K : Hlo Z ce C.hl C.hp) {ea : Expr} {op : CmpOp} {k nF nT : Nat} {σ : L2.St} {H : Hp} {Q : VK} (h : tE Z ce own k nF nT Wx (fun ρ w => (fa ρ w).bind fun x w => (fb ρ w).bind fun y w => (lift (cmpD op (drA C w ea x) y) w).bind fun t w => .ok (.bool t) w) σ H Q) :
    tOp (rCmp ce op) (tE Z ce own ka Fa Ta Wx fa) (tE Z ce own kb Fb Tb Wx fb) σ H Q := by
  obtain ⟨γ, ρ, w, G, h⟩ := h
  refine ⟨γ, ρ, w, G, h.bind.imp (fun d w1 h1 v H1 g1 x1 wk1 r1 => ⟨γ.step g1, ρ, w1, G.step x1 wk1, h1.bind.imp (fun e w2 h2 u H2 g2 x2 wk2 r2 => ?_) fun c w2 h2 H' g' x wk => h2 H' g' (x1.trans x) wk⟩) fun c w1 h1 => h1⟩
  obtain ⟨t, et, q⟩ := h2.bind.lift
  exact ⟨g2.hs, _, _, _, e, t, drA_rep K ea wk2.rel (r1.stepO wk1 x2), r2, et, q _ H2 g2 (x1.trans x2) wk2 (.bl t)⟩
theorem chain_read {op op' : CmpOp} {k nF nT : Nat} {σ : L2.St} {H : Hp} {Q : VK} (h : tE Z ce own k nF nT Wx (fun ρ w => (fa ρ w).bind fun x w => (fb ρ w).bind fun y w => (lift (cmpD op x y) w).bind fun t w => match t with
        | true => (fc ρ w).bind fun z w => (lift (cmpD op' y z) w).bind fun t w => .ok (.bool t) w
        | false => .ok (.bool false) w) σ H Q) :
    tChain (rCmp ce op) (rCmp ce op') (tE Z ce own ka Fa Ta Wx fa) (tE Z ce own kb Fb Tb Wx fb) (tE Z ce own kc Fc Tc Wx fc) σ H Q := by
  obtain ⟨γ, ρ, w, G, h⟩ := h
  refine ⟨γ, ρ, w, G, h.bind.imp (fun d w1 h1 v H1 g1 x1 wk1 r1 => ⟨γ.step g1, ρ, w1, G.step x1 wk1, h1.bind.imp (fun e w2 h2 u H2 g2 x2 wk2 r2 => ?_) fun c w2 h2 H' g' x wk => h2 H' g' (x1.trans x) wk⟩) fun c w1 h1 => h1⟩
  obtain ⟨t, et, q⟩ := h2.bind.lift
  refine ⟨g2.hs, _, _, d, e, t, r1.stepO wk1 x2, r2, et, t, rfl, ?_⟩
  cases t with
  | false => exact iteF (q _ H2 g2 (x1.trans x2) wk2 (.bl false))
  | true =>
    refine iteT ⟨(γ.step g1).step g2, ρ, w2, (G.step x1 wk1).step x2 wk2, q.bind.imp (fun f w3 h3 u3 H3 g3 x3 wk3 r3 => ?_) fun c w3 h3 H' g' x wk => h3 H' g' ((x1.trans x2).trans x) wk⟩
    obtain ⟨t, et, q⟩ := h3.bind.lift
    exact ⟨g3.hs, _, _, e, f, t, r2.stepO wk2 x3, r3, et, q _ H3 g3 ((x1.trans x2).trans x3) wk3 (.bl t)⟩
theorem le_cmp {C : Cfg W} (K : Hlo Z ce C.hl C.hp) {op : CmpOp} {k nF nT : Nat} (hu : X.A.units + 64 < cLine) (ha : PE X a (tE Z ce own ka Fa Ta Wx fa)) (hb : PE X b (tE Z ce own kb Fb Tb Wx fb)) :
    PE X (.Compare a [op] [b] pos) (tE Z ce own k nF nT Wx fun ρ w => guardR (notSet b) <| (fa ρ w).bind fun x w => (fb ρ w).bind fun y w => (lift (cmpD op (drA C w a x) y) w).bind fun t w => .ok (.bool t) w) := by
  cases hs : notSet b with
  | false => exact le_none fun _ _ => rfl
  | true => exact imE (pe_cmpR (cmp_ok (ce := ce) hu op) ha hb (marks0 hs)) fun σ H Q h => cmp_read K h
theorem le_chain {op op' : CmpOp} {k nF nT : Nat} (hu : X.A.units + 64 < cLine) (ha : PE X a (tE Z ce own ka Fa Ta Wx fa)) (hb : PE X b (tE Z ce own kb Fb Tb Wx fb)) (hc : PE X c (tE Z ce own kc Fc Tc Wx fc)) :
    PE X (.Compare a [op, op'] [b, c] pos) (tE Z ce own k nF nT Wx fun ρ w => guardR (notSet b && notSet c) <| (fa ρ w).bind fun x w => (fb ρ w).bind fun y w => (lift (cmpD op x y) w).bind fun t w => match t with
        | true => (fc ρ w).bind fun z w => (lift (cmpD op' y z) w).bind fun t w => .ok (.bool t) w
        | false => .ok (.bool false) w) := by
  cases hs : (notSet b && notSet c) with
  | false => exact le_none fun _ _ => rfl
  | true => exact imE (pe_chain (cmp_ok (ce := ce) hu op) (cmp_ok (ce := ce) hu op') ha hb hc (marks0 (Bool.and_eq_true_iff.mp hs).2)) fun σ H Q h => chain_read h
theorem lt_cmp {C : Cfg W} (K : Hlo Z ce C.hl C.hp) {op : CmpOp} {k nF nT : Nat} (hu : X.A.units + 64 < cLine) (ha : PE X a (tE Z ce own ka Fa Ta Wx fa)) (hb : PE X b (tE Z ce own kb Fb Tb Wx fb)) :
    PT X (.Compare a [op] [b] pos) (tTest (tE Z ce own k nF nT Wx fun ρ w => guardR (notSet b) <| (fa ρ w).bind fun x w => (fb ρ w).bind fun y w => (lift (cmpD op (drA C w a x) y) w).bind fun t w => .ok (.bool t) w)) := by
  cases hs : notSet b with
  | false => exact ⟨fun pins s σ H Q I ⟨γ, ρ, w, G, q⟩ => q.elim⟩
  | true => exact imT (pt_cmpR (cmp_ok (ce := ce) hu op) ha hb (marks0 hs)) fun σ H Q h => cmp_read K h
theorem lt_chain {op op' : CmpOp} {k nF nT : Nat} (hu : X.A.units + 64 < cLine) (ha : PE X a (tE Z ce own ka Fa Ta Wx fa)) (hb : PE X b (tE Z ce own kb Fb Tb Wx fb)) (hc : PE X c (tE Z ce own kc Fc Tc Wx fc)) :
    PT X (.Compare a [op, op'] [b, c] pos) (tTest (tE Z ce own k nF nT Wx fun ρ w => guardR (notSet b && notSet c) <| (fa ρ w).bind fun x w => (fb ρ w).bind fun y w => (lift (cmpD op x y) w).bind fun t w => match t with
        | true => (fc ρ w).bind fun z w => (lift (cmpD op' y z) w).bind fun t w => .ok (.bool t) w
        | false => .ok (.bool false) w)) := by
  cases hs : (notSet b && notSet c) with
  | false => exact ⟨fun pins s σ H Q I ⟨γ, ρ, w, G, q⟩ => q.elim⟩
  | true => exact imT (pt_chain (cmp_ok (ce := ce) hu op) (cmp_ok (ce := ce) hu op') ha hb hc (marks0 (Bool.and_eq_true_iff.mp hs).2)) fun σ H Q h => chain_read h
end
end T
namespace T
open PySem PySem.Spec PyProof.Rows L2
section
variable {W : Type} {Z : Wd W} {ce : Str → Option Addr} {own : List Nat} {X : Cx} {Wx : Str → L2.St → Hp → Prop} {a b c : Expr} {pos : Pos} {fa fb fc : Rho → W → Res W D} {ka Fa Ta kb Fb Tb kc Fc Tc : Nat}
/-! ### tests -/
abbrev asB (f : Rho → W → Res W Bool) : Rho → W → Res W D := fun ρ w => (f ρ w).bind fun b w => .ok (.bool b) w
theorem lw_and {ft : Expr → Rho → W → Res W Bool} : ∀ (es : List Expr) (e : Expr), (∀ x ∈ e :: es, PT X x (tT Z ce own Wx (ft x))) → PW X (.BoolOp .And (e :: es) pos) (tT Z ce own Wx fun ρ w => andR ((e :: es).map fun x w => ft x ρ w) w)
  | [], e, h => imW (pw_and1 (h e List.mem_cons_self)) fun σ H Q q => q
  | y :: es, e, h => by
    refine imW (pw_and (h e List.mem_cons_self) (lw_and es y fun x hx => h x (List.mem_cons_of_mem _ hx))) fun σ H Q ⟨γ, ρ, w, G, q⟩ => ⟨γ, ρ, w, G, ?_⟩
    refine (Post.bind (show Post ((ft e ρ w).bind fun b w => match b with
      | true => andR ((y :: es).map fun x w => ft x ρ w) w
      | false => Res.ok false w) _ _ from q)).imp (fun b w1 h1 H1 g1 x1 wk1 => ?_) fun c w1 h1 => h1
    cases b with
    | true => exact iteT ⟨γ.step g1, ρ, w1, G.step x1 wk1, h1.imp (fun b w2 h2 H2 g2 x2 wk2 => h2 H2 g2 (x1.trans x2) wk2) fun c w2 h2 H' g' x wk => h2 H' g' (x1.trans x) wk⟩
    | false => exact iteF (h1 H1 g1 x1 wk1)
theorem lw_or {ft : Expr → Rho → W → Res W Bool} : ∀ (es : List Expr) (e : Expr), (∀ x ∈ e :: es, PT X x (tT Z ce own Wx (ft x))) → PW X (.BoolOp .Or (e :: es) pos) (tT Z ce own Wx fun ρ w => orR ((e :: es).map fun x w => ft x ρ w) w)
  | [], e, h => imW (pw_or1 (h e List.mem_cons_self)) fun σ H Q q => q
  | y :: es, e, h => by
    refine imW (pw_or (h e List.mem_cons_self) (lw_or es y fun x hx => h x (List.mem_cons_of_mem _ hx))) fun σ H Q ⟨γ, ρ, w, G, q⟩ => ⟨γ, ρ, w, G, ?_⟩
    refine (Post.bind (show Post ((ft e ρ w).bind fun b w => match b with
      | true => Res.ok true w
      | false => orR ((y :: es).map fun x w => ft x ρ w) w) _ _ from q)).imp (fun b w1 h1 H1 g1 x1 wk1 => ?_) fun c w1 h1 => h1
    cases b with
    | false => exact iteF ⟨γ.step g1, ρ, w1, G.step x1 wk1, h1.imp (fun b w2 h2 H2 g2 x2 wk2 => h2 H2 g2 (x1.trans x2) wk2) fun c w2 h2 H' g' x wk => h2 H' g' (x1.trans x) wk⟩
    | true => exact iteT (h1 H1 g1 x1 wk1)
theorem le_and {ft : Expr → Rho → W → Res W Bool} {k nF nT : Nat} : ∀ (es : List Expr) (e : Expr), (∀ x ∈ e :: es, PE X x (tE Z ce own 0 9 9 Wx (asB (ft x)))) → PE X (.BoolOp .And (e :: es) pos) (tE Z ce own k nF nT Wx (asB fun ρ w => andR ((e :: es).map fun x w => ft x ρ w) w))
  | [], e, h => imE (pe_one (h e List.mem_cons_self)) fun σ H Q ⟨γ, ρ, w, G, q⟩ => ⟨γ, ρ, w, G, Post.of_bind ((Post.bind (r := ft e ρ w) q).imp (fun b w1 h1 v H' g' x wk r => h1 v H' g' x wk (r.scal rfl)) fun c w1 h1 => h1)⟩
  | y :: es, e, h => by
    refine imE (pe_and (h e List.mem_cons_self) (le_and (k := k) (nF := nF) (nT := nT) es y fun x hx => h x (List.mem_cons_of_mem _ hx))) fun σ H Q ⟨γ, ρ, w, G, q⟩ => ⟨γ, ρ, w, G, Post.of_bind ?_⟩
    refine (Post.bind (Post.bind (show Post (((ft e ρ w).bind fun b w => match b with
      | true => andR ((y :: es).map fun x w => ft x ρ w) w
      | false => Res.ok false w).bind fun b w => Res.ok (PyData.bool b) w) _ _ from q))).imp (fun b w1 h1 v H1 g1 x1 wk1 r1 => ?_) fun c w1 h1 => h1
    cases r1
    refine ⟨b, rfl, ?_⟩
    cases b with
    | true => exact iteT ⟨γ.step g1, ρ, w1, G.step x1 wk1, Post.of_bind (h1.imp (fun b w2 h2 v H2 g2 x2 wk2 r => h2 v H2 g2 (x1.trans x2) wk2 (r.scal rfl)) fun c w2 h2 H' g' x wk => h2 H' g' (x1.trans x) wk)⟩
    | false => exact iteF (h1 _ H1 g1 x1 wk1 (.bl false))
theorem le_or {ft : Expr → Rho → W → Res W Bool} {k nF nT : Nat} : ∀ (es : List Expr) (e : Expr), (∀ x ∈ e :: es, PE X x (tE Z ce own 0 9 9 Wx (asB (ft x)))) → PE X (.BoolOp .Or (e :: es) pos) (tE Z ce own k nF nT Wx (asB fun ρ w => orR ((e :: es).map fun x w => ft x ρ w) w))
  | [], e, h => imE (pe_one (h e List.mem_cons_self)) fun σ H Q ⟨γ, ρ, w, G, q⟩ => ⟨γ, ρ, w, G, Post.of_bind ((Post.bind (r := ft e ρ w) q).imp (fun b w1 h1 v H' g' x wk r => h1 v H' g' x wk (r.scal rfl)) fun c w1 h1 => h1)⟩
  | y :: es, e, h => by
    refine imE (pe_or (h e List.mem_cons_self) (le_or (k := k) (nF := nF) (nT := nT) es y fun x hx => h x (List.mem_cons_of_mem _ hx))) fun σ H Q ⟨γ, ρ, w, G, q⟩ => ⟨γ, ρ, w, G, Post.of_bind ?_⟩
    refine (Post.bind (Post.bind (show Post (((ft e ρ w).bind fun b w => match b with
      | true => Res.ok true w
      | false => orR ((y :: es).map fun x w => ft x ρ w) w).bind fun b w => Res.ok (PyData.bool b) w) _ _ from q))).imp (fun b w1 h1 v H1 g1 x1 wk1 r1 => ?_) fun c w1 h1 => h1
    cases r1
    refine ⟨b, rfl, ?_⟩
    cases b with
    | false => exact iteF ⟨γ.step g1, ρ, w1, G.step x1 wk1, Post.of_bind (h1.imp (fun b w2 h2 v H2 g2 x2 wk2 r => h2 v H2 g2 (x1.trans x2) wk2 (r.scal rfl)) fun c w2 h2 H' g' x wk => h2 H' g' (x1.trans x) wk)⟩
    | true => exact iteT (h1 _ H1 g1 x1 wk1 (.bl true))
theorem lt_not {f : Rho → W → Res W Bool} (h : PT X a (tT Z ce own Wx f)) : PT X (.UnaryOp .Not a pos) (tT Z ce own Wx fun ρ w => (f ρ w).bind fun b w => .ok (!b) w) :=
  imT (pt_not h) fun σ H Q ⟨γ, ρ, w, G, q⟩ => ⟨γ, ρ, w, G, q.bind.imp (fun b w1 h1 H1 g1 x1 wk1 => h1 H1 g1 x1 wk1) fun c w1 h1 => h1⟩
theorem le_not {f : Rho → W → Res W Bool} {k nF nT : Nat} (h : PE X a (tE Z ce own 0 9 9 Wx (asB f))) : PE X (.UnaryOp .Not a pos) (tE Z ce own k nF nT Wx (asB fun ρ w => (f ρ w).bind fun b w => .ok (!b) w)) := by
  refine imE (pe_not h) fun σ H Q ⟨γ, ρ, w, G, q⟩ => ⟨γ, ρ, w, G, Post.of_bind ((Post.bind (Post.bind q)).imp (fun b w1 h1 v H1 g1 x1 wk1 r1 => ?_) fun c w1 h1 => h1)⟩
  cases r1
  exact ⟨b, rfl, h1 _ H1 g1 x1 wk1 (.bl _)⟩
/-- a value that is a bool -/
theorem bool_read {k nF nT : Nat} {σ : L2.St} {H : Hp} {Q : Bool → Hp → Prop} (h : tT Z ce own Wx (fun ρ w => (fa ρ w).bind asBool) σ H Q) : tTest (tE Z ce own k nF nT Wx fa) σ H Q := by
  obtain ⟨γ, ρ, w, G, q⟩ := h
  refine ⟨γ, ρ, w, G, q.bind.imp (fun d w1 h1 v H1 g1 x1 wk1 r1 => ?_) fun c w1 h1 => h1⟩
  cases d with
  | bool b => cases r1; exact ⟨b, rfl, h1 H1 g1 x1 wk1⟩
  | _ => exact h1.elim
theorem bool_readE {k nF nT k' nF' nT' : Nat} {σ : L2.St} {H : Hp} {Q : VK} (h : tE Z ce own k nF nT Wx (asB fun ρ w => (fa ρ w).bind asBool) σ H Q) : tE Z ce own k' nF' nT' Wx fa σ H Q := by
  obtain ⟨γ, ρ, w, G, q⟩ := h
  refine ⟨γ, ρ, w, G, (Post.bind (Post.bind q)).imp (fun d w1 h1 v H1 g1 x1 wk1 r1 => ?_) fun c w1 h1 => h1⟩
  cases d with
  | bool b => cases r1; exact h1 _ H1 g1 x1 wk1 (.bl b)
  | _ => exact h1.elim
theorem le_if {k nF nT : Nat} {f : Rho → W → Res W Bool} (hc : PT X c (tT Z ce own Wx f)) (ha : PE X a (tE Z ce own ka Fa Ta Wx fa)) (hb : PE X b (tE Z ce own kb Fb Tb Wx fb)) (hk : max ka kb ≤ k) (hF : nF ≤ min Fa Fb) (hT : nT ≤ min Ta Tb) :
    PE X (.IfExp c a b pos) (tE Z ce own k nF nT Wx fun ρ w => (f ρ w).bind fun t w => match t with
      | true => fa ρ w
      | false => fb ρ w) := by
  refine imE (pe_ifExp hc ha hb) fun σ H Q ⟨γ, ρ, w, G, q⟩ => ⟨γ, ρ, w, G, q.bind.imp (fun t w1 h1 H1 g1 x1 wk1 => ?_) fun c w1 h1 => h1⟩
  cases t with
  | true => exact iteT ⟨γ.step g1, ρ, w1, G.step x1 wk1, h1.imp (fun d w2 h2 v H2 g2 x2 wk2 r => h2 v H2 g2 (x1.trans x2) wk2 (r.mono fun j a p => ⟨(Pex.back x1 wk1 p.1).weak (by omega) (by omega) (by omega), p.2⟩)) fun c w2 h2 H' g' x wk => h2 H' g' (x1.trans x) wk⟩
  | false => exact iteF ⟨γ.step g1, ρ, w1, G.step x1 wk1, h1.imp (fun d w2 h2 v H2 g2 x2 wk2 r => h2 v H2 g2 (x1.trans x2) wk2 (r.mono fun j a p => ⟨(Pex.back x1 wk1 p.1).weak (by omega) (by omega) (by omega), p.2⟩)) fun c w2 h2 H' g' x wk => h2 H' g' (x1.trans x) wk⟩
/-! ### several parts -/
theorem list_read {fe : Expr → Rho → W → Res W D} {ke Fe Te : Expr → Nat} {k nF nT : Nat} {ρ : Rho} {σ : L2.St} : ∀ {es : List Expr} {γ : GP} {H : Hp} {w : W} {Q : List V → Hp → Prop}, (∀ e ∈ es, ke e ≤ k ∧ nF ≤ Fe e ∧ nT ≤ Te e) → Good Z ce own γ σ H ρ w →
    Post (trav (fun e w => fe e ρ w) es w) (okL Z ce k nF nT γ H Q) (exE Z γ H Wx σ) → tList (fun e => tE Z ce own (ke e) (Fe e) (Te e) Wx (fe e)) es σ H Q
  | [], γ, H, w, Q, _, G, q => q [] H γ.g CStep.refl G.wok .nil
  | e :: es, γ, H, w, Q, hk, G, q => by
    refine ⟨γ, ρ, w, G, q.bind.imp (fun d w1 h1 v H1 g1 x1 wk1 r1 => ?_) fun c w1 h1 => h1⟩
    refine list_read (fun e he => hk e (List.mem_cons_of_mem _ he)) (G.step x1 wk1) (h1.bind.imp (fun ds w2 h2 vs H2 g2 x2 wk2 r2 => ?_) fun c w2 h2 H' g' x wk => h2 H' g' (x1.trans x) wk)
    obtain ⟨k1, k2, k3⟩ := hk e List.mem_cons_self
    exact h2 _ H2 g2 (x1.trans x2) wk2 (.cons ((r1.stepO wk1 x2).mono fun j a p => ⟨p.1.weak k1 k2 k3, p.2⟩) (r2.mono fun j a p => ⟨Pex.back x1 wk1 p.1, p.2⟩))
theorem mem_max {f : Expr → Nat} : ∀ {es : List Expr} {e : Expr}, e ∈ es → f e ≤ maxK (es.map f)
  | x :: es, e, h => by
    show f e ≤ max (f x) (maxK (es.map f))
    rcases List.mem_cons.mp h with rfl | h
    · exact Nat.le_max_left _ _
    · exact Nat.le_trans (mem_max h) (Nat.le_max_right _ _)
theorem mem_min {f : Expr → Nat} : ∀ {es : List Expr} {e : Expr}, e ∈ es → minK (es.map f) ≤ f e
  | x :: es, e, h => by
    show min (f x) (minK (es.map f)) ≤ f e
    rcases List.mem_cons.mp h with rfl | h
    · exact Nat.min_le_left _ _
    · exact Nat.le_trans (Nat.min_le_right _ _) (mem_min h)
theorem trav_len {α β : Type} {f : α → W → Res W β} : ∀ {es : List α} {w w' : W} {ds : List β}, trav f es w = .ok ds w' → ds.length = es.length
  | [], w, w', ds, h => by cases h; rfl
  | e :: es, w, w', ds, h => by
    unfold trav at h
    cases q : f e w with
    | no => rw [q] at h; cases h
    | ex c w1 => rw [q] at h; cases h
    | ok d w1 =>
      rw [q] at h
      have h : ((trav f es w1).bind fun bs w => Res.ok (d :: bs) w) = .ok ds w' := h
      cases q2 : trav f es w1 with
      | no => rw [q2] at h; cases h
      | ex c w1 => rw [q2] at h; cases h
      | ok es' w2 =>
        rw [q2] at h
        cases h
        simp [trav_len q2]
theorem PexO.up {k nF nT j : Nat} {γ : GP} {H : Hp} {g : Gh} {a : Addr} (p : PexO k nF nT γ H g j a) : PexO (sucK k) (nF + 1) (nT + 1) γ H g (j + 1) a := by
  refine ⟨⟨fun z => p.1.1 (by omega), fun z => p.1.2.1 (by omega), p.1.2.2.1, fun z => p.1.2.2.2 ?_⟩, p.2⟩
  cases k with
  | zero => omega
  | succ k => have z : k + 2 ≤ j + 1 := z; omega
theorem le_tuple {es : List Expr} {kt : Nat} {fe : Expr → Rho → W → Res W D} {ke Fe Te : Expr → Nat} (h : ∀ e ∈ es, PE X e (tE Z ce own (ke e) (Fe e) (Te e) Wx (fe e))) :
    PE X (.Tuple es kt pos) (tE Z ce own (sucK (maxK (es.map ke))) (minK (es.map Fe) + 1) (minK (es.map Te) + 1) Wx fun ρ w => guardR (es.all notStar && lenOk es.length) ((trav (fun e w => fe e ρ w) es w).bind fun ds w => .ok (.tuple ds) w)) := by
  cases hs : (es.all notStar && lenOk es.length) with
  | false => exact le_none fun _ _ => rfl
  | true =>
    obtain ⟨h1, h2⟩ := Bool.and_eq_true_iff.mp hs
    refine imE (pe_tupF (pa_list h1 h)) fun σ H Q ⟨γ, ρ, w, G, q⟩ => list_read (k := maxK (es.map ke)) (nF := minK (es.map Fe)) (nT := minK (es.map Te)) (fun e he => ⟨mem_max he, mem_min he, mem_min he⟩) G ?_
    have q : Post ((trav (fun e w => fe e ρ w) es w).bind fun ds w => Res.ok (PyData.tuple ds) w) _ _ := q
    cases e : trav (fun e w => fe e ρ w) es w with
    | no => rw [e] at q; exact q.elim
    | ex c w1 => rw [e] at q; exact q
    | ok ds w1 =>
      rw [e] at q
      intro vs H1 g1 x1 wk1 r1
      have hl : vs.length ≤ sizeLine := by rw [r1.length, trav_len e]; exact line_le h2
      refine ⟨hl, fun p o hp ho => q.ok _ _ g1 (x1.trans (.ext (HExt.upd hp))) (wk1.ext (HExt.upd hp)) (Rep.newT (r1.mono fun j a p => p.up) hp ho hl)⟩
theorem le_list {es : List Expr} {fe : Expr → Rho → W → Res W D} {ke Fe Te : Expr → Nat} (h : ∀ e ∈ es, PE X e (tE Z ce own (ke e) (Fe e) (Te e) Wx (fe e))) :
    PE X (.List es pos) (tE Z ce own (sucK (maxK (es.map ke))) (minK (es.map Fe) + 1) (minK (es.map Te) + 1) Wx fun ρ w => guardR (es.all notStar && lenOk es.length) ((trav (fun e w => fe e ρ w) es w).bind fun ds w => .ok (.list ds) w)) := by
  cases hs : (es.all notStar && lenOk es.length) with
  | false => exact le_none fun _ _ => rfl
  | true =>
    obtain ⟨h1, h2⟩ := Bool.and_eq_true_iff.mp hs
    refine imE (pe_lst (pa_list h1 h)) fun σ H Q ⟨γ, ρ, w, G, q⟩ => list_read (k := maxK (es.map ke)) (nF := minK (es.map Fe)) (nT := minK (es.map Te)) (fun e he => ⟨mem_max he, mem_min he, mem_min he⟩) G ?_
    have q : Post ((trav (fun e w => fe e ρ w) es w).bind fun ds w => Res.ok (PyData.list ds) w) _ _ := q
    cases e : trav (fun e w => fe e ρ w) es w with
    | no => rw [e] at q; exact q.elim
    | ex c w1 => rw [e] at q; exact q
    | ok ds w1 =>
      rw [e] at q
      intro vs H1 g1 x1 wk1 r1
      have hl : vs.length ≤ sizeLine := by rw [r1.length, trav_len e]; exact line_le h2
      refine ⟨hl, fun p hp => q.ok _ _ g1 (x1.trans (.ext (HExt.upd hp))) (wk1.ext (HExt.upd hp)) (Rep.newL (r1.mono fun j a p => p.up) hp hl (G.newP x1 wk1 hp _ _ _ _))⟩
/-! ### places and slices -/
theorem derefs_rep {C : Cfg W} (K : Hlo Z ce C.hl C.hp) {g : Gh} {H : Hp} {P : Pd} {w : W} (rl : Z.rel g H w) : ∀ {vs : List V} {ds : List D}, Reps ce g.hs H P vs ds → Reps ce g.hs H (fun _ _ => True) vs (ds.map (deref C w))
  | [], [], _ => .nil
  | _ :: _, _ :: _, .cons a r => .cons (deref_rep K rl a) (derefs_rep K rl r)
theorem le_ix {C : Cfg W} (K : Hlo Z ce C.hl C.hp) (ha : PE X a (tE Z ce own ka Fa Ta Wx fa)) (hb : PE X b (tE Z ce own kb Fb Tb Wx fb)) (hs : ∀ l u s p, b ≠ .Slice l u s p) :
    PE X (.Subscript a b pos) (tE Z ce own (ka - 1) (Fa - 1) (Ta - 1) Wx fun ρ w => (fa ρ w).bind fun x w => (fb ρ w).bind fun y w => lift (ixH C w x y) w) := by
  refine imE (pe_ix (ix_ok (ce := ce)) ha hb (plainIx hs)) fun σ H Q ⟨γ, ρ, w, G, h⟩ => ⟨γ, ρ, w, G, h.bind.imp (fun d w1 h1 v H1 g1 x1 wk1 r1 => ⟨γ.step g1, ρ, w1, G.step x1 wk1, h1.bind.imp (fun e w2 h2 u H2 g2 x2 wk2 r2 => ?_) fun c w2 h2 H' g' x wk => h2 H' g' (x1.trans x) wk⟩) fun c w1 h1 => h1⟩
  obtain ⟨z, ez, q⟩ := h2.lift
  unfold ixH at ez
  split at ez
  · rename_i k hk
    split at ez
    · rename_i ds hds
      exact ⟨g2.hs, fun j _ => j = 0, _, .list ds, e, z, K.rep wk2.rel (r1.stepO wk1 x2) hk hds (fun _ => rfl), r2, ez, fun v' rr => q v' H2 g2 (x1.trans x2) wk2 (rr.mono fun j a p => absurd p (Nat.succ_ne_zero j))⟩
    · cases ez
  exact ⟨g2.hs, _, _, d, e, z, r1.stepO wk1 x2, r2, ez, fun v' rr => q v' H2 g2 (x1.trans x2) wk2 (rr.mono fun j a p => ⟨⟨fun z => p.1.1 (by omega), fun z => p.1.2.1 (by omega), p.1.2.2.1, fun z => p.1.2.2.2 (by omega)⟩, p.2⟩)⟩
/-! ### dicts -/
theorem kinl_inj {a b : List Int} (e : (a.map Sum.inl : List Key) = b.map Sum.inl) : a = b := by
  induction a generalizing b with
  | nil => cases b with
    | nil => rfl
    | cons y ys => cases e
  | cons x xs ih => cases b with
    | nil => cases e
    | cons y ys =>
      rw [List.map_cons, List.map_cons] at e
      injection e with e1 e2
      cases e1
      rw [ih e2]
theorem DKV.length {hs : List Addr} {H : Hp} {kvs : List (List Key × V)} {kds : List (List Int × D)} (r : DKV ce hs H kvs kds) : kvs.length = kds.length := by
  induction r with
  | nil => rfl
  | cons _ _ ih => rw [List.length_cons, List.length_cons, ih]
theorem DKV.val {hs : List Addr} {H : Hp} {kvs : List (List Key × V)} {kds : List (List Int × D)} {k : List Int} {d : D} (r : DKV ce hs H kvs kds) (h : valK kds k = some d) : ∃ v, valV kvs (k.map Sum.inl) = some v ∧ Rep ce hs H (fun _ _ => False) v d := by
  induction r with
  | nil => cases h
  | @cons k' v' d' kvs kds r1 r2 ih =>
    unfold valK at h
    rw [List.find?_cons] at h
    by_cases e : k' = k
    · subst e
      simp at h
      subst h
      exact ⟨v', valV_pos rfl, r1⟩
    · rw [decide_eq_false (show ¬ (k', d').1 = k from e)] at h
      obtain ⟨v, e1, e2⟩ := ih h
      exact ⟨v, by rw [valV_neg (fun z => e (kinl_inj z))]; exact e1, e2⟩
theorem DKV.any {hs : List Addr} {H : Hp} {kvs : List (List Key × V)} {kds : List (List Int × D)} (r : DKV ce hs H kvs kds) (k : List Int) : (kvs.any fun kv => decide (kv.1 = k.map Sum.inl)) = kds.any fun kv => decide (kv.1 = k) := by
  induction r with
  | nil => rfl
  | @cons k' v' d' kvs kds r1 r2 ih =>
    rw [List.any_cons, List.any_cons, ih]
    congr 1
    exact decide_eq_decide.mpr ⟨fun z => kinl_inj z, fun z => congrArg (List.map Sum.inl) z⟩
theorem DKV.put {hs : List Addr} {H : Hp} {kvs : List (List Key × V)} {kds : List (List Int × D)} {v : V} {d : D} (r : DKV ce hs H kvs kds) (k : List Int) (rv : Rep ce hs H (fun _ _ => False) v d) : DKV ce hs H (putK kvs (k.map Sum.inl) v) (putKD kds k d) := by
  unfold putK putKD
  rw [r.any k]
  have h1 : DKV ce hs H (kvs.map fun kv => if kv.1 = k.map Sum.inl then (kv.1, v) else kv) (kds.map fun kv => if kv.1 = k then (kv.1, d) else kv) := by
    induction r with
    | nil => exact .nil
    | @cons k' v' d' kvs kds r1 r2 ih =>
      rw [List.map_cons, List.map_cons]
      by_cases e : k' = k
      · subst e
        rw [if_pos rfl, if_pos rfl]
        exact .cons rv ih
      · rw [if_neg (show ¬ (k'.map Sum.inl, v').1 = k.map Sum.inl from fun z => e (kinl_inj z)), if_neg (show ¬ (k', d').1 = k from e)]
        exact .cons r1 ih
  have h2 : DKV ce hs H (kvs ++ [(k.map Sum.inl, v)]) (kds ++ [(k, d)]) := by
    clear h1
    induction r with
    | nil => exact .cons rv .nil
    | cons r1 r2 ih => exact .cons r1 ih
  split
  · exact h1
  · exact h2
theorem DKV.go {hs hs' : List Addr} {H H' : Hp} {kvs : List (List Key × V)} {kds : List (List Int × D)} (r : DKV ce hs H kvs kds) (kt : ∀ b o, isT o → H b = some o → H' b = some o) (hh : ∀ (k : Nat) (a : Addr), hs[k]? = some a → hs'[k]? = some a) : DKV ce hs' H' kvs kds := by
  induction r with
  | nil => exact .nil
  | cons r1 r2 ih => exact .cons (r1.go (fun _ _ _ z => z.elim) kt hh) ih
theorem ints_rep {hs : List Addr} {H : Hp} {P : Pd} : ∀ {vs : List V} {ds : List D} {ks : List Int}, Reps ce hs H P vs ds → intsOf ds = some ks → vs = (ks.map (Sum.inl : Int → Key)).map kV
  | _, _, ks, .nil, h => by cases h; rfl
  | _, _, ks, .cons (d := d) r rs, h => by
    cases d with
    | int i =>
      obtain ⟨ks', h', rfl⟩ := Option.map_eq_some_iff.mp (show (intsOf _).map (i :: ·) = some ks from h)
      cases r
      rw [ints_rep rs h']
      rfl
    | _ => cases h
theorem key_rep {hs : List Addr} {H : Hp} {P : Pd} {v : V} {d : D} {ks : List Int} (r : Rep ce hs H P v d) (h : keyOf d = some ks) : ∃ b, v = .ref b ∧ H b = some (.tup ((ks.map (Sum.inl : Int → Key)).map kV)) := nomatch h
theorem le_dget {C : Cfg W} (K : Hdo Z ce C.dx) (hu : X.A.units + 1 < cLine) {es : List Expr} {c2 : Nat} {p2 : Pos} {k nF nT : Nat} (ha : PE X a (tE Z ce own ka Fa Ta Wx fa)) (hb : PE X (.Tuple es c2 p2) (tE Z ce own kb Fb Tb Wx fb)) :
    PE X (.Subscript a (.Tuple es c2 p2) pos) (tE Z ce own k nF nT Wx fun ρ w => (fa ρ w).bind fun x w => (fb ρ w).bind fun y w => lift (dgH C w x y) w) := by
  refine imE (pe_dget hu ha hb (fun _ _ => rfl)) fun σ H Q ⟨γ, ρ, w, G, h⟩ => ⟨γ, ρ, w, G, h.bind.imp (fun d w1 h1 v H1 g1 x1 wk1 r1 => ⟨γ.step g1, ρ, w1, G.step x1 wk1, h1.bind.imp (fun e w2 h2 u H2 g2 x2 wk2 r2 => ?_) fun c w2 h2 H' g' x wk => h2 H' g' (x1.trans x) wk⟩) fun c w1 h1 => h1⟩
  obtain ⟨z, ez, q⟩ := h2.lift
  unfold dgH at ez
  split at ez
  · rename_i kk hk
    split at ez
    · rename_i key hkey
      split at ez
      · rename_i kds hds
        obtain ⟨a', rfl, ea⟩ := hdlOf_rep r1 hk
        have ea2 := x2.hs kk a' ea
        obtain ⟨a2, kvs, e1, e2, e3, e5⟩ := K.get wk2.rel hds
        rw [ea2] at e1
        cases e1
        obtain ⟨b, rfl, eb⟩ := key_rep r2 hkey
        obtain ⟨vv, ev, rv⟩ := e5.val ez
        have dg := DGet.t e3 eb
        rw [ev] at dg
        exact ⟨a', vv, rfl, dg, q vv H2 g2 (x1.trans x2) wk2 (rv.mono fun _ _ z => z.elim)⟩
      · cases ez
    · cases ez
  · cases ez
theorem le_dnew {C : Cfg W} (K : Hdo Z ce C.dx) {k nF nT : Nat} : PE X (.Dict [] [] pos) (tE Z ce own k nF nT Wx fun _ w => dnR C w) := by
  refine imE pe_dnewT fun σ H Q ⟨γ, ρ, w, G, h⟩ => ?_
  intro p hp
  unfold dnR at h
  dsimp only at h
  split at h
  · rename_i q hq
    obtain ⟨g', c1, w1, e1⟩ := K.new G.wok hq hp
    exact h _ _ g' c1 w1 (.hdl e1)
  · exact h.elim
theorem part_read {f : Expr → Rho → W → Res W D} {ke Fe Te : Expr → Nat} {lo : Option Expr} (hp : ∀ e, PE X e (tE Z ce own (ke e) (Fe e) (Te e) Wx (f e))) :
    ∃ t, PO X lo t ∧ ∀ {γ : GP} {σ : L2.St} {H : Hp} {ρ : Rho} {w : W} {Q : Option Int → Hp → Prop}, Good Z ce own γ σ H ρ w → Post (partR (fun e w => f e ρ w) lo w) (fun o w' => ∀ H' g', CStep γ.g H g' H' → WOk Z g' H' w' → Q o H') (exE Z γ H Wx σ) → t σ H Q := by
  cases lo with
  | none => exact ⟨_, po_none, fun {γ σ H ρ w Q} G q => q H γ.g CStep.refl G.wok⟩
  | some e =>
    refine ⟨_, po_some (hp e), fun {γ σ H ρ w Q} G q => ⟨γ, ρ, w, G, q.bind.imp (fun d w1 h1 v H1 g1 x1 wk1 r1 => ?_) fun c w1 h1 => h1⟩⟩
    obtain ⟨i, ei, q⟩ := h1.bind.lift
    cases d with
    | int j => cases r1; cases ei; exact ⟨_, rfl, q H1 g1 x1 wk1⟩
    | _ => cases ei
theorem le_slice {lo hi : Option Expr} {p2 : Pos} {f : Expr → Rho → W → Res W D} {ke Fe Te : Expr → Nat} (hp : ∀ e, PE X e (tE Z ce own (ke e) (Fe e) (Te e) Wx (f e))) :
    PE X (.Subscript a (.Slice lo hi none p2) pos) (tE Z ce own (fK (ke a)) 1 1 Wx fun ρ w => (f a ρ w).bind fun x w => (partR (fun e w => f e ρ w) lo w).bind fun l w => (partR (fun e w => f e ρ w) hi w).bind fun h w => lift (sliceD x l h) w) := by
  obtain ⟨tl, pl, hl⟩ := part_read (lo := lo) hp
  obtain ⟨th, ph, hh⟩ := part_read (lo := hi) hp
  refine imE (pe_slice (sl_ok (ce := ce)) (hp a) pl ph) fun σ H Q ⟨γ, ρ, w, G, h⟩ => ⟨γ, ρ, w, G, h.bind.imp (fun d w1 h1 v H1 g1 x1 wk1 r1 => ?_) fun c w1 h1 => h1⟩
  refine hl (G.step x1 wk1) (h1.bind.imp (fun l w2 h2 H2 g2 x2 wk2 => ?_) fun c w2 h2 H' g' x wk => h2 H' g' (x1.trans x) wk)
  refine hh ((G.step x1 wk1).step x2 wk2) (h2.bind.imp (fun u w3 h3 H3 g3 x3 wk3 => ?_) fun c w2 h2 H' g' x wk => h2 H' g' ((x1.trans x2).trans x) wk)
  obtain ⟨z, ez, q⟩ := h3.lift
  have x13 : CStep γ.g H g3 H3 := (x1.trans x2).trans x3
  have x23 : CStep g1 H1 g3 H3 := x2.trans x3
  refine ⟨g3.hs, _, d, z, r1.stepO wk1 x23, ez, fun v' H' xx rr => q v' H' g3 (x13.trans (.ext xx)) (wk3.ext xx) (rr.mono fun j b p => ?_)⟩
  by_cases hj : j = 0
  · exact G.newP x13 wk3 (p.1 hj) _ _ _ _
  · obtain ⟨⟨p1, p2, p3, p4⟩, p5⟩ := p.2 (by omega)
    refine ⟨⟨fun z => absurd z (by omega), fun z => absurd z (by omega), p3, fun z => p4 ?_⟩, p5⟩
    generalize ke a = k at *
    match k with
    | 0 => omega
    | 1 => omega
    | k + 2 => exact z
end
end T
namespace T
open PySem PySem.Spec PyProof.Rows L2
section
variable {W : Type} {Z : Wd W} {ce : Str → Option Addr} {own : List Nat} {X : Cx} {Wx : Str → L2.St → Hp → Prop} {pos : Pos}
theorem le_pl {C : Cfg W} (K : Hlo Z ce C.hl C.hp) {e : Expr} {es : List Expr} {g : List D → Option D} {fe : Expr → Rho → W → Res W D} {ke Fe Te : Expr → Nat} {k nF nT : Nat}
    (h : PE X e (tCB (rPl ce g) (tList (fun e => tE Z ce own (ke e) (Fe e) (Te e) Wx (fe e)) es))) :
    PE X e (tE Z ce own k nF nT Wx fun ρ w => (trav (fun e w => fe e ρ w) es w).bind fun ds w => lift (g (ds.map (deref C w))) w) := by
  refine imE h fun σ H Q ⟨γ, ρ, w, G, q⟩ => list_read (k := maxK (es.map ke)) (nF := 0) (nT := 0) (fun e he => ⟨mem_max he, Nat.zero_le _, Nat.zero_le _⟩) G (q.bind.imp (fun ds w1 h1 vs H1 g1 x1 wk1 r1 => ?_) fun c w1 h1 => h1)
  obtain ⟨z, ez, q⟩ := h1.lift
  exact ⟨g1.hs, _, _, z, derefs_rep K wk1.rel r1, ez, fun v H' xx rr => q v H' g1 (x1.trans (.ext xx)) (wk1.ext xx) (rr.mono fun j a p => G.newP x1 wk1 p.2 _ _ _ _)⟩
theorem le_call {C : Cfg W} {sc : Scope} {x : Str} {p : Pos} {a : Expr} {es : List Expr} {g : List D → W → Res W D} {fe : Expr → Rho → W → Res W D} {ke Fe Te : Expr → Nat} {k nF nT : Nat} (K : Cok Z ce C X sc Wx) (hx : isGlo sc x = true) (hs : (a :: es).all notStar = true) (hg : C.Φ x = some g)
    (h : ∀ e ∈ a :: es, PE X e (tE Z ce own (ke e) (Fe e) (Te e) Wx (fe e))) :
    PE X (.Call (.Name x p) (a :: es) [] pos) (tE Z ce own k nF nT Wx fun ρ w => (trav (fun e w => fe e ρ w) (a :: es) w).bind g) := by
  obtain ⟨kk, f, fd, ps, F, hr, hm, hk, hb⟩ := K.fns x g hg
  obtain ⟨gl, okn⟩ := isGlo_ok K.sc_ hx
  have hs' := hs
  simp only [List.all_cons, Bool.and_eq_true] at hs'
  refine imE (pe_callS F hr gl hm hk hb (fun σ => passAt K.tk σ) (pa_list hs h) (okName_d okn).1 (star_cons hs'.1) (star_none hs'.2)) fun σ H Q ⟨γ, ρ, w, G, q⟩ => ?_
  refine list_read (k := maxK ((a :: es).map ke)) (nF := 0) (nT := 0) (fun e he => ⟨mem_max he, Nat.zero_le _, Nat.zero_le _⟩) G (q.bind.imp (fun ds w1 h1 vs H1 g1 x1 wk1 r1 => ?_) fun c w1 h1 => h1)
  refine ⟨g1, ds, w1, wk1, r1.mono fun j a p => p.2, h1.imp (fun d w2 h2 v H2 g2 x2 wk2 r2 => ?_) fun c w2 h2 H2 g2 K' x2 wk2 hK => ?_⟩
  · refine h2 v H2 g2 (x1.trans x2) wk2 (r2.mono fun j a p => ?_)
    exact ⟨(G.newP x1 wk1 p.1 _ _ _ _).1, p.2⟩
  · exact ⟨rfl, c, K', hK, rfl, h2 H2 g2 (x1.trans x2) wk2⟩
theorem le_chk {C : Cfg W} {sc : Scope} {x : Str} {p : Pos} {a : Expr} {g : List D → W → Res W D} {fa : Rho → W → Res W D} {k nF nT : Nat} (K : Cok Z ce C X sc Wx) (hx : isGlo sc x = true) (hs : notStar a = true) (hg : C.ch x = some g) (h : PE X a (tE Z ce own k nF nT Wx fa)) :
    PE X (.Call (.Name x p) [a] [] pos) (tE Z ce own k nF nT Wx fun ρ w => (fa ρ w).bind fun d w => (g [d] w).bind fun _ w => .ok d w) := by
  obtain ⟨kk, f, fd, ps, F, hr, hm, hk, hb⟩ := K.chk x g hg
  obtain ⟨gl, okn⟩ := isGlo_ok K.sc_ hx
  refine imE (pe_callS F hr gl hm hk hb (fun σ => passAt K.tk σ) (pa_cons h pa_nil (star_cons hs)) (okName_d okn).1 (star_cons hs) rfl) fun σ H Q ⟨γ, ρ, w, G, q⟩ => ?_
  refine ⟨γ, ρ, w, G, q.bind.imp (fun d w1 h1 v H1 g1 x1 wk1 r1 => ?_) fun c w1 h1 => h1⟩
  refine ⟨g1, v, d, w1, rfl, wk1, r1.mono fun j a p => p.2, h1.bind.imp (fun d' w2 h2 H2 g2 x2 wk2 => ?_) fun c w2 h2 H2 g2 K' x2 wk2 hK => ?_⟩
  · exact h2 v H2 g2 (x1.trans x2) wk2 (Rep.stepO (P := Pex k nF nT γ H) r1 wk1 x2)
  · exact ⟨rfl, c, K', hK, rfl, h2 H2 g2 (x1.trans x2) wk2⟩
/-! ### methods -/
theorem strs_of {hs : List Addr} {H : Hp} {P : Pd} : ∀ {vs : List V} {ds : List D} {xs : List Str}, Reps ce hs H P vs ds → strsOf ds = some xs → vs = xs.map V.str
  | [], [], xs, _, e => by cases e; rfl
  | v :: vs, d :: ds, xs, r, e => by
    cases r with
    | cons a r =>
      cases d with
      | str x =>
        cases a
        unfold strsOf at e
        cases q : strsOf ds with
        | none => rw [q] at e; cases e
        | some ys => rw [q] at e; cases e; rw [strs_of r q]; rfl
      | _ => cases e
theorem reps_strs {hs : List Addr} {H : Hp} {P : Pd} : ∀ xs : List Str, Reps ce hs H P (xs.map V.str) (xs.map PyData.str)
  | [] => .nil
  | x :: xs => .cons (.str x) (reps_strs xs)
def rCntD (K : PySem.W.Frag) : V → List V → Hp → VK → Prop := fun x xs H Q => ∃ (a : Addr) (y : V) (d : PyData) (ds : List PyData), x = V.ref a ∧ xs = [y] ∧ Dp K H (V.ref a) (.list ds) ∧ Dp K H y d ∧
  SeqAt.shaped (.list ds) = true ∧ SeqAt.shaped d = true ∧ Q (.int (ds.countP fun z => PyData.eqv z d : Nat)) H
theorem mt_cntD {X : Cx} (hu : X.A.units + 65 < cLine) : MtR X "list.count" (rCntD X.K) := by
  intro pins s σ H x xs v us Q I rx rxs h
  obtain ⟨a, y, d, ds, rfl, rfl, hl, hy, sl, sd, q⟩ := h
  cases rx
  cases rxs with
  | cons ry rt =>
    rename_i uy ut
    cases rt
    obtain ⟨bs, r1⟩ := Dp.reads I d y uy hy ry
    have hxs : PyData.canLayAll0 ds = true := SeqAt.canLay_of_shaped sl
    have hroom : X.A.units + 1 + min (PyData.depthAll ds) d.depth < cLine := room_in_shaped sd hu
    cases hl with
    | lst hs ha =>
      obtain ⟨its, rv, ⟨⟨cls, dd, data, sls⟩, n, ho, hc, hdn, hdt⟩, hlen⟩ := I.list hs
      simp only at hc hdt
      subst hc hdt
      obtain ⟨as, h4⟩ := Dp.readsAll I ds _ its ha rv
      have hmap : its.map (SeqAt.readOf s.heap) = ds := SeqAt.readsAll_map ds its as hxs h4
      refine call_meets PySem.F.slot_list_count ⟨_, ho, rfl⟩ PySem.F.entry_list_count (PySem.F.args_list_count_2 _ _)
        (SeqAt.list_countAt a its.toArray n dd sls uy (fun u => PyData.eqv (SeqAt.readOf s.heap u) d)) ⟨ho, SeqAt.items_eqAt (vs := its.toArray) (show ReadsAll s.heap its.toArray.toList ds as from h4) r1 hxs (SeqAt.canLay_of_shaped sd) hroom, ?_⟩
      have ec : its.toArray.toList.countP (fun u => PyData.eqv (SeqAt.readOf s.heap u) d) = ds.countP fun z => PyData.eqv z d := by
        rw [← hmap, List.countP_map]; rfl
      refine ⟨.int (ds.countP fun z => PyData.eqv z d : Nat), H, I.tok _, ⟨s.toks, ?_⟩, q⟩
      show Value.int ((its.toArray.toList.countP _ : Nat) : Int) s.toks = _
      rw [ec]
theorem base_ok {o : Expr} {nm : Str} {env : Env} {whole : Sem Value} (h : noCall o = true) : attributeBase o nm env whole = whole := by
  cases o <;> first | rfl | cases h
theorem findIdx_go {p : D → Bool} {ds : List D} {j : Nat} (h : ds.findIdx? p = some j) : ∃ z, ds[j]? = some z ∧ p z = true ∧ ∀ (m : Nat) (z' : D), m < j → ds[m]? = some z' → p z' = false := by
  obtain ⟨hj, h1, h2⟩ := List.findIdx?_eq_some_iff_getElem.mp h
  refine ⟨ds[j], List.getElem?_eq_getElem hj, h1, fun m z' hm e => ?_⟩
  have hml : m < ds.length := Nat.lt_trans hm hj
  rw [List.getElem?_eq_getElem hml] at e
  cases e
  have := h2 m hm
  simpa using this
theorem Rep.shp {K : PySem.W.Frag} {hs : List Addr} {H : Hp} {P : Pd} {v : V} {d : D} (r : Rep ce hs H P v d) (h : SeqAt.shaped d = true) : Dp K H v d := r.dp (SeqAt.canLay_of_shaped h)
theorem mt_all {X : Cx} (hu : X.A.units + 65 < cLine) {o b : Expr} {nm : Str} {ap cp : Pos} {to tb : TE} (ho : PE X o to) (hb : PE X b tb) (hl : (ap.endLine == cp.line) = true) (hs : notStar b = true) (hc : noCall o = true) (T id : String) (r : V → List V → Hp → VK → Prop)
    (pa : PlainAttrs T) (slot : PySem.Slot T nm id) (hty : typeOf (.builtin id) = pure (.type "method_descriptor")) (hm : MtR X id r) : PE X (.Call (.Attribute o nm ap) [b] [] cp) (tBM X.K T r to (tCons tb tNil)) :=
  pe_bm pa slot hty hm ho (pa_cons hb pa_nil (star_cons hs)) (base_ok hc) (by rw [star_cons hs]; rfl) hl (star_cons hs) rfl
theorem mtD_go {nm : Str} {l d : D} (h : mtGo nm l = false) : mtD nm l d = none := by
  cases l with
  | list ds =>
    have h : (decide (nm = "count") || decide (nm = "index")) = false := h
    obtain ⟨h1, h2⟩ := Bool.or_eq_false_iff.mp h
    show mtL nm ds d = none
    unfold mtL
    rw [h1, h2]
    first | done | (split <;> rfl)
  | str a =>
    have h : (decide (nm = "join") || decide (nm = "split")) = false := h
    obtain ⟨h1, h2⟩ := Bool.or_eq_false_iff.mp h
    show mtS nm a d = none
    unfold mtS
    rw [h1, h2]
    first | done | (cases d <;> rfl)
  | tuple ds =>
    have h : decide (nm = "index") = false := h
    show mtT nm ds d = none
    unfold mtT
    rw [h]
  | _ => rfl
def isLD : D → Bool
  | .list _ => true
  | _ => false
def isTD : D → Bool
  | .tuple _ => true
  | _ => false
theorem pe_or2 {X : Cx} {e : Expr} {t t' : TE} (h : PE X e t) (h' : PE X e t') : PE X e (fun σ H Q => t σ H Q ∨ t' σ H Q) := ⟨fun pins s σ H Q I q => q.elim (h.run pins s σ H Q I) (h'.run pins s σ H Q I)⟩
/-- t.index(i), t a tuple of ints of the program's own making -/
theorem mt_ixT {X : Cx} : MtR X "tuple.index" (fun x xs H Q => ∃ p, ∃ ys : List Int, ∃ z j, x = .ref p ∧ xs = [.int z] ∧ SqT X.K H p (ys.map V.int) ∧ ys[j]? = some z ∧ (∀ m, m < j → ys[m]? ≠ some z) ∧ Q (.int (j : Nat)) H) := by
  rintro pins s σ H x xs v us Q I rx rs ⟨p, ys, z, j, rfl, rfl, hq, hy, hno, q⟩
  cases rx
  obtain ⟨u, rfl, t, rfl⟩ := vals1 rs
  obtain ⟨its, r, ⟨⟨cls, dd, dt, sl⟩, ho, hc, n, hd⟩, hz⟩ := I.tuple hq
  simp only at hc hd
  subst hc hd
  have hl : its.toArray.size = ys.length := by rw [List.size_toArray, ← r.length, List.length_map]
  have hj : j < its.toArray.size := by rw [hl]; exact (List.getElem?_eq_some_iff.mp hy).1
  have look : ∀ (m : Nat) (hm : m < its.toArray.size), ∃ y k, ys[m]? = some y ∧ its.toArray[m] = Value.int y k := fun m hm => by
    have hm' : m < ys.length := hl ▸ hm
    obtain ⟨w, hw, k, hk⟩ := r.get (i := m) (x := .int ys[m]) (by simp [hm'])
    refine ⟨ys[m], k, List.getElem?_eq_getElem hm', ?_⟩
    have e := (List.getElem?_eq_some_iff.mp hw).2
    rw [← hk, ← e]
    simp
  have fl : (ys.map V.int).all flatV = true := by
    rw [List.all_map]
    exact List.all_eq_true.mpr fun _ _ => rfl
  refine call_meets PySem.F.slot_tuple_index ⟨_, ho, rfl⟩ PySem.F.entry_tuple_index (PySem.F.args_tuple_index_2 _ _) (_root_.TI.tuple_indexAt p its.toArray n dd sl (.int z t) (eqU (.int z)) j hj ?_ ?_)
    ⟨ho, fun w hw => mem_eqAt (x := .int z) ⟨t, rfl⟩ rfl r fl w (by simpa using hw), ⟨.int (j : Nat), H, I.tok _, ⟨_, rfl⟩, q⟩⟩
  · obtain ⟨y, k, h1, h2⟩ := look j hj
    rw [hy] at h1
    cases h1
    rw [h2]
    show (z == z) = true
    simp
  · intro m hm hmj
    obtain ⟨y, k, h1, h2⟩ := look m hm
    rw [h2]
    show (y == z) = false
    exact beq_eq_false_iff_ne.mpr fun e => hno m hmj (e ▸ h1)
theorem pe_ixT {X : Cx} {o b : Expr} {ap cp : Pos} {to tb : TE} (ho : PE X o to) (hb : PE X b tb) (hl : (ap.endLine == cp.line) = true) (hs : notStar b = true) (hc : noCall o = true) :
    PE X (.Call (.Attribute o "index" ap) [b] [] cp) (fun σ H Q => to σ H fun x H1 => (∃ a vs, x = .ref a ∧ Ft H1 a vs) ∧ tCons tb tNil σ H1 fun xs H2 => ∃ p, ∃ ys : List Int, ∃ z j, x = .ref p ∧ xs = [.int z] ∧ SqT X.K H2 p (ys.map V.int) ∧ ys[j]? = some z ∧ (∀ m, m < j → ys[m]? ≠ some z) ∧ Q (.int (j : Nat)) H2) := by
  refine ⟨fun pins s σ H Q I h => ?_⟩
  refine wpAny_Call_method_late (base_ok hc) (by rw [star_cons hs]; rfl) hl rfl (thn (ho.run pins s σ H _ I h) fun v y ⟨x, H1, I1, r1, ⟨a, vs, ea, o', hd, eo⟩, q1⟩ => ?_)
  subst ea
  cases r1
  obtain ⟨g1, _, its, _, tup⟩ := (show ObjOk X.prog X.w H1 y.heap a (.frz o' (.tup vs)) from I1.hok a _ eo)
  refine ⟨"tuple", "tuple.index", PySem.F.plainAttrs_tuple, PySem.F.slot_tuple_index, PySem.F.type_tuple_index, tup.typeIs, fun a' e => ?_, ?_⟩
  · cases e
    exact ⟨o', g1, hd⟩
  · have hA := (pa_cons hb pa_nil (star_cons hs)).run cp pins y σ H1 _ I1 q1
    rw [star_cons hs] at hA ⊢
    refine Calls.callWith_builtin rfl (Calls.evalArgs_plain ?_)
    exact thn hA fun us z ⟨ws, H2, I2, r2, q2⟩ => mt_ixT pins z σ H2 (.ref a) ws (.ref a) us Q I2 rfl r2 q2
theorem le_mt {C : Cfg W} {sc : Scope} (K : Cok Z ce C X sc Wx) {o b : Expr} {nm : Str} {ap cp : Pos} {fo fb : Rho → W → Res W D} {ko Fo To kb Fb Tb k nF nT : Nat} (ho : PE X o (tE Z ce own ko Fo To Wx fo)) (hb : PE X b (tE Z ce own kb Fb Tb Wx fb)) :
    PE X (.Call (.Attribute o nm ap) [b] [] cp) (tE Z ce own k nF nT Wx fun ρ w => guardR ((ap.endLine == cp.line) && notStar b && noCall o && okMt nm) ((fo ρ w).bind fun l w => guardR (mtGo nm (deref C w l)) ((fb ρ w).bind fun d w => lift (mtD nm (deref C w l) d) w))) := by
  generalize hg : ((ap.endLine == cp.line) && notStar b && noCall o && okMt nm) = gd
  cases gd with
  | false => exact le_none fun _ _ => rfl
  | true =>
    simp only [Bool.and_eq_true] at hg
    obtain ⟨⟨⟨h1, h2⟩, h3⟩, h4⟩ := hg
    show PE X _ (tE Z ce own k nF nT Wx fun ρ w => (fo ρ w).bind fun l w => guardR (mtGo nm (deref C w l)) ((fb ρ w).bind fun d w => lift (mtD nm (deref C w l) d) w))
    have M := mt_all K.un1 (nm := nm) ho hb h1 h2 h3
    -- the four
    have fin : ∀ (sel : D → Bool), (∀ w w' l, sel (deref C w l) = true → mtGo nm (deref C w' l) = true → sel (deref C w' l) = true) → ∀ (T : String) (r : V → List V → Hp → VK → Prop), PE X (.Call (.Attribute o nm ap) [b] [] cp) (tBM X.K T r (tE Z ce own ko Fo To Wx fo) (tCons (tE Z ce own kb Fb Tb Wx fb) tNil)) →
        (∀ hs H P v l, Rep ce hs H P v l → (sel l && mtGo nm l) = true → tyV X.K T v H) →
        (∀ hs H P v l u d z Q, Rep ce hs H P v l → Rep ce hs H P u d → mtD nm l d = some z → (sel l && mtGo nm l) = true → (∀ x H', HExt H H' → Rep ce hs H' (fun j a => j = 0 ∧ H a = none) x z → Q x H') → r v [u] H Q) →
        PE X (.Call (.Attribute o nm ap) [b] [] cp) (tE Z ce own k nF nT Wx fun ρ w => (fo ρ w).bind fun l w => guardR (sel (deref C w l) && mtGo nm (deref C w l)) ((fb ρ w).bind fun d w => lift (mtD nm (deref C w l) d) w)) := by
      intro sel hsel T r hpe hty hr
      refine imE hpe fun σ H Q ⟨γ, ρ, w, G, q⟩ => ⟨γ, ρ, w, G, q.bind.imp (fun l w1 h1 v H1 g1 x1 wk1 r1 => ?_) fun c w1 h1 => h1⟩
      cases hgo : sel (deref C w1 l) && mtGo nm (deref C w1 l) with
      | false => rw [hgo] at h1; exact h1.elim
      | true =>
        rw [hgo] at h1
        have h1 : Post ((fb ρ w1).bind fun d w => lift (mtD nm (deref C w l) d) w) _ _ := h1
        refine ⟨hty _ _ _ _ _ (deref_rep K.hh wk1.rel r1) hgo, γ.step g1, ρ, w1, G.step x1 wk1, h1.bind.imp (fun d w2 h2 u H2 g2 x2 wk2 r2 => ?_) fun c w2 h2 H' g' x wk => h2 H' g' (x1.trans x) wk⟩
        obtain ⟨z, ez, q⟩ := h2.lift
        have x12 : CStep γ.g H g2 H2 := x1.trans x2
        have hgo2 : (sel (deref C w2 l) && mtGo nm (deref C w2 l)) = true := by
          cases hq : mtGo nm (deref C w2 l) with
          | true => rw [hsel _ _ l (Bool.and_eq_true_iff.mp hgo).1 hq]; rfl
          | false => rw [mtD_go hq] at ez; cases ez
        refine hr g2.hs H2 (fun _ _ => True) v _ u d z Q (deref_rep K.hh wk2.rel (r1.stepO wk1 x2)) (r2.mono fun _ _ _ => trivial) ez hgo2 fun x H' xx rr => q x H' g2 (x12.trans (.ext xx)) (wk2.ext xx) (rr.mono fun j a p => G.newP x12 wk2 p.2 _ _ _ _)
    by_cases n1 : nm = "count"
    · subst n1
      refine fin (fun _ => true) (fun _ _ _ _ _ => rfl) "list" _ (M "list" "list.count" _ PySem.F.plainAttrs_list PySem.F.slot_list_count PySem.F.type_list_count (mt_cntD K.un1)) ?_ ?_
      · intro hs H P v l r hgo
        cases l with
        | list ds => cases r with
          | lst e n p r => exact .inl ⟨rfl, _, SqL.of e⟩
        | str a => exact absurd hgo (by show ¬ (decide (("count" : Str) = "join") || decide (("count" : Str) = "split")) = true; decide)
        | _ => cases hgo
      · intro hs H P v l u d z Q r r2 hz hgo q
        cases l with
        | list ds =>
          have hz : mtL "count" ds d = some z := hz
          unfold mtL at hz
          split at hz
          · rename_i hsh
            obtain ⟨s1, s2⟩ := Bool.and_eq_true_iff.mp hsh
            have hz : some (PyData.int (ds.countP fun z => PyData.eqv z d : Nat)) = some z := hz
            cases hz
            have hd1 := r.shp (K := X.K) s1
            have hd2 := r2.shp (K := X.K) s2
            cases r with
            | lst e n p r => exact ⟨_, u, d, ds, rfl, rfl, hd1, hd2, s1, s2, q _ _ HExt.refl (.int _)⟩
          · cases hz
        | str a => exact absurd hgo (by show ¬ (decide (("count" : Str) = "join") || decide (("count" : Str) = "split")) = true; decide)
        | _ => cases hgo
    · by_cases n2 : nm = "index"
      · subst n2
        have PL := fin isLD (fun w w' l h1 h2 => by
          unfold deref at h1 h2 ⊢
          cases hk : hdlOf l with
          | none => rw [hk] at h1; exact h1
          | some k =>
            rw [hk] at h2
            cases hx : C.hl w' k with
            | some ds =>
              show isLD (match C.hl w' k with
                | some ds => PyData.list ds
                | none => l) = true
              rw [hx]
              rfl
            | none =>
              simp only [hx] at h2
              cases l with
              | dict kvs => cases h2
              | _ => cases hk) "list" _ (M "list" "list.index" _ PySem.F.plainAttrs_list PySem.F.slot_list_index PySem.F.type_list_index (mt_indexD K.un1)) (by
          intro hs H P v l r hgo
          cases l with
          | list ds => cases r with
            | lst e n p r => exact .inl ⟨rfl, _, SqL.of e⟩
          | str a => exact absurd hgo (by show ¬ (decide (("index" : Str) = "join") || decide (("index" : Str) = "split")) = true; decide)
          | _ => cases hgo) (by
          intro hs H P v l u d z Q r r2 hz hgo q
          cases l with
          | list ds =>
            have hz : mtL "index" ds d = some z := hz
            unfold mtL at hz
            split at hz
            · rename_i hsh
              obtain ⟨s1, s2⟩ := Bool.and_eq_true_iff.mp hsh
              have hz : (ds.findIdx? fun z => PyData.eqv z d).map (fun (j : Nat) => PyData.int (j : Nat)) = some z := hz
              cases hf : ds.findIdx? fun z => PyData.eqv z d with
              | none => rw [hf] at hz; cases hz
              | some j =>
                rw [hf] at hz
                cases hz
                obtain ⟨z, f1, f2, f3⟩ := findIdx_go hf
                have hd1 := r.shp (K := X.K) s1
                have hd2 := r2.shp (K := X.K) s2
                cases r with
                | lst e n p r => exact ⟨_, u, d, ds, j, z, rfl, rfl, hd1, hd2, s1, s2, f1, f2, f3, q _ _ HExt.refl (.int _)⟩
            · cases hz
          | str a => exact absurd hgo (by show ¬ (decide (("index" : Str) = "join") || decide (("index" : Str) = "split")) = true; decide)
          | _ => cases hgo)
        have PT : PE X (.Call (.Attribute o "index" ap) [b] [] cp) (tE Z ce own k nF nT Wx fun ρ w => (fo ρ w).bind fun l w => guardR (isTD (deref C w l)) ((fb ρ w).bind fun d w => lift (mtD "index" (deref C w l) d) w)) := by
          refine imE (pe_ixT ho hb h1 h2 h3) fun σ H Q ⟨γ, ρ, w, G, q⟩ => ⟨γ, ρ, w, G, q.bind.imp (fun l w1 h1 v H1 g1 x1 wk1 r1 => ?_) fun c w1 h1 => h1⟩
          have r1d := deref_rep K.hh wk1.rel r1
          cases hl : deref C w1 l with
          | tuple ds =>
            rw [hl] at h1 r1d
            have h1 : Post ((fb ρ w1).bind fun d w => lift (mtD "index" (deref C w l) d) w) _ _ := h1
            refine ⟨?_, γ.step g1, ρ, w1, G.step x1 wk1, h1.bind.imp (fun d w2 h2 u H2 g2 x2 wk2 r2 => ?_) fun c w2 h2 H' g' x wk => h2 H' g' (x1.trans x) wk⟩
            · cases r1d with
              | tup e n rr => exact ⟨_, _, rfl, e⟩
            · obtain ⟨z, ez, q⟩ := h2.lift
              have hl2 : deref C w2 l = .tuple ds := by
                unfold deref at hl ⊢
                cases hk : hdlOf l with
                | none => rw [hk] at hl; exact hl
                | some k =>
                  rw [hk] at hl
                  cases hx : C.hl w1 k with
                  | some es => simp only [hx] at hl; cases hl
                  | none =>
                    simp only [hx] at hl
                    subst hl
                    cases hk
              rw [hl2] at ez
              have rr := r1.stepO wk1 x2
              have rr2 := deref_rep K.hh wk2.rel rr
              rw [hl2] at rr2
              have ez : mtT "index" ds d = some z := ez
              unfold mtT at ez
              rw [show decide (("index" : Str) = "index") = true by decide] at ez
              cases hi : intsOf ds with
              | none => rw [hi] at ez; cases ez
              | some ns =>
                rw [hi] at ez
                cases d with
                | int i =>
                  have ez : (ns.findIdx? fun z => z == i).map (fun (j : Nat) => PyData.int (j : Nat)) = some z := ez
                  cases hf : ns.findIdx? fun z => z == i with
                  | none => rw [hf] at ez; cases ez
                  | some j =>
                    rw [hf] at ez
                    cases ez
                    obtain ⟨hj, f1, f2⟩ := List.findIdx?_eq_some_iff_getElem.mp hf
                    cases r2
                    cases rr2 with
                    | tup e n rs =>
                      have evs := Reps.ofInts rs hi
                      subst evs
                      refine ⟨_, ns, i, j, rfl, rfl, e.sq, by rw [List.getElem?_eq_getElem hj, eq_of_beq f1], fun m hm z => ?_, q _ _ g2 (x1.trans x2) wk2 (.int _)⟩
                      have hml : m < ns.length := Nat.lt_trans hm hj
                      rw [List.getElem?_eq_getElem hml] at z
                      cases z
                      have := f2 m hm
                      simp at this
                | _ => cases ez
          | _ => rw [hl] at h1; exact h1.elim
        refine imE (pe_or2 PL PT) fun σ H Q ⟨γ, ρ, w, G, q⟩ => ?_
        have q : Post ((fo ρ w).bind fun l w => guardR (mtGo "index" (deref C w l)) ((fb ρ w).bind fun d w => lift (mtD "index" (deref C w l) d) w)) _ _ := q
        cases hf : fo ρ w with
        | no => rw [hf] at q; exact q.elim
        | ex c w1 =>
          rw [hf] at q
          refine .inl ⟨γ, ρ, w, G, ?_⟩
          show Post ((fo ρ w).bind _) _ _
          rw [hf]
          exact q
        | ok l w1 =>
          rw [hf] at q
          cases hl : deref C w1 l with
          | tuple ds =>
            refine .inr ⟨γ, ρ, w, G, ?_⟩
            show Post ((fo ρ w).bind _) _ _
            rw [hf]
            have q : Post (guardR (mtGo "index" (deref C w1 l)) ((fb ρ w1).bind fun d w => lift (mtD "index" (deref C w l) d) w)) _ _ := q
            show Post (guardR (isTD (deref C w1 l)) ((fb ρ w1).bind fun d w => lift (mtD "index" (deref C w l) d) w)) _ _
            rw [hl] at q ⊢
            exact q
          | list ds =>
            refine .inl ⟨γ, ρ, w, G, ?_⟩
            show Post ((fo ρ w).bind _) _ _
            rw [hf]
            have q : Post (guardR (mtGo "index" (deref C w1 l)) ((fb ρ w1).bind fun d w => lift (mtD "index" (deref C w l) d) w)) _ _ := q
            show Post (guardR (isLD (deref C w1 l) && mtGo "index" (deref C w1 l)) ((fb ρ w1).bind fun d w => lift (mtD "index" (deref C w l) d) w)) _ _
            rw [hl] at q ⊢
            exact q
          | _ =>
            exfalso
            have q : Post (guardR (mtGo "index" (deref C w1 l)) ((fb ρ w1).bind fun d w => lift (mtD "index" (deref C w l) d) w)) _ _ := q
            rw [hl] at q
            exact q.elim
      · by_cases n3 : nm = "join"
        · subst n3
          refine fin (fun _ => true) (fun _ _ _ _ _ => rfl) "str" _ (M "str" "str.join" _ PySem.F.plainAttrs_str PySem.F.slot_str_join PySem.F.type_str_join mt_join) ?_ ?_
          · intro hs H P v l r hgo
            cases l with
            | str a => cases r; rfl
            | list ds => exact absurd hgo (by show ¬ (decide (("join" : Str) = "count") || decide (("join" : Str) = "index")) = true; decide)
            | _ => cases hgo
          · intro hs H P v l u d z Q r r2 hz hgo q
            cases l with
            | str a =>
              cases r
              have hz : mtS "join" a d = some z := hz
              cases d with
              | list ds =>
                have hz : (match strsOf ds with
                  | some xs => if lenOk ((xs.map (·.length)).sum + xs.length * a.length) then some (PyData.str (Txt.join a xs)) else none
                  | none => none) = some z := hz
                cases hx : strsOf ds with
                | none => rw [hx] at hz; cases hz
                | some xs =>
                  rw [hx] at hz
                  dsimp only at hz
                  split at hz
                  · rename_i hln
                    cases hz
                    cases r2 with
                    | lst e n p r =>
                      have ev := strs_of r hx
                      subst ev
                      exact ⟨a, _, xs, rfl, rfl, .inl (SqL.of e), Nat.le_trans (of_decide_eq_true hln) (by decide), q _ _ HExt.refl (.str _)⟩
                  · cases hz
              | _ => cases hz
            | list ds => exact absurd hgo (by show ¬ (decide (("join" : Str) = "count") || decide (("join" : Str) = "index")) = true; decide)
            | _ => cases hgo
        · by_cases n4 : nm = "split"
          · subst n4
            refine fin (fun _ => true) (fun _ _ _ _ _ => rfl) "str" _ (M "str" "str.split" _ PySem.F.plainAttrs_str PySem.F.slot_str_split PySem.F.type_str_split mt_split) ?_ ?_
            · intro hs H P v l r hgo
              cases l with
              | str a => cases r; rfl
              | list ds => exact absurd hgo (by show ¬ (decide (("split" : Str) = "count") || decide (("split" : Str) = "index")) = true; decide)
              | _ => cases hgo
            · intro hs H P v l u d z Q r r2 hz hgo q
              cases l with
              | str a =>
                cases r
                cases d with
                | str b =>
                  have hz : (if !(b.length == 0) && lenOk (a.length + 2) then some (PyData.list ((Txt.split a b).map PyData.str)) else none) = some z := hz
                  split at hz
                  · rename_i hln
                    obtain ⟨l1, l2⟩ := Bool.and_eq_true_iff.mp hln
                    cases hz
                    cases r2
                    have hle := line_le l2
                    refine ⟨a, b, rfl, rfl, by simpa using l1, hle, fun p hp => q _ _ (HExt.upd hp) (Rep.newL (reps_strs _) hp ?_ ⟨rfl, hp⟩)⟩
                    rw [List.length_map]
                    exact Nat.le_trans (PyProof.Rows.split_le a b) hle
                  · cases hz
                | _ => cases hz
              | list ds => exact absurd hgo (by show ¬ (decide (("split" : Str) = "count") || decide (("split" : Str) = "index")) = true; decide)
              | _ => cases hgo
          · exfalso
            unfold okMt at h4
            rw [decide_eq_false n1, decide_eq_false n2, decide_eq_false n3, decide_eq_false n4] at h4
            cases h4
/-! ### what is walked -/
def Ylds (ce : Str → Option Addr) (J : It) (vs : List V) (ds items : List D) : Prop := ∀ (hs : List Addr) (P : Pd) (H : Hp), Reps ce hs H P vs ds →
  (∀ (i : Nat) (d : D), items[i]? = some d → J.go i H ∧ ∀ x H', J.yld i H x H' → HExt H H' ∧ Rep ce hs H' (fun _ a => ∃ j, 1 ≤ j ∧ P j a) x d) ∧ J.stop items.length H
/-- an iterable by its parts -/
def iIt (ce : Str → Option Addr) (g : List D → Option (List D)) (t : TA) : TI := fun σ H R => t σ H fun vs H1 => ∃ hs P ds items, Reps ce hs H1 P vs ds ∧ g ds = some items ∧ ∀ J, Ylds ce J vs ds items → items.length ≤ sizeLine → R J H1
theorem imI {tg it : Expr} {t t' : TI} (h : PI X tg it t) (k : ∀ σ H R, t' σ H R → t σ H R) : PI X tg it t' := ⟨fun pins s σ H R I q => h.run pins s σ H R I (k σ H R q)⟩
theorem PI_or {tg it : Expr} {t t' : TI} (h : PI X tg it t) (h' : PI X tg it t') : PI X tg it (fun σ H R => t σ H R ∨ t' σ H R) := ⟨fun pins s σ H R I q => q.elim (h.run pins s σ H R I) (h'.run pins s σ H R I)⟩
theorem TA_mono {te : Expr → TE} (hm : ∀ e σ H Q Q', (∀ v H', Q v H' → Q' v H') → te e σ H Q → te e σ H Q') : ∀ {es : List Expr} {σ : L2.St} {H : Hp} {Q Q' : List V → Hp → Prop}, (∀ vs H', Q vs H' → Q' vs H') → tList te es σ H Q → tList te es σ H Q'
  | [], _, _, _, _, k, h => k _ _ h
  | e :: es, σ, H, Q, Q', k, h => hm e σ H _ _ (fun v H1 h1 => TA_mono hm (fun vs H2 h2 => k _ _ h2) h1) h
theorem tE_mono {k nF nT : Nat} {f : Rho → W → Res W D} {σ : L2.St} {H : Hp} {Q Q' : VK} (k' : ∀ v H', Q v H' → Q' v H') (h : tE Z ce own k nF nT Wx f σ H Q) : tE Z ce own k nF nT Wx f σ H Q' := by
  obtain ⟨γ, ρ, w, G, q⟩ := h
  exact ⟨γ, ρ, w, G, q.imp (fun d w1 h v H' g' x wk r => k' _ _ (h v H' g' x wk r)) fun c w1 h => h⟩
theorem rangeL_get : ∀ {n i : Nat} {lo : Int} {d : D}, (rangeL lo n)[i]? = some d → i < n ∧ d = .int (lo + i)
  | 0, i, lo, d, h => by simp [rangeL] at h
  | n + 1, 0, lo, d, h => by simp [rangeL] at h; exact ⟨Nat.succ_pos _, by rw [← h]; simp⟩
  | n + 1, i + 1, lo, d, h => by
    obtain ⟨h1, h2⟩ := rangeL_get (n := n) (i := i) (lo := lo + 1) (d := d) (by simpa [rangeL] using h)
    exact ⟨Nat.succ_lt_succ h1, by rw [h2]; congr 1; push_cast; omega⟩
theorem rangeL_len : ∀ {n : Nat} {lo : Int}, (rangeL lo n).length = n
  | 0, _ => rfl
  | n + 1, lo => by simp [rangeL, rangeL_len (n := n)]
theorem downL_get : ∀ {n i : Nat} {lo : Int} {d : D}, (downL lo n)[i]? = some d → i < n ∧ d = .int (lo - i)
  | 0, i, lo, d, h => by simp [downL] at h
  | n + 1, 0, lo, d, h => by simp [downL] at h; exact ⟨Nat.succ_pos _, by rw [← h]; simp⟩
  | n + 1, i + 1, lo, d, h => by
    obtain ⟨h1, h2⟩ := downL_get (n := n) (i := i) (lo := lo - 1) (d := d) (by simpa [downL] using h)
    exact ⟨Nat.succ_lt_succ h1, by rw [h2]; congr 1; push_cast; omega⟩
theorem downL_len : ∀ {n : Nat} {lo : Int}, (downL lo n).length = n
  | 0, _ => rfl
  | n + 1, lo => by simp [downL, downL_len (n := n)]
theorem zip2_get : ∀ {xs ys : List D} {i : Nat} {d : D}, (zip2 xs ys)[i]? = some d → ∃ x y, xs[i]? = some x ∧ ys[i]? = some y ∧ d = .tuple [x, y]
  | [], ys, i, d, h => by simp [zip2] at h
  | _ :: _, [], i, d, h => by simp [zip2] at h
  | x :: xs, y :: ys, 0, d, h => by simp [zip2] at h; exact ⟨x, y, rfl, rfl, h.symm⟩
  | x :: xs, y :: ys, i + 1, d, h => by
    obtain ⟨a, b, h1, h2, h3⟩ := zip2_get (xs := xs) (ys := ys) (i := i) (d := d) (by simpa [zip2] using h)
    exact ⟨a, b, by simpa using h1, by simpa using h2, h3⟩
theorem zip2_len : ∀ {xs ys : List D}, (zip2 xs ys).length = min xs.length ys.length
  | [], ys => by simp [zip2]
  | _ :: _, [] => by simp [zip2]
  | x :: xs, y :: ys => by simp [zip2, zip2_len (xs := xs) (ys := ys)]
theorem enumL_get : ∀ {xs : List D} {i : Nat} {n : Int} {d : D}, (enumL n xs)[i]? = some d → ∃ x, xs[i]? = some x ∧ d = .tuple [.int (n + i), x]
  | [], i, n, d, h => by simp [enumL] at h
  | x :: xs, 0, n, d, h => by simp [enumL] at h; exact ⟨x, rfl, by rw [← h]; simp⟩
  | x :: xs, i + 1, n, d, h => by
    obtain ⟨a, h1, h2⟩ := enumL_get (xs := xs) (i := i) (n := n + 1) (d := d) (by simpa [enumL] using h)
    exact ⟨a, by simpa using h1, by rw [h2]; congr 3; push_cast; omega⟩
theorem enumL_len : ∀ {xs : List D} {n : Int}, (enumL n xs).length = xs.length
  | [], _ => rfl
  | x :: xs, n => by simp [enumL, enumL_len (xs := xs)]
theorem small_bd {j : Int} (h : small j = true) : j.natAbs ≤ 1000000 := of_decide_eq_true h
theorem ylds_range {lo : Int} {n : Nat} {vs : List V} {ds : List D} : Ylds ce (Itr lo n) vs ds (rangeL lo n) := fun hs P H r =>
  ⟨fun i d e => ⟨(rangeL_get e).1, fun x H' ⟨e1, e2⟩ => by
    subst e1
    rw [(rangeL_get e).2, e2]
    exact ⟨HExt.refl, .int _⟩⟩, Nat.le_of_eq rangeL_len.symm⟩
theorem ylds_down {hi : Int} {n : Nat} {vs : List V} {ds : List D} : Ylds ce (Itc hi (-1) n) vs ds (downL hi n) := fun hs P H r =>
  ⟨fun i d e => ⟨(downL_get e).1, fun x H' ⟨e1, e2⟩ => by
    subst e1
    rw [(downL_get e).2, e2]
    have e3 : hi + (i : Int) * -1 = hi - i := by omega
    rw [e3]
    exact ⟨HExt.refl, .int _⟩⟩, Nat.le_of_eq downL_len.symm⟩
theorem ylds_list {K : PySem.W.Frag} {a : Addr} {xs : List D} : Ylds ce (Itl K a) [.ref a] [.list xs] xs := fun hs P H r => by
  cases r with
  | cons r1 _ =>
    cases r1 with
    | lst e1 n1 p1 r1 =>
      refine ⟨fun i d e => ?_, _, SqL.of e1, Nat.le_of_eq r1.length⟩
      obtain ⟨v, hv, rv⟩ := r1.get e
      refine ⟨⟨_, v, SqL.of e1, hv⟩, fun x H' ⟨z1, z2⟩ => ?_⟩
      subst z1
      have := z2 _ (SqL.of e1)
      rw [hv] at this
      cases this
      exact ⟨HExt.refl, rv.mono fun j b p => ⟨j + 1, Nat.succ_pos _, p.1⟩⟩
theorem ylds_tup {K : PySem.W.Frag} {a : Addr} {xs : List D} : Ylds ce (Itt K a) [.ref a] [.tuple xs] xs := fun hs P H r => by
  cases r with
  | cons r1 _ =>
    cases r1 with
    | tup e1 n1 r1 =>
      refine ⟨fun i d e => ?_, _, e1.sq, Nat.le_of_eq r1.length⟩
      obtain ⟨v, hv, rv⟩ := r1.get e
      refine ⟨⟨_, v, e1.sq, hv⟩, fun x H' ⟨z1, z2⟩ => ?_⟩
      subst z1
      have := z2 _ (e1.sq)
      rw [hv] at this
      cases this
      exact ⟨HExt.refl, rv.mono fun j b p => ⟨j + 1, Nat.succ_pos _, p⟩⟩
theorem two_line : (2 : Nat) ≤ sizeLine := by rw [sizeLine_eq]; decide
end
end T
namespace T
open PySem PySem.Spec PyProof.Rows L2
/-! ### methods, makers, lengths: what is raised is wished for at the caller's slots -/
section
variable {X : Cx} {CX : CXT} {k : Nat} {f C : Addr} {fd : FuncData} {ps : List Str} {sp : Sp} {E : L2.St → XK} {x m : Str} {p pos apos : Pos} {e o : Expr} {es : List Expr} {ta : TE} {t : TA}
def tMethS (C : Addr) (m : Str) (sp : Sp) (E : L2.St → XK) (ta : TE) (t : TA) : TE := fun σ H Q => ta σ H fun x H1 => ∃ a dx fs, x = .ref a ∧ H1 a = some (.ins C dx fs) ∧ fs.lookup m = none ∧
  t σ H1 fun vs H2 => sp (x :: vs) H2 Q (E σ)
theorem pe_methSD {pl : Sem Bool} (he : PE X o ta) (c : Cls X.K C) (hm : Meth X.K C m f) (F : FnOk X.prog X.w X.K X.mg X.base CX k f fd ps sp) (hr : Room k X.A) (hb : Binds X.K fd ps []) (hx : ∀ σ, PassesAt CX X σ (E σ)) (ha : PA X (e :: es) t)
    (hst : starEach (e :: es) X.env = (false, eval e X.env) :: starEach es X.env) (hpl : (backTo pos (starEach es X.env)).any (·.1) = false)
    (ht : eval (.Call (.Attribute o m apos) (e :: es) [] pos) X.env = (do
      let ov ← eval o X.env
      standAt apos.atName
      let (f, first) ← holding [ov] (getMethod ov m pl)
      callWith pos f first (backTo pos (starEach (e :: es) X.env)) (backToKw pos (keywordEach [] X.env)))) :
    PE X (.Call (.Attribute o m apos) (e :: es) [] pos) (tMethS C m sp E ta t) := by
  refine ⟨fun pins s σ H Q I h => ?_⟩
  refine PySem.W.methodCall_KW (pl := pl) (thn (he.run pins s σ H _ I h) fun u s1 ⟨x, H1, I1, rx, a, dx, fs, ex, ea, l, q⟩ => ?_) ht
  subst ex
  obtain rfl : u = Value.ref a := rx
  refine getmeth_ok I1 ea c hm l ?_
  refine PySem.W.callWith_K (first := [.ref a]) (h₀ := X.base) I.ok.mod.kin hm.kp (thn (ha.run pos pins s1 σ H1 _ I1 q) fun us s2 ⟨vs, H2, I2, r, q2⟩ => ⟨I2.kIn, ?_⟩) hst hpl
  exact run_fnS (us := .ref a :: us) (vs := .ref a :: vs) F hr hb (hx σ) I2 (.cons rfl r) q2
theorem pe_meth0SD {pl : Sem Bool} (he : PE X o ta) (c : Cls X.K C) (hm : Meth X.K C m f) (F : FnOk X.prog X.w X.K X.mg X.base CX k f fd ps sp) (hr : Room k X.A) (hb : Binds X.K fd ps []) (hx : ∀ σ, PassesAt CX X σ (E σ))
    (ht : eval (.Call (.Attribute o m apos) [] [] pos) X.env = (do
      let ov ← eval o X.env
      standAt apos.atName
      let (f, first) ← holding [ov] (getMethod ov m pl)
      callWith pos f first (backTo pos (starEach [] X.env)) (backToKw pos (keywordEach [] X.env)))) :
    PE X (.Call (.Attribute o m apos) [] [] pos) (tMethS C m sp E ta tNil) := by
  refine ⟨fun pins s σ H Q I h => ?_⟩
  refine PySem.W.methodCall_KW (pl := pl) (thn (he.run pins s σ H _ I h) fun u s1 ⟨x, H1, I1, rx, a, dx, fs, ex, ea, l, q⟩ => ?_) ht
  subst ex
  obtain rfl : u = Value.ref a := rx
  refine getmeth_ok I1 ea c hm l ?_
  exact PySem.W.callWith_K0 (first := [.ref a]) I1.kIn hm.kp (run_fnS (us := [.ref a]) (vs := [.ref a]) F hr hb (hx σ) I1 (.cons rfl .nil) q)
def tMakeS (C : Addr) (sp : Sp) (E : L2.St → XK) (t : TA) : TE := fun σ H Q => t σ H fun vs H1 => ∀ x dx, H1 x = none → H1 dx = none → dx ≠ x →
  sp (.ref x :: vs) (upd (upd H1 dx (.own x)) x (.ins C dx [])) (fun v H2 => v = .non ∧ Q (.ref x) H2) (E σ)
theorem run_makeSD {pins : List (Addr × Obj)} {σ : L2.St} {H : Hp} {s : Shared} {Q : VK} {us : List Value} {vs : List V} (M : Mk X.K C f) (F : FnOk X.prog X.w X.K X.mg X.base CX k f fd ps sp) (hr : Room (k + 1) X.A) (hb : Binds X.K fd ps [])
    (hx : PassesAt CX X σ (E σ)) (I : Inv X pins σ H s) (r : Vals vs us)
    (h : ∀ x dx, H x = none → H dx = none → dx ≠ x → sp (.ref x :: vs) (upd (upd H dx (.own x)) x (.ins C dx [])) (fun v H2 => v = .non ∧ Q (.ref x) H2) (E σ)) :
    wpAny (model X.prog X.w) X.A (call (.ref C) us) (EP X pins σ Q) X.xe s := by
  have hq := h (s.heap.objs.size + 1) s.heap.objs.size (I.hok.fresh (Nat.le_succ _)) (I.hok.fresh (Nat.le_refl _)) (Nat.ne_of_lt (Nat.lt_succ_self _))
  have I2 := Inv.made (C := C) I
  have r2 : Vals (V.ref (s.heap.objs.size + 1) :: vs) (Value.ref (s.heap.objs.size + 1) :: us) := .cons rfl r
  have hl : (Value.ref (s.heap.objs.size + 1) :: us).length = ps.length := by
    have e := r2.length
    rw [F.len _ _ _ _ hq] at e
    exact e.symm
  have b := hb _ (Value.ref (s.heap.objs.size + 1) :: us) I2.kIn (by rw [List.append_nil]; exact hl)
  rw [List.append_nil] at b
  refine wpAny_call (make_map (f := f) I.kIn M.makes M.init (beq_iff_eq.mp M.fn) (codeAny_mono (F.run _ X.stack _ _ ⟨Value.ref (s.heap.objs.size + 1) :: us, []⟩ (Value.ref (s.heap.objs.size + 1) :: us) _ _ (E σ) (hr.make C us [])
    (I2.env0.make C us []) b r2 hq) fun r s' hq' => ?_))
  cases r with
  | error e => exact hx pins _ _ e s' I2 hq'
  | ok fl =>
    cases fl with
    | ret u =>
      obtain ⟨v, H', I3, rv, ev, q3⟩ := I2.after hq'
      subst ev
      exact ⟨rv, ⟨V.ref (s.heap.objs.size + 1), H', I3, rfl, q3⟩⟩
    | next => exact False.elim hq'
    | brk => exact False.elim hq'
    | cont => exact False.elim hq'
theorem pe_makeSD (M : Mk X.K C f) (F : FnOk X.prog X.w X.K X.mg X.base CX k f fd ps sp) (hr : Room (k + 1) X.A) (hg : Gl X x) (hm : X.mg x = some (.ref C)) (hb : Binds X.K fd ps []) (hx : ∀ σ, PassesAt CX X σ (E σ))
    (ha : PA X (e :: es) t) (hdb : (x == ("__debug__" : Str)) = false) (he : starEach (e :: es) X.env = (false, eval e X.env) :: starEach es X.env) (hpl : (backTo pos (starEach es X.env)).any (·.1) = false) :
    PE X (.Call (.Name x p) (e :: es) [] pos) (tMakeS C sp E t) := by
  refine ⟨fun pins s σ H Q I h => ?_⟩
  refine wpAny_Call_Name_kw (ld_glob I hg hm ?_ hdb)
  refine PySem.W.callWith_K (h₀ := X.base) I.ok.mod.kin M.kp (thn (ha.run pos pins s σ H _ I h) fun us s1 ⟨vs, H1, I1, r, q⟩ => ⟨I1.kIn, ?_⟩) he hpl
  exact run_makeSD M F hr hb (hx σ) I1 r q
/-- len(o) by an own __len__ -/
theorem call_len_own (hl : PySem.W.findIn X.K (.ref C) "__len__" = some (some (.ref f))) (hf : PySem.W.isFn X.K (.ref f) = true) (F : FnOk X.prog X.w X.K X.mg X.base (L2.CX X.prog X.w) k f fd ps sp) (hr : Room (k + 1) X.A) (hb : Binds X.K fd ps []) :
    CallR X (.builtin "len") (fun xs H Q => ∃ a dx fs, xs = [.ref a] ∧ H a = some (.ins C dx fs) ∧ sp [.ref a] H (fun v H' => ∃ n : Nat, v = .int n ∧ n ≤ sizeLine ∧ Q (.int n) H') fun _ _ _ => False) := by
  intro pins s σ H xs us Q I r h
  obtain ⟨a, dx, fs, rfl, ha, hsp⟩ := h
  obtain ⟨u, rfl, ru⟩ := vals1 r
  obtain rfl : u = Value.ref a := ru
  obtain ⟨mA, J, _⟩ := ins_get I.hok ha
  obtain ⟨od, J, _⟩ := J.look
  have hs : sizeLine = 16777216 := sizeLine_eq
  refine Calls.call_function_entry kind_len plain_len entry_len (args_len1 _) ?_
  unfold Builtin.«len»
  refine wpAny_bind (m := oneArg "len" _) (wpAny_pure ?_)
  have hlen := F.len _ _ _ _ hsp
  have b := hb s [Value.ref a] I.kIn (by simpa using hlen)
  rw [List.append_nil] at b
  refine wpAny_bind (m := callSpecial? (.ref a) (PySem.Str.ofString "__len__")) (PySem.W.special_fn (name := PySem.Str.ofString "__len__") (args := []) I.kIn J hl (beq_iff_eq.mp hf) ?_)
  refine wpAny_call (codeAny_mono (F.run _ X.stack s H ⟨[.ref a], []⟩ [.ref a] [.ref a] _ _ hr.in1 I.env0.in1 b (.cons rfl .nil) hsp) fun r s' hq => ?_)
  cases r with
  | error e =>
    obtain ⟨_, _, _, _, _, _, _, _, _, _, _, _, z⟩ := hq
    exact z.elim
  | ok fl =>
    cases fl with
    | ret u =>
      obtain ⟨v, H', I', rv, n, rfl, hn, q⟩ := I.after hq
      obtain ⟨t, rfl⟩ := rv
      refine wpAny_bind (wpAny_holding (wpAny_pure ?_))
      refine wpAny_bind (wpAny_letGo ?_)
      show wpAny _ _ (if ((n : Nat) : Int) < 0 then _ else _) _ _ _
      rw [if_neg (by omega)]
      show wpAny _ _ (if ((n : Nat) : Int) ≥ 2 ^ 63 then _ else _) _ _ _
      rw [if_neg (by omega)]
      exact wpAny_bind (wpAny_mkInt (wpAny_pure ⟨_, rfl, .int n, H', I'.tok _, ⟨_, rfl⟩, q⟩))
    | next => exact False.elim hq
    | brk => exact False.elim hq
    | cont => exact False.elim hq
end
end T
namespace T
open PySem PySem.Spec PyProof.Rows L2
/-! ### fields -/
def putFD (f : Str) (d : D) : List (Str × D) → List (Str × D)
  | [] => [(f, d)]
  | (g, x) :: r => match decide (g = f) with
    | true => (g, d) :: r
    | false => (g, x) :: putFD f d r
section
variable {ce : Str → Option Addr} {hs hs' : List Addr} {H H' : Hp} {fvs : List (Str × V)} {fs : List (Str × D)} {x : Str} {d : D} {v : V}
theorem FRep.val (r : FRep ce hs H fvs fs) (h : fldV fs x = some d) : ∃ v, fvs.lookup x = some v ∧ Rep ce hs H (fun _ _ => False) v d := by
  induction r with
  | nil => cases h
  | @cons y v' d' fvs fs r1 r2 ih =>
    unfold fldV at h
    by_cases e : y = x
    · subst e
      simp at h
      subst h
      exact ⟨v', by simp [List.lookup], r1⟩
    · rw [decide_eq_false (show ¬ (y, d').1 = x from e)] at h
      obtain ⟨v, e1, e2⟩ := ih h
      refine ⟨v, ?_, e2⟩
      have : (x == y) = false := by simpa using Ne.symm e
      simp [List.lookup, this, e1]
theorem FRep.non (r : FRep ce hs H fvs fs) (h : fldV fs x = none) : fvs.lookup x = none := by
  induction r with
  | nil => rfl
  | @cons y v' d' fvs fs r1 r2 ih =>
    unfold fldV at h
    by_cases e : y = x
    · subst e
      simp at h
    · rw [decide_eq_false (show ¬ (y, d').1 = x from e)] at h
      have : (x == y) = false := by simpa using Ne.symm e
      simp [List.lookup, this, ih h]
theorem FRep.put (r : FRep ce hs H fvs fs) (f : Str) (rv : Rep ce hs H (fun _ _ => False) v d) : FRep ce hs H (putF f v fvs) (putFD f d fs) := by
  induction r with
  | nil => exact .cons rv .nil
  | @cons y v' d' fvs fs r1 r2 ih =>
    unfold putF putFD
    by_cases e : y = f
    · rw [if_pos e, decide_eq_true e]
      exact .cons rv r2
    · rw [if_neg e, decide_eq_false e]
      exact .cons r1 ih
theorem FRep.go (r : FRep ce hs H fvs fs) (kt : ∀ b o, isT o → H b = some o → H' b = some o) (hh : ∀ (k : Nat) (a : Addr), hs[k]? = some a → hs'[k]? = some a) : FRep ce hs' H' fvs fs := by
  induction r with
  | nil => exact .nil
  | cons r1 r2 ih => exact .cons (r1.go (fun _ _ _ z => z.elim) kt hh) ih
theorem FRep.length (r : FRep ce hs H fvs fs) : fvs.length = fs.length := by
  induction r with
  | nil => rfl
  | cons _ _ ih => simp [ih]
end
section
variable {W : Type} {Z : Wd W} {ce : Str → Option Addr} {own : List Nat} {X : Cx} {Wx : Str → L2.St → Hp → Prop} {pos : Pos} {C : Cfg W} {sc : Scope}
theorem PE_or {e : Expr} {t t' : TE} (h : PE X e t) (h' : PE X e t') : PE X e (fun σ H Q => t σ H Q ∨ t' σ H Q) := ⟨fun pins s σ H Q I q => q.elim (h.run pins s σ H Q I) (h'.run pins s σ H Q I)⟩
theorem ins_rep {cw : Addr} (K : Hio Z ce cw C.io.ix) {g : Gh} {H : Hp} {P : Pd} {w : W} {v : V} {d : D} {k : Nat} {fs : List (Str × D)} (rl : Z.rel g H w) (r : Rep ce g.hs H P v d) (h : hdlOf d = some k) (e : C.io.ix.fg w k = some fs) :
    ∃ a dx fvs, v = .ref a ∧ g.hs[k]? = some a ∧ a ∈ g.Om ∧ H a = some (.ins cw dx fvs) ∧ FRep ce g.hs H fvs fs := by
  obtain ⟨a, rfl, ea⟩ := hdlOf_rep r h
  obtain ⟨a', dx, fvs, e1, e2, e3, e4⟩ := K.get rl e
  rw [ea] at e1
  cases e1
  exact ⟨a, dx, fvs, rfl, ea, e2, e3, e4⟩
theorem le_fld (K : Cok Z ce C X sc Wx) {o : Expr} {fl : Str} {fo : Rho → W → Res W D} {ko Fo To k nF nT : Nat} (ho : PE X o (tE Z ce own ko Fo To Wx fo)) :
    PE X (.Attribute o fl pos) (tE Z ce own k nF nT Wx fun ρ w => guardR (isNmE o) ((fo ρ w).bind fun x w => lift (fldH C w x fl) w)) := by
  cases hn : isNmE o with
  | false => exact le_none fun _ _ => rfl
  | true =>
    cases o with
    | Name y p =>
      obtain ⟨cw, O⟩ := K.io
      refine imE (pe_fld ho rfl) fun σ H Q ⟨γ, ρ, w, G, q⟩ => ⟨γ, ρ, w, G, Post.imp (Post.bind q) (fun x w1 h1 v H1 g1 x1 wk1 r1 => ?_) fun c w1 h1 => h1⟩
      obtain ⟨d, ed, q⟩ := h1.lift
      unfold fldH at ed
      split at ed
      · rename_i hc
        split at ed
        · rename_i k hk
          split at ed
          · rename_i fs hfs
            obtain ⟨a, dx, fvs, rfl, ea, eO, eH, fr⟩ := ins_rep O.hi wk1.rel r1 hk hfs
            obtain ⟨v, ev, rv⟩ := fr.val ed
            obtain ⟨c1, c2⟩ := O.fld fl hc
            exact ⟨a, cw, dx, fvs, v, rfl, eH, c1, c2, ev, q v H1 g1 x1 wk1 (rv.mono fun _ _ z => z.elim)⟩
          · cases ed
        · cases ed
      · cases ed
    | _ => cases hn
theorem mcall_tree {o : Expr} {nm : Str} {ap cp : Pos} {args : List Expr} {env : Env} (hb : attributeBase o nm env (eval o env) = eval o env) (hl : (ap.endLine == cp.line) = true) (hs : args.all notStar = true) (hn : args.length < 20) :
    eval (.Call (.Attribute o nm ap) args [] cp) env = (do
      let ov ← eval o env
      standAt ap.atName
      let (f, first) ← holding [ov] (getMethod ov nm (do return (← importBound o env).getD true))
      callWith cp f first (backTo cp (starEach args env)) (backToKw cp (keywordEach [] env))) := by
  rw [arm_eval_Call, hb]
  have hform : methodCallForm (args.length + ([] : List Keyword).length) (backTo cp (starEach args env)) (backToKw cp (keywordEach [] env)) = true := by
    have h1 := star_none (env := env) (pos := cp) hs
    have h2 : (backTo cp (starEach args env)).all (fun x => !x.1) = true := by
      rw [List.any_eq_false] at h1
      rw [List.all_eq_true]
      intro x hx
      have := h1 x hx
      simpa using this
    have h3 : (backToKw cp (keywordEach [] env)) = [] := rfl
    unfold methodCallForm
    rw [h2, h3]
    simp
    omega
  have hpos : methodCallPos true o env ap cp = pure cp := by unfold methodCallPos; simp [hl]
  unfold methodCall
  rw [hform]
  simp only [hpos, calleeOf, if_true, pure_bind]
theorem le_meth (K : Cok Z ce C X sc Wx) {o : Expr} {nm : Str} {ap cp : Pos} {args : List Expr} {g : List D → W → Res W D} {fo : Rho → W → Res W D} {fe : Expr → Rho → W → Res W D} {ko Fo To k nF nT : Nat} {ke Fe Te : Expr → Nat} (hg : lookD C.io.mt nm = some g) (ho : PE X o (tE Z ce own ko Fo To Wx fo))
    (h : ∀ e ∈ args, PE X e (tE Z ce own (ke e) (Fe e) (Te e) Wx (fe e))) :
    PE X (.Call (.Attribute o nm ap) args [] cp) (tE Z ce own k nF nT Wx fun ρ w => guardR ((ap.endLine == cp.line) && isNmE o && args.all notStar && decide (args.length < 20)) ((fo ρ w).bind fun x w => guardR (isIns C w x nm) ((trav (fun e w => fe e ρ w) args w).bind fun ds w => g (x :: ds) w))) := by
  generalize hgd : ((ap.endLine == cp.line) && isNmE o && args.all notStar && decide (args.length < 20)) = gd
  cases gd with
  | false => exact le_none fun _ _ => rfl
  | true =>
    simp only [Bool.and_eq_true, decide_eq_true_eq] at hgd
    obtain ⟨⟨⟨hli, hn⟩, hs⟩, hln⟩ := hgd
    have htr := fun env => mcall_tree (env := env) (o := o) (nm := nm) (base_ok (by cases o <;> first | rfl | cases hn)) hli hs hln
    cases o with
    | Name y p =>
      obtain ⟨cw, O⟩ := K.io
      obtain ⟨kk, f, fd, ps, c1, c2, F, hr, hb⟩ := O.mth nm g hg
      have rd : ∀ σ H Q, tE Z ce own k nF nT Wx (fun ρ w => (fo ρ w).bind fun x w => guardR (isIns C w x nm) ((trav (fun e w => fe e ρ w) args w).bind fun ds w => g (x :: ds) w)) σ H Q →
          tMethS cw nm (spOf Z ce g) (fun σ => WE (fun cls d σ H => d = none ∧ ∃ c K, ce c = some K ∧ cls = .ref K ∧ Wx c σ H) σ) (tE Z ce own ko Fo To Wx fo) (tList (fun e => tE Z ce own (ke e) (Fe e) (Te e) Wx (fe e)) args) σ H Q := by
        intro σ H Q ⟨γ, ρ, w, G, q⟩
        refine ⟨γ, ρ, w, G, Post.imp (Post.bind q) (fun x w1 h1 v H1 g1 x1 wk1 r1 => ?_) fun c w1 h1 => h1⟩
        obtain ⟨hi, h1⟩ := h1.guard
        unfold isIns at hi
        split at hi
        · rename_i kh hk
          split at hi
          · rename_i fs hfs
            obtain ⟨a, dx, fvs, rfl, ea, eO, eH, fr⟩ := ins_rep O.hi wk1.rel r1 hk hfs
            refine ⟨a, dx, fvs, rfl, eH, fr.non (by simpa using hi), ?_⟩
            refine list_read (k := maxK (args.map ke)) (nF := 0) (nT := 0) (fun e he => ⟨mem_max he, Nat.zero_le _, Nat.zero_le _⟩) (G.step x1 wk1) (h1.bind.imp (fun ds w2 h2 vs H2 g2 x2 wk2 r2 => ?_) fun c w2 h2 H' g' x wk => h2 H' g' (x1.trans x) wk)
            have x12 : CStep γ.g H g2 H2 := x1.trans x2
            refine ⟨g2, x :: ds, w2, wk2, .cons ((r1.stepO wk1 x2).mono fun j a p => p.2) (r2.mono fun j a p => p.2), h2.imp (fun d w3 h3 v H3 g3 x3 wk3 r3 => ?_) fun c w3 h3 H3 g3 K' x3 wk3 hK => ?_⟩
            · refine h3 v H3 g3 (x12.trans x3) wk3 (r3.mono fun j a p => ?_)
              exact ⟨(G.newP x12 wk2 p.1 _ _ _ _).1, p.2⟩
            · exact ⟨rfl, c, K', hK, rfl, h3 H3 g3 (x12.trans x3) wk3⟩
          · cases hi
        · cases hi
      cases args with
      | nil => exact imE (pe_meth0SD ho c1 c2 F hr hb (fun σ => passAt K.tk σ) (htr _)) rd
      | cons e es =>
        have hs' := hs
        simp only [List.all_cons, Bool.and_eq_true] at hs'
        exact imE (pe_methSD ho c1 c2 F hr hb (fun σ => passAt K.tk σ) (pa_list hs h) (star_cons hs'.1) (star_none hs'.2) (htr _)) rd
    | _ => cases hn
theorem getLast_get {α : Type} {xs : List α} {d : α} (h : xs.getLast? = some d) : xs[xs.length - 1]? = some d := by
  rw [List.getLast?_eq_getElem?] at h; exact h
theorem Hlo.put' {hl : W → Nat → Option (List D)} {hpp : W → Nat → List D → W} (K : Hlo Z ce hl hpp) {g : Gh} {H : Hp} {w : W} {k : Nat} {ds ds' : List D} {a : Addr} {vs' : List V} (wk : WOk Z g H w) (e : hl w k = some ds) (ea : g.hs[k]? = some a) (hlen : vs'.length ≤ sizeLine) (r : Reps ce g.hs H (fun _ _ => False) vs' ds') :
    CStep g H g (upd H a (.lst vs')) ∧ WOk Z g (upd H a (.lst vs')) (hpp w k ds') := by
  obtain ⟨a', vs, e1, e2, e3, e4, e5⟩ := K.get wk.rel e
  rw [ea] at e1
  cases e1
  refine ⟨⟨fun b o hb eb => by rw [upd_ne (show b ≠ a from fun z => hb (z ▸ e2))]; exact eb, fun _ h => h, fun _ h => .inl h, fun _ _ h => h⟩, K.put wk.rel e ea hlen r, fun b hb => ?_, fun b hb o eb => ?_⟩
  · by_cases z : b = a
    · rw [z, upd_same]; exact fun q => nomatch q
    · rw [upd_ne z]; exact wk.dom b hb
  · by_cases z : b = a
    · rw [z, upd_same] at eb; cases eb; exact fun t => t
    · rw [upd_ne z] at eb; exact wk.mu b hb o eb
theorem le_pop (K : Cok Z ce C X sc Wx) {o : Expr} {nm : Str} {ap cp : Pos} {fo : Rho → W → Res W D} {ko Fo To k nF nT : Nat} (ho : PE X o (tE Z ce own ko Fo To Wx fo)) :
    PE X (.Call (.Attribute o nm ap) [] [] cp) (tE Z ce own k nF nT Wx fun ρ w => guardR ((ap.endLine == cp.line) && noCall o && decide (nm = "pop")) ((fo ρ w).bind fun l w => popH C w l)) := by
  generalize hgd : ((ap.endLine == cp.line) && noCall o && decide (nm = "pop")) = gd
  cases gd with
  | false => exact le_none fun _ _ => rfl
  | true =>
    simp only [Bool.and_eq_true, decide_eq_true_eq] at hgd
    obtain ⟨⟨h1, h2⟩, rfl⟩ := hgd
    refine imE (pe_bm0 PySem.F.plainAttrs_list PySem.F.slot_list_pop PySem.F.type_list_pop mt_pop ho (base_ok h2) h1) fun σ H Q ⟨γ, ρ, w, G, q⟩ => ⟨γ, ρ, w, G, Post.imp (Post.bind q) (fun l w1 h1 v H1 g1 x1 wk1 r1 => ?_) fun c w1 h1 => h1⟩
    unfold popH at h1
    split at h1
    · rename_i kk hk
      split at h1
      · rename_i ds hds
        split at h1
        · rename_i d hd
          obtain ⟨a, rfl, ea⟩ := hdlOf_rep r1 hk
          obtain ⟨a', vs, e1, e2, e3, e4, e5⟩ := K.hh.get wk1.rel hds
          rw [ea] at e1
          cases e1
          obtain ⟨y, ey, ry⟩ := e5.get (getLast_get hd)
          refine ⟨.inl ⟨rfl, _, SqL.of e3⟩, a, vs, y, rfl, rfl, e3, by rw [e5.length]; exact ey, ?_⟩
          obtain ⟨y1, y2⟩ := K.hh.put' wk1 hds ea (vs' := vs.dropLast) (ds' := ds.dropLast) (by rw [List.length_dropLast]; omega) e5.dropLast
          exact h1 y _ g1 (x1.trans y1) y2 (ry.go (fun _ _ _ z => z.elim) (fun b o t e => y1.keepT wk1 t e) fun _ _ e => e)
        · exact h1.elim
      · exact h1.elim
    · exact h1.elim
theorem le_make (K : Cok Z ce C X sc Wx) {x : Str} {p : Pos} {a : Expr} {es : List Expr} {g : List D → W → Res W D} {fe : Expr → Rho → W → Res W D} {ke Fe Te : Expr → Nat} {k nF nT : Nat} (hx : isGlo sc x = true) (hs : (a :: es).all notStar = true) (hg : lookD C.io.mkr x = some g)
    (h : ∀ e ∈ a :: es, PE X e (tE Z ce own (ke e) (Fe e) (Te e) Wx (fe e))) :
    PE X (.Call (.Name x p) (a :: es) [] pos) (tE Z ce own k nF nT Wx fun ρ w => (trav (fun e w => fe e ρ w) (a :: es) w).bind (makeR C g)) := by
  obtain ⟨cw, O⟩ := K.io
  obtain ⟨kk, f, fd, ps, M, hm, F, hr, hb⟩ := O.mkr x g hg
  obtain ⟨gl, okn⟩ := isGlo_ok K.sc_ hx
  have hs' := hs
  simp only [List.all_cons, Bool.and_eq_true] at hs'
  refine imE (pe_makeSD M F hr gl hm hb (fun σ => passAt K.tk σ) (pa_list hs h) (okName_d okn).1 (star_cons hs'.1) (star_none hs'.2)) fun σ H Q ⟨γ, ρ, w, G, q⟩ => ?_
  refine list_read (k := maxK ((a :: es).map ke)) (nF := 0) (nT := 0) (fun e he => ⟨mem_max he, Nat.zero_le _, Nat.zero_le _⟩) G (q.bind.imp (fun ds w1 h1 vs H1 g1 x1 wk1 r1 => ?_) fun c w1 h1 => h1)
  intro xa dx nx nd ne
  have ext : HExt H1 (upd (upd H1 dx (.own xa)) xa (.ins cw dx [])) := by
    refine (HExt.upd nd).trans (HExt.upd ?_)
    rw [upd_ne (Ne.symm ne)]; exact nx
  have wk2 := wk1.ext ext
  obtain ⟨g2, x2, wk3, e3⟩ := O.hi.newI (CStep.ext (g := g1) ext) wk2 upd_same nx (fun z => wk1.dom _ z nx)
  have x12 : CStep γ.g H g2 _ := x1.trans x2
  unfold makeR at h1
  have r2 := Reps.stepO (P := fun _ _ => True) (r1.mono fun j a p => ⟨trivial, p.2⟩) wk1 x2
  refine ⟨g2, _, _, wk3, .cons (.hdl e3) (r2.mono fun j a p => p.2), h1.bind.imp (fun d w3 h3 v H3 g3 x3 wk4 r3 => ?_) fun c w3 h3 H3 g3 K' x3 wk4 hK => ?_⟩
  · cases d with
    | none =>
      cases r3
      exact ⟨rfl, h3 _ H3 g3 (x12.trans x3) wk4 (.hdl (x3.hs _ _ e3))⟩
    | _ => exact h3.elim
  · exact ⟨rfl, c, K', hK, rfl, h3 H3 g3 (x12.trans x3) wk4⟩
def rLen (C : Addr) (sp : Sp) : List V → Hp → VK → Prop := fun xs H Q => ∃ a dx fs, xs = [.ref a] ∧ H a = some (.ins C dx fs) ∧ sp [.ref a] H (fun v H' => ∃ n : Nat, v = .int n ∧ n ≤ sizeLine ∧ Q (.int n) H') fun _ _ _ => False
/-- len(name), an instance or not -/
theorem le_len (K : Cok Z ce C X sc Wx) {h : List D → W → Res W D} (hln : C.io.ln = some h) {e a : Expr} {p pos : Pos} {g : List D → Option D} {fe : Expr → Rho → W → Res W D} {ke Fe Te : Expr → Nat} {k nF nT : Nat} (he : e = .Call (.Name "len" p) [a] [] pos) (hgl : isGlo sc "len" = true) (hs : notStar a = true)
    (hpe : PE X e (tCB (rPl ce g) (tList (fun e => tE Z ce own (ke e) (Fe e) (Te e) Wx (fe e)) [a]))) (ha : PE X a (tE Z ce own (ke a) (Fe a) (Te a) Wx (fe a))) :
    PE X e (tE Z ce own k nF nT Wx fun ρ w => (trav (fun e w => fe e ρ w) [a] w).bind fun ds w => (match isLenE e && insOf C w ds with
        | true => lenR (h ds w)
        | false => lift (g (ds.map (deref C w))) w)) := by
  obtain ⟨cw, O⟩ := K.io
  obtain ⟨kk, f, fd, ps, c1, c2, F, hr, hb⟩ := O.len h hln
  obtain ⟨gl, okn⟩ := isGlo_ok K.sc_ hgl
  have hown : PE X e (tCB (rLen cw (spOf Z ce h)) (tCons (tE Z ce own (ke a) (Fe a) (Te a) Wx (fe a)) tNil)) := by
    rw [he]
    exact pe_callB (call_len_own c1 c2 F hr hb) gl (K.bi _ (by decide)) PySem.boot_len (pa_cons ha pa_nil (star_cons hs)) (by decide) (by decide) (star_cons hs) rfl
  have hold := le_pl (k := k) (nF := nF) (nT := nT) K.hh hpe
  refine imE (PE_or hown hold) fun σ H Q ⟨γ, ρ, w, G, q⟩ => ?_
  cases hq : trav (fun e w => fe e ρ w) [a] w with
  | no => dsimp only at q; rw [hq] at q; exact q.elim
  | ex c w1 => dsimp only at q; rw [hq] at q; exact .inr ⟨γ, ρ, w, G, by dsimp only; rw [hq]; exact q⟩
  | ok ds w1 =>
    cases hi : (isLenE e && insOf C w1 ds) with
    | false =>
      refine .inr ⟨γ, ρ, w, G, ?_⟩
      dsimp only at q ⊢
      rw [hq] at q ⊢
      have q : Post (match isLenE e && insOf C w1 ds with
        | true => lenR (h ds w1)
        | false => lift (g (ds.map (deref C w1))) w1) _ _ := q
      rw [hi] at q
      exact q
    | true =>
      refine .inl ⟨γ, ρ, w, G, ?_⟩
      have q0 : Post ((trav (fun e w => fe e ρ w) [a] w).bind fun ds w => (match isLenE e && insOf C w ds with
        | true => lenR (h ds w)
        | false => lift (g (ds.map (deref C w))) w)) _ _ := q
      have q1 : Post ((fe a ρ w).bind fun d w => (match isLenE e && insOf C w [d] with
        | true => lenR (h [d] w)
        | false => lift (g ([d].map (deref C w))) w)) (okE Z ce k nF nT γ H Q) (exE Z γ H Wx σ) := by
        have e1 : ((trav (fun e w => fe e ρ w) [a] w).bind fun ds w => (match isLenE e && insOf C w ds with
          | true => lenR (h ds w)
          | false => lift (g (ds.map (deref C w))) w)) = ((fe a ρ w).bind fun d w => (match isLenE e && insOf C w [d] with
          | true => lenR (h [d] w)
          | false => lift (g ([d].map (deref C w))) w)) := by
          unfold trav trav
          cases fe a ρ w <;> rfl
        rw [← e1]; exact q0
      have hds : ∃ d, fe a ρ w = .ok d w1 ∧ ds = [d] := by
        unfold trav trav at hq
        cases hfa : fe a ρ w with
        | no => rw [hfa] at hq; cases hq
        | ex c w1 => rw [hfa] at hq; cases hq
        | ok d w2 => rw [hfa] at hq; cases hq; exact ⟨d, rfl, rfl⟩
      obtain ⟨d, hfa, rfl⟩ := hds
      rw [hfa] at q1 ⊢
      have q1 : Post (match isLenE e && insOf C w1 [d] with
        | true => lenR (h [d] w1)
        | false => lift (g ([d].map (deref C w1))) w1) (okE Z ce k nF nT γ H Q) (exE Z γ H Wx σ) := q1
      rw [hi] at q1
      intro v H1 g1 x1 wk1 r1
      have hi2 : isIns C w1 d "__len__" = true := (Bool.and_eq_true_iff.mp hi).2
      unfold isIns at hi2
      split at hi2
      · rename_i kh hk
        split at hi2
        · rename_i fs hfs
          obtain ⟨aa, dx, fvs, rfl, ea, eO, eH, fr⟩ := ins_rep O.hi wk1.rel r1 hk hfs
          refine ⟨aa, dx, fvs, rfl, eH, g1, [d], w1, wk1, .cons (r1.mono fun j a p => p.2) .nil, ?_⟩
          cases hh : h [d] w1 with
          | no => rw [hh] at q1; exact q1.elim
          | ex c w2 => rw [hh] at q1; exact q1.elim
          | ok d2 w2 =>
            rw [hh] at q1
            obtain ⟨hd2, q2⟩ := Post.guard q1
            intro v H2 g2 x2 wk2 r2
            cases d2 with
            | int i =>
              simp only [lenD, Bool.and_eq_true, decide_eq_true_eq] at hd2
              cases r2
              have ei : i = ((i.toNat : Nat) : Int) := by omega
              refine ⟨i.toNat, by rw [← ei], by rw [sizeLine_eq]; omega, ?_⟩
              rw [← ei]
              exact q2 _ H2 g2 (x1.trans x2) wk2 (.int _)
            | _ => cases hd2
        · cases hi2
      · cases hi2
end
end T
namespace T
open PySem PySem.Spec PyProof.Rows L2
section
variable {W : Type} {Z : Wd W} {ce : Str → Option Addr} {own : List Nat} {X : Cx} {Wx : Str → L2.St → Hp → Prop} {pos : Pos}
/-- the walk of zip(range(n), range(m)) -/
def ItzR (n m : Nat) : It := ⟨fun i _ => i < n ∧ i < m, fun i H v H' => ∃ T, ∃ o : Obj, v = .ref T ∧ H T = none ∧ o.dict = none ∧ H' = upd H T (.frz o (.tup [.int (i : Nat), .int (i : Nat)])), fun i _ => i ≤ n ∧ i ≤ m ∧ (i = n ∨ i = m)⟩
def iZr (ta tb : TE) : TI := fun σ H R => ta σ H fun v H1 => ∃ n : Int, v = .int n ∧ small n = true ∧ tb σ H1 fun u H2 => ∃ m : Int, u = .int m ∧ small m = true ∧ R (ItzR n.toNat m.toNat) H2
def Zip3Ok (ce : Str → Option Addr) : Prop := ∀ (X : Cx) (sc : Scope), Bok X sc → Gl X "zip" → Gl X "range" → ∀ (x y : Str) (px py p p1 p2 q1 q2 pos tpos : Pos) (elts : List Expr) (kk : Nat) (ta tb : TE), PE X (.Name x px) ta → PE X (.Name y py) tb →
  PI X (.Tuple elts kk tpos) (.Call (.Name "zip" p) [.Call (.Name "range" p1) [.Name x px] [] q1, .Call (.Name "range" p2) [.Name y py] [] q2] [] pos) (iZr ta tb)
/-- names are read, nothing else -/
def NmOk {W : Type} (fe : Expr → Rho → W → Res W D) : Prop := ∀ x p ρ, (∀ w, fe (.Name x p) ρ w = .no) ∨ ∃ d, ∀ w, fe (.Name x p) ρ w = .ok d w
section
variable {sc : Scope} {te : Expr → TE} {a b c tg : Expr} {p : Pos} (B : Bok X sc) (hm : MonoE te)
include B hm
theorem pi_rg1 (hg : Gl X "range") (hs : [a].all notStar = true) (h : ∀ e ∈ [a], PE X e (te e)) : PI X tg (.Call (.Name "range" p) [a] [] pos) (iIt ce rg1 (tList te [a])) := by
  have hs' : notStar a = true := by simpa using hs
  refine imI (pi_range1 hg (B.bi _ (by decide +kernel)) (pa_list hs h) (star_cons hs')) fun σ H R q => TA_mono hm (fun vs H1 ⟨hs, P, ds, items, r, e, k⟩ => ?_) q
  unfold rg1 at e
  split at e
  · split at e
    · rename_i j hj
      cases e
      have := small_bd hj
      cases r with
      | cons r1 r2 =>
        cases r1
        cases r2
        exact ⟨j, rfl, by omega, by omega, k _ ylds_range (by rw [rangeL_len, sizeLine_eq]; omega)⟩
    · cases e
  · cases e
theorem pi_rg2 (hg : Gl X "range") (hs : [a, b].all notStar = true) (h : ∀ e ∈ [a, b], PE X e (te e)) : PI X tg (.Call (.Name "range" p) [a, b] [] pos) (iIt ce rg2 (tList te [a, b])) := by
  have hs' : notStar a = true ∧ notStar b = true := by simpa using hs
  refine imI (pi_range2 hg (B.bi _ (by decide +kernel)) (pa_list hs h) (by rw [star_cons hs'.1, star_cons hs'.2]; rfl) (by rw [star_cons hs'.2]; rfl)) fun σ H R q => TA_mono hm (fun vs H1 ⟨hs, P, ds, items, r, e, k⟩ => ?_) q
  unfold rg2 at e
  split at e
  · split at e
    · rename_i i j hj
      cases e
      obtain ⟨s1, s2⟩ := Bool.and_eq_true_iff.mp hj
      have := small_bd s1
      have := small_bd s2
      cases r with
      | cons r1 r2 =>
        cases r1
        cases r2 with
        | cons r2 r3 =>
          cases r2
          cases r3
          exact ⟨i, j, rfl, ⟨by omega, by omega, by omega, by omega⟩, k _ ylds_range (by rw [rangeL_len, sizeLine_eq]; omega)⟩
    · cases e
  · cases e
theorem pi_rg3 (hg : Gl X "range") (hs : [a, b, c].all notStar = true) (h : ∀ e ∈ [a, b, c], PE X e (te e)) : PI X tg (.Call (.Name "range" p) [a, b, c] [] pos) (iIt ce rg3 (tList te [a, b, c])) := by
  have hs' : notStar a = true ∧ notStar b = true ∧ notStar c = true := by simpa using hs
  refine imI (pi_range3 hg (B.bi _ (by decide +kernel)) (pa_list hs h) (star_cons hs'.1) (by simpa using star_none (by simpa using hs'.2))) fun σ H R q => TA_mono hm (fun vs H1 ⟨hs, P, ds, items, r, e, k⟩ => ?_) q
  unfold rg3 at e
  split at e
  · split at e
    · rename_i i j c hj
      cases e
      obtain ⟨s1, s3⟩ := Bool.and_eq_true_iff.mp hj
      obtain ⟨s1, s2⟩ := Bool.and_eq_true_iff.mp s1
      have s3 := of_decide_eq_true s3
      subst s3
      have := small_bd s1
      have := small_bd s2
      cases r with
      | cons r1 r2 =>
        cases r1
        cases r2 with
        | cons r2 r3 =>
          cases r2
          cases r3 with
          | cons r3 r4 =>
            cases r3
            cases r4
            exact ⟨i, j, -1, (i - j).toNat, rfl, RgC.neg (by omega) (by omega) (by omega) (by omega), k _ ylds_down (by rw [downL_len, sizeLine_eq]; omega)⟩
    · cases e
  · cases e
end
/-- what a loop walks -/
def tI (Z : Wd W) (ce : Str → Option Addr) (own : List Nat) (ke : Expr → Nat) (Wx : Str → L2.St → Hp → Prop) (fe : Expr → Rho → W → Res W D) (ig : List Expr × (List D → Option (List D))) : TI := fun σ H R => ∃ γ ρ w, Good Z ce own γ σ H ρ w ∧
  Post (trav (fun e w => fe e ρ w) ig.1 w) (fun ds w1 => ∃ items, ig.2 ds = some items ∧ ∀ vs H1 g1, CStep γ.g H g1 H1 → WOk Z g1 H1 w1 → Reps ce g1.hs H1 (PexO (maxK (ig.1.map ke)) 0 0 γ H g1) vs ds → ∀ J, Ylds ce J vs ds items → items.length ≤ sizeLine → R J H1) (exE Z γ H Wx σ)
theorem it_of {tg it : Expr} {es : List Expr} {g : List D → Option (List D)} {fe : Expr → Rho → W → Res W D} {ke Fe Te : Expr → Nat} (h : PI X tg it (iIt ce g (tList (fun e => tE Z ce own (ke e) (Fe e) (Te e) Wx (fe e)) es))) : PI X tg it (tI Z ce own ke Wx fe (es, g)) :=
  imI h fun σ H R ⟨γ, ρ, w, G, q⟩ => list_read (k := maxK (es.map ke)) (nF := 0) (nT := 0) (fun e he => ⟨mem_max he, Nat.zero_le _, Nat.zero_le _⟩) G (q.imp (fun ds w1 ⟨items, ei, h1⟩ vs H1 g1 x1 wk1 r1 => ⟨_, _, ds, items, r1, ei, fun J y n => h1 vs H1 g1 x1 wk1 r1 J y n⟩) fun c w1 h1 => h1)
theorem ylds_str {x : Str} : Ylds ce (Its x) [.str x] [.str x] (x.cps.toList.map fun c => .str ⟨#[c]⟩) := fun hs P H r => by
  refine ⟨fun i d e => ?_, ?_⟩
  · rw [List.getElem?_map] at e
    obtain ⟨c, hc, rfl⟩ := Option.map_eq_some_iff.mp e
    rw [Array.getElem?_toList] at hc
    obtain ⟨hi, _⟩ := Array.getElem?_eq_some_iff.mp hc
    refine ⟨hi, fun v H' ⟨z1, c', hc', z2⟩ => ?_⟩
    subst z1 z2
    rw [hc] at hc'
    cases hc'
    exact ⟨HExt.refl, .str _⟩
  · show x.cps.size ≤ (x.cps.toList.map _).length
    rw [List.length_map, Array.length_toList]
    exact Nat.le_refl _
theorem it_dflt {tg it : Expr} {fe : Expr → Rho → W → Res W D} {ke Fe Te : Expr → Nat} (h : PE X it (tE Z ce own (ke it) (Fe it) (Te it) Wx (fe it))) : PI X tg it (tI Z ce own ke Wx fe ([it], it1)) := by
  refine imI (PI_or (PI_or (pi_list h) (pi_tup h)) (pi_str h)) fun σ H R ⟨γ, ρ, w, G, q⟩ => ?_
  have q := Post.bind (r := fe it ρ w) q
  cases e : fe it ρ w with
  | no => rw [e] at q; exact q.elim
  | ex c w1 =>
    rw [e] at q
    exact .inl (.inl ⟨γ, ρ, w, G, by rw [e]; exact q⟩)
  | ok d w1 =>
    rw [e] at q
    obtain ⟨items, ei, h1⟩ := q
    have hw : ∀ {j : Nat} {a : Addr} {g1 : Gh}, PexO (ke it) (Fe it) (Te it) γ H g1 j a → PexO (maxK (([it] : List Expr).map ke)) 0 0 γ H g1 j a := fun p => ⟨p.1.weak (mem_max List.mem_cons_self) (Nat.zero_le _) (Nat.zero_le _), p.2⟩
    cases d with
    | list ds =>
      cases ei
      refine .inl (.inl ⟨γ, ρ, w, G, ?_⟩)
      rw [e]
      intro v H1 g1 x1 wk1 r1
      cases id r1 with
      | lst e1 n1 p1 q1 => exact ⟨_, rfl, ⟨_, SqL.of e1⟩, h1 _ H1 g1 x1 wk1 (.one (r1.mono fun j a p => hw p)) _ ylds_list (by rw [← q1.length]; exact n1)⟩
    | tuple ds =>
      cases ei
      refine .inl (.inr ⟨γ, ρ, w, G, ?_⟩)
      rw [e]
      intro v H1 g1 x1 wk1 r1
      cases id r1 with
      | tup e1 n1 q1 => exact ⟨_, rfl, ⟨_, e1.sq⟩, h1 _ H1 g1 x1 wk1 (.one (r1.mono fun j a p => hw p)) _ ylds_tup (by rw [← q1.length]; exact n1)⟩
    | str x =>
      have ei : (if lenOk x.length then some (x.cps.toList.map fun c => (.str ⟨#[c]⟩ : D)) else none) = some items := ei
      split at ei
      · rename_i hl
        cases ei
        refine .inr ⟨γ, ρ, w, G, ?_⟩
        rw [e]
        intro v H1 g1 x1 wk1 r1
        cases id r1 with
        | str => exact ⟨_, rfl, h1 _ H1 g1 x1 wk1 (.one (r1.mono fun j a p => hw p)) _ ylds_str (by rw [List.length_map, Array.length_toList]; exact line_le hl)⟩
      · cases ei
    | _ => cases ei
theorem zr_get {n m i : Nat} {d : D} (h : (zip2 (rangeL 0 n) (rangeL 0 m))[i]? = some d) : i < n ∧ i < m ∧ d = .tuple [.int (i : Nat), .int (i : Nat)] := by
  have go : ∀ (n m : Nat) (lo : Int) (i : Nat) (d : D), (zip2 (rangeL lo n) (rangeL lo m))[i]? = some d → i < n ∧ i < m ∧ d = .tuple [.int (lo + i), .int (lo + i)] := by
    intro n
    induction n with
    | zero => intro m lo i d h; simp [rangeL, zip2] at h
    | succ n ih =>
      intro m lo i d h
      cases m with
      | zero => simp [rangeL, zip2] at h
      | succ m =>
        cases i with
        | zero => simp [rangeL, zip2] at h; refine ⟨by omega, by omega, ?_⟩; rw [← h]; simp
        | succ i =>
          obtain ⟨a, b, c⟩ := ih m (lo + 1) i d (by simpa [rangeL, zip2] using h)
          refine ⟨by omega, by omega, ?_⟩
          rw [c, show lo + 1 + (i : Int) = lo + ((i + 1 : Nat) : Int) by omega]
  obtain ⟨a, b, c⟩ := go n m 0 i d h
  exact ⟨a, b, by rw [c]; simp⟩
theorem ylds_zr {n m : Int} : Ylds ce (ItzR n.toNat m.toNat) [.int n, .int m] [.int n, .int m] (zip2 (rangeL 0 n.toNat) (rangeL 0 m.toNat)) := fun hs P H r => by
  refine ⟨fun i d e => ?_, ?_⟩
  · obtain ⟨h1, h2, rfl⟩ := zr_get e
    refine ⟨⟨h1, h2⟩, fun x H' ⟨T, o, e1, e2, e4, e3⟩ => ?_⟩
    subst e1 e3
    exact ⟨HExt.upd e2, Rep.newT (.cons (.int _) (.cons (.int _) .nil)) e2 e4 (by show 2 ≤ sizeLine; rw [sizeLine_eq]; decide)⟩
  · show _ ∧ _ ∧ _
    rw [zip2_len, rangeL_len, rangeL_len]
    omega
theorem zr2_some {d1 d2 : D} {items : List D} (h : zr2 [d1, d2] = some items) : ∃ n m : Int, d1 = .int n ∧ d2 = .int m ∧ small n = true ∧ small m = true ∧ items = zip2 (rangeL 0 n.toNat) (rangeL 0 m.toNat) := by
  cases d1 with
  | int n =>
    cases d2 with
    | int m =>
      have h : (if small n && small m then some (zip2 (rangeL 0 n.toNat) (rangeL 0 m.toNat)) else none) = some items := h
      cases hs : small n && small m with
      | true =>
        rw [hs] at h
        obtain ⟨s1, s2⟩ := Bool.and_eq_true_iff.mp hs
        exact ⟨n, m, rfl, rfl, s1, s2, (Option.some.inj h).symm⟩
      | false => rw [hs] at h; cases h
    | _ => cases h
  | _ => cases h
theorem rgN_form {sc : Scope} {e : Expr} (h : rgN sc e = true) : ∃ p1 x px q1, e = .Call (.Name "range" p1) [.Name x px] [] q1 ∧ isGlo sc "range" = true := by
  unfold rgN at h
  split at h
  · rename_i y p1 x px q1
    obtain ⟨h1, h2⟩ := Bool.and_eq_true_iff.mp h
    have h2 := of_decide_eq_true h2
    subst h2
    exact ⟨p1, x, px, q1, rfl, h1⟩
  · cases h
theorem it_ok (h3 : Zip3Ok ce) {C : Cfg W} {sc : Scope} (K : Cok Z ce C X sc Wx) {fe : Expr → Rho → W → Res W D} (hn : NmOk fe) {ke Fe Te : Expr → Nat} (h : ∀ e, PE X e (tE Z ce own (ke e) (Fe e) (Te e) Wx (fe e))) (tg it : Expr) (hs : (itPl sc tg it).1.all notStar = true) : PI X tg it (tI Z ce own ke Wx fe (itPl sc tg it)) := by
  have hm : MonoE (fun e => tE Z ce own (ke e) (Fe e) (Te e) Wx (fe e)) := fun e σ H Q Q' k q => tE_mono k q
  have hd : PI X tg it (tI Z ce own ke Wx fe ([it], it1)) := it_dflt (Fe := Fe) (Te := Te) (h it)
  have key : ∀ r, itPl sc tg it = r → PI X tg it (tI Z ce own ke Wx fe r) := by
    intro r hr
    have hs2 : r.1.all notStar = true := by rw [← hr]; exact hs
    unfold itPl at hr
    split at hr
    · rename_i x p args pos'
      split at hr
      · rename_i hx
        obtain ⟨gl, okn⟩ := isGlo_ok K.sc_ hx
        split at hr
        · rename_i a e1
          have ex := of_decide_eq_true e1
          subst ex hr
          exact it_of (pi_rg1 K.toBok hm gl hs2 fun e _ => h e)
        · rename_i a b e1
          have ex := of_decide_eq_true e1
          subst ex hr
          exact it_of (pi_rg2 K.toBok hm gl hs2 fun e _ => h e)
        · rename_i a b c e1
          have ex := of_decide_eq_true e1
          subst ex hr
          exact it_of (pi_rg3 K.toBok hm gl hs2 fun e _ => h e)
        · split at hr
          · have e0 : isTupE tg = true := by assumption
            have ex : x = "zip" := of_decide_eq_true (by assumption)
            subst ex
            cases tg with
            | Tuple elts kk tp =>
              split at hr
              · rename_i hrg
                subst hr
                obtain ⟨r1, r2⟩ := Bool.and_eq_true_iff.mp hrg
                obtain ⟨p1, x, px, q1, rfl, hg1⟩ := rgN_form r1
                obtain ⟨p2, y, py, q2, rfl, _⟩ := rgN_form r2
                refine imI (h3 X sc K.toBok gl (isGlo_ok K.sc_ hg1).1 x y px py _ p1 p2 q1 q2 _ _ _ _ _ _ (h (.Name x px)) (h (.Name y py))) fun σ H R ⟨γ, ρ, w, G, q⟩ => ?_
                have q := Post.bind (r := fe (.Name x px) ρ w) q
                rcases hn x px ρ with hx | ⟨d1, hx⟩
                · rw [hx] at q; exact q.elim
                · rw [hx] at q
                  have q := Post.bind (r := (trav (fun e w => fe e ρ w) [.Name y py] w)) q
                  have q := Post.bind (r := fe (.Name y py) ρ w) q
                  rcases hn y py ρ with hy | ⟨d2, hy⟩
                  · rw [hy] at q; exact q.elim
                  · rw [hy] at q
                    obtain ⟨items, ei, h1⟩ := q
                    obtain ⟨n, m, rfl, rfl, s1, s2, rfl⟩ := zr2_some (show zr2 [d1, d2] = some items from ei)
                    have b1 := small_bd s1
                    refine ⟨γ, ρ, w, G, ?_⟩
                    rw [hx]
                    intro v H1 g1 x1 wk1 r1
                    cases r1
                    refine ⟨n, rfl, s1, γ.step g1, ρ, w, G.step x1 wk1, ?_⟩
                    rw [hy]
                    intro u H2 g2 x2 wk2 r2
                    cases r2
                    exact ⟨m, rfl, s2, h1 [.int n, .int m] H2 g2 (x1.trans x2) wk2 (.cons (.int _) (.cons (.int _) .nil)) _ ylds_zr (by rw [zip2_len, rangeL_len, rangeL_len, sizeLine_eq]; omega)⟩
              · subst hr; exact hd
            | _ => cases e0
          · subst hr; exact hd
      · subst hr; exact hd
    · subst hr; exact hd
  exact key _ rfl
/-! ### what a comprehension walks: a changing list too, as long as nothing changes -/
def YldsW (Z : Wd W) (ce : Str → Option Addr) (St : W → Prop) (J : It) (vs : List V) (ds items : List D) : Prop := ∀ (g : Gh) (P : Pd) (H : Hp) (w : W), Z.rel g H w → St w → Reps ce g.hs H P vs ds →
  (∀ (i : Nat) (d : D), items[i]? = some d → J.go i H ∧ ∀ x H', J.yld i H x H' → HExt H H' ∧ Rep ce g.hs H' (fun _ a => ∃ j, 1 ≤ j ∧ P j a) x d) ∧ J.stop items.length H
theorem Ylds.w {St : W → Prop} {J : It} {vs : List V} {ds items : List D} (y : Ylds ce J vs ds items) : YldsW Z ce St J vs ds items := fun g P H w _ _ r => y g.hs P H r
def tIW (Z : Wd W) (ce : Str → Option Addr) (own : List Nat) (ke : Expr → Nat) (Wx : Str → L2.St → Hp → Prop) (fe : Expr → Rho → W → Res W D) (C : Cfg W) (it : Expr) (ig : List Expr × (List D → Option (List D))) : TI := fun σ H R => ∃ γ ρ w, Good Z ce own γ σ H ρ w ∧
  Post (trav (fun e w => fe e ρ w) ig.1 w) (fun ds w1 => ∃ items, ig.2 (drI C w1 it ds) = some items ∧ ∀ vs H1 g1, CStep γ.g H g1 H1 → WOk Z g1 H1 w1 → Reps ce g1.hs H1 (PexO (maxK (ig.1.map ke)) 0 0 γ H g1) vs ds → ∀ J, YldsW Z ce (fun w => isAtE it = true → w = w1) J vs ds items → items.length ≤ sizeLine → R J H1) (exE Z γ H Wx σ)
theorem ylds_hdl {C : Cfg W} (hh : Hlo Z ce C.hl C.hp) {F : PySem.W.Frag} {a : Addr} {d : D} {w1 : W} {k : Nat} {xs : List D} (hk : hdlOf d = some k) (hx : C.hl w1 k = some xs) : YldsW Z ce (fun w => w = w1) (Itl F a) [.ref a] [d] xs := fun g P H w rl hw r => by
  subst hw
  cases r with
  | cons r1 _ =>
    obtain ⟨a', e0, ea⟩ := hdlOf_rep r1 hk
    cases e0
    obtain ⟨a2, us, e1, e2, e3, e4, e5⟩ := hh.get rl hx
    rw [ea] at e1
    cases e1
    refine ⟨fun i d e => ?_, _, SqL.of e3, Nat.le_of_eq e5.length⟩
    obtain ⟨v, hv, rv⟩ := e5.get e
    refine ⟨⟨_, v, SqL.of e3, hv⟩, fun x H' ⟨z1, z2⟩ => ?_⟩
    subst z1
    have := z2 _ (SqL.of e3)
    rw [hv] at this
    cases this
    exact ⟨HExt.refl, rv.mono fun j b p => p.elim⟩
theorem it_okW (h3 : Zip3Ok ce) {C : Cfg W} {sc : Scope} (K : Cok Z ce C X sc Wx) {fe : Expr → Rho → W → Res W D} (hn : NmOk fe) {ke Fe Te : Expr → Nat} (h : ∀ e, PE X e (tE Z ce own (ke e) (Fe e) (Te e) Wx (fe e))) (tg it : Expr) (hs : (itPl sc tg it).1.all notStar = true) : PI X tg it (tIW Z ce own ke Wx fe C it (itPl sc tg it)) := by
  cases ha : isAtE it with
  | false =>
    refine imI (it_ok h3 K hn h tg it hs) fun σ H R ⟨γ, ρ, w, G, q⟩ => ⟨γ, ρ, w, G, q.imp (fun ds w1 ⟨items, ei, h1⟩ => ⟨items, ?_, fun vs H1 g1 x1 wk1 r1 J y n => h1 vs H1 g1 x1 wk1 r1 J y.w n⟩) fun c w1 h1 => h1⟩
    unfold drI at ei
    rw [ha] at ei
    exact ei
  | true =>
    cases it with
    | Attribute o fl p =>
      refine imI (pi_list (h (.Attribute o fl p))) fun σ H R ⟨γ, ρ, w, G, q⟩ => ⟨γ, ρ, w, G, ?_⟩
      have q : Post (trav (fun e w => fe e ρ w) [.Attribute o fl p] w) _ _ := q
      have q2 : Post (fe (.Attribute o fl p) ρ w) (fun d w1 => ∃ items, it1 [drL C w1 d] = some items ∧ ∀ vs H1 g1, CStep γ.g H g1 H1 → WOk Z g1 H1 w1 → Reps ce g1.hs H1 (PexO (maxK (([.Attribute o fl p] : List Expr).map ke)) 0 0 γ H g1) vs [d] → ∀ J, YldsW Z ce (fun w => isAtE (.Attribute o fl p) = true → w = w1) J vs [d] items → items.length ≤ sizeLine → R J H1) (exE Z γ H Wx σ) := by
        unfold trav trav at q
        exact (Post.bind q).imp (fun d w1 h1 => h1) fun c w1 h1 => h1
      refine q2.imp (fun d w1 ⟨items, ei, h1⟩ v H1 g1 x1 wk1 r1 => ?_) fun c w1 h1 => h1
      have ei : itemsOf (drL C w1 d) = some items := ei
      unfold drL at ei
      split at ei
      · rename_i k hk
        split at ei
        · rename_i xs hx
          cases ei
          obtain ⟨a, rfl, ea⟩ := hdlOf_rep r1 hk
          obtain ⟨a2, us, e1, e2, e3, e4, e5⟩ := K.hh.get wk1.rel hx
          rw [ea] at e1
          cases e1
          have hw : ∀ {j : Nat} {a : Addr} {g1 : Gh}, PexO (ke (.Attribute o fl p)) (Fe (.Attribute o fl p)) (Te (.Attribute o fl p)) γ H g1 j a → PexO (maxK (([.Attribute o fl p] : List Expr).map ke)) 0 0 γ H g1 j a := fun p => ⟨p.1.weak (mem_max List.mem_cons_self) (Nat.zero_le _) (Nat.zero_le _), p.2⟩
          refine ⟨_, rfl, ⟨_, SqL.of e3⟩, h1 _ H1 g1 x1 wk1 (.one (r1.mono fun j a p => hw p)) _ ?_ (by rw [← e5.length]; exact e4)⟩
          have := ylds_hdl (F := X.K) (a := a) K.hh hk hx
          exact fun g P H w rl hw r => this g P H w rl (hw rfl) r
        · cases ei
      · cases ei
    | _ => cases ha
end
end T
namespace T
open PySem PySem.Spec PyProof.Rows L2
/-! ### targets -/
def gNo : TG := fun _ _ _ _ => False
theorem pg_no {X : Cx} {tg : Expr} : PG X tg gNo := ⟨fun _ _ _ _ _ _ _ _ _ h => h.elim⟩
def gOf (K : PySem.W.Frag) (N : List Str) (sc : Scope) : Expr → TG
  | .Name x _ => (match wrSlot N sc x with
    | some i => gName i
    | none => gNo)
  | .Tuple [.Name x _, .Name y _] _ _ => (match wrSlot N sc x, wrSlot N sc y with
    | some i, some j => gTup K 2 (gCons (gName i) (gCons (gName j) gNil))
    | _, _ => gNo)
  | .Tuple [.Name x _, .Name y _, .Name z _] _ _ => (match wrSlot N sc x, wrSlot N sc y, wrSlot N sc z with
    | some i, some j, some k => gTup K 3 (gCons (gName i) (gCons (gName j) (gCons (gName k) gNil)))
    | _, _, _ => gNo)
  | _ => gNo
def setV (σ : L2.St) : List Nat → List V → L2.St
  | i :: is, v :: vs => setV (σ.set i (some v)) is vs
  | _, _ => σ
theorem pg_of {X : Cx} {N : List Str} {sc : Scope} (hN : X.N = N) (hnd : N.Nodup) (hc : X.calm = true) (hv : ∀ x i, wrSlot N sc x = some i → L2.Loc X.env.scope x ∧ (X.fn x = true ∨ X.env.scope.names.lookup x = some .local)) (tg : Expr) : PG X tg (gOf X.K N sc tg) := by
  have nm : ∀ {x : Str} {i : Nat} {p : Pos}, wrSlot N sc x = some i → PG X (.Name x p) (gName i) := fun {x i p} h =>
    pg_name (by rw [hN]; exact hnd) (by rw [hN]; exact (wrSlot_ok h).1) (hv x i h).1 (hv x i h).2
  unfold gOf
  split
  · split
    · exact nm (by assumption)
    · exact pg_no
  · split
    · exact pg_tup hc (pgs_cons (nm (by assumption)) (pgs_cons (nm (by assumption)) pgs_nil))
    · exact pg_no
  · split
    · exact pg_tup hc (pgs_cons (nm (by assumption)) (pgs_cons (nm (by assumption)) (pgs_cons (nm (by assumption)) pgs_nil)))
    · exact pg_no
  · exact pg_no
theorem asg_go {ce : Str → Option Addr} {hs : List Addr} {H : Hp} {P : Pd} {R : Addr → Prop} {K : PySem.W.Frag} {N : List Str} {sc : Scope} {tg : Expr} {v : V} {d : D} {ls : List (Nat × D)} {σ : L2.St} {Q : L2.St → Hp → Prop} (e : asgL N sc tg d = some ls) (r : Rep ce hs H P v d) (hP : ∀ j a, P j a → R a)
    (k : ∀ vs, Reps ce hs H (fun _ a => R a) vs (ls.map (·.2)) → Q (setV σ (ls.map (·.1)) vs) H) : gOf K N sc tg v σ H Q := by
  unfold asgL at e
  unfold gOf
  split at e
  · dsimp only
    split at e
    · rename_i h1
      cases e
      simp only [h1]
      exact k [v] (.one (r.mono hP))
    · cases e
  · dsimp only
    split at e
    · rename_i h1 h2
      cases e
      simp only [h1, h2]
      cases r with
      | tup e1 n1 r1 =>
        cases r1 with
        | cons a1 r1 =>
          cases r1 with
          | cons a2 r1 =>
            cases r1
            exact ⟨_, _, rfl, e1.sq, rfl, _, _, rfl, _, _, rfl, rfl, k [_, _] (.cons (a1.mono fun j a p => hP _ a p) (.one (a2.mono fun j a p => hP _ a p)))⟩
    · cases e
  · dsimp only
    split at e
    · rename_i h1 h2 h3
      cases e
      simp only [h1, h2, h3]
      cases r with
      | tup e1 n1 r1 =>
        cases r1 with
        | cons a1 r1 =>
          cases r1 with
          | cons a2 r1 =>
            cases r1 with
            | cons a3 r1 =>
              cases r1
              exact ⟨_, _, rfl, e1.sq, rfl, _, _, rfl, _, _, rfl, _, _, rfl, rfl, k [_, _, _] (.cons (a1.mono fun j a p => hP _ a p) (.cons (a2.mono fun j a p => hP _ a p) (.one (a3.mono fun j a p => hP _ a p))))⟩
    · cases e
  · cases e
theorem asg_slots {N : List Str} {sc : Scope} {tg : Expr} {d : D} {ls : List (Nat × D)} (e : asgL N sc tg d = some ls) : ∀ p ∈ ls, p.1 ∈ asgSlots N sc tg := by
  unfold asgL at e
  split at e
  · split at e
    · rename_i h1
      cases e
      intro p hp
      simp only [List.mem_cons, List.not_mem_nil, or_false] at hp
      rcases hp with rfl
      simp [asgSlots, h1]
    · cases e
  · split at e
    · rename_i h1 h2
      cases e
      intro p hp
      simp only [List.mem_cons, List.not_mem_nil, or_false] at hp
      rcases hp with rfl | rfl <;> simp [asgSlots, h1, h2]
    · cases e
  · split at e
    · rename_i h1 h2 h3
      cases e
      intro p hp
      simp only [List.mem_cons, List.not_mem_nil, or_false] at hp
      rcases hp with rfl | rfl | rfl <;> simp [asgSlots, h1, h2, h3]
    · cases e
  · cases e
/-! ### the frame's state changed -/
section
variable {W : Type} {Z : Wd W} {ce : Str → Option Addr} {own : List Nat} {γ : GP} {σ : L2.St} {H : Hp} {ρ : Rho} {w : W}
theorem Good.set1 (G : Good Z ce own γ σ H ρ w) {i : Nat} {v : V} {d : D} (hi : ownK (ownAt own i) = .sh) (r : Rep ce γ.g.hs H (fun _ a => a ∉ γ.L) v d) : Good Z ce own γ (σ.set i (some v)) H (ρ.set i (some d)) w :=
  ⟨G.wok, G.st0, G.omV, G.vL, G.dom, G.tp, G.dis, by rw [List.length_set, List.length_set]; exact G.len, fun j e h => by
    by_cases hj : i = j
    · subst hj
      by_cases hl : i < ρ.length
      · rw [List.getElem?_set_self hl] at h
        cases h
        refine ⟨v, List.getElem?_set_self (by rw [← G.len]; exact hl), ?_⟩
        rw [hi]
        exact r
      · rw [List.getElem?_eq_none (by rw [List.length_set]; omega)] at h
        cases h
    · rw [List.getElem?_set_ne hj] at h ⊢
      exact G.slot j e h⟩
theorem Good.setN (G : Good Z ce own γ σ H ρ w) {i n : Nat} {v : V} {d : D} (hi : ownK (ownAt own i) = .nw n) (r : Rep ce γ.g.hs H (fun j a => a ∉ γ.L ∧ (j < n → γ.H0 a = none)) v d) : Good Z ce own γ (σ.set i (some v)) H (ρ.set i (some d)) w :=
  ⟨G.wok, G.st0, G.omV, G.vL, G.dom, G.tp, G.dis, by rw [List.length_set, List.length_set]; exact G.len, fun j e h => by
    by_cases hj : i = j
    · subst hj
      by_cases hl : i < ρ.length
      · rw [List.getElem?_set_self hl] at h
        cases h
        refine ⟨v, List.getElem?_set_self (by rw [← G.len]; exact hl), ?_⟩
        rw [hi]
        exact r
      · rw [List.getElem?_eq_none (by rw [List.length_set]; omega)] at h
        cases h
    · rw [List.getElem?_set_ne hj] at h ⊢
      exact G.slot j e h⟩
theorem Good.setL : ∀ {ls : List (Nat × D)} {vs : List V} {σ : L2.St} {ρ : Rho}, Good Z ce own γ σ H ρ w → (∀ p ∈ ls, ownK (ownAt own p.1) = .sh) → Reps ce γ.g.hs H (fun _ a => a ∉ γ.L) vs (ls.map (·.2)) → Good Z ce own γ (setV σ (ls.map (·.1)) vs) H (setR ρ ls) w
  | [], _, _, _, G, _, .nil => G
  | p :: ls, _, σ, ρ, G, h, .cons (v := v) a r => Good.setL (ls := ls) (σ := σ.set p.1 (some v)) (ρ := ρ.set p.1 (some p.2)) (G.set1 (h p List.mem_cons_self) a) (fun q hq => h q (List.mem_cons_of_mem _ hq)) r
theorem Good.wipe (G : Good Z ce own γ σ H ρ w) : ∀ vs : List Nat, Good Z ce own γ (L2.wipe σ vs) H (wipeR ρ vs) w
  | [] => G
  | v :: vs => by
    have ih := Good.wipe G vs
    refine ⟨ih.wok, ih.st0, ih.omV, ih.vL, ih.dom, ih.tp, ih.dis, ?_, fun j e h => ?_⟩
    · unfold L2.wipe wipeR; rw [List.length_set, List.length_set]; exact ih.len
    · unfold wipeR at h
      unfold L2.wipe
      by_cases hj : v = j
      · subst hj
        by_cases hl : v < (wipeR ρ vs).length
        · rw [List.getElem?_set_self hl] at h; cases h
        · rw [List.getElem?_eq_none (by rw [List.length_set]; omega)] at h; cases h
      · rw [List.getElem?_set_ne hj] at h ⊢
        exact ih.slot j e h
/-- a new object that none of ours leads to -/
theorem Good.alloc (G : Good Z ce own γ σ H ρ w) {p : Addr} {o : HO} (hp : H p = none) : Good Z ce own { γ with Vv := p :: γ.Vv, L := p :: γ.L } σ (upd H p o) ρ w := by
  have ne : ∀ {a : Addr}, H a ≠ none → a ≠ p := fun h z => h (z ▸ hp)
  refine ⟨G.wok.ext (HExt.upd hp), G.st0.trans (.ext (HExt.upd hp)), fun a h => List.mem_cons_of_mem _ (G.omV a h), fun a h => ?_, fun a h => ?_, fun i a h => ?_, G.dis, G.len, fun i d e => ?_⟩
  · rcases List.mem_cons.mp h with z | z
    · rw [z]; exact List.mem_cons_self
    · exact List.mem_cons_of_mem _ (G.vL a z)
  · rcases List.mem_cons.mp h with z | z
    · rw [z, upd_same]; exact fun q => nomatch q
    · rw [upd_ne (ne (G.dom a z))]; exact G.dom a z
  · obtain ⟨h1, h2, h3⟩ := G.tp i a h
    exact ⟨List.mem_cons_of_mem _ h1, fun z => (List.mem_cons.mp z).elim (ne (G.dom a h1)) h2, h3⟩
  · obtain ⟨v, e1, s⟩ := G.slot i d e
    refine ⟨v, e1, s.go (fun b o e n => ⟨HExt.upd hp b _ e, fun z => (List.mem_cons.mp z).elim (ne (by rw [e]; exact fun q => nomatch q)) n⟩) (fun b hb o e => HExt.upd hp b o e) (fun b o t e => HExt.upd hp b o e) fun _ _ e => e⟩
/-- an object is changed that none of ours leads to -/
theorem Good.updV (G : Good Z ce own γ σ H ρ w) {p : Addr} {xs ys : List V} (hp : p ∈ γ.Vv) (hO : p ∉ γ.g.Om) (h0 : γ.H0 p = none) (e0 : H p = some (.lst xs)) : Good Z ce own γ σ (upd H p (.lst ys)) ρ w := by
  have same : ∀ {a : Addr}, a ≠ p → upd H p (.lst ys) a = H a := fun h => upd_ne h
  have neT : ∀ {a : Addr} {o : HO}, isT o → H a = some o → a ≠ p := fun t e z => by rw [z, e0] at e; cases e; exact t
  have some' : ∀ a, H a ≠ none → upd H p (.lst ys) a ≠ none := fun a h => by
    by_cases z : a = p
    · rw [z, upd_same]; exact fun q => nomatch q
    · rw [same z]; exact h
  refine ⟨⟨Z.stab G.wok.rel (fun a ha => same fun z => hO (z ▸ ha)) (fun b o t e => by rw [same (neT t e)]; exact e), fun a ha => some' a (G.wok.dom a ha), fun a ha o e => G.wok.mu a ha o (by rw [← same (fun z => hO (z ▸ ha))]; exact e)⟩, ⟨fun b o hb e => ?_, G.st0.sub, G.st0.new, G.st0.hs⟩, G.omV, G.vL, fun a h => some' a (G.dom a h), G.tp, G.dis, G.len, fun i d e => ?_⟩
  · rw [same (fun z => by rw [z, h0] at e; cases e)]; exact G.st0.keep b o hb e
  · obtain ⟨v, e1, s⟩ := G.slot i d e
    refine ⟨v, e1, s.go (fun b o e n => ⟨?_, n⟩) (fun b hb o e => ?_) (fun b o t e => ?_) fun _ _ e => e⟩
    · rw [same (a := b) (fun z => n (G.vL b (z ▸ hp)))]; exact e
    · rw [same (a := b) (fun z => (G.tp i b hb).2.1 (z ▸ hp))]; exact e
    · rw [same (neT t e)]; exact e
end
theorem wipe_set {σ : L2.St} {v : Option V} {i : Nat} : ∀ {vs : List Nat}, i ∈ vs → L2.wipe (σ.set i v) vs = L2.wipe σ vs
  | u :: vs, h => by
    unfold L2.wipe
    by_cases hu : i ∈ vs
    · rw [wipe_set hu]
    · have e : u = i := by
        rcases List.mem_cons.mp h with z | z
        · exact z.symm
        · exact absurd z hu
      subst e
      have go : ∀ (vs : List Nat) (σ : L2.St), u ∉ vs → L2.wipe (σ.set u v) vs = (L2.wipe σ vs).set u v := by
        intro vs
        induction vs with
        | nil => intro σ _; rfl
        | cons x xs ih =>
          intro σ hn
          unfold L2.wipe
          rw [ih σ fun z => hn (List.mem_cons_of_mem _ z), List.set_comm _ _ (show u ≠ x from fun z => hn (z ▸ List.mem_cons_self))]
      rw [go vs σ hu, List.set_set]
theorem wipe_wipe {σ : L2.St} : ∀ {us vs : List Nat}, (∀ u ∈ us, u ∈ vs) → L2.wipe (L2.wipe σ us) vs = L2.wipe σ vs
  | [], _, _ => rfl
  | u :: us, vs, h => by
    show L2.wipe ((L2.wipe σ us).set u none) vs = _
    rw [wipe_set (h u List.mem_cons_self), wipe_wipe fun x hx => h x (List.mem_cons_of_mem _ hx)]
theorem wipe_setV : ∀ {is : List Nat} {us : List V} {σ : L2.St} {vs : List Nat}, (∀ i ∈ is, i ∈ vs) → L2.wipe (setV σ is us) vs = L2.wipe σ vs
  | [], us, σ, vs, _ => by unfold setV; rfl
  | i :: is, [], σ, vs, _ => by unfold setV; rfl
  | i :: is, u :: us, σ, vs, h => by
    unfold setV
    rw [wipe_setV fun x hx => h x (List.mem_cons_of_mem _ hx), wipe_set (h i List.mem_cons_self)]
end T
/-! an error out of a comprehension's block -/
namespace T
open PySem PySem.Spec PyProof.Rows L2
section
variable {M : Model} {A : Around} {E : Value → Shared → Prop} {Z : Obj → Prop} {B : Heap} {L a : Addr} {t : Shared}
theorem frames_at {h g B : Heap} : ∀ {l : List Env}, h.FunFrames B l → (∀ b ∈ frs l, g.get? b = h.get? b) → g.FunFrames B l
  | [], _, _ => trivial
  | e :: l, hh, k => by
    obtain ⟨w1, ⟨L, o, w2, w3, w4, w5⟩, w6⟩ := hh
    refine ⟨w1, ⟨L, o, w2, w3, (k L (List.mem_filterMap.mpr ⟨e, List.mem_cons_self, w2⟩)).trans w4, w5⟩, frames_at w6 fun b hb => ?_⟩
    obtain ⟨e', z, q⟩ := List.mem_filterMap.mp hb
    exact k b (List.mem_filterMap.mpr ⟨e', List.mem_cons_of_mem _ z, q⟩)
/-- noted here, its flight that of another frame -/
theorem note_far {e0 : Env} {out : List Env} {fl : Value} {Q : Unit → Shared → Prop} (hZ : HandSPX.Steady Z) (fA : A.frames = some (e0 :: out)) (f0 : e0.frame = some L) (ne : fl ≠ rawInt L)
    (st : B.StaysIn t.heap) (nB : B.get? a = none) (ff : t.heap.FunFrames B (e0 :: out)) (tr : HandSPX.TracedZ t.heap B a Z fl)
    (k : ∀ g, HandSPX.HeldZ B (e0 :: out) a Z L g → t.heap.UpToSlots g → Q () { t with heap := g }) : wpAny M A (noteFrame (.ref a) e0) Q E t := by
  obtain ⟨oa, va, T, oT, vT, ga, za, da, a1, nT, Ta, gT, dT, t3⟩ := tr
  have oth : ∀ b, b ≠ T → (t.heap.update T (Obj.mapFields (·.setIfInBounds 3 .none))).get? b = t.heap.get? b := fun b z => Heap.get?_update_other _ _ (Ne.symm z)
  have plain : ∀ b o, t.heap.get? b = some o → (∀ vs, o.data ≠ .fields vs) → b ≠ T := fun b o e n z => by
    subst z
    rw [gT] at e
    cases e
    exact n _ dT
  unfold noteFrame
  simp only [f0]
  refine wpAny_bind (wpAny_field ga da a1 ?_)
  rw [if_pos (show (Value.ref T != Value.none) = true by simp)]
  refine wpAny_bind (wpAny_field gT dT t3 ?_)
  rw [if_neg (show ¬ (fl == rawInt L) = true by simpa using ne)]
  refine wpAny_bind (wpAny_setField gT dT (Array.getElem?_eq_some_iff.mp t3).1 ?_)
  refine HandSPX.wpAny_entryZ hZ fA (ff.of_keeps fun b o e n => ⟨o, (oth b (plain b o e n)).trans e, rfl⟩) f0 ((oth a (Ne.symm Ta)).trans ga) (fun b o e => (oth b fun z => by rw [z, nT] at e; cases e).trans (st b o e)) nB da (Array.getElem?_eq_some_iff.mp a1).1 za fun g ⟨n1, n2, n3, n4⟩ => ?_
  exact k g ⟨n1, nB, n2, n3⟩ fun b o e n => n4 b o ((oth b (plain b o e n)).trans e) n
/-- new, or with a way already -/
def SkyG (B : Heap) (l : List Env) (a : Addr) (Z : Obj → Prop) (h : Heap) : Prop :=
  B.StaysIn h ∧ B.get? a = none ∧ h.FunFrames B l ∧ ((∃ oe vs, h.get? a = some oe ∧ Z oe ∧ oe.data = .fields vs ∧ vs[1]? = some .none) ∨ ∃ fl, HandSPX.TracedZ h B a Z fl)
theorem Sky.gen {l : List Env} {h : Heap} (s : Sky B l a Z L h) : SkyG B l a Z h := by
  rcases s with ⟨s1, s2, s3, s4⟩ | ⟨s1, s2, s3, s4⟩ | ⟨s1, s2, s3, s4⟩
  · exact ⟨s1, s2, s3, .inl s4⟩
  · exact ⟨s1, s2, s3, .inr ⟨_, s4⟩⟩
  · exact ⟨s1, s2, s3, .inr ⟨_, s4⟩⟩
theorem note_all {e0 ev : Env} {out : List Env} {Q : Unit → Shared → Prop} (hZ : HandSPX.Steady Z) (fA : A.frames = some (e0 :: out)) (f0 : e0.frame = some L) (fc : ev.frame = some L) (sk : SkyG B (e0 :: out) a Z t.heap)
    (k : ∀ g, HandSPX.HeldZ B (e0 :: out) a Z L g → t.heap.UpToSlots g → Q () { t with heap := g }) : wpAny M A (noteFrame (.ref a) ev) Q E t := by
  have e : noteFrame (.ref a) ev = noteFrame (.ref a) e0 := by
    unfold noteFrame PySem.frameOf
    rw [fc, f0]
  rw [e]
  obtain ⟨st, nB, ff, ⟨oe, vs, h1, h2, h3, h4⟩ | ⟨fl, tr⟩⟩ := sk
  · exact HandSPX.look_newZ hZ fA ff f0 h1 st nB h3 h4 h2 k
  · by_cases z : fl = rawInt L
    · subst z
      exact HandSPX.againZ f0 tr (k t.heap ⟨st, nB, ff, tr⟩ fun b o e _ => ⟨o.slots, e⟩)
    · exact note_far hZ fA f0 z st nB ff tr k
end
section
variable {X : Cx} {W : WX} {pins pins' : List (Addr × Obj)} {σ σ' : L2.St} {H3 H' : Hp} {s3 sI s' : Shared} {fp : List Addr} {scope : Scope} {ev e0 : Env} {out : List Env} {L a : Addr} {B : Heap} {cls : Value} {d : Option Addr}
/-- what a block owes to an error -/
abbrev blkX (X : Cx) (ev : Env) : Value → Shared → Prop := notedBy (model X.prog X.w) X.A ev (CompFails (model X.prog X.w) X.A X.xe ev)
theorem blk_out (fs : X.stack = e0 :: out) (f0 : e0.frame = some L) (fc : ev.frame = some L) (I3 : Inv X pins σ H3 s3) (f3 : ∀ b ∈ fp, FpOk X pins H3 b)
    (tf : ∀ u s', XEa L X W u s' → X.xe u s') (Ib : Inv (X.blk s3 H3 scope ev fp) pins' σ' H' sI) (nb : ∀ b o, sI.heap.get? b = some o → b ∉ frs X.stack → B.get? b = some o) (up : sI.heap.UpToSlots s'.heap)
    (sk : SkyG B X.stack a (Zc cls d) s'.heap) (na : H' a = none) (os : s'.os = sI.os) (ag : AllBare s'.gens) (w : W cls d σ H') : blkX X ev (.ref a) s' := by
  have fA : X.A.frames = some (e0 :: out) := by rw [← fs]; exact I3.ok.frames
  rw [fs] at sk
  refine note_all Zc.steady fA f0 fc sk fun g hh up1 => ?_
  rw [← fs] at hh
  have hC0 : s3.heap.objs.size ≤ ev.locals := Ib.ok.above
  have hCf : ev.locals ∉ frs X.stack := fun z => by
    obtain ⟨_, o, e, _⟩ := Ib.ok.funs.mem z
    exact absurd (Heap.lt_size e) (Nat.not_lt.mpr hC0)
  obtain ⟨m, ⟨oc, es, ep, eo, dd, r⟩, _⟩ := Ib.loc
  have eo : sI.heap.get? ev.locals = some oc := eo
  have eg : g.get? ev.locals = some oc := hh.1 _ oc (nb _ oc eo hCf)
  refine ⟨m, ⟨oc, es, ep, eg, dd, r⟩, fun g2 m2 hn2 sb => ?_⟩
  obtain ⟨B', p1, p2⟩ := restrict B fun b => decide (b ≠ ev.locals)
  have pC : B'.get? ev.locals = none := p2 _ (by simp)
  have pN : ∀ b, b ≠ ev.locals → B'.get? b = B.get? b := fun b z => p1 b (by simpa using z)
  have pS : ∀ b o, B'.get? b = some o → b ≠ ev.locals ∧ B.get? b = some o := fun b o e => by
    have z : b ≠ ev.locals := fun z => by rw [z, pC] at e; cases e
    exact ⟨z, (pN b z).symm.trans e⟩
  have hh2 : HandSPX.HeldZ B' X.stack a (Zc cls d) L g2 := by
    obtain ⟨k1, k2, k3, oa, va, T, oT, vT, ga, za, da, a1, nT, Ta, gT, dT, t3⟩ := hh
    have aC : a ≠ ev.locals := fun z => by
      rw [z, eg] at ga
      cases ga
      rw [dd] at da
      cases da
    have TC : T ≠ ev.locals := fun z => by
      rw [z, eg] at gT
      cases gT
      rw [dd] at dT
      cases dT
    refine ⟨fun b o e => (sb.2 b (pS b o e).1).trans (k1 b o (pS b o e).2), (pN a aC).trans k2, ?_, oa, va, T, oT, vT, (sb.2 a aC).trans ga, za, da, a1, (pN T TC).trans nT, Ta, (sb.2 T TC).trans gT, dT, t3⟩
    refine funFrames_none (base := B) (frames_at k3 fun b hb => sb.2 b fun z => hCf (z ▸ hb)) fun b hb => ?_
    rw [pN b fun z => hCf (z ▸ hb)]
    exact (k3.mem hb).1
  obtain ⟨oa, va, T, oT, vT, ga, za, da, a1, _⟩ := hh2.2.2.2
  unfold PySem.passOn
  refine wpAny_bind (wpAny_field ga da a1 ?_)
  rw [if_neg (show ¬ (Value.ref T == Value.none) = true by simp)]
  rw [fc]
  refine wpAny_bind (HandSPX.setFlight_onZ hh2 fun g3 hh3 up3 => wpAny_throw ?_)
  obtain ⟨G, q1, q2⟩ := restrict sI.heap fun b => decide (b ≠ ev.locals)
  have qC : G.get? ev.locals = none := q2 _ (by simp)
  have qN : ∀ b, b ≠ ev.locals → G.get? b = sI.heap.get? b := fun b z => q1 b (by simpa using z)
  have qS : ∀ b o, G.get? b = some o → b ≠ ev.locals ∧ sI.heap.get? b = some o := fun b o e => by
    have z : b ≠ ev.locals := fun z => by rw [z, qC] at e; cases e
    exact ⟨z, (qN b z).symm.trans e⟩
  have nC : H' ev.locals = none := Ib.free
  have I5 : Inv X pins σ H' sI := I3.call' (ch := fp) Ib.os Ib.base Ib.hok Ib.bare fun b hb => ⟨(f3 b hb).2.2.2.1, (f3 b hb).2.1, (f3 b hb).2.2.2.2.1, (f3 b hb).2.2.2.2.2⟩
  obtain ⟨y0, y1, y2, y3, y4, y5⟩ := I3.fpOk hC0 nC
  refine tf _ _ ⟨a, B', { sI with heap := G }, pins, σ, H', cls, d, rfl, I5.turned (t' := sI.toks) (fun b o z e => (qN b z).trans e) y0 y1 y3 y4 y5, fun b o e z => ?_, fun b o e n => ?_, hh3, na, os, ag, w⟩
  · rw [pN b (qS b o e).1]
    exact nb b o (qS b o e).2 z
  · obtain ⟨z, e1⟩ := qS b o e
    obtain ⟨l1, e2⟩ := up b o e1 n
    obtain ⟨l2, e3⟩ := up1 b _ e2 n
    obtain ⟨l3, e4⟩ := up3 b _ ((sb.2 b z).trans e3) n
    exact ⟨l3, e4⟩
end
section
variable {X : Cx}
/-- a block whose errors go on -/
abbrev ctxE (X : Cx) (s : Shared) (H : Hp) (scope : Scope) (ev : Env) (fp : List Addr) : Cx := (X.blk s H scope ev fp).wish (blkX X ev)
def TkX (X : Cx) (scope : Scope) (σ : L2.St) (W : WX) (s : Shared) (H : Hp) (ev : Env) (fp : List Addr) : Prop :=
  Takes (ctxE X s H scope ev fp) (fun c d _ H' => W c d σ H') ∧ ∀ L, ev.frame = some L → ∀ u s', XEa L (ctxE X s H scope ev fp) (fun c d _ H' => W c d σ H') u s' → blkX X ev u s'
theorem lc_runX {W : WX} {pins : List (Addr × Obj)} {s : Shared} {σ : L2.St} {H : Hp} {Q : VK} {elt tg it : Expr} {ifs : List Expr} {scope : Scope} {ow : List (Str × Nat)} {pos pos' : Pos} {wi : TI} {g : TG} {tt : TT} {te : TE} {use : Option (Value → Sem Unit)} {Qf : Value → Shared → Prop}
    (hc : X.calm = true) (hN : X.N.Nodup) (fr : ∃ e0 out L, X.stack = e0 :: out ∧ e0.frame = some L ∧ X.env.frame = some L) (tf : ∀ L, X.env.frame = some L → ∀ u s', XEa L X W u s' → X.xe u s')
    (I : Inv X pins σ H s) (hi : PI X tg it wi) (bo : BlkOk X.N X.env.scope scope ow) (hg : ∀ s H Ca cl fp, PG (X.blk s H scope (compEnvC scope cl Ca X.env) fp) tg g)
    (ht : ∀ s H Ca cl fp, TkX X scope σ W s H (compEnvC scope cl Ca X.env) fp → PTs (ctxE X s H scope (compEnvC scope cl Ca X.env) fp) ifs tt)
    (he : ∀ s H Ca cl fp, TkX X scope σ W s H (compEnvC scope cl Ca X.env) fp → PE (ctxE X s H scope (compEnvC scope cl Ca X.env) fp) elt te)
    (hs : ∀ x, foldedSetIterable it X.env x = pure x) (hT : tLc wi g tt te (ow.map (·.2)) σ H Q)
    (hR : ∀ D ev s' m H', Inv X pins σ H' s' → Q (.ref D) H' → s'.heap.Ns ev.locals m → FpOk X pins H' ev.locals → compEnds (model X.prog X.w) X.A X.xe use Qf (.ref D) ev (.ok .next) s') :
    wpAny (model X.prog X.w) X.A (comprehension (.ListComp elt [⟨tg, it, ifs, 0⟩] scope pos) scope X.env pos' (newList []) false (eval it X.env) use) Qf X.xe s := by
  obtain ⟨e0, out, L, fs, f0, fL⟩ := fr
  have cells : ∀ y ∈ scope.names, y.2 = .free → ∃ c, X.env.cells.lookup y.1 = some c := fun y hy e => (bo.free y hy e).elim (fun k => I.ok.has _ (.inl k)) fun k => I.ok.has _ (.inr k)
  refine comprehension_at (use := use) rfl hs (closure_ok cells) bo.kind (fun y hy e => by rw [bo.uniq y hy, e]) (thn (hi.run pins s σ H _ I hT) fun xv y1 hx => thn hx fun iv y2 hy2 => ?_)
  obtain ⟨ia, fp, tn, J, H2, rfl, I2, T, st2, f2, q⟩ := hy2
  refine wpAny_newObj_type (newEnv_comp ?_) (by show 0 ≤ sizeLine; decide)
  generalize eD : y2.heap.objs.size = D
  obtain ⟨Wt, ⟨m0, w0⟩, turn⟩ := q D (I2.hok.fresh (Nat.le_of_eq eD))
  generalize ey3 : ({ y2 with heap := y2.heap.push { cls := .type "list", data := .seq ([] : List Value).toArray } } : Shared) = y3
  have h3 : y3.heap = y2.heap.push { cls := .type "list", data := .seq ([] : List Value).toArray } := by rw [← ey3]
  have I3 : Inv X pins σ (upd H2 D (.lst [])) y3 := by
    rw [← ey3]
    exact I2.laid (t' := y2.toks) (fun b o e => Heap.get?_push_of_some _ e) (Nat.le_of_eq eD) ⟨Nat.zero_le _, [], 0, .nil, eD ▸ Heap.get?_push_size _ rfl⟩
  have lt2 : ∀ b ∈ fp, b < y2.heap.objs.size := fun b hb => let ⟨_, e, _⟩ := T.obj _ _ st2 b hb; Heap.lt_size e
  have f3 : ∀ b ∈ fp, FpOk X pins (upd H2 D (.lst [])) b ∧ b < y3.heap.objs.size := fun b hb => by
    refine ⟨⟨?_, (f2 b hb).2⟩, by rw [h3, Heap.size_push]; exact Nat.lt_succ_of_lt (lt2 b hb)⟩
    rw [upd_ne (eD ▸ Nat.ne_of_lt (lt2 b hb))]
    exact (f2 b hb).1
  have st3 : tn 0 y3.heap := T.keep _ _ _ st2 fun b _ o e => h3 ▸ Heap.get?_push_of_some _ e
  have I4 := block_start I3 bo hN f3
  have gP := hg y3 (upd H2 D (.lst [])) y3.heap.objs.size (cellsFrom (y3.heap.objs.size + 1) scope.names (cloFrom X.env.cells scope.names [])) fp
  have tP := ht y3 (upd H2 D (.lst [])) y3.heap.objs.size (cellsFrom (y3.heap.objs.size + 1) scope.names (cloFrom X.env.cells scope.names [])) fp
  have eP := he y3 (upd H2 D (.lst [])) y3.heap.objs.size (cellsFrom (y3.heap.objs.size + 1) scope.names (cloFrom X.env.cells scope.names [])) fp
  have fc : (compEnvC scope (cellsFrom (y3.heap.objs.size + 1) scope.names (cloFrom X.env.cells scope.names [])) y3.heap.objs.size X.env).frame = some L := fL
  have cL : (compEnvC scope (cellsFrom (y3.heap.objs.size + 1) scope.names (cloFrom X.env.cells scope.names [])) y3.heap.objs.size X.env).locals = y3.heap.objs.size := rfl
  show codeAny _ _ (.compStart (.ListComp elt [⟨tg, it, ifs, 0⟩] scope pos) 0 (.ref ia) (.ref D) (compEnvC scope (cellsFrom (y3.heap.objs.size + 1) scope.names (cloFrom X.env.cells scope.names [])) y3.heap.objs.size X.env))
    (compEnds (model X.prog X.w) X.A X.xe use Qf (.ref D) (compEnvC scope (cellsFrom (y3.heap.objs.size + 1) scope.names (cloFrom X.env.cells scope.names [])) y3.heap.objs.size X.env)) { y3 with heap := pushCells (y3.heap.push { cls := .type "dict", data := .dict #[] }) scope.names }
  generalize compEnvC scope (cellsFrom (y3.heap.objs.size + 1) scope.names (cloFrom X.env.cells scope.names [])) y3.heap.objs.size X.env = ev at I4 gP tP eP fc cL ⊢
  generalize upd H2 D (.lst []) = H3 at I3 I4 gP tP eP w0 f3
  generalize ey4 : ({ y3 with heap := pushCells (y3.heap.push { cls := .type "dict", data := .dict #[] }) scope.names } : Shared) = y4 at I4 ⊢
  have st4 : tn 0 y4.heap := T.keep _ _ _ st3 fun b _ o e => by rw [← ey4]; exact pushCells_keeps _ _ _ _ (Heap.get?_push_of_some _ e)
  have tkx : TkX X scope σ W y3 H3 ev fp := by
    refine ⟨?_, ?_⟩
    · rintro u s' ⟨a, B, sI, ps, σ', H', cls, d, rfl, Ib, nb, up, sk, na, os, ag, w⟩
      exact blk_out fs f0 fc I3 (fun b hb => (f3 b hb).1) (tf L fL) Ib.unwish nb up (Sky.gen sk) na os ag w
    · rintro L' hL' u s' ⟨a, B, sI, ps, σ', H', cls, d, rfl, Ib, nb, up, hz, na, os, ag, w⟩
      exact blk_out fs f0 fc I3 (fun b hb => (f3 b hb).1) (tf L fL) Ib.unwish nb up ⟨hz.1, hz.2.1, hz.2.2.1, .inr ⟨_, hz.2.2.2⟩⟩ na os ag w
  have tP := tP tkx
  have eP := eP tkx
  have free : ∀ {τ : L2.St} {K : Hp} {y : Shared}, Inv (X.blk y3 H3 scope ev fp) [] τ K y → (∀ b ∈ fp, K b = none) → ∀ b ∈ fp, FpOk (X.blk y3 H3 scope ev fp) [] K b := fun {τ K y} Iy hn b hb =>
    ⟨hn b hb, (Iy.ok.exf b hb).1, Iy.ok.exfs b hb, .inl hb, fun x c e => (Iy.ok.exf b hb).2 x c e, fun p hp => by cases hp⟩
  have eE : (fun x s' => compEnds (model X.prog X.w) X.A X.xe use Qf (.ref D) ev (.error x) s') = CompFails (model X.prog X.w) X.A X.xe ev := by
    funext x s'
    cases use <;> rfl
  have loop : codeAny (model X.prog X.w) X.A (.compLoop (.ListComp elt [⟨tg, it, ifs, 0⟩] scope pos) 0 (.ref ia) (.ref D) ev) (compEnds (model X.prog X.w) X.A X.xe use Qf (.ref D) ev) y4 := by
    refine compLoop_any (fun n y => ∃ i K, Inv (X.blk y3 H3 scope ev fp) [] (L2.wipe σ (ow.map (·.2))) K y ∧ tn i y.heap ∧ (∀ b ∈ fp, K b = none) ∧ Wt i n K) ?_ m0 ⟨0, H3, I4, st4, fun b hb => (f3 b hb).1.1, w0⟩
    rintro n y ⟨i, K, Iy, sy, ny, wy⟩
    rw [eE]
    rcases turn i n K wy with ⟨stop, qq⟩ | ⟨go, Nx, hNx, step⟩
    · refine thnF (T.done (X.blk y3 H3 scope ev fp) rfl rfl rfl hc i [] y _ K (fun _ _ => False) Iy (free Iy ny) sy stop) fun r z ⟨hr, Iz⟩ => ?_
      subst hr
      obtain ⟨m, hn, _⟩ := Iz.loc
      have nC : K ev.locals = none := Iz.free
      exact hR D ev z m K (I3.call' (ch := fp) Iz.os Iz.base Iz.hok Iz.bare fun b hb => ⟨(f3 b hb).1.2.2.2.1, (f3 b hb).1.2.1, (f3 b hb).1.2.2.2.2.1, (f3 b hb).1.2.2.2.2.2⟩) qq hn (I3.fpOk (by rw [cL]; exact Nat.le_refl _) nC)
    · refine thnF (T.item (X.blk y3 H3 scope ev fp) rfl rfl rfl hc i [] y _ K (fun _ _ => False) Iy (free Iy ny) sy go) fun r z ⟨u, hr, hz⟩ => ?_
      subst hr
      refine thnF hz fun _ z1 ⟨x, K1, I1, r1, yl, s1, n1⟩ => ?_
      refine thnF (gP.run _ z1 _ K1 x u _ (I1.pinned (free I1 n1) (T.obj _ _ s1)) r1 (step x K1 yl)) fun _ z2 ⟨σ2, K2, I2', hw2, q2⟩ => ?_
      have fin : ∀ {z' : Shared} {K' : Hp}, Inv (X.blk y3 H3 scope ev fp) ([] ++ pinsAt fp z1.heap) σ2 K' z' → Nx K' → ∃ m, m < n ∧ ∃ i K, Inv (X.blk y3 H3 scope ev fp) [] (L2.wipe σ (ow.map (·.2))) K z' ∧ tn i z'.heap ∧ (∀ b ∈ fp, K b = none) ∧ Wt i m K := fun {z' K'} Iz nx => by
        obtain ⟨m', lt, wt⟩ := hNx K' nx
        have pin : ∀ b ∈ fp, ∀ o, z1.heap.get? b = some o → z'.heap.get? b = some o ∧ K' b = none := fun b hb o e => by
          obtain ⟨k1, k2, _⟩ := Iz.pin (b, o) (List.mem_append_right _ (List.mem_append_right _ (mem_pinsAt hb e)))
          exact ⟨k1, k2⟩
        refine ⟨m', lt, i + 1, K', (Iz.unpinned (pins := [])).weak (by rw [← hw2, wipe_length]) (fun j v e => (wipe_some (hw2 ▸ e)).1), T.keep _ _ _ s1 fun b hb o e => (pin b hb o e).1, fun b hb => ?_, wt⟩
        obtain ⟨o, e, _⟩ := T.obj _ _ s1 b hb
        exact (pin b hb o e).2
      refine wpAny_mono (tP.run _ z2 σ2 K2 _ (I2'.wish _) q2) (fun b z3 ⟨K3, I3', q3⟩ => ?_) fun _ _ e => e
      cases b with
      | false =>
        rw [if_neg Bool.false_ne_true] at q3 ⊢
        exact fin I3'.unwish q3
      | true =>
        rw [if_pos rfl] at q3 ⊢
        refine wpAny_mono (eP.run _ z3 σ2 K3 _ I3' q3) (fun v z4 ⟨yv, K4, I4', r4, acc, hD4, hz4, nx⟩ => ?_) fun _ _ e => e
        exact app_ok (X := X.blk y3 H3 scope ev fp) I4'.unwish hD4 hz4 r4 fun z5 I5 => fin I5 nx
  exact codeAny_compStart_list loop (T.self X.A 0 _ _ _ st4 loop)
/-- its value -/
theorem pe_lcX {W : WX} {elt tg it : Expr} {ifs : List Expr} {scope : Scope} {ow : List (Str × Nat)} {pos : Pos} {wi : TI} {g : TG} {tt : L2.St → TT} {te : L2.St → TE}
    (hc : X.calm = true) (hN : X.N.Nodup) (fr : ∃ e0 out L, X.stack = e0 :: out ∧ e0.frame = some L ∧ X.env.frame = some L) (tf : ∀ L, X.env.frame = some L → ∀ u s', XEa L X W u s' → X.xe u s')
    (hi : PI X tg it wi) (bo : BlkOk X.N X.env.scope scope ow) (hg : ∀ s H Ca cl fp, PG (X.blk s H scope (compEnvC scope cl Ca X.env) fp) tg g)
    (ht : ∀ σ s H Ca cl fp, TkX X scope σ W s H (compEnvC scope cl Ca X.env) fp → PTs (ctxE X s H scope (compEnvC scope cl Ca X.env) fp) ifs (tt σ))
    (he : ∀ σ s H Ca cl fp, TkX X scope σ W s H (compEnvC scope cl Ca X.env) fp → PE (ctxE X s H scope (compEnvC scope cl Ca X.env) fp) elt (te σ))
    (hs : ∀ x, foldedSetIterable it X.env x = pure x) : PE X (.ListComp elt [⟨tg, it, ifs, 0⟩] scope pos) (fun σ H Q => tLc wi g (tt σ) (te σ) (ow.map (·.2)) σ H Q) := by
  refine ⟨fun pins s σ H Q I h => ?_⟩
  rw [eval_ListComp]
  refine lc_runX hc hN fr tf I hi bo hg (ht σ) (he σ) hs h fun D ev s' m H' I' q hn ⟨f0, f1, f2, f3, f4, f5⟩ => ⟨m, hn, fun g2 sb => ?_⟩
  exact ⟨.ref D, H', I'.turned (t' := s'.toks) (fun b o z e => (sb.2 b z).trans e) f0 f1 f3 f4 f5, rfl, q⟩
/-- stored on the same row -/
theorem ps_lcX {W : WX} {i : Nat} {y : Str} {py : Pos} {elt tg it : Expr} {ifs : List Expr} {scope : Scope} {ow : List (Str × Nat)} {pos spos : Pos} {wi : TI} {g : TG} {tt : L2.St → TT} {te : L2.St → TE}
    (hc : X.calm = true) (hN : X.N.Nodup) (fr : ∃ e0 out L, X.stack = e0 :: out ∧ e0.frame = some L ∧ X.env.frame = some L) (tf : ∀ L, X.env.frame = some L → ∀ u s', XEa L X W u s' → X.xe u s')
    (hy : X.N[i]? = some y) (hyl : X.env.scope.names.lookup y = some .local) (hsw : swapsWith (.ListComp elt [⟨tg, it, ifs, 0⟩] scope pos) (some (.Name y py)) spos.line X.env = pure true)
    (hi : PI X tg it wi) (bo : BlkOk X.N X.env.scope scope ow) (hg : ∀ s H Ca cl fp, PG (X.blk s H scope (compEnvC scope cl Ca X.env) fp) tg g)
    (ht : ∀ σ s H Ca cl fp, TkX X scope σ W s H (compEnvC scope cl Ca X.env) fp → PTs (ctxE X s H scope (compEnvC scope cl Ca X.env) fp) ifs (tt σ))
    (he : ∀ σ s H Ca cl fp, TkX X scope σ W s H (compEnvC scope cl Ca X.env) fp → PE (ctxE X s H scope (compEnvC scope cl Ca X.env) fp) elt (te σ))
    (hs : ∀ x, foldedSetIterable it X.env x = pure x) : PS X (.Assign [.Name y py] (.ListComp elt [⟨tg, it, ifs, 0⟩] scope pos) spos) (tAsg (fun σ H Q => tLc wi g (tt σ) (te σ) (ow.map (·.2)) σ H Q) (gName i)) := by
  refine ⟨fun pins s σ H Dn I h => ?_⟩
  rw [exec_Assign_Name_used _ _ _ _ hsw]
  refine wpAny_bind (wpAny_standAt (wpAny_bind ?_))
  have h : tLc wi g (tt σ) (te σ) (ow.map (·.2)) σ H (fun x H1 => gName i x σ H1 Dn.nx) := h
  show wpAny _ X.A (do let _ ← comprehension (.ListComp elt [⟨tg, it, ifs, 0⟩] scope pos) scope X.env (firstIterPos [⟨tg, it, ifs, 0⟩] pos) (newList []) false (eval it X.env) (some (assign (.Name y py) X.env))) _ _ s
  refine wpAny_bind (thn (lc_runX (Qf := fun _ z => SP X pins Dn .next z) hc hN fr tf I hi bo hg (ht σ) (he σ) hs h fun D ev z m H' I' q hn ⟨f0, f1, f2, f3, f4, f5⟩ => ?_) fun _ z hq => wpAny_pure (wpAny_pure hq))
  show wpAny _ _ (assign (.Name y py) X.env (.ref D)) _ _ _
  refine wpAny_assign_Name (store_ok2 (v := V.ref D) I' hN hy (.inl hyl) rfl (fun z2 I2 ⟨a, sb, ha⟩ => ?_) (.inr hyl))
  have ne : ev.locals ≠ a := by
    rcases ha with k | k
    · rw [k]; exact f1
    · exact fun e => f4 y a k e.symm
  exact ⟨m, hn.sameBut sb ne, fun g3 sb3 => ⟨_, H', I2.turned (t' := z2.toks) (fun b o k e => (sb3.2 b k).trans e) f0 f1 f3 f4 f5, q⟩⟩
end
end T
namespace T
open PySem PySem.Spec PyProof.Rows L2
theorem wipeR_set {σ : Rho} {v : Option D} {i : Nat} : ∀ {vs : List Nat}, i ∈ vs → wipeR (σ.set i v) vs = wipeR σ vs
  | u :: vs, h => by
    unfold wipeR
    by_cases hu : i ∈ vs
    · rw [wipeR_set hu]
    · have e : u = i := by
        rcases List.mem_cons.mp h with z | z
        · exact z.symm
        · exact absurd z hu
      subst e
      have go : ∀ (vs : List Nat) (σ : Rho), u ∉ vs → wipeR (σ.set u v) vs = (wipeR σ vs).set u v := by
        intro vs
        induction vs with
        | nil => intro σ _; rfl
        | cons x xs ih =>
          intro σ hn
          unfold wipeR
          rw [ih σ fun z => hn (List.mem_cons_of_mem _ z), List.set_comm _ _ (show u ≠ x from fun z => hn (z ▸ List.mem_cons_self))]
      rw [go vs σ hu, List.set_set]
theorem wipeR_wipeR {σ : Rho} : ∀ {us vs : List Nat}, (∀ u ∈ us, u ∈ vs) → wipeR (wipeR σ us) vs = wipeR σ vs
  | [], _, _ => rfl
  | u :: us, vs, h => by
    show wipeR ((wipeR σ us).set u none) vs = _
    rw [wipeR_set (h u List.mem_cons_self), wipeR_wipeR fun x hx => h x (List.mem_cons_of_mem _ hx)]
theorem wipeR_setR : ∀ {ls : List (Nat × D)} {σ : Rho} {vs : List Nat}, (∀ p ∈ ls, p.1 ∈ vs) → wipeR (setR σ ls) vs = wipeR σ vs
  | [], σ, vs, _ => rfl
  | p :: ls, σ, vs, h => by
    show wipeR (setR (σ.set p.1 (some p.2)) ls) vs = _
    rw [wipeR_setR fun x hx => h x (List.mem_cons_of_mem _ hx), wipeR_set (h p List.mem_cons_self)]
section
variable {W : Type} {Z : Wd W} {ce : Str → Option Addr} {own : List Nat} {γ : GP} {σ : L2.St} {H H' : Hp} {ρ : Rho} {w : W}
theorem Good.ext (G : Good Z ce own γ σ H ρ w) (x : HExt H H') : Good Z ce own γ σ H' ρ w := by
  have some' : ∀ a, H a ≠ none → H' a ≠ none := fun a h q => h (x.none q)
  refine ⟨G.wok.ext x, G.st0.trans (.ext x), G.omV, G.vL, fun a h => some' a (G.dom a h), G.tp, G.dis, G.len, fun i d e => ?_⟩
  obtain ⟨v, e1, s⟩ := G.slot i d e
  exact ⟨v, e1, s.go (fun b o e n => ⟨x b _ e, n⟩) (fun b hb o e => x b o e) (fun b o t e => x b o e) fun _ _ e => e⟩
end
section
variable {W : Type} {Z : Wd W} {ce : Str → Option Addr} {X : Cx} {Wx : Str → L2.St → Hp → Prop} {pos : Pos} {C : Cfg W} {sc : Scope}
/-- the wish of a def about errors -/
abbrev wxf (ce : Str → Option Addr) (Wx : Str → L2.St → Hp → Prop) : WX := fun cls d σ H => d = none ∧ ∃ c K, ce c = some K ∧ cls = .ref K ∧ Wx c σ H
theorem Cok.blk (K : Cok Z ce C X sc Wx) {s : Shared} {H : Hp} {scope : Scope} {cl : List (Str × Addr)} {Ca : Addr} {fp : List Addr} {σ : L2.St} (t : TkX X scope σ (wxf ce Wx) s H (compEnvC scope cl Ca X.env) fp) :
    Cok Z ce C (ctxE X s H scope (compEnvC scope cl Ca X.env) fp) (relS scope sc) (fun c _ H' => Wx c σ H') where
  sc_ := by
    show relS scope X.env.scope = relS scope sc
    rw [K.sc_]
  calm := K.calm
  un := K.un
  un1 := K.un1
  bi := K.bi
  nm := K.nm
  hh := K.hh
  hd := K.hd
  nd := K.nd
  gam := K.gam
  fns := K.fns
  chk := K.chk
  io := by
    obtain ⟨cw, O⟩ := K.io
    exact ⟨cw, O.hi, O.fld, O.mth, O.mkr, O.len, O.muf⟩
  exi := K.exi
  kit := K.kit
  fr := K.fr
  tk := t.1
  tf := t.2
theorem wr_blk (K : Cok Z ce C X sc Wx) {s : Shared} {H : Hp} {scope : Scope} {cl : List (Str × Addr)} {Ca : Addr} {fp : List Addr} {x : Str} {i : Nat} (h : wrSlot C.N scope x = some i) :
    L2.Loc (X.blk s H scope (compEnvC scope cl Ca X.env) fp).env.scope x ∧ ((X.blk s H scope (compEnvC scope cl Ca X.env) fp).fn x = true ∨ (X.blk s H scope (compEnvC scope cl Ca X.env) fp).env.scope.names.lookup x = some .local) := by
  obtain ⟨_, h2, _⟩ := wrSlot_ok h
  rcases h2 with h2 | h2
  · have e : (relS scope X.env.scope).names.lookup x = some .local := lookup_relS_keep (by decide) h2
    exact ⟨.inl e, .inr e⟩
  · have e : (relS scope X.env.scope).names.lookup x = some .cell := lookup_relS_keep (by decide) h2
    refine ⟨.inr e, .inl ?_⟩
    show (scope.names.lookup x == some .cell) = true
    rw [h2]; rfl
theorem Post.eqn {α : Type} {r : Res W α} {ok : α → W → Prop} {ex : Str → W → Prop} (h : Post r ok ex) : Post r (fun a w => r = .ok a w ∧ ok a w) ex := by
  cases r with
  | ok a w => exact ⟨rfl, h⟩
  | ex c w => exact h
  | no => exact h
theorem Post.okI {α : Type} {a : α} {w : W} {ok : α → W → Prop} {ex : Str → W → Prop} (h : ok a w) : Post (.ok a w) ok ex := h
/-- rows told apart -/
def DsV (H : Hp) (v : V) (d : D) : Prop := ∀ p vs ds, v = .ref p → d = .list ds → H p = some (.lst vs) → ∀ (i j : Nat) (a : Addr) (es es' : List D), vs[i]? = some (.ref a) → vs[j]? = some (.ref a) → ds[i]? = some (.list es) → ds[j]? = some (.list es') → i = j
def okE2 (Z : Wd W) (ce : Str → Option Addr) (k nF nT : Nat) (γ : GP) (H : Hp) (Q : VK) (d : D) (w' : W) : Prop := ∀ v H' g', CStep γ.g H g' H' → WOk Z g' H' w' → Rep ce g'.hs H' (PexO k nF nT γ H g') v d → (2 ≤ nF → DsV H' v d) → Q v H'
def tE2 (Z : Wd W) (ce : Str → Option Addr) (own : List Nat) (k nF nT : Nat) (Wx : Str → L2.St → Hp → Prop) (f : Rho → W → Res W D) : TE := fun σ H Q => ∃ γ ρ w, Good Z ce own γ σ H ρ w ∧ Post (f ρ w) (okE2 Z ce k nF nT γ H Q) (exE Z γ H Wx σ)
theorem tE_two {own : List Nat} {k nF nT : Nat} {f : Rho → W → Res W D} {σ : L2.St} {H : Hp} {Q : VK} (h : tE Z ce own k nF nT Wx f σ H Q) : tE2 Z ce own k nF nT Wx f σ H Q := by
  obtain ⟨γ, ρ, w, G, q⟩ := h
  exact ⟨γ, ρ, w, G, q.imp (fun d w' h v H' g' x wk r _ => h v H' g' x wk r) fun c w' h => h⟩
/-- the parts of a comprehension and its reading -/
structure LcParts (Z : Wd W) (ce : Str → Option Addr) (own : List Nat) (Wx : Str → L2.St → Hp → Prop) (X : Cx) (elt tg it : Expr) (ifs : List Expr) (scope : Scope) (k nF nT : Nat) (F : Rho → W → Res W D) (wi : TI) (g : TG) (tt : L2.St → TT) (te : L2.St → TE) (ow : List (Str × Nat)) : Prop where
  hi : PI X tg it wi
  ok : BlkOk X.N X.env.scope scope ow
  hg : ∀ (s : Shared) (H : Hp) (C : Addr) (cl : List (Str × Addr)) (fp : List Addr), PG (X.blk s H scope (compEnvC scope cl C X.env) fp) tg g
  ht : ∀ σ s H Ca cl fp, TkX X scope σ (wxf ce Wx) s H (compEnvC scope cl Ca X.env) fp → PTs (ctxE X s H scope (compEnvC scope cl Ca X.env) fp) ifs (tt σ)
  he : ∀ σ s H Ca cl fp, TkX X scope σ (wxf ce Wx) s H (compEnvC scope cl Ca X.env) fp → PE (ctxE X s H scope (compEnvC scope cl Ca X.env) fp) elt (te σ)
  hs : ∀ x, foldedSetIterable it X.env x = pure x
  rd : ∀ σ H Q, tE2 Z ce own k nF nT Wx F σ H Q → tLc wi g (tt σ) (te σ) (ow.map (·.2)) σ H Q
def lcF (C : Cfg W) (f : Scope → Expr → Rho → W → Res W D) (m : Nat) (ke : Expr → Nat) (sc : Scope) (elt tg it : Expr) (ifs : List Expr) (scope : Scope) : Rho → W → Res W D := fun ρ w =>
      guardR (pureIt it elt ifs && oneIf ifs && notSet it && (itPl sc tg it).1.all notStar && (itPl sc tg it).1.all (fun e => decide (ke e ≤ 1)) && blkC C.N sc scope (ownNames C.N scope) && (asgSlots C.N scope tg).all (fun i => ((ownNames C.N scope).map (·.2)).contains i) && ((ownNames C.N scope).map (·.2)).all (fun i => decide (ownAt C.own i = 0)))
            ((trav (fun e w => f sc e ρ w) (itPl sc tg it).1 w).bind fun ds w => (lift ((itPl sc tg it).2 (drI C w it ds)) w).bind fun items w =>
              (calmR (compR (elR C f m (relS scope sc) scope tg ifs elt (wipeR ρ ((ownNames C.N scope).map (·.2)))) items w)).bind fun ys w => .ok (.list ys) w)
theorem lc_parts (h3 : Zip3Ok ce) (K : Cok Z ce C X sc Wx) {f : Scope → Expr → Rho → W → Res W D} {m : Nat} {ke Fe Te kb Fb Tb : Expr → Nat} {elt tg it : Expr} {ifs : List Expr} {scope : Scope}
    (hn : NmOk fun e ρ w => f sc e ρ w) (hev : ∀ e, PE X e (tE Z ce C.own (ke e) (Fe e) (Te e) Wx fun ρ w => f sc e ρ w))
    (hevB : ∀ Xb Wy, Cok Z ce C Xb (relS scope sc) Wy → ∀ e, PE Xb e (tE Z ce C.own (kb e) (Fb e) (Tb e) Wy fun ρ w => f (relS scope sc) e ρ w))
    (htB : ∀ Xb Wy, Cok Z ce C Xb (relS scope sc) Wy → ∀ e, PT Xb e (tT Z ce C.own Wy fun ρ w => tst f m (relS scope sc) e ρ w))
    (hpu : isNmE elt = true → pureIf ifs = true → ∀ ρ d w o w', elR C f m (relS scope sc) scope tg ifs elt ρ d w = .ok o w' → w' = w) :
    (∀ ρ w, lcF C f m ke sc elt tg it ifs scope ρ w = .no) ∨ ∃ wi g tt te ow, LcParts Z ce C.own Wx X elt tg it ifs scope (sucK (kb elt)) (Fb elt + 1) (Tb elt + 1) (lcF C f m ke sc elt tg it ifs scope) wi g tt te ow := by
  generalize hgd : (pureIt it elt ifs && oneIf ifs && notSet it && (itPl sc tg it).1.all notStar && (itPl sc tg it).1.all (fun e => decide (ke e ≤ 1)) && blkC C.N sc scope (ownNames C.N scope) && (asgSlots C.N scope tg).all (fun i => ((ownNames C.N scope).map (·.2)).contains i) && ((ownNames C.N scope).map (·.2)).all (fun i => decide (ownAt C.own i = 0))) = gd
  cases gd with
  | false =>
    refine .inl fun ρ w => ?_
    unfold lcF
    rw [hgd]; rfl
  | true =>
    have hgd0 := hgd
    simp only [Bool.and_eq_true] at hgd
    obtain ⟨⟨⟨⟨⟨⟨⟨gp, gi⟩, g0⟩, g1⟩, g2⟩, g3⟩, g4⟩, g5⟩ := hgd
    have hpu2 : isAtE it = true → ∀ ρ d w o w', elR C f m (relS scope sc) scope tg ifs elt ρ d w = .ok o w' → w' = w := fun ha => by
      unfold pureIt at gp
      rw [ha] at gp
      obtain ⟨p1, p2⟩ := Bool.and_eq_true_iff.mp gp
      exact hpu p1 p2
    generalize hvs : (ownNames C.N scope).map (·.2) = vs at g4 g5 ⊢
    have bok : BlkOk X.N X.env.scope scope (ownNames C.N scope) := by rw [K.nm, K.sc_]; exact blkOk_by g3
    have hfs : ∀ x, foldedSetIterable it X.env x = pure x := fun x => by cases it <;> first | rfl | cases g0
    have inVs : ∀ i ∈ asgSlots C.N scope tg, i ∈ vs := fun i hi => by simpa using List.all_eq_true.mp g4 i hi
    have own0 : ∀ i ∈ vs, ownK (ownAt C.own i) = .sh := fun i hi => by rw [of_decide_eq_true (List.all_eq_true.mp g5 i hi)]; rfl
    have kle : maxK ((itPl sc tg it).1.map ke) ≤ 1 := by
      have : ∀ es : List Expr, es.all (fun e => decide (ke e ≤ 1)) = true → maxK (es.map ke) ≤ 1 := by
        intro es
        induction es with
        | nil => intro _; exact Nat.zero_le _
        | cons e es ih =>
          intro h
          simp only [List.all_cons, Bool.and_eq_true, decide_eq_true_eq] at h
          exact Nat.max_le.mpr ⟨h.1, ih h.2⟩
      exact this _ g2
    have hpg : ∀ (s : Shared) (H : Hp) (Ca : Addr) (cl : List (Str × Addr)) (fp : List Addr), PG (X.blk s H scope (compEnvC scope cl Ca X.env) fp) tg (gOf X.K C.N scope tg) := fun s H Ca cl fp =>
      pg_of (X := X.blk s H scope (compEnvC scope cl Ca X.env) fp) K.nm K.nd K.calm (fun x i h => wr_blk K h) tg
    -- the turn, by the tests' reading
    have main : ∀ (tt : L2.St → TT), (∀ σ s H Ca cl fp, TkX X scope σ (wxf ce Wx) s H (compEnvC scope cl Ca X.env) fp → PTs (ctxE X s H scope (compEnvC scope cl Ca X.env) fp) ifs (tt σ)) →
        (∀ {τ : L2.St} {γ : GP} {σ : L2.St} {H : Hp} {ρ : Rho} {w : W} {Q : Bool → Hp → Prop} {ok : Option D → W → Prop} {ex : Str → W → Prop}, Good Z ce C.own γ σ H ρ w → (∀ c w', ex c w' → exE Z γ H (fun c _ H' => Wx c τ H') σ c w') → Post (match ifs with
            | [] => (f (relS scope sc) elt ρ w).bind fun x w => .ok (some x) w
            | [c] => (tst f m (relS scope sc) c ρ w).bind fun b w => match b with
              | true => (f (relS scope sc) elt ρ w).bind fun x w => .ok (some x) w
              | false => .ok none w
            | _ => .no) ok ex →
          (∀ H' g' w', CStep γ.g H g' H' → WOk Z g' H' w' → Post (f (relS scope sc) elt ρ w') (fun x w => ok (some x) w) ex → Q true H') → (∀ H' g' w', CStep γ.g H g' H' → WOk Z g' H' w' → ok none w' → Q false H') → tt τ σ H Q) →
        LcParts Z ce C.own Wx X elt tg it ifs scope (sucK (kb elt)) (Fb elt + 1) (Tb elt + 1) (fun ρ w =>
          (trav (fun e w => f sc e ρ w) (itPl sc tg it).1 w).bind fun ds w => (lift ((itPl sc tg it).2 (drI C w it ds)) w).bind fun items w =>
              (calmR (compR (elR C f m (relS scope sc) scope tg ifs elt (wipeR ρ vs)) items w)).bind fun ys w => .ok (.list ys) w) (tIW Z ce C.own ke Wx (fun e ρ w => f sc e ρ w) C it (itPl sc tg it)) (gOf X.K C.N scope tg) tt (fun τ => tE Z ce C.own (kb elt) (Fb elt) (Tb elt) (fun c _ H' => Wx c τ H') fun ρ w => f (relS scope sc) elt ρ w) (ownNames C.N scope) := by
      intro tt hpt htt
      refine ⟨it_okW h3 K hn hev tg it g1, bok, hpg, hpt, fun σ s H Ca cl fp t => hevB _ _ (K.blk t) elt, hfs, fun σ H Q ⟨γ, ρ, w, G, q⟩ => ?_⟩
      rw [hvs]
      refine ⟨γ, ρ, w, G, q.bind.imp (fun ds w1 h1 => ?_) fun c w1 h1 => h1⟩
      obtain ⟨items, ei, h2⟩ := h1.bind.lift
      have h4 := h2.bind.calm
      refine ⟨items, ei, fun vs1 H1 g1' x1 wk1 r1 J y ln Da hDa => ?_⟩
      have hD : H Da = none := x1.none wk1 hDa
      have hD0 : γ.H0 Da = none := G.st0.none G.wok hD
      let Wv : Nat → Hp → Prop := fun i Hi => i ≤ items.length ∧ ∃ γi wi acc ysd, (isAtE it = true → wi = w1) ∧ Good Z ce C.own γi (L2.wipe σ vs) Hi (wipeR ρ vs) wi ∧ γi.H0 = γ.H0 ∧ (∀ a, a ∈ γ.Vv → a ∈ γi.Vv) ∧ (∀ a, a ∈ γ.L → a ∈ γi.L) ∧ (∀ a, a ∈ γi.L → a ∈ γ.L ∨ a = Da ∨ a ∈ γi.g.Om) ∧ Da ∈ γi.Vv ∧ Da ∉ γi.g.Om ∧ CStep g1' H1 γi.g Hi ∧
        Hi Da = some (.lst acc) ∧ acc.length ≤ i ∧ Reps ce γi.g.hs Hi (fun j a => PexO (sucK (kb elt)) (Fb elt + 1) (Tb elt + 1) γ H γi.g (j + 1) a ∧ a ≠ Da) acc ysd ∧
        (1 ≤ Fb elt → ∀ (i j : Nat) (a : Addr) (es es' : List D), acc[i]? = some (.ref a) → acc[j]? = some (.ref a) → ysd[i]? = some (.list es) → ysd[j]? = some (.list es') → i = j) ∧
        Post (compR (elR C f m (relS scope sc) scope tg ifs elt (wipeR ρ vs)) (items.drop i) wi) (fun ysr w' => okE2 Z ce (sucK (kb elt)) (Fb elt + 1) (Tb elt + 1) γ H Q (.list (ysd ++ ysr)) w') (exE Z γ H Wx σ)
      refine ⟨fun i n Hi => n = items.length - i ∧ Wv i Hi, ⟨items.length, by simp, Nat.zero_le _, { γ.step g1' with Vv := Da :: (γ.step g1').Vv, L := Da :: (γ.step g1').L }, w1, [], [], (fun _ => rfl), ((G.step x1 wk1).alloc hDa).wipe vs, rfl, fun a h => List.mem_cons_of_mem _ (List.mem_append_right _ h), fun a h => List.mem_cons_of_mem _ (List.mem_append_right _ h), ?_, List.mem_cons_self, fun z => wk1.dom _ z hDa, .ext (HExt.upd hDa), upd_same, Nat.le_refl _, .nil, (fun _ i j a es es' h => by simp at h), ?_⟩, ?_⟩
      · intro a h
        rcases List.mem_cons.mp h with z | z
        · exact .inr (.inl z)
        · rcases List.mem_append.mp z with z | z
          · exact .inr (.inr z)
          · exact .inl z
      · exact h4.imp (fun ys w' h => h.ok) fun _ _ h => h
      rintro i n Hi ⟨rfl, hi, γi, wi, acc, ysd, hwi, Gi, e0, hV, hL, hL', hDV, hDO, xi, eD, la, ra, dsj, hp⟩
      have r1i : Reps ce γi.g.hs Hi (fun j a => (Pex (maxK ((itPl sc tg it).1.map ke)) 0 0 γ H j a ∧ a ≠ Da) ∧ a ∉ γi.g.Om) vs1 ds :=
        Reps.stepO (P := fun j a => Pex (maxK ((itPl sc tg it).1.map ke)) 0 0 γ H j a ∧ a ≠ Da) (r1.dom.mono fun j a p => ⟨⟨p.1.1, fun z => p.2 (z ▸ hDa)⟩, p.1.2⟩) wk1 xi
      obtain ⟨yg, ys⟩ := y _ _ _ wi Gi.wok.rel hwi r1i
      by_cases hlt : i < items.length
      · obtain ⟨go, yl⟩ := yg i items[i] (by simp [hlt])
        refine .inr ⟨go, Wv (i + 1), fun H' p => ⟨items.length - (i + 1), by omega, rfl, p⟩, fun x H' hy => ?_⟩
        obtain ⟨xx, rx⟩ := yl x H' hy
        rw [List.drop_eq_getElem_cons hlt] at hp
        have hp2 := (Post.bind (r := elR C f m (relS scope sc) scope tg ifs elt (wipeR ρ vs) items[i] wi) hp).eqn
        have hp2 := hp2.imp (fun o w' h => (⟨fun ha => (hpu2 ha _ _ _ _ _ h.1).trans (hwi ha), h.2⟩ : (isAtE it = true → w' = w1) ∧ _)) fun _ _ h => h
        rw [elR_eq] at hp2
        obtain ⟨ρ2, e2, hp3⟩ := hp2.bind.lift
        unfold asgR at e2
        cases els : asgL C.N scope tg items[i] with
        | none => rw [els] at e2; cases e2
        | some ls =>
          rw [els] at e2
          have e2 := (Option.some.inj e2).symm
          subst e2
          refine asg_go (R := fun a => a ∉ γi.L) els rx (fun j a ⟨j', hj, p⟩ z => ?_) fun us ru => ?_
          · rcases hL' a z with z | z | z
            · exact p.1.1.2.2.2 (Nat.le_trans kle hj) z
            · exact p.1.2 z
            · exact p.2 z
          have inS : ∀ p ∈ ls, p.1 ∈ vs := fun p hp => inVs _ (asg_slots els p hp)
          have wσ : L2.wipe (setV (L2.wipe σ vs) (ls.map (·.1)) us) vs = L2.wipe σ vs := by
            rw [wipe_setV fun i hi => by obtain ⟨p, hp, rfl⟩ := List.mem_map.mp hi; exact inS p hp, wipe_wipe fun u h => h]
          have wρ : wipeR (setR (wipeR ρ vs) ls) vs = wipeR ρ vs := by rw [wipeR_setR inS, wipeR_wipeR fun u h => h]
          have G2 : Good Z ce C.own γi (setV (L2.wipe σ vs) (ls.map (·.1)) us) H' (setR (wipeR ρ vs) ls) wi := (Gi.ext xx).setL (fun p hp => own0 _ (inS p hp)) ru
          have eD' : H' Da = some (.lst acc) := xx _ _ eD
          have ra' := ra.ext xx
          refine ⟨wσ, htt (τ := σ) G2 (fun c w' h H5 g5 x5 wk5 => h H5 g5 (x1.trans (xi.trans ((CStep.ext xx).trans x5))) wk5) hp3 (fun H3 g3 w3 x3 wk3 h5 => iteT ?_) fun H3 g3 w3 x3 wk3 h5 => iteF ?_⟩
          · refine ⟨γi.step g3, _, w3, G2.step x3 wk3, h5.imp (fun yd w4 h6 v H4 g4 x4 wk4 rv => ?_) fun c w4 h6 H5 g5 x5 wk5 => h6 H5 g5 (x1.trans (xi.trans ((CStep.ext xx).trans (x3.trans x5)))) wk5⟩
            have x34 : CStep γi.g H' g4 H4 := x3.trans x4
            have eD4 : H4 Da = some (.lst acc) := x34.keep _ _ hDO eD'
            have hDO4 : Da ∉ g4.Om := fun z => (x34.new _ z).elim hDO fun q => by rw [q] at eD'; cases eD'
            refine ⟨acc, eD4, by rw [sizeLine_eq] at ln ⊢; omega, hlt, γi.step g4, w4, acc ++ [v], ysd ++ [yd], h6.1, ?_, e0, fun a h => List.mem_append_right _ (hV a h), fun a h => List.mem_append_right _ (hL a h), fun a h => ?_, List.mem_append_right _ hDV, hDO4, ?_, upd_same, by rw [List.length_append]; exact Nat.add_le_add_right la 1, ?_, ?_, ?_⟩
            · have G4 := (G2.step x34 wk4).wipe vs
              rw [wσ, wρ] at G4
              exact G4.updV (List.mem_append_right _ hDV) hDO4 (by show γi.H0 Da = none; rw [e0]; exact hD0) eD4
            · rcases List.mem_append.mp h with z | z
              · exact .inr (.inr z)
              · rcases hL' a z with z | z | z
                · exact .inl z
                · exact .inr (.inl z)
                · exact .inr (.inr (x34.sub a z))
            · refine ⟨fun b o hb e => ?_, (xi.trans ((CStep.ext xx).trans x34)).sub, (xi.trans ((CStep.ext xx).trans x34)).new, (xi.trans ((CStep.ext xx).trans x34)).hs⟩
              rw [upd_ne (fun z => by rw [z, hDa] at e; cases e)]
              exact (xi.trans ((CStep.ext xx).trans x34)).keep b o hb e
            · have keepU : ∀ {P : Pd} {vs : List V} {ds : List D}, Reps ce g4.hs H4 (fun j a => P j a ∧ a ≠ Da) vs ds → Reps ce g4.hs (upd H4 Da (.lst (acc ++ [v]))) (fun j a => P j a ∧ a ≠ Da) vs ds := fun r =>
                r.go (fun j b o p e => ⟨p, by rw [upd_ne p.2]; exact e⟩) (fun b o t e => by rw [upd_ne (fun z => by rw [z, eD4] at e; cases e; exact t)]; exact e) fun _ _ e => e
              refine keepU (Reps.append ?_ (.one ?_))
              · refine (Reps.stepO (P := fun j a => Pex (sucK (kb elt)) (Fb elt + 1) (Tb elt + 1) γ H (j + 1) a ∧ a ≠ Da) (ra'.mono fun j a p => ⟨⟨p.1.1, p.2⟩, p.1.2⟩) (Gi.wok.ext xx) x34).mono fun j a p => ⟨⟨p.1.1, p.2⟩, p.1.2⟩
              · refine rv.mono fun j a p => ⟨?_, fun z => p.1.2.2.1 (z ▸ List.mem_append_right _ hDV)⟩
                refine PexO.up ⟨⟨fun h => ?_, fun h => by rw [← e0]; exact p.1.2.1 h, fun z => p.1.2.2.1 (List.mem_append_right _ (hV a z)), fun h z => p.1.2.2.2 h (List.mem_append_right _ (hL a z))⟩, p.2⟩
                have z3 : H3 a = none := p.1.1 h
                have zc : CStep γ.g H g3 H3 := x1.trans (xi.trans ((CStep.ext xx).trans x3))
                exact zc.none wk3 z3
            · intro hF i j a es es' h1 h2 d1 d2
              have la2 : acc.length = ysd.length := ra.length
              have old : ∀ (i : Nat) (es : List D), i < acc.length → (acc ++ [v])[i]? = some (.ref a) → (ysd ++ [yd])[i]? = some (.list es) → acc[i]? = some (.ref a) ∧ ysd[i]? = some (.list es) ∧ H3 a ≠ none := fun i es hi h d => by
                rw [List.getElem?_append_left hi] at h
                rw [List.getElem?_append_left (by omega)] at d
                obtain ⟨v', e', r'⟩ := ra.get d
                rw [h] at e'
                cases e'
                cases r' with
                | lst q1 q2 q3 q4 => exact ⟨h, d, by rw [x3.keep _ _ q3.1.2 (xx _ _ q1)]; exact fun z => nomatch z⟩
              have new : ∀ (i : Nat) (es : List D), ¬ i < acc.length → (acc ++ [v])[i]? = some (.ref a) → (ysd ++ [yd])[i]? = some (.list es) → i = acc.length ∧ H3 a = none := fun i es hi h d => by
                have hi2 : i = acc.length := by
                  have := (List.getElem?_eq_some_iff.mp h).1
                  rw [List.length_append, List.length_singleton] at this
                  omega
                subst hi2
                rw [List.getElem?_concat_length] at h
                rw [la2, List.getElem?_concat_length] at d
                cases h
                cases d
                cases rv with
                | lst q1 q2 q3 q4 => exact ⟨rfl, q3.1.1 hF⟩
              by_cases ci : i < acc.length
              · by_cases cj : j < acc.length
                · obtain ⟨a1, b1, _⟩ := old i es ci h1 d1
                  obtain ⟨a2, b2, _⟩ := old j es' cj h2 d2
                  exact dsj hF i j a es es' a1 a2 b1 b2
                · exact absurd (new j es' cj h2 d2).2 (old i es ci h1 d1).2.2
              · by_cases cj : j < acc.length
                · exact absurd (new i es ci h1 d1).2 (old j es' cj h2 d2).2.2
                · rw [(new i es ci h1 d1).1, (new j es' cj h2 d2).1]
            · have h7 := Post.bind (r := compR (elR C f m (relS scope sc) scope tg ifs elt (wipeR ρ vs)) (items.drop (i + 1)) w4) h6.2
              refine h7.imp (fun ysr w5 h8 => ?_) fun _ _ h => h
              have h8 : okE2 Z ce (sucK (kb elt)) (Fb elt + 1) (Tb elt + 1) γ H Q (.list (ysd ++ yd :: ysr)) w5 := h8
              rw [List.append_assoc]
              exact h8
          · refine ⟨hlt, γi.step g3, w3, acc, ysd, h5.1, ?_, e0, fun a h => List.mem_append_right _ (hV a h), fun a h => List.mem_append_right _ (hL a h), fun a h => ?_, List.mem_append_right _ hDV, (fun z => (x3.new _ z).elim hDO fun q => by rw [q] at eD'; cases eD'), xi.trans ((CStep.ext xx).trans x3), x3.keep _ _ hDO eD', Nat.le_succ_of_le la, ?_, dsj, ?_⟩
            · have G3 := (G2.step x3 wk3).wipe vs
              rw [wσ, wρ] at G3
              exact G3
            · rcases List.mem_append.mp h with z | z
              · exact .inr (.inr z)
              · rcases hL' a z with z | z | z
                · exact .inl z
                · exact .inr (.inl z)
                · exact .inr (.inr (x3.sub a z))
            · exact (Reps.stepO (P := fun j a => Pex (sucK (kb elt)) (Fb elt + 1) (Tb elt + 1) γ H (j + 1) a ∧ a ≠ Da) (ra'.mono fun j a p => ⟨⟨p.1.1, p.2⟩, p.1.2⟩) (Gi.wok.ext xx) x3).mono fun j a p => ⟨⟨p.1.1, p.2⟩, p.1.2⟩
            · have h7 := Post.bind (r := compR (elR C f m (relS scope sc) scope tg ifs elt (wipeR ρ vs)) (items.drop (i + 1)) w3) h5.2
              exact h7.imp (fun ysr w5 h8 => h8) fun _ _ h => h
      · have ei : i = items.length := by omega
        subst ei
        refine .inl ⟨ys, ?_⟩
        rw [List.drop_length] at hp
        have hq : okE2 Z ce (sucK (kb elt)) (Fb elt + 1) (Tb elt + 1) γ H Q (.list (ysd ++ [])) wi := hp
        rw [List.append_nil] at hq
        refine hq _ Hi γi.g (x1.trans xi) Gi.wok (.lst eD (by rw [sizeLine_eq] at ln ⊢; omega) ?_ ra) ?_
        · exact ⟨(G.newP x1 wk1 hDa _ _ _ _).1, hDO⟩
        · intro hF p vs' ds' ev ed ep
          cases ev
          cases ed
          rw [eD] at ep
          cases ep
          exact dsj (by omega)
    have eF : lcF C f m ke sc elt tg it ifs scope = fun ρ w => (trav (fun e w => f sc e ρ w) (itPl sc tg it).1 w).bind fun ds w => (lift ((itPl sc tg it).2 (drI C w it ds)) w).bind fun items w =>
              (calmR (compR (elR C f m (relS scope sc) scope tg ifs elt (wipeR ρ vs)) items w)).bind fun ys w => .ok (.list ys) w := by
      funext ρ w
      unfold lcF
      rw [hgd0, hvs]; rfl
    rw [eF]
    right
    clear eF hgd0
    rcases ifs with _ | ⟨c, _ | ⟨c2, r⟩⟩
    · exact ⟨_, _, _, _, _, main (fun _ => tYes) (fun σ s H Ca cl fp t => pts_nil) fun {τ γ σ H ρ w Q ok ex} G hx hp ht hf => ht H γ.g w CStep.refl G.wok (Post.bind (r := f (relS scope sc) elt ρ w) hp)⟩
    · refine ⟨_, _, _, _, _, main (fun τ => tT Z ce C.own (fun c _ H' => Wx c τ H') fun ρ w => tst f m (relS scope sc) c ρ w) (fun σ s H Ca cl fp t => pts_one (htB _ _ (K.blk t) c)) fun {τ γ σ H ρ w Q ok ex} G hx hp ht hf => ⟨γ, ρ, w, G, ?_⟩⟩
      refine (Post.bind (r := tst f m (relS scope sc) c ρ w) hp).imp (fun b w1 h1 H1 g1 x1 wk1 => ?_) fun c w h => hx c w h
      cases b with
      | true => exact ht H1 g1 w1 x1 wk1 (Post.bind (r := f (relS scope sc) elt ρ w1) h1)
      | false => exact hf H1 g1 w1 x1 wk1 h1
    · cases gi
theorem le_lc (h3 : Zip3Ok ce) (K : Cok Z ce C X sc Wx) {f : Scope → Expr → Rho → W → Res W D} {m : Nat} {ke Fe Te kb Fb Tb : Expr → Nat} {elt tg it : Expr} {ifs : List Expr} {scope : Scope}
    (hn : NmOk fun e ρ w => f sc e ρ w) (hev : ∀ e, PE X e (tE Z ce C.own (ke e) (Fe e) (Te e) Wx fun ρ w => f sc e ρ w))
    (hevB : ∀ Xb Wy, Cok Z ce C Xb (relS scope sc) Wy → ∀ e, PE Xb e (tE Z ce C.own (kb e) (Fb e) (Tb e) Wy fun ρ w => f (relS scope sc) e ρ w))
    (htB : ∀ Xb Wy, Cok Z ce C Xb (relS scope sc) Wy → ∀ e, PT Xb e (tT Z ce C.own Wy fun ρ w => tst f m (relS scope sc) e ρ w))
    (hpu : isNmE elt = true → pureIf ifs = true → ∀ ρ d w o w', elR C f m (relS scope sc) scope tg ifs elt ρ d w = .ok o w' → w' = w) :
    PE X (.ListComp elt [⟨tg, it, ifs, 0⟩] scope pos) (tE Z ce C.own (sucK (kb elt)) (Fb elt + 1) (Tb elt + 1) Wx (lcF C f m ke sc elt tg it ifs scope)) := by
  rcases lc_parts (m := m) (elt := elt) (tg := tg) (it := it) (ifs := ifs) h3 K hn hev hevB htB hpu with h | ⟨wi, g, tt, te, ow, P⟩
  · exact le_none h
  · exact imE (pe_lcX K.calm (by rw [K.nm]; exact K.nd) K.fr K.tf P.hi P.ok P.hg P.ht P.he P.hs) fun σ H Q q => P.rd σ H Q (tE_two q)
theorem le_lc2 (h3 : Zip3Ok ce) (K : Cok Z ce C X sc Wx) {f : Scope → Expr → Rho → W → Res W D} {m : Nat} {ke Fe Te kb Fb Tb : Expr → Nat} {elt tg it : Expr} {ifs : List Expr} {scope : Scope}
    (hn : NmOk fun e ρ w => f sc e ρ w) (hev : ∀ e, PE X e (tE Z ce C.own (ke e) (Fe e) (Te e) Wx fun ρ w => f sc e ρ w))
    (hevB : ∀ Xb Wy, Cok Z ce C Xb (relS scope sc) Wy → ∀ e, PE Xb e (tE Z ce C.own (kb e) (Fb e) (Tb e) Wy fun ρ w => f (relS scope sc) e ρ w))
    (htB : ∀ Xb Wy, Cok Z ce C Xb (relS scope sc) Wy → ∀ e, PT Xb e (tT Z ce C.own Wy fun ρ w => tst f m (relS scope sc) e ρ w))
    (hpu : isNmE elt = true → pureIf ifs = true → ∀ ρ d w o w', elR C f m (relS scope sc) scope tg ifs elt ρ d w = .ok o w' → w' = w) :
    PE X (.ListComp elt [⟨tg, it, ifs, 0⟩] scope pos) (tE2 Z ce C.own (sucK (kb elt)) (Fb elt + 1) (Tb elt + 1) Wx (lcF C f m ke sc elt tg it ifs scope)) := by
  rcases lc_parts (m := m) (elt := elt) (tg := tg) (it := it) (ifs := ifs) h3 K hn hev hevB htB hpu with h | ⟨wi, g, tt, te, ow, P⟩
  · exact ⟨fun pins s σ H Q I ⟨γ, ρ, w, G, q⟩ => by rw [h] at q; exact q.elim⟩
  · exact imE (pe_lcX K.calm (by rw [K.nm]; exact K.nd) K.fr K.tf P.hi P.ok P.hg P.ht P.he P.hs) P.rd
end
end T
namespace T
open PySem PySem.Spec PyProof.Rows L2
section
variable {W : Type} {Z : Wd W} {ce : Str → Option Addr} {C : Cfg W} {pl : Pl}
theorem isTrue_leaf {e : Expr} {env : Env} (h1 : ∀ a p, e ≠ .UnaryOp .Not a p) (h2 : ∀ o es p, e ≠ .BoolOp o es p) (h3 : ∀ a b c p, e ≠ .IfExp a b c p) (h4 : ∀ a b c p, e ≠ .Compare a b c p) : ∀ whole, isTrue e env whole = (do let v ← whole; standAt e.pos; holding [v] (truthy v)) := by
  intro whole
  cases e with
  | UnaryOp o a p => cases o <;> first | rfl | exact absurd rfl (h1 a p)
  | BoolOp o es p => exact absurd rfl (h2 o es p)
  | IfExp a b c p => exact absurd rfl (h3 a b c p)
  | Compare a b c p => exact absurd rfl (h4 a b c p)
  | _ => rfl
/-- the plain forms are calls and the like -/
def plForm : Expr → Bool
  | .Call _ _ _ _ => true
  | .Subscript _ _ _ => true
  | .Attribute _ _ _ => true
  | _ => false
def PlLeaf (pl : Pl) : Prop := (∀ sc e, pl sc e ≠ none → plForm e = true) ∧ ∀ sc y p q p2 es g, pl sc (.Call (.Name "len" p) [.Name y q] [] p2) = some (es, g) → es = [.Name y q] ∧ isGlo sc "len" = true
theorem PlLeaf.none {pl : Pl} (h : PlLeaf pl) {sc : Scope} {e : Expr} (hf : plForm e = false) : pl sc e = none := by
  cases q : pl sc e with
  | none => rfl
  | some x => have := h.1 sc e (by rw [q]; exact fun z => nomatch z); rw [hf] at this; cases this
theorem tst_ok {X : Cx} {sc : Scope} {Wx : Str → L2.St → Hp → Prop} {f : Scope → Expr → Rho → W → Res W D} {ke Fe Te : Expr → Nat} (hE : ∀ e, PE X e (tE Z ce C.own (ke e) (Fe e) (Te e) Wx fun ρ w => f sc e ρ w)) (hC : ∀ a b c p, PT X (.Compare a b c p) (tTest (tE Z ce C.own 0 9 9 Wx fun ρ w => f sc (.Compare a b c p) ρ w))) :
    ∀ (m : Nat) (e : Expr), PT X e (tT Z ce C.own Wx fun ρ w => tst f m sc e ρ w) ∧ PE X e (tE Z ce C.own 0 9 9 Wx (asB fun ρ w => tst f m sc e ρ w))
  | 0, e => ⟨⟨fun pins s σ H Q I ⟨γ, ρ, w, G, q⟩ => q.elim⟩, ⟨fun pins s σ H Q I ⟨γ, ρ, w, G, q⟩ => q.elim⟩⟩
  | m + 1, e => by
    have ih := tst_ok hE hC m
    have leaf : (∀ a p, e ≠ .UnaryOp .Not a p) → (∀ o es p, e ≠ .BoolOp o es p) → (∀ a b c p, e ≠ .IfExp a b c p) → (∀ a b c p, e ≠ .Compare a b c p) → PT X e (tT Z ce C.own Wx fun ρ w => (f sc e ρ w).bind asBool) ∧ PE X e (tE Z ce C.own 0 9 9 Wx (asB fun ρ w => (f sc e ρ w).bind asBool)) := fun h1 h2 h3 h4 =>
      ⟨imT (pt_val (hE e) (isTrue_leaf h1 h2 h3 h4)) fun σ H Q h => bool_read h, imE (hE e) fun σ H Q h => bool_readE h⟩
    cases e with
    | BoolOp o es p =>
      cases es with
      | nil => cases o <;> exact ⟨⟨fun pins s σ H Q I ⟨γ, ρ, w, G, q⟩ => q.elim⟩, ⟨fun pins s σ H Q I ⟨γ, ρ, w, G, q⟩ => q.elim⟩⟩
      | cons e es =>
        cases o with
        | And => exact ⟨(lw_and es e fun x hx => (ih x).1).pt, le_and es e fun x hx => (ih x).2⟩
        | Or => exact ⟨(lw_or es e fun x hx => (ih x).1).pt, le_or es e fun x hx => (ih x).2⟩
    | UnaryOp o a p =>
      cases o with
      | Not => exact ⟨lt_not (ih a).1, le_not (ih a).2⟩
      | _ => exact leaf (fun _ _ h => by cases h) (fun _ _ _ h => by cases h) (fun _ _ _ _ h => by cases h) (fun _ _ _ _ h => by cases h)
    | IfExp a b c p => exact ⟨⟨fun pins s σ H Q I ⟨γ, ρ, w, G, q⟩ => q.elim⟩, ⟨fun pins s σ H Q I ⟨γ, ρ, w, G, q⟩ => q.elim⟩⟩
    | Compare a b c p => exact ⟨imT (hC a b c p) fun σ H Q h => bool_read h, imE (hE _) fun σ H Q h => bool_readE h⟩
    | _ => exact leaf (fun _ _ h => by cases h) (fun _ _ _ h => by cases h) (fun _ _ _ _ h => by cases h) (fun _ _ _ _ h => by cases h)
theorem const_ok {X : Cx} {Wx : Str → L2.St → Hp → Prop} {x : Str} {d : D} {sc : Scope} {p : Pos} {k nF nT : Nat} (K : Cok Z ce C X sc Wx) (hg : isGlo sc x = true) (h : C.Γ x = some d) : PE X (.Name x p) (tE Z ce C.own k nF nT Wx fun _ w => .ok d w) := by
  obtain ⟨gl, okn⟩ := isGlo_ok K.sc_ hg
  rcases K.gam x d h with ⟨i, t, rfl, e⟩ | ⟨z, t, rfl, e⟩
  · exact le_const (pe_glob (v := V.int i) gl e ⟨t, rfl⟩ (okName_d okn).1) fun _ _ _ => .int i
  · exact le_const (pe_glob (v := V.str z) gl e ⟨t, rfl⟩ (okName_d okn).1) fun _ _ _ => .str z
theorem call0_ok {X : Cx} {Wx : Str → L2.St → Hp → Prop} {x : Str} {sc : Scope} {p pos : Pos} {k nF nT : Nat} {g : List D → W → Res W D} (K : Cok Z ce C X sc Wx) (hg : isGlo sc x = true) (h : C.Φ x = some g) : PE X (.Call (.Name x p) [] [] pos) (tE Z ce C.own k nF nT Wx fun _ w => g [] w) := by
  obtain ⟨kk, f, fd, ps, F, hr, hm, hk, hb⟩ := K.fns x g h
  obtain ⟨gl, okn⟩ := isGlo_ok K.sc_ hg
  refine ⟨fun pins s σ H Q I ⟨γ, ρ, w, G, q⟩ => ?_⟩
  refine wpAny_Call_Name_kw (ld_glob I gl hm ?_ (okName_d okn).1)
  refine PySem.W.callWith_K0 I.kIn hk (run_fnS (us := []) (vs := []) F hr hb (passAt K.tk σ) I .nil ?_)
  refine ⟨γ.g, [], w, G.wok, .nil, q.imp (fun d w2 h2 v H2 g2 x2 wk2 r2 => ?_) fun c w2 h2 H2 g2 K' x2 wk2 hK => ?_⟩
  · exact h2 v H2 g2 x2 wk2 (r2.mono fun j a p => ⟨(G.newP CStep.refl G.wok p.1 _ _ _ _).1, p.2⟩)
  · exact ⟨rfl, c, K', hK, rfl, h2 H2 g2 x2 wk2⟩
def rIsX (X : Cx) : List V → Hp → VK → Prop := fun xs H Q => ∃ (a K' : Addr) (v : V) (u : Value) (b : Bool), xs = [.ref a, v] ∧ H a = some (.ext (excPhi K' a)) ∧ L2.ExcC X.K K' ∧ (∀ u', L2.RelV v u' → u' = u) ∧ PySem.W.kitOne X.K (.ref K') u = some b ∧ Q (.bl b) H
theorem call_isX {X : Cx} : CallR X (.builtin "isinstance") (rIsX X) := by
  intro pins s σ H xs us Q I r h
  obtain ⟨a, K', v, u, b, rfl, hH, EC, hu, e, q⟩ := h
  cases r with
  | cons rx rr =>
    cases rr with
    | cons rt rr =>
      cases rr
      cases rx
      have ec := hu _ rt
      subst ec
      obtain ⟨oe, vs, he, hc, hd, hv⟩ := (I.hok a _ hH).1
      have J : PySem.W.InstAt s.heap a oe K' none := by
        obtain ⟨oc, od, oda, osl⟩ := oe
        dsimp only at hc hd hv
        subst hc hd hv
        exact ⟨he, rfl, rfl, trivial⟩
      exact PySem.W.kia_one (PySem.W.handS_kitx_exc EC.hg EC.hk EC.hs EC.hd EC.ha EC.hn EC.ht EC.hm) I.kIn J e (fun z => nomatch z) fun tk => ⟨.bl b, H, I.kept (t' := tk) fun _ _ z => z, rfl, q⟩
theorem le_isx {X : Cx} {sc : Scope} {Wx : Str → L2.St → Hp → Prop} {a : Expr} {c : Str} {p p2 pos : Pos} {ka Fa Ta k nF nT : Nat} {fa : Rho → W → Res W D} (K : Cok Z ce C X sc Wx) (h0 : isGlo sc "isinstance" = true) (h1 : isGlo sc c = true) (h2 : errNm C.errs c = true) (hs : notStar a = true) (h : PE X a (tE Z ce own ka Fa Ta Wx fa)) :
    PE X (.Call (.Name "isinstance" p) [a, .Name c p2] [] pos) (tE Z ce own k nF nT Wx fun ρ w => (fa ρ w).bind fun d w => lift (isxD c d) w) := by
  obtain ⟨gl, okn⟩ := isGlo_ok K.sc_ h0
  obtain ⟨gl2, okn2⟩ := isGlo_ok K.sc_ h1
  by_cases hce : ∃ c' Kc, ce c' = some Kc
  · obtain ⟨c0, K0, hc0⟩ := hce
    obtain ⟨v, u, cv, _⟩ := K.kit c0 K0 hc0 c h2
    have pc : PE X (.Name c p2) (tC v) := by
      rcases cv with ⟨b, rfl, rfl, e⟩ | ⟨t, rfl, rfl, e1, e2⟩
      · exact pe_glob gl2 e rfl (okName_d okn2).1
      · exact pe_bltn gl2 e1 e2 rfl (okName_d okn2).2.2 (okName_d okn2).1
    refine imE (pe_callB (id := "isinstance") call_isX gl (K.bi _ (by decide)) (by decide +kernel) (pa_cons h (pa_cons pc pa_nil rfl) (star_cons hs)) (by decide) (by decide) (star_cons hs) rfl) fun σ H Q ⟨γ, ρ, w, G, q⟩ => ?_
    refine ⟨γ, ρ, w, G, q.bind.imp (fun d w1 h1' v1 H1 g1 x1 wk1 r1 => ?_) fun c w1 h1 => h1⟩
    obtain ⟨d2, e2, q2⟩ := h1'.lift
    unfold isxD at e2
    split at e2
    · rename_i c'
      cases e2
      cases r1 with
      | @exc _ a' K' _ e3 e4 =>
        obtain ⟨v', u', cv', kt⟩ := K.kit c' K' e4 c h2
        have hvv : v' = v ∧ u' = u := by
          rcases cv with ⟨b, rfl, rfl, e⟩ | ⟨t, rfl, rfl, e1, e2⟩ <;> rcases cv' with ⟨b', rfl, rfl, e'⟩ | ⟨t', rfl, rfl, e1', e2'⟩
          · rw [e] at e'; cases e'; exact ⟨rfl, rfl⟩
          · rw [e] at e1'; cases e1'
          · rw [e1] at e'; cases e'
          · rw [e2] at e2'; cases e2'; exact ⟨rfl, rfl⟩
        obtain ⟨rfl, rfl⟩ := hvv
        refine ⟨a', K', v', u', _, rfl, e3, K.exi c' K' e4, fun u2 ru => ?_, kt, q2 _ H1 g1 x1 wk1 (.bl _)⟩
        rcases cv with ⟨b, rfl, rfl, e⟩ | ⟨t, rfl, rfl, e1, e2⟩ <;> exact ru
    · cases e2
  · have pc : PE X (.Name c p2) (fun _ _ _ => False) := ⟨fun _ _ _ _ _ _ z => z.elim⟩
    refine imE (pe_callB (id := "isinstance") call_isX gl (K.bi _ (by decide)) (by decide +kernel) (pa_cons h (pa_cons pc pa_nil rfl) (star_cons hs)) (by decide) (by decide) (star_cons hs) rfl) fun σ H Q ⟨γ, ρ, w, G, q⟩ => ?_
    refine ⟨γ, ρ, w, G, q.bind.imp (fun d w1 h1' v1 H1 g1 x1 wk1 r1 => ?_) fun c w1 h1 => h1⟩
    obtain ⟨d2, e2, q2⟩ := h1'.lift
    unfold isxD at e2
    split at e2
    · cases r1 with
      | exc e3 e4 => exact absurd ⟨_, _, e4⟩ hce
    · cases e2
/-! #### names and their comparisons leave the world as it is -/
theorem bind_inv {α β : Type} {r : Res W α} {f : α → W → Res W β} {b : β} {w' : W} (h : r.bind f = .ok b w') : ∃ a w, r = .ok a w ∧ f a w = .ok b w' := by
  cases r with
  | ok a w => exact ⟨a, w, rfl, h⟩
  | ex c w => cases h
  | no => cases h
theorem lift_inv {α : Type} {o : Option α} {w w' : W} {b : α} (h : lift o w = .ok b w') : w' = w := by
  cases o <;> cases h; rfl
theorem guard_inv {α : Type} {g : Bool} {r : Res W α} {b : α} {w' : W} (h : guardR g r = .ok b w') : r = .ok b w' := by
  cases g with
  | false => cases h
  | true => exact h
theorem evn_pure (hpl : PlLeaf pl) {n : Nat} {sc : Scope} {x : Str} {p : Pos} {ρ : Rho} {w w' : W} {d : D} (h : ev C pl n sc (.Name x p) ρ w = .ok d w') : w' = w := by
  cases n with
  | zero => cases h
  | succ n =>
    unfold ev at h
    rw [hpl.none (sc := sc) (e := .Name x p) rfl] at h
    have h : (match rdSlot C.N sc x with
      | some i => sl ρ i w
      | none => guardR (isGlo sc x) (lift (C.Γ x) w)) = .ok d w' := h
    split at h
    · unfold sl at h
      split at h
      · cases h; rfl
      · cases h
    · exact lift_inv (guard_inv h)
theorem evc_pure (hpl : PlLeaf pl) {n : Nat} {sc : Scope} {x y : Str} {p q p2 : Pos} {op : CmpOp} {ρ : Rho} {w w' : W} {d : D} (h : ev C pl n sc (.Compare (.Name x p) [op] [.Name y q] p2) ρ w = .ok d w') : w' = w := by
  cases n with
  | zero => cases h
  | succ n =>
    unfold ev at h
    rw [hpl.none (sc := sc) (e := .Compare (.Name x p) [op] [.Name y q] p2) rfl] at h
    have h : ((ev C pl n sc (.Name x p) ρ w).bind fun x w => (ev C pl n sc (.Name y q) ρ w).bind fun y w => (lift (cmpD op x y) w).bind fun t w => .ok (.bool t) w) = .ok d w' := h
    obtain ⟨a, w1, h1, h⟩ := bind_inv h
    obtain ⟨b, w2, h2, h⟩ := bind_inv h
    obtain ⟨t, w3, h4, h⟩ := bind_inv h
    cases h
    rw [lift_inv h4, evn_pure hpl h2, evn_pure hpl h1]
theorem nm_ev (hpl : PlLeaf pl) (n : Nat) (sc : Scope) : NmOk (fun e ρ w => ev C pl n sc e ρ w) := by
  intro x p ρ
  cases n with
  | zero => exact .inl fun _ => rfl
  | succ n =>
    have pln : pl sc (.Name x p) = none := hpl.none rfl
    have e : ∀ w, ev C pl (n + 1) sc (.Name x p) ρ w = (match rdSlot C.N sc x with
      | some i => sl ρ i w
      | none => guardR (isGlo sc x) (lift (C.Γ x) w)) := fun w => by
      unfold ev
      rw [pln]
      rfl
    cases hr : rdSlot C.N sc x with
    | some i =>
      cases hv : ρ[i]? with
      | none => exact .inl fun w => by refine (e w).trans ?_; rw [hr]; show sl ρ i w = _; unfold sl; rw [hv]
      | some o =>
        cases o with
        | none => exact .inl fun w => by refine (e w).trans ?_; rw [hr]; show sl ρ i w = _; unfold sl; rw [hv]
        | some d => exact .inr ⟨d, fun w => by refine (e w).trans ?_; rw [hr]; show sl ρ i w = _; unfold sl; rw [hv]⟩
    | none =>
      cases hg : isGlo sc x with
      | false => exact .inl fun w => by refine (e w).trans ?_; rw [hr, hg]; rfl
      | true =>
        cases hc : C.Γ x with
        | none => exact .inl fun w => by refine (e w).trans ?_; rw [hr, hg, hc]; rfl
        | some d => exact .inr ⟨d, fun w => by refine (e w).trans ?_; rw [hr, hg, hc]; rfl⟩
theorem elR_pure (hpl : PlLeaf pl) {n m : Nat} {sc scope : Scope} {tg elt : Expr} {ifs : List Expr} (h1 : isNmE elt = true) (h2 : pureIf ifs = true) (ρ : Rho) (d : D) (w : W) (o : Option D) (w' : W) (h : elR C (ev C pl n) m sc scope tg ifs elt ρ d w = .ok o w') : w' = w := by
  rw [elR_eq] at h
  obtain ⟨ρ2, w1, e1, hb⟩ := bind_inv h
  clear h
  have e2 := lift_inv e1
  clear e1
  subst e2
  cases elt with
  | Name x p =>
    have el : ∀ {ρ : Rho} {w w' : W} {o : Option D}, ((ev C pl n sc (.Name x p) ρ w).bind fun x w => .ok (some x) w) = .ok o w' → w' = w := fun h => by
      obtain ⟨a, w1, h1, h⟩ := bind_inv h
      cases h
      exact evn_pure hpl h1
    match ifs, h2, hb with
    | [], _, hb => exact el hb
    | [.Compare (.Name y p1) [.Eq] [.Name z p2] p3], _, hb =>
      have hb : ((tst (ev C pl n) m sc (.Compare (.Name y p1) [.Eq] [.Name z p2] p3) ρ2 w1).bind fun b w => match b with
        | true => (ev C pl n sc (.Name x p) ρ2 w).bind fun x w => .ok (some x) w
        | false => .ok none w) = .ok o w' := hb
      obtain ⟨b, w2, h1, h⟩ := bind_inv hb
      have e2 : w2 = w1 := by
        cases m with
        | zero => cases h1
        | succ m =>
          have h1 : ((ev C pl n sc (.Compare (.Name y p1) [.Eq] [.Name z p2] p3) ρ2 w1).bind asBool) = .ok b w2 := h1
          obtain ⟨c, w3, h3, h4⟩ := bind_inv h1
          have e3 := evc_pure hpl h3
          subst e3
          unfold asBool at h4
          split at h4
          · cases h4; rfl
          · cases h4
      subst e2
      cases b with
      | true => exact el h
      | false => cases h; rfl
  | _ => cases h1
theorem ev_none {n : Nat} {sc : Scope} {e : Expr} {ρ : Rho} {w : W} (h : pl sc e = none) : ev C pl (n + 1) sc e ρ w = evN C (ev C pl n) n sc e ρ w := by
  unfold ev
  rw [h]
theorem ev_ok (h3 : Zip3Ok ce) (hp : ∀ K, PlOk ce K pl) (hpl : PlLeaf pl) : ∀ (n : Nat) (X : Cx) (sc : Scope) (Wx : Str → L2.St → Hp → Prop), Cok Z ce C X sc Wx →
    (∀ e, PE X e (tE Z ce C.own (expo C.N C.own n sc e) (newK C.N C.own false n sc e) (newK C.N C.own true n sc e) Wx fun ρ w => ev C pl n sc e ρ w)) ∧
    (∀ a b c p, PT X (.Compare a b c p) (tTest (tE Z ce C.own 0 9 9 Wx fun ρ w => ev C pl n sc (.Compare a b c p) ρ w)))
  | 0, X, sc, Wx, K => ⟨fun e => le_none fun _ _ => rfl, fun a b c p => ⟨fun pins s σ H Q I ⟨γ, ρ, w, G, q⟩ => q.elim⟩⟩
  | n + 1, X, sc, Wx, K => by
    have ih := ev_ok h3 hp hpl n X sc Wx K
    have T := tst_ok (C := C) ih.1 ih.2 n
    have plain : ∀ {e : Expr} {es : List Expr} {g : List D → Option D} {k nF nT : Nat}, pl sc e = some (es, g) → PE X e (tE Z ce C.own k nF nT Wx fun ρ w => ev C pl (n + 1) sc e ρ w) := fun {e es g k nF nT} h => by
      have e1 : (fun (ρ : Rho) (w : W) => ev C pl (n + 1) sc e ρ w) = fun ρ w => guardR (es.all notStar) ((trav (fun e w => ev C pl n sc e ρ w) es w).bind fun ds w => (match C.io.ln with
          | none => lift (g (ds.map (deref C w))) w
          | some h => (match isLenE e && insOf C w ds with
            | true => lenR (h ds w)
            | false => lift (g (ds.map (deref C w))) w))) := by
        funext ρ w
        show (match pl sc e with
          | some (es, g) => guardR (es.all notStar) ((trav (fun e w => ev C pl n sc e ρ w) es w).bind fun ds w => (match C.io.ln with
            | none => lift (g (ds.map (deref C w))) w
            | some h => (match isLenE e && insOf C w ds with
              | true => lenR (h ds w)
              | false => lift (g (ds.map (deref C w))) w)))
          | none => _) = _
        rw [h]
      rw [e1]
      cases hs : es.all notStar with
      | false => exact le_none fun _ _ => rfl
      | true =>
        have base := hp X.K X sc rfl K.toBok e es g h hs (fun e => tE Z ce C.own (expo C.N C.own n sc e) (newK C.N C.own false n sc e) (newK C.N C.own true n sc e) Wx fun ρ w => ev C pl n sc e ρ w) (fun e σ H Q Q' k q => tE_mono k q) fun a _ => ih.1 a
        cases hl : C.io.ln with
        | none => exact le_pl K.hh base
        | some hf =>
          cases hle : isLenE e with
          | false => exact le_pl K.hh base
          | true =>
            have hle0 := hle
            unfold isLenE at hle
            split at hle
            · rename_i x p y q p2
              have ex := of_decide_eq_true hle
              subst ex
              obtain ⟨rfl, hg⟩ := hpl.2 sc _ _ _ _ _ _ h
              have := le_len (k := k) (nF := nF) (nT := nT) K hl rfl hg rfl base (ih.1 _)
              rw [hle0] at this
              exact this
            · cases hle
    have eqN : ∀ {e : Expr}, pl sc e = none → (fun (ρ : Rho) (w : W) => ev C pl (n + 1) sc e ρ w) = fun ρ w => evN C (ev C pl n) n sc e ρ w := fun {e} h => by
      funext ρ w
      show (match pl sc e with
        | some (es, g) => guardR (es.all notStar) ((trav (fun e w => ev C pl n sc e ρ w) es w).bind fun ds w => (match C.io.ln with
            | none => lift (g (ds.map (deref C w))) w
            | some h => (match isLenE e && insOf C w ds with
              | true => lenR (h ds w)
              | false => lift (g (ds.map (deref C w))) w)))
        | none => evN C (ev C pl n) n sc e ρ w) = _
      rw [h]
    refine ⟨fun e => ?_, fun a b c p => ?_⟩
    · cases hpe : pl sc e with
      | some eg => exact plain (es := eg.1) (g := eg.2) hpe
      | none =>
        rw [eqN hpe]
        have no : (∀ ρ w, evN C (ev C pl n) n sc e ρ w = .no) → PE X e (tE Z ce C.own (expo C.N C.own (n + 1) sc e) (newK C.N C.own false (n + 1) sc e) (newK C.N C.own true (n + 1) sc e) Wx fun ρ w => evN C (ev C pl n) n sc e ρ w) := fun h => le_none h
        cases e with
        | Constant c k p =>
          cases c with
          | int i => exact le_const pe_int fun _ _ _ => .int i
          | bool b => exact le_const pe_bl fun _ _ _ => .bl b
          | str x => exact le_const pe_str fun _ _ _ => .str x
          | none => exact le_const pe_non fun _ _ _ => .non
          | _ => exact no fun _ _ => rfl
        | Name x p =>
          cases hr : rdSlot C.N sc x with
          | some i =>
            have e1 : (fun (ρ : Rho) (w : W) => evN C (ev C pl n) n sc (.Name x p) ρ w) = fun ρ w => sl ρ i w := by
              funext ρ w
              show (match rdSlot C.N sc x with
                | some i => sl ρ i w
                | none => guardR (isGlo sc x) (lift (C.Γ x) w)) = _
              rw [hr]
            rw [e1]
            have k1 : expo C.N C.own (n + 1) sc (.Name x p) = topOwn (ownAt C.own i) := by
              show (match rdSlot C.N sc x with
                | some i => topOwn (ownAt C.own i)
                | none => 0) = _
              rw [hr]
            have k2 : newK C.N C.own false (n + 1) sc (.Name x p) = 0 := by
              show (match false, rdSlot C.N sc x with
                | true, some i => frOwn (ownAt C.own i)
                | _, _ => 0) = _
              rfl
            have k3 : newK C.N C.own true (n + 1) sc (.Name x p) = frOwn (ownAt C.own i) := by
              show (match true, rdSlot C.N sc x with
                | true, some i => frOwn (ownAt C.own i)
                | _, _ => 0) = _
              rw [hr]
            rw [k1, k2, k3]
            exact le_name K hr
          | none =>
            have e1 : (fun (ρ : Rho) (w : W) => evN C (ev C pl n) n sc (.Name x p) ρ w) = fun ρ w => guardR (isGlo sc x) (lift (C.Γ x) w) := by
              funext ρ w
              show (match rdSlot C.N sc x with
                | some i => sl ρ i w
                | none => guardR (isGlo sc x) (lift (C.Γ x) w)) = _
              rw [hr]
            rw [e1]
            cases hg : isGlo sc x with
            | false => exact le_none fun _ _ => rfl
            | true =>
              cases hd : C.Γ x with
              | none => exact le_none fun _ _ => rfl
              | some d => exact const_ok K hg hd
        | BinOp a op b p => exact le_bin (ih.1 a) (ih.1 b)
        | UnaryOp o a p =>
          cases o with
          | USub => exact le_neg (ih.1 a)
          | Not => exact imE (T (.UnaryOp .Not a p)).2 fun σ H Q ⟨γ, ρ, w, G, q⟩ => ⟨γ, ρ, w, G, Post.of_bind ((Post.bind q).imp (fun b w1 h v H' g' x wk r => h v H' g' x wk (r.scal rfl)) fun _ _ h => h)⟩
          | _ => exact no fun _ _ => rfl
        | BoolOp o es p => exact imE (T (.BoolOp o es p)).2 fun σ H Q ⟨γ, ρ, w, G, q⟩ => ⟨γ, ρ, w, G, Post.of_bind ((Post.bind q).imp (fun b w1 h v H' g' x wk r => h v H' g' x wk (r.scal rfl)) fun _ _ h => h)⟩
        | Compare a ops cs p =>
          match ops, cs with
          | [op], [b] => exact le_cmp K.hh K.un (ih.1 a) (ih.1 b)
          | [op, op'], [b, c] => exact le_chain K.un (ih.1 a) (ih.1 b) (ih.1 c)
          | [], _ => exact no fun _ _ => rfl
          | [_], [] => exact no fun _ _ => rfl
          | [_], _ :: _ :: _ => exact no fun _ _ => rfl
          | [_, _], [] => exact no fun _ _ => rfl
          | [_, _], [_] => exact no fun _ _ => rfl
          | [_, _], _ :: _ :: _ :: _ => exact no fun _ _ => rfl
          | _ :: _ :: _ :: _, _ => exact no fun _ _ => rfl
        | IfExp c a b p => exact le_if (T c).1 (ih.1 a) (ih.1 b) (Nat.le_refl _) (Nat.le_refl _) (Nat.le_refl _)
        | Tuple es k p => exact le_tuple fun e _ => ih.1 e
        | List es p => exact le_list fun e _ => ih.1 e
        | Subscript a i p =>
          cases i with
          | Slice lo hi st p2 =>
            cases st with
            | none => exact le_slice ih.1
            | some s => exact no fun _ _ => rfl
          | Tuple es c2 p2 => exact le_dget K.hd (by have := K.un; omega) (ih.1 a) (ih.1 _)
          | _ => exact le_ix K.hh (ih.1 a) (ih.1 _) (fun _ _ _ _ h => by cases h)
        | Dict ks vs p =>
          match ks, vs with
          | [], [] => exact le_dnew K.hd
          | [], _ :: _ => exact no fun _ _ => rfl
          | _ :: _, _ => exact no fun _ _ => rfl
        | Call f args kws p =>
          cases f with
          | Name x p' =>
            cases kws with
            | cons _ _ => exact no fun ρ w => by cases args <;> rfl
            | nil =>
              cases args with
              | nil =>
                cases hg : isGlo sc x with
                | false =>
                  refine no fun ρ w => ?_
                  show guardR (isGlo sc x) _ = _
                  rw [hg]; rfl
                | true =>
                  cases hf : C.Φ x with
                  | none =>
                    refine no fun ρ w => ?_
                    show guardR (isGlo sc x) (match C.Φ x with
                      | some g => g [] w
                      | none => .no) = _
                    rw [hg, hf]; rfl
                  | some g =>
                    have e1 : (fun (ρ : Rho) (w : W) => evN C (ev C pl n) n sc (.Call (.Name x p') [] [] p) ρ w) = fun ρ w => g [] w := by
                      funext ρ w
                      show guardR (isGlo sc x) (match C.Φ x with
                        | some g => g [] w
                        | none => .no) = _
                      rw [hg, hf]; rfl
                    rw [e1]
                    exact call0_ok K hg hf
              | cons a es =>
                cases hix : isxC C.errs sc x es with
                | some c =>
                  cases hsa : notStar a with
                  | false =>
                    refine no fun ρ w => ?_
                    show (match isxC C.errs sc x es with
                      | some c => guardR (notStar a) ((ev C pl n sc a ρ w).bind fun d w => lift (isxD c d) w)
                      | none => _) = _
                    rw [hix, hsa]; rfl
                  | true =>
                    have e1 : (fun (ρ : Rho) (w : W) => evN C (ev C pl n) n sc (.Call (.Name x p') (a :: es) [] p) ρ w) = fun ρ w => (ev C pl n sc a ρ w).bind fun d w => lift (isxD c d) w := by
                      funext ρ w
                      show (match isxC C.errs sc x es with
                        | some c => guardR (notStar a) ((ev C pl n sc a ρ w).bind fun d w => lift (isxD c d) w)
                        | none => _) = _
                      rw [hix, hsa]; rfl
                    rw [e1]
                    unfold isxC at hix
                    split at hix
                    · split at hix
                      · rename_i hb
                        cases hix
                        simp only [Bool.and_eq_true, decide_eq_true_eq] at hb
                        obtain ⟨⟨⟨rfl, hb1⟩, hb2⟩, hb3⟩ := hb
                        exact le_isx K hb1 hb2 hb3 hsa (ih.1 a)
                      · cases hix
                    · cases hix
                | none =>
                cases hg : (isGlo sc x && (a :: es).all notStar) with
                | false =>
                  refine no fun ρ w => ?_
                  show (match isxC C.errs sc x es with
                    | some c => guardR (notStar a) ((ev C pl n sc a ρ w).bind fun d w => lift (isxD c d) w)
                    | none => guardR (isGlo sc x && (a :: es).all notStar) _) = _
                  rw [hix]
                  show guardR (isGlo sc x && (a :: es).all notStar) _ = _
                  rw [hg]; rfl
                | true =>
                  cases hf : C.Φ x with
                  | none =>
                    cases hmk : lookD C.io.mkr x with
                    | none =>
                      refine no fun ρ w => ?_
                      show (match isxC C.errs sc x es with
                        | some c => guardR (notStar a) ((ev C pl n sc a ρ w).bind fun d w => lift (isxD c d) w)
                        | none => guardR (isGlo sc x && (a :: es).all notStar) (match C.Φ x with
                          | some g => (trav (fun e w => ev C pl n sc e ρ w) (a :: es) w).bind g
                          | none => (match lookD C.io.mkr x with
                            | some g => (trav (fun e w => ev C pl n sc e ρ w) (a :: es) w).bind (makeR C g)
                            | none => .no))) = _
                      rw [hix, hg, hf, hmk]; rfl
                    | some g =>
                      have e1 : (fun (ρ : Rho) (w : W) => evN C (ev C pl n) n sc (.Call (.Name x p') (a :: es) [] p) ρ w) = fun ρ w => (trav (fun e w => ev C pl n sc e ρ w) (a :: es) w).bind (makeR C g) := by
                        funext ρ w
                        show (match isxC C.errs sc x es with
                          | some c => guardR (notStar a) ((ev C pl n sc a ρ w).bind fun d w => lift (isxD c d) w)
                          | none => guardR (isGlo sc x && (a :: es).all notStar) (match C.Φ x with
                            | some g => (trav (fun e w => ev C pl n sc e ρ w) (a :: es) w).bind g
                            | none => (match lookD C.io.mkr x with
                              | some g => (trav (fun e w => ev C pl n sc e ρ w) (a :: es) w).bind (makeR C g)
                              | none => .no))) = _
                        rw [hix, hg, hf, hmk]; rfl
                      rw [e1]
                      obtain ⟨g1, g2⟩ := Bool.and_eq_true_iff.mp hg
                      exact le_make K g1 g2 hmk fun e _ => ih.1 e
                  | some g =>
                    have e1 : (fun (ρ : Rho) (w : W) => evN C (ev C pl n) n sc (.Call (.Name x p') (a :: es) [] p) ρ w) = fun ρ w => (trav (fun e w => ev C pl n sc e ρ w) (a :: es) w).bind g := by
                      funext ρ w
                      show (match isxC C.errs sc x es with
                        | some c => guardR (notStar a) ((ev C pl n sc a ρ w).bind fun d w => lift (isxD c d) w)
                        | none => guardR (isGlo sc x && (a :: es).all notStar) (match C.Φ x with
                          | some g => (trav (fun e w => ev C pl n sc e ρ w) (a :: es) w).bind g
                          | none => (match lookD C.io.mkr x with
                            | some g => (trav (fun e w => ev C pl n sc e ρ w) (a :: es) w).bind (makeR C g)
                            | none => .no))) = _
                      rw [hix, hg, hf]; rfl
                    rw [e1]
                    obtain ⟨g1, g2⟩ := Bool.and_eq_true_iff.mp hg
                    exact le_call K g1 g2 hf fun e _ => ih.1 e
          | Attribute o nm ap =>
            cases kws with
            | cons _ _ => exact no fun ρ w => rfl
            | nil =>
              cases hmt : lookD C.io.mt nm with
              | some g =>
                have e1 : (fun (ρ : Rho) (w : W) => evN C (ev C pl n) n sc (.Call (.Attribute o nm ap) args [] p) ρ w) = fun ρ w => guardR ((ap.endLine == p.line) && isNmE o && args.all notStar && decide (args.length < 20)) ((ev C pl n sc o ρ w).bind fun x w => guardR (isIns C w x nm) ((trav (fun e w => ev C pl n sc e ρ w) args w).bind fun ds w => g (x :: ds) w)) := by
                  funext ρ w
                  show (match lookD C.io.mt nm with
                    | some g => guardR ((ap.endLine == p.line) && isNmE o && args.all notStar && decide (args.length < 20)) ((ev C pl n sc o ρ w).bind fun x w => guardR (isIns C w x nm) ((trav (fun e w => ev C pl n sc e ρ w) args w).bind fun ds w => g (x :: ds) w))
                    | none => _) = _
                  rw [hmt]
                rw [e1]
                exact le_meth K hmt (ih.1 o) fun e _ => ih.1 e
              | none =>
                clear no
                match args with
                | [b] =>
                  have e1 : (fun (ρ : Rho) (w : W) => evN C (ev C pl n) n sc (.Call (.Attribute o nm ap) [b] [] p) ρ w) = fun ρ w => guardR ((ap.endLine == p.line) && notStar b && noCall o && okMt nm) ((ev C pl n sc o ρ w).bind fun l w => guardR (mtGo nm (deref C w l)) ((ev C pl n sc b ρ w).bind fun d w => lift (mtD nm (deref C w l) d) w)) := by
                    funext ρ w
                    show (match lookD C.io.mt nm with
                      | some g => _
                      | none => guardR ((ap.endLine == p.line) && notStar b && noCall o && okMt nm) ((ev C pl n sc o ρ w).bind fun l w => guardR (mtGo nm (deref C w l)) ((ev C pl n sc b ρ w).bind fun d w => lift (mtD nm (deref C w l) d) w))) = _
                    rw [hmt]
                  rw [e1]
                  exact le_mt K (ih.1 o) (ih.1 b)
                | [] =>
                  have e1 : (fun (ρ : Rho) (w : W) => evN C (ev C pl n) n sc (.Call (.Attribute o nm ap) [] [] p) ρ w) = fun ρ w => guardR ((ap.endLine == p.line) && noCall o && decide (nm = "pop")) ((ev C pl n sc o ρ w).bind fun l w => popH C w l) := by
                    funext ρ w
                    show (match lookD C.io.mt nm with
                      | some g => _
                      | none => guardR ((ap.endLine == p.line) && noCall o && decide (nm = "pop")) ((ev C pl n sc o ρ w).bind fun l w => popH C w l)) = _
                    rw [hmt]
                  rw [e1]
                  exact le_pop K (ih.1 o)
                | b :: b2 :: bs =>
                  refine le_none fun ρ w => ?_
                  show (match lookD C.io.mt nm with
                    | some g => _
                    | none => Res.no) = _
                  rw [hmt]
          | _ => exact no fun ρ w => by cases args <;> cases kws <;> rfl
        | Attribute o fl p => exact le_fld K (ih.1 o)
        | ListComp elt gens scope p =>
          match gens with
          | [] => exact no fun _ _ => rfl
          | ⟨tg, it, ifs, asy⟩ :: g2 :: gs => exact no fun ρ w => rfl
          | [⟨tg, it, ifs, asy⟩] =>
            by_cases ha : asy = 0
            · subst ha
              exact le_lc h3 K (nm_ev hpl n sc) ih.1 (fun Xb Wy Kb e => (ev_ok h3 hp hpl n Xb _ _ Kb).1 e) (fun Xb Wy Kb e => (tst_ok (C := C) (ev_ok h3 hp hpl n Xb _ _ Kb).1 (ev_ok h3 hp hpl n Xb _ _ Kb).2 n e).1) (fun h1 h2 => elR_pure hpl h1 h2)
            · refine no fun ρ w => ?_
              show guardR (decide (asy = 0)) _ = _
              rw [decide_eq_false ha]; rfl
        | _ => exact no fun _ _ => rfl
    · cases hpe : pl sc (.Compare a b c p) with
      | some eg => have := hpl.none (sc := sc) (e := .Compare a b c p) rfl; rw [hpe] at this; cases this
      | none =>
        rw [eqN hpe]
        have no : (∀ ρ w, evN C (ev C pl n) n sc (.Compare a b c p) ρ w = .no) → PT X (.Compare a b c p) (tTest (tE Z ce C.own 0 9 9 Wx fun ρ w => evN C (ev C pl n) n sc (.Compare a b c p) ρ w)) := fun h => ⟨fun pins s σ H Q I ⟨γ, ρ, w, G, q⟩ => by dsimp only at q; rw [h] at q; exact q.elim⟩
        match b, c with
        | [op], [b] => exact lt_cmp K.hh K.un (ih.1 a) (ih.1 b)
        | [op, op'], [b, c] => exact lt_chain K.un (ih.1 a) (ih.1 b) (ih.1 c)
        | [], _ => exact no fun _ _ => rfl
        | [_], [] => exact no fun _ _ => rfl
        | [_], _ :: _ :: _ => exact no fun _ _ => rfl
        | [_, _], [] => exact no fun _ _ => rfl
        | [_, _], [_] => exact no fun _ _ => rfl
        | [_, _], _ :: _ :: _ :: _ => exact no fun _ _ => rfl
        | _ :: _ :: _ :: _, _ => exact no fun _ _ => rfl
end
end T
namespace T
open PySem PySem.Spec PyProof.Rows L2
/-! ### statements -/
inductive SRes (W : Type) where
  | nx (ρ : Rho) (w : W)
  | rt (d : D) (w : W)
  | ex (c : Str) (ρ : Rho) (w : W)
  | no
section
variable {W : Type}
def onE {α : Type} (ρ : Rho) : Res W α → (α → W → SRes W) → SRes W
  | .ok a w, k => k a w
  | .ex c w, _ => .ex c ρ w
  | .no, _ => .no
def sq : SRes W → (Rho → W → SRes W) → SRes W
  | .nx ρ w, k => k ρ w
  | .rt d w, _ => .rt d w
  | .ex c ρ w, _ => .ex c ρ w
  | .no, _ => .no
def guardS : Bool → SRes W → SRes W
  | true, r => r
  | false, _ => .no
def exB (g : Stmt → Rho → W → SRes W) : List Stmt → Rho → W → SRes W
  | [], ρ, w => .nx ρ w
  | s :: r, ρ, w => sq (g s ρ w) (exB g r)
def forR (body : D → Rho → W → SRes W) : List D → Rho → W → SRes W
  | [], ρ, w => .nx ρ w
  | d :: ds, ρ, w => sq (body d ρ w) (forR body ds)
def whileR (t : Rho → W → Res W Bool) (body : Rho → W → SRes W) : Nat → Rho → W → SRes W
  | 0, _, _ => .no
  | n + 1, ρ, w => onE ρ (t ρ w) fun b w => match b with
    | true => sq (body ρ w) (whileR t body n)
    | false => .nx ρ w
def noComp : Expr → Bool
  | .ListComp _ _ _ _ => false
  | .SetComp _ _ _ _ => false
  | .DictComp _ _ _ _ _ => false
  | _ => true
/-- what may be stored: below an own name's depth it is new -/
def stOk (N : List Str) (own : List Nat) (m : Nat) (sc : Scope) (i : Nat) (e : Expr) : Bool := decide (expo N own m sc e = 0) && (match ownK (ownAt own i) with
  | .sh => true
  | .its nd => decide (1 ≤ newK N own false m sc e) && decide (nd + 1 ≤ newK N own true m sc e)
  | .rows => false
  | .nw n => decide (n ≤ newK N own true m sc e))
/-- a value that an own name of items may hold: a list, or no list within -/
def stVal (own : List Nat) (i : Nat) (d : D) : Bool := match ownK (ownAt own i) with
  | .sh => true
  | .nw _ => true
  | _ => isListD d || flatD 0 d
def appD : D → D → Option D
  | .list ds, d => if lenOk (ds.length + 1) then some (.list (ds ++ [d])) else none
  | _, _ => none
def extD : D → D → Option D
  | .list ds, .list es => if lenOk (ds.length + es.length) then some (.list (ds ++ es)) else none
  | _, _ => none
def setD : D → D → D → Option D
  | .list ds, .int i, d => (ixN ds.length i).map fun j => .list (ds.set j d)
  | _, _, _ => none
def opI : Operator → D → D → Option D
  | .Add, .int a, .int b => some (.int (a + b))
  | .Sub, .int a, .int b => some (.int (a - b))
  | _, _, _ => none
def opOk : Operator → Bool
  | .Add => true
  | .Sub => true
  | _ => false
def isItsK : OwnK → Bool
  | .its _ => true
  | _ => false
def ndK : OwnK → Nat
  | .its n => n
  | _ => 0
def rowB : D → Bool
  | .list es => es.all scalB
  | _ => false
def rowsB : D → Bool
  | .list ds => ds.all rowB
  | _ => false
def isRowsK : OwnK → Bool
  | .rows => true
  | _ => false
def isLC : Expr → Bool
  | .ListComp _ _ _ _ => true
  | _ => false
variable (C : Cfg W) (pl : Pl) (m : Nat) (sc : Scope)
abbrev evS (e : Expr) (ρ : Rho) (w : W) : Res W D := ev C pl m sc e ρ w
abbrev tsS (e : Expr) (ρ : Rho) (w : W) : Res W Bool := tst (ev C pl m) m sc e ρ w
/-- name = e -/
def asgS (x : Str) (e : Expr) (ρ : Rho) (w : W) : SRes W := match wrSlot C.N sc x with
  | some i => guardS (stOk C.N C.own m sc i e) (onE ρ (evS C pl m sc e ρ w) fun d w => guardS (stVal C.own i d) (.nx (ρ.set i (some d)) w))
  | none => .no
/-- the statement that adds an item -/
def appS (x : Str) (e : Expr) (ρ : Rho) (w : W) : SRes W := match rdSlot C.N sc x with
  | some i => guardS (isItsK (ownK (ownAt C.own i)) && notStar e && decide (expo C.N C.own m sc e = 0) && decide (ndK (ownK (ownAt C.own i)) ≤ newK C.N C.own true m sc e))
      (onE ρ (sl ρ i w) fun l w => guardS (isListD l) (onE ρ (evS C pl m sc e ρ w) fun d w => onE ρ (lift (appD l d) w) fun l' w => .nx (ρ.set i (some l')) w))
  | none => .no
/-- name += e -/
def augS (x : Str) (op : Operator) (e : Expr) (ρ : Rho) (w : W) : SRes W := match wrSlot C.N sc x with
  | some i => (match ownK (ownAt C.own i) with
    | .sh => guardS (opOk op) (onE ρ (sl ρ i w) fun a w => onE ρ (evS C pl m sc e ρ w) fun b w => onE ρ (lift (opI op a b) w) fun c w => .nx (ρ.set i (some c)) w)
    | .its nd => guardS (decide (op = .Add) && decide (expo C.N C.own m sc e ≤ 1) && decide (nd = 0 ∨ nd + 1 ≤ newK C.N C.own true m sc e))
        (onE ρ (sl ρ i w) fun l w => guardS (isListD l) (onE ρ (evS C pl m sc e ρ w) fun b w => onE ρ (lift (extD l b) w) fun l' w => .nx (ρ.set i (some l')) w))
    | .rows => .no
    | .nw _ => .no)
  | none => .no
/-- name[j] = e -/
def setS (x : Str) (j e : Expr) (ρ : Rho) (w : W) : SRes W := match rdSlot C.N sc x with
  | some i => guardS (isItsK (ownK (ownAt C.own i)) && decide (expo C.N C.own m sc e = 0) && decide (ndK (ownK (ownAt C.own i)) ≤ newK C.N C.own true m sc e))
      (onE ρ (evS C pl m sc e ρ w) fun d w => onE ρ (sl ρ i w) fun l w => onE ρ (evS C pl m sc j ρ w) fun k w => onE ρ (lift (setD l k d) w) fun l' w => .nx (ρ.set i (some l')) w)
  | none => .no
/-- name[j] += e (ints) -/
def augIx (x : Str) (j : Expr) (op : Operator) (e : Expr) (ρ : Rho) (w : W) : SRes W := match rdSlot C.N sc x with
  | some i => guardS (isItsK (ownK (ownAt C.own i)) && opOk op)
      (onE ρ (sl ρ i w) fun l w => guardS (isListD l) <| onE ρ (evS C pl m sc j ρ w) fun k w => onE ρ (lift (ixD l k) w) fun a w => onE ρ (evS C pl m sc e ρ w) fun b w => onE ρ (lift (opI op a b) w) fun c w => onE ρ (lift (setD l k c) w) fun l' w => .nx (ρ.set i (some l')) w)
  | none => .no
/-- name = rows that are new -/
def asgW (x : Str) (e : Expr) (ρ : Rho) (w : W) : SRes W := match wrSlot C.N sc x with
  | some i => guardS (isLC e && isRowsK (ownK (ownAt C.own i)) && decide (expo C.N C.own m sc e = 0) && decide (2 ≤ newK C.N C.own false m sc e)) (onE ρ (evS C pl m sc e ρ w) fun d w => guardS (rowsB d) (.nx (ρ.set i (some d)) w))
  | none => .no
/-- name[i][j] += e (ints) -/
def augIx2 (x : Str) (i j : Expr) (op : Operator) (e : Expr) (ρ : Rho) (w : W) : SRes W := match rdSlot C.N sc x with
  | some s => guardS (isRowsK (ownK (ownAt C.own s)) && opOk op)
      (onE ρ (sl ρ s w) fun l w => guardS (isListD l) <| onE ρ (evS C pl m sc i ρ w) fun k w => onE ρ (lift (ixD l k) w) fun r w => onE ρ (evS C pl m sc j ρ w) fun n w => onE ρ (lift (ixD r n) w) fun a w => onE ρ (evS C pl m sc e ρ w) fun b w => onE ρ (lift (opI op a b) w) fun c w => onE ρ (lift (setD r n c) w) fun r' w => onE ρ (lift (setD l k r') w) fun l' w => .nx (ρ.set s (some l')) w)
  | none => .no
end
end T
namespace T
open PySem PySem.Spec PyProof.Rows L2
section
variable {W : Type}
structure SStep (γ : GP) (H : Hp) (γ' : GP) (H' : Hp) : Prop where
  g0 : γ'.g0 = γ.g0
  H0 : γ'.H0 = γ.H0
  keep : ∀ b o, b ∉ γ.L → H b = some o → H' b = some o
  keepT : ∀ b o, isT o → H b = some o → H' b = some o
  newL : ∀ a ∈ γ'.L, a ∈ γ.L ∨ H a = none
  sub : ∀ a ∈ γ.g.Om, a ∈ γ'.g.Om
  hs : ∀ (k : Nat) (a : Addr), γ.g.hs[k]? = some a → γ'.g.hs[k]? = some a
theorem SStep.refl {γ : GP} {H : Hp} : SStep γ H γ H := ⟨rfl, rfl, fun _ _ _ e => e, fun _ _ _ e => e, fun _ h => .inl h, fun _ h => h, fun _ _ e => e⟩
theorem SStep.trans {γ γ1 γ2 : GP} {H H1 H2 : Hp} (a : SStep γ H γ1 H1) (b : SStep γ1 H1 γ2 H2) : SStep γ H γ2 H2 where
  g0 := b.g0.trans a.g0
  H0 := b.H0.trans a.H0
  keep := fun c o h e => b.keep c o (fun z => (a.newL c z).elim h fun q => by rw [q] at e; cases e) (a.keep c o h e)
  keepT := fun c o t e => b.keepT c o t (a.keepT c o t e)
  newL := fun c h => by
    rcases b.newL c h with z | z
    · exact a.newL c z
    · refine Classical.byCases (p := c ∈ γ.L) .inl fun hc => .inr ?_
      cases q : H c with
      | none => rfl
      | some o => rw [a.keep c o hc q] at z; cases z
  sub := fun c h => b.sub c (a.sub c h)
  hs := fun k c e => b.hs k c (a.hs k c e)
variable {Z : Wd W} {ce : Str → Option Addr} {own : List Nat} {γ : GP} {σ : L2.St} {H : Hp} {ρ : Rho} {w : W}
theorem SStep.of (G : Good Z ce own γ σ H ρ w) {g' : Gh} {H' : Hp} {w' : W} (x : CStep γ.g H g' H') : SStep γ H (γ.step g') H' :=
  ⟨rfl, rfl, fun b o h e => x.keep b o (fun z => h (G.vL b (G.omV b z))) e, fun b o t e => x.keepT G.wok t e, fun a h => (List.mem_append.mp h).elim (fun z => (x.new a z).elim (fun z => .inl (G.vL a (G.omV a z))) .inr) .inl, x.sub, x.hs⟩
def PostS (r : SRes W) (nx : Rho → W → Prop) (rt : D → W → Prop) (ex : Str → Rho → W → Prop) : Prop := match r with
  | .nx ρ w => nx ρ w
  | .rt d w => rt d w
  | .ex c ρ w => ex c ρ w
  | .no => False
section
variable {nx nx' : Rho → W → Prop} {rt rt' : D → W → Prop} {ex ex' : Str → Rho → W → Prop}
theorem PostS.imp {r : SRes W} (h : PostS r nx rt ex) (k : ∀ ρ w, nx ρ w → nx' ρ w) (kr : ∀ d w, rt d w → rt' d w) (kx : ∀ c ρ w, ex c ρ w → ex' c ρ w) : PostS r nx' rt' ex' := by
  cases r with
  | nx ρ w => exact k ρ w h
  | rt d w => exact kr d w h
  | ex c ρ w => exact kx c ρ w h
  | no => exact h
theorem PostS.sq {r : SRes W} {k : Rho → W → SRes W} (h : PostS (T.sq r k) nx rt ex) : PostS r (fun ρ w => PostS (k ρ w) nx rt ex) rt ex := by
  cases r <;> exact h
theorem PostS.onE {α : Type} {r : Res W α} {k : α → W → SRes W} (h : PostS (T.onE ρ r k) nx rt ex) : Post r (fun a w => PostS (k a w) nx rt ex) (fun c w => ex c ρ w) := by
  cases r <;> exact h
theorem PostS.guard {b : Bool} {r : SRes W} (h : PostS (guardS b r) nx rt ex) : b = true ∧ PostS r nx rt ex := by
  cases b with
  | false => exact h.elim
  | true => exact ⟨rfl, h⟩
end
def okN (Z : Wd W) (ce : Str → Option Addr) (own : List Nat) (γ : GP) (H : Hp) (Dn : Ends) (ρ' : Rho) (w' : W) : Prop := ∀ γ' σ' H', Good Z ce own γ' σ' H' ρ' w' → SStep γ H γ' H' → Dn.nx σ' H'
def okR (Z : Wd W) (ce : Str → Option Addr) (γ : GP) (Dn : Ends) (d : D) (w' : W) : Prop := ∀ v H' g', CStep γ.g0 γ.H0 g' H' → WOk Z g' H' w' → Rep ce g'.hs H' (fun _ a => γ.H0 a = none ∧ a ∉ g'.Om) v d → Dn.rt v H'
def okX (Z : Wd W) (ce : Str → Option Addr) (own : List Nat) (γ : GP) (H : Hp) (Wx : Str → L2.St → Hp → Prop) (c : Str) (ρ' : Rho) (w' : W) : Prop := ∀ γ' σ' H', Good Z ce own γ' σ' H' ρ' w' → SStep γ H γ' H' → Wx c σ' H'
def tS (Z : Wd W) (ce : Str → Option Addr) (own : List Nat) (Wx : Str → L2.St → Hp → Prop) (f : Rho → W → SRes W) : TS := fun Dn σ H => ∃ γ ρ w, Good Z ce own γ σ H ρ w ∧ PostS (f ρ w) (okN Z ce own γ H Dn) (okR Z ce γ Dn) (okX Z ce own γ H Wx)
theorem okN.back {Dn : Ends} {γ' : GP} {H' : Hp} {ρ' : Rho} {w' : W} (h : okN Z ce own γ H Dn ρ' w') (s : SStep γ H γ' H') : okN Z ce own γ' H' Dn ρ' w' := fun γ2 σ2 H2 G2 s2 => h γ2 σ2 H2 G2 (s.trans s2)
theorem okR.back {Dn : Ends} {γ' : GP} {H' : Hp} {d : D} {w' : W} (h : okR Z ce γ Dn d w') (s : SStep γ H γ' H') : okR Z ce γ' Dn d w' := fun v H2 g2 x wk r => h v H2 g2 (by rw [← s.g0, ← s.H0]; exact x) wk (by rw [← s.H0]; exact r)
theorem okX.back {Wx : Str → L2.St → Hp → Prop} {γ' : GP} {H' : Hp} {c : Str} {ρ' : Rho} {w' : W} (h : okX Z ce own γ H Wx c ρ' w') (s : SStep γ H γ' H') : okX Z ce own γ' H' Wx c ρ' w' := fun γ2 σ2 H2 G2 s2 => h γ2 σ2 H2 G2 (s.trans s2)
theorem okX.ex {Wx : Str → L2.St → Hp → Prop} (G : Good Z ce own γ σ H ρ w) {c : Str} {w' : W} (h : okX Z ce own γ H Wx c ρ w') : exE Z γ H Wx σ c w' := fun H' g' x wk => h _ _ _ (G.step x wk) (SStep.of (w' := w') G x)
structure Sok (Z : Wd W) (ce : Str → Option Addr) (C : Cfg W) (X : Cx) (sc : Scope) (Wx : Str → L2.St → Hp → Prop) : Prop extends Cok Z ce C X sc Wx where
  po : PassesOwn (model X.prog X.w) X.A X.env X.xe
  fnT : ∀ x, X.fn x = true
  stk : X.stack = X.env :: X.outer
  frm : X.env.frame = some X.env.locals
  exn : X.ex = []
  jud : ∀ c Kc, ce c = some Kc → ∃ KJ, X.mg "JudgeError" = some (.ref KJ) ∧ PySem.W.exmOne X.K (.ref Kc) (.ref KJ) = some true
  kd : sc.kind = .function
  er : ∀ c, C.errs.contains c = true → ∃ K, ce c = some K ∧ X.mg c = some (.ref K) ∧ PySem.W.excIn X.K K [.type "ValueError", .type "Exception", .type "BaseException", .type "object"] "ValueError.__new__" = true ∧ PySem.W.keepIn X.K (.ref K) = true ∧
    PySem.W.subIn X.K (.ref K) (.type "BaseException") = some true ∧ PySem.W.typeIn X.K (.ref K) = some (.type "type")
variable {X : Cx} {Wx : Str → L2.St → Hp → Prop} {pos : Pos} {C : Cfg W} {pl : Pl} {sc : Scope} {m : Nat}
theorem lss_none {st : List Stmt} {f : Rho → W → SRes W} (h : ∀ ρ w, f ρ w = .no) : PSs X st (tS Z ce own Wx f) := ⟨fun pins s σ H D I ⟨γ, ρ, w, G, q⟩ => by rw [h] at q; exact q.elim⟩
theorem ls_none {st : Stmt} {f : Rho → W → SRes W} (h : ∀ ρ w, f ρ w = .no) : PS X st (tS Z ce own Wx f) := ⟨fun pins s σ H D I ⟨γ, ρ, w, G, q⟩ => by rw [h] at q; exact q.elim⟩
theorem lss_ok {g : Stmt → Rho → W → SRes W} (h : ∀ st, PS X st (tS Z ce own Wx fun ρ w => g st ρ w)) : ∀ st : List Stmt, PSs X st (tS Z ce own Wx fun ρ w => exB g st ρ w)
  | [] => imSs pss_nil fun Dn σ H ⟨γ, ρ, w, G, q⟩ => q γ σ H G SStep.refl
  | s :: r => imSs (pss_cons (h s) (lss_ok h r)) fun Dn σ H ⟨γ, ρ, w, G, q⟩ => ⟨γ, ρ, w, G, (PostS.sq q).imp (fun ρ1 w1 h1 γ1 σ1 H1 G1 s1 => ⟨γ1, ρ1, w1, G1, h1.imp (fun _ _ h => okN.back h s1) (fun _ _ h => okR.back h s1) fun _ _ _ h => okX.back h s1⟩) (fun _ _ h => h) fun _ _ _ h => h⟩
theorem ls_pass : PS X (.Pass pos) (tS Z ce own Wx fun ρ w => .nx ρ w) := imS ps_pass fun Dn σ H ⟨γ, ρ, w, G, q⟩ => q γ σ H G SStep.refl
theorem ls_retN : PS X (.Return none pos) (tS Z ce own Wx fun ρ w => .rt .none w) := imS ps_retN fun Dn σ H ⟨γ, ρ, w, G, q⟩ => q .non H γ.g G.st0 G.wok .non
theorem ls_ret {e : Expr} {f : Rho → W → Res W D} {k nF nT : Nat} (h : PE X e (tE Z ce own k nF nT Wx f)) : PS X (.Return (some e) pos) (tS Z ce own Wx fun ρ w => onE ρ (f ρ w) fun d w => guardS (flatD nT d) (.rt d w)) :=
  imS (ps_ret h) fun Dn σ H ⟨γ, ρ, w, G, q⟩ => ⟨γ, ρ, w, G, (PostS.onE q).imp (fun d w1 h1 v H1 g1 x1 wk1 r1 => by
    obtain ⟨hf, h2⟩ := h1.guard
    have h2 : okR Z ce γ Dn d w1 := h2
    have r2 : Rep ce g1.hs H1 (fun j a => (j < nT → γ.H0 a = none) ∧ a ∉ g1.Om) v d := r1.mono fun j a p => ⟨p.1.2.1, p.2⟩
    exact h2 v H1 g1 (G.st0.trans x1) wk1 (Rep.flat nT (fun i j b hj p => ⟨p.1 hj, p.2⟩) r2 hf)) fun c w1 h1 => okX.ex G h1⟩
theorem ls_if {c : Expr} {a b : List Stmt} {f : Rho → W → Res W Bool} {fa fb : Rho → W → SRes W} (hc : PT X c (tT Z ce own Wx f)) (ha : PSs X a (tS Z ce own Wx fa)) (hb : PSs X b (tS Z ce own Wx fb)) :
    PS X (.If c a b pos) (tS Z ce own Wx fun ρ w => onE ρ (f ρ w) fun t w => match t with
      | true => fa ρ w
      | false => fb ρ w) := by
  refine imS (ps_if hc ha hb) fun Dn σ H ⟨γ, ρ, w, G, q⟩ => ⟨γ, ρ, w, G, (PostS.onE q).imp (fun t w1 h1 H1 g1 x1 wk1 => ?_) fun c w1 h1 => okX.ex G h1⟩
  have s1 := SStep.of (w' := w1) G x1
  cases t with
  | true => exact iteT ⟨γ.step g1, ρ, w1, G.step x1 wk1, h1.imp (fun _ _ h => okN.back h s1) (fun _ _ h => okR.back h s1) fun _ _ _ h => okX.back h s1⟩
  | false => exact iteF ⟨γ.step g1, ρ, w1, G.step x1 wk1, h1.imp (fun _ _ h => okN.back h s1) (fun _ _ h => okR.back h s1) fun _ _ _ h => okX.back h s1⟩
theorem swaps0 {e : Expr} {t : Option Expr} {l : Nat} {env : Env} (h : noComp e = true) : swapsWith e t l env = pure false := by
  cases e <;> first | rfl | cases h
theorem ls_expr {e : Expr} {f : Rho → W → Res W D} {k nF nT : Nat} (h : PE X e (tE Z ce own k nF nT Wx f)) : PS X (.Expr e pos) (tS Z ce own Wx fun ρ w => guardS (noComp e) (onE ρ (f ρ w) fun _ w => .nx ρ w)) := by
  cases hs : noComp e with
  | false => exact ls_none fun _ _ => rfl
  | true =>
    refine imS (ps_expr h (swaps0 hs)) fun Dn σ H ⟨γ, ρ, w, G, q⟩ => ⟨γ, ρ, w, G, (PostS.onE (show PostS (onE ρ (f ρ w) fun _ w => .nx ρ w) _ _ _ from q)).imp (fun d w1 h1 v H1 g1 x1 wk1 r1 => ?_) fun c w1 h1 => okX.ex G h1⟩
    exact h1 _ _ _ (G.step x1 wk1) (SStep.of (w' := w1) G x1)
theorem ls_raise {c : Str} {p p2 p3 : Pos} {mm : Str} {j : Nat} (K : Sok Z ce C X sc Wx) : PS X (.Raise (some (.Call (.Name c p) [.Constant (.str mm) j p2] [] p3)) none pos) (tS Z ce own Wx fun ρ w => guardS (isGlo sc c && C.errs.contains c) (.ex c ρ w)) := by
  cases hs : (isGlo sc c && C.errs.contains c) with
  | false => exact ls_none fun _ _ => rfl
  | true =>
    obtain ⟨h1, h2⟩ := Bool.and_eq_true_iff.mp hs
    obtain ⟨gl, okn⟩ := isGlo_ok K.sc_ h1
    obtain ⟨Kc, e1, e2, e3, e4, e5, e6⟩ := K.er c h2
    exact imS (ps_raise K.calm K.tk (pmk_own PySem.F.excBase_ValueError e3 e2 e4 (raises_own e5 e6) gl (okName_d okn).1)) fun Dn σ H ⟨γ, ρ, w, G, q⟩ => ⟨rfl, c, Kc, e1, rfl, q γ σ H G SStep.refl⟩
theorem ls_while {c : Expr} {body : List Stmt} {t : Rho → W → Res W Bool} {fb : Rho → W → SRes W} {N : Nat} (K : Sok Z ce C X sc Wx) (hc : PT X c (tT Z ce own Wx t)) (hb : PSs X body (tS Z ce own Wx fb)) : PS X (.While c body [] pos) (tS Z ce own Wx fun ρ w => whileR t fb N ρ w) := by
  refine imS (ps_while K.po hc hb) fun Dn σ H ⟨γ, ρ, w, G, q⟩ => ?_
  refine ⟨fun n σ' H' => ∃ γ' ρ' w', Good Z ce own γ' σ' H' ρ' w' ∧ SStep γ H γ' H' ∧ PostS (whileR t fb n ρ' w') (okN Z ce own γ H Dn) (okR Z ce γ Dn) (okX Z ce own γ H Wx), ⟨N, γ, ρ, w, G, SStep.refl, q⟩, ?_⟩
  rintro n σ1 H1 ⟨γ1, ρ1, w1, G1, s1, q1⟩
  cases n with
  | zero => exact q1.elim
  | succ n =>
    refine ⟨γ1, ρ1, w1, G1, (PostS.onE (show PostS (onE ρ1 (t ρ1 w1) fun b w => match b with
      | true => sq (fb ρ1 w) (whileR t fb n)
      | false => .nx ρ1 w) _ _ _ from q1)).imp (fun b w2 h2 H2 g2 x2 wk2 => ?_) fun c w2 h2 => okX.ex G1 (okX.back h2 s1)⟩
    have s2 := SStep.of (w' := w2) G1 x2
    cases b with
    | true =>
      refine iteT ⟨fun σ' H' => ∃ γ' ρ' w', Good Z ce own γ' σ' H' ρ' w' ∧ SStep γ H γ' H' ∧ PostS (whileR t fb n ρ' w') (okN Z ce own γ H Dn) (okR Z ce γ Dn) (okX Z ce own γ H Wx), fun σ' H' p => ⟨n, Nat.lt_succ_self _, p⟩, ?_⟩
      refine ⟨γ1.step g2, ρ1, w2, G1.step x2 wk2, (PostS.sq h2).imp (fun ρ3 w3 h3 γ3 σ3 H3 G3 s3 => ⟨γ3, ρ3, w3, G3, s1.trans (s2.trans s3), h3⟩) (fun _ _ h => okR.back h (s1.trans s2)) fun _ _ _ h => okX.back h (s1.trans s2)⟩
    | false => exact iteF (h2 _ _ _ (G1.step x2 wk2) (s1.trans s2))
theorem wr_def (K : Sok Z ce C X sc Wx) {x : Str} {i : Nat} (h : wrSlot C.N sc x = some i) : L2.Loc X.env.scope x ∧ (X.fn x = true ∨ X.env.scope.names.lookup x = some .local) := by
  obtain ⟨_, h2, _⟩ := wrSlot_ok h
  exact ⟨by rw [K.sc_]; exact h2, .inl (K.fnT x)⟩
theorem ls_for (h3 : Zip3Ok ce) (K : Sok Z ce C X sc Wx) {tg it : Expr} {body : List Stmt} {fe : Expr → Rho → W → Res W D} (hn : NmOk fe) {ke Fe Te : Expr → Nat} {fb : Rho → W → SRes W} (hev : ∀ e, PE X e (tE Z ce C.own (ke e) (Fe e) (Te e) Wx (fe e))) (hb : PSs X body (tS Z ce C.own Wx fb)) :
    PS X (.For tg it body [] pos) (tS Z ce C.own Wx fun ρ w => guardS (notSet it && (itPl sc tg it).1.all notStar && (itPl sc tg it).1.all (fun e => decide (ke e = 0)) && (asgSlots C.N sc tg).all (fun i => decide (ownAt C.own i = 0)))
          (onE ρ (trav (fun e w => fe e ρ w) (itPl sc tg it).1 w) fun ds w => onE ρ (lift ((itPl sc tg it).2 ds) w) fun items w =>
            forR (fun d ρ w => onE ρ (lift (asgR C.N sc tg d ρ) w) fun ρ w => fb ρ w) items ρ w)) := by
  generalize hgd : (notSet it && (itPl sc tg it).1.all notStar && (itPl sc tg it).1.all (fun e => decide (ke e = 0)) && (asgSlots C.N sc tg).all (fun i => decide (ownAt C.own i = 0))) = gd
  cases gd with
  | false => exact ls_none fun _ _ => rfl
  | true =>
    simp only [Bool.and_eq_true] at hgd
    obtain ⟨⟨⟨g0, g1⟩, g2⟩, g3⟩ := hgd
    have hfs : ∀ x, foldedSetIterable it X.env x = pure x := fun x => by cases it <;> first | rfl | cases g0
    have own0 : ∀ i ∈ asgSlots C.N sc tg, ownK (ownAt C.own i) = .sh := fun i hi => by rw [of_decide_eq_true (List.all_eq_true.mp g3 i hi)]; rfl
    have kle : maxK ((itPl sc tg it).1.map ke) = 0 := by
      have : ∀ es : List Expr, es.all (fun e => decide (ke e = 0)) = true → maxK (es.map ke) = 0 := by
        intro es
        induction es with
        | nil => intro _; rfl
        | cons e es ih =>
          intro h
          simp only [List.all_cons, Bool.and_eq_true, decide_eq_true_eq] at h
          show max (ke e) (maxK (es.map ke)) = 0
          rw [h.1, ih h.2]; rfl
      exact this _ g2
    refine imS (ps_for K.po K.calm (it_ok h3 K.toCok hn hev tg it g1) (pg_of K.nm K.nd K.calm (fun x i h => wr_def K h) tg) hb hfs) fun Dn σ H ⟨γ, ρ, w, G, q⟩ => ⟨γ, ρ, w, G, (PostS.onE (show PostS (onE ρ _ _) _ _ _ from q)).imp (fun ds w1 h1 => ?_) fun c w1 h1 => okX.ex G h1⟩
    obtain ⟨items, ei, h2⟩ := (PostS.onE h1).lift
    refine ⟨items, ei, fun vs H1 g1' x1 wk1 r1 J y ln => ?_⟩
    let Wv : Nat → L2.St → Hp → Prop := fun i σ' H' => i ≤ items.length ∧ ∃ γ' ρ' w', Good Z ce C.own γ' σ' H' ρ' w' ∧ SStep γ H γ' H' ∧ Reps ce γ'.g.hs H' (fun _ a => a ∉ γ'.L) vs ds ∧ PostS (forR (fun d ρ w => onE ρ (lift (asgR C.N sc tg d ρ) w) fun ρ w => fb ρ w) (items.drop i) ρ' w') (okN Z ce C.own γ H Dn) (okR Z ce γ Dn) (okX Z ce C.own γ H Wx)
    have r1' : Reps ce g1'.hs H1 (fun _ a => a ∉ (γ.step g1').L) vs ds := r1.mono fun j a p z => (List.mem_append.mp z).elim p.2 (p.1.2.2.2 (by rw [kle]; exact Nat.zero_le _))
    refine ⟨fun i n σ' H' => n = items.length - i ∧ Wv i σ' H', ⟨_, rfl, Nat.zero_le _, γ.step g1', ρ, w1, G.step x1 wk1, SStep.of (w' := w1) G x1, r1', by simpa using h2⟩, ?_⟩
    rintro i n σ2 H2 ⟨rfl, hi, γ2, ρ2, w2, G2, s2, r2, q2⟩
    obtain ⟨yg, ys⟩ := y _ _ _ r2
    by_cases hlt : i < items.length
    · obtain ⟨go, yl⟩ := yg i items[i] (by simp [hlt])
      refine .inr ⟨go, Wv (i + 1), fun σ' H' p => ⟨items.length - (i + 1), by omega, rfl, p⟩, fun x H' hy => ?_⟩
      obtain ⟨xx, rx⟩ := yl x H' hy
      rw [List.drop_eq_getElem_cons hlt] at q2
      have q3 := PostS.sq (r := onE ρ2 (lift (asgR C.N sc tg items[i] ρ2) w2) fun ρ w => fb ρ w) q2
      obtain ⟨ρ3, e3, q4⟩ := (PostS.onE q3).lift
      unfold asgR at e3
      cases els : asgL C.N sc tg items[i] with
      | none => rw [els] at e3; cases e3
      | some ls =>
        rw [els] at e3
        have e3 := (Option.some.inj e3).symm
        subst e3
        have s3 : SStep γ2 H2 γ2 H' := ⟨rfl, rfl, fun b o _ e => xx b o e, fun b o _ e => xx b o e, fun _ h => .inl h, fun _ h => h, fun _ _ e => e⟩
        refine asg_go (R := fun a => a ∉ γ2.L) els rx (fun j a ⟨j', hj, p⟩ => p) fun us ru => ⟨γ2, _, w2, (G2.ext xx).setL (fun p hp => own0 _ (asg_slots els p hp)) ru, ?_⟩
        refine q4.imp (fun ρ4 w4 h4 γ4 σ4 H4 G4 s4 => ⟨hlt, γ4, ρ4, w4, G4, s2.trans (s3.trans s4), ?_, h4⟩) (fun _ _ h => okR.back h (s2.trans s3)) fun _ _ _ h => okX.back h (s2.trans s3)
        refine (r2.ext xx).go (fun j b o p e => ⟨(fun z => (s4.newL b z).elim p fun q => by rw [q] at e; cases e), s4.keep b _ p e⟩) (fun b o t e => s4.keepT b o t e) s4.hs
    · have ei : i = items.length := by omega
      subst ei
      refine .inl ⟨ys, ?_⟩
      rw [List.drop_length] at q2
      exact q2 _ _ _ G2 s2
end
end T
namespace T
open PySem PySem.Spec PyProof.Rows L2
section
variable {W : Type} {Z : Wd W} {ce : Str → Option Addr} {own : List Nat} {γ : GP} {σ : L2.St} {H : Hp} {ρ : Rho} {w : W}
/-- a new list goes to an own name -/
theorem Good.own1 (G : Good Z ce own γ σ H ρ w) {g' : Gh} {H' : Hp} {w' : W} (x : CStep γ.g H g' H') (wk : WOk Z g' H' w') {i nd : Nat} {p : Addr} {vs : List V} {ds : List D} (hp : H p = none) (hO : p ∉ g'.Om) (e : H' p = some (.lst vs)) (n : vs.length ≤ sizeLine) (hi : ownK (ownAt own i) = .its nd)
    (r : Reps ce g'.hs H' (fun j a => a ∉ (γ.step g').L ∧ a ≠ p ∧ (j < nd → γ.H0 a = none)) vs ds) :
    Good Z ce own { γ.step g' with L := p :: (γ.step g').L, Tp := fun j => if j = i then [p] else γ.Tp j } (σ.set i (some (.ref p))) H' (ρ.set i (some (.list ds))) w' := by
  have G1 := G.step x wk
  have pL : p ∉ γ.L := fun z => G.dom p z hp
  have pL' : p ∉ (γ.step g').L := fun z => (List.mem_append.mp z).elim hO pL
  have tpne : ∀ j a, a ∈ γ.Tp j → a ≠ p := fun j a h z => pL (z ▸ (G.tp j a h).1)
  refine ⟨G1.wok, G1.st0, G1.omV, fun a h => List.mem_cons_of_mem _ (G1.vL a h), fun a h => ?_, fun j a h => ?_, fun j k a h1 h2 => ?_, by rw [List.length_set, List.length_set]; exact G.len, fun j d h => ?_⟩
  · rcases List.mem_cons.mp h with z | z
    · rw [z, e]; exact fun q => nomatch q
    · exact G1.dom a z
  · have h : a ∈ (if j = i then [p] else γ.Tp j) := h
    split at h
    · have z : a = p := by simpa using h
      subst z
      exact ⟨List.mem_cons_self, fun z => pL' (G1.vL _ z), G.st0.none G.wok hp⟩
    · obtain ⟨h1, h2, h3⟩ := G1.tp j a h
      exact ⟨List.mem_cons_of_mem _ h1, h2, h3⟩
  · have h1 : a ∈ (if j = i then [p] else γ.Tp j) := h1
    have h2 : a ∈ (if k = i then [p] else γ.Tp k) := h2
    split at h1
    · rename_i z1
      split at h2
      · rename_i z2; rw [z1, z2]
      · have z : a = p := by simpa using h1
        exact absurd z (tpne k a h2)
    · split at h2
      · have z : a = p := by simpa using h2
        exact absurd z (tpne j a h1)
      · exact G.dis j k a h1 h2
  · by_cases hj : i = j
    · subst hj
      by_cases hl : i < ρ.length
      · rw [List.getElem?_set_self hl] at h
        cases h
        refine ⟨_, List.getElem?_set_self (by rw [← G.len]; exact hl), ?_⟩
        rw [hi]
        refine .inl ⟨p, vs, ds, rfl, rfl, e, n, ?_, r.mono fun j a q => ⟨fun z => (List.mem_cons.mp z).elim q.2.1 q.1, q.2.2⟩⟩
        show (if i = i then [p] else γ.Tp i) = [p]
        rw [if_pos rfl]
      · rw [List.getElem?_eq_none (by rw [List.length_set]; omega)] at h
        cases h
    · rw [List.getElem?_set_ne hj] at h ⊢
      obtain ⟨v, e1, s⟩ := G.slot j d h
      refine ⟨v, e1, ?_⟩
      show Slot ce g'.hs H' γ.H0 (p :: (γ.step g').L) _ v d (if j = i then [p] else γ.Tp j)
      rw [if_neg (Ne.symm hj)]
      refine s.go (fun b o e n => ⟨x.keep b _ (fun z => n (G.vL b (G.omV b z))) e, fun z => ?_⟩) (fun b hb o e => x.keep b o (fun z => (G.tp j b hb).2.1 (G.omV b z)) e) (fun b o t e => x.keepT G.wok t e) x.hs
      rcases List.mem_cons.mp z with z | z
      · rw [z, hp] at e; cases e
      · rcases List.mem_append.mp z with z | z
        · rcases x.new b z with q | q
          · exact n (G.vL b (G.omV b q))
          · rw [q] at e; cases e
        · exact n z
/-- no list goes to an own name -/
theorem Good.own0 (G : Good Z ce own γ σ H ρ w) {i nd : Nat} {v : V} {d : D} (hi : ownK (ownAt own i) = .its nd) (hl : isListD d = false) (r : Rep ce γ.g.hs H (fun j a => a ∉ γ.L ∧ (j < nd + 1 → γ.H0 a = none)) v d) : Good Z ce own γ (σ.set i (some v)) H (ρ.set i (some d)) w :=
  ⟨G.wok, G.st0, G.omV, G.vL, G.dom, G.tp, G.dis, by rw [List.length_set, List.length_set]; exact G.len, fun j e h => by
    by_cases hj : i = j
    · subst hj
      by_cases hl : i < ρ.length
      · rw [List.getElem?_set_self hl] at h
        cases h
        refine ⟨v, List.getElem?_set_self (by rw [← G.len]; exact hl), ?_⟩
        rw [hi]
        exact .inr ⟨by assumption, r⟩
      · rw [List.getElem?_eq_none (by rw [List.length_set]; omega)] at h
        cases h
    · rw [List.getElem?_set_ne hj] at h ⊢
      exact G.slot j e h⟩
/-- an own list is changed -/
theorem Good.updT (G : Good Z ce own γ σ H ρ w) {i nd : Nat} {p : Addr} {vs us : List V} {es : List D} (hi : ownK (ownAt own i) = .its nd) (hT : γ.Tp i = [p]) (hσ : σ[i]? = some (some (.ref p))) (e0 : H p = some (.lst vs)) (n : us.length ≤ sizeLine)
    (r : Reps ce γ.g.hs H (fun j a => a ∉ γ.L ∧ (j < nd → γ.H0 a = none)) us es) : Good Z ce own γ σ (upd H p (.lst us)) (ρ.set i (some (.list es))) w ∧ SStep γ H γ (upd H p (.lst us)) := by
  have hp : p ∈ γ.Tp i := by rw [hT]; exact List.mem_cons_self
  obtain ⟨pL, pV, p0⟩ := G.tp i p hp
  have pO : p ∉ γ.g.Om := fun z => pV (G.omV p z)
  have same : ∀ {a : Addr}, a ≠ p → upd H p (.lst us) a = H a := fun h => upd_ne h
  have neT : ∀ {a : Addr} {o : HO}, isT o → H a = some o → a ≠ p := fun t e z => by rw [z, e0] at e; cases e; exact t
  have some' : ∀ a, H a ≠ none → upd H p (.lst us) a ≠ none := fun a h => by
    by_cases z : a = p
    · rw [z, upd_same]; exact fun q => nomatch q
    · rw [same z]; exact h
  refine ⟨⟨⟨Z.stab G.wok.rel (fun a ha => same fun z => pO (z ▸ ha)) (fun b o t e => by rw [same (neT t e)]; exact e), fun a ha => some' a (G.wok.dom a ha), fun a ha o e => G.wok.mu a ha o (by rw [← same (fun z => pO (z ▸ ha))]; exact e)⟩, ⟨fun b o hb e => ?_, G.st0.sub, G.st0.new, G.st0.hs⟩, G.omV, G.vL, fun a h => some' a (G.dom a h), G.tp, G.dis, by rw [List.length_set]; exact G.len, fun j d h => ?_⟩, rfl, rfl, fun b o hb e => ?_, fun b o t e => ?_, fun _ h => .inl h, fun _ h => h, fun _ _ e => e⟩
  · rw [same (fun z => by rw [z, p0] at e; cases e)]; exact G.st0.keep b o hb e
  · by_cases hj : i = j
    · subst hj
      by_cases hl : i < ρ.length
      · rw [List.getElem?_set_self hl] at h
        cases h
        refine ⟨_, hσ, ?_⟩
        rw [hi]
        refine .inl ⟨p, us, es, rfl, rfl, upd_same, n, hT, r.go (fun j b o q e => ⟨q, ?_⟩) (fun b o t e => ?_) fun _ _ e => e⟩
        · rw [same (a := b) (fun z => q.1 (z ▸ pL))]; exact e
        · rw [same (neT t e)]; exact e
      · rw [List.getElem?_eq_none (by rw [List.length_set]; omega)] at h
        cases h
    · rw [List.getElem?_set_ne hj] at h
      obtain ⟨v, e1, s⟩ := G.slot j d h
      refine ⟨v, e1, s.go (fun b o e n => ⟨?_, n⟩) (fun b hb o e => ?_) (fun b o t e => ?_) fun _ _ e => e⟩
      · rw [same (a := b) (fun z => n (z ▸ pL))]; exact e
      · rw [same (a := b) (fun z => hj (G.dis i j p hp (z ▸ hb)))]; exact e
      · rw [same (neT t e)]; exact e
  · rw [same (a := b) (fun z => hb (z ▸ pL))]; exact e
  · rw [same (neT t e)]; exact e
/-- an own list as it stands -/
theorem Good.itsL (G : Good Z ce own γ σ H ρ w) {i nd : Nat} {ds : List D} (hi : ownK (ownAt own i) = .its nd) (e : ρ[i]? = some (some (.list ds))) :
    ∃ p vs, σ[i]? = some (some (.ref p)) ∧ H p = some (.lst vs) ∧ vs.length ≤ sizeLine ∧ γ.Tp i = [p] ∧ Reps ce γ.g.hs H (fun j a => a ∉ γ.L ∧ (j < nd → γ.H0 a = none)) vs ds := by
  obtain ⟨v, e1, s⟩ := G.slot i _ e
  rw [hi] at s
  rcases s with ⟨p, vs, ds', rfl, ed, e3, n, e4, r⟩ | ⟨z, _⟩
  · cases ed
    exact ⟨p, vs, e1, e3, n, e4, r⟩
  · cases z
variable {X : Cx} {Wx : Str → L2.St → Hp → Prop} {pos : Pos} {C : Cfg W} {pl : Pl} {sc : Scope} {m : Nat}
theorem Good.same_set (G : Good Z ce own γ σ H ρ w) {i : Nat} {d : D} (e : ρ[i]? = some (some d)) : ρ.set i (some d) = ρ := by
  obtain ⟨hl, h⟩ := List.getElem?_eq_some_iff.mp e
  rw [← h]
  exact List.set_getElem_self hl
/-- what comes to a name -/
theorem asg_put (G : Good Z ce C.own γ σ H ρ w) {i : Nat} {e : Expr} {d : D} {w' : W} {g' : Gh} {H' : Hp} {v : V} (x : CStep γ.g H g' H') (wk : WOk Z g' H' w') (hs : stOk C.N C.own m sc i e = true) (hv : stVal C.own i d = true)
    (r : Rep ce g'.hs H' (PexO (expo C.N C.own m sc e) (newK C.N C.own false m sc e) (newK C.N C.own true m sc e) γ H g') v d) : ∃ γ', Good Z ce C.own γ' (σ.set i (some v)) H' (ρ.set i (some d)) w' ∧ SStep γ H γ' H' := by
  unfold stOk at hs
  obtain ⟨h1, h2⟩ := Bool.and_eq_true_iff.mp hs
  have hx : expo C.N C.own m sc e = 0 := of_decide_eq_true h1
  have notL : ∀ {j : Nat} {a : Addr}, PexO (expo C.N C.own m sc e) (newK C.N C.own false m sc e) (newK C.N C.own true m sc e) γ H g' j a → a ∉ (γ.step g').L := fun p z => (List.mem_append.mp z).elim p.2 (p.1.2.2.2 (by rw [hx]; exact Nat.zero_le _))
  cases hk : ownK (ownAt C.own i) with
  | sh => exact ⟨_, (G.step x wk).set1 hk (r.mono fun j a p => notL p), SStep.of (w' := w') G x⟩
  | rows => rw [hk] at h2; cases h2
  | nw n =>
    rw [hk] at h2
    have h2 : n ≤ newK C.N C.own true m sc e := of_decide_eq_true h2
    exact ⟨_, (G.step x wk).setN hk (r.mono fun j a p => ⟨notL p, fun z => p.1.2.1 (Nat.lt_of_lt_of_le z h2)⟩), SStep.of (w' := w') G x⟩
  | its nd =>
    rw [hk] at h2
    obtain ⟨k1, k2⟩ := Bool.and_eq_true_iff.mp h2
    have k1 := of_decide_eq_true k1
    have k2 := of_decide_eq_true k2
    cases hd : isListD d with
    | true =>
      cases d with
      | list ds =>
        cases r with
        | @lst _ p vs _ e1 n1 p1 r1 =>
          have hp : H p = none := p1.1.1 (by omega)
          refine ⟨_, G.own1 x wk hp p1.2 e1 n1 hk (r1.mono fun j a q => ⟨notL q.1, q.2, fun z => q.1.1.2.1 (by omega)⟩), ?_⟩
          have s := SStep.of (w' := w') G x
          exact ⟨rfl, rfl, s.keep, s.keepT, fun a h => (List.mem_cons.mp h).elim (fun z => .inr (z ▸ hp)) (s.newL a), s.sub, s.hs⟩
      | _ => cases hd
    | false =>
      refine ⟨_, (G.step x wk).own0 hk hd (r.mono fun j a p => ⟨notL p, fun z => p.1.2.1 (by omega)⟩), SStep.of (w' := w') G x⟩
theorem sw_lc {elt : Expr} {gs : List Comprehension} {scope : Scope} {p py : Pos} {y : Str} {l : Nat} {env : Env} (hk : env.scope.kind = .function) : swapsWith (.ListComp elt gs scope p) (some (.Name y py)) l env =
    pure (decide (env.scope.names.lookup y = some .local) && (py.line == p.line) && !(scope.names.any fun q => q.1 == y && (q.2 == .local || q.2 == .cell))) := by
  have hb : env.blockKind = .function := by unfold Env.blockKind; rw [hk]; rfl
  have hy : (env.kindOf y == some .local) = decide (env.scope.names.lookup y = some .local) := by
    unfold Env.kindOf
    cases q : env.scope.names.lookup y with
    | none => rfl
    | some k => cases k <;> rfl
  unfold swapsWith
  simp only [hb, hy, Expr.pos]
  rfl
theorem ls_asg (h3 : Zip3Ok ce) (hp : ∀ K, PlOk ce K pl) (hpl : PlLeaf pl) (K : Sok Z ce C X sc Wx) {x : Str} {p : Pos} {e : Expr} : PS X (.Assign [.Name x p] e pos) (tS Z ce C.own Wx fun ρ w => asgS C pl m sc x e ρ w) := by
  cases hw : wrSlot C.N sc x with
  | none => exact ls_none fun ρ w => by unfold asgS; rw [hw]
  | some i =>
    cases hst : stOk C.N C.own m sc i e with
    | false => exact ls_none fun ρ w => by unfold asgS; rw [hw]; dsimp only; rw [hst]; rfl
    | true =>
      have eq : (fun (ρ : Rho) (w : W) => asgS C pl m sc x e ρ w) = fun ρ w => onE ρ (evS C pl m sc e ρ w) fun d w => guardS (stVal C.own i d) (.nx (ρ.set i (some d)) w) := by
        funext ρ w
        unfold asgS
        rw [hw]
        dsimp only
        rw [hst]; rfl
      rw [eq]
      have hN : X.N.Nodup := by rw [K.nm]; exact K.nd
      have hi : X.N[i]? = some x := by rw [K.nm]; exact (wrSlot_ok hw).1
      have rd : ∀ Dn σ H, tS Z ce C.own Wx (fun ρ w => onE ρ (evS C pl m sc e ρ w) fun d w => guardS (stVal C.own i d) (.nx (ρ.set i (some d)) w)) Dn σ H →
          tAsg (tE Z ce C.own (expo C.N C.own m sc e) (newK C.N C.own false m sc e) (newK C.N C.own true m sc e) Wx fun ρ w => ev C pl m sc e ρ w) (gName i) Dn σ H := fun Dn σ H ⟨γ, ρ, w, G, q⟩ =>
        ⟨γ, ρ, w, G, (PostS.onE q).imp (fun d w1 h1 v H1 g1 x1 wk1 r1 => by
          obtain ⟨hv, h2⟩ := h1.guard
          obtain ⟨γ', G', s'⟩ := asg_put G x1 wk1 hst hv r1
          exact h2 _ _ _ G' s') fun c w1 h1 => okX.ex G h1⟩
      by_cases hc : noComp e = true
      · exact imS (ps_set hN hi (wr_def K hw).1 ((ev_ok h3 hp hpl m X sc Wx K.toCok).1 e) (swaps0 hc) (wr_def K hw).2) rd
      · cases e with
        | ListComp elt gens scope p' =>
          have hsw := sw_lc (elt := elt) (gs := gens) (scope := scope) (p := p') (py := p) (y := x) (l := pos.line) (env := X.env) (by rw [K.sc_]; exact K.kd)
          generalize hb : (decide (X.env.scope.names.lookup x = some .local) && (p.line == p'.line) && !(scope.names.any fun q => q.1 == x && (q.2 == .local || q.2 == .cell))) = b at hsw
          cases b with
          | false => exact imS (ps_set hN hi (wr_def K hw).1 ((ev_ok h3 hp hpl m X sc Wx K.toCok).1 _) hsw (wr_def K hw).2) rd
          | true =>
            have hloc : X.env.scope.names.lookup x = some .local := by
              simp only [Bool.and_eq_true] at hb
              exact of_decide_eq_true hb.1.1
            cases m with
            | zero => exact ls_none fun _ _ => rfl
            | succ m =>
              have pln : pl sc (.ListComp elt gens scope p') = none := hpl.none rfl
              have evq : ∀ ρ w, ev C pl (m + 1) sc (.ListComp elt gens scope p') ρ w = evN C (ev C pl m) m sc (.ListComp elt gens scope p') ρ w := fun ρ w => ev_none pln
              have bad : (∀ ρ w, evN C (ev C pl m) m sc (.ListComp elt gens scope p') ρ w = .no) → PS X (.Assign [.Name x p] (.ListComp elt gens scope p') pos) (tS Z ce C.own Wx fun ρ w => onE ρ (evS C pl (m + 1) sc (.ListComp elt gens scope p') ρ w) fun d w => guardS (stVal C.own i d) (.nx (ρ.set i (some d)) w)) := fun h =>
                ls_none fun ρ w => by
                  show onE ρ (ev C pl (m + 1) sc (.ListComp elt gens scope p') ρ w) _ = _
                  rw [evq, h]; rfl
              match gens with
              | [] => exact bad fun _ _ => rfl
              | ⟨tg, it, ifs, asy⟩ :: g2 :: gs => exact bad fun _ _ => rfl
              | [⟨tg, it, ifs, asy⟩] =>
                by_cases ha : asy = 0
                · subst ha
                  have ih := ev_ok h3 hp hpl m X sc Wx K.toCok
                  rcases lc_parts (elt := elt) (tg := tg) (it := it) (ifs := ifs) (scope := scope) (m := m) h3 K.toCok (nm_ev hpl m sc) ih.1 (fun Xb Wy Kb e => (ev_ok h3 hp hpl m Xb _ _ Kb).1 e) (fun Xb Wy Kb e => (tst_ok (C := C) (ev_ok h3 hp hpl m Xb _ _ Kb).1 (ev_ok h3 hp hpl m Xb _ _ Kb).2 m e).1) (fun h1 h2 => elR_pure hpl h1 h2) with hno | ⟨wi, g, tt, te, ow, P⟩
                  · exact bad hno
                  · refine imS (ps_lcX K.calm hN K.fr K.tf hi hloc hsw P.hi P.ok P.hg P.ht P.he P.hs) fun Dn σ H q => ?_
                    have q2 := rd Dn σ H q
                    show tLc wi g (tt σ) (te σ) (ow.map (·.2)) σ H (fun x H1 => gName i x σ H1 Dn.nx)
                    refine P.rd σ H _ (tE_two ?_)
                    obtain ⟨γ, ρ, w, G, q3⟩ := q2
                    refine ⟨γ, ρ, w, G, ?_⟩
                    dsimp only at q3
                    rw [evq] at q3
                    exact q3
                · refine bad fun ρ w => ?_
                  show guardR (decide (asy = 0)) _ = _
                  rw [decide_eq_false ha]; rfl
        | SetComp a b c d =>
          refine ls_none fun ρ w => ?_
          cases m with
          | zero => rfl
          | succ m =>
            have pln : pl sc (.SetComp a b c d) = none := hpl.none rfl
            show onE ρ (ev C pl (m + 1) sc (.SetComp a b c d) ρ w) _ = _
            rw [ev_none pln]; rfl
        | DictComp a b c d f =>
          refine ls_none fun ρ w => ?_
          cases m with
          | zero => rfl
          | succ m =>
            have pln : pl sc (.DictComp a b c d f) = none := hpl.none rfl
            show onE ρ (ev C pl (m + 1) sc (.DictComp a b c d f) ρ w) _ = _
            rw [ev_none pln]; rfl
        | _ => exact absurd rfl hc
end
end T
namespace T
open PySem PySem.Spec PyProof.Rows L2
/-- l[i] by values -/
theorem get_lst {X : Cx} : PGet X (rIxL X.K) := by
  intro pins s σ H o i ov iv Q I ro ri h
  obtain ⟨p, xs, k, z, rfl, rfl, hq, he, q⟩ := h
  cases ro
  obtain ⟨t, rfl⟩ := ri
  obtain ⟨its, r, pla, hz⟩ := I.list hq
  obtain ⟨j, a1, a2, a3, a4, a5⟩ := atI_get he
  obtain ⟨u, eu, ru⟩ := r.get a2
  have hl := r.length
  have hn := line63
  have fin : EP X pins σ Q u s := ⟨z, H, I, ru, q⟩
  by_cases h0 : 0 ≤ k
  · have hj : k.toNat = j := by
      rw [seqIndex_of h0 a5] at a1
      exact Option.some.inj a1
    exact wpAny_getItem_list pla.isList h0 (by omega) (by rw [hj]; simpa using eu) fin
  · have hj : (k + (its.toArray.size : Int)).toNat = j := by
      rw [seqIndex_neg (by omega) a4] at a1
      rw [List.size_toArray, ← hl]
      exact Option.some.inj a1
    exact wpAny_getItem_list_neg pla.isList (by omega) (by rw [List.size_toArray] <;> omega) (by omega) (by rw [hj]; simpa using eu) fin
def noSl : Expr → Bool
  | .Slice _ _ _ _ => false
  | _ => true
section
variable {W : Type} {Z : Wd W} {ce : Str → Option Addr} {own : List Nat} {γ : GP} {σ : L2.St} {H : Hp} {ρ : Rho} {w : W}
variable {X : Cx} {Wx : Str → L2.St → Hp → Prop} {pos : Pos} {C : Cfg W} {pl : Pl} {sc : Scope} {m : Nat}
theorem pe_slot (K : Cok Z ce C X sc Wx) {x : Str} {i : Nat} {p : Pos} (h : rdSlot C.N sc x = some i) : PE X (.Name x p) (tVar i) := by
  obtain ⟨h1, h2, h3⟩ := rdSlot_ok h
  obtain ⟨d1, d2, _⟩ := okName_d h3
  exact pe_var (by rw [K.nm]; exact h1) (by rw [K.sc_]; exact h2) d1 d2
theorem sl_some {i : Nat} {ok : D → W → Prop} {ex : Str → W → Prop} (h : Post (sl ρ i w) ok ex) : ∃ d, ρ[i]? = some (some d) ∧ ok d w := by
  unfold sl at h
  split at h
  · rename_i d e; exact ⟨d, e, h⟩
  · exact h.elim
theorem its_of {k : OwnK} (h : isItsK k = true) : ∃ n, k = .its n := by
  cases k with
  | its n => exact ⟨n, rfl⟩
  | _ => cases h
theorem ls_app (h3 : Zip3Ok ce) (hp : ∀ K, PlOk ce K pl) (hpl : PlLeaf pl) (K : Sok Z ce C X sc Wx) {x : Str} {p ap cp : Pos} {e : Expr} (hl : (ap.endLine == cp.line) = true) :
    PS X (.Expr (.Call (.Attribute (.Name x p) "append" ap) [e] [] cp) pos) (tS Z ce C.own Wx fun ρ w => appS C pl m sc x e ρ w) := by
  cases hw : rdSlot C.N sc x with
  | none => exact ls_none fun ρ w => by unfold appS; rw [hw]
  | some i =>
    generalize hg : (isItsK (ownK (ownAt C.own i)) && notStar e && decide (expo C.N C.own m sc e = 0) && decide (ndK (ownK (ownAt C.own i)) ≤ newK C.N C.own true m sc e)) = gd
    cases gd with
    | false => exact ls_none fun ρ w => by unfold appS; rw [hw]; dsimp only; rw [hg]; rfl
    | true =>
      have eq : (fun (ρ : Rho) (w : W) => appS C pl m sc x e ρ w) = fun ρ w => onE ρ (sl ρ i w) fun l w => guardS (isListD l) (onE ρ (evS C pl m sc e ρ w) fun d w => onE ρ (lift (appD l d) w) fun l' w => .nx (ρ.set i (some l')) w) := by
        funext ρ w
        unfold appS
        rw [hw]
        dsimp only
        rw [hg]; rfl
      rw [eq]
      simp only [Bool.and_eq_true, decide_eq_true_eq] at hg
      obtain ⟨⟨⟨g1, g2⟩, g3⟩, g4⟩ := hg
      obtain ⟨nd, hk⟩ := its_of g1
      rw [hk] at g4
      refine imS (ps_expr (pe_bm PySem.F.plainAttrs_list PySem.F.slot_list_append PySem.F.type_list_append mt_append (pe_slot K.toCok hw) (pa_cons ((ev_ok h3 hp hpl m X sc Wx K.toCok).1 e) pa_nil (star_cons g2)) rfl (by rw [star_cons g2]; rfl) hl (star_cons g2) rfl) rfl) fun Dn σ H ⟨γ, ρ, w, G, q⟩ => ?_
      obtain ⟨l, el, q1⟩ := sl_some (PostS.onE q)
      obtain ⟨hil, q1⟩ := q1.guard
      cases l with
      | list ds =>
        obtain ⟨pa, vs, e1, e2, n1, e4, r1⟩ := G.itsL hk el
        refine ⟨_, e1, .inl ⟨rfl, _, SqL.of e2⟩, γ, ρ, w, G, (PostS.onE q1).imp (fun d w1 h1 v H1 g1' x1 wk1 rv => ?_) fun c w1 h1 => okX.ex G h1⟩
        obtain ⟨l', el', q2⟩ := (PostS.onE h1).lift
        have el2 : (if lenOk (ds.length + 1) then some (PyData.list (ds ++ [d])) else none) = some l' := el'
        split at el2
        · rename_i hlen
          cases el2
          have G1 := G.step x1 wk1
          obtain ⟨pa', vs', e1', e2', n1', e4', r1'⟩ := G1.itsL hk el
          rw [e1] at e1'
          cases e1'
          have hlv : vs'.length < sizeLine := by rw [r1'.length]; have := line_le hlen; omega
          refine ⟨pa, vs', v, rfl, rfl, e2', hlv, ?_⟩
          obtain ⟨G2, s2⟩ := G1.updT hk e4' (by exact e1) e2' (us := vs' ++ [v]) (es := ds ++ [d]) (by rw [List.length_append]; exact hlv) (r1'.append (.one (rv.mono fun j a p => ⟨fun z => (List.mem_append.mp z).elim p.2 (p.1.2.2.2 (by rw [g3]; exact Nat.zero_le _)), fun z => p.1.2.1 (Nat.lt_of_lt_of_le z g4)⟩)))
          exact q2 _ _ _ G2 ((SStep.of (w' := w1) G x1).trans s2)
        · cases el2
      | _ => cases hil
theorem PIp_of {X : Cx} {op : Operator} {r : R2} (h : OpR X (inplaceOp op) r) : PIp X op r := fun pins s σ H x y v u Q I r1 r2 q => h pins s σ H x y v u Q I r1 r2 q
theorem PIp_or {X : Cx} {op : Operator} {t t' : TIp} (h : PIp X op t) (h' : PIp X op t') : PIp X op (fun x y H Q => t x y H Q ∨ t' x y H Q) := fun pins s σ H x y v u Q I r1 r2 q => q.elim (h pins s σ H x y v u Q I r1 r2) (h' pins s σ H x y v u Q I r1 r2)
def opK : Operator → Option (Int → Int → Int)
  | .Add => some fun a b => a + b
  | .Sub => some fun a b => a - b
  | _ => none
theorem ip_int {X : Cx} {op : Operator} {f : Int → Int → Int} (h : opK op = some f) : PIp X op (ipI f) := by
  cases op <;> first | (cases h; exact ip_add) | (cases h; exact ip_sub) | cases h
theorem opOk_some {op : Operator} (h : opOk op = true) : ∃ f, opK op = some f := by
  cases op <;> first | exact ⟨_, rfl⟩ | cases h
theorem opI_some {op : Operator} {a b c : D} (h : opI op a b = some c) : ∃ f i j, opK op = some f ∧ a = .int i ∧ b = .int j ∧ c = .int (f i j) := by
  unfold opI at h
  split at h
  · cases h; exact ⟨_, _, _, rfl, rfl, rfl, rfl⟩
  · cases h; exact ⟨_, _, _, rfl, rfl, rfl, rfl⟩
  · cases h
theorem ls_aug (h3 : Zip3Ok ce) (hp : ∀ K, PlOk ce K pl) (hpl : PlLeaf pl) (K : Sok Z ce C X sc Wx) {x : Str} {p : Pos} {op : Operator} {e : Expr} : PS X (.AugAssign (.Name x p) op e pos) (tS Z ce C.own Wx fun ρ w => augS C pl m sc x op e ρ w) := by
  cases hw : wrSlot C.N sc x with
  | none => exact ls_none fun ρ w => by unfold augS; rw [hw]
  | some i =>
    have hN : X.N.Nodup := by rw [K.nm]; exact K.nd
    have hi : X.N[i]? = some x := by rw [K.nm]; exact (wrSlot_ok hw).1
    cases hk : ownK (ownAt C.own i) with
    | rows => exact ls_none fun ρ w => by unfold augS; rw [hw]; dsimp only; rw [hk]
    | nw n => exact ls_none fun ρ w => by unfold augS; rw [hw]; dsimp only; rw [hk]
    | sh =>
      cases hop : opOk op with
      | false => exact ls_none fun ρ w => by unfold augS; rw [hw]; dsimp only; rw [hk]; dsimp only; rw [hop]; rfl
      | true =>
        have eq : (fun (ρ : Rho) (w : W) => augS C pl m sc x op e ρ w) = fun ρ w => onE ρ (sl ρ i w) fun a w => onE ρ (evS C pl m sc e ρ w) fun b w => onE ρ (lift (opI op a b) w) fun c w => .nx (ρ.set i (some c)) w := by
          funext ρ w
          unfold augS
          rw [hw]
          dsimp only
          rw [hk]
          dsimp only
          rw [hop]; rfl
        rw [eq]
        obtain ⟨f, ho⟩ := opOk_some hop
        refine imS (ps_aug hN hi (wr_def K hw).1 ((ev_ok h3 hp hpl m X sc Wx K.toCok).1 e) (ip_int ho) (wr_def K hw).2) fun Dn σ H ⟨γ, ρ, w, G, q⟩ => ?_
        obtain ⟨a, ea, q1⟩ := sl_some (PostS.onE q)
        obtain ⟨v, ev1, s1⟩ := G.slot i a ea
        rw [hk] at s1
        refine ⟨v, ev1, γ, ρ, w, G, (PostS.onE q1).imp (fun b w1 h1 u H1 g1 x1 wk1 r1 => ?_) fun c w1 h1 => okX.ex G h1⟩
        obtain ⟨c, ec, h2⟩ := (PostS.onE h1).lift
        obtain ⟨f', n, k, ho', rfl, rfl, rfl⟩ := opI_some ec
        rw [ho] at ho'
        cases ho'
        cases r1
        have s1 : Rep ce γ.g.hs H (fun _ a => a ∉ γ.L) v (.int n) := s1
        cases s1
        exact ⟨n, k, rfl, rfl, h2 _ _ _ ((G.step x1 wk1).set1 hk (.int _)) (SStep.of (w' := w1) G x1)⟩
    | its nd =>
      generalize hg : (decide (op = .Add) && decide (expo C.N C.own m sc e ≤ 1) && decide (nd = 0 ∨ nd + 1 ≤ newK C.N C.own true m sc e)) = gd
      cases gd with
      | false => exact ls_none fun ρ w => by unfold augS; rw [hw]; dsimp only; rw [hk]; dsimp only; rw [hg]; rfl
      | true =>
        have eq : (fun (ρ : Rho) (w : W) => augS C pl m sc x op e ρ w) = fun ρ w => onE ρ (sl ρ i w) fun l w => guardS (isListD l) (onE ρ (evS C pl m sc e ρ w) fun b w => onE ρ (lift (extD l b) w) fun l' w => .nx (ρ.set i (some l')) w) := by
          funext ρ w
          unfold augS
          rw [hw]
          dsimp only
          rw [hk]
          dsimp only
          rw [hg]; rfl
        rw [eq]
        simp only [Bool.and_eq_true, decide_eq_true_eq] at hg
        obtain ⟨⟨g1, g2⟩, g3⟩ := hg
        subst g1
        refine imS (ps_aug hN hi (wr_def K hw).1 ((ev_ok h3 hp hpl m X sc Wx K.toCok).1 e) (PIp_of iop_ext) (wr_def K hw).2) fun Dn σ H ⟨γ, ρ, w, G, q⟩ => ?_
        obtain ⟨l, el, q1⟩ := sl_some (PostS.onE q)
        obtain ⟨hil, q1⟩ := q1.guard
        cases l with
        | list ds =>
          obtain ⟨pa, vs, e1, e2, n1, e4, r1⟩ := G.itsL hk el
          refine ⟨_, e1, γ, ρ, w, G, (PostS.onE q1).imp (fun d w1 h1 v H1 g1' x1 wk1 rv => ?_) fun c w1 h1 => okX.ex G h1⟩
          obtain ⟨l', el', q2⟩ := (PostS.onE h1).lift
          cases d with
          | list es =>
            have el2 : (if lenOk (ds.length + es.length) then some (PyData.list (ds ++ es)) else none) = some l' := el'
            split at el2
            · rename_i hlen
              cases el2
              have G1 := G.step x1 wk1
              obtain ⟨pa', vs', e1', e2', n1', e4', r1'⟩ := G1.itsL hk el
              rw [e1] at e1'
              cases e1'
              cases rv with
              | lst f1 f2 f3 f4 =>
                have hlv := line_le hlen
                rw [← r1'.length, ← f4.length] at hlv
                refine ⟨pa, _, vs', _, rfl, rfl, e2', f1, hlv, ?_⟩
                obtain ⟨G2, s2⟩ := G1.updT hk e4' (by exact e1) e2' (by rw [List.length_append]; exact hlv) (r1'.append (f4.mono fun j a p => ⟨fun z => (List.mem_append.mp z).elim p.1.2 (p.1.1.2.2.2 (by omega)), fun z => p.1.1.2.1 (by omega)⟩))
                have hσ : σ.set i (some (.ref pa)) = σ := by
                  obtain ⟨hl, h⟩ := List.getElem?_eq_some_iff.mp e1
                  rw [← h]
                  exact List.set_getElem_self hl
                show Dn.nx (σ.set i (some (.ref pa))) _
                rw [hσ]
                exact q2 _ _ _ G2 ((SStep.of (w' := w1) G x1).trans s2)
            · cases el2
          | _ => cases el'
        | _ => cases hil
end
end T
namespace T
open PySem PySem.Spec PyProof.Rows L2
section
variable {W : Type} {Z : Wd W} {ce : Str → Option Addr} {own : List Nat} {γ : GP} {σ : L2.St} {H : Hp} {ρ : Rho} {w : W}
variable {X : Cx} {Wx : Str → L2.St → Hp → Prop} {pos : Pos} {C : Cfg W} {pl : Pl} {sc : Scope} {m : Nat}
theorem setD_some {l k d l' : D} (h : setD l k d = some l') : ∃ ds i j, l = .list ds ∧ k = .int i ∧ ixN ds.length i = some j ∧ l' = .list (ds.set j d) := by
  cases l with
  | list ds =>
    cases k with
    | int i =>
      have h : (ixN ds.length i).map (fun j => PyData.list (ds.set j d)) = some l' := h
      cases q : ixN ds.length i with
      | none => rw [q] at h; cases h
      | some j => rw [q] at h; cases h; exact ⟨_, _, _, rfl, rfl, q, rfl⟩
    | _ => cases h
  | _ => cases h
theorem ls_set (h3 : Zip3Ok ce) (hp : ∀ K, PlOk ce K pl) (hpl : PlLeaf pl) (K : Sok Z ce C X sc Wx) {x : Str} {p p2 : Pos} {j e : Expr} (hj : noSl j = true) : PS X (.Assign [.Subscript (.Name x p) j p2] e pos) (tS Z ce C.own Wx fun ρ w => setS C pl m sc x j e ρ w) := by
  cases hw : rdSlot C.N sc x with
  | none => exact ls_none fun ρ w => by unfold setS; rw [hw]
  | some i =>
    generalize hg : (isItsK (ownK (ownAt C.own i)) && decide (expo C.N C.own m sc e = 0) && decide (ndK (ownK (ownAt C.own i)) ≤ newK C.N C.own true m sc e)) = gd
    cases gd with
    | false => exact ls_none fun ρ w => by unfold setS; rw [hw]; dsimp only; rw [hg]; rfl
    | true =>
      have eq : (fun (ρ : Rho) (w : W) => setS C pl m sc x j e ρ w) = fun ρ w => onE ρ (evS C pl m sc e ρ w) fun d w => onE ρ (sl ρ i w) fun l w => onE ρ (evS C pl m sc j ρ w) fun k w => onE ρ (lift (setD l k d) w) fun l' w => .nx (ρ.set i (some l')) w := by
        funext ρ w
        unfold setS
        rw [hw]
        dsimp only
        rw [hg]; rfl
      rw [eq]
      simp only [Bool.and_eq_true, decide_eq_true_eq] at hg
      obtain ⟨⟨g1, g3⟩, g4⟩ := hg
      obtain ⟨nd, hk⟩ := its_of g1
      rw [hk] at g4
      have E := (ev_ok h3 hp hpl m X sc Wx K.toCok).1
      refine imS (ps_asg (E e) (pg_sub (pe_slot K.toCok hw) (E j) set_list (fun v => by cases j <;> first | rfl | cases hj)) (by cases e <;> rfl) (by cases e <;> rfl) rfl) fun Dn σ H ⟨γ, ρ, w, G, q⟩ => ?_
      refine ⟨γ, ρ, w, G, (PostS.onE q).imp (fun d w1 h1 v H1 g1' x1 wk1 rv => ?_) fun c w1 h1 => okX.ex G h1⟩
      obtain ⟨l, el, h2⟩ := sl_some (PostS.onE h1)
      have G1 := G.step x1 wk1
      have s1 := SStep.of (w' := w1) G x1
      obtain ⟨v0, ev0, _⟩ := G1.slot i l el
      refine ⟨v0, ev0, γ.step g1', ρ, w1, G1, (PostS.onE h2).imp (fun k w2 h3' u H2 g2 x2 wk2 ru => ?_) fun c w2 h3' => okX.ex G1 (okX.back h3' s1)⟩
      obtain ⟨l', el', h4⟩ := (PostS.onE h3').lift
      obtain ⟨ds, n, jj, rfl, rfl, hix, rfl⟩ := setD_some el'
      cases ru
      have G2 := G1.step x2 wk2
      obtain ⟨pa, vs, e1, e2, n1, e4, r1⟩ := G2.itsL hk el
      rw [ev0] at e1
      cases e1
      refine ⟨pa, vs, n, jj, rfl, rfl, e2, by rw [r1.length]; exact hix, ?_⟩
      have rv2 : Rep ce g2.hs H2 (fun j a => a ∉ ((γ.step g1').step g2).L ∧ (j < nd → γ.H0 a = none)) v d := by
        refine (rv.stepO wk1 x2).mono fun j a q => ⟨fun z => ?_, fun z => q.1.2.1 (Nat.lt_of_lt_of_le z g4)⟩
        rcases List.mem_append.mp z with z | z
        · exact q.2 z
        · rcases List.mem_append.mp z with z | z
          · exact q.2 (x2.sub a z)
          · exact q.1.2.2.2 (by rw [g3]; exact Nat.zero_le _) z
      obtain ⟨G3, s3⟩ := G2.updT hk e4 ev0 e2 (us := vs.set jj v) (es := ds.set jj d) (by rw [List.length_set]; exact n1) (Reps.set rv2 jj r1)
      exact h4 _ _ _ G3 (s1.trans ((SStep.of (w' := w2) G1 x2).trans s3))
theorem ls_augIx (h3 : Zip3Ok ce) (hp : ∀ K, PlOk ce K pl) (hpl : PlLeaf pl) (K : Sok Z ce C X sc Wx) {x : Str} {p p2 : Pos} {j e : Expr} {op : Operator} (hj : noSl j = true) : PS X (.AugAssign (.Subscript (.Name x p) j p2) op e pos) (tS Z ce C.own Wx fun ρ w => augIx C pl m sc x j op e ρ w) := by
  cases hw : rdSlot C.N sc x with
  | none => exact ls_none fun ρ w => by unfold augIx; rw [hw]
  | some i =>
    generalize hg : (isItsK (ownK (ownAt C.own i)) && opOk op) = gd
    cases gd with
    | false => exact ls_none fun ρ w => by unfold augIx; rw [hw]; dsimp only; rw [hg]; rfl
    | true =>
      have eq : (fun (ρ : Rho) (w : W) => augIx C pl m sc x j op e ρ w) = fun ρ w => onE ρ (sl ρ i w) fun l w => guardS (isListD l) <| onE ρ (evS C pl m sc j ρ w) fun k w => onE ρ (lift (ixD l k) w) fun a w => onE ρ (evS C pl m sc e ρ w) fun b w => onE ρ (lift (opI op a b) w) fun c w => onE ρ (lift (setD l k c) w) fun l' w => .nx (ρ.set i (some l')) w := by
        funext ρ w
        unfold augIx
        rw [hw]
        dsimp only
        rw [hg]; rfl
      rw [eq]
      obtain ⟨g1, g2⟩ := Bool.and_eq_true_iff.mp hg
      obtain ⟨nd, hk⟩ := its_of g1
      obtain ⟨f, ho⟩ := opOk_some g2
      have E := (ev_ok h3 hp hpl m X sc Wx K.toCok).1
      refine imS (ps_augS (pe_slot K.toCok hw) (E j) get_lst (E e) (ip_int ho) set_list (fun ov iv new => by cases j <;> first | rfl | cases hj)) fun Dn σ H ⟨γ, ρ, w, G, q⟩ => ?_
      obtain ⟨l, el, h1⟩ := sl_some (PostS.onE q)
      obtain ⟨hil, h1⟩ := h1.guard
      cases l with
      | list ds =>
        obtain ⟨pa, vs, e1, e2, n1, e4, r1⟩ := G.itsL hk el
        refine ⟨_, e1, γ, ρ, w, G, (PostS.onE h1).imp (fun k w1 h2 u H1 g1' x1 wk1 ru => ?_) fun c w1 h2 => okX.ex G h2⟩
        obtain ⟨a, ea, h4⟩ := (PostS.onE h2).lift
        have G1 := G.step x1 wk1
        have s1 := SStep.of (w' := w1) G x1
        obtain ⟨pa1, vs1, f1, f2, f3, f4, f5⟩ := G1.itsL hk el
        rw [e1] at f1
        cases f1
        cases k with
        | int n =>
          cases ru
          obtain ⟨va, hva, rva⟩ := at_rep f5 ea
          refine ⟨pa, vs1, n, va, rfl, rfl, SqL.of f2, hva, γ.step g1', ρ, w1, G1, (PostS.onE h4).imp (fun b w2 h5 y H2 g2 x2 wk2 ry => ?_) fun c w2 h5 => okX.ex G1 (okX.back h5 s1)⟩
          obtain ⟨c, ec, h6⟩ := (PostS.onE h5).lift
          obtain ⟨f', p', q', ho', rfl, rfl, rfl⟩ := opI_some ec
          rw [ho] at ho'
          cases ho'
          cases ry
          cases rva
          obtain ⟨l', el', h7⟩ := (PostS.onE h6).lift
          obtain ⟨ds', n', jj, eds, en, hix, rfl⟩ := setD_some el'
          cases eds
          cases en
          have G2 := G1.step x2 wk2
          obtain ⟨pa2, vs2, k1, k2, k3, k4, k5⟩ := G2.itsL hk el
          rw [e1] at k1
          cases k1
          refine ⟨p', q', rfl, rfl, pa, vs2, n, jj, rfl, rfl, k2, by rw [k5.length]; exact hix, ?_⟩
          obtain ⟨G3, s3⟩ := G2.updT hk k4 e1 k2 (us := vs2.set jj (.int (f p' q'))) (es := ds.set jj (.int (f p' q'))) (by rw [List.length_set]; exact k3) (Reps.set (.int _) jj k5)
          exact h7 _ _ _ G3 (s1.trans ((SStep.of (w' := w2) G1 x2).trans s3))
        | _ => cases ea
      | _ => cases hil
end
end T
namespace T
open PySem PySem.Spec PyProof.Rows L2
section
variable {W : Type} {Z : Wd W} {ce : Str → Option Addr} {own : List Nat} {γ : GP} {σ : L2.St} {H : Hp} {ρ : Rho} {w : W}
variable {X : Cx} {Wx : Str → L2.St → Hp → Prop} {pos : Pos} {C : Cfg W} {pl : Pl} {sc : Scope} {m : Nat}
/-- what is new goes to an own name -/
theorem Good.ownA (G : Good Z ce own γ σ H ρ w) {g' : Gh} {H' : Hp} {w' : W} (x : CStep γ.g H g' H') (wk : WOk Z g' H' w') {i : Nat} {A : List Addr} {v : V} {d : D} (hA : ∀ a ∈ A, H a = none ∧ a ∉ g'.Om ∧ H' a ≠ none)
    (s0 : Slot ce g'.hs H' γ.H0 (A ++ (γ.step g').L) (ownK (ownAt own i)) v d A) :
    Good Z ce own { γ.step g' with L := A ++ (γ.step g').L, Tp := fun j => if j = i then A else γ.Tp j } (σ.set i (some v)) H' (ρ.set i (some d)) w' := by
  have G1 := G.step x wk
  have aL : ∀ a ∈ A, a ∉ (γ.step g').L := fun a h z => (List.mem_append.mp z).elim (hA a h).2.1 fun z => G.dom a z (hA a h).1
  have tpne : ∀ j, ∀ a ∈ γ.Tp j, a ∉ A := fun j a h z => G.dom a (G.tp j a h).1 (hA a z).1
  refine ⟨G1.wok, G1.st0, G1.omV, fun a h => List.mem_append_right _ (G1.vL a h), fun a h => ?_, fun j a h => ?_, fun j k a h1 h2 => ?_, by rw [List.length_set, List.length_set]; exact G.len, fun j d' h => ?_⟩
  · rcases List.mem_append.mp h with z | z
    · exact (hA a z).2.2
    · exact G1.dom a z
  · have h : a ∈ (if j = i then A else γ.Tp j) := h
    split at h
    · exact ⟨List.mem_append_left _ h, fun z => aL a h (G1.vL a z), G.st0.none G.wok (hA a h).1⟩
    · obtain ⟨h1, h2, h3⟩ := G1.tp j a h
      exact ⟨List.mem_append_right _ h1, h2, h3⟩
  · have h1 : a ∈ (if j = i then A else γ.Tp j) := h1
    have h2 : a ∈ (if k = i then A else γ.Tp k) := h2
    split at h1
    · rename_i z1
      split at h2
      · rename_i z2; rw [z1, z2]
      · exact absurd h1 (tpne k a h2)
    · split at h2
      · exact absurd h2 (tpne j a h1)
      · exact G.dis j k a h1 h2
  · by_cases hj : i = j
    · subst hj
      by_cases hl : i < ρ.length
      · rw [List.getElem?_set_self hl] at h
        cases h
        refine ⟨_, List.getElem?_set_self (by rw [← G.len]; exact hl), ?_⟩
        show Slot ce g'.hs H' γ.H0 (A ++ (γ.step g').L) _ v d (if i = i then A else γ.Tp i)
        rw [if_pos rfl]
        exact s0
      · rw [List.getElem?_eq_none (by rw [List.length_set]; omega)] at h
        cases h
    · rw [List.getElem?_set_ne hj] at h ⊢
      obtain ⟨v', e1, s⟩ := G.slot j d' h
      refine ⟨v', e1, ?_⟩
      show Slot ce g'.hs H' γ.H0 (A ++ (γ.step g').L) _ v' d' (if j = i then A else γ.Tp j)
      rw [if_neg (Ne.symm hj)]
      refine s.go (fun b o e n => ⟨x.keep b _ (fun z => n (G.vL b (G.omV b z))) e, fun z => ?_⟩) (fun b hb o e => x.keep b o (fun z => (G.tp j b hb).2.1 (G.omV b z)) e) (fun b o t e => x.keepT G.wok t e) x.hs
      rcases List.mem_append.mp z with z | z
      · rw [(hA b z).1] at e; cases e
      · rcases List.mem_append.mp z with z | z
        · rcases x.new b z with q | q
          · exact n (G.vL b (G.omV b q))
          · rw [q] at e; cases e
        · exact n z
theorem reps_scal {hs : List Addr} {P P' : Pd} : ∀ {vs : List V} {ds : List D}, Reps ce hs H P vs ds → ds.all scalB = true → Reps ce hs H P' vs ds
  | _, _, .nil, _ => .nil
  | _, _, .cons a r, h => by
    simp only [List.all_cons, Bool.and_eq_true] at h
    exact .cons (a.scal h.1) (reps_scal r h.2)
theorem rows_get {hs : List Addr} {P : Pd} : ∀ {vs : List V} {ds : List D}, Reps ce hs H P vs ds → ds.all rowB = true → ∃ qs, vs = qs.map V.ref ∧ qs.length = ds.length ∧ (∀ q ∈ qs, P 0 q ∧ H q ≠ none) ∧ ∀ L, Rows ce hs H L qs ds
  | _, _, .nil, _ => ⟨[], rfl, rfl, (fun q h => nomatch h), fun L => trivial⟩
  | _, _, .cons (d := d) a r, h => by
    simp only [List.all_cons, Bool.and_eq_true] at h
    obtain ⟨qs, e, l, k, t⟩ := rows_get r h.2
    cases d with
    | list es =>
      have hes : es.all scalB = true := h.1
      cases a with
      | @lst _ q us _ e1 n1 p1 r1 =>
        refine ⟨q :: qs, by rw [e]; rfl, by simp [l], fun q' hq => ?_, fun L => ⟨⟨_, _, rfl, e1, n1, reps_scal r1 hes⟩, t L⟩⟩
        rcases List.mem_cons.mp hq with z | z
        · rw [z]; exact ⟨p1, by rw [e1]; exact fun q => nomatch q⟩
        · exact k q' z
    | _ => cases h.1
theorem row_list {ds : List D} (h : ds.all rowB = true) {i : Nat} (hi : i < ds.length) : ∃ es, ds[i]? = some (.list es) ∧ es.all scalB = true := by
  have := List.all_eq_true.mp h ds[i] (List.getElem_mem hi)
  cases e : ds[i] with
  | list es => rw [e] at this; exact ⟨es, by rw [List.getElem?_eq_getElem hi, e], this⟩
  | _ => rw [e] at this; cases this
theorem asgW_put (G : Good Z ce own γ σ H ρ w) {i k nF nT : Nat} {d : D} {w' : W} {g' : Gh} {H' : Hp} {v : V} (x : CStep γ.g H g' H') (wk : WOk Z g' H' w') (hk : ownK (ownAt own i) = .rows) (h2 : 2 ≤ nF) (hv : rowsB d = true)
    (r : Rep ce g'.hs H' (PexO k nF nT γ H g') v d) (hd : DsV H' v d) : ∃ γ', Good Z ce own γ' (σ.set i (some v)) H' (ρ.set i (some d)) w' ∧ SStep γ H γ' H' := by
  cases d with
  | list ds =>
    cases r with
    | @lst _ p vs _ e1 n1 p1 r1 =>
      have hv : ds.all rowB = true := hv
      obtain ⟨qs, rfl, l, kq, t⟩ := rows_get r1 hv
      have nd : qs.Nodup := by
        refine List.pairwise_iff_getElem.mpr fun i j hi hj hij z => ?_
        obtain ⟨es, d1, _⟩ := row_list hv (i := i) (by omega)
        obtain ⟨es', d2, _⟩ := row_list hv (i := j) (by omega)
        have := hd p (qs.map V.ref) ds rfl rfl e1 i j qs[i] es es' (by simp [hi]) (by simp [hj, z]) d1 d2
        omega
      have pq : p ∉ qs := fun z => (kq p z).1.2 rfl
      have hA : ∀ a ∈ p :: qs, H a = none ∧ a ∉ g'.Om ∧ H' a ≠ none := fun a h => by
        rcases List.mem_cons.mp h with z | z
        · rw [z]; exact ⟨p1.1.1 (by omega), p1.2, by rw [e1]; exact fun q => nomatch q⟩
        · exact ⟨(kq a z).1.1.1.1 (by omega), (kq a z).1.1.2, (kq a z).2⟩
      refine ⟨_, G.ownA x wk hA (by rw [hk]; exact .inl ⟨p, qs, ds, rfl, rfl, e1, by simpa using n1, rfl, List.nodup_cons.mpr ⟨pq, nd⟩, t _⟩), ?_⟩
      have s := SStep.of (w' := w') G x
      exact ⟨rfl, rfl, s.keep, s.keepT, fun a h => (List.mem_append.mp h).elim (fun z => .inr (hA a z).1) (s.newL a), s.sub, s.hs⟩
  | _ => cases hv
theorem rows_of {k : OwnK} (h : isRowsK k = true) : k = .rows := by cases k <;> first | rfl | cases h
theorem ls_asgW (h3 : Zip3Ok ce) (hp : ∀ K, PlOk ce K pl) (hpl : PlLeaf pl) (K : Sok Z ce C X sc Wx) {x : Str} {p : Pos} {e : Expr} : PS X (.Assign [.Name x p] e pos) (tS Z ce C.own Wx fun ρ w => asgW C pl m sc x e ρ w) := by
  cases hw : wrSlot C.N sc x with
  | none => exact ls_none fun ρ w => by unfold asgW; rw [hw]
  | some i =>
    generalize hg : (isLC e && isRowsK (ownK (ownAt C.own i)) && decide (expo C.N C.own m sc e = 0) && decide (2 ≤ newK C.N C.own false m sc e)) = gd
    cases gd with
    | false => exact ls_none fun ρ w => by unfold asgW; rw [hw]; dsimp only; rw [hg]; rfl
    | true =>
      have eq : (fun (ρ : Rho) (w : W) => asgW C pl m sc x e ρ w) = fun ρ w => onE ρ (evS C pl m sc e ρ w) fun d w => guardS (rowsB d) (.nx (ρ.set i (some d)) w) := by
        funext ρ w
        unfold asgW
        rw [hw]
        dsimp only
        rw [hg]; rfl
      rw [eq]
      simp only [Bool.and_eq_true, decide_eq_true_eq] at hg
      obtain ⟨⟨⟨g1, g2⟩, g3⟩, g4⟩ := hg
      have hk := rows_of g2
      have hN : X.N.Nodup := by rw [K.nm]; exact K.nd
      have hi : X.N[i]? = some x := by rw [K.nm]; exact (wrSlot_ok hw).1
      have rd : ∀ Dn σ H, tS Z ce C.own Wx (fun ρ w => onE ρ (evS C pl m sc e ρ w) fun d w => guardS (rowsB d) (.nx (ρ.set i (some d)) w)) Dn σ H →
          tAsg (tE2 Z ce C.own (expo C.N C.own m sc e) (newK C.N C.own false m sc e) (newK C.N C.own true m sc e) Wx fun ρ w => ev C pl m sc e ρ w) (gName i) Dn σ H := fun Dn σ H ⟨γ, ρ, w, G, q⟩ =>
        ⟨γ, ρ, w, G, (PostS.onE q).imp (fun d w1 h1 v H1 g1 x1 wk1 r1 dd => by
          obtain ⟨hv, h2⟩ := h1.guard
          obtain ⟨γ', G', s'⟩ := asgW_put G x1 wk1 hk g4 hv r1 (dd g4)
          exact h2 _ _ _ G' s') fun c w1 h1 => okX.ex G h1⟩
      cases e with
      | ListComp elt gens scope p' =>
        have hsw := sw_lc (elt := elt) (gs := gens) (scope := scope) (p := p') (py := p) (y := x) (l := pos.line) (env := X.env) (by rw [K.sc_]; exact K.kd)
        generalize hb : (decide (X.env.scope.names.lookup x = some .local) && (p.line == p'.line) && !(scope.names.any fun q => q.1 == x && (q.2 == .local || q.2 == .cell))) = b at hsw
        cases m with
        | zero => exact ls_none fun _ _ => rfl
        | succ m =>
          have pln : pl sc (.ListComp elt gens scope p') = none := hpl.none rfl
          have evq : ∀ ρ w, ev C pl (m + 1) sc (.ListComp elt gens scope p') ρ w = evN C (ev C pl m) m sc (.ListComp elt gens scope p') ρ w := fun ρ w => ev_none pln
          have bad : (∀ ρ w, evN C (ev C pl m) m sc (.ListComp elt gens scope p') ρ w = .no) → PS X (.Assign [.Name x p] (.ListComp elt gens scope p') pos) (tS Z ce C.own Wx fun ρ w => onE ρ (evS C pl (m + 1) sc (.ListComp elt gens scope p') ρ w) fun d w => guardS (rowsB d) (.nx (ρ.set i (some d)) w)) := fun h =>
            ls_none fun ρ w => by
              show onE ρ (ev C pl (m + 1) sc (.ListComp elt gens scope p') ρ w) _ = _
              rw [evq, h]; rfl
          match gens with
          | [] => exact bad fun _ _ => rfl
          | ⟨tg, it, ifs, asy⟩ :: g2 :: gs => exact bad fun _ _ => rfl
          | [⟨tg, it, ifs, asy⟩] =>
            by_cases ha : asy = 0
            · subst ha
              have ih := ev_ok h3 hp hpl m X sc Wx K.toCok
              rcases lc_parts (elt := elt) (tg := tg) (it := it) (ifs := ifs) (scope := scope) (m := m) h3 K.toCok (nm_ev hpl m sc) ih.1 (fun Xb Wy Kb e => (ev_ok h3 hp hpl m Xb _ _ Kb).1 e) (fun Xb Wy Kb e => (tst_ok (C := C) (ev_ok h3 hp hpl m Xb _ _ Kb).1 (ev_ok h3 hp hpl m Xb _ _ Kb).2 m e).1) (fun h1 h2 => elR_pure hpl h1 h2) with hno | ⟨wi, g, tt, te, ow, P⟩
              · exact bad hno
              · have rd2 : ∀ Dn σ H, tS Z ce C.own Wx (fun ρ w => onE ρ (evS C pl (m + 1) sc (.ListComp elt [⟨tg, it, ifs, 0⟩] scope p') ρ w) fun d w => guardS (rowsB d) (.nx (ρ.set i (some d)) w)) Dn σ H →
                    tAsg (fun σ H Q => tLc wi g (tt σ) (te σ) (ow.map (·.2)) σ H Q) (gName i) Dn σ H := fun Dn σ H q => by
                  show tLc wi g (tt σ) (te σ) (ow.map (·.2)) σ H (fun x H1 => gName i x σ H1 Dn.nx)
                  refine P.rd σ H _ ?_
                  obtain ⟨γ, ρ, w, G, q3⟩ := rd Dn σ H q
                  refine ⟨γ, ρ, w, G, ?_⟩
                  dsimp only at q3
                  rw [evq] at q3
                  exact q3
                cases b with
                | false => exact imS (ps_set hN hi (wr_def K hw).1 (pe_lcX K.calm hN K.fr K.tf P.hi P.ok P.hg P.ht P.he P.hs) hsw (wr_def K hw).2) rd2
                | true =>
                  have hloc : X.env.scope.names.lookup x = some .local := by
                    simp only [Bool.and_eq_true] at hb
                    exact of_decide_eq_true hb.1.1
                  exact imS (ps_lcX K.calm hN K.fr K.tf hi hloc hsw P.hi P.ok P.hg P.ht P.he P.hs) rd2
            · refine bad fun ρ w => ?_
              show guardR (decide (asy = 0)) _ = _
              rw [decide_eq_false ha]; rfl
      | _ => cases g1
/-! ### a row of an own table is changed -/
theorem Rows.get {hs L : List Addr} : ∀ {qs : List Addr} {ds : List D} {k : Nat} {d : D}, Rows ce hs H L qs ds → ds[k]? = some d → ∃ q vs es, qs[k]? = some q ∧ d = .list es ∧ H q = some (.lst vs) ∧ vs.length ≤ sizeLine ∧ Reps ce hs H (fun _ a => a ∉ L) vs es
  | [], [], _, _, _, e => by simp at e
  | [], _ :: _, _, _, h, _ => h.elim
  | _ :: _, [], _, _, h, _ => h.elim
  | q :: qs, d :: ds, 0, _, ⟨⟨vs, es, e1, e2, n, r⟩, h⟩, e => by simp at e; subst e; exact ⟨q, vs, es, rfl, e1, e2, n, r⟩
  | q :: qs, d :: ds, k + 1, _, ⟨_, h⟩, e => by
    obtain ⟨q', vs, es, a, b⟩ := Rows.get (k := k) h (by simpa using e)
    exact ⟨q', vs, es, by simpa using a, b⟩
theorem Rows.len {hs L : List Addr} : ∀ {qs : List Addr} {ds : List D}, Rows ce hs H L qs ds → qs.length = ds.length
  | [], [], _ => rfl
  | [], _ :: _, h => h.elim
  | _ :: _, [], h => h.elim
  | q :: qs, d :: ds, ⟨_, h⟩ => congrArg Nat.succ (Rows.len h)
theorem Rows.putRow {hs L : List Addr} {q : Addr} {us vs0 : List V} {es : List D} (qL : q ∈ L) (e0 : H q = some (.lst vs0)) (n : us.length ≤ sizeLine) (r : Reps ce hs H (fun _ a => a ∉ L) us es) : ∀ {qs : List Addr} {ds : List D} {k : Nat}, Rows ce hs H L qs ds → qs.Nodup → qs[k]? = some q → Rows ce hs (upd H q (.lst us)) L qs (ds.set k (.list es))
  | [], _, _, _, _, e => by simp at e
  | _ :: _, [], _, h, _, _ => h.elim
  | q0 :: qs, d :: ds, k, ⟨⟨vs, es', e1, e2, n', r'⟩, h⟩, nd, e => by
    have kp : ∀ b o, H b = some (.lst o) → b ∉ L → upd H q (.lst us) b = some (.lst o) ∧ b ∉ L := fun b o e hb => ⟨by rw [upd_ne (show b ≠ q from fun z => hb (z ▸ qL))]; exact e, hb⟩
    have kt : ∀ b o, isT o → H b = some o → upd H q (.lst us) b = some o := fun b o t e => by rw [upd_ne (fun z => by rw [z, e0] at e; cases e; exact t)]; exact e
    obtain ⟨nd1, nd2⟩ := List.nodup_cons.mp nd
    cases k with
    | zero =>
      have : q0 = q := by simpa using e
      subst this
      refine ⟨⟨us, es, rfl, upd_same, n, r.go (fun j b o p e => ⟨p, (kp b o e p).1⟩) kt fun _ _ e => e⟩, h.go kp kt (fun _ _ e => e) fun q' hq o e => ?_⟩
      rw [upd_ne (show q' ≠ q0 from fun z => nd1 (z ▸ hq))]; exact e
    | succ k =>
      have e : qs[k]? = some q := by simpa using e
      have hne : q0 ≠ q := fun z => nd1 (z ▸ List.mem_of_getElem? e)
      exact ⟨⟨vs, es', e1, by rw [upd_ne hne]; exact e2, n', r'.go (fun j b o p e => ⟨p, (kp b o e p).1⟩) kt fun _ _ e => e⟩, Rows.putRow qL e0 n r h nd2 e⟩
theorem Good.updR (G : Good Z ce own γ σ H ρ w) {i k : Nat} {p q : Addr} {qs : List Addr} {ds es : List D} {vs us : List V} (hi : ownK (ownAt own i) = .rows) (hT : γ.Tp i = p :: qs) (nd : (p :: qs).Nodup) (hσ : σ[i]? = some (some (.ref p))) (ep : H p = some (.lst (qs.map V.ref))) (np : qs.length ≤ sizeLine)
    (hR : Rows ce γ.g.hs H γ.L qs ds) (hq : qs[k]? = some q) (e0 : H q = some (.lst vs)) (n : us.length ≤ sizeLine) (r : Reps ce γ.g.hs H (fun _ a => a ∉ γ.L) us es) :
    Good Z ce own γ σ (upd H q (.lst us)) (ρ.set i (some (.list (ds.set k (.list es))))) w ∧ SStep γ H γ (upd H q (.lst us)) := by
  have hqm : q ∈ qs := List.mem_of_getElem? hq
  have hq' : q ∈ γ.Tp i := by rw [hT]; exact List.mem_cons_of_mem _ hqm
  obtain ⟨qL, qV, q0⟩ := G.tp i q hq'
  have qO : q ∉ γ.g.Om := fun z => qV (G.omV q z)
  obtain ⟨nd1, nd2⟩ := List.nodup_cons.mp nd
  have same : ∀ {a : Addr}, a ≠ q → upd H q (.lst us) a = H a := fun h => upd_ne h
  have neT : ∀ {a : Addr} {o : HO}, isT o → H a = some o → a ≠ q := fun t e z => by rw [z, e0] at e; cases e; exact t
  have some' : ∀ a, H a ≠ none → upd H q (.lst us) a ≠ none := fun a h => by
    by_cases z : a = q
    · rw [z, upd_same]; exact fun q => nomatch q
    · rw [same z]; exact h
  refine ⟨⟨⟨Z.stab G.wok.rel (fun a ha => same fun z => qO (z ▸ ha)) (fun b o t e => by rw [same (neT t e)]; exact e), fun a ha => some' a (G.wok.dom a ha), fun a ha o e => G.wok.mu a ha o (by rw [← same (fun z => qO (z ▸ ha))]; exact e)⟩, ⟨fun b o hb e => ?_, G.st0.sub, G.st0.new, G.st0.hs⟩, G.omV, G.vL, fun a h => some' a (G.dom a h), G.tp, G.dis, by rw [List.length_set]; exact G.len, fun j d h => ?_⟩, rfl, rfl, fun b o hb e => ?_, fun b o t e => ?_, fun _ h => .inl h, fun _ h => h, fun _ _ e => e⟩
  · rw [same (fun z => by rw [z, q0] at e; cases e)]; exact G.st0.keep b o hb e
  · by_cases hj : i = j
    · subst hj
      by_cases hl : i < ρ.length
      · rw [List.getElem?_set_self hl] at h
        cases h
        refine ⟨_, hσ, ?_⟩
        rw [hi]
        exact .inl ⟨p, qs, _, rfl, rfl, by rw [same (a := p) (fun z => nd1 (z ▸ hqm))]; exact ep, np, hT, nd, Rows.putRow qL e0 n r hR nd2 hq⟩
      · rw [List.getElem?_eq_none (by rw [List.length_set]; omega)] at h
        cases h
    · rw [List.getElem?_set_ne hj] at h
      obtain ⟨v, e1, s⟩ := G.slot j d h
      refine ⟨v, e1, s.go (fun b o e n => ⟨?_, n⟩) (fun b hb o e => ?_) (fun b o t e => ?_) fun _ _ e => e⟩
      · rw [same (a := b) (fun z => n (z ▸ qL))]; exact e
      · rw [same (a := b) (fun z => hj (G.dis i j q hq' (z ▸ hb)))]; exact e
      · rw [same (neT t e)]; exact e
  · rw [same (a := b) (fun z => hb (z ▸ qL))]; exact e
  · rw [same (neT t e)]; exact e
/-- an own table as it stands -/
theorem Good.rowsL (G : Good Z ce own γ σ H ρ w) {i : Nat} {ds : List D} (hi : ownK (ownAt own i) = .rows) (e : ρ[i]? = some (some (.list ds))) :
    ∃ p qs, σ[i]? = some (some (.ref p)) ∧ H p = some (.lst (qs.map V.ref)) ∧ qs.length ≤ sizeLine ∧ γ.Tp i = p :: qs ∧ (p :: qs).Nodup ∧ Rows ce γ.g.hs H γ.L qs ds := by
  obtain ⟨v, e1, s⟩ := G.slot i _ e
  rw [hi] at s
  rcases s with ⟨p, qs, ds', rfl, ed, e3, n, e4, nd, r⟩ | ⟨z, _⟩
  · cases ed
    exact ⟨p, qs, e1, e3, n, e4, nd, r⟩
  · cases z
theorem at_ix {ds : List D} {n : Int} {r : D} (h : atI ds n = some r) : ∃ k, ixN ds.length n = some k ∧ ds[k]? = some r := by
  unfold atI at h
  cases q : ixN ds.length n with
  | none => rw [q] at h; cases h
  | some k => rw [q] at h; exact ⟨k, rfl, h⟩
theorem ix_at {α : Type} {vs : List α} {n : Int} {k : Nat} {v : α} (h : ixN vs.length n = some k) (e : vs[k]? = some v) : atI vs n = some v := by
  unfold atI
  rw [h]
  exact e
theorem ls_augIx2 (h3 : Zip3Ok ce) (hp : ∀ K, PlOk ce K pl) (hpl : PlLeaf pl) (K : Sok Z ce C X sc Wx) {x : Str} {p p2 p3 : Pos} {i j e : Expr} {op : Operator} (hi : noSl i = true) (hj : noSl j = true) : PS X (.AugAssign (.Subscript (.Subscript (.Name x p) i p3) j p2) op e pos) (tS Z ce C.own Wx fun ρ w => augIx2 C pl m sc x i j op e ρ w) := by
  cases hw : rdSlot C.N sc x with
  | none => exact ls_none fun ρ w => by unfold augIx2; rw [hw]
  | some s =>
    generalize hg : (isRowsK (ownK (ownAt C.own s)) && opOk op) = gd
    cases gd with
    | false => exact ls_none fun ρ w => by unfold augIx2; rw [hw]; dsimp only; rw [hg]; rfl
    | true =>
      have eq : (fun (ρ : Rho) (w : W) => augIx2 C pl m sc x i j op e ρ w) = fun ρ w => onE ρ (sl ρ s w) fun l w => guardS (isListD l) <| onE ρ (evS C pl m sc i ρ w) fun k w => onE ρ (lift (ixD l k) w) fun r w => onE ρ (evS C pl m sc j ρ w) fun n w => onE ρ (lift (ixD r n) w) fun a w => onE ρ (evS C pl m sc e ρ w) fun b w => onE ρ (lift (opI op a b) w) fun c w => onE ρ (lift (setD r n c) w) fun r' w => onE ρ (lift (setD l k r') w) fun l' w => .nx (ρ.set s (some l')) w := by
        funext ρ w
        unfold augIx2
        rw [hw]
        dsimp only
        rw [hg]; rfl
      rw [eq]
      obtain ⟨g1, g2⟩ := Bool.and_eq_true_iff.mp hg
      have hk := rows_of g1
      obtain ⟨f, ho⟩ := opOk_some g2
      have E := (ev_ok h3 hp hpl m X sc Wx K.toCok).1
      refine imS (ps_augS (pe_ix ix_list (pe_slot K.toCok hw) (E i) (plainIx fun l u s p z => by rw [z] at hi; cases hi)) (E j) get_lst (E e) (ip_int ho) set_list (fun ov iv new => by cases j <;> first | rfl | cases hj)) fun Dn σ H ⟨γ, ρ, w, G, q⟩ => ?_
      obtain ⟨l, el, h1⟩ := sl_some (PostS.onE q)
      obtain ⟨hil, h1⟩ := h1.guard
      cases l with
      | list ds =>
        obtain ⟨pa, qs0, e1, _⟩ := G.rowsL hk el
        refine ⟨_, e1, γ, ρ, w, G, (PostS.onE h1).imp (fun k w1 h2 u H1 g1' x1 wk1 ru => ?_) fun c w1 h2 => okX.ex G h2⟩
        obtain ⟨r, ea, h4⟩ := (PostS.onE h2).lift
        have G1 := G.step x1 wk1
        have s1 := SStep.of (w' := w1) G x1
        obtain ⟨pa1, qs, f1, f2, f3, f4, fn, f5⟩ := G1.rowsL hk el
        rw [e1] at f1
        cases f1
        cases k with
        | int n =>
          cases ru
          obtain ⟨kk, hix, hdk⟩ := at_ix ea
          obtain ⟨qa, vs, es, hqk, rfl, eq1, nv, rv⟩ := f5.get hdk
          have hlen := f5.len
          refine ⟨pa, qs.map V.ref, n, .ref qa, rfl, rfl, SqL.of f2, ix_at (by rw [List.length_map, hlen]; exact hix) (by rw [List.getElem?_map, hqk]; rfl), γ.step g1', ρ, w1, G1, (PostS.onE h4).imp (fun b w2 h5 y H2 g2 x2 wk2 ry => ?_) fun c w2 h5 => okX.ex G1 (okX.back h5 s1)⟩
          obtain ⟨a, eb, h6⟩ := (PostS.onE h5).lift
          have G2 := G1.step x2 wk2
          have s2 := SStep.of (w' := w2) G1 x2
          obtain ⟨pa2, qs2, m1, m2, m3, m4, mn, m5⟩ := G2.rowsL hk el
          rw [e1] at m1
          cases m1
          obtain ⟨qa2, vs2, es2, mq, me, mh, mv, mr⟩ := m5.get hdk
          cases me
          have m4' : γ.Tp s = pa :: qs2 := m4
          have f4' : γ.Tp s = pa :: qs := f4
          rw [f4'] at m4'
          cases m4'
          rw [hqk] at mq
          cases mq
          cases b with
          | int n2 =>
            cases ry
            obtain ⟨va, hva, rva⟩ := at_rep mr eb
            refine ⟨qa, vs2, n2, va, rfl, rfl, SqL.of mh, hva, (γ.step g1').step g2, ρ, w2, G2, (PostS.onE h6).imp (fun c w3 h7 z H3 g3 x3 wk3 rz => ?_) fun c w3 h7 => okX.ex G2 (okX.back h7 (s1.trans s2))⟩
            obtain ⟨t, et, h8⟩ := (PostS.onE h7).lift
            obtain ⟨f', p', q', ho', rfl, rfl, rfl⟩ := opI_some et
            rw [ho] at ho'
            cases ho'
            cases rz
            cases rva
            obtain ⟨r', er', h9⟩ := (PostS.onE h8).lift
            obtain ⟨es3, n3, jj, e3a, e3b, hix2, rfl⟩ := setD_some er'
            cases e3a
            cases e3b
            obtain ⟨l', el', h10⟩ := (PostS.onE h9).lift
            obtain ⟨ds4, n4, kk4, e4a, e4b, hix4, rfl⟩ := setD_some el'
            cases e4a
            cases e4b
            rw [hix] at hix4
            cases hix4
            have G3 := G2.step x3 wk3
            have s3 := SStep.of (w' := w3) G2 x3
            obtain ⟨pa3, qs3, k1, k2, k3, k4, kn, k5⟩ := G3.rowsL hk el
            rw [e1] at k1
            cases k1
            have k4' : γ.Tp s = pa :: qs3 := k4
            rw [f4'] at k4'
            cases k4'
            obtain ⟨qa3, vs3, es5, kq, ke, kh, kv, kr⟩ := k5.get hdk
            cases ke
            rw [hqk] at kq
            cases kq
            refine ⟨p', q', rfl, rfl, qa, vs3, n2, jj, rfl, rfl, kh, by rw [kr.length]; exact hix2, ?_⟩
            obtain ⟨G4, s4⟩ := G3.updR hk k4 kn e1 k2 k3 k5 hqk kh (us := vs3.set jj (.int (f p' q'))) (es := es.set jj (.int (f p' q'))) (by rw [List.length_set]; exact kv) (Reps.set (.int _) jj kr)
            exact h10 _ _ _ G4 (s1.trans (s2.trans (s3.trans s4)))
          | _ => cases eb
        | _ => cases ea
      | _ => cases hil
end
end T
namespace T
open PySem PySem.Spec PyProof.Rows L2
section
variable {W : Type} {Z : Wd W} {ce : Str → Option Addr} {own : List Nat} {γ : GP} {σ : L2.St} {H : Hp} {ρ : Rho} {w : W}
variable {X : Cx} {Wx : Str → L2.St → Hp → Prop} {pos : Pos} {C : Cfg W} {pl : Pl} {sc : Scope} {m : Nat}
/-- a value on its way to a name -/
def Hd (ce : Str → Option Addr) (own : List Nat) (γ : GP) (H : Hp) (i : Nat) (v : V) (d : D) (t : Option Addr) : Prop := match ownK (ownAt own i) with
  | .sh => t = none ∧ Rep ce γ.g.hs H (fun _ a => a ∉ γ.L) v d
  | .rows => False
  | .nw n => t = none ∧ Rep ce γ.g.hs H (fun j a => a ∉ γ.L ∧ (j < n → γ.H0 a = none)) v d
  | .its nd => (∃ p vs ds, t = some p ∧ v = .ref p ∧ d = .list ds ∧ H p = some (.lst vs) ∧ vs.length ≤ sizeLine ∧ p ∈ γ.L ∧ p ∉ γ.Vv ∧ γ.H0 p = none ∧ (∀ j, p ∉ γ.Tp j) ∧ Reps ce γ.g.hs H (fun j a => a ∉ γ.L ∧ (j < nd → γ.H0 a = none)) vs ds) ∨
      (t = none ∧ isListD d = false ∧ Rep ce γ.g.hs H (fun j a => a ∉ γ.L ∧ (j < nd + 1 → γ.H0 a = none)) v d)
structure PStep (γ : GP) (H : Hp) (γ' : GP) (H' : Hp) : Prop where
  g0 : γ'.g0 = γ.g0
  H0 : γ'.H0 = γ.H0
  Tp : γ'.Tp = γ.Tp
  cs : CStep γ.g H γ'.g H'
  newL : ∀ a ∈ γ'.L, a ∈ γ.L ∨ H a = none
  newV : ∀ a ∈ γ'.Vv, a ∈ γ.Vv ∨ H a = none
  subL : ∀ a ∈ γ.L, a ∈ γ'.L
theorem PStep.s (G : Good Z ce own γ σ H ρ w) {γ' : GP} {H' : Hp} (p : PStep γ H γ' H') : SStep γ H γ' H' :=
  ⟨p.g0, p.H0, fun b o h e => p.cs.keep b o (fun z => h (G.vL b (G.omV b z))) e, fun b o t e => p.cs.keepT G.wok t e, p.newL, p.cs.sub, p.cs.hs⟩
theorem PStep.trans {γ γ1 γ2 : GP} {H H1 H2 : Hp} (a : PStep γ H γ1 H1) (b : PStep γ1 H1 γ2 H2) (hd : ∀ c, H1 c = none → H c = none) : PStep γ H γ2 H2 :=
  ⟨b.g0.trans a.g0, b.H0.trans a.H0, b.Tp.trans a.Tp, a.cs.trans b.cs, fun c h => (b.newL c h).elim (a.newL c) fun z => .inr (hd c z), fun c h => (b.newV c h).elim (a.newV c) fun z => .inr (hd c z), fun c h => b.subL c (a.subL c h)⟩
theorem Hd.step (G : Good Z ce own γ σ H ρ w) {γ' : GP} {H' : Hp} (p : PStep γ H γ' H') {i : Nat} {v : V} {d : D} {t : Option Addr} (h : Hd ce own γ H i v d t) : Hd ce own γ' H' i v d t := by
  have kp : ∀ {b : Addr} {o : List V}, b ∉ γ.L → H b = some (.lst o) → b ∉ γ'.L ∧ H' b = some (.lst o) := fun {b o} h e => ⟨fun z => (p.newL b z).elim h fun q => (by rw [q] at e; cases e), p.cs.keep b _ (fun z => h (G.vL b (G.omV b z))) e⟩
  unfold Hd at h ⊢
  cases hk : ownK (ownAt own i) with
  | sh =>
    rw [hk] at h
    exact ⟨h.1, h.2.go (fun j b o q e => kp q e) (fun b o t e => p.cs.keepT G.wok t e) p.cs.hs⟩
  | rows => rw [hk] at h; exact h
  | nw n =>
    rw [hk] at h
    refine ⟨h.1, ?_⟩
    rw [p.H0]
    exact h.2.go (fun j b o q e => ⟨⟨(kp q.1 e).1, q.2⟩, (kp q.1 e).2⟩) (fun b o t e => p.cs.keepT G.wok t e) p.cs.hs
  | its nd =>
    rw [hk] at h
    rcases h with ⟨pa, vs, ds, e1, e2, e3, e4, n, e5, e6, e7, e8, r⟩ | ⟨e1, e2, r⟩
    · refine .inl ⟨pa, vs, ds, e1, e2, e3, p.cs.keep pa _ (fun z => e6 (G.omV pa z)) e4, n, p.subL pa e5, (fun z => (p.newV pa z).elim e6 fun q => by rw [q] at e4; cases e4), by rw [p.H0]; exact e7, by rw [p.Tp]; exact e8, ?_⟩
      rw [p.H0]
      exact r.go (fun j b o q e => ⟨⟨(kp q.1 e).1, q.2⟩, (kp q.1 e).2⟩) (fun b o t e => p.cs.keepT G.wok t e) p.cs.hs
    · refine .inr ⟨e1, e2, ?_⟩
      rw [p.H0]
      exact r.go (fun j b o q e => ⟨⟨(kp q.1 e).1, q.2⟩, (kp q.1 e).2⟩) (fun b o t e => p.cs.keepT G.wok t e) p.cs.hs
theorem Good.none_back (G : Good Z ce own γ σ H ρ w) {g' : Gh} {H' : Hp} {w' : W} (x : CStep γ.g H g' H') (wk : WOk Z g' H' w') : ∀ c, H' c = none → H c = none := fun c h => x.none wk h
/-- a value is held for slot i -/
theorem hold (G : Good Z ce C.own γ σ H ρ w) {i : Nat} {e : Expr} {d : D} {w' : W} {g' : Gh} {H' : Hp} {v : V} (x : CStep γ.g H g' H') (wk : WOk Z g' H' w') (hs : stOk C.N C.own m sc i e = true)
    (r : Rep ce g'.hs H' (PexO (expo C.N C.own m sc e) (newK C.N C.own false m sc e) (newK C.N C.own true m sc e) γ H g') v d) :
    ∃ γ' t, Good Z ce C.own γ' σ H' ρ w' ∧ Hd ce C.own γ' H' i v d t ∧ PStep γ H γ' H' ∧ (∀ p, t = some p → H p = none ∧ H' p ≠ none) := by
  unfold stOk at hs
  obtain ⟨h1, h2⟩ := Bool.and_eq_true_iff.mp hs
  have hx : expo C.N C.own m sc e = 0 := of_decide_eq_true h1
  have notL : ∀ {j : Nat} {a : Addr}, PexO (expo C.N C.own m sc e) (newK C.N C.own false m sc e) (newK C.N C.own true m sc e) γ H g' j a → a ∉ (γ.step g').L := fun p z => (List.mem_append.mp z).elim p.2 (p.1.2.2.2 (by rw [hx]; exact Nat.zero_le _))
  have ps : PStep γ H (γ.step g') H' := ⟨rfl, rfl, rfl, x, fun a h => (List.mem_append.mp h).elim (fun z => (x.new a z).elim (fun z => .inl (G.vL a (G.omV a z))) .inr) .inl, fun a h => (List.mem_append.mp h).elim (fun z => (x.new a z).elim (fun z => .inl (G.omV a z)) .inr) .inl, fun a h => List.mem_append_right _ h⟩
  have G1 := G.step x wk
  unfold Hd
  cases hk : ownK (ownAt C.own i) with
  | sh => exact ⟨γ.step g', none, G1, ⟨rfl, r.mono fun j a p => notL p⟩, ps, fun p z => nomatch z⟩
  | rows => rw [hk] at h2; cases h2
  | nw n =>
    rw [hk] at h2
    have h2 : n ≤ newK C.N C.own true m sc e := of_decide_eq_true h2
    exact ⟨γ.step g', none, G1, ⟨rfl, r.mono fun j a p => ⟨notL p, fun z => p.1.2.1 (Nat.lt_of_lt_of_le z h2)⟩⟩, ps, fun p z => nomatch z⟩
  | its nd =>
    rw [hk] at h2
    obtain ⟨k1, k2⟩ := Bool.and_eq_true_iff.mp h2
    have k1 := of_decide_eq_true k1
    have k2 := of_decide_eq_true k2
    cases hd : isListD d with
    | true =>
      cases d with
      | list ds =>
        cases r with
        | @lst _ p vs _ e1 n1 p1 r1 =>
          have hp : H p = none := p1.1.1 (by omega)
          have pL : p ∉ γ.L := fun z => G.dom p z hp
          have pL' : p ∉ (γ.step g').L := fun z => (List.mem_append.mp z).elim p1.2 pL
          have G2 : Good Z ce C.own { γ.step g' with L := p :: (γ.step g').L } σ H' ρ w' := by
            refine ⟨G1.wok, G1.st0, G1.omV, fun a h => List.mem_cons_of_mem _ (G1.vL a h), fun a h => ?_, fun j a h => ?_, G1.dis, G1.len, fun j d' h => ?_⟩
            · rcases List.mem_cons.mp h with z | z
              · rw [z, e1]; exact fun q => nomatch q
              · exact G1.dom a z
            · obtain ⟨a1, a2, a3⟩ := G1.tp j a h
              exact ⟨List.mem_cons_of_mem _ a1, a2, a3⟩
            · obtain ⟨v', ev', s⟩ := G.slot j d' h
              refine ⟨v', ev', s.go (fun b o e n => ⟨x.keep b _ (fun z => n (G.vL b (G.omV b z))) e, fun z => ?_⟩) (fun b hb o e => x.keep b o (fun z => (G.tp j b hb).2.1 (G.omV b z)) e) (fun b o t e => x.keepT G.wok t e) x.hs⟩
              rcases List.mem_cons.mp z with z | z
              · rw [z, hp] at e; cases e
              · exact (ps.newL b z).elim n fun q => by rw [q] at e; cases e
          refine ⟨{ γ.step g' with L := p :: (γ.step g').L }, some p, G2, .inl ⟨p, vs, ds, rfl, rfl, rfl, e1, n1, List.mem_cons_self, fun z => pL' (G1.vL p z), G.st0.none G.wok hp, fun j z => pL (G.tp j p z).1, r1.mono fun j a q => ⟨fun z => (List.mem_cons.mp z).elim q.2 (notL q.1), fun z => q.1.1.2.1 (by omega)⟩⟩, ?_, ?_⟩
          · exact ⟨rfl, rfl, rfl, x, fun a h => (List.mem_cons.mp h).elim (fun z => .inr (z ▸ hp)) (ps.newL a), ps.newV, fun a h => List.mem_cons_of_mem _ (ps.subL a h)⟩
          · intro q hq
            cases hq
            exact ⟨hp, by rw [e1]; exact fun z => nomatch z⟩
      | _ => cases hd
    | false => exact ⟨γ.step g', none, G1, .inr ⟨rfl, rfl, r.mono fun j a p => ⟨notL p, fun z => p.1.2.1 (by omega)⟩⟩, ps, fun p z => nomatch z⟩
inductive AllHd (ce : Str → Option Addr) (own : List Nat) (γ : GP) (H : Hp) : List Nat → List V → List D → List Addr → Prop
  | nil : AllHd ce own γ H [] [] [] []
  | cons {i : Nat} {v : V} {d : D} {t : Option Addr} {is : List Nat} {vs : List V} {ds : List D} {ts : List Addr} : Hd ce own γ H i v d t → (∀ p, t = some p → p ∉ ts) → AllHd ce own γ H is vs ds ts → AllHd ce own γ H (i :: is) (v :: vs) (d :: ds) (t.toList ++ ts)
theorem AllHd.step (G : Good Z ce own γ σ H ρ w) {γ' : GP} {H' : Hp} (p : PStep γ H γ' H') : ∀ {is : List Nat} {vs : List V} {ds : List D} {ts : List Addr}, AllHd ce own γ H is vs ds ts → AllHd ce own γ' H' is vs ds ts
  | _, _, _, _, .nil => .nil
  | _, _, _, _, .cons h k r => .cons (h.step G p) k (AllHd.step G p r)
/-- the parts of a parallel assignment, each held -/
theorem par_ev {f : Expr → Rho → W → Res W D} : ∀ {es : List Expr} {is : List Nat} {γ : GP} {H : Hp} {w : W} {Q : List V → Hp → Prop}, is.length = es.length → (∀ q ∈ is.zip es, stOk C.N C.own m sc q.1 q.2 = true) → Good Z ce C.own γ σ H ρ w →
    Post (trav (fun e w => f e ρ w) es w) (fun ds w' => ∀ γ' H' vs ts, Good Z ce C.own γ' σ H' ρ w' → PStep γ H γ' H' → AllHd ce C.own γ' H' is vs ds ts → (∀ p ∈ ts, H p = none) → Q vs H') (exE Z γ H Wx σ) →
    tList (fun e => tE Z ce C.own (expo C.N C.own m sc e) (newK C.N C.own false m sc e) (newK C.N C.own true m sc e) Wx (f e)) es σ H Q
  | [], [], γ, H, w, Q, _, _, G, q => q γ H [] [] G ⟨rfl, rfl, rfl, CStep.refl, fun _ h => .inl h, fun _ h => .inl h, fun _ h => h⟩ .nil (fun _ h => nomatch h)
  | [], _ :: _, _, _, _, _, hl, _, _, _ => by cases hl
  | _ :: _, [], _, _, _, _, hl, _, _, _ => by cases hl
  | e :: es, i :: is, γ, H, w, Q, hl, hs, G, q => by
    refine ⟨γ, ρ, w, G, q.bind.imp (fun d w1 h1 v H1 g1 x1 wk1 r1 => ?_) fun c w1 h1 => h1⟩
    obtain ⟨γ1, t, G1, hd, ps, ht⟩ := hold G x1 wk1 (hs (i, e) (by rw [List.zip_cons_cons]; exact List.mem_cons_self)) r1
    refine par_ev (is := is) (by simpa using hl) (fun q hq => hs q (by rw [List.zip_cons_cons]; exact List.mem_cons_of_mem _ hq)) G1 (h1.bind.imp (fun ds w2 h2 γ2 H2 vs ts G2 ps2 al hn => ?_) fun c w2 h2 H' g' x wk => h2 H' g' (ps.cs.trans x) wk)
    refine h2 γ2 H2 (v :: vs) (t.toList ++ ts) G2 (ps.trans ps2 fun c z => ps.cs.none G1.wok z) (.cons (hd.step G1 ps2) (fun p hp z => (ht p hp).2 (hn p z)) al) fun p hp => ?_
    rcases List.mem_append.mp hp with z | z
    · cases t with
      | none => cases z
      | some p' =>
        have z : p = p' := by simpa using z
        subst z
        exact (ht p rfl).1
    · exact ps.cs.none G1.wok (hn p z)
/-- a held value comes to its name -/
theorem put (G : Good Z ce own γ σ H ρ w) {i : Nat} {v : V} {d : D} {t : Option Addr} (h : Hd ce own γ H i v d t) :
    ∃ γ', Good Z ce own γ' (σ.set i (some v)) H (ρ.set i (some d)) w ∧ SStep γ H γ' H ∧ ∀ {i' : Nat} {v' : V} {d' : D} {t' : Option Addr}, (∀ p, t = some p → t' ≠ some p) → Hd ce own γ H i' v' d' t' → Hd ce own γ' H i' v' d' t' := by
  cases hk : ownK (ownAt own i) with
  | sh =>
    unfold Hd at h
    rw [hk] at h
    exact ⟨γ, G.set1 hk h.2, SStep.refl, fun _ h => h⟩
  | rows => unfold Hd at h; rw [hk] at h; exact h.elim
  | nw n =>
    unfold Hd at h
    rw [hk] at h
    exact ⟨γ, G.setN hk h.2, SStep.refl, fun _ h => h⟩
  | its nd =>
    unfold Hd at h
    rw [hk] at h
    rcases h with ⟨p, vs, ds, rfl, rfl, rfl, e4, n, e5, e6, e7, e8, r⟩ | ⟨rfl, e2, r⟩
    · refine ⟨{ γ with Tp := fun j => if j = i then [p] else γ.Tp j }, ?_, ⟨rfl, rfl, fun _ _ _ e => e, fun _ _ _ e => e, fun _ h => .inl h, fun _ h => h, fun _ _ e => e⟩, fun {i' v' d' t'} hne h' => ?_⟩
      · refine ⟨G.wok, G.st0, G.omV, G.vL, G.dom, fun j a h => ?_, fun j k a h1 h2 => ?_, by rw [List.length_set, List.length_set]; exact G.len, fun j d' h => ?_⟩
        · have h : a ∈ (if j = i then [p] else γ.Tp j) := h
          split at h
          · have z : a = p := by simpa using h
            subst z
            exact ⟨e5, e6, e7⟩
          · exact G.tp j a h
        · have h1 : a ∈ (if j = i then [p] else γ.Tp j) := h1
          have h2 : a ∈ (if k = i then [p] else γ.Tp k) := h2
          split at h1
          · rename_i z1
            split at h2
            · rename_i z2; rw [z1, z2]
            · have z : a = p := by simpa using h1
              rw [z] at h2
              exact absurd h2 (e8 k)
          · split at h2
            · have z : a = p := by simpa using h2
              rw [z] at h1
              exact absurd h1 (e8 j)
            · exact G.dis j k a h1 h2
        · by_cases hj : i = j
          · subst hj
            by_cases hl : i < ρ.length
            · rw [List.getElem?_set_self hl] at h
              cases h
              refine ⟨_, List.getElem?_set_self (by rw [← G.len]; exact hl), ?_⟩
              rw [hk]
              refine .inl ⟨p, vs, ds, rfl, rfl, e4, n, ?_, r⟩
              show (if i = i then [p] else γ.Tp i) = [p]
              rw [if_pos rfl]
            · rw [List.getElem?_eq_none (by rw [List.length_set]; omega)] at h
              cases h
          · rw [List.getElem?_set_ne hj] at h ⊢
            obtain ⟨v', ev', s⟩ := G.slot j d' h
            refine ⟨v', ev', ?_⟩
            show Slot ce γ.g.hs H γ.H0 γ.L _ v' d' (if j = i then [p] else γ.Tp j)
            rw [if_neg (Ne.symm hj)]
            exact s
      · unfold Hd at h' ⊢
        cases hk' : ownK (ownAt own i') with
        | sh => rw [hk'] at h'; exact h'
        | rows => rw [hk'] at h'; exact h'
        | nw n => rw [hk'] at h'; exact h'
        | its nd' =>
          rw [hk'] at h'
          rcases h' with ⟨p', vs', ds', f1, f2, f3, f4, f5, f6, f7, f8, f9, f10⟩ | h'
          · refine .inl ⟨p', vs', ds', f1, f2, f3, f4, f5, f6, f7, f8, fun j z => ?_, f10⟩
            have z : p' ∈ (if j = i then [p] else γ.Tp j) := z
            split at z
            · have z : p' = p := by simpa using z
              exact hne p rfl (by rw [f1, z])
            · exact f9 j z
          · exact .inr h'
    · exact ⟨γ, G.own0 hk e2 r, SStep.refl, fun _ h => h⟩
theorem AllHd.mapT {γ' : GP} {t : Option Addr} (k : ∀ {i' : Nat} {v' : V} {d' : D} {t' : Option Addr}, (∀ p, t = some p → t' ≠ some p) → Hd ce own γ H i' v' d' t' → Hd ce own γ' H i' v' d' t') : ∀ {is : List Nat} {vs : List V} {ds : List D} {ts : List Addr}, (∀ p, t = some p → p ∉ ts) → AllHd ce own γ H is vs ds ts → AllHd ce own γ' H is vs ds ts
  | _, _, _, _, _, .nil => .nil
  | _, _, _, _, hn, .cons h kk r => .cons (k (fun p hp z => hn p hp (by rw [z]; exact List.mem_append_left _ (by simp))) h) kk (AllHd.mapT k (fun p hp z => hn p hp (List.mem_append_right _ z)) r)
theorem put_all : ∀ {is : List Nat} {vs : List V} {ds : List D} {ts : List Addr} {γ : GP} {σ : L2.St} {ρ : Rho}, Good Z ce own γ σ H ρ w → AllHd ce own γ H is vs ds ts → ∃ γ', Good Z ce own γ' (setV σ is vs) H (setR ρ (is.zip ds)) w ∧ SStep γ H γ' H
  | _, _, _, _, γ, σ, ρ, G, .nil => ⟨γ, G, SStep.refl⟩
  | _, _, _, _, γ, σ, ρ, G, .cons h kk r => by
    obtain ⟨γ1, G1, s1, k1⟩ := put G h
    obtain ⟨γ2, G2, s2⟩ := put_all G1 (AllHd.mapT k1 kk r)
    exact ⟨γ2, G2, s1.trans s2⟩
end
end T
namespace T
open PySem PySem.Spec PyProof.Rows L2
theorem beqLoc {o : Option NameKind} {b : Bool} (h : ((o == some .local) && b) = true) : o = some .local := by
  obtain ⟨h1, _⟩ := Bool.and_eq_true_iff.mp h
  exact eq_of_beq h1
/-- either as a tuple, or from the right -/
theorem swp2 {env : Env} {x y : Str} {px py pt p2 : Pos} {kt k2 : Nat} {a b : Expr} (hc : ([a, b].all (constantsAlone 8) && !([a, b].all (foldedForSure 8))) = false) :
    swappedStores [.Tuple [.Name x px, .Name y py] kt pt] (.Tuple [a, b] k2 p2) env = pure none ∨
      (swappedStores [.Tuple [.Name x px, .Name y py] kt pt] (.Tuple [a, b] k2 p2) env = pure (some [x, y]) ∧ env.scope.names.lookup x = some .local ∧ env.scope.names.lookup y = some .local ∧ x ≠ y) := by
  unfold swappedStores
  dsimp only
  split
  · exact .inl rfl
  · split
    · exact .inl rfl
    · split
      · exact .inl rfl
      · rename_i h2
        split
        · exact .inl rfl
        · rename_i hf
          split
          · rename_i hca
            rw [hca] at hc
            simp only [Bool.true_and, Bool.not_eq_false'] at hc
            exact absurd hc hf
          · right
            generalize hp : (env.kindOf x == some NameKind.local && px.line == (Option.map (fun x => x.pos.line) [Expr.Name x px, Expr.Name y py].head?).getD 0) = bp at h2
            generalize hq : (env.kindOf y == some NameKind.local && py.line == (Option.map (fun x => x.pos.line) [Expr.Name x px, Expr.Name y py].head?).getD 0) = bq at h2
            have hall : bp = true ∧ bq = true := by
              simp only [List.filterMap_cons, List.filterMap_nil, hp, hq] at h2
              cases bp <;> cases bq <;> first
                | exact ⟨rfl, rfl⟩
                | (exfalso; apply h2; simp)
            obtain ⟨rfl, rfl⟩ := hall
            refine ⟨?_, beqLoc hp, beqLoc hq, fun z => h2 ?_⟩
            · simp only [List.filterMap_cons, List.filterMap_nil, hp, hq]; rfl
            · subst z
              simp only [List.filterMap_cons, List.filterMap_nil, hp, hq]
              simp [List.eraseDups_cons]
theorem swp3 {env : Env} {x y z : Str} {px py pz pt p2 : Pos} {kt k2 : Nat} {a b c : Expr} (hc : ([a, b, c].all (constantsAlone 8) && !([a, b, c].all (foldedForSure 8))) = false) :
    swappedStores [.Tuple [.Name x px, .Name y py, .Name z pz] kt pt] (.Tuple [a, b, c] k2 p2) env = pure none ∨
      (swappedStores [.Tuple [.Name x px, .Name y py, .Name z pz] kt pt] (.Tuple [a, b, c] k2 p2) env = pure (some [x, y, z]) ∧ env.scope.names.lookup x = some .local ∧ env.scope.names.lookup y = some .local ∧ env.scope.names.lookup z = some .local) := by
  unfold swappedStores
  dsimp only
  split
  · exact .inl rfl
  · split
    · exact .inl rfl
    · split
      · exact .inl rfl
      · rename_i h2
        split
        · exact .inl rfl
        · rename_i hf
          split
          · rename_i hca
            rw [hca] at hc
            simp only [Bool.true_and, Bool.not_eq_false'] at hc
            exact absurd hc hf
          · right
            generalize hp : (env.kindOf x == some NameKind.local && px.line == (Option.map (fun x => x.pos.line) [Expr.Name x px, Expr.Name y py, Expr.Name z pz].head?).getD 0) = bp at h2
            generalize hq : (env.kindOf y == some NameKind.local && py.line == (Option.map (fun x => x.pos.line) [Expr.Name x px, Expr.Name y py, Expr.Name z pz].head?).getD 0) = bq at h2
            generalize hr : (env.kindOf z == some NameKind.local && pz.line == (Option.map (fun x => x.pos.line) [Expr.Name x px, Expr.Name y py, Expr.Name z pz].head?).getD 0) = br at h2
            have hall : bp = true ∧ bq = true ∧ br = true := by
              simp only [List.filterMap_cons, List.filterMap_nil, hp, hq, hr] at h2
              cases bp <;> cases bq <;> cases br <;> first
                | exact ⟨rfl, rfl, rfl⟩
                | (exfalso; apply h2; simp)
            obtain ⟨rfl, rfl, rfl⟩ := hall
            refine ⟨?_, beqLoc hp, beqLoc hq, beqLoc hr⟩
            simp only [List.filterMap_cons, List.filterMap_nil, hp, hq, hr]; rfl
/-! ### parallel stores -/
def wrSlots (N : List Str) (sc : Scope) : List Str → Option (List Nat)
  | [] => some []
  | x :: xs => (match wrSlot N sc x, wrSlots N sc xs with
    | some i, some is => some (i :: is)
    | _, _ => none)
def nodupN : List Nat → Bool
  | [] => true
  | i :: is => !is.contains i && nodupN is
section
variable {W : Type}
def parS (C : Cfg W) (pl : Pl) (m : Nat) (sc : Scope) (xs : List Str) (es : List Expr) (ρ : Rho) (w : W) : SRes W := match wrSlots C.N sc xs with
  | some is => guardS (nodupN is && es.all notStar && (is.zip es).all (fun q => stOk C.N C.own m sc q.1 q.2) && !(es.all (constantsAlone 8) && !(es.all (foldedForSure 8)))) (onE ρ (trav (fun e w => evS C pl m sc e ρ w) es w) fun ds w => .nx (setR ρ (is.zip ds)) w)
  | none => .no
variable {Z : Wd W} {ce : Str → Option Addr} {own : List Nat} {γ : GP} {σ : L2.St} {H : Hp} {ρ : Rho} {w : W}
variable {X : Cx} {Wx : Str → L2.St → Hp → Prop} {pos : Pos} {C : Cfg W} {pl : Pl} {sc : Scope} {m : Nat}
/-- the reading of a parallel assignment -/
theorem par_read {f : Expr → Rho → W → Res W D} {es : List Expr} {is : List Nat} {Dn : Ends} (hl : is.length = es.length) (hst : ∀ q ∈ is.zip es, stOk C.N C.own m sc q.1 q.2 = true) (G : Good Z ce C.own γ σ H ρ w)
    (q : PostS (onE ρ (trav (fun e w => f e ρ w) es w) fun ds w => .nx (setR ρ (is.zip ds)) w) (okN Z ce C.own γ H Dn) (okR Z ce γ Dn) (okX Z ce C.own γ H Wx)) :
    tList (fun e => tE Z ce C.own (expo C.N C.own m sc e) (newK C.N C.own false m sc e) (newK C.N C.own true m sc e) Wx (f e)) es σ H (fun vs H1 => vs.length = es.length ∧ ∀ H2, HExt H1 H2 → Dn.nx (setV σ is vs) H2) := by
  refine par_ev hl hst G ((PostS.onE q).imp (fun ds w1 h1 γ1 H1 vs ts G1 ps al hn => ?_) fun c w1 h1 => okX.ex G h1)
  refine ⟨?_, fun H2 xx => ?_⟩
  · have go : ∀ {is : List Nat} {vs : List V} {ds : List D} {ts : List Addr}, AllHd ce C.own γ1 H1 is vs ds ts → vs.length = is.length := by
      intro is vs ds ts h
      induction h with
      | nil => rfl
      | cons _ _ _ ih => simp [ih]
    rw [go al, hl]
  · have p2 : PStep γ1 H1 γ1 H2 := ⟨rfl, rfl, rfl, .ext xx, fun _ h => .inl h, fun _ h => .inl h, fun _ h => h⟩
    have G2 := G1.ext xx
    obtain ⟨γ3, G3, s3⟩ := put_all G2 (al.step G1 p2)
    exact h1 _ _ _ G3 ((ps.s G).trans ((p2.s G1).trans s3))
theorem nodup2 {i j : Nat} (h : nodupN [i, j] = true) : i ≠ j := by
  intro z; subst z; simp [nodupN] at h
theorem tE_monoE {f : Expr → Rho → W → Res W D} {ke Fe Te : Expr → Nat} : MonoE (fun e => tE Z ce own (ke e) (Fe e) (Te e) Wx (f e)) := fun e σ H Q Q' k q => tE_mono k q
theorem ls_par2 (h3 : Zip3Ok ce) (hp : ∀ K, PlOk ce K pl) (hpl : PlLeaf pl) (K : Sok Z ce C X sc Wx) {x y : Str} {px py pt p2 : Pos} {kt k2 : Nat} {a b : Expr} :
    PS X (.Assign [.Tuple [.Name x px, .Name y py] kt pt] (.Tuple [a, b] k2 p2) pos) (tS Z ce C.own Wx fun ρ w => parS C pl m sc [x, y] [a, b] ρ w) := by
  cases hw1 : wrSlot C.N sc x with
  | none => exact ls_none fun ρ w => by unfold parS wrSlots; rw [hw1]
  | some i =>
    cases hw2 : wrSlot C.N sc y with
    | none => exact ls_none fun ρ w => by unfold parS wrSlots wrSlots; rw [hw1, hw2]
    | some j =>
      have hw : wrSlots C.N sc [x, y] = some [i, j] := by unfold wrSlots wrSlots wrSlots; rw [hw1, hw2]
      generalize hg : (nodupN [i, j] && [a, b].all notStar && ([i, j].zip [a, b]).all (fun q => stOk C.N C.own m sc q.1 q.2) && !([a, b].all (constantsAlone 8) && !([a, b].all (foldedForSure 8)))) = gd
      cases gd with
      | false => exact ls_none fun ρ w => by unfold parS; rw [hw]; dsimp only; rw [hg]; rfl
      | true =>
        have eq : (fun (ρ : Rho) (w : W) => parS C pl m sc [x, y] [a, b] ρ w) = fun ρ w => onE ρ (trav (fun e w => evS C pl m sc e ρ w) [a, b] w) fun ds w => .nx (setR ρ ([i, j].zip ds)) w := by
          funext ρ w
          unfold parS
          rw [hw]
          dsimp only
          rw [hg]; rfl
        rw [eq]
        simp only [Bool.and_eq_true, Bool.not_eq_true'] at hg
        obtain ⟨⟨⟨g1, g2⟩, g3⟩, g4⟩ := hg
        have E := (ev_ok h3 hp hpl m X sc Wx K.toCok).1
        have hN : X.N.Nodup := by rw [K.nm]; exact K.nd
        have hi : X.N[i]? = some x := by rw [K.nm]; exact (wrSlot_ok hw1).1
        have hj : X.N[j]? = some y := by rw [K.nm]; exact (wrSlot_ok hw2).1
        have pa := pa_list (X := X) g2 fun e _ => E e
        have hst : ∀ q ∈ ([i, j] : List Nat).zip [a, b], stOk C.N C.own m sc q.1 q.2 = true := fun q hq => List.all_eq_true.mp g3 q hq
        rcases swp2 (env := X.env) (x := x) (y := y) (px := px) (py := py) (pt := pt) (p2 := p2) (kt := kt) (k2 := k2) g4 with sw | ⟨sw, l1, l2, hxy⟩
        · refine imS (ps_asg (pe_tup pa) (pg_tup K.calm (pgs_cons (pg_name hN hi (wr_def K hw1).1 (wr_def K hw1).2) (pgs_cons (pg_name hN hj (wr_def K hw2).1 (wr_def K hw2).2) pgs_nil))) rfl sw rfl) fun Dn σ H ⟨γ, ρ, w, G, q⟩ => ?_
          refine TA_mono tE_monoE (fun vs H1 ⟨hl, k⟩ => ?_) (par_read rfl hst G q)
          match vs, hl with
          | [u, v], _ => exact ⟨two_line, fun p hp => ⟨_, _, rfl, SqT.of upd_same, rfl, _, _, rfl, _, _, rfl, rfl, k _ (HExt.upd hp)⟩⟩
        · refine imS (ps_par K.calm hN hi hj (nodup2 g1) l1 l2 pa sw) fun Dn σ H ⟨γ, ρ, w, G, q⟩ => ?_
          refine TA_mono tE_monoE (fun vs H1 ⟨hl, k⟩ => ?_) (par_read rfl hst G q)
          match vs, hl with
          | [u, v], _ => exact ⟨u, v, rfl, k _ HExt.refl⟩
theorem ls_par3 (h3 : Zip3Ok ce) (hp : ∀ K, PlOk ce K pl) (hpl : PlLeaf pl) (K : Sok Z ce C X sc Wx) {x y z : Str} {px py pz pt p2 : Pos} {kt k2 : Nat} {a b c : Expr} :
    PS X (.Assign [.Tuple [.Name x px, .Name y py, .Name z pz] kt pt] (.Tuple [a, b, c] k2 p2) pos) (tS Z ce C.own Wx fun ρ w => parS C pl m sc [x, y, z] [a, b, c] ρ w) := by
  cases hw1 : wrSlot C.N sc x with
  | none => exact ls_none fun ρ w => by unfold parS wrSlots; rw [hw1]
  | some i =>
    cases hw2 : wrSlot C.N sc y with
    | none => exact ls_none fun ρ w => by unfold parS wrSlots wrSlots; rw [hw1, hw2]
    | some j =>
      cases hw3 : wrSlot C.N sc z with
      | none => exact ls_none fun ρ w => by unfold parS wrSlots wrSlots wrSlots; rw [hw1, hw2, hw3]
      | some l =>
        have hw : wrSlots C.N sc [x, y, z] = some [i, j, l] := by unfold wrSlots wrSlots wrSlots wrSlots; rw [hw1, hw2, hw3]
        generalize hg : (nodupN [i, j, l] && [a, b, c].all notStar && ([i, j, l].zip [a, b, c]).all (fun q => stOk C.N C.own m sc q.1 q.2) && !([a, b, c].all (constantsAlone 8) && !([a, b, c].all (foldedForSure 8)))) = gd
        cases gd with
        | false => exact ls_none fun ρ w => by unfold parS; rw [hw]; dsimp only; rw [hg]; rfl
        | true =>
          have eq : (fun (ρ : Rho) (w : W) => parS C pl m sc [x, y, z] [a, b, c] ρ w) = fun ρ w => onE ρ (trav (fun e w => evS C pl m sc e ρ w) [a, b, c] w) fun ds w => .nx (setR ρ ([i, j, l].zip ds)) w := by
            funext ρ w
            unfold parS
            rw [hw]
            dsimp only
            rw [hg]; rfl
          rw [eq]
          simp only [Bool.and_eq_true, Bool.not_eq_true'] at hg
          obtain ⟨⟨⟨g1, g2⟩, g3⟩, g4⟩ := hg
          have E := (ev_ok h3 hp hpl m X sc Wx K.toCok).1
          have hN : X.N.Nodup := by rw [K.nm]; exact K.nd
          have hi : X.N[i]? = some x := by rw [K.nm]; exact (wrSlot_ok hw1).1
          have hj : X.N[j]? = some y := by rw [K.nm]; exact (wrSlot_ok hw2).1
          have hll : X.N[l]? = some z := by rw [K.nm]; exact (wrSlot_ok hw3).1
          have pa := pa_list (X := X) g2 fun e _ => E e
          have hst : ∀ q ∈ ([i, j, l] : List Nat).zip [a, b, c], stOk C.N C.own m sc q.1 q.2 = true := fun q hq => List.all_eq_true.mp g3 q hq
          rcases swp3 (env := X.env) (x := x) (y := y) (z := z) (px := px) (py := py) (pz := pz) (pt := pt) (p2 := p2) (kt := kt) (k2 := k2) g4 with sw | ⟨sw, l1, l2, l3⟩
          · refine imS (ps_asg (pe_tup pa) (pg_tup K.calm (pgs_cons (pg_name hN hi (wr_def K hw1).1 (wr_def K hw1).2) (pgs_cons (pg_name hN hj (wr_def K hw2).1 (wr_def K hw2).2) (pgs_cons (pg_name hN hll (wr_def K hw3).1 (wr_def K hw3).2) pgs_nil)))) rfl sw rfl) fun Dn σ H ⟨γ, ρ, w, G, q⟩ => ?_
            refine TA_mono tE_monoE (fun vs H1 ⟨hl, k⟩ => ?_) (par_read rfl hst G q)
            match vs, hl with
            | [u, v, t], _ => exact ⟨(show 3 ≤ sizeLine by rw [sizeLine_eq]; decide), fun p hp => ⟨_, _, rfl, SqT.of upd_same, rfl, _, _, rfl, _, _, rfl, _, _, rfl, rfl, k _ (HExt.upd hp)⟩⟩
          · have n1 : i ≠ j := fun z => by subst z; simp [nodupN] at g1
            have n2 : i ≠ l := fun z => by subst z; simp [nodupN] at g1
            have n3 : j ≠ l := fun z => by subst z; simp [nodupN] at g1
            refine imS (ps_par3 K.calm hN hi hj hll n1 n2 n3 l1 l2 l3 pa sw) fun Dn σ H ⟨γ, ρ, w, G, q⟩ => ?_
            refine TA_mono tE_monoE (fun vs H1 ⟨hl, k⟩ => ?_) (par_read rfl hst G q)
            match vs, hl with
            | [u, v, t], _ => exact ⟨u, v, t, rfl, k _ HExt.refl⟩
/-- names = a tuple's value -/
def unpS (C : Cfg W) (pl : Pl) (m : Nat) (sc : Scope) (tg e : Expr) (ρ : Rho) (w : W) : SRes W :=
  guardS (isTupE tg && !isTupE e && noComp e && decide (expo C.N C.own m sc e = 0) && (asgSlots C.N sc tg).all (fun i => decide (ownAt C.own i = 0))) (onE ρ (evS C pl m sc e ρ w) fun d w => asgK .no C.N sc tg d ρ fun ρ' => .nx ρ' w)
theorem asgK_S (N : List Str) (sc : Scope) (tg : Expr) (d : D) (ρ : Rho) (w : W) (k : Rho → W → SRes W) : asgK .no N sc tg d ρ (fun ρ => k ρ w) = onE ρ (lift (asgR N sc tg d ρ) w) k := by
  rw [asgK_eq]
  cases asgR N sc tg d ρ <;> rfl
theorem ls_unp (h3 : Zip3Ok ce) (hp : ∀ K, PlOk ce K pl) (hpl : PlLeaf pl) (K : Sok Z ce C X sc Wx) {tg e : Expr} : PS X (.Assign [tg] e pos) (tS Z ce C.own Wx fun ρ w => unpS C pl m sc tg e ρ w) := by
  generalize hg : (isTupE tg && !isTupE e && noComp e && decide (expo C.N C.own m sc e = 0) && (asgSlots C.N sc tg).all (fun i => decide (ownAt C.own i = 0))) = gd
  cases gd with
  | false => exact ls_none fun ρ w => by unfold unpS; rw [hg]; rfl
  | true =>
    have eq : (fun (ρ : Rho) (w : W) => unpS C pl m sc tg e ρ w) = fun ρ w => onE ρ (evS C pl m sc e ρ w) fun d w => onE ρ (lift (asgR C.N sc tg d ρ) w) fun ρ' w => .nx ρ' w := by
      funext ρ w
      unfold unpS
      rw [hg]
      show onE ρ _ _ = _
      congr 1
      funext d w
      exact asgK_S C.N sc tg d ρ w fun ρ' w => .nx ρ' w
    rw [eq]
    simp only [Bool.and_eq_true, Bool.not_eq_true', decide_eq_true_eq] at hg
    obtain ⟨⟨⟨⟨g1, g2⟩, g3⟩, g4⟩, g5⟩ := hg
    have own0 : ∀ i ∈ asgSlots C.N sc tg, ownK (ownAt C.own i) = .sh := fun i hi => by rw [of_decide_eq_true (List.all_eq_true.mp g5 i hi)]; rfl
    have h1 : swappedStores [tg] e X.env = pure none := by
      cases tg <;> first | exact absurd g1 Bool.false_ne_true | (cases e <;> first | rfl | cases g2)
    refine imS (ps_asg ((ev_ok h3 hp hpl m X sc Wx K.toCok).1 e) (pg_of K.nm K.nd K.calm (fun x i h => wr_def K h) tg) (swaps0 g3) h1 (by cases tg <;> first | rfl | exact absurd g1 Bool.false_ne_true)) fun Dn σ H ⟨γ, ρ, w, G, q⟩ => ⟨γ, ρ, w, G, (PostS.onE q).imp (fun d w1 h2 v H1 g1' x1 wk1 rv => ?_) fun c w1 h2 => okX.ex G h2⟩
    obtain ⟨ρ', e', h4⟩ := (PostS.onE h2).lift
    unfold asgR at e'
    cases els : asgL C.N sc tg d with
    | none => rw [els] at e'; cases e'
    | some ls =>
      rw [els] at e'
      have e' := (Option.some.inj e').symm
      subst e'
      refine asg_go (R := fun a => a ∉ (γ.step g1').L) els rv (fun j a p z => (List.mem_append.mp z).elim p.2 (p.1.2.2.2 (by rw [g4]; exact Nat.zero_le _))) fun us ru => ?_
      exact h4 _ _ _ ((G.step x1 wk1).setL (fun p hp => own0 _ (asg_slots els p hp)) ru) (SStep.of (w' := w1) G x1)
end
end T
namespace T
open PySem PySem.Spec PyProof.Rows L2
/-! ### an item taken out; a list of two unpacked -/
def remI (k : Int) : List Int → Option (List Int)
  | [] => none
  | n :: r => if n = k then some r else (remI k r).map (n :: ·)
def remD : D → D → Option D
  | .list ds, .int k => (intsOf ds).bind fun ns => (remI k ns).map fun ms => .list (ms.map .int)
  | _, _ => none
theorem remI_at : ∀ {ns ms : List Int} {k : Int}, remI k ns = some ms → ∃ j : Nat, ns[j]? = some k ∧ (∀ m : Nat, m < j → ns[m]? ≠ some k) ∧ ms = ns.eraseIdx j
  | [], ms, k, h => by cases h
  | n :: r, ms, k, h => by
    unfold remI at h
    split at h
    · rename_i e
      cases h
      exact ⟨0, by simp [e], fun m hm => by omega, rfl⟩
    · rename_i e
      cases hr : remI k r with
      | none => rw [hr] at h; cases h
      | some ms' =>
        rw [hr] at h
        cases h
        obtain ⟨j, h1, h2, h3⟩ := remI_at hr
        refine ⟨j + 1, by simpa using h1, fun m hm => ?_, by rw [h3]; rfl⟩
        cases m with
        | zero => simp [e]
        | succ m => simpa using h2 m (by omega)
def list2 {R : Type} (no : R) : D → (D → D → R) → R
  | .list [a, b], k => k a b
  | _, _ => no
def isNameE : Expr → Bool
  | .Name _ _ => true
  | _ => false
section
variable {W : Type} (C : Cfg W) (pl : Pl) (m : Nat) (sc : Scope)
def remS (x : Str) (e : Expr) (ρ : Rho) (w : W) : SRes W := match rdSlot C.N sc x with
  | some i => guardS (isItsK (ownK (ownAt C.own i)) && notStar e && decide (expo C.N C.own m sc e = 0))
      (onE ρ (sl ρ i w) fun l w => guardS (isListD l) (onE ρ (evS C pl m sc e ρ w) fun d w => onE ρ (lift (remD l d) w) fun l' w => .nx (ρ.set i (some l')) w))
  | none => .no
def unlS (x y : Str) (e : Expr) (ρ : Rho) (w : W) : SRes W := match wrSlot C.N sc x, wrSlot C.N sc y with
  | some i, some j => guardS (isNameE e && decide (expo C.N C.own m sc e ≤ 1) && decide (ownAt C.own i = 0) && decide (ownAt C.own j = 0))
      (onE ρ (evS C pl m sc e ρ w) fun d w => list2 .no d fun a b => .nx ((ρ.set i (some a)).set j (some b)) w)
  | _, _ => .no
end
section
variable {W : Type} {Z : Wd W} {ce : Str → Option Addr} {own : List Nat} {γ : GP} {σ : L2.St} {H : Hp} {ρ : Rho} {w : W}
variable {X : Cx} {Wx : Str → L2.St → Hp → Prop} {pos : Pos} {C : Cfg W} {pl : Pl} {sc : Scope} {m : Nat}
theorem ls_rem (h3 : Zip3Ok ce) (hp : ∀ K, PlOk ce K pl) (hpl : PlLeaf pl) (K : Sok Z ce C X sc Wx) {x : Str} {p ap cp : Pos} {e : Expr} (hl : (ap.endLine == cp.line) = true) :
    PS X (.Expr (.Call (.Attribute (.Name x p) "remove" ap) [e] [] cp) pos) (tS Z ce C.own Wx fun ρ w => remS C pl m sc x e ρ w) := by
  cases hw : rdSlot C.N sc x with
  | none => exact ls_none fun ρ w => by unfold remS; rw [hw]
  | some i =>
    generalize hg : (isItsK (ownK (ownAt C.own i)) && notStar e && decide (expo C.N C.own m sc e = 0)) = gd
    cases gd with
    | false => exact ls_none fun ρ w => by unfold remS; rw [hw]; dsimp only; rw [hg]; rfl
    | true =>
      have eq : (fun (ρ : Rho) (w : W) => remS C pl m sc x e ρ w) = fun ρ w => onE ρ (sl ρ i w) fun l w => guardS (isListD l) (onE ρ (evS C pl m sc e ρ w) fun d w => onE ρ (lift (remD l d) w) fun l' w => .nx (ρ.set i (some l')) w) := by
        funext ρ w
        unfold remS
        rw [hw]
        dsimp only
        rw [hg]; rfl
      rw [eq]
      simp only [Bool.and_eq_true, decide_eq_true_eq] at hg
      obtain ⟨⟨g1, g2⟩, g3⟩ := hg
      obtain ⟨nd, hk⟩ := its_of g1
      refine imS (ps_expr (pe_bm PySem.F.plainAttrs_list PySem.F.slot_list_remove PySem.F.type_list_remove mt_remove (pe_slot K.toCok hw) (pa_cons ((ev_ok h3 hp hpl m X sc Wx K.toCok).1 e) pa_nil (star_cons g2)) rfl (by rw [star_cons g2]; rfl) hl (star_cons g2) rfl) rfl) fun Dn σ H ⟨γ, ρ, w, G, q⟩ => ?_
      obtain ⟨l, el, q1⟩ := sl_some (PostS.onE q)
      obtain ⟨hil, q1⟩ := q1.guard
      cases l with
      | list ds =>
        obtain ⟨pa, vs, e1, e2, n1, e4, r1⟩ := G.itsL hk el
        refine ⟨_, e1, .inl ⟨rfl, _, SqL.of e2⟩, γ, ρ, w, G, (PostS.onE q1).imp (fun d w1 h1 v H1 g1' x1 wk1 rv => ?_) fun c w1 h1 => okX.ex G h1⟩
        obtain ⟨l', el', q2⟩ := (PostS.onE h1).lift
        unfold remD at el'
        split at el'
        · rename_i _ _ ds0 k hds
          cases hds
          cases hi : intsOf ds with
          | none => rw [hi] at el'; cases el'
          | some ns =>
            rw [hi] at el'
            have el' : (remI k ns).map (fun ms => PyData.list (ms.map .int)) = some l' := el'
            cases hr : remI k ns with
            | none => rw [hr] at el'; cases el'
            | some ms =>
              rw [hr] at el'
              cases el'
              have G1 := G.step x1 wk1
              obtain ⟨pa', vs', e1', e2', n1', e4', r1'⟩ := G1.itsL hk el
              rw [e1] at e1'
              cases e1'
              cases rv
              have hv := r1'.ofInts hi
              subst hv
              obtain ⟨j, j1, j2, j3⟩ := remI_at hr
              subst j3
              have hle : ((ns.eraseIdx j).map V.int).length ≤ sizeLine := by
                rw [List.length_map, List.length_eraseIdx]
                rw [List.length_map] at n1'
                split <;> omega
              refine ⟨pa, ns, k, j, rfl, rfl, e2', j1, j2, ?_⟩
              obtain ⟨G2, s2⟩ := G1.updT hk e4' (by exact e1) e2' (us := (ns.eraseIdx j).map V.int) (es := (ns.eraseIdx j).map PyData.int) hle (Reps.ints _)
              exact q2 _ _ _ G2 ((SStep.of (w' := w1) G x1).trans s2)
        · cases el'
      | _ => cases hil
theorem ls_unl (h3 : Zip3Ok ce) (hp : ∀ K, PlOk ce K pl) (hpl : PlLeaf pl) (K : Sok Z ce C X sc Wx) {x y : Str} {p1 p2 p3 : Pos} {k : Nat} {e : Expr} :
    PS X (.Assign [.Tuple [.Name x p1, .Name y p2] k p3] e pos) (tS Z ce C.own Wx fun ρ w => unlS C pl m sc x y e ρ w) := by
  cases hx : wrSlot C.N sc x with
  | none => exact ls_none fun ρ w => by unfold unlS; rw [hx]
  | some i =>
    cases hy : wrSlot C.N sc y with
    | none => exact ls_none fun ρ w => by unfold unlS; rw [hx, hy]
    | some j =>
      generalize hg : (isNameE e && decide (expo C.N C.own m sc e ≤ 1) && decide (ownAt C.own i = 0) && decide (ownAt C.own j = 0)) = gd
      cases gd with
      | false => exact ls_none fun ρ w => by unfold unlS; rw [hx, hy]; dsimp only; rw [hg]; rfl
      | true =>
        have eq : (fun (ρ : Rho) (w : W) => unlS C pl m sc x y e ρ w) = fun ρ w => onE ρ (evS C pl m sc e ρ w) fun d w => list2 .no d fun a b => .nx ((ρ.set i (some a)).set j (some b)) w := by
          funext ρ w
          unfold unlS
          rw [hx, hy]
          dsimp only
          rw [hg]; rfl
        rw [eq]
        simp only [Bool.and_eq_true, decide_eq_true_eq] at hg
        obtain ⟨⟨⟨g1, g2⟩, g3⟩, g4⟩ := hg
        have nm : ∀ {x : Str} {i : Nat} {p : Pos}, wrSlot C.N sc x = some i → PG X (.Name x p) (gName i) := fun {x i p} h =>
          pg_name (by rw [K.nm]; exact K.nd) (by rw [K.nm]; exact (wrSlot_ok h).1) (wr_def K h).1 (wr_def K h).2
        have o0 : ∀ {i : Nat}, ownAt C.own i = 0 → ownK (ownAt C.own i) = .sh := fun h => by rw [h]; rfl
        have h1 : swappedStores [.Tuple [.Name x p1, .Name y p2] k p3] e X.env = pure none := by cases e <;> first | rfl | cases g1
        have hsw : swapsWithSole [.Tuple [.Name x p1, .Name y p2] k p3] e pos.line X.env = pure false := by cases e <;> first | rfl | cases g1
        refine imS (ps_asg ((ev_ok h3 hp hpl m X sc Wx K.toCok).1 e) (pg_lst K.calm (pgs_cons (nm hx) (pgs_cons (nm hy) pgs_nil))) hsw h1 rfl) fun Dn σ H ⟨γ, ρ, w, G, q⟩ => ⟨γ, ρ, w, G, (PostS.onE q).imp (fun d w1 h2 v H1 g1' x1 wk1 rv => ?_) fun c w1 h2 => okX.ex G h2⟩
        unfold list2 at h2
        split at h2
        · rename_i da db
          obtain ⟨a, vs, rfl, ea, rr⟩ : ∃ a vs, v = .ref a ∧ H1 a = some (.lst vs) ∧ Reps ce g1'.hs H1 (fun j b => PexO (expo C.N C.own m sc e) (newK C.N C.own false m sc e) (newK C.N C.own true m sc e) γ H g1' (j + 1) b ∧ b ≠ a) vs [da, db] := by
            cases rv with
            | lst ea _ _ rr => exact ⟨_, _, rfl, ea, rr⟩
          cases rr with
          | cons ra rr =>
            cases rr with
            | cons rb rr =>
              cases rr
              have G1 := G.step x1 wk1
              have ru : ∀ {v : V} {d : D}, Rep ce g1'.hs H1 (fun j b => PexO (expo C.N C.own m sc e) (newK C.N C.own false m sc e) (newK C.N C.own true m sc e) γ H g1' (j + 1) b ∧ b ≠ a) v d → Rep ce g1'.hs H1 (fun _ a => a ∉ (γ.step g1').L) v d := fun r => r.mono fun j b p z => (List.mem_append.mp z).elim p.1.2 (p.1.1.2.2.2 (by omega))
              refine ⟨a, _, rfl, SqL.of ea, rfl, _, _, rfl, _, _, rfl, ?_⟩
              exact ⟨rfl, h2 _ _ _ ((G1.set1 (o0 g3) (ru ra)).set1 (o0 g4) (ru rb)) (SStep.of (w' := w1) G x1)⟩
        · exact h2.elim
end
end T
namespace T
open PySem PySem.Spec PyProof.Rows L2
/-! ### try: body, except x as n: m = n; the caught error is kept as an object of the heap -/
section
variable {X : Cx} {pins : List (Addr × Obj)} {σ : L2.St} {H : Hp} {s : Shared}
theorem excPhi_ok {P : Program} {wd : World} {Hx : Hp} {h : Heap} {a Kc : Addr} {oe : Obj} {vs : Array Value} (e : h.get? a = some oe) (hc : oe.cls = .ref Kc) (hd : oe.dict = none) (hv : oe.data = .fields vs) : ObjOk P wd Hx h a (.ext (excPhi Kc a)) :=
  ⟨⟨oe, vs, e, hc, hd, hv⟩, ⟨oe, e⟩, fun h1 h2 ⟨o, us, e1, e2, e3, e4⟩ k => ⟨o, us, k o e1, e2, e3, e4⟩⟩
theorem inv_adopt (I : L2.Inv X pins σ H s) {a Kc : Addr} {oe : Obj} {vs : Array Value} (ha : s.heap.get? a = some oe) (hc : oe.cls = .ref Kc) (hdd : oe.dict = none) (hd : oe.data = .fields vs) (na : H a = none) (h0 : X.s_0.heap.get? a = none) (hp : ∀ p ∈ X.pn ++ pins, p.1 ≠ a) (nL : a ≠ X.env.locals) :
    L2.Inv X pins σ (upd H a (.ext (excPhi Kc a))) s := by
  have ne : ∀ {b : Addr} {o : HO}, H b = some o → b ≠ a := fun e z => by rw [z, na] at e; cases e
  refine ⟨I.ok, I.os, I.bare, ⟨I.base.keep, I.base.slot, fun b o e n hx => ?_, I.base.there, fun b xs e => ?_, fun b o u e => ?_, fun b ps e => ?_⟩, I.loc, I.cell, ?_, fun x c e => ?_, fun p hq => ?_, fun b o e => ?_, I.len⟩
  · rw [upd_ne (fun z => by rw [z, h0] at e; cases e)]; exact I.base.free b o e n hx
  · have q := I.base.tups b xs e
    rw [upd_ne (ne q)]; exact q
  · have q := I.base.frzs b o u e
    rw [upd_ne (ne q)]; exact q
  · obtain ⟨more, q⟩ := I.base.tbls b ps e
    exact ⟨more, by rw [upd_ne (ne q)]; exact q⟩
  · rw [upd_ne (Ne.symm nL)]; exact I.free
  · rw [upd_ne ?_]
    · exact I.freeC x c e
    · intro z
      obtain ⟨v, oc, e1, e2⟩ := I.cell x c e
      rw [z, ha] at e1
      cases e1
      rw [hd] at e2
      cases e2
  · obtain ⟨q1, q2, q3, q4, q5⟩ := I.pin p hq
    exact ⟨q1, by rw [upd_ne (hp p hq)]; exact q2, q3, q4, q5⟩
  · by_cases z : b = a
    · subst z
      rw [upd_same] at e
      cases e
      exact excPhi_ok ha hc hdd hd
    · rw [upd_ne z] at e
      exact (I.hok b o e).stay (fun c v _ q => q) (fun c q => by rw [upd_ne (ne_of_none q na)]; exact q) fun c xs q => by rw [upd_ne (ne_of_none q na)]; exact q
end
/-- what the clause wishes of the body's error -/
def wKeep (K : PySem.W.Frag) (c : Value) (i j : Nat) (Wout : WX) (D : Ends) : WX := fun cls d σ H =>
  ∃ b, PySem.W.exmOne K cls c = some b ∧ (b = true → ∃ Kc, cls = .ref Kc ∧ d = none ∧ ∀ a, H a = none → D.nx (((σ.set i (some (.ref a))).set j (some (.ref a))).set i none) (upd H a (.ext (excPhi Kc a)))) ∧ (b = false → Wout cls d σ H)
section
variable {X : Cx} {x n m : Str} {c : Value} {i j : Nat} {body : List Stmt} {np pos pos' p1 p2 p3 : Pos} {tb : WX → TS} {Wout : WX}
theorem ps_try_keep (hs : X.stack = X.env :: X.outer) (hf : X.env.frame = some X.env.locals) (hex : X.ex = []) (hN : X.N.Nodup) (hi : X.N[i]? = some n) (hln : X.env.kindOf n = some .local) (hvn : Vis X.env.scope n) (hdn : (n == ("__debug__" : Str)) = false) (hcn : (n == ("__classdict__" : Str)) = false) (hj : X.N[j]? = some m) (hlm : L2.Loc X.env.scope m) (hfm : X.fn m = true) (hc : Names X x c) (tk : Takes X Wout)
    (hb : ∀ (W : WX) (pn : List (Addr × Obj)) (xe : Value → Shared → Prop), Takes (X.tr pn xe) W → PassesOwn (model X.prog X.w) X.A X.env xe → PSs (X.tr pn xe) body (tb W)) :
    PS X (.Try body [.ExceptHandler (some (.Name x np)) (some n) [.Assign [.Name m p1] (.Name n p2) p3] pos'] [] [] pos) (fun D σ H => tb (wKeep X.K c i j Wout D) D σ H) := by
  refine ⟨fun pins s σ H D I h => ?_⟩
  have ok := I.ok
  have e0 : X.A.frames = some (X.env :: X.outer) := ok.frames.trans (by rw [hs])
  let hd : ExceptHandler := .ExceptHandler (some (.Name x np)) (some n) [.Assign [.Name m p1] (.Name n p2) p3] pos'
  let xe : Value → Shared → Prop := fun e s1 => wpAny (model X.prog X.w) X.A (noteFrame e X.env) (fun _ s2 => wpAny (model X.prog X.w) X.A (setFlight e none) (fun _ s3 => wpAny (model X.prog X.w) X.A (handleBy e X.env [hd]) (SP X pins D) X.xe s3) X.xe s2) X.xe s1
  have tkb : Takes (X.tr (X.pn ++ pins) xe) (wKeep X.K c i j Wout D) := by
    rintro u s' ⟨a, B, sI, pins', σ', H', cls, d, rfl, J', nb, up, sky, na, os, ag, b, hb1, hyes, hno⟩
    have J : L2.Inv X pins σ' H' sI := J'.ofTry ok
    show wpAny (model X.prog X.w) X.A (noteFrame (.ref a) X.env) _ _ _
    refine Sky.land (L := X.env.locals) Zc.steady e0 hf (by rw [← hs]; exact sky) fun h3 fl3 up3 => ?_
    have J3 : L2.Inv X pins σ' H' { s' with heap := h3 } := J.landed nb fl3.1 (up.trans up3) os ag
    obtain ⟨oe3, vs3, he3, hz3, hd3⟩ := fl3.there
    have nfr : ∀ {h : Heap} {o : Obj} {vs : Array Value}, h.FunFrames B (X.env :: X.outer) → h.get? a = some o → o.data = .fields vs → a ∉ frs (X.env :: X.outer) := fun {h o vs} ff e dd hm => by
      obtain ⟨_, o', e', hnf⟩ := ff.mem hm
      rw [e] at e'; cases e'
      exact hnf _ dd
    have n3 := nfr fl3.2.2.1 he3 hd3
    have nL : a ≠ X.env.locals := fun z => n3 (List.mem_filterMap.mpr ⟨X.env, List.mem_cons_self, by rw [hf, z]⟩)
    have nF : a ∉ X.fs := fun hm => by
      obtain ⟨e, he, q⟩ := List.mem_filterMap.mp hm
      exact n3 (List.mem_filterMap.mpr ⟨e, List.mem_cons_of_mem _ he, q⟩)
    have sIa : sI.heap.get? a = none := by
      cases q : sI.heap.get? a with
      | none => rfl
      | some o =>
        have := nb a o q (by rw [hs]; exact n3)
        rw [fl3.2.1] at this
        cases this
    have s0a : X.s_0.heap.get? a = none := by
      cases q : X.s_0.heap.get? a with
      | none => rfl
      | some o =>
        obtain ⟨o', e'⟩ := J.base.there a o q (by rw [hex]; exact fun z => nomatch z)
        rw [sIa] at e'
        cases e'
    have pna : ∀ p ∈ X.pn ++ pins, p.1 ≠ a := fun p hp z => by
      have := (J.pin p hp).1
      rw [z, sIa] at this
      cases this
    have S3 := J3.suite he3 hd3 na nL nF
    refine wpAny_handleBy_cons (codeAny_handlers_test ?_) (by intro q; cases q)
    have LT : PySem.W.Looks (model X.prog X.w) h3 (typeOf (.ref a)) cls := fun A Q E s k q => wpAny_typeOf_ref (k _ _ he3) (by rw [hz3.1]; exact q)
    have LM := PySem.W.exm_one (M := model X.prog X.w) J3.kIn LT hb1
    have test : ∀ {Q : Value → Shared → Prop} {E : Value → Shared → Prop}, Q c { s' with heap := h3 } → wpAny (model X.prog X.w) (X.A.mark (some (.ref a))) (eval (.Name x np) X.env) Q E { s' with heap := h3 } := fun {Q E} q => by
      obtain ⟨g1, g2, g3 | ⟨g3, g4, g5⟩⟩ := hc
      · exact ld_glob (X := X.suite a ((a, oe3) :: (X.pn ++ pins))) S3 g1 g3 q g2
      · exact ld_blt (X := X.suite a ((a, oe3) :: (X.pn ++ pins))) S3 g1 g3 g4 q g5 g2
    refine test (LM.here ?_)
    cases b with
    | true =>
      obtain ⟨Kc, rfl, rfl, hy2⟩ := hyes rfl
      refine codeAny_handlers_suite_as (HandSPX.lands_againZ fl3 fun h4 fl4 up4 => ?_)
      have J4 : L2.Inv X pins σ' H' { s' with heap := h4 } := J.landed nb fl4.1 ((up.trans up3).trans up4) os ag
      obtain ⟨oe4, vs4, he4, hz4, hd4⟩ := fl4.there
      have A4 := inv_adopt J4 (Kc := Kc) he4 hz4.1 hz4.2 hd4 na s0a pna nL
      let Y : Cx := X.suite a (X.pn ++ pins)
      have toY : ∀ {σ : L2.St} {H : Hp} {s : Shared}, L2.Inv X pins σ H s → L2.Inv Y [] σ H s := fun J => ⟨J.ok.suite _ _, J.os, J.bare, J.base, J.loc, J.cell, J.free, J.freeC, fun p hp => J.pin p (by rw [List.append_nil] at hp; exact hp), J.hok, J.len⟩
      have ofY : ∀ {σ : L2.St} {H : Hp} {s : Shared}, L2.Inv Y [] σ H s → L2.Inv X pins σ H s := fun J => ⟨ok, J.os, J.bare, J.base, J.loc, J.cell, J.free, J.freeC, fun p hp => J.pin p (by rw [List.append_nil]; exact hp), J.hok, J.len⟩
      refine store_ok (X := Y) (v := .ref a) (toY A4) hN hi (.inl hln) rfl (fun s5 S5 => ?_) (.inr hln)
      have hil : i < σ'.length := by rw [J.len]; exact (List.getElem?_eq_some_iff.mp hi).1
      have run := (pss_cons (X := Y) (ps_asg (X := Y) (pos := p3) (tg := .Name m p1) (e := .Name n p2) (pe_var (X := Y) (i := i) hi hvn hdn hcn) (pg_name (X := Y) (i := j) hN hj hlm (.inl hfm))) pss_nil).run [] s5 (σ'.set i (some (.ref a))) (upd H' a (.ext (excPhi Kc a)))
        { nx := fun σ6 H6 => σ6 = (σ'.set i (some (.ref a))).set j (some (.ref a)) ∧ H6 = upd H' a (.ext (excPhi Kc a)), rt := fun _ _ => False, bk := fun _ _ => False, ct := fun _ _ => False } S5 ⟨.ref a, List.getElem?_set_self hil, rfl, rfl⟩
      refine wpAny_mono run (fun f s6 hsp => ?_) (fun _ _ z => False.elim z)
      cases f with
      | next =>
        obtain ⟨σ6, H6, S6, q6, q7⟩ := hsp
        subst q6; subst q7
        exact gone_ok (ofY S6) hN hi hln fun s7 J7 => ⟨_, _, J7, hy2 a na⟩
      | brk => obtain ⟨_, _, _, z⟩ := hsp; exact z.elim
      | cont => obtain ⟨_, _, _, z⟩ := hsp; exact z.elim
      | ret u => obtain ⟨_, _, _, _, _, z⟩ := hsp; exact z.elim
    | false =>
      show wpAny _ X.A (handleBy (.ref a) X.env []) _ _ _
      refine wpAny_handleBy_nil ?_
      obtain ⟨k1, k2, k3, oe, vs, TT, oT, ts', he, hz, hd', h1, hr⟩ := id fl3
      unfold PySem.passOn
      refine wpAny_bind (wpAny_field he hd' h1 ?_)
      rw [if_neg (show ¬ ((Value.ref TT == Value.none) = true) from by simp)]
      have fin : wpAny (model X.prog X.w) X.A (setFlight (.ref a) X.env.frame) (fun _ s4 => wpAny (model X.prog X.w) X.A (throw (.ref a) : Sem Flow) (SP X pins D) X.xe s4) X.xe { s' with heap := h3 } := by
        rw [hf]
        refine HandSPX.setFlight_upZ fl3 fun h4 hh4 up4 => wpAny_throw (tk _ _ ?_)
        exact ⟨a, B, sI, pins, σ', H', cls, d, rfl, J, nb, (up.trans up3).trans up4, .inr (.inr (by rw [hs]; exact hh4)), na, os, ag, hno rfl⟩
      first
        | exact wpAny_bind (wpAny_pure (wpAny_bind fin))
        | exact wpAny_bind fin
  refine wpAny_Try_except (wpAny_mono ((hb _ _ xe tkb PassesOwn.looking).run [] s σ H D (I.toTry _) h) (fun f s1 hsp => ?_) fun e s1 he => he)
  cases f with
  | next =>
    obtain ⟨σ1, H1, J1, q⟩ := hsp
    exact wpAny_execs_nil ⟨σ1, H1, J1.ofTry ok, q⟩
  | brk =>
    obtain ⟨σ1, H1, J1, q⟩ := hsp
    exact ⟨σ1, H1, J1.ofTry ok, q⟩
  | cont =>
    obtain ⟨σ1, H1, J1, q⟩ := hsp
    exact ⟨σ1, H1, J1.ofTry ok, q⟩
  | ret u =>
    obtain ⟨v, σ1, H1, J1, r, q⟩ := hsp
    exact ⟨v, σ1, H1, J1.ofTry ok, r, q⟩
end
end T
namespace T
open PySem PySem.Spec PyProof.Rows L2
/-! ### statements that change objects of the world -/
def noSup : Expr → Bool
  | .Call (.Name _ _) [] [] _ => false
  | _ => true
section
variable {W : Type}
variable (C : Cfg W) (pl : Pl) (m : Nat) (sc : Scope)
def isHl (w : W) (l : D) : Bool := match hdlOf l with
  | some k => (C.hl w k).isSome
  | none => false
/-- o.append(b), o a changing list -/
def appH (o b : Expr) (ρ : Rho) (w : W) : SRes W := guardS (notStar b && noSup o) (onE ρ (evS C pl m sc o ρ w) fun l w => guardS (isHl C w l) (onE ρ (evS C pl m sc b ρ w) fun d w => guardS (flatD 0 d) (match hdlOf l with
    | some k => (match C.hl w k with
      | some ds => guardS (lenOk (ds.length + 1)) (.nx ρ (C.hp w k (ds ++ [d])))
      | none => .no)
    | none => .no)))
/-- o.append(b), o new -/
def appNw (o b : Expr) (ρ : Rho) (w : W) : SRes W := guardS (notStar b && noSup o && decide (1 ≤ newK C.N C.own false m sc o)) (onE ρ (evS C pl m sc o ρ w) fun l w => guardS (isListD l) (onE ρ (evS C pl m sc b ρ w) fun _ w => (match l with
    | .list ds => guardS (lenOk (ds.length + 1)) (.nx ρ w)
    | _ => .no)))
/-- o[j] op= e, o a changing list -/
def augH (o j : Expr) (op : Operator) (e : Expr) (ρ : Rho) (w : W) : SRes W := guardS (opOk op) (onE ρ (evS C pl m sc o ρ w) fun l w => guardS (isHl C w l) (onE ρ (evS C pl m sc j ρ w) fun k w => onE ρ (lift (ixH C w l k) w) fun a w => onE ρ (evS C pl m sc e ρ w) fun b w => onE ρ (lift (opI op a b) w) fun c w => (match hdlOf l with
    | some h => (match C.hl w h with
      | some ds => (match setD (.list ds) k c with
        | some (.list ds') => .nx ρ (C.hp w h ds')
        | _ => .no)
      | none => .no)
    | none => .no)))
/-- a value on its way to a field: a new list becomes a changing one -/
def fldR (e : Expr) (d : D) (w : W) : Option (D × W) := match d with
  | .list ds => (match flatDs 0 ds && decide (expo C.N C.own m sc e = 0) && decide (1 ≤ newK C.N C.own false m sc e) with
    | true => some (hdl (C.io.ix.mkL w ds).1, (C.io.ix.mkL w ds).2)
    | false => none)
  | d => (match flatD 0 d with
    | true => some (d, w)
    | false => none)
/-- x.f = e -/
def fldS (x fl : Str) (e : Expr) (ρ : Rho) (w : W) : SRes W := match rdSlot C.N sc x with
  | some i => guardS (C.io.fd.contains fl && noComp e) (onE ρ (evS C pl m sc e ρ w) fun d w => onE ρ (sl ρ i w) fun o w => (match hdlOf o, fldR C m sc e d w with
    | some k, some q => (match C.io.ix.fg q.2 k with
      | some fs => guardS (decide (fs.length < 1000)) (.nx ρ (C.io.ix.fp q.2 k (putFD fl q.1 fs)))
      | none => .no)
    | _, _ => .no))
  | none => .no
end
section
variable {W : Type} {Z : Wd W} {ce : Str → Option Addr} {own : List Nat} {γ : GP} {σ : L2.St} {H : Hp} {ρ : Rho} {w : W}
variable {X : Cx} {Wx : Str → L2.St → Hp → Prop} {pos : Pos} {C : Cfg W} {pl : Pl} {sc : Scope} {m : Nat}
theorem sup_ok {o : Expr} {nm : Str} {env : Env} {whole : Sem Value} (h : noSup o = true) : attributeBase o nm env whole = whole := by
  unfold attributeBase
  cases o with
  | Call f args kws p =>
    cases f with
    | Name id q =>
      cases args with
      | nil =>
        cases kws with
        | nil => cases h
        | cons _ _ => rfl
      | cons _ _ => rfl
    | _ => rfl
  | _ => rfl
theorem isHl_get {w : W} {l : D} (h : isHl C w l = true) : ∃ k ds, hdlOf l = some k ∧ C.hl w k = some ds := by
  unfold isHl at h
  split at h
  · rename_i k hk
    obtain ⟨ds, e⟩ := Option.isSome_iff_exists.mp h
    exact ⟨k, ds, hk, e⟩
  · cases h
theorem ls_appH (h3 : Zip3Ok ce) (hp : ∀ K, PlOk ce K pl) (hpl : PlLeaf pl) (K : Sok Z ce C X sc Wx) {o b : Expr} {ap cp : Pos} (hl : (ap.endLine == cp.line) = true) :
    PS X (.Expr (.Call (.Attribute o "append" ap) [b] [] cp) pos) (tS Z ce C.own Wx fun ρ w => appH C pl m sc o b ρ w) := by
  generalize hg : (notStar b && noSup o) = gd
  cases gd with
  | false => exact ls_none fun ρ w => by unfold appH; rw [hg]; rfl
  | true =>
    obtain ⟨g1, g2⟩ := Bool.and_eq_true_iff.mp hg
    have E := (ev_ok h3 hp hpl m X sc Wx K.toCok).1
    refine imS (ps_expr (pe_bm PySem.F.plainAttrs_list PySem.F.slot_list_append PySem.F.type_list_append mt_append (E o) (pa_cons (E b) pa_nil (star_cons g1)) (sup_ok g2) (by rw [star_cons g1]; rfl) hl (star_cons g1) rfl) rfl) fun Dn σ H ⟨γ, ρ, w, G, q⟩ => ?_
    have q : PostS (guardS (notStar b && noSup o) _) _ _ _ := q
    obtain ⟨_, q⟩ := q.guard
    refine ⟨γ, ρ, w, G, (PostS.onE q).imp (fun l w1 h1 v H1 g1' x1 wk1 rv => ?_) fun c w1 h1 => okX.ex G h1⟩
    obtain ⟨hi, h1⟩ := h1.guard
    obtain ⟨k, ds0, hk, hds0⟩ := isHl_get hi
    obtain ⟨a, rfl, ea⟩ := hdlOf_rep rv hk
    obtain ⟨a1, us, e1, e2, e3, e4, e5⟩ := K.hh.get wk1.rel hds0
    rw [ea] at e1
    cases e1
    have G1 := G.step x1 wk1
    have s1 := SStep.of (w' := w1) G x1
    refine ⟨.inl ⟨rfl, _, SqL.of e3⟩, γ.step g1', ρ, w1, G1, (PostS.onE h1).imp (fun d w2 h2 y H2 g2 x2 wk2 ry => ?_) fun c w2 h2 => okX.ex G1 (okX.back h2 s1)⟩
    obtain ⟨hf, h2⟩ := h2.guard
    rw [hk] at h2
    dsimp only at h2
    split at h2
    · rename_i ds hds
      obtain ⟨hlen, h2⟩ := h2.guard
      have ea2 := x2.hs k a ea
      obtain ⟨a1, us, e1, e2, e3, e4, e5⟩ := K.hh.get wk2.rel hds
      rw [ea2] at e1
      cases e1
      have hle := line_le hlen
      refine ⟨a, us, y, rfl, rfl, e3, by rw [e5.length]; omega, ?_⟩
      have ry2 : Rep ce g2.hs H2 (fun _ _ => False) y d := Rep.flat 0 (fun i j b hj => absurd hj (Nat.not_lt_zero _)) ry hf
      obtain ⟨y1, y2⟩ := K.hh.put' wk2 hds ea2 (vs' := us ++ [y]) (ds' := ds ++ [d]) (by rw [List.length_append, e5.length]; exact hle) (e5.append (.one ry2))
      have G2 := G1.step x2 wk2
      exact h2 _ _ _ (G2.step y1 y2) ((s1.trans (SStep.of (w' := w2) G1 x2)).trans (SStep.of (w' := C.hp w2 k (ds ++ [d])) G2 y1))
    · exact h2.elim
theorem ls_appNw (h3 : Zip3Ok ce) (hp : ∀ K, PlOk ce K pl) (hpl : PlLeaf pl) (K : Sok Z ce C X sc Wx) {o b : Expr} {ap cp : Pos} (hl : (ap.endLine == cp.line) = true) :
    PS X (.Expr (.Call (.Attribute o "append" ap) [b] [] cp) pos) (tS Z ce C.own Wx fun ρ w => appNw C pl m sc o b ρ w) := by
  generalize hg : (notStar b && noSup o && decide (1 ≤ newK C.N C.own false m sc o)) = gd
  cases gd with
  | false => exact ls_none fun ρ w => by unfold appNw; rw [hg]; rfl
  | true =>
    have hg0 := hg
    simp only [Bool.and_eq_true, decide_eq_true_eq] at hg
    obtain ⟨⟨g1, g2⟩, g3⟩ := hg
    have E := (ev_ok h3 hp hpl m X sc Wx K.toCok).1
    refine imS (ps_expr (pe_bm PySem.F.plainAttrs_list PySem.F.slot_list_append PySem.F.type_list_append mt_append (E o) (pa_cons (E b) pa_nil (star_cons g1)) (sup_ok g2) (by rw [star_cons g1]; rfl) hl (star_cons g1) rfl) rfl) fun Dn σ H ⟨γ, ρ, w, G, q⟩ => ?_
    have q : PostS (guardS (notStar b && noSup o && decide (1 ≤ newK C.N C.own false m sc o)) _) _ _ _ := q
    obtain ⟨_, q⟩ := q.guard
    refine ⟨γ, ρ, w, G, (PostS.onE q).imp (fun l w1 h1 v H1 g1' x1 wk1 rv => ?_) fun c w1 h1 => okX.ex G h1⟩
    obtain ⟨hi, h1⟩ := h1.guard
    cases l with
    | list ds =>
      have rv0 := rv
      cases rv with
      | @lst _ p vs _ e1 n1 p1 r1 =>
        have hpn : H p = none := p1.1.1 (by omega)
        have G1 := G.step x1 wk1
        have s1 := SStep.of (w' := w1) G x1
        refine ⟨.inl ⟨rfl, _, SqL.of e1⟩, γ.step g1', ρ, w1, G1, (PostS.onE h1).imp (fun d w2 h2 y H2 g2 x2 wk2 ry => ?_) fun c w2 h2 => okX.ex G1 (okX.back h2 s1)⟩
        obtain ⟨hlen, h2⟩ := h2.guard
        have e2 : H2 p = some (.lst vs) := x2.keep p _ p1.2 e1
        have hle := line_le hlen
        have hpO : p ∉ g2.Om := fun z => (x2.new p z).elim p1.2 fun q => by rw [q] at e1; cases e1
        refine ⟨p, vs, y, rfl, rfl, e2, by rw [r1.length]; omega, ?_⟩
        have x12 : CStep γ.g H g2 H2 := x1.trans x2
        have x3 : CStep γ.g H g2 (upd H2 p (.lst (vs ++ [y]))) := ⟨fun b o hb e => by rw [upd_ne (show b ≠ p from fun z => by rw [z, hpn] at e; cases e)]; exact x12.keep b o hb e, x12.sub, x12.new, x12.hs⟩
        have wk3 : WOk Z g2 (upd H2 p (.lst (vs ++ [y]))) w2 := by
          refine ⟨Z.stab wk2.rel (fun a ha => upd_ne fun z => hpO (z ▸ ha)) fun b o t e => ?_, fun a ha => ?_, fun a ha o e => ?_⟩
          · rw [upd_ne (fun z => by rw [z, e2] at e; cases e; exact t)]; exact e
          · rw [upd_ne (show a ≠ p from fun z => hpO (z ▸ ha))]; exact wk2.dom a ha
          · rw [upd_ne (show a ≠ p from fun z => hpO (z ▸ ha))] at e; exact wk2.mu a ha o e
        exact h2 _ _ _ (G.step x3 wk3) (SStep.of (w' := w2) G x3)
    | _ => cases hi
theorem ls_augH (h3 : Zip3Ok ce) (hp : ∀ K, PlOk ce K pl) (hpl : PlLeaf pl) (K : Sok Z ce C X sc Wx) {o j e : Expr} {p2 : Pos} {op : Operator} (hj : noSl j = true) : PS X (.AugAssign (.Subscript o j p2) op e pos) (tS Z ce C.own Wx fun ρ w => augH C pl m sc o j op e ρ w) := by
  cases hg : opOk op with
  | false => exact ls_none fun ρ w => by unfold augH; rw [hg]; rfl
  | true =>
    obtain ⟨f, ho⟩ := opOk_some hg
    have E := (ev_ok h3 hp hpl m X sc Wx K.toCok).1
    refine imS (ps_augS (E o) (E j) get_lst (E e) (ip_int ho) set_list (fun ov iv new => by cases j <;> first | rfl | cases hj)) fun Dn σ H ⟨γ, ρ, w, G, q⟩ => ?_
    have q : PostS (guardS (opOk op) _) _ _ _ := q
    obtain ⟨_, q⟩ := q.guard
    refine ⟨γ, ρ, w, G, (PostS.onE q).imp (fun l w1 h1 v H1 g1' x1 wk1 rv => ?_) fun c w1 h1 => okX.ex G h1⟩
    obtain ⟨hi, h1⟩ := h1.guard
    obtain ⟨k, ds0, hk, hds0⟩ := isHl_get hi
    obtain ⟨a, rfl, ea⟩ := hdlOf_rep rv hk
    have G1 := G.step x1 wk1
    have s1 := SStep.of (w' := w1) G x1
    refine ⟨γ.step g1', ρ, w1, G1, (PostS.onE h1).imp (fun kk w2 h2 u H2 g2 x2 wk2 ru => ?_) fun c w2 h2 => okX.ex G1 (okX.back h2 s1)⟩
    obtain ⟨a0, ea0, h2⟩ := (PostS.onE h2).lift
    unfold ixH at ea0
    rw [hk] at ea0
    dsimp only at ea0
    split at ea0
    · rename_i ds hds
      have ea2 := x2.hs k a ea
      obtain ⟨a1, us, e1, e2, e3, e4, e5⟩ := K.hh.get wk2.rel hds
      rw [ea2] at e1
      cases e1
      have G2 := G1.step x2 wk2
      have s2 := SStep.of (w' := w2) G1 x2
      cases kk with
      | int n =>
        cases ru
        obtain ⟨va, hva, rva⟩ := at_rep e5 ea0
        refine ⟨a, us, n, va, rfl, rfl, SqL.of e3, hva, (γ.step g1').step g2, ρ, w2, G2, (PostS.onE h2).imp (fun b w3 h5 y H3 g3 x3 wk3 ry => ?_) fun c w3 h5 => okX.ex G2 (okX.back h5 (s1.trans s2))⟩
        obtain ⟨c, ec, h6⟩ := (PostS.onE h5).lift
        obtain ⟨f', p', q', ho', rfl, rfl, rfl⟩ := opI_some ec
        rw [ho] at ho'
        cases ho'
        cases ry
        cases rva
        rw [hk] at h6
        dsimp only at h6
        split at h6
        · rename_i ds3 hds3
          split at h6
          · rename_i ds' hset
            obtain ⟨ds4, n', jj, z1, z2, hix, z3⟩ := setD_some hset
            cases z1
            cases z2
            cases z3
            have ea3 := x3.hs k a ea2
            obtain ⟨a3, us3, k1, k2, k3, k4, k5⟩ := K.hh.get wk3.rel hds3
            rw [ea3] at k1
            cases k1
            refine ⟨p', q', rfl, rfl, a, us3, n, jj, rfl, rfl, k3, by rw [k5.length]; exact hix, ?_⟩
            obtain ⟨y1, y2⟩ := K.hh.put' wk3 hds3 ea3 (vs' := us3.set jj (.int (f p' q'))) (ds' := ds3.set jj (.int (f p' q'))) (by rw [List.length_set]; exact k4) (Reps.set (.int _) jj k5)
            have G3 := G2.step x3 wk3
            exact h6 _ _ _ (G3.step y1 y2) (((s1.trans s2).trans (SStep.of (w' := w3) G2 x3)).trans (SStep.of (w' := C.hp w3 k (ds3.set jj (.int (f p' q')))) G3 y1))
          · exact h6.elim
        · exact h6.elim
      | _ => cases ea0
    · cases ea0
theorem Hio.put' {cw : Addr} {ix : Ix W} (K : Hio Z ce cw ix) {g : Gh} {H : Hp} {w : W} {k : Nat} {fs fs' : List (Str × D)} {a dx : Addr} {fvs fvs' : List (Str × V)} (wk : WOk Z g H w) (e : ix.fg w k = some fs) (ea : g.hs[k]? = some a) (eO : a ∈ g.Om) (eH : H a = some (.ins cw dx fvs)) (r : FRep ce g.hs H fvs' fs') :
    CStep g H g (upd H a (.ins cw dx fvs')) ∧ WOk Z g (upd H a (.ins cw dx fvs')) (ix.fp w k fs') := by
  refine ⟨⟨fun b o hb eb => by rw [upd_ne (show b ≠ a from fun z => hb (z ▸ eO))]; exact eb, fun _ h => h, fun _ h => .inl h, fun _ _ h => h⟩, K.put wk.rel e ea eH r, fun b hb => ?_, fun b hb o eb => ?_⟩
  · by_cases z : b = a
    · rw [z, upd_same]; exact fun q => nomatch q
    · rw [upd_ne z]; exact wk.dom b hb
  · by_cases z : b = a
    · rw [z, upd_same] at eb; cases eb; exact fun t => t
    · rw [upd_ne z] at eb; exact wk.mu b hb o eb
theorem ls_fld (h3 : Zip3Ok ce) (hp : ∀ K, PlOk ce K pl) (hpl : PlLeaf pl) (K : Sok Z ce C X sc Wx) {x fl : Str} {p p2 : Pos} {e : Expr} : PS X (.Assign [.Attribute (.Name x p) fl p2] e pos) (tS Z ce C.own Wx fun ρ w => fldS C pl m sc x fl e ρ w) := by
  cases hw : rdSlot C.N sc x with
  | none => exact ls_none fun ρ w => by unfold fldS; rw [hw]
  | some i =>
    generalize hg : (C.io.fd.contains fl && noComp e) = gd
    cases gd with
    | false => exact ls_none fun ρ w => by unfold fldS; rw [hw]; dsimp only; rw [hg]; rfl
    | true =>
      obtain ⟨cw, O⟩ := K.io
      have E := (ev_ok h3 hp hpl m X sc Wx K.toCok).1
      obtain ⟨g1, g2⟩ := Bool.and_eq_true_iff.mp hg
      obtain ⟨c1, c2⟩ := O.fld fl g1
      refine imS (ps_fld (pe_slot K.toCok hw) (E e) (swaps0 g2)) fun Dn σ H ⟨γ, ρ, w, G, q⟩ => ?_
      dsimp only at q
      unfold fldS at q
      rw [hw] at q
      dsimp only at q
      rw [hg] at q
      refine ⟨γ, ρ, w, G, (PostS.onE (show PostS (onE ρ (evS C pl m sc e ρ w) _) _ _ _ from q)).imp (fun d w1 h1 v H1 g1' x1 wk1 rv => ?_) fun c w1 h1 => okX.ex G h1⟩
      obtain ⟨o, el, h2⟩ := sl_some (PostS.onE h1)
      obtain ⟨v0, ev0, rv0⟩ := G.rd el
      refine ⟨v0, ev0, ?_⟩
      split at h2
      · rename_i k q2 hk hq
        split at h2
        · rename_i fs hfs
          obtain ⟨hlen, h2⟩ := h2.guard
          have hlen := of_decide_eq_true hlen
          -- the value's place
          have key : ∃ g2, CStep γ.g H g2 H1 ∧ WOk Z g2 H1 q2.2 ∧ Rep ce g2.hs H1 (fun _ _ => False) v q2.1 := by
            unfold fldR at hq
            split at hq
            · rename_i ds
              split at hq
              · rename_i hc
                cases hq
                simp only [Bool.and_eq_true, decide_eq_true_eq] at hc
                obtain ⟨⟨f1, f2⟩, f3⟩ := hc
                cases rv with
                | @lst _ pa vs _ e1 n1 p1 r1 =>
                  have hpn : H pa = none := p1.1.1 (by omega)
                  have rr : Reps ce g1'.hs H1 (fun _ _ => False) vs ds := Reps.flat 0 (fun i j b hj => absurd hj (Nat.not_lt_zero _)) r1 f1
                  obtain ⟨g2, y1, y2, y3⟩ := O.hi.newL x1 wk1 e1 n1 hpn p1.2 rr
                  exact ⟨g2, y1, y2, .hdl y3⟩
              · cases hq
            · split at hq
              · rename_i hf
                cases hq
                exact ⟨g1', x1, wk1, Rep.flat 0 (fun i j b hj => absurd hj (Nat.not_lt_zero _)) rv hf⟩
              · cases hq
          obtain ⟨g2, y1, y2, y3⟩ := key
          obtain ⟨a, rfl, ea⟩ := hdlOf_rep rv0 hk
          have ea2 := y1.hs k a ea
          obtain ⟨a', dx, fvs, e1, e2, e3, e4⟩ := O.hi.get y2.rel hfs
          rw [ea2] at e1
          cases e1
          refine ⟨a, cw, dx, fvs, rfl, e3, c1, c2, by rw [e4.length]; exact hlen, ?_⟩
          obtain ⟨z1, z2⟩ := O.hi.put' y2 hfs ea2 e2 e3 (e4.put fl y3)
          have x3 := y1.trans z1
          exact h2 _ _ _ (G.step x3 z2) (SStep.of (w' := C.io.ix.fp q2.2 k (putFD fl q2.1 fs)) G x3)
        · exact h2.elim
      · exact h2.elim
end
end T
namespace T
open PySem PySem.Spec PyProof.Rows L2
/-! ### a def that changes its arguments: own rows and two new lists, a world of their own -/
def hdls : Nat → Nat → List D
  | _, 0 => []
  | s, n + 1 => hdl s :: hdls (s + 1) n
def listsOf : List D → List (List D)
  | [] => []
  | .list es :: r => es :: listsOf r
  | _ :: r => [] :: listsOf r
section
variable {W : Type}
variable (C : Cfg W) (pl : Pl) (m : Nat) (sc : Scope)
/-- rows read back -/
def rdRows (w : W) : Nat → List D → Option (List D)
  | _, [] => some []
  | s, h :: hs => (match hdlOf h, C.hl w s with
    | some k, some es => (match decide (k = s) && es.all scalB with
      | true => (rdRows w (s + 1) hs).map (.list es :: ·)
      | false => none)
    | _, _ => none)
def mutW (rows as bs : List D) : W := C.io.ix.fresh (hdls 3 rows.length :: as :: bs :: listsOf rows)
def mutR (n : Nat) : Res W D → Option D
  | .ok .none w => (match C.hl w 0 with
    | some hs => (match decide (hs.length = n) with
      | true => (rdRows C w 3 hs).map .list
      | false => none)
    | none => none)
  | _ => none
def mutD (g : List D → W → Res W D) : D → D → D → Option D
  | .list rows, .list as, .list bs => (match rows.all rowB && as.all scalB && bs.all scalB with
    | true => mutR C rows.length (g [hdl 0, hdl 1, hdl 2] (mutW C rows as bs))
    | false => none)
  | _, _, _ => none
/-- f(x, e1, e2) for its effect on x -/
def callM (g : List D → W → Res W D) (x : Str) (e1 e2 : Expr) (ρ : Rho) (w : W) : SRes W := match rdSlot C.N sc x with
  | some i => guardS (isRowsK (ownK (ownAt C.own i)) && notStar e1 && notStar e2 && decide (1 ≤ newK C.N C.own false m sc e1) && decide (1 ≤ newK C.N C.own false m sc e2))
      (onE ρ (sl ρ i w) fun l w => guardS (isListD l) (onE ρ (evS C pl m sc e1 ρ w) fun d1 w => onE ρ (evS C pl m sc e2 ρ w) fun d2 w => onE ρ (lift (mutD C g l d1 d2) w) fun l' w => .nx (ρ.set i (some l')) w))
  | none => .no
end
theorem hdls_get : ∀ {n s i : Nat} {d : D}, (hdls s n)[i]? = some d → i < n ∧ d = hdl (s + i)
  | 0, s, i, d, h => by simp [hdls] at h
  | n + 1, s, 0, d, h => by simp [hdls] at h; exact ⟨Nat.succ_pos _, h.symm⟩
  | n + 1, s, i + 1, d, h => by
    obtain ⟨h1, h2⟩ := hdls_get (n := n) (s := s + 1) (i := i) (d := d) (by simpa [hdls] using h)
    exact ⟨Nat.succ_lt_succ h1, by rw [h2]; congr 1; omega⟩
theorem listsOf_len : ∀ ds : List D, (listsOf ds).length = ds.length
  | [] => rfl
  | d :: r => by cases d <;> simp [listsOf, listsOf_len r]
theorem listsOf_get : ∀ {ds : List D} {i : Nat} {es : List D}, ds[i]? = some (.list es) → (listsOf ds)[i]? = some es
  | [], _, _, h => by simp at h
  | d :: r, 0, es, h => by simp at h; subst h; rfl
  | d :: r, i + 1, es, h => by
    have := listsOf_get (ds := r) (i := i) (es := es) (by simpa using h)
    cases d <;> simpa [listsOf] using this
section
variable {W : Type} {Z : Wd W} {ce : Str → Option Addr} {own : List Nat} {γ : GP} {σ : L2.St} {H : Hp} {ρ : Rho} {w : W}
variable {X : Cx} {Wx : Str → L2.St → Hp → Prop} {pos : Pos} {C : Cfg W} {pl : Pl} {sc : Scope} {m : Nat}
theorem reps_hdls {hs : List Addr} {P : Pd} : ∀ (qs : List Addr) (s : Nat), (∀ (i : Nat) (q : Addr), qs[i]? = some q → hs[s + i]? = some q) → Reps ce hs H P (qs.map V.ref) (hdls s qs.length)
  | [], s, _ => .nil
  | q :: qs, s, h => .cons (.hdl (h 0 q rfl)) (reps_hdls qs (s + 1) fun i q hq => by have := h (i + 1) q (by simpa using hq); rw [show s + (i + 1) = s + 1 + i by omega] at this; exact this)
theorem reps_scalF {hs hs' : List Addr} {P P' : Pd} : ∀ {vs : List V} {ds : List D}, Reps ce hs H P vs ds → ds.all scalB = true → Reps ce hs' H P' vs ds
  | _, _, .nil, _ => .nil
  | _, _, .cons a r, h => by
    simp only [List.all_cons, Bool.and_eq_true] at h
    exact .cons (by cases a <;> first | exact .non | exact .bl _ | exact .int _ | exact .str _ | exact absurd h.1 Bool.false_ne_true) (reps_scalF r h.2)
/-- rows that come back -/
theorem rdRows_ok {g' : Gh} {H' : Hp} {w' : W} {L : List Addr} (K : Hlo Z ce C.hl C.hp) (rl : Z.rel g' H' w') : ∀ {qs : List Addr} {vs : List V} {hs ds' : List D} {s : Nat}, (∀ (i : Nat) (q : Addr), qs[i]? = some q → g'.hs[s + i]? = some q) → Reps ce g'.hs H' (fun _ _ => False) vs hs → hs.length = qs.length → rdRows C w' s hs = some ds' →
    vs = qs.map V.ref ∧ ∀ hs0, Rows ce hs0 H' L qs ds'
  | [], vs, hs, ds', s, _, r, hl, e => by
    cases r with
    | nil => cases e; exact ⟨rfl, fun _ => trivial⟩
    | cons _ _ => simp at hl
  | q :: qs, vs, hs, ds', s, hq, r, hl, e => by
    cases r with
    | nil => simp at hl
    | @cons _ v vs d ds r1 r2 =>
      unfold rdRows at e
      split at e
      · rename_i k es hk hes
        split at e
        · rename_i hc
          simp only [Bool.and_eq_true, decide_eq_true_eq] at hc
          obtain ⟨rfl, hsc⟩ := hc
          obtain ⟨ds2, e2, rfl⟩ := Option.map_eq_some_iff.mp e
          obtain ⟨i1, i2⟩ := rdRows_ok K rl (qs := qs) (s := k + 1) (L := L) (fun i q' h => by have := hq (i + 1) q' (by simpa using h); rw [show k + (i + 1) = k + 1 + i by omega] at this; exact this) r2 (by simpa using hl) e2
          obtain ⟨a, rfl, ea⟩ := hdlOf_rep r1 hk
          have hq0 := hq 0 q rfl
          rw [Nat.add_zero, ea] at hq0
          cases hq0
          obtain ⟨a1, us, k1, k2, k3, k4, k5⟩ := K.get rl hes
          rw [ea] at k1
          cases k1
          refine ⟨by rw [i1]; rfl, fun hs0 => ⟨⟨us, es, rfl, k3, k4, ?_⟩, i2 hs0⟩⟩
          exact reps_scalF k5 hsc
        · cases e
      · cases e
theorem Rows.at {hs L : List Addr} : ∀ {qs : List Addr} {ds : List D} {k : Nat} {q : Addr}, Rows ce hs H L qs ds → qs[k]? = some q → ∃ vs es, ds[k]? = some (.list es) ∧ H q = some (.lst vs) ∧ vs.length ≤ sizeLine ∧ Reps ce hs H (fun _ a => a ∉ L) vs es
  | [], [], _, _, _, e => by simp at e
  | [], _ :: _, _, _, h, _ => h.elim
  | _ :: _, [], _, _, h, _ => h.elim
  | q :: qs, d :: ds, 0, _, ⟨⟨vs, es, e1, e2, n, r⟩, h⟩, e => by simp at e; subst e; subst e1; exact ⟨vs, es, rfl, e2, n, r⟩
  | q :: qs, d :: ds, k + 1, _, ⟨_, h⟩, e => by
    obtain ⟨vs, es, a, b⟩ := Rows.at (k := k) h (by simpa using e)
    exact ⟨vs, es, by simpa using a, b⟩
theorem ls_callM (h3 : Zip3Ok ce) (hp : ∀ K, PlOk ce K pl) (hpl : PlLeaf pl) (K : Sok Z ce C X sc Wx) {f x : Str} {p p2 cp : Pos} {e1 e2 : Expr} {g : List D → W → Res W D} (hf : isGlo sc f = true) (hg : lookD C.io.mu f = some g) :
    PS X (.Expr (.Call (.Name f p) [.Name x p2, e1, e2] [] cp) pos) (tS Z ce C.own Wx fun ρ w => callM C pl m sc g x e1 e2 ρ w) := by
  cases hw : rdSlot C.N sc x with
  | none => exact ls_none fun ρ w => by unfold callM; rw [hw]
  | some i =>
    generalize hgd : (isRowsK (ownK (ownAt C.own i)) && notStar e1 && notStar e2 && decide (1 ≤ newK C.N C.own false m sc e1) && decide (1 ≤ newK C.N C.own false m sc e2)) = gd
    cases gd with
    | false => exact ls_none fun ρ w => by unfold callM; rw [hw]; dsimp only; rw [hgd]; rfl
    | true =>
      have eq : (fun (ρ : Rho) (w : W) => callM C pl m sc g x e1 e2 ρ w) = fun ρ w => onE ρ (sl ρ i w) fun l w => guardS (isListD l) (onE ρ (evS C pl m sc e1 ρ w) fun d1 w => onE ρ (evS C pl m sc e2 ρ w) fun d2 w => onE ρ (lift (mutD C g l d1 d2) w) fun l' w => .nx (ρ.set i (some l')) w) := by
        funext ρ w
        unfold callM
        rw [hw]
        dsimp only
        rw [hgd]; rfl
      rw [eq]
      simp only [Bool.and_eq_true, decide_eq_true_eq] at hgd
      obtain ⟨⟨⟨⟨a1, a2⟩, a3⟩, a4⟩, a5⟩ := hgd
      have hk := rows_of a1
      obtain ⟨cw, O⟩ := K.io
      obtain ⟨kk, fa, fd, ps, F, hr, hm, hkp, hb⟩ := O.muf f g hg
      obtain ⟨gl, okn⟩ := isGlo_ok K.sc_ hf
      have E := (ev_ok h3 hp hpl m X sc Wx K.toCok).1
      have hst : (backTo cp (starEach [e1, e2] X.env)).any (·.1) = false := star_none (by simp [a2, a3])
      refine imS (ps_expr (pe_callS (E := fun σ => WE (fun cls d σ H => d = none ∧ ∃ c K, ce c = some K ∧ cls = .ref K ∧ Wx c σ H) σ) F hr gl hm hkp hb (fun σ => passAt K.tk σ) (pa_cons (pe_slot K.toCok hw) (pa_cons (E e1) (pa_cons (E e2) pa_nil (star_cons a3)) (star_cons a2)) rfl) (okName_d okn).1 rfl hst) rfl) fun Dn σ H ⟨γ, ρ, w, G, q⟩ => ?_
      obtain ⟨l, el, q1⟩ := sl_some (PostS.onE q)
      obtain ⟨hil, q1⟩ := q1.guard
      cases l with
      | list rows =>
        obtain ⟨pa, qs, v1, v2, v3, v4, v5, v6⟩ := G.rowsL hk el
        refine ⟨_, v1, γ, ρ, w, G, (PostS.onE q1).imp (fun d1 w1 h1 y1 H1 g1 x1 wk1 ry1 => ?_) fun c w1 h1 => okX.ex G h1⟩
        have G1 := G.step x1 wk1
        have s1 := SStep.of (w' := w1) G x1
        refine ⟨γ.step g1, ρ, w1, G1, (PostS.onE h1).imp (fun d2 w2 h2 y2 H2 g2 x2 wk2 ry2 => ?_) fun c w2 h2 => okX.ex G1 (okX.back h2 s1)⟩
        have G2 := G1.step x2 wk2
        obtain ⟨l', em, h2⟩ := (PostS.onE h2).lift
        cases d1 with
        | list as =>
          cases d2 with
          | list bs =>
            have em : (match rows.all rowB && as.all scalB && bs.all scalB with
              | true => mutR C rows.length (g [hdl 0, hdl 1, hdl 2] (mutW C rows as bs))
              | false => none) = some l' := em
            split at em
            · rename_i hc
              simp only [Bool.and_eq_true] at hc
              obtain ⟨⟨c1, c2⟩, c3⟩ := hc
              have ry1' := ry1.stepO wk1 x2
              cases ry1' with
              | @lst _ p1 us1 _ b1 b2 b3 b4 =>
                cases ry2 with
                | @lst _ p2' us2 _ d1 d2 d3 d4 =>
                  have hp1 : H p1 = none := b3.1.1 (by omega)
                  have hp2 : H1 p2' = none := d3.1.1 (by omega)
                  have hp2' : H p2' = none := x1.none wk1 hp2
                  have hp12 : p1 ≠ p2' := fun z => by
                    cases ry1 with
                    | lst t1 t2 t3 t4 => rw [z, hp2] at t1; cases t1
                  have x12 : CStep γ.g H g2 H2 := x1.trans x2
                  obtain ⟨pa', qs', w1', w2', w3', w4', w5', w6'⟩ := G2.rowsL hk el
                  have e0 : pa' :: qs' = pa :: qs := w4'.symm.trans v4
                  cases e0
                  have inT : ∀ a ∈ pa :: qs, a ∈ γ.Tp i := fun a h => by rw [v4]; exact h
                  have someT : ∀ a ∈ pa :: qs, H a ≠ none := fun a h => G.dom a (G.tp i a (inT a h)).1
                  let cs := pa :: p1 :: p2' :: qs
                  have hcs : ∀ a, a ∈ cs ↔ (a ∈ pa :: qs ∨ a = p1 ∨ a = p2') := fun a => by
                    simp only [cs, List.mem_cons]
                    grind
                  have csn : ∀ a ∈ cs, a ∈ pa :: qs ∨ H a = none := fun a h => by
                    rcases (hcs a).mp h with z | z | z
                    · exact .inl z
                    · rw [z]; exact .inr hp1
                    · rw [z]; exact .inr hp2'
                  have cnd : cs.Nodup := by
                    obtain ⟨n1, n2⟩ := List.nodup_cons.mp v5
                    refine List.nodup_cons.mpr ⟨fun z => ?_, List.nodup_cons.mpr ⟨fun z => ?_, List.nodup_cons.mpr ⟨fun z => ?_, n2⟩⟩⟩
                    · rcases List.mem_cons.mp z with z | z
                      · exact someT pa List.mem_cons_self (z ▸ hp1)
                      · rcases List.mem_cons.mp z with z | z
                        · exact someT pa List.mem_cons_self (z ▸ hp2')
                        · exact n1 z
                    · rcases List.mem_cons.mp z with z | z
                      · exact hp12 z
                      · exact someT p1 (List.mem_cons_of_mem _ z) hp1
                    · exact someT p2' (List.mem_cons_of_mem _ z) hp2'
                  have rlen : qs.length = rows.length := w6'.len
                  have csO : ∀ a ∈ cs, a ∉ g2.Om := fun a h z => by
                    rcases (hcs a).mp h with y | y | y
                    · exact (G2.tp i a (inT a y)).2.1 (G2.omV a z)
                    · exact b3.2 (y ▸ z)
                    · exact d3.2 (y ▸ z)
                  have wkc : WOk Z ⟨cs, cs⟩ H2 (mutW C rows as bs) := by
                    refine O.hi.new cnd (by simp [cs, listsOf_len, rlen]) fun j a ds ha hds => ?_
                    match j with
                    | 0 =>
                      simp [cs] at ha hds
                      subst ha hds
                      refine ⟨_, w2', by rw [List.length_map]; exact w3', ?_⟩
                      rw [← rlen]
                      exact reps_hdls qs 3 fun i q h => by
                        rw [Nat.add_comm]; simpa [cs] using h
                    | 1 => simp [cs] at ha hds; subst ha hds; exact ⟨_, b1, b2, reps_scalF b4 c2⟩
                    | 2 => simp [cs] at ha hds; subst ha hds; exact ⟨_, d1, d2, reps_scalF d4 c3⟩
                    | j + 3 =>
                      simp [cs] at ha hds
                      obtain ⟨vs, es, t1, t2, t3, t4⟩ := w6'.at ha
                      rw [listsOf_get t1] at hds
                      cases hds
                      refine ⟨vs, t2, t3, reps_scalF t4 ?_⟩
                      have hm := List.all_eq_true.mp c1 _ (List.mem_of_getElem? t1)
                      exact hm
                  refine ⟨⟨cs, cs⟩, [hdl 0, hdl 1, hdl 2], mutW C rows as bs, wkc, .cons (.hdl rfl) (.cons (.hdl rfl) (.cons (.hdl rfl) .nil)), ?_⟩
                  cases hgr : g [hdl 0, hdl 1, hdl 2] (mutW C rows as bs) with
                  | no => rw [hgr] at em; cases em
                  | ex c w3 => rw [hgr] at em; cases em
                  | ok d w3 =>
                    rw [hgr] at em
                    cases d with
                    | none =>
                      intro v H' g' xc wk' rv
                      have em : (match C.hl w3 0 with
                        | some hs => (match decide (hs.length = rows.length) with
                          | true => (rdRows C w3 3 hs).map PyData.list
                          | false => none)
                        | none => none) = some l' := em
                      split at em
                      · rename_i hs hhs
                        split at em
                        · rename_i hl0
                          have hl0 := of_decide_eq_true hl0
                          obtain ⟨ds', er, rfl⟩ := Option.map_eq_some_iff.mp em
                          obtain ⟨a0, us, k1, k2, k3, k4, k5⟩ := K.hh.get wk'.rel hhs
                          have ha0 := xc.hs 0 pa rfl
                          rw [ha0] at k1
                          cases k1
                          have hq3 : ∀ (j : Nat) (q : Addr), qs[j]? = some q → g'.hs[3 + j]? = some q := fun j q hj => xc.hs (3 + j) q (by
                            show (pa :: p1 :: p2' :: qs)[3 + j]? = some q
                            rw [Nat.add_comm]; simpa using hj)
                          obtain ⟨rfl, hrows⟩ := rdRows_ok (L := ((γ.step g1).step g2).L) K.hh wk'.rel hq3 k5 (by rw [hl0, rlen]) er
                          -- what stays
                          have keepN : ∀ b o, b ∉ cs → H2 b = some o → H' b = some o := fun b o hb e => xc.keep b o hb e
                          have keepT' : ∀ b o, isT o → H2 b = some o → H' b = some o := fun b o t e => xc.keepT wkc t e
                          have omS : ∀ a ∈ g2.Om, H' a = H2 a := fun a ha => by
                            cases hq : H2 a with
                            | none => exact absurd hq (wk2.dom a ha)
                            | some o => exact keepN a o (fun z => csO a z ha) hq
                          have wk3 : WOk Z g2 H' w2 := ⟨Z.stab wk2.rel omS keepT', fun a ha => by rw [omS a ha]; exact wk2.dom a ha, fun a ha o e => wk2.mu a ha o (by rw [← omS a ha]; exact e)⟩
                          have notcs : ∀ b o, b ∉ γ.L → H b = some o → b ∉ cs := fun b o hb e z => by
                            rcases csn b z with y | y
                            · exact hb (G.tp i b (inT b y)).1
                            · rw [y] at e; cases e
                          let γ' : GP := (γ.step g1).step g2
                          have hLs : ∀ b o, b ∉ γ.L → H b = some o → b ∉ γ'.L := fun b o hb e z => by
                            rcases List.mem_append.mp z with z | z
                            · rcases x12.new b z with y | y
                              · exact hb (G.vL b (G.omV b y))
                              · rw [y] at e; cases e
                            · rcases List.mem_append.mp z with z | z
                              · rcases x1.new b z with y | y
                                · exact hb (G.vL b (G.omV b y))
                                · rw [y] at e; cases e
                              · exact hb z
                          have st : CStep γ.g0 γ.H0 g2 H' := by
                            have z := G2.st0
                            refine ⟨fun b o hb e => ?_, z.sub, z.new, z.hs⟩
                            have eH : H b = some o := G.st0.keep b o hb e
                            refine keepN b o (fun y => ?_) (z.keep b o hb e)
                            rcases csn b y with y | y
                            · have : γ.H0 b = none := (G.tp i b (inT b y)).2.2
                              rw [this] at e; cases e
                            · rw [y] at eH; cases eH
                          have GG : Good Z ce C.own γ' (σ.set i (some (.ref pa))) H' (ρ.set i (some (.list ds'))) w2 := by
                            refine ⟨wk3, st, G2.omV, G2.vL, fun a h => ?_, G2.tp, G2.dis, by rw [List.length_set, List.length_set]; exact G2.len, fun j d hd => ?_⟩
                            · by_cases hc : a ∈ cs
                              · exact wk'.dom a (xc.sub a hc)
                              · cases hq : H2 a with
                                | none => exact absurd hq (G2.dom a h)
                                | some o => rw [keepN a o hc hq]; exact fun z => nomatch z
                            · by_cases hj : i = j
                              · subst hj
                                by_cases hl : i < ρ.length
                                · rw [List.getElem?_set_self hl] at hd
                                  cases hd
                                  refine ⟨_, List.getElem?_set_self (by rw [← G.len]; exact hl), ?_⟩
                                  rw [hk]
                                  exact .inl ⟨pa, qs, ds', rfl, rfl, k3, w3', v4, v5, hrows _⟩
                                · rw [List.getElem?_eq_none (by rw [List.length_set]; omega)] at hd
                                  cases hd
                              · rw [List.getElem?_set_ne hj] at hd ⊢
                                obtain ⟨v', ev', sv⟩ := G.slot j d hd
                                refine ⟨v', ev', sv.go (fun b o e nb => ⟨keepN b _ (notcs b _ nb e) (x12.keep b _ (fun z => nb (G.vL b (G.omV b z))) e), hLs b _ nb e⟩) (fun b hb o e => ?_) (fun b o t e => keepT' b o t (x12.keepT G.wok t e)) fun k a e => x12.hs k a e⟩
                                refine keepN b o (fun z => ?_) (x12.keep b o (fun z => (G.tp j b hb).2.1 (G.omV b z)) e)
                                rcases csn b z with y | y
                                · exact hj (G.dis i j b (inT b y) hb)
                                · rw [y] at e; cases e
                          have SS : SStep γ H γ' H' := by
                            refine ⟨rfl, rfl, fun b o hb e => keepN b o (notcs b o hb e) (x12.keep b o (fun z => hb (G.vL b (G.omV b z))) e), fun b o t e => keepT' b o t (x12.keepT G.wok t e), fun a h => ?_, x12.sub, x12.hs⟩
                            rcases List.mem_append.mp h with z | z
                            · exact (x12.new a z).elim (fun y => .inl (G.vL a (G.omV a y))) .inr
                            · rcases List.mem_append.mp z with z | z
                              · exact (x1.new a z).elim (fun y => .inl (G.vL a (G.omV a y))) .inr
                              · exact .inl z
                          have fin := h2 γ' (σ.set i (some (.ref pa))) H' GG SS
                          have es : σ.set i (some (V.ref pa)) = σ := by
                            obtain ⟨hlt, he⟩ := List.getElem?_eq_some_iff.mp v1
                            rw [← he]
                            exact List.set_getElem_self hlt
                          rw [es] at fin
                          exact fin
                        · cases em
                      · cases em
                    | _ => cases em
            · cases em
          | _ => cases em
        | _ => cases em
      | _ => cases hil
end
end T
namespace T
open PySem PySem.Spec PyProof.Rows L2
/-! ### x[j], y[k] = two ints -/
def intP : D → Option (Int × Int)
  | .tuple [.int a, .int b] => some (a, b)
  | _ => none
theorem intP_some {d : D} {p : Int × Int} (h : intP d = some p) : d = .tuple [.int p.1, .int p.2] := by
  unfold intP at h
  split at h
  · cases h; rfl
  · cases h
theorem swp_sub {env : Env} {a b c d v : Expr} {p2 q2 pt : Pos} {kt : Nat} : swappedStores [.Tuple [.Subscript a b p2, .Subscript c d q2] kt pt] v env = pure none := by
  unfold swappedStores
  cases v <;> first
    | rfl
    | (dsimp only
       split
       · rfl
       · split
         · rfl
         · rfl)
section
variable {W : Type}
def set2S (C : Cfg W) (pl : Pl) (m : Nat) (sc : Scope) (x : Str) (j : Expr) (y : Str) (k e : Expr) (ρ : Rho) (w : W) : SRes W := match rdSlot C.N sc x, rdSlot C.N sc y with
  | some i, some l => guardS (isItsK (ownK (ownAt C.own i)) && isItsK (ownK (ownAt C.own l)))
      (onE ρ (evS C pl m sc e ρ w) fun d w => onE ρ (lift (intP d) w) fun p w => onE ρ (sl ρ i w) fun u w => onE ρ (evS C pl m sc j ρ w) fun jj w => onE ρ (lift (setD u jj (.int p.1)) w) fun u' w =>
        onE (ρ.set i (some u')) (sl (ρ.set i (some u')) l w) fun v w => onE (ρ.set i (some u')) (evS C pl m sc k (ρ.set i (some u')) w) fun kk w => onE (ρ.set i (some u')) (lift (setD v kk (.int p.2)) w) fun v' w => .nx ((ρ.set i (some u')).set l (some v')) w)
  | _, _ => .no
variable {Z : Wd W} {ce : Str → Option Addr} {own : List Nat} {γ : GP} {σ : L2.St} {H : Hp} {ρ : Rho} {w : W}
variable {X : Cx} {Wx : Str → L2.St → Hp → Prop} {pos : Pos} {C : Cfg W} {pl : Pl} {sc : Scope} {m : Nat}
theorem ls_set2 (h3 : Zip3Ok ce) (hp : ∀ K, PlOk ce K pl) (hpl : PlLeaf pl) (K : Sok Z ce C X sc Wx) {x y : Str} {p p2 q q2 pt : Pos} {j k e : Expr} {kt : Nat} (hj : noSl j = true) (hk : noSl k = true) (he : isTupE e = true) :
    PS X (.Assign [.Tuple [.Subscript (.Name x p) j p2, .Subscript (.Name y q) k q2] kt pt] e pos) (tS Z ce C.own Wx fun ρ w => set2S C pl m sc x j y k e ρ w) := by
  cases hw : rdSlot C.N sc x with
  | none => exact ls_none fun ρ w => by unfold set2S; rw [hw]
  | some i =>
    cases hw2 : rdSlot C.N sc y with
    | none => exact ls_none fun ρ w => by unfold set2S; rw [hw, hw2]
    | some l =>
      generalize hg : (isItsK (ownK (ownAt C.own i)) && isItsK (ownK (ownAt C.own l))) = gd
      cases gd with
      | false => exact ls_none fun ρ w => by unfold set2S; rw [hw, hw2]; dsimp only; rw [hg]; rfl
      | true =>
        have eq : (fun (ρ : Rho) (w : W) => set2S C pl m sc x j y k e ρ w) = fun ρ w => onE ρ (evS C pl m sc e ρ w) fun d w => onE ρ (lift (intP d) w) fun p w => onE ρ (sl ρ i w) fun u w => onE ρ (evS C pl m sc j ρ w) fun jj w => onE ρ (lift (setD u jj (.int p.1)) w) fun u' w =>
            onE (ρ.set i (some u')) (sl (ρ.set i (some u')) l w) fun v w => onE (ρ.set i (some u')) (evS C pl m sc k (ρ.set i (some u')) w) fun kk w => onE (ρ.set i (some u')) (lift (setD v kk (.int p.2)) w) fun v' w => .nx ((ρ.set i (some u')).set l (some v')) w := by
          funext ρ w
          unfold set2S
          rw [hw, hw2]
          dsimp only
          rw [hg]; rfl
        rw [eq]
        simp only [Bool.and_eq_true] at hg
        obtain ⟨g1, g2⟩ := hg
        obtain ⟨nd, hk1⟩ := its_of g1
        obtain ⟨nd2, hk2⟩ := its_of g2
        have E := (ev_ok h3 hp hpl m X sc Wx K.toCok).1
        have pg1 := pg_sub (pos := p2) (pe_slot (p := p) K.toCok hw) (E j) (set_list (X := X)) (fun v => by cases j <;> first | rfl | cases hj)
        have pg2 := pg_sub (pos := q2) (pe_slot (p := q) K.toCok hw2) (E k) (set_list (X := X)) (fun v => by cases k <;> first | rfl | cases hk)
        refine imS (ps_asg (E e) (pg_tup K.calm (pgs_cons pg1 (pgs_cons pg2 pgs_nil))) (by cases e <;> first | rfl | cases he) swp_sub rfl) fun Dn σ H ⟨γ, ρ, w, G, q⟩ => ?_
        refine ⟨γ, ρ, w, G, (PostS.onE q).imp (fun d w1 h1 v H1 g1' x1 wk1 rv => ?_) fun c w1 h1 => okX.ex G h1⟩
        obtain ⟨pr, epr, h1⟩ := (PostS.onE h1).lift
        have hd := intP_some epr
        subst hd
        cases rv with
        | tup et nt rt =>
          rename_i pa0 vs0
          cases rt with
          | cons ra rt =>
            cases rt with
            | cons rb rt =>
              cases rt
              cases ra
              cases rb
              obtain ⟨u, eu, h2⟩ := sl_some (PostS.onE h1)
              have G1 := G.step x1 wk1
              have s1 := SStep.of (w' := w1) G x1
              obtain ⟨v0, ev0, _⟩ := G1.slot i u eu
              refine ⟨_, _, rfl, et.sq, rfl, _, _, rfl, v0, ev0, γ.step g1', ρ, w1, G1, (PostS.onE h2).imp (fun jj w2 h3' u2 H2 g2' x2 wk2 ru => ?_) fun c w2 h3' => okX.ex G1 (okX.back h3' s1)⟩
              obtain ⟨u', eu', h4⟩ := (PostS.onE h3').lift
              obtain ⟨ds, n, jx, rfl, rfl, hix, rfl⟩ := setD_some eu'
              cases ru
              have G2 := G1.step x2 wk2
              obtain ⟨pa, vs, e1, e2, n1, e4, r1⟩ := G2.itsL hk1 eu
              rw [ev0] at e1
              cases e1
              refine ⟨pa, vs, n, jx, rfl, rfl, e2, by rw [r1.length]; exact hix, ?_⟩
              obtain ⟨G3, s3⟩ := G2.updT hk1 e4 ev0 e2 (us := vs.set jx (.int pr.1)) (es := ds.set jx (.int pr.1)) (by rw [List.length_set]; exact n1) (Reps.set (.int _) jx r1)
              have s13 := s1.trans ((SStep.of (w' := w2) G1 x2).trans s3)
              obtain ⟨vv, evv, h5⟩ := sl_some (PostS.onE h4)
              obtain ⟨v1, ev1, _⟩ := G3.slot l vv evv
              refine ⟨_, _, rfl, v1, ev1, _, _, w2, G3, (PostS.onE h5).imp (fun kk w3 h6 u3 H3 g3' x3 wk3 ru3 => ?_) fun c w3 h6 => okX.ex G3 (okX.back h6 s13)⟩
              obtain ⟨v', ev', h7⟩ := (PostS.onE h6).lift
              obtain ⟨ds2, n2, kx, rfl, rfl, hix2, rfl⟩ := setD_some ev'
              cases ru3
              have G4 := G3.step x3 wk3
              obtain ⟨pb, vs2, f1, f2, m1, f4, r2⟩ := G4.itsL hk2 evv
              rw [ev1] at f1
              cases f1
              refine ⟨pb, vs2, n2, kx, rfl, rfl, f2, by rw [r2.length]; exact hix2, ?_⟩
              obtain ⟨G5, s5⟩ := G4.updT hk2 f4 ev1 f2 (us := vs2.set kx (.int pr.2)) (es := ds2.set kx (.int pr.2)) (by rw [List.length_set]; exact m1) (Reps.set (.int _) kx r2)
              exact ⟨rfl, h7 _ _ _ G5 (s13.trans ((SStep.of (w' := w3) G3 x3).trans s5))⟩
end
end T
namespace T
open PySem PySem.Spec PyProof.Rows L2
section
variable {W : Type}
variable (C : Cfg W) (pl : Pl) (m : Nat) (sc : Scope)
/-- name[j] = e, the name a handle -/
def setH (x : Str) (j e : Expr) (ρ : Rho) (w : W) : SRes W := match rdSlot C.N sc x with
  | some i => onE ρ (evS C pl m sc e ρ w) fun d w => guardS (flatD 0 d) <| onE ρ (sl ρ i w) fun l w => onE ρ (evS C pl m sc j ρ w) fun k w => (match hdlOf l with
    | some h => (match C.hl w h with
      | some ds => (match setD (.list ds) k d with
        | some (.list ds') => .nx ρ (C.hp w h ds')
        | _ => .no)
      | none => .no)
    | none => .no)
  | none => .no
/-- name[k, ..] = e for a dict -/
def dputS (x : Str) (j e : Expr) (ρ : Rho) (w : W) : SRes W := match rdSlot C.N sc x with
  | some i => onE ρ (evS C pl m sc e ρ w) fun d w => guardS (flatD 0 d) <| onE ρ (sl ρ i w) fun l w => onE ρ (evS C pl m sc j ρ w) fun k w => (match hdlOf l with
    | some h => (match keyOf k with
      | some key => (match C.dx.dc w h with
        | some kds => guardS (lenOk (kds.length + 1)) (.nx ρ (C.dx.dw w h (putKD kds key d)))
        | none => .no)
      | none => .no)
    | none => .no)
  | none => .no
def isSh (x : Str) : Bool := match rdSlot C.N sc x with
  | some i => (match ownK (ownAt C.own i) with
    | .sh => true
    | _ => false)
  | none => false
def mvTo : OwnK → OwnK → Bool
  | .sh, .its _ => true
  | .nw n, .its nd => decide (n ≤ nd + 1)
  | _, _ => false
/-- name = an own name: its list is handed over -/
def movS (x y : Str) (ρ : Rho) (w : W) : SRes W := match wrSlot C.N sc x, rdSlot C.N sc y with
  | some i, some j => guardS (decide (i ≠ j) && mvTo (ownK (ownAt C.own i)) (ownK (ownAt C.own j))) (onE ρ (sl ρ j w) fun d w => guardS (isListD d) (.nx ((ρ.set i (some d)).set j none) w))
  | _, _ => .no
def isMv (x y : Str) : Bool := match wrSlot C.N sc x, rdSlot C.N sc y with
  | some i, some j => mvTo (ownK (ownAt C.own i)) (ownK (ownAt C.own j))
  | _, _ => false
def isRw (x : Str) : Bool := match wrSlot C.N sc x with
  | some i => isRowsK (ownK (ownAt C.own i))
  | none => false
def asgM (x : Str) (e : Expr) (ρ : Rho) (w : W) : SRes W := match e with
  | .Name y _ => (match isMv C sc x y with
    | true => movS C sc x y ρ w
    | false => asgS C pl m sc x e ρ w)
  | .ListComp _ _ _ _ => (match isRw C sc x with
    | true => asgW C pl m sc x e ρ w
    | false => asgS C pl m sc x e ρ w)
  | _ => asgS C pl m sc x e ρ w
def isOwnN (e : Expr) : Bool := match e with
  | .Name y _ => (match rdSlot C.N sc y with
    | some j => isItsK (ownK (ownAt C.own j))
    | none => false)
  | _ => false
/-- an assignment to one target -/
def asgN (tg e : Expr) (ρ : Rho) (w : W) : SRes W := match tg with
  | .Name x _ => asgM C pl m sc x e ρ w
  | .Subscript (.Name x _) j _ => guardS (noSl j) (match isTupE j with
    | true => dputS C pl m sc x j e ρ w
    | false => (match isSh C sc x with
      | true => setH C pl m sc x j e ρ w
      | false => setS C pl m sc x j e ρ w))
  | .Attribute (.Name x _) fl _ => fldS C pl m sc x fl e ρ w
  | .Tuple [.Name x _, .Name y _] _ _ => (match e with
    | .Tuple [a, b] _ _ => parS C pl m sc [x, y] [a, b] ρ w
    | _ => (match isOwnN C sc e with
      | true => unlS C pl m sc x y e ρ w
      | false => unpS C pl m sc tg e ρ w))
  | .Tuple [.Name x _, .Name y _, .Name z _] _ _ => (match e with
    | .Tuple [a, b, c] _ _ => parS C pl m sc [x, y, z] [a, b, c] ρ w
    | _ => unpS C pl m sc tg e ρ w)
  | .Tuple [.Subscript (.Name x _) j _, .Subscript (.Name y _) k _] _ _ => (match noSl j && noSl k && isTupE e with
    | true => set2S C pl m sc x j y k e ρ w
    | false => .no)
  | _ => .no
def exprN (e : Expr) (ρ : Rho) (w : W) : SRes W := match e with
  | .Call (.Attribute (.Name x _) a ap) [b] [] cp => (match decide (a = "append") && (ap.endLine == cp.line) with
      | true => appS C pl m sc x b ρ w
      | false => (match decide (a = "remove") && (ap.endLine == cp.line) with
        | true => remS C pl m sc x b ρ w
        | false => .no))
  | .Call (.Attribute o a ap) [b] [] cp => (match decide (a = "append") && (ap.endLine == cp.line) with
      | true => (match isAtE o with
        | true => appH C pl m sc o b ρ w
        | false => appNw C pl m sc o b ρ w)
      | false => guardS (noComp (.Call (.Attribute o a ap) [b] [] cp)) (onE ρ (evS C pl m sc (.Call (.Attribute o a ap) [b] [] cp) ρ w) fun _ w => .nx ρ w))
  | .Call (.Name f p) [.Name x p2, e1, e2] [] cp => (match isGlo sc f, lookD C.io.mu f with
      | true, some g => callM C pl m sc g x e1 e2 ρ w
      | _, _ => guardS (noComp (.Call (.Name f p) [.Name x p2, e1, e2] [] cp)) (onE ρ (evS C pl m sc (.Call (.Name f p) [.Name x p2, e1, e2] [] cp) ρ w) fun _ w => .nx ρ w))
  | e => guardS (noComp e) (onE ρ (evS C pl m sc e ρ w) fun _ w => .nx ρ w)
def raiseN (e : Expr) (ρ : Rho) (w : W) : SRes W := match e with
  | .Call (.Name c _) [.Constant (.str _) _ _] [] _ => guardS (isGlo sc c && C.errs.contains c) (.ex c ρ w)
  | _ => .no
/-- a caught error comes to a name -/
def tryN (i j : Nat) : SRes W → SRes W
  | .ex c ρ w => .nx (((ρ.set i (some (exc c))).set j (some (exc c))).set i none) w
  | r => r
def isLoc (n : Str) : Bool := match sc.names.lookup n with
  | some .local => true
  | _ => false
def tryS (g : Stmt → Rho → W → SRes W) (x n n2 mm : Str) (body : List Stmt) (ρ : Rho) (w : W) : SRes W := match wrSlot C.N sc n, wrSlot C.N sc mm with
  | some i, some j => guardS (decide (x = "JudgeError") && C.errs.contains x && isGlo sc x && decide (n2 = n) && isLoc sc n && decide (ownAt C.own i = 0) && decide (ownAt C.own j = 0)) (tryN i j (exB g body ρ w))
  | _, _ => .no
/-- a def that gives its argument back -/
def chkE (e : Expr) : Option ((List D → W → Res W D) × Expr) := match e with
  | .Call (.Name x _) [a] [] _ => (match C.ch x with
    | some g => (match isGlo sc x && notStar a with
      | true => some (g, a)
      | false => none)
    | none => none)
  | _ => none
def retN (e : Expr) (ρ : Rho) (w : W) : SRes W := match chkE C sc e with
  | some q => onE ρ ((evS C pl m sc q.2 ρ w).bind fun d w => (q.1 [d] w).bind fun _ w => .ok d w) fun d w => guardS (flatD (newK C.N C.own true m sc q.2) d) (.rt d w)
  | none => onE ρ (evS C pl m sc e ρ w) fun d w => guardS (flatD (newK C.N C.own true m sc e) d) (.rt d w)
def exN (g : Stmt → Rho → W → SRes W) (st : Stmt) (ρ : Rho) (w : W) : SRes W := match st with
    | .Pass _ => .nx ρ w
    | .Return none _ => .rt .none w
    | .Return (some e) _ => retN C pl m sc e ρ w
    | .If c a b _ => onE ρ (tsS C pl m sc c ρ w) fun t w => (match t with
      | true => exB g a ρ w
      | false => exB g b ρ w)
    | .Assign [tg] e _ => asgN C pl m sc tg e ρ w
    | .AugAssign (.Name x _) op e _ => augS C pl m sc x op e ρ w
    | .AugAssign (.Subscript (.Name x p) j _) op e _ => guardS (noSl j) (match isSh C sc x with
      | true => augH C pl m sc (.Name x p) j op e ρ w
      | false => augIx C pl m sc x j op e ρ w)
    | .AugAssign (.Subscript (.Subscript (.Name x p) i p4) j _) op e _ => guardS (noSl i && noSl j) (match isSh C sc x with
      | true => augH C pl m sc (.Subscript (.Name x p) i p4) j op e ρ w
      | false => augIx2 C pl m sc x i j op e ρ w)
    | .Expr e _ => exprN C pl m sc e ρ w
    | .Raise (some e) none _ => raiseN C sc e ρ w
    | .While c body [] _ => whileR (tsS C pl m sc c) (exB g body) C.wf ρ w
    | .For tg it body [] _ =>
        guardS (notSet it && (itPl sc tg it).1.all notStar && (itPl sc tg it).1.all (fun e => decide (expo C.N C.own m sc e = 0)) && (asgSlots C.N sc tg).all (fun i => decide (ownAt C.own i = 0)))
          (onE ρ (trav (fun e w => evS C pl m sc e ρ w) (itPl sc tg it).1 w) fun ds w => onE ρ (lift ((itPl sc tg it).2 ds) w) fun items w =>
            forR (fun d ρ w => asgK .no C.N sc tg d ρ fun ρ => exB g body ρ w) items ρ w)
    | .Try body [.ExceptHandler (some (.Name x _)) (some n) [.Assign [.Name mm _] (.Name n2 _) _] _] [] [] _ => tryS C sc g x n n2 mm body ρ w
    | _ => .no
def exS : Nat → Stmt → Rho → W → SRes W
  | 0, _, _, _ => .no
  | n + 1, st, ρ, w => exN C pl m sc (exS n) st ρ w
end
section
variable {W : Type} {Z : Wd W} {ce : Str → Option Addr} {own : List Nat} {γ : GP} {σ : L2.St} {H : Hp} {ρ : Rho} {w : W} {X : Cx} {Wx : Str → L2.St → Hp → Prop} {pos : Pos} {C : Cfg W} {pl : Pl} {sc : Scope} {m : Nat}
theorem Good.put (G : Good Z ce C.own γ σ H ρ w) (K : Hlo Z ce C.hl C.hp) {k : Nat} {ds ds' : List D} {a : Addr} {vs' : List V} (e : C.hl w k = some ds) (ea : γ.g.hs[k]? = some a) (hl : vs'.length ≤ sizeLine) (r : Reps ce γ.g.hs H (fun _ _ => False) vs' ds') :
    CStep γ.g H γ.g (upd H a (.lst vs')) ∧ WOk Z γ.g (upd H a (.lst vs')) (C.hp w k ds') := by
  obtain ⟨a', vs, e1, e2, e3, e4, e5⟩ := K.get G.wok.rel e
  rw [ea] at e1
  cases e1
  refine ⟨⟨fun b o hb eb => by rw [upd_ne (show b ≠ a from fun z => hb (z ▸ e2))]; exact eb, fun _ h => h, fun _ h => .inl h, fun _ _ h => h⟩, K.put G.wok.rel e ea hl r, fun b hb => ?_, fun b hb o eb => ?_⟩
  · by_cases z : b = a
    · rw [z, upd_same]; exact fun q => nomatch q
    · rw [upd_ne z]; exact G.wok.dom b hb
  · by_cases z : b = a
    · rw [z, upd_same] at eb; cases eb; exact fun t => t
    · rw [upd_ne z] at eb; exact G.wok.mu b hb o eb
theorem ls_setH (h3 : Zip3Ok ce) (hp : ∀ K, PlOk ce K pl) (hpl : PlLeaf pl) (K : Sok Z ce C X sc Wx) {x : Str} {p p2 : Pos} {j e : Expr} (hj : noSl j = true) : PS X (.Assign [.Subscript (.Name x p) j p2] e pos) (tS Z ce C.own Wx fun ρ w => setH C pl m sc x j e ρ w) := by
  cases hw : rdSlot C.N sc x with
  | none => exact ls_none fun ρ w => by unfold setH; rw [hw]
  | some i =>
    have E := (ev_ok h3 hp hpl m X sc Wx K.toCok).1
    refine imS (ps_asg (E e) (pg_sub (pe_slot K.toCok hw) (E j) set_list (fun v => by cases j <;> first | rfl | cases hj)) (by cases e <;> rfl) (by cases e <;> rfl) rfl) fun Dn σ H ⟨γ, ρ, w, G, q⟩ => ?_
    dsimp only at q
    unfold setH at q
    rw [hw] at q
    dsimp only at q
    refine ⟨γ, ρ, w, G, (PostS.onE q).imp (fun d w1 h1 v H1 g1 x1 wk1 rv => ?_) fun c w1 h1 => okX.ex G h1⟩
    obtain ⟨hf, h1⟩ := h1.guard
    obtain ⟨l, el, h2⟩ := sl_some (PostS.onE h1)
    have G1 := G.step x1 wk1
    have s1 := SStep.of (w' := w1) G x1
    obtain ⟨v0, ev0, rv0⟩ := G1.rd el
    refine ⟨v0, ev0, γ.step g1, ρ, w1, G1, (PostS.onE h2).imp (fun k w2 h3' u H2 g2 x2 wk2 ru => ?_) fun c w2 h3' => okX.ex G1 (okX.back h3' s1)⟩
    have G2 := G1.step x2 wk2
    have s2 := SStep.of (w' := w2) G1 x2
    split at h3'
    · rename_i kk hk
      split at h3'
      · rename_i ds hds
        split at h3'
        · rename_i ds' hset
          obtain ⟨ds0, n, jj, z1, rfl, hix, z2⟩ := setD_some hset
          cases z1
          cases z2
          cases ru
          obtain ⟨a, rfl, ea⟩ := hdlOf_rep rv0 hk
          have ea2 : g2.hs[kk]? = some a := x2.hs kk a ea
          obtain ⟨a', vs, e1, e2, e3, e4, e5⟩ := K.hh.get wk2.rel hds
          rw [ea2] at e1
          cases e1
          refine ⟨a, vs, n, jj, rfl, rfl, e3, by rw [e5.length]; exact hix, ?_⟩
          have rv2 : Rep ce g2.hs H2 (fun _ _ => False) v d := Rep.flat 0 (fun i j b hj => absurd hj (Nat.not_lt_zero _)) (rv.stepO wk1 x2) hf
          obtain ⟨y1, y2⟩ := Good.put (C := C) G2 K.hh hds ea2 (vs' := vs.set jj v) (ds' := ds.set jj d) (by rw [List.length_set]; exact e4) (Reps.set rv2 _ e5)
          exact h3' _ _ _ (G2.step y1 y2) ((s1.trans s2).trans (SStep.of (w' := C.hp w2 kk (ds.set jj d)) G2 y1))
        · exact h3'.elim
      · exact h3'.elim
    · exact h3'.elim
theorem Good.putD (G : Good Z ce C.own γ σ H ρ w) (K : Hdo Z ce C.dx) {k : Nat} {kds kds' : List (List Int × D)} {a : Addr} {kvs' : List (List Key × V)} (e : C.dx.dc w k = some kds) (ea : γ.g.hs[k]? = some a) (r : DKV ce γ.g.hs H kvs' kds') :
    CStep γ.g H γ.g (upd H a (.dT kvs')) ∧ WOk Z γ.g (upd H a (.dT kvs')) (C.dx.dw w k kds') := by
  obtain ⟨a', vs, e1, e2, e3, e5⟩ := K.get G.wok.rel e
  rw [ea] at e1
  cases e1
  refine ⟨⟨fun b o hb eb => by rw [upd_ne (show b ≠ a from fun z => hb (z ▸ e2))]; exact eb, fun _ h => h, fun _ h => .inl h, fun _ _ h => h⟩, K.put G.wok.rel e ea r, fun b hb => ?_, fun b hb o eb => ?_⟩
  · by_cases z : b = a
    · rw [z, upd_same]; exact fun q => nomatch q
    · rw [upd_ne z]; exact G.wok.dom b hb
  · by_cases z : b = a
    · rw [z, upd_same] at eb; cases eb; exact fun t => t
    · rw [upd_ne z] at eb; exact G.wok.mu b hb o eb
theorem ls_dput (h3 : Zip3Ok ce) (hp : ∀ K, PlOk ce K pl) (hpl : PlLeaf pl) (K : Sok Z ce C X sc Wx) {x : Str} {p p2 : Pos} {j e : Expr} (hj : isTupE j = true) : PS X (.Assign [.Subscript (.Name x p) j p2] e pos) (tS Z ce C.own Wx fun ρ w => dputS C pl m sc x j e ρ w) := by
  cases hw : rdSlot C.N sc x with
  | none => exact ls_none fun ρ w => by unfold dputS; rw [hw]
  | some i =>
    have E := (ev_ok h3 hp hpl m X sc Wx K.toCok).1
    refine imS (ps_dput (by have := K.un; omega) (pe_slot K.toCok hw) (E j) (E e) (by cases e <;> rfl)) fun Dn σ H ⟨γ, ρ, w, G, q⟩ => ?_
    dsimp only at q
    unfold dputS at q
    rw [hw] at q
    dsimp only at q
    refine ⟨γ, ρ, w, G, (PostS.onE q).imp (fun d w1 h1 v H1 g1 x1 wk1 rv => ?_) fun c w1 h1 => okX.ex G h1⟩
    obtain ⟨hf, h1⟩ := h1.guard
    obtain ⟨l, el, h2⟩ := sl_some (PostS.onE h1)
    have G1 := G.step x1 wk1
    have s1 := SStep.of (w' := w1) G x1
    obtain ⟨v0, ev0, rv0⟩ := G1.rd el
    refine ⟨v0, ev0, γ.step g1, ρ, w1, G1, (PostS.onE h2).imp (fun k w2 h3' u H2 g2 x2 wk2 ru => ?_) fun c w2 h3' => okX.ex G1 (okX.back h3' s1)⟩
    have G2 := G1.step x2 wk2
    have s2 := SStep.of (w' := w2) G1 x2
    split at h3'
    · rename_i kk hk
      split at h3'
      · rename_i key hkey
        split at h3'
        · rename_i kds hds
          obtain ⟨hlen, h3'⟩ := h3'.guard
          obtain ⟨a, rfl, ea⟩ := hdlOf_rep rv0 hk
          have ea2 : g2.hs[kk]? = some a := x2.hs kk a ea
          obtain ⟨a', kvs, e1, e2, e3, e5⟩ := K.hd.get wk2.rel hds
          rw [ea2] at e1
          cases e1
          obtain ⟨b, rfl, eb⟩ := key_rep ru hkey
          have hl : kvs.length < sizeLine := by have := line_le hlen; rw [e5.length]; omega
          refine ⟨a, _, rfl, DPut.t e3 eb hl, ?_⟩
          have rv2 : Rep ce g2.hs H2 (fun _ _ => False) v d := Rep.flat 0 (fun i j b hj => absurd hj (Nat.not_lt_zero _)) (rv.stepO wk1 x2) hf
          obtain ⟨y1, y2⟩ := Good.putD (C := C) G2 K.hd hds ea2 (e5.put key rv2)
          exact h3' _ _ _ (G2.step y1 y2) ((s1.trans s2).trans (SStep.of (w' := C.dx.dw w2 kk (putKD kds key d)) G2 y1))
        · exact h3'.elim
      · exact h3'.elim
    · exact h3'.elim
theorem Good.mov (G : Good Z ce own γ σ H ρ w) {i j nd : Nat} (hij : i ≠ j) (hi : mvTo (ownK (ownAt own i)) (.its nd) = true) (hj : ownK (ownAt own j) = .its nd) {ds : List D} (e : ρ[j]? = some (some (.list ds))) :
    ∃ v γ', σ[j]? = some (some v) ∧ Good Z ce own γ' (σ.set i (some v)) H ((ρ.set i (some (.list ds))).set j none) w ∧ SStep γ H γ' H := by
  obtain ⟨p, vs, e1, e2, n1, e4, r1⟩ := G.itsL hj e
  have hp : p ∈ γ.Tp j := by rw [e4]; exact List.mem_cons_self
  obtain ⟨pL, pV, p0⟩ := G.tp j p hp
  let L' := γ.L.filter fun a => decide (a ≠ p)
  have inL : ∀ {a : Addr}, a ∈ L' ↔ a ∈ γ.L ∧ a ≠ p := by intro a; simp [L']
  refine ⟨.ref p, { γ with L := L', Tp := fun k => if k = j then [] else γ.Tp k }, e1, ⟨G.wok, G.st0, G.omV, fun a h => inL.mpr ⟨G.vL a h, fun z => pV (z ▸ h)⟩, fun a h => G.dom a (inL.mp h).1, fun k a h => ?_, fun k k' a h h' => ?_, by simp [G.len], fun k d h => ?_⟩, ⟨rfl, rfl, fun _ _ _ e => e, fun _ _ _ e => e, fun a h => .inl (inL.mp h).1, fun _ h => h, fun _ _ e => e⟩⟩
  · dsimp only at h
    split at h
    · cases h
    · rename_i hk
      obtain ⟨h1, h2, h3⟩ := G.tp k a h
      exact ⟨inL.mpr ⟨h1, fun z => hk (G.dis k j a h (z ▸ hp))⟩, h2, h3⟩
  · dsimp only at h h'
    split at h
    · cases h
    · split at h'
      · cases h'
      · exact G.dis k k' a h h'
  · by_cases hkj : j = k
    · subst hkj
      exfalso
      by_cases hl : j < (ρ.set i (some (.list ds))).length
      · rw [List.getElem?_set_self hl] at h; cases h
      · rw [List.getElem?_eq_none (by rw [List.length_set]; omega)] at h; cases h
    · rw [List.getElem?_set_ne hkj] at h
      dsimp only
      rw [if_neg (fun z => hkj z.symm)]
      by_cases hki : i = k
      · subst hki
        by_cases hl : i < ρ.length
        · rw [List.getElem?_set_self hl] at h
          cases h
          refine ⟨.ref p, List.getElem?_set_self (by rw [← G.len]; exact hl), ?_⟩
          cases hk : ownK (ownAt own i) with
          | sh => exact .lst e2 n1 (fun z => (inL.mp z).2 rfl) (r1.mono fun q b z => ⟨fun y => z.1 (inL.mp y).1, fun y => z.1 (y ▸ pL)⟩)
          | nw n =>
            rw [hk] at hi
            have hi : n ≤ nd + 1 := of_decide_eq_true hi
            exact .lst e2 n1 ⟨fun z => (inL.mp z).2 rfl, fun _ => p0⟩ (r1.mono fun q b z => ⟨⟨fun y => z.1 (inL.mp y).1, fun y => z.2 (by omega)⟩, fun y => z.1 (y ▸ pL)⟩)
          | rows => rw [hk] at hi; cases hi
          | its k => rw [hk] at hi; cases hi
        · rw [List.getElem?_eq_none (by rw [List.length_set]; omega)] at h; cases h
      · rw [List.getElem?_set_ne hki] at h
        obtain ⟨v, ev, sv⟩ := G.slot k d h
        refine ⟨v, by rw [List.getElem?_set_ne hki]; exact ev, sv.go (fun b o eb nb => ⟨eb, fun y => nb (inL.mp y).1⟩) (fun _ _ _ e => e) (fun _ _ _ e => e) fun _ _ e => e⟩
theorem ls_mov (K : Sok Z ce C X sc Wx) {x y : Str} {p p2 : Pos} : PS X (.Assign [.Name x p] (.Name y p2) pos) (tS Z ce C.own Wx fun ρ w => movS C sc x y ρ w) := by
  cases hw : wrSlot C.N sc x with
  | none => exact ls_none fun ρ w => by unfold movS; rw [hw]
  | some i =>
    cases hr : rdSlot C.N sc y with
    | none => exact ls_none fun ρ w => by unfold movS; rw [hw, hr]
    | some j =>
      generalize hg : (decide (i ≠ j) && mvTo (ownK (ownAt C.own i)) (ownK (ownAt C.own j))) = gd
      cases gd with
      | false => exact ls_none fun ρ w => by unfold movS; rw [hw, hr]; dsimp only; rw [hg]; rfl
      | true =>
        have eq : (fun (ρ : Rho) (w : W) => movS C sc x y ρ w) = fun ρ w => onE ρ (sl ρ j w) fun d w => guardS (isListD d) (.nx ((ρ.set i (some d)).set j none) w) := by
          funext ρ w
          unfold movS
          rw [hw, hr]
          dsimp only
          rw [hg]; rfl
        rw [eq]
        simp only [Bool.and_eq_true, decide_eq_true_eq] at hg
        obtain ⟨g1, g2⟩ := hg
        obtain ⟨nd, hk⟩ : ∃ nd, ownK (ownAt C.own j) = .its nd := by
          cases hk : ownK (ownAt C.own j) with
          | its nd => exact ⟨nd, rfl⟩
          | _ => rw [hk] at g2; cases hi : ownK (ownAt C.own i) <;> rw [hi] at g2 <;> cases g2
        rw [hk] at g2
        have hN : X.N.Nodup := by rw [K.nm]; exact K.nd
        have hi : X.N[i]? = some x := by rw [K.nm]; exact (wrSlot_ok hw).1
        refine imS (ps_set hN hi (wr_def K hw).1 (pe_slot K.toCok hr) rfl (wr_def K hw).2) fun Dn σ H ⟨γ, ρ, w, G, q⟩ => ?_
        obtain ⟨d, el, q1⟩ := sl_some (PostS.onE q)
        obtain ⟨hil, q1⟩ := q1.guard
        cases d with
        | list ds =>
          obtain ⟨v, γ', e1, G', s'⟩ := G.mov g1 g2 hk el
          exact ⟨v, e1, q1 _ _ _ G' s'⟩
        | _ => cases hil
theorem asgM_ok (h3 : Zip3Ok ce) (hp : ∀ K, PlOk ce K pl) (hpl : PlLeaf pl) (K : Sok Z ce C X sc Wx) {x : Str} {p : Pos} (e : Expr) : PS X (.Assign [.Name x p] e pos) (tS Z ce C.own Wx fun ρ w => asgM C pl m sc x e ρ w) := by
  unfold asgM
  split
  · rename_i y p2
    cases hm : isMv C sc x y with
    | true => exact ls_mov K
    | false => exact ls_asg h3 hp hpl K
  · cases hm : isRw C sc x with
    | true => exact ls_asgW h3 hp hpl K
    | false => exact ls_asg h3 hp hpl K
  · exact ls_asg h3 hp hpl K
theorem asgN_ok (h3 : Zip3Ok ce) (hp : ∀ K, PlOk ce K pl) (hpl : PlLeaf pl) (K : Sok Z ce C X sc Wx) (tg e : Expr) : PS X (.Assign [tg] e pos) (tS Z ce C.own Wx fun ρ w => asgN C pl m sc tg e ρ w) := by
  unfold asgN
  split
  · exact asgM_ok h3 hp hpl K _
  · rename_i x p j p2
    cases hj : noSl j with
    | false => exact ls_none fun _ _ => rfl
    | true =>
      cases htj : isTupE j with
      | true => exact ls_dput h3 hp hpl K htj
      | false =>
        cases hsh : isSh C sc x with
        | true => exact ls_setH h3 hp hpl K hj
        | false => exact ls_set h3 hp hpl K hj
  · exact ls_fld h3 hp hpl K
  · split
    · exact ls_par2 h3 hp hpl K
    · cases ho : isOwnN C sc e with
      | true => exact ls_unl h3 hp hpl K
      | false => exact ls_unp h3 hp hpl K
  · split
    · exact ls_par3 h3 hp hpl K
    · exact ls_unp h3 hp hpl K
  · rename_i x p j p2 y q k q2 kt pt
    cases hg : noSl j && noSl k && isTupE e with
    | false => exact ls_none fun _ _ => rfl
    | true =>
      simp only [Bool.and_eq_true] at hg
      exact ls_set2 h3 hp hpl K hg.1.1 hg.1.2 hg.2
  · exact ls_none fun _ _ => rfl
theorem exprN_ok (h3 : Zip3Ok ce) (hp : ∀ K, PlOk ce K pl) (hpl : PlLeaf pl) (K : Sok Z ce C X sc Wx) (e : Expr) : PS X (.Expr e pos) (tS Z ce C.own Wx fun ρ w => exprN C pl m sc e ρ w) := by
  unfold exprN
  split
  · rename_i x p a ap b cp
    cases hj : (decide (a = "append") && (ap.endLine == cp.line)) with
    | false =>
      cases hr : (decide (a = "remove") && (ap.endLine == cp.line)) with
      | false => exact ls_none fun _ _ => rfl
      | true =>
        obtain ⟨h1, h2⟩ := Bool.and_eq_true_iff.mp hr
        have h1 := of_decide_eq_true h1
        subst h1
        exact ls_rem h3 hp hpl K h2
    | true =>
      obtain ⟨h1, h2⟩ := Bool.and_eq_true_iff.mp hj
      have h1 := of_decide_eq_true h1
      subst h1
      exact ls_app h3 hp hpl K h2
  · rename_i o a ap b cp _
    cases hj : (decide (a = "append") && (ap.endLine == cp.line)) with
    | false => exact ls_expr ((ev_ok h3 hp hpl m X sc Wx K.toCok).1 _)
    | true =>
      obtain ⟨h1, h2⟩ := Bool.and_eq_true_iff.mp hj
      have h1 := of_decide_eq_true h1
      subst h1
      cases isAtE o with
      | true => exact ls_appH h3 hp hpl K h2
      | false => exact ls_appNw h3 hp hpl K h2
  · rename_i f p x p2 e1 e2 cp
    cases hf : isGlo sc f with
    | false => exact ls_expr ((ev_ok h3 hp hpl m X sc Wx K.toCok).1 _)
    | true =>
      cases hg : lookD C.io.mu f with
      | none => exact ls_expr ((ev_ok h3 hp hpl m X sc Wx K.toCok).1 _)
      | some g => exact ls_callM h3 hp hpl K hf hg
  · exact ls_expr ((ev_ok h3 hp hpl m X sc Wx K.toCok).1 e)
theorem raiseN_ok (K : Sok Z ce C X sc Wx) (e : Expr) : PS X (.Raise (some e) none pos) (tS Z ce C.own Wx fun ρ w => raiseN C sc e ρ w) := by
  unfold raiseN
  split
  · exact ls_raise K
  · exact ls_none fun _ _ => rfl
theorem Good.clr (G : Good Z ce own γ σ H ρ w) (i : Nat) : Good Z ce own γ (σ.set i none) H (ρ.set i none) w :=
  ⟨G.wok, G.st0, G.omV, G.vL, G.dom, G.tp, G.dis, by rw [List.length_set, List.length_set]; exact G.len, fun j d h => by
    by_cases hj : i = j
    · subst hj
      by_cases hl : i < ρ.length
      · rw [List.getElem?_set_self hl] at h; cases h
      · rw [List.getElem?_eq_none (by rw [List.length_set]; omega)] at h; cases h
    · rw [List.getElem?_set_ne hj] at h ⊢
      exact G.slot j d h⟩
theorem ls_try (K : Sok Z ce C X sc Wx) {g : Stmt → Rho → W → SRes W} (hg : ∀ X' Wx', Sok Z ce C X' sc Wx' → ∀ st, PS X' st (tS Z ce C.own Wx' fun ρ w => g st ρ w)) {x n n2 mm : Str} {body : List Stmt} {np p1 p2 p3 p4 : Pos} :
    PS X (.Try body [.ExceptHandler (some (.Name x np)) (some n) [.Assign [.Name mm p1] (.Name n2 p2) p3] p4] [] [] pos) (tS Z ce C.own Wx fun ρ w => tryS C sc g x n n2 mm body ρ w) := by
  cases hi : wrSlot C.N sc n with
  | none => exact ls_none fun ρ w => by unfold tryS; rw [hi]
  | some i =>
    cases hj : wrSlot C.N sc mm with
    | none => exact ls_none fun ρ w => by unfold tryS; rw [hi, hj]
    | some j =>
      generalize hgd : (decide (x = "JudgeError") && C.errs.contains x && isGlo sc x && decide (n2 = n) && isLoc sc n && decide (ownAt C.own i = 0) && decide (ownAt C.own j = 0)) = gd
      cases gd with
      | false => exact ls_none fun ρ w => by unfold tryS; rw [hi, hj]; dsimp only; rw [hgd]; rfl
      | true =>
        have eq : (fun (ρ : Rho) (w : W) => tryS C sc g x n n2 mm body ρ w) = fun ρ w => tryN i j (exB g body ρ w) := by
          funext ρ w
          unfold tryS
          rw [hi, hj]
          dsimp only
          rw [hgd]; rfl
        rw [eq]
        simp only [Bool.and_eq_true, decide_eq_true_eq] at hgd
        obtain ⟨⟨⟨⟨⟨⟨rfl, g0⟩, g1⟩, rfl⟩, g2⟩, g3⟩, g4⟩ := hgd
        obtain ⟨gl, okn⟩ := isGlo_ok K.sc_ g1
        have o0 : ∀ {i : Nat}, ownAt C.own i = 0 → ownK (ownAt C.own i) = .sh := fun h => by rw [h]; rfl
        have hln : X.env.kindOf n2 = some .local := by
          show X.env.scope.names.lookup n2 = some .local
          rw [K.sc_]
          unfold isLoc at g2
          split at g2
          · assumption
          · cases g2
        · obtain ⟨K0, hc0, _⟩ := K.er "JudgeError" g0
          obtain ⟨KJ, mJ, _⟩ := K.jud "JudgeError" K0 hc0
          refine imS (ps_try_keep (i := i) (j := j) (c := .ref KJ) (tb := fun W => tS Z ce C.own (fun c σ H => ∀ Kc, ce c = some Kc → W (.ref Kc) none σ H) fun ρ w => exB g body ρ w) K.stk K.frm K.exn (by rw [K.nm]; exact K.nd) (by rw [K.nm]; exact (wrSlot_ok hi).1) hln (.inl hln) (okName_d (wrSlot_ok hi).2.2).1 (okName_d (wrSlot_ok hi).2.2).2.1 (by rw [K.nm]; exact (wrSlot_ok hj).1) (wr_def K hj).1 (K.fnT mm) ⟨gl, (okName_d okn).1, .inl mJ⟩ K.tk fun W pn xe tk po => lss_ok (hg _ _ ?_) body) fun Dn σ H ⟨γ, ρ, w, G, q⟩ => ⟨γ, ρ, w, G, ?_⟩
          · exact { sc_ := K.sc_, calm := K.calm, un := K.un, un1 := K.un1, bi := K.bi, nm := K.nm, hh := K.hh, hd := K.hd, io := by { obtain ⟨cw, O⟩ := K.io; exact ⟨cw, O.hi, O.fld, O.mth, O.mkr, O.len, O.muf⟩ }, nd := K.nd, gam := K.gam, fns := K.fns, chk := K.chk, tk := tk.imp fun cls d σ H ⟨e1, c, Kc, e2, e3, hw⟩ => by subst e1; subst e3; exact hw Kc e2
                    fr := K.fr, tf := tf_of K.frm (tk.imp fun cls d σ H ⟨e1, c, Kc, e2, e3, hw⟩ => by subst e1; subst e3; exact hw Kc e2)
                    exi := K.exi, kit := K.kit, po := po, fnT := K.fnT, stk := K.stk, frm := K.frm, exn := K.exn, jud := K.jud, kd := K.kd, er := K.er }
          · have q : PostS (tryN i j (exB g body ρ w)) (okN Z ce C.own γ H Dn) (okR Z ce γ Dn) (okX Z ce C.own γ H Wx) := q
            show PostS (exB g body ρ w) _ _ _
            revert q
            generalize exB g body ρ w = R
            cases R with
            | nx ρ1 w1 => exact fun q => q
            | rt d w1 => exact fun q => q
            | no => exact fun q => q
            | ex c ρ1 w1 =>
              intro q γ1 σ1 H1 G1 s1 Kc hK
              obtain ⟨KJ', mJ', em⟩ := K.jud c Kc hK
              rw [mJ] at mJ'
              cases mJ'
              refine ⟨true, em, fun _ => ⟨Kc, rfl, rfl, fun a na => ?_⟩, fun z => nomatch z⟩
              have xx : HExt H1 (upd H1 a (.ext (excPhi Kc a))) := HExt.upd na
              have G2 := G1.step (CStep.ext xx) (G1.wok.ext xx)
              have r : ∀ {P : Pd}, Rep ce (γ1.step γ1.g).g.hs (upd H1 a (.ext (excPhi Kc a))) P (.ref a) (exc c) := .exc upd_same hK
              exact q _ _ _ (((G2.set1 (o0 g3) r).set1 (o0 g4) r).clr i) (s1.trans (SStep.of (w' := w1) G1 (CStep.ext xx)))
theorem retN_ok (K : Cok Z ce C X sc Wx) (E : ∀ e, PE X e (tE Z ce C.own (expo C.N C.own m sc e) (newK C.N C.own false m sc e) (newK C.N C.own true m sc e) Wx fun ρ w => ev C pl m sc e ρ w)) (e : Expr) : PS X (.Return (some e) pos) (tS Z ce C.own Wx fun ρ w => retN C pl m sc e ρ w) := by
  unfold retN
  cases hc : chkE C sc e with
  | none => exact ls_ret (E e)
  | some q =>
    unfold chkE at hc
    split at hc
    · rename_i x p a p2
      split at hc
      · rename_i g hg
        split at hc
        · rename_i hx
          cases hc
          obtain ⟨h1, h2⟩ := Bool.and_eq_true_iff.mp hx
          exact ls_ret (le_chk K h1 h2 hg (E a))
        · cases hc
      · cases hc
    · cases hc
theorem exN_ok (h3 : Zip3Ok ce) (hp : ∀ K, PlOk ce K pl) (hpl : PlLeaf pl) (K : Sok Z ce C X sc Wx) {g : Stmt → Rho → W → SRes W} (hg0 : ∀ X' Wx', Sok Z ce C X' sc Wx' → ∀ st, PS X' st (tS Z ce C.own Wx' fun ρ w => g st ρ w)) (st : Stmt) :
    PS X st (tS Z ce C.own Wx fun ρ w => exN C pl m sc g st ρ w) := by
  have E := (ev_ok h3 hp hpl m X sc Wx K.toCok)
  have hg := hg0 X Wx K
  unfold exN
  split
  · exact ls_pass
  · exact ls_retN
  · exact retN_ok K.toCok E.1 _
  · exact ls_if (tst_ok (C := C) E.1 E.2 m _).1 (lss_ok hg _) (lss_ok hg _)
  · exact asgN_ok h3 hp hpl K _ _
  · exact ls_aug h3 hp hpl K
  · rename_i x p j p2 op e p3
    cases hj : noSl j with
    | false => exact ls_none fun _ _ => rfl
    | true =>
      cases isSh C sc x with
      | true => exact ls_augH h3 hp hpl K hj
      | false => exact ls_augIx h3 hp hpl K hj
  · rename_i x p i p4 j p2 op e p3
    cases hij : noSl i && noSl j with
    | false => exact ls_none fun _ _ => rfl
    | true =>
      obtain ⟨hi, hj⟩ := Bool.and_eq_true_iff.mp hij
      cases isSh C sc x with
      | true => exact ls_augH h3 hp hpl K hj
      | false => exact ls_augIx2 h3 hp hpl K hi hj
  · exact exprN_ok h3 hp hpl K _
  · exact raiseN_ok K _
  · exact ls_while K (tst_ok (C := C) E.1 E.2 m _).1 (lss_ok hg _)
  · rename_i tg it body p
    have e : (fun (d : D) (ρ : Rho) (w : W) => asgK .no C.N sc tg d ρ fun ρ => exB g body ρ w) = fun d ρ w => onE ρ (lift (asgR C.N sc tg d ρ) w) fun ρ w => exB g body ρ w := by
      funext d ρ w
      exact asgK_S C.N sc tg d ρ w fun ρ w => exB g body ρ w
    rw [e]
    exact ls_for h3 K (nm_ev hpl m sc) E.1 (lss_ok hg _)
  · exact ls_try K hg0
  · exact ls_none fun _ _ => rfl
theorem exS_ok (h3 : Zip3Ok ce) (hp : ∀ K, PlOk ce K pl) (hpl : PlLeaf pl) : ∀ (n : Nat) (X : Cx) (Wx : Str → L2.St → Hp → Prop), Sok Z ce C X sc Wx → ∀ (st : Stmt), PS X st (tS Z ce C.own Wx fun ρ w => exS C pl m sc n st ρ w)
  | 0, _, _, _, st => ls_none fun _ _ => rfl
  | n + 1, X, Wx, K, st => exN_ok h3 hp hpl K (exS_ok h3 hp hpl n) st
end
end T
namespace T
open PySem PySem.Spec PyProof.Rows L2
section
variable {W : Type}
abbrev Den (W : Type) := List D → W → Res W D
def look {α : Type} : List (Str × α) → Str → Option α
  | [], _ => none
  | p :: ps, x => match decide (p.1 = x) with
    | true => some p.2
    | false => look ps x
def endR : SRes W → Res W D
  | .nx _ w => .ok .none w
  | .rt d w => .ok d w
  | .ex c _ w => .ex c w
  | .no => .no
def own0 (own : List Nat) (np : Nat) : Bool := (List.range np).all fun i => decide (ownAt own i = 0)
/-- what a def's body gives -/
def denB (C : Cfg W) (pl : Pl) (m : Nat) (sc : Scope) (n : Nat) (body : List Stmt) (np : Nat) : Den W := fun ds w =>
  guardR (decide (ds.length = np) && decide (np ≤ C.N.length) && own0 C.own np) (endR (exB (exS C pl m sc n) body (ds.map some ++ List.replicate (C.N.length - ds.length) none) w))
/-- what the top tells -/
structure Fx (ce : Str → Option Addr) (Γ : List (Str × D)) (errs : List Str) (K : PySem.W.Frag) (mg : Str → Option Value) : Prop where
  bi : ∀ x ∈ biNames, mg x = none
  gam : ∀ x d, look Γ x = some d → (∃ i t, d = .int i ∧ mg x = some (.int i t)) ∨ (∃ z t, d = .str z ∧ mg x = some (.str z t))
  er : ∀ c, errs.contains c = true → ∃ Kc, ce c = some Kc ∧ mg c = some (.ref Kc) ∧ PySem.W.excIn K Kc [.type "ValueError", .type "Exception", .type "BaseException", .type "object"] "ValueError.__new__" = true ∧ PySem.W.keepIn K (.ref Kc) = true ∧
    PySem.W.subIn K (.ref Kc) (.type "BaseException") = some true ∧ PySem.W.typeIn K (.ref Kc) = some (.type "type")
  exi : ∀ c Kc, ce c = some Kc → L2.ExcC K Kc
  kit : ∀ c Kc, ce c = some Kc → ∀ c2, errNm errs c2 = true → ∃ v u, ClsVal mg c2 v u ∧ PySem.W.kitOne K (.ref Kc) u = some (subE c c2)
  jud : ∀ c Kc, ce c = some Kc → ∃ KJ, mg "JudgeError" = some (.ref KJ) ∧ PySem.W.exmOne K (.ref Kc) (.ref KJ) = some true
variable {P : Program} {wd : World} {K : PySem.W.Frag} {mg : Str → Option Value} {base : Heap}
variable (P wd K mg base) in
def Has (Z : Wd W) (ce : Str → Option Addr) (k : Nat) (x : Str) (g : Den W) : Prop := ∃ f fd ps, FnOk P wd K mg base (L2.CX P wd) k f fd ps (spOf Z ce g) ∧ mg x = some (.ref f) ∧ PySem.W.keepIn K (.ref f) = true ∧ Binds K fd ps []
variable {Z : Wd W} {ce : Str → Option Addr} {pl : Pl} {Γ : List (Str × D)} {errs : List Str}
theorem Post.bad {α : Type} {ok : α → W → Prop} {ex : Str → W → Prop} (h : Post (.no : Res W α) ok ex) : False := h
variable (P wd K mg base) in
def HasC (Z : Wd W) (ce : Str → Option Addr) (k : Nat) (x : Str) (g : Den W) : Prop := ∃ f fd ps, FnOk P wd K mg base (L2.CX P wd) k f fd ps (spId Z ce g) ∧ mg x = some (.ref f) ∧ PySem.W.keepIn K (.ref f) = true ∧ Binds K fd ps []
theorem HasC.mono {j k : Nat} {x : Str} {g : Den W} (h : HasC P wd K mg base Z ce j x g) (hjk : j ≤ k) : HasC P wd K mg base Z ce k x g := by
  obtain ⟨f, fd, ps, F, r⟩ := h
  exact ⟨f, fd, ps, F.mono hjk, r⟩
theorem Has.mono {j k : Nat} {x : Str} {g : Den W} (h : Has P wd K mg base Z ce j x g) (hjk : j ≤ k) : Has P wd K mg base Z ce k x g := by
  obtain ⟨f, fd, ps, F, r⟩ := h
  exact ⟨f, fd, ps, F.mono hjk, r⟩
/-- what a class promises to a def -/
structure IoHas (P : Program) (wd : World) (K : PySem.W.Frag) (mg : Str → Option Value) (base : Heap) (Z : Wd W) (ce : Str → Option Addr) (k : Nat) (io : Io W) (cw : Addr) : Prop where
  hi : Hio Z ce cw io.ix
  fld : ∀ f, io.fd.contains f = true → Cls K cw ∧ NoAttr K cw f
  mth : ∀ m g, lookD io.mt m = some g → ∃ f fd ps, Cls K cw ∧ Meth K cw m f ∧ FnOk P wd K mg base (L2.CX P wd) k f fd ps (spOf Z ce g) ∧ Binds K fd ps []
  mkr : ∀ x g, lookD io.mkr x = some g → ∃ j f fd ps, j + 1 ≤ k ∧ Mk K cw f ∧ mg x = some (.ref cw) ∧ FnOk P wd K mg base (L2.CX P wd) j f fd ps (spOf Z ce g) ∧ Binds K fd ps []
  len : ∀ g, io.ln = some g → ∃ j f fd ps, j + 1 ≤ k ∧ PySem.W.findIn K (.ref cw) "__len__" = some (some (.ref f)) ∧ PySem.W.isFn K (.ref f) = true ∧ FnOk P wd K mg base (L2.CX P wd) j f fd ps (spOf Z ce g) ∧ Binds K fd ps []
  muf : ∀ x g, lookD io.mu x = some g → Has P wd K mg base Z ce k x g
theorem lookD_mem {α : Type} : ∀ {l : List (Str × α)} {x : Str} {a : α}, lookD l x = some a → (x, a) ∈ l
  | [], _, _, h => by cases h
  | p :: ps, x, a, h => by
    unfold lookD at h
    split at h
    · rename_i e
      have e := of_decide_eq_true e
      cases h
      rw [← e]
      exact List.mem_cons_self
    · exact List.mem_cons_of_mem _ (lookD_mem h)
theorem IoHas.zero {ix : Ix W} {cw : Addr} {k : Nat} (h : Hio Z ce cw ix) : IoHas P wd K mg base Z ce k ⟨ix, [], [], [], none, []⟩ cw :=
  ⟨h, (fun f h => by cases h), (fun m g h => by cases h), (fun x g h => by cases h), (fun g h => by cases h), (fun x g h => by cases h)⟩
theorem IoHas.mut {ix : Ix W} {cw : Addr} {k : Nat} {mu : List (Str × Den W)} (h : Hio Z ce cw ix) (hm : ∀ p ∈ mu, Has P wd K mg base Z ce k p.1 p.2) : IoHas P wd K mg base Z ce k ⟨ix, [], [], [], none, mu⟩ cw :=
  ⟨h, (fun f h => by cases h), (fun m g h => by cases h), (fun x g h => by cases h), (fun g h => by cases h), fun x g h => hm _ (lookD_mem h)⟩
theorem look_mem {α : Type} : ∀ {l : List (Str × α)} {x : Str} {a : α}, look l x = some a → (x, a) ∈ l
  | [], _, _, h => by cases h
  | p :: ps, x, a, h => by
    unfold look at h
    split at h
    · rename_i e
      have e := of_decide_eq_true e
      cases h
      rw [← e]
      exact List.mem_cons_self
    · exact List.mem_cons_of_mem _ (look_mem h)
theorem Reps.len {hs : List Addr} {H : Hp} {Q : Pd} {vs : List V} {ds : List D} (r : Reps ce hs H Q vs ds) : vs.length = ds.length := by
  induction vs generalizing ds with
  | nil => cases r; rfl
  | cons v vs ih =>
    cases r with
    | cons _ r => simp [ih r]
theorem Reps.at_ {hs : List Addr} {H : Hp} {Q : Pd} {vs : List V} {ds : List D} (r : Reps ce hs H Q vs ds) : ∀ {i : Nat} {d : D}, ds[i]? = some d → ∃ v, vs[i]? = some v ∧ Rep ce hs H Q v d := by
  induction vs generalizing ds with
  | nil => cases r; intro i d h; simp at h
  | cons v vs ih =>
    cases r with
    | cons a r =>
      intro i d h
      cases i with
      | zero => exact ⟨v, rfl, by simp at h; exact h ▸ a⟩
      | succ i => simpa using ih r (by simpa using h)
theorem start_good {own : List Nat} {N : List Str} {np : Nat} {g : Gh} {H : Hp} {w : W} {vs : List V} {ds : List D} (wk : WOk Z g H w) (r : Reps ce g.hs H (fun _ a => a ∉ g.Om) vs ds) (hl : ds.length = np) (h0 : own0 own np = true) :
    Good Z ce own ⟨g, g, H, g.Om, g.Om, fun _ => []⟩ (L2.start N vs) H (ds.map some ++ List.replicate (N.length - ds.length) none) w where
  wok := wk
  st0 := CStep.refl
  omV := fun _ h => h
  vL := fun _ h => h
  dom := wk.dom
  tp := fun i a h => by cases h
  dis := fun i j a h => by cases h
  len := by unfold L2.start; simp [r.len]
  slot := fun i d e => by
    by_cases hi : i < ds.length
    · rw [List.getElem?_append_left (by simpa using hi)] at e
      have e1 : ds[i]? = some d := by
        rw [List.getElem?_map] at e
        cases hd : ds[i]? with
        | none => rw [hd] at e; cases e
        | some d' => rw [hd] at e; cases e; rfl
      obtain ⟨v, ev, rv⟩ := r.at_ e1
      refine ⟨v, ?_, ?_⟩
      · unfold L2.start
        rw [List.getElem?_append_left (by rw [List.length_map, r.len]; exact hi), List.getElem?_map, ev]; rfl
      · have : ownAt own i = 0 := of_decide_eq_true (List.all_eq_true.mp h0 i (List.mem_range.mpr (hl ▸ hi)))
        rw [this]
        exact rv
    · exfalso
      rw [List.getElem?_append_right (by simpa using hi)] at e
      rw [List.getElem?_replicate] at e
      split at e <;> cases e
theorem fn_def {hl : W → Nat → Option (List D)} {hpp : W → Nat → List D → W} (hh : Hlo Z ce hl hpp) {dx : Dx W} (hd : Hdo Z ce dx) {io : Io W} (h3 : Zip3Ok ce) (hp : ∀ K, PlOk ce K pl) (hpl : PlLeaf pl) (fx : Fx ce Γ errs K mg) {k m n wf : Nat} (hio : ∃ cw, IoHas P wd K mg base Z ce k io cw) {x qual : Str} {params : Arguments} {body : List Stmt} {scope : Scope} {kws : List (Str × V)} {f : Addr} {fd : FuncData} {N ps : List Str} {own : List Nat} {T Tc : List (Str × Den W)}
    (hT : ∀ p ∈ T, Has P wd K mg base Z ce k p.1 p.2) (hTc : ∀ p ∈ Tc, HasC P wd K mg base Z ce k p.1 p.2) (F : FunD K x qual params body scope [] kws f fd) (S : FnScope N ps scope) :
    FnOk P wd K mg base (L2.CX P wd) (k + 1) f fd ps (spOf Z ce <| denB ⟨N, own, look T, look Γ, errs, wf, hl, hpp, look Tc, dx, io⟩ pl m scope n body ps.length) := by
  refine F.ok S ?_ ?_
  · rintro vs H Q E ⟨g, ds, w, wk, r, h⟩
    unfold denB guardR at h
    split at h
    · rename_i hg
      simp only [Bool.and_eq_true, decide_eq_true_eq] at hg
      rw [r.len, hg.1.1]
    · exact h.bad.elim
  · rintro cdv A outer s H vs Q E hr ⟨g, ds, w, wk, r, h⟩
    have hh0 : (ds.length = ps.length ∧ own0 own ps.length = true) ∧ Post (endR (exB (exS (⟨N, own, look T, look Γ, errs, wf, hl, hpp, look Tc, dx, io⟩ : Cfg W) pl m scope n) body (ds.map some ++ List.replicate (N.length - ds.length) none) w)) (fun d w' => ∀ v H' g', CStep g H g' H' → WOk Z g' H' w' → Rep ce g'.hs H' (fun _ a => H a = none ∧ a ∉ g'.Om) v d → Q v H')
        (fun c w' => ∀ H' g' K, CStep g H g' H' → WOk Z g' H' w' → ce c = some K → E (.ref K) none H') := by
      unfold denB guardR at h
      split at h
      · rename_i hg
        simp only [Bool.and_eq_true, decide_eq_true_eq] at hg
        exact ⟨⟨hg.1.1, hg.2⟩, h⟩
      · exact h.bad.elim
    obtain ⟨⟨hlen0, h0⟩, h⟩ := hh0
    let C : Cfg W := ⟨N, own, look T, look Γ, errs, wf, hl, hpp, look Tc, dx, io⟩
    let X := cxOf (L2.CX P wd) P wd K mg base N qual scope f cdv A outer s H E
    let Wx : Str → L2.St → Hp → Prop := fun c _ H' => ∀ Kc, ce c = some Kc → E (.ref Kc) none H'
    have KS : Sok Z ce C X scope Wx := {
      sc_ := rfl
      calm := rfl
      un := hr.units
      un1 := by have h1 := hr.un; show (A.deeper (envOfC qual scope s.heap.objs.size f cdv)).units + 65 < cLine; omega
      bi := fx.bi
      nm := rfl
      hh := hh
      hd := hd
      io := by
        obtain ⟨cw, O⟩ := hio
        refine ⟨cw, O.hi, O.fld, fun m g h => ?_, fun x g h => ?_, fun g h => ?_, fun x g h => ?_⟩
        · obtain ⟨f', fd', ps', a, b, F', c⟩ := O.mth m g h
          exact ⟨k, f', fd', ps', a, b, F', hr, c⟩
        · obtain ⟨j, f', fd', ps', hj, a, b, F', c⟩ := O.mkr x g h
          exact ⟨j, f', fd', ps', a, b, F', hr.mono hj, c⟩
        · obtain ⟨j, f', fd', ps', hj, a, b, F', c⟩ := O.len g h
          exact ⟨j, f', fd', ps', a, b, F', hr.mono hj, c⟩
        · obtain ⟨f', fd', ps', F', a, b, c⟩ := O.muf x g h
          exact ⟨k, f', fd', ps', F', hr, a, b, c⟩
      nd := S.nd
      gam := fx.gam
      fns := fun y g' hy => by
        obtain ⟨f', fd', ps', F', a, b, c⟩ := hT _ (look_mem hy)
        exact ⟨k, f', fd', ps', F', hr, a, b, c⟩
      chk := fun y g' hy => by
        obtain ⟨f', fd', ps', F', a, b, c⟩ := hTc _ (look_mem hy)
        exact ⟨k, f', fd', ps', F', hr, a, b, c⟩
      tk := (takes_of (X := X) rfl rfl rfl rfl).imp fun cls d σ H' ⟨e1, c, Kc, e2, e3, hw⟩ => by subst e1; subst e3; exact hw Kc e2
      fr := ⟨_, _, _, rfl, rfl, rfl⟩
      tf := tf_of rfl ((takes_of (X := X) rfl rfl rfl rfl).imp fun cls d σ H' ⟨e1, c, Kc, e2, e3, hw⟩ => by subst e1; subst e3; exact hw Kc e2)
      po := passes_of (X := X) rfl
      fnT := fun _ => rfl
      kd := S.kind
      er := fx.er
      exi := fx.exi
      kit := fx.kit
      stk := rfl
      frm := rfl
      exn := rfl
      jud := fx.jud }
    refine ⟨_, lss_ok (exS_ok (m := m) h3 hp hpl n _ _ KS) body, ⟨g, g, H, g.Om, g.Om, fun _ => []⟩, _, w, start_good wk r hlen0 h0, ?_⟩
    show PostS (exB (exS C pl m scope n) body (ds.map some ++ List.replicate (N.length - ds.length) none) w) _ _ _
    have h : Post (endR (exB (exS C pl m scope n) body (ds.map some ++ List.replicate (N.length - ds.length) none) w)) _ _ := h
    generalize exB (exS C pl m scope n) body (ds.map some ++ List.replicate (N.length - ds.length) none) w = R at h ⊢
    cases R with
    | nx ρ' w' =>
      have h : ∀ v H' g', CStep g H g' H' → WOk Z g' H' w' → Rep ce g'.hs H' (fun _ a => H a = none ∧ a ∉ g'.Om) v .none → Q v H' := h
      intro γ' σ' H' G' s'
      exact h .non H' γ'.g (by have := G'.st0; rw [s'.g0, s'.H0] at this; exact this) G'.wok .non
    | rt d w' => exact h
    | ex c ρ' w' =>
      have h : ∀ H' g' Kc, CStep g H g' H' → WOk Z g' H' w' → ce c = some Kc → E (.ref Kc) none H' := h
      intro γ' σ' H' G' s' Kc hK
      exact h H' γ'.g Kc (by have := G'.st0; rw [s'.g0, s'.H0] at this; exact this) G'.wok hK
    | no => exact h
theorem has_def {hl : W → Nat → Option (List D)} {hpp : W → Nat → List D → W} (hh : Hlo Z ce hl hpp) {dx : Dx W} (hd : Hdo Z ce dx) {io : Io W} (h3 : Zip3Ok ce) (hp : ∀ K, PlOk ce K pl) (hpl : PlLeaf pl) (fx : Fx ce Γ errs K mg) {k m n wf : Nat} (hio : ∃ cw, IoHas P wd K mg base Z ce k io cw) {x qual : Str} {params : Arguments} {body : List Stmt} {scope : Scope} {kws : List (Str × V)} {f : Addr} {fd : FuncData} {N ps : List Str} {own : List Nat} {T Tc : List (Str × Den W)}
    (hT : ∀ p ∈ T, Has P wd K mg base Z ce k p.1 p.2) (hTc : ∀ p ∈ Tc, HasC P wd K mg base Z ce k p.1 p.2) (F : FunD K x qual params body scope [] kws f fd) (S : FnScope N ps scope) (gx : mg x = some (.ref f))
    (hb : ∀ (kV doc pm : Value) (an : Option Addr) (cdv ct : Value) (us : List Value), us.length = ps.length → bindArgs (PySem.W.fnOf x qual params body scope .none kV doc pm an cdv ct) ⟨us, []⟩ = pure (ps.zip us)) :
    Has P wd K mg base Z ce (k + 1) x (denB ⟨N, own, look T, look Γ, errs, wf, hl, hpp, look Tc, dx, io⟩ pl m scope n body ps.length) := by
  exact ⟨f, fd, ps, fn_def hh hd h3 hp hpl fx hio hT hTc F S, gx, F.kp, F.bindsN hb⟩
end
end T
namespace T
open PySem PySem.Spec PyProof.Rows L2
/-! ### tuples of ints in order -/
def lexL : List Int → List Int → Bool
  | [], [] => false
  | [], _ :: _ => true
  | _ :: _, [] => false
  | x :: xs, y :: ys => if x = y then lexL xs ys else decide (x < y)
theorem lexL_asym : ∀ {x y : List Int}, lexL x y = true → lexL y x = false
  | [], [], _ => rfl
  | [], _ :: _, _ => rfl
  | _ :: _, [], h => by cases h
  | x :: xs, y :: ys, h => by
    unfold lexL at h ⊢
    by_cases e : x = y
    · rw [if_pos e] at h; rw [if_pos e.symm]; exact lexL_asym h
    · rw [if_neg e, decide_eq_true_eq] at h; rw [if_neg (fun z => e z.symm)]; exact decide_eq_false (by omega)
theorem lexL_tr : ∀ {x y z : List Int}, lexL y x = false → lexL z y = false → lexL z x = false
  | [], [], _, _, h2 => h2
  | [], _ :: _, [], _, h2 => by cases h2
  | [], _ :: _, _ :: _, _, _ => rfl
  | _ :: _, [], _, h1, _ => by cases h1
  | _ :: _, _ :: _, [], _, h2 => by cases h2
  | x :: xs, y :: ys, z :: zs, h1, h2 => by
    unfold lexL at h1 h2 ⊢
    by_cases e1 : y = x
    · rw [if_pos e1] at h1
      by_cases e2 : z = y
      · rw [if_pos e2] at h2; rw [if_pos (e2.trans e1)]; exact lexL_tr h1 h2
      · rw [if_neg e2] at h2; rw [if_neg (fun q => e2 (q.trans e1.symm)), ← e1]; exact h2
    · rw [if_neg e1] at h1
      have h1 := of_decide_eq_false h1
      by_cases e2 : z = y
      · rw [if_pos e2] at h2; rw [if_neg (fun q => e1 (e2.symm.trans q)), e2]; exact decide_eq_false h1
      · rw [if_neg e2] at h2
        have h2 := of_decide_eq_false h2
        rw [if_neg (by omega)]; exact decide_eq_false (by omega)
theorem lexL_eq : ∀ {x y : List Int}, lexL x y = false → lexL y x = false → x = y
  | [], [], _, _ => rfl
  | [], _ :: _, h, _ => by cases h
  | _ :: _, [], _, h => by cases h
  | x :: xs, y :: ys, h1, h2 => by
    unfold lexL at h1 h2
    by_cases e : x = y
    · rw [if_pos e] at h1; rw [if_pos e.symm] at h2; rw [e, lexL_eq h1 h2]
    · rw [if_neg e] at h1; rw [if_neg (fun z => e z.symm)] at h2
      have h1 := of_decide_eq_false h1
      have h2 := of_decide_eq_false h2
      omega
def insL (i : List Int) : List (List Int) → List (List Int)
  | [] => [i]
  | j :: r => if lexL j i = false then i :: j :: r else j :: insL i r
def sortLx : List (List Int) → List (List Int)
  | [] => []
  | i :: r => insL i (sortLx r)
theorem insL_perm (i : List Int) : ∀ ns, (insL i ns).Perm (i :: ns)
  | [] => .refl _
  | j :: r => by
    unfold insL
    split
    · exact .refl _
    · exact ((insL_perm i r).cons j).trans (.swap i j r)
theorem sortLx_perm : ∀ ns, (sortLx ns).Perm ns
  | [] => .refl _
  | i :: r => (insL_perm i _).trans ((sortLx_perm r).cons i)
theorem insL_srt (i : List Int) : ∀ {ns : List (List Int)}, ns.Pairwise (fun a b => lexL b a = false) → (insL i ns).Pairwise (fun a b => lexL b a = false)
  | [], _ => List.pairwise_singleton _ _
  | j :: r, h => by
    obtain ⟨h1, h2⟩ := List.pairwise_cons.mp h
    unfold insL
    split
    · rename_i hij
      refine List.pairwise_cons.mpr ⟨fun y hy => ?_, h⟩
      rcases List.mem_cons.mp hy with z | z
      · rw [z]; exact hij
      · exact lexL_tr hij (h1 y z)
    · rename_i hij
      refine List.pairwise_cons.mpr ⟨fun y hy => ?_, insL_srt i h2⟩
      rcases List.mem_cons.mp ((insL_perm i r).mem_iff.mp hy) with z | z
      · rw [z]; exact lexL_asym (by cases q : lexL j i with | true => rfl | false => exact absurd q hij)
      · exact h1 y z
theorem sortLx_srt : ∀ ns, (sortLx ns).Pairwise (fun a b => lexL b a = false)
  | [] => List.Pairwise.nil
  | i :: r => insL_srt i (sortLx_srt r)
theorem srtL_uniq : ∀ {as bs : List (List Int)}, as.Perm bs → as.Pairwise (fun a b => lexL b a = false) → bs.Pairwise (fun a b => lexL b a = false) → as = bs
  | [], bs, p, _, _ => (List.nil_perm.mp p).symm
  | a :: as, [], p, _, _ => absurd p (by simp)
  | a :: as, b :: bs, p, h1, h2 => by
    obtain ⟨a1, a2⟩ := List.pairwise_cons.mp h1
    obtain ⟨b1, b2⟩ := List.pairwise_cons.mp h2
    have e : a = b := by
      have ha : a ∈ b :: bs := p.mem_iff.mp List.mem_cons_self
      have hb : b ∈ a :: as := p.mem_iff.mpr List.mem_cons_self
      rcases List.mem_cons.mp ha with z | z
      · exact z
      · rcases List.mem_cons.mp hb with y | y
        · exact y.symm
        · exact lexL_eq (b1 a z) (a1 b y)
    subst e
    rw [srtL_uniq (List.Perm.cons_inv p) a2 b2]
/-! #### the model's sort -/
def intV : V → Int
  | .int i => i
  | _ => 0
def kH (H : Hp) (u : Value) : List Int := match u with
  | .ref t => (match H t with
    | some (.tup xs) => xs.map intV
    | _ => [])
  | _ => []
def IsTI (h : Heap) (v : Value) (ns : List Int) : Prop := ∃ a o its n, v = .ref a ∧ h.get? a = some o ∧ o.cls = .type "tuple" ∧ o.data = .seq its n ∧ IntsAre its.toList ns
section
variable {prog : Program} {w : World} {A : Around} {E : Value → Shared → Prop} {s : Shared}
theorem lex_any {b : Bool} {Q : Bool → Shared → Prop} : ∀ {xs ys : List Value} {ns ms : List Int} (i : Nat) {fin : Bool}, IntsAre xs ns → IntsAre ys ms → fin = decide (ns.length < ms.length) → Q (lexL ns ms) s → PySem.W.KatLex prog w A b fin Q (xs.zip ys) i s
  | _, _, _, _, i, fin, .nil, .nil, hf, h => by subst hf; exact PySem.W.kat_nil h
  | _, _, _, _, i, fin, .nil, .cons m t hy, hf, h => by subst hf; exact PySem.W.kat_nil (by simpa [lexL] using h)
  | _, _, _, _, i, fin, .cons n t hx, .nil, hf, h => by subst hf; exact PySem.W.kat_nil (by simpa [lexL] using h)
  | _, _, _, _, i, fin, .cons n t hx, .cons m u hy, hf, h => by
    refine PySem.W.kat_cons (SeqAt.EqAt.int_int n t m u prog w _ _ ?_)
    refine PySem.W.kat_go (fun e1 => ?_) (fun e1 => ?_)
    · have ex : n = m := by simpa using e1
      refine PySem.W.kat_yes (lex_any (i + 1) hx hy (by rw [hf]; simp) ?_)
      unfold lexL at h
      rw [if_pos ex] at h
      exact h
    · have ex : ¬ n = m := by simpa using e1
      unfold lexL at h
      rw [if_neg ex] at h
      exact PySem.W.kat_no (TS.oneLt_ints _ h)
theorem swo_lexL (k : Value → List Int) : SrtO.Swo fun v u => lexL (k v) (k u) := ⟨fun _ _ h => lexL_asym h, fun _ _ _ h1 h2 => lexL_tr h1 h2⟩
theorem ti_keeps {h h' : Heap} {v : Value} {ns : List Int} (x : IsTI h v ns) (k : ∀ b o, h.get? b = some o → o.cls = .type "tuple" → h'.get? b = some o) : IsTI h' v ns := by
  obtain ⟨a, o, its, n, e, ho, hc, hd, hi⟩ := x
  exact ⟨a, o, its, n, e, k a o ho hc, hc, hd, hi⟩
theorem ti_cmp {vs : List Value} {k : Value → List Int} (hp : ∀ v ∈ vs, IsTI s.heap v (k v)) : SrtO.Cmp prog w A s (tuples' true) (fun p => p.1 ∈ vs) (SrtO.lt2 fun v u => lexL (k v) (k u)) := by
  intro p q hm hm'
  obtain ⟨a, o, its, n, e, ho, hc, hd, hi⟩ := hp _ hm
  obtain ⟨a', o', its', n', e', ho', hc', hd', hi'⟩ := hp _ hm'
  show wpAny (model prog w) A (keyLt' (tuples' true) p.1 q.1) (fun r s' => s' = s ∧ r = lexL (k p.1) (k q.1)) (fun _ _ => False) s
  generalize k p.1 = x at hi ⊢
  generalize k q.1 = y at hi' ⊢
  rw [e, e']
  refine PySem.W.kat_lt ho hd ho' hd' (lex_any 0 hi hi' ?_ ⟨rfl, rfl⟩)
  have l1 := IntsAre.length hi
  have l2 := IntsAre.length hi'
  rw [Array.length_toList] at l1 l2
  rw [l1, l2]
theorem ti_sortable {a : Addr} {vs : List Value} {k : Value → List Int} (h0 : 0 < vs.length) (hp : ∀ v ∈ vs, IsTI s.heap v (k v)) (hk : ∀ v ∈ vs, k v ≠ []) (ha : ∀ o, s.heap.get? a = some o → o.cls ≠ .type "tuple") : SrtO.SortableO prog w A s a vs fun v u => lexL (k v) (k u) := by
  intro h' keep
  have hp' : ∀ v ∈ vs, IsTI h' v (k v) := fun v hm => ti_keeps (hp v hm) fun b o e c => keep b o (fun z => by subst z; exact ha o e c) e
  have go : ∀ us : List Value, (∀ v ∈ us, IsTI h' v (k v)) → (∀ v ∈ us, k v ≠ []) → ∃ fs, PySem.W.KatTups h' us fs ∧ fs.length = us.length ∧ ∀ f ∈ fs, ∃ x t, f = Value.int x t := by
    intro us
    induction us with
    | nil => intro _ _; exact ⟨[], trivial, rfl, fun f hf => by cases hf⟩
    | cons u us ih =>
      intro h1 h2
      obtain ⟨fs, g1, g2, g3⟩ := ih (fun v hv => h1 v (List.mem_cons_of_mem _ hv)) fun v hv => h2 v (List.mem_cons_of_mem _ hv)
      obtain ⟨b, o, its, n, e, ho, hc, hd, hi⟩ := h1 u List.mem_cons_self
      have hne := h2 u List.mem_cons_self
      generalize k u = ns at hi hne
      obtain ⟨l⟩ := its
      dsimp only at hi
      cases hi with
      | nil => exact absurd rfl hne
      | cons x t hr => exact ⟨.int x t :: fs, ⟨⟨b, o, _, n, e, ho, hc, hd, by simp⟩, g1⟩, by simp [g2], fun f hf => (List.mem_cons.mp hf).elim (fun z => ⟨x, t, z⟩) (g3 f)⟩
  obtain ⟨fs, h1, h2, h3⟩ := go vs hp' hk
  refine ⟨tuples' true, fun Q E hq => ?_, ti_cmp hp'⟩
  refine PySem.W.kat_kind (T := .type "int") h1 (by omega) (fun f hm => ?_) (by rfl) ?_
  · obtain ⟨x, t, rfl⟩ := h3 f hm
    exact PySem.W.Looks.now
  · rw [show (Value.type "int" != Value.type "tuple") = true from by decide +kernel]; exact hq
end
theorem perm_map_inv {α β : Type} (f : α → β) {l : List β} {ts : List α} (h : l.Perm (ts.map f)) : ∃ ts' : List α, l = ts'.map f ∧ ts'.Perm ts := by
  generalize hm : ts.map f = m at h
  induction h generalizing ts with
  | nil => exact ⟨[], rfl, by rw [List.map_eq_nil_iff.mp hm]⟩
  | cons x _ ih =>
    obtain ⟨a, r, rfl, rfl, e⟩ := List.map_eq_cons_iff.mp hm
    obtain ⟨r', e1, e2⟩ := ih e
    exact ⟨a :: r', by rw [e1]; rfl, e2.cons a⟩
  | swap x y l =>
    obtain ⟨a, r, rfl, rfl, e⟩ := List.map_eq_cons_iff.mp hm
    obtain ⟨b, r2, rfl, rfl, e2⟩ := List.map_eq_cons_iff.mp e
    subst e2
    exact ⟨b :: a :: r2, rfl, .swap a b r2⟩
  | trans _ _ ih1 ih2 =>
    obtain ⟨r2, e1, e2⟩ := ih2 hm
    obtain ⟨r1, e3, e4⟩ := ih1 e1.symm
    exact ⟨r1, e3, e4.trans e2⟩
section
variable {X : Cx}
theorem intV_map (ns : List Int) : (ns.map V.int).map intV = ns := by
  rw [List.map_map]
  conv => rhs; rw [← List.map_id ns]
  rfl
theorem cr_sortedTs : CallR X (.builtin "sorted") (fun vs H Q => ∃ (a : Addr) (ts : List (Addr × List Int)), vs = [V.ref a] ∧ SqL X.K H a (ts.map fun t => V.ref t.1) ∧ (∀ t ∈ ts, H t.1 = some (.tup (t.2.map V.int)) ∧ t.2 ≠ []) ∧
    ∀ (ts' : List (Addr × List Int)) (p : Addr), ts'.Perm ts → (ts'.map (·.2)).Pairwise (fun a b => lexL b a = false) → H p = none → Q (.ref p) (upd H p (.lst (ts'.map fun t => V.ref t.1)))) := by
  intro pins s σ H vs us Q I r h
  obtain ⟨a, ts, rfl, hs, ht, q⟩ := h
  obtain ⟨its, rv, hl, hz⟩ := I.list hs
  rw [Vals.ref1 r]
  have hits : its = ts.map fun t => Value.ref t.1 := by
    clear hs hl hz q ht
    induction ts generalizing its with
    | nil => cases rv; rfl
    | cons t ts ih =>
      cases rv with
      | cons x rv => cases x; exact congrArg (_ :: ·) (ih _ rv)
  have kt : ∀ t ∈ ts, kH H (.ref t.1) = t.2 := fun t h => by
    unfold kH
    dsimp only
    rw [(ht t h).1]
    exact intV_map _
  have hti : ∀ v ∈ its, IsTI s.heap v (kH H v) := fun v hv => by
    rw [hits] at hv
    obtain ⟨t, h1, rfl⟩ := List.mem_map.mp hv
    rw [kt t h1]
    obtain ⟨_, its2, rv2, o, ho, hc, n, hd⟩ := I.hok t.1 _ (ht t h1).1
    exact ⟨t.1, o, _, n, rfl, ho, hc, hd, by simpa using ints_of_vals rv2⟩
  refine SrtO.sorted_ord (swo_lexL (kH H)) hl.isList (by rw [← rv.length]; exact hz) (fun h2 h₁ a' ha kk => ?_) fun out h1 h2 => ?_
  · refine ti_sortable (s := { s with heap := h₁ }) (by omega) (fun v hv => ti_keeps (hti v hv) fun b o e _ => (kk b o e).2) (fun v hv => ?_) fun o e => ?_
    · rw [hits] at hv
      obtain ⟨t, h1, rfl⟩ := List.mem_map.mp hv
      rw [kt t h1]; exact (ht t h1).2
    · have e' : some o = some (seqObj "list" its.toArray 0) := e.symm.trans ha
      cases e'
      intro c
      exact absurd (Value.type.inj c) (by decide)
  · obtain ⟨ts', e1, e2⟩ : ∃ ts' : List (Addr × List Int), out = (ts'.map fun t => Value.ref t.1) ∧ ts'.Perm ts := by
      have hp := h2.perm
      rw [hits] at hp
      clear h1 h2
      obtain ⟨l, hl1, hl2⟩ := perm_map_inv (fun t : Addr × List Int => Value.ref t.1) hp
      exact ⟨l, hl1, hl2⟩
    subst e1
    have hk : (ts'.map fun t => Value.ref t.1).map (kH H) = ts'.map (·.2) := by
      rw [List.map_map]
      exact List.map_congr_left fun t h => kt t (e2.mem_iff.mp h)
    have hsr : (ts'.map (·.2)).Pairwise (fun a b => lexL b a = false) := by
      rw [← hk]
      exact List.pairwise_map.mpr h1
    obtain ⟨ep, he'⟩ := PyProof.Rows.sortedAll_at s.heap its (ts'.map fun t => Value.ref t.1).toArray
    have hlen : (ts'.map fun t => V.ref t.1).length ≤ sizeLine := by
      rw [List.length_map, e2.length_eq]
      rw [List.length_map] at hz
      exact hz
    have hv : Vals (ts'.map fun t => V.ref t.1) (ts'.map fun t => Value.ref t.1) := by
      clear hk hsr he' hlen e2 h1 h2
      induction ts' with
      | nil => exact .nil
      | cons t ts ih => exact .cons rfl ih
    exact ⟨.ref _, upd H (s.heap.objs.size + 1) (.lst (ts'.map fun t => V.ref t.1)), I.laid (t' := s.toks) (fun _ _ => PyProof.Rows.sortedAll_old) (Nat.le_succ _) ⟨hlen, _, ep, hv, he'⟩, rfl, q _ _ e2 hsr (I.hok.fresh (Nat.le_succ _))⟩
end
end T
namespace T
open PySem PySem.Spec PyProof.Rows L2
section
variable {W : Type}
/-- a def that looks at its argument and gives it back -/
def chkDen (C : Cfg W) (pl : Pl) (m : Nat) (sc : Scope) (body : List Stmt) : Den W := fun ds w => match body, ds with
  | [.If e [.Raise (some r) none _] [] _, .Return (some (.Name y _)) _], [d] => guardR (decide (rdSlot C.N sc y = some 0)) ((tsS C pl m sc e [some d] w).bind fun b w => match b with
    | true => (match raiseN C sc r [some d] w with
      | .ex c _ w => .ex c w
      | _ => .no)
    | false => .ok d w)
  | _, _ => .no
variable {P : Program} {wd : World} {K : PySem.W.Frag} {mg : Str → Option Value} {base : Heap} {Z : Wd W} {ce : Str → Option Addr} {pl : Pl} {Γ : List (Str × D)} {errs : List Str}
theorem has_chk {hl : W → Nat → Option (List D)} {hpp : W → Nat → List D → W} (hh : Hlo Z ce hl hpp) {dx : Dx W} (hd : Hdo Z ce dx) {io : Io W} (h3 : Zip3Ok ce) (hp : ∀ K, PlOk ce K pl) (hpl : PlLeaf pl) (fx : Fx ce Γ errs K mg) {k m wf : Nat} (hio : ∃ cw, IoHas P wd K mg base Z ce k io cw) {x qual y : Str} {params : Arguments} {body : List Stmt} {scope : Scope} {kws : List (Str × V)} {f : Addr} {fd : FuncData} {T : List (Str × Den W)}
    (hT : ∀ p ∈ T, Has P wd K mg base Z ce k p.1 p.2) (F : FunD K x qual params body scope [] kws f fd) (S : FnScope [y] [y] scope) (gx : mg x = some (.ref f))
    (hb : ∀ (kV doc pm : Value) (an : Option Addr) (cdv ct : Value) (us : List Value), us.length = 1 → bindArgs (PySem.W.fnOf x qual params body scope .none kV doc pm an cdv ct) ⟨us, []⟩ = pure (([y] : List Str).zip us)) :
    HasC P wd K mg base Z ce (k + 1) x (chkDen ⟨[y], [], look T, look Γ, errs, wf, hl, hpp, look [], dx, io⟩ pl m scope body) := by
  refine ⟨f, fd, [y], F.ok S ?_ ?_, gx, F.kp, F.bindsN hb⟩
  · rintro vs H Q E ⟨g, v, d, w, rfl, _⟩
    rfl
  · rintro cdv A outer s H vs Q E hr ⟨g, v, d, w, rfl, wk, r, h⟩
    let C : Cfg W := ⟨[y], [], look T, look Γ, errs, wf, hl, hpp, look [], dx, io⟩
    let X := cxOf (L2.CX P wd) P wd K mg base [y] qual scope f cdv A outer s H E
    let Wx : Str → L2.St → Hp → Prop := fun c _ H' => ∀ Kc, ce c = some Kc → E (.ref Kc) none H'
    have KS : Sok Z ce C X scope Wx := {
      sc_ := rfl
      calm := rfl
      un := hr.units
      un1 := by have h1 := hr.un; show (A.deeper (envOfC qual scope s.heap.objs.size f cdv)).units + 65 < cLine; omega
      bi := fx.bi
      nm := rfl
      hh := hh
      hd := hd
      io := by
        obtain ⟨cw, O⟩ := hio
        refine ⟨cw, O.hi, O.fld, fun m g h => ?_, fun x g h => ?_, fun g h => ?_, fun x g h => ?_⟩
        · obtain ⟨f', fd', ps', a, b, F', c⟩ := O.mth m g h
          exact ⟨k, f', fd', ps', a, b, F', hr, c⟩
        · obtain ⟨j, f', fd', ps', hj, a, b, F', c⟩ := O.mkr x g h
          exact ⟨j, f', fd', ps', a, b, F', hr.mono hj, c⟩
        · obtain ⟨j, f', fd', ps', hj, a, b, F', c⟩ := O.len g h
          exact ⟨j, f', fd', ps', a, b, F', hr.mono hj, c⟩
        · obtain ⟨f', fd', ps', F', a, b, c⟩ := O.muf x g h
          exact ⟨k, f', fd', ps', F', hr, a, b, c⟩
      nd := S.nd
      gam := fx.gam
      fns := fun y g' hy => by
        obtain ⟨f', fd', ps', F', a, b, c⟩ := hT _ (look_mem hy)
        exact ⟨k, f', fd', ps', F', hr, a, b, c⟩
      chk := fun y g' hy => by cases hy
      tk := (takes_of (X := X) rfl rfl rfl rfl).imp fun cls d σ H' ⟨e1, c, Kc, e2, e3, hw⟩ => by subst e1; subst e3; exact hw Kc e2
      fr := ⟨_, _, _, rfl, rfl, rfl⟩
      tf := tf_of rfl ((takes_of (X := X) rfl rfl rfl rfl).imp fun cls d σ H' ⟨e1, c, Kc, e2, e3, hw⟩ => by subst e1; subst e3; exact hw Kc e2)
      po := passes_of (X := X) rfl
      fnT := fun _ => rfl
      kd := S.kind
      er := fx.er
      exi := fx.exi
      kit := fx.kit
      stk := rfl
      frm := rfl
      exn := rfl
      jud := fx.jud }
    have h : Post (chkDen C pl m scope body [d] w) _ _ := h
    unfold chkDen at h
    split at h
    · rename_i e re p1 p2 y' p3 p4 d' hds _
      cases hds
      obtain ⟨hy, h⟩ := h.guard
      have hy := of_decide_eq_true hy
      have E0 := ev_ok (Z := Z) (ce := ce) (C := C) h3 hp hpl m X scope Wx KS.toCok
      have G : Good Z ce C.own ⟨g, g, H, g.Om, g.Om, fun _ => []⟩ [some v] H [some d] w := start_good (own := []) (N := [y]) (np := 1) wk (Reps.one r) rfl (by decide)
      refine ⟨_, pss_cons (ps_if (tst_ok (C := C) E0.1 E0.2 m e).1 (pss_one (raiseN_ok KS re)) pss_nil) (pss_one (ps_ret (pe_slot KS.toCok hy))), ⟨g, g, H, g.Om, g.Om, fun _ => []⟩, [some d], w, G, h.bind.imp (fun b w1 h1 H1 g1 x1 wk1 => ?_) fun c w1 h1 H1 g1 x1 wk1 Kc hK => h1 H1 g1 Kc x1 wk1 hK⟩
      cases b with
      | true =>
        refine iteT ⟨(⟨g, g, H, g.Om, g.Om, fun _ => []⟩ : GP).step g1, [some d], w1, G.step x1 wk1, ?_⟩
        dsimp only at h1 ⊢
        generalize raiseN C scope re [some d] w1 = R at h1 ⊢
        cases R with
        | ex c ρ' w' =>
          intro γ' σ' H' G' s' Kc hK
          exact h1 H' γ'.g Kc (by have := G'.st0; rw [s'.g0, s'.H0] at this; exact this) G'.wok hK
        | _ => exact h1.bad.elim
      | false => exact iteF ⟨v, rfl, h1 H1 g1 x1 wk1⟩
    · exact h.bad.elim
end
end T
namespace T
open PySem PySem.Spec PyProof.Rows L2
/-! ### a def in two parts: an own list is shared from a place on -/
section
variable {W : Type} {Z : Wd W} {ce : Str → Option Addr} {own : List Nat} {γ : GP} {σ : L2.St} {H : Hp} {ρ : Rho} {w : W} {X : Cx} {Wx : Str → L2.St → Hp → Prop}
def swB (i : Nat) (ρ : Rho) : Bool := match ρ[i]? with
  | some (some (.list _)) => true
  | _ => false
theorem ownAt_set {own : List Nat} {i k : Nat} : ownAt (own.set i 0) k = if i = k then 0 else ownAt own k := by
  unfold ownAt
  rw [List.getD_eq_getElem?_getD, List.getD_eq_getElem?_getD]
  by_cases h : i = k
  · subst h
    rw [if_pos rfl]
    by_cases hl : i < own.length
    · rw [List.getElem?_set_self hl]; rfl
    · rw [List.getElem?_eq_none (by rw [List.length_set]; omega)]; rfl
  · rw [if_neg h, List.getElem?_set_ne h]
theorem Good.share (G : Good Z ce own γ σ H ρ w) {j nd : Nat} (hj : ownK (ownAt own j) = .its nd) {ds : List D} (e : ρ[j]? = some (some (.list ds))) :
    ∃ γ', Good Z ce (own.set j 0) γ' σ H ρ w ∧ SStep γ H γ' H := by
  obtain ⟨p, vs, e1, e2, n1, e4, r1⟩ := G.itsL hj e
  have hp : p ∈ γ.Tp j := by rw [e4]; exact List.mem_cons_self
  obtain ⟨pL, pV, p0⟩ := G.tp j p hp
  let L' := γ.L.filter fun a => decide (a ≠ p)
  have inL : ∀ {a : Addr}, a ∈ L' ↔ a ∈ γ.L ∧ a ≠ p := by intro a; simp [L']
  refine ⟨{ γ with L := L', Tp := fun k => if k = j then [] else γ.Tp k }, ⟨G.wok, G.st0, G.omV, fun a h => inL.mpr ⟨G.vL a h, fun z => pV (z ▸ h)⟩, fun a h => G.dom a (inL.mp h).1, fun k a h => ?_, fun k k' a h h' => ?_, G.len, fun k d h => ?_⟩, ⟨rfl, rfl, fun _ _ _ e => e, fun _ _ _ e => e, fun a h => .inl (inL.mp h).1, fun _ h => h, fun _ _ e => e⟩⟩
  · dsimp only at h
    split at h
    · cases h
    · rename_i hk
      obtain ⟨h1, h2, h3⟩ := G.tp k a h
      exact ⟨inL.mpr ⟨h1, fun z => hk (G.dis k j a h (z ▸ hp))⟩, h2, h3⟩
  · dsimp only at h h'
    split at h
    · cases h
    · split at h'
      · cases h'
      · exact G.dis k k' a h h'
  · dsimp only
    rw [ownAt_set]
    by_cases hkj : j = k
    · subst hkj
      rw [if_pos rfl]
      rw [e] at h
      cases h
      exact ⟨.ref p, e1, .lst e2 n1 (fun z => (inL.mp z).2 rfl) (r1.mono fun q b z => ⟨fun y => z.1 (inL.mp y).1, fun y => z.1 (y ▸ pL)⟩)⟩
    · rw [if_neg hkj, if_neg (fun z => hkj z.symm)]
      obtain ⟨v, ev, sv⟩ := G.slot k d h
      exact ⟨v, ev, sv.go (fun b o eb nb => ⟨eb, fun y => nb (inL.mp y).1⟩) (fun _ _ _ e => e) (fun _ _ _ e => e) fun _ _ e => e⟩
def tSS (Z : Wd W) (ce : Str → Option Addr) (own own2 : List Nat) (Wx : Str → L2.St → Hp → Prop) (f : Rho → W → SRes W) : TS := fun Dn σ H => ∃ γ ρ w, Good Z ce own γ σ H ρ w ∧ PostS (f ρ w) (okN Z ce own2 γ H Dn) (okR Z ce γ Dn) fun c ρ' w' => okX Z ce own γ H Wx c ρ' w' ∧ okX Z ce own2 γ H Wx c ρ' w'
theorem sq_sq (r : SRes W) (f g : Rho → W → SRes W) : sq (sq r f) g = sq r fun ρ w => sq (f ρ w) g := by cases r <;> rfl
theorem lss2 {g1 : Stmt → Rho → W → SRes W} {f2 : Rho → W → SRes W} {b2 : List Stmt} {i nd : Nat} (hi : ownK (ownAt own i) = .its nd) (h : ∀ st, PS X st (tS Z ce own Wx fun ρ w => g1 st ρ w)) (h2 : PSs X b2 (tS Z ce (own.set i 0) Wx f2)) :
    ∀ b1 : List Stmt, PSs X (b1 ++ b2) (tSS Z ce own (own.set i 0) Wx fun ρ w => sq (exB g1 b1 ρ w) fun ρ w => guardS (swB i ρ) (f2 ρ w))
  | [] => imSs h2 fun Dn σ H ⟨γ, ρ, w, G, q⟩ => by
    have q : PostS (guardS (swB i ρ) (f2 ρ w)) _ _ _ := q
    obtain ⟨hs, q⟩ := q.guard
    unfold swB at hs
    split at hs
    · rename_i ds e
      obtain ⟨γ', G', s⟩ := G.share hi e
      exact ⟨γ', ρ, w, G', q.imp (fun _ _ h => okN.back h s) (fun _ _ h => okR.back h s) fun _ _ _ h => okX.back h.2 s⟩
    · cases hs
  | s :: r => imSs (pss_cons (h s) (lss2 hi h h2 r)) fun Dn σ H ⟨γ, ρ, w, G, q⟩ => by
    have q : PostS (sq (sq (g1 s ρ w) (exB g1 r)) fun ρ w => guardS (swB i ρ) (f2 ρ w)) _ _ _ := q
    rw [sq_sq] at q
    exact ⟨γ, ρ, w, G, (PostS.sq q).imp (fun ρ1 w1 h1 γ1 σ1 H1 G1 s1 => ⟨γ1, ρ1, w1, G1, h1.imp (fun _ _ h => okN.back h s1) (fun _ _ h => okR.back h s1) fun _ _ _ h => ⟨okX.back h.1 s1, okX.back h.2 s1⟩⟩) (fun _ _ h => h) fun _ _ _ h => h.1⟩
/-- what a def's body in two parts gives -/
def denB2 (C C2 : Cfg W) (pl : Pl) (m : Nat) (sc : Scope) (n : Nat) (body : List Stmt) (np cut i : Nat) : Den W := fun ds w =>
  guardR (decide (ds.length = np) && decide (np ≤ C.N.length) && own0 C.own np) (endR (sq (exB (exS C pl m sc n) (body.take cut) (ds.map some ++ List.replicate (C.N.length - ds.length) none) w) fun ρ w => guardS (swB i ρ) (exB (exS C2 pl m sc n) (body.drop cut) ρ w)))
end
section
variable {W : Type} {P : Program} {wd : World} {K : PySem.W.Frag} {mg : Str → Option Value} {base : Heap} {Z : Wd W} {ce : Str → Option Addr} {pl : Pl} {Γ : List (Str × D)} {errs : List Str}
theorem fn_def2 {hl : W → Nat → Option (List D)} {hpp : W → Nat → List D → W} (hh : Hlo Z ce hl hpp) {dx : Dx W} (hd : Hdo Z ce dx) {io : Io W} (h3 : Zip3Ok ce) (hp : ∀ K, PlOk ce K pl) (hpl : PlLeaf pl) (fx : Fx ce Γ errs K mg) {k m n wf : Nat} (hio : ∃ cw, IoHas P wd K mg base Z ce k io cw) {x qual : Str} {params : Arguments} {body : List Stmt} {scope : Scope} {kws : List (Str × V)} {f : Addr} {fd : FuncData} {N ps : List Str} {own : List Nat} {cut i nd : Nat} {T Tc : List (Str × Den W)}
    (hown : ownK (ownAt own i) = .its nd) (hT : ∀ p ∈ T, Has P wd K mg base Z ce k p.1 p.2) (hTc : ∀ p ∈ Tc, HasC P wd K mg base Z ce k p.1 p.2) (F : FunD K x qual params body scope [] kws f fd) (S : FnScope N ps scope) :
    FnOk P wd K mg base (L2.CX P wd) (k + 1) f fd ps (spOf Z ce <| denB2 ⟨N, own, look T, look Γ, errs, wf, hl, hpp, look Tc, dx, io⟩ ⟨N, own.set i 0, look T, look Γ, errs, wf, hl, hpp, look Tc, dx, io⟩ pl m scope n body ps.length cut i) := by
  refine F.ok S ?_ ?_
  · rintro vs H Q E ⟨g, ds, w, wk, r, h⟩
    unfold denB2 guardR at h
    split at h
    · rename_i hg
      simp only [Bool.and_eq_true, decide_eq_true_eq] at hg
      rw [r.len, hg.1.1]
    · exact h.bad.elim
  · rintro cdv A outer s H vs Q E hr ⟨g, ds, w, wk, r, h⟩
    have hh0 : (ds.length = ps.length ∧ own0 own ps.length = true) ∧ Post (endR (sq (exB (exS (⟨N, own, look T, look Γ, errs, wf, hl, hpp, look Tc, dx, io⟩ : Cfg W) pl m scope n) (body.take cut) (ds.map some ++ List.replicate (N.length - ds.length) none) w) fun ρ w => guardS (swB i ρ) (exB (exS (⟨N, own.set i 0, look T, look Γ, errs, wf, hl, hpp, look Tc, dx, io⟩ : Cfg W) pl m scope n) (body.drop cut) ρ w))) (fun d w' => ∀ v H' g', CStep g H g' H' → WOk Z g' H' w' → Rep ce g'.hs H' (fun _ a => H a = none ∧ a ∉ g'.Om) v d → Q v H')
        (fun c w' => ∀ H' g' K, CStep g H g' H' → WOk Z g' H' w' → ce c = some K → E (.ref K) none H') := by
      unfold denB2 guardR at h
      split at h
      · rename_i hg
        simp only [Bool.and_eq_true, decide_eq_true_eq] at hg
        exact ⟨⟨hg.1.1, hg.2⟩, h⟩
      · exact h.bad.elim
    obtain ⟨⟨hlen0, h0⟩, h⟩ := hh0
    let C : Cfg W := ⟨N, own, look T, look Γ, errs, wf, hl, hpp, look Tc, dx, io⟩
    let X := cxOf (L2.CX P wd) P wd K mg base N qual scope f cdv A outer s H E
    let Wx : Str → L2.St → Hp → Prop := fun c _ H' => ∀ Kc, ce c = some Kc → E (.ref Kc) none H'
    let C2 : Cfg W := ⟨N, own.set i 0, look T, look Γ, errs, wf, hl, hpp, look Tc, dx, io⟩
    have KS : Sok Z ce C X scope Wx := {
      sc_ := rfl
      calm := rfl
      un := hr.units
      un1 := by have h1 := hr.un; show (A.deeper (envOfC qual scope s.heap.objs.size f cdv)).units + 65 < cLine; omega
      bi := fx.bi
      nm := rfl
      hh := hh
      hd := hd
      io := by
        obtain ⟨cw, O⟩ := hio
        refine ⟨cw, O.hi, O.fld, fun m g h => ?_, fun x g h => ?_, fun g h => ?_, fun x g h => ?_⟩
        · obtain ⟨f', fd', ps', a, b, F', c⟩ := O.mth m g h
          exact ⟨k, f', fd', ps', a, b, F', hr, c⟩
        · obtain ⟨j, f', fd', ps', hj, a, b, F', c⟩ := O.mkr x g h
          exact ⟨j, f', fd', ps', a, b, F', hr.mono hj, c⟩
        · obtain ⟨j, f', fd', ps', hj, a, b, F', c⟩ := O.len g h
          exact ⟨j, f', fd', ps', a, b, F', hr.mono hj, c⟩
        · obtain ⟨f', fd', ps', F', a, b, c⟩ := O.muf x g h
          exact ⟨k, f', fd', ps', F', hr, a, b, c⟩
      nd := S.nd
      gam := fx.gam
      fns := fun y g' hy => by
        obtain ⟨f', fd', ps', F', a, b, c⟩ := hT _ (look_mem hy)
        exact ⟨k, f', fd', ps', F', hr, a, b, c⟩
      chk := fun y g' hy => by
        obtain ⟨f', fd', ps', F', a, b, c⟩ := hTc _ (look_mem hy)
        exact ⟨k, f', fd', ps', F', hr, a, b, c⟩
      tk := (takes_of (X := X) rfl rfl rfl rfl).imp fun cls d σ H' ⟨e1, c, Kc, e2, e3, hw⟩ => by subst e1; subst e3; exact hw Kc e2
      fr := ⟨_, _, _, rfl, rfl, rfl⟩
      tf := tf_of rfl ((takes_of (X := X) rfl rfl rfl rfl).imp fun cls d σ H' ⟨e1, c, Kc, e2, e3, hw⟩ => by subst e1; subst e3; exact hw Kc e2)
      po := passes_of (X := X) rfl
      fnT := fun _ => rfl
      kd := S.kind
      er := fx.er
      exi := fx.exi
      kit := fx.kit
      stk := rfl
      frm := rfl
      exn := rfl
      jud := fx.jud }
    have KS2 : Sok Z ce C2 X scope Wx := {
      sc_ := rfl
      calm := rfl
      un := hr.units
      un1 := by have h1 := hr.un; show (A.deeper (envOfC qual scope s.heap.objs.size f cdv)).units + 65 < cLine; omega
      bi := fx.bi
      nm := rfl
      hh := hh
      hd := hd
      io := by
        obtain ⟨cw, O⟩ := hio
        refine ⟨cw, O.hi, O.fld, fun m g h => ?_, fun x g h => ?_, fun g h => ?_, fun x g h => ?_⟩
        · obtain ⟨f', fd', ps', a, b, F', c⟩ := O.mth m g h
          exact ⟨k, f', fd', ps', a, b, F', hr, c⟩
        · obtain ⟨j, f', fd', ps', hj, a, b, F', c⟩ := O.mkr x g h
          exact ⟨j, f', fd', ps', a, b, F', hr.mono hj, c⟩
        · obtain ⟨j, f', fd', ps', hj, a, b, F', c⟩ := O.len g h
          exact ⟨j, f', fd', ps', a, b, F', hr.mono hj, c⟩
        · obtain ⟨f', fd', ps', F', a, b, c⟩ := O.muf x g h
          exact ⟨k, f', fd', ps', F', hr, a, b, c⟩
      nd := S.nd
      gam := fx.gam
      fns := fun y g' hy => by
        obtain ⟨f', fd', ps', F', a, b, c⟩ := hT _ (look_mem hy)
        exact ⟨k, f', fd', ps', F', hr, a, b, c⟩
      chk := fun y g' hy => by
        obtain ⟨f', fd', ps', F', a, b, c⟩ := hTc _ (look_mem hy)
        exact ⟨k, f', fd', ps', F', hr, a, b, c⟩
      tk := (takes_of (X := X) rfl rfl rfl rfl).imp fun cls d σ H' ⟨e1, c, Kc, e2, e3, hw⟩ => by subst e1; subst e3; exact hw Kc e2
      fr := ⟨_, _, _, rfl, rfl, rfl⟩
      tf := tf_of rfl ((takes_of (X := X) rfl rfl rfl rfl).imp fun cls d σ H' ⟨e1, c, Kc, e2, e3, hw⟩ => by subst e1; subst e3; exact hw Kc e2)
      po := passes_of (X := X) rfl
      fnT := fun _ => rfl
      kd := S.kind
      er := fx.er
      exi := fx.exi
      kit := fx.kit
      stk := rfl
      frm := rfl
      exn := rfl
      jud := fx.jud }
    have hbd : body.take cut ++ body.drop cut = body := List.take_append_drop cut body
    have hps := lss2 (own := own) (i := i) hown (exS_ok (m := m) h3 hp hpl n _ _ KS) (lss_ok (exS_ok (m := m) h3 hp hpl n _ _ KS2) (body.drop cut)) (body.take cut)
    rw [hbd] at hps
    refine ⟨_, hps, ⟨g, g, H, g.Om, g.Om, fun _ => []⟩, _, w, start_good wk r hlen0 h0, ?_⟩
    show PostS (sq (exB (exS C pl m scope n) (body.take cut) (ds.map some ++ List.replicate (N.length - ds.length) none) w) fun ρ w => guardS (swB i ρ) (exB (exS C2 pl m scope n) (body.drop cut) ρ w)) _ _ _
    have h : Post (endR (sq (exB (exS C pl m scope n) (body.take cut) (ds.map some ++ List.replicate (N.length - ds.length) none) w) fun ρ w => guardS (swB i ρ) (exB (exS C2 pl m scope n) (body.drop cut) ρ w))) _ _ := h
    generalize (sq (exB (exS C pl m scope n) (body.take cut) (ds.map some ++ List.replicate (N.length - ds.length) none) w) fun ρ w => guardS (swB i ρ) (exB (exS C2 pl m scope n) (body.drop cut) ρ w)) = R at h ⊢
    cases R with
    | nx ρ' w' =>
      have h : ∀ v H' g', CStep g H g' H' → WOk Z g' H' w' → Rep ce g'.hs H' (fun _ a => H a = none ∧ a ∉ g'.Om) v .none → Q v H' := h
      intro γ' σ' H' G' s'
      exact h .non H' γ'.g (by have := G'.st0; rw [s'.g0, s'.H0] at this; exact this) G'.wok .non
    | rt d w' => exact h
    | ex c ρ' w' =>
      have h : ∀ H' g' Kc, CStep g H g' H' → WOk Z g' H' w' → ce c = some Kc → E (.ref Kc) none H' := h
      exact ⟨fun γ' σ' H' G' s' Kc hK => h H' γ'.g Kc (by have := G'.st0; rw [s'.g0, s'.H0] at this; exact this) G'.wok hK, fun γ' σ' H' G' s' Kc hK => h H' γ'.g Kc (by have := G'.st0; rw [s'.g0, s'.H0] at this; exact this) G'.wok hK⟩
    | no => exact h
end
end T
namespace T
open PySem PySem.Spec PyProof.Rows L2
/-! ### plain calls -/
def insI (i : Int) : List Int → List Int
  | [] => [i]
  | j :: r => if i ≤ j then i :: j :: r else j :: insI i r
def sortI : List Int → List Int
  | [] => []
  | i :: r => insI i (sortI r)
def maxI : List Int → Option Int
  | [] => none
  | [i] => some i
  | i :: r => (maxI r).map fun m => if i < m then m else i
def minI : List Int → Option Int
  | [] => none
  | [i] => some i
  | i :: r => (minI r).map fun m => if m < i then m else i
def lenF : List D → Option D
  | [.list ds] => some (.int (ds.length : Nat))
  | [.tuple ds] => some (.int (ds.length : Nat))
  | [.str a] => if lenOk a.length then some (.int (a.length : Nat)) else none
  | _ => none
def sumF : List D → Option D
  | [.list ds] => (intsOf ds).map fun ns => .int ns.sum
  | _ => none
def absF : List D → Option D
  | [.int i] => some (.int (if i < 0 then -i else i))
  | _ => none
def maxF : List D → Option D
  | [.int i, .int j] => some (.int (if j > i then j else i))
  | [.list ds] => (intsOf ds).bind fun ns => (maxI ns).map .int
  | _ => none
def minF : List D → Option D
  | [.int i, .int j] => some (.int (if j < i then j else i))
  | [.list ds] => (intsOf ds).bind fun ns => (minI ns).map .int
  | _ => none
def anyF : List D → Option D
  | [.list ds] => (blsOf ds).map fun bs => .bool (bs.any id)
  | _ => none
def allF : List D → Option D
  | [.list ds] => (blsOf ds).map fun bs => .bool (bs.all id)
  | _ => none
def listF : List D → Option D
  | [.list ds] => if flatDs 0 ds then some (.list ds) else none
  | [.tuple ds] => if flatDs 0 ds then some (.list ds) else none
  | _ => none
def tupF : List D → Option D
  | [.list ds] => if flatDs 0 ds then some (.tuple ds) else none
  | [.tuple ds] => if flatDs 0 ds then some (.tuple ds) else none
  | _ => none
/-- tuples of ints, none empty -/
def tupsOf (_ : List D) : Option (List (List Int)) := none
def sortF : List D → Option D
  | [.list ds] => (match intsOf ds with
    | some ns => some (.list ((sortI ns).map .int))
    | none => (tupsOf ds).map fun nss => .list ((sortLx nss).map fun ns => .tuple (ns.map .int)))
  | [.tuple ds] => (intsOf ds).map fun ns => .list ((sortI ns).map .int)
  | _ => none
def strF : List D → Option D
  | [.int i] => if decide (i.natAbs < 1000000000000) then some (.str (toString i : String)) else none
  | _ => none
def intF : List D → Option D
  | [.str a] => if decide (a.length ≤ 640) then (PySem.intText? a).map .int else none
  | [.int i] => some (.int i)
  | _ => none
def tblB : List (Str × (List D → Option D)) := [("len", lenF), ("sum", sumF), ("abs", absF), ("max", maxF), ("min", minF), ("any", anyF), ("all", allF), ("sorted", sortF)]
def tblT : List (Str × (List D → Option D)) := [("list", listF), ("tuple", tupF), ("str", strF), ("int", intF)]
section
variable {ce : Str → Option Addr} {X : Cx} {sc : Scope}
theorem cr_imp {c : Value} {r r' : List V → Hp → VK → Prop} (h : CallR X c r) (k : ∀ xs H Q, r' xs H Q → r xs H Q) : CallR X c r' := fun pins s σ H xs us Q I rr q => h pins s σ H xs us Q I rr (k xs H Q q)
theorem cr_or {c : Value} {r r' : List V → Hp → VK → Prop} (h : CallR X c r) (h' : CallR X c r') : CallR X c (fun xs H Q => r xs H Q ∨ r' xs H Q) := fun pins s σ H xs us Q I rr q => q.elim (h pins s σ H xs us Q I rr) (h' pins s σ H xs us Q I rr)
theorem Reps.one_inv {hs : List Addr} {H : Hp} {P : Pd} {vs : List V} {d : D} (r : Reps ce hs H P vs [d]) : ∃ v, vs = [v] ∧ Rep ce hs H P v d := by
  cases r with
  | cons a r => cases r; exact ⟨_, rfl, a⟩
theorem Reps.two_inv {hs : List Addr} {H : Hp} {P : Pd} {vs : List V} {d e : D} (r : Reps ce hs H P vs [d, e]) : ∃ v u, vs = [v, u] ∧ Rep ce hs H P v d ∧ Rep ce hs H P u e := by
  cases r with
  | cons a r =>
    cases r with
    | cons b r => cases r; exact ⟨_, _, rfl, a, b⟩
theorem rep_lst {hs : List Addr} {H : Hp} {P : Pd} {v : V} {ds : List D} (r : Rep ce hs H P v (.list ds)) : ∃ a vs, v = .ref a ∧ H a = some (.lst vs) ∧ vs.length ≤ sizeLine ∧ Reps ce hs H (fun j b => P (j + 1) b ∧ b ≠ a) vs ds := by
  cases r with
  | lst e n p r => exact ⟨_, _, rfl, e, n, r⟩
theorem rep_tup {hs : List Addr} {H : Hp} {P : Pd} {v : V} {ds : List D} (r : Rep ce hs H P v (.tuple ds)) : ∃ a vs, v = .ref a ∧ Ft H a vs ∧ vs.length ≤ sizeLine ∧ Reps ce hs H (fun j b => P (j + 1) b) vs ds := by
  cases r with
  | tup e n r => exact ⟨_, _, rfl, e, n, r⟩
theorem reps_flat0 {hs : List Addr} {H : Hp} {P P' : Pd} {vs : List V} {ds : List D} (r : Reps ce hs H P vs ds) (h : flatDs 0 ds = true) : Reps ce hs H P' vs ds := Reps.flat 0 (fun i j b hj => absurd hj (Nat.not_lt_zero _)) r h
theorem reps_ints {hs : List Addr} {H : Hp} {P : Pd} : ∀ ns : List Int, Reps ce hs H P (ns.map V.int) (ns.map PyData.int)
  | [] => .nil
  | n :: ns => .cons (.int n) (reps_ints ns)
theorem b_len : CallR X (.builtin "len") (rPl ce lenF) := cr_imp (cr_or call_len_seq call_len_str) fun xs H Q ⟨hs, P, ds, d, r0, e, q⟩ => by
  unfold lenF at e
  split at e
  · obtain ⟨v, rfl, r⟩ := Reps.one_inv r0
    obtain ⟨a, vs, rfl, ea, _, rr⟩ := rep_lst r
    cases e
    exact .inl ⟨a, vs, rfl, .inl (SqL.of ea), by rw [rr.length]; exact q _ _ HExt.refl (.int _)⟩
  · obtain ⟨v, rfl, r⟩ := Reps.one_inv r0
    obtain ⟨a, vs, rfl, ea, _, rr⟩ := rep_tup r
    cases e
    exact .inl ⟨a, vs, rfl, .inr (ea.sq), by rw [rr.length]; exact q _ _ HExt.refl (.int _)⟩
  · obtain ⟨v, rfl, r⟩ := Reps.one_inv r0
    cases r
    split at e
    · rename_i hl
      cases e
      exact .inr ⟨_, rfl, line_le hl, q _ _ HExt.refl (.int _)⟩
    · cases e
  · cases e
theorem b_sum (hc : X.calm = true) : CallR X (.builtin "sum") (rPl ce sumF) := cr_imp (cr_sum hc) fun xs H Q ⟨hs, P, ds, d, r0, e, q⟩ => by
  unfold sumF at e
  split at e
  · rename_i ds
    obtain ⟨v, rfl, r⟩ := Reps.one_inv r0
    obtain ⟨a, vs, rfl, ea, _, rr⟩ := rep_lst r
    cases hi : intsOf ds with
    | none => rw [hi] at e; cases e
    | some ns =>
      rw [hi] at e
      cases e
      rw [rr.ofInts hi] at ea
      exact ⟨a, ns, rfl, SqL.of ea, q _ _ HExt.refl (.int _)⟩
  · cases e
theorem b_abs : CallR X (.builtin "abs") (rPl ce absF) := cr_imp call_abs fun xs H Q ⟨hs, P, ds, d, r0, e, q⟩ => by
  unfold absF at e
  split at e
  · obtain ⟨v, rfl, r⟩ := Reps.one_inv r0
    cases r
    cases e
    exact ⟨_, rfl, q _ _ HExt.refl (.int _)⟩
  · cases e
theorem maxI_ok : ∀ {ns : List Int} {m : Int}, maxI ns = some m → m ∈ ns ∧ ∀ y ∈ ns, y ≤ m
  | [], m, h => by cases h
  | [i], m, h => by cases h; exact ⟨List.mem_cons_self, fun y hy => by simp at hy; omega⟩
  | i :: j :: r, m, h => by
    unfold maxI at h
    cases q : maxI (j :: r) with
    | none => rw [q] at h; cases h
    | some k =>
      rw [q] at h
      have h : (if i < k then k else i) = m := Option.some.inj h
      obtain ⟨h1, h2⟩ := maxI_ok q
      split at h
      · subst h
        exact ⟨List.mem_cons_of_mem _ h1, fun y hy => (List.mem_cons.mp hy).elim (fun z => by omega) fun z => h2 y z⟩
      · subst h
        exact ⟨List.mem_cons_self, fun y hy => (List.mem_cons.mp hy).elim (fun z => by omega) fun z => by have := h2 y z; omega⟩
theorem minI_ok : ∀ {ns : List Int} {m : Int}, minI ns = some m → m ∈ ns ∧ ∀ y ∈ ns, m ≤ y
  | [], m, h => by cases h
  | [i], m, h => by cases h; exact ⟨List.mem_cons_self, fun y hy => by simp at hy; omega⟩
  | i :: j :: r, m, h => by
    unfold minI at h
    cases q : minI (j :: r) with
    | none => rw [q] at h; cases h
    | some k =>
      rw [q] at h
      have h : (if k < i then k else i) = m := Option.some.inj h
      obtain ⟨h1, h2⟩ := minI_ok q
      split at h
      · subst h
        exact ⟨List.mem_cons_of_mem _ h1, fun y hy => (List.mem_cons.mp hy).elim (fun z => by omega) fun z => h2 y z⟩
      · subst h
        exact ⟨List.mem_cons_self, fun y hy => (List.mem_cons.mp hy).elim (fun z => by omega) fun z => by have := h2 y z; omega⟩
theorem b_max (hc : X.calm = true) : CallR X (.builtin "max") (rPl ce maxF) := cr_imp (cr_or (call_max2 hc) (cr_max hc)) fun xs H Q ⟨hs, P, ds, d, r0, e, q⟩ => by
  unfold maxF at e
  split at e
  · obtain ⟨v, u, rfl, r1, r2⟩ := Reps.two_inv r0
    cases r1; cases r2
    cases e
    exact .inl ⟨_, _, rfl, q _ _ HExt.refl (.int _)⟩
  · rename_i ds
    obtain ⟨v, rfl, r⟩ := Reps.one_inv r0
    obtain ⟨a, vs, rfl, ea, _, rr⟩ := rep_lst r
    cases hi : intsOf ds with
    | none => rw [hi] at e; cases e
    | some ns =>
      rw [hi] at e
      have e : (maxI ns).map PyData.int = some d := e
      cases hm : maxI ns with
      | none => rw [hm] at e; cases e
      | some m =>
        rw [hm] at e
        cases e
        rw [rr.ofInts hi] at ea
        obtain ⟨m1, m2⟩ := maxI_ok hm
        refine .inr ⟨a, ns, rfl, SqL.of ea, List.length_pos_of_mem m1, fun k h1 h2 => ?_⟩
        have : k = m := Int.le_antisymm (m2 k h1) (h2 m m1)
        subst this
        exact q _ _ HExt.refl (.int _)
  · cases e
theorem b_min (hc : X.calm = true) : CallR X (.builtin "min") (rPl ce minF) := cr_imp (cr_or (call_min2 hc) (cr_min hc)) fun xs H Q ⟨hs, P, ds, d, r0, e, q⟩ => by
  unfold minF at e
  split at e
  · obtain ⟨v, u, rfl, r1, r2⟩ := Reps.two_inv r0
    cases r1; cases r2
    cases e
    exact .inl ⟨_, _, rfl, q _ _ HExt.refl (.int _)⟩
  · rename_i ds
    obtain ⟨v, rfl, r⟩ := Reps.one_inv r0
    obtain ⟨a, vs, rfl, ea, _, rr⟩ := rep_lst r
    cases hi : intsOf ds with
    | none => rw [hi] at e; cases e
    | some ns =>
      rw [hi] at e
      have e : (minI ns).map PyData.int = some d := e
      cases hm : minI ns with
      | none => rw [hm] at e; cases e
      | some m =>
        rw [hm] at e
        cases e
        rw [rr.ofInts hi] at ea
        obtain ⟨m1, m2⟩ := minI_ok hm
        refine .inr ⟨a, ns, rfl, SqL.of ea, List.length_pos_of_mem m1, fun k h1 h2 => ?_⟩
        have : k = m := Int.le_antisymm (h2 m m1) (m2 k h1)
        subst this
        exact q _ _ HExt.refl (.int _)
  · cases e
theorem b_any (hc : X.calm = true) : CallR X (.builtin "any") (rPl ce anyF) := cr_imp (cr_any hc) fun xs H Q ⟨hs, P, ds, d, r0, e, q⟩ => by
  unfold anyF at e
  split at e
  · rename_i ds
    obtain ⟨v, rfl, r⟩ := Reps.one_inv r0
    obtain ⟨a, vs, rfl, ea, _, rr⟩ := rep_lst r
    cases hi : blsOf ds with
    | none => rw [hi] at e; cases e
    | some ns =>
      rw [hi] at e
      cases e
      rw [rr.ofBls hi] at ea
      exact ⟨a, ns, rfl, SqL.of ea, q _ _ HExt.refl (.bl _)⟩
  · cases e
theorem b_all (hc : X.calm = true) : CallR X (.builtin "all") (rPl ce allF) := cr_imp (cr_all hc) fun xs H Q ⟨hs, P, ds, d, r0, e, q⟩ => by
  unfold allF at e
  split at e
  · rename_i ds
    obtain ⟨v, rfl, r⟩ := Reps.one_inv r0
    obtain ⟨a, vs, rfl, ea, _, rr⟩ := rep_lst r
    cases hi : blsOf ds with
    | none => rw [hi] at e; cases e
    | some ns =>
      rw [hi] at e
      cases e
      rw [rr.ofBls hi] at ea
      exact ⟨a, ns, rfl, SqL.of ea, q _ _ HExt.refl (.bl _)⟩
  · cases e
theorem insI_perm (i : Int) : ∀ ns : List Int, (insI i ns).Perm (i :: ns)
  | [] => .refl _
  | j :: r => by
    unfold insI
    split
    · exact .refl _
    · exact ((insI_perm i r).cons j).trans (.swap i j r)
theorem sortI_perm : ∀ ns : List Int, (sortI ns).Perm ns
  | [] => .refl _
  | i :: r => (insI_perm i _).trans ((sortI_perm r).cons i)
theorem insI_srt (i : Int) : ∀ ns : List Int, ns.Pairwise (· ≤ ·) → (insI i ns).Pairwise (· ≤ ·)
  | [], _ => by simp [insI]
  | j :: r, h => by
    obtain ⟨h1, h2⟩ := List.pairwise_cons.mp h
    unfold insI
    split
    · rename_i hij
      exact List.pairwise_cons.mpr ⟨fun y hy => (List.mem_cons.mp hy).elim (fun z => by omega) fun z => by have := h1 y z; omega, h⟩
    · refine List.pairwise_cons.mpr ⟨fun y hy => ?_, insI_srt i r h2⟩
      rcases List.mem_cons.mp ((insI_perm i r).mem_iff.mp hy) with z | z
      · omega
      · exact h1 y z
theorem sortI_srt : ∀ ns : List Int, (sortI ns).Pairwise (· ≤ ·)
  | [] => .nil
  | i :: r => insI_srt i _ (sortI_srt r)
theorem srt_uniq : ∀ {as bs : List Int}, as.Perm bs → as.Pairwise (· ≤ ·) → bs.Pairwise (· ≤ ·) → as = bs
  | [], bs, p, _, _ => (List.nil_perm.mp p).symm
  | a :: as, [], p, _, _ => absurd p.length_eq (by simp)
  | a :: as, b :: bs, p, h1, h2 => by
    obtain ⟨a1, a2⟩ := List.pairwise_cons.mp h1
    obtain ⟨b1, b2⟩ := List.pairwise_cons.mp h2
    have e : a = b := by
      have m1 : a ∈ b :: bs := p.mem_iff.mp List.mem_cons_self
      have m2 : b ∈ a :: as := p.mem_iff.mpr List.mem_cons_self
      rcases List.mem_cons.mp m1 with z | z
      · exact z
      · rcases List.mem_cons.mp m2 with y | y
        · exact y.symm
        · exact Int.le_antisymm (a1 b y) (b1 a z)
    subst e
    rw [srt_uniq (List.Perm.cons_inv p) a2 b2]
section
open SrtO
variable {prog : Program} {w : World} {A : Around} {E : Value → Shared → Prop} {s : Shared}
/-- the items of a tuple, collected -/
theorem coll_tup {l : Addr} {vs : List Value} {Q : List Value → Shared → Prop} (hl : s.heap.IsTuple l vs.toArray)
    (h : Q vs { s with heap := (s.heap.push (seqObj "list" #[] 0)).update s.heap.objs.size (Obj.mapSeq (· ++ vs.toArray)) }) (hsz : vs.length ≤ sizeLine) : wpAny (model prog w) A (collect (.ref l)) Q E s := by
  obtain ⟨o, ho, hc, n, hd⟩ := id hl
  have ho' : (s.heap.push (seqObj "list" #[] 0)).get? l = some o := Heap.get?_push_of_some _ ho
  unfold collect
  refine wpAny_bind (wpAny_runValue (codeAny_builtin entry_proto_collect' ?_))
  show wpAny _ _ (do again (.builtin "list.__iadd__" ⟨[← newList [], .ref l], []⟩)) _ _ s
  refine wpAny_bind (wpAny_newList (wpAny_pure ⟨Code.quiet_builtin _ (by decide +kernel), codeAny_builtin entry_list_iadd' ?_⟩))
  show wpAny _ _ (Builtin.List.listExtendWith (.ref s.heap.objs.size) (.ref l) (.ref s.heap.objs.size)) _ _ { s with heap := s.heap.push (seqObj "list" #[] 0) }
  unfold Builtin.List.listExtendWith
  refine wpAny_bind (wpAny_typeOf (T := "tuple") ⟨o, ho', hc⟩ ?_)
  have ht : (Value.type "tuple" == Value.type "tuple") = true := by rfl
  rw [if_pos (by rw [ht]; simp)]
  refine wpAny_bind (listItems_at ho' hd ?_)
  refine wpAny_bind (listItems_at (xs := #[]) (n := 0) (Heap.get?_push_size _ rfl) rfl ?_)
  rw [if_neg (by simp)]
  refine wpAny_bind (listUpdate_at (xs := #[]) (n := 0) (Heap.get?_push_size _ rfl) rfl ?_ (Nat.zero_le _) (by show (#[] ++ vs.toArray).size ≤ sizeLine + 1; simp only [Array.size_append, List.size_toArray, List.length_nil]; omega))
  refine wpAny_pure ?_
  show wpAny (model prog w) A (do
      let o ← load s.heap.objs.size
      match o.data with
      | .seq xs _ => pure xs.toList
      | _ => unsupported "internal:collect") Q E { s with heap := (s.heap.push (seqObj "list" #[] 0)).update s.heap.objs.size (Obj.mapSeq (· ++ vs.toArray)) }
  refine wpAny_bind (wpAny_load (get?_update_seq (Heap.get?_push_size _ rfl) _) ?_)
  show wpAny _ _ (pure ((#[] : Array Value) ++ vs.toArray).toList) Q E _
  rw [show ((#[] : Array Value) ++ vs.toArray).toList = vs by simp]
  exact wpAny_pure h
theorem sort_tup {l : Addr} {vs : List Value} {ltv : Value → Value → Bool} {Q : Value → Shared → Prop} (O : Swo ltv) (hl : s.heap.IsTuple l vs.toArray) (hz : vs.length ≤ sizeLine)
    (hS : 2 ≤ vs.length → ∀ (h₁ : Heap) (a : Addr), h₁.get? a = some (seqObj "list" vs.toArray 0) → (∀ b o, s.heap.get? b = some o → b ≠ a ∧ h₁.get? b = some o) → SortableO prog w A.in1.in1 { s with heap := h₁ } a vs ltv)
    (h : ∀ out : List Value, Srtd ltv out → Stb ltv out vs → Q (.ref (s.heap.objs.size + 1)) { s with heap := sortedAll s.heap vs out.toArray }) : wpAny (model prog w) A (call (.builtin "sorted") [.ref l]) Q E s := by
  refine Calls.call_function_entry kind_sorted plain_sorted entry_sorted (args_sorted1 _) ?_
  unfold Builtin.«sorted»
  refine wpAny_bind (m := checkCount "sorted" 1 1 _) (wpAny_pure ?_)
  refine wpAny_bind (coll_tup hl ?_ hz)
  refine wpAny_bind (wpAny_newList ?_ hz)
  have hsz : ((s.heap.push (seqObj "list" #[] 0)).update s.heap.objs.size (Obj.mapSeq (· ++ vs.toArray))).objs.size = s.heap.objs.size + 1 := by
    rw [Heap.size_update, size_push']
  have hoL : (((s.heap.push (seqObj "list" #[] 0)).update s.heap.objs.size (Obj.mapSeq (· ++ vs.toArray))).push (seqObj "list" vs.toArray 0)).get? (s.heap.objs.size + 1) = some (seqObj "list" vs.toArray 0) := by
    rw [← hsz]; exact Heap.get?_push_size _ rfl
  have keep : ∀ b o, s.heap.get? b = some o → b ≠ s.heap.objs.size + 1 ∧ (((s.heap.push (seqObj "list" #[] 0)).update s.heap.objs.size (Obj.mapSeq (· ++ vs.toArray))).push (seqObj "list" vs.toArray 0)).get? b = some o := fun b o q => by
    have hlt : b < s.heap.objs.size := Heap.lt_size q
    refine ⟨Nat.ne_of_lt (Nat.lt_succ_of_lt hlt), Heap.get?_push_of_some _ ?_⟩
    rw [Heap.get?_update_ne _ _ _ _ (Nat.ne_of_lt hlt)]
    exact Heap.get?_push_of_some _ q
  show wpAny _ _ _ _ _ { s with heap := ((s.heap.push (seqObj "list" #[] 0)).update s.heap.objs.size (Obj.mapSeq (· ++ vs.toArray))).push (seqObj "list" vs.toArray 0) }
  rw [hsz]
  refine wpAny_bind (wpAny_holding (wpAny_call_entry slot_list_sort ⟨_, hoL, rfl⟩ entry_list_sort (list_sort_ord O hoL hz (fun h2 => hS h2 _ _ hoL keep) fun out hs hb => ⟨_, rfl, ?_⟩) (args_list_sort _)))
  exact wpAny_pure ⟨_, rfl, h out hs hb⟩
end
theorem cr_sortedTI : CallR X (.builtin "sorted") (fun vs H Q => ∃ (a : Addr) (ns : List Int), vs = [V.ref a] ∧ SqT X.K H a (ns.map V.int) ∧ ∀ (ns' : List Int) (p : Addr), ns'.Perm ns → ns'.Pairwise (· ≤ ·) → H p = none → Q (.ref p) (upd H p (.lst (ns'.map V.int)))) := by
  intro pins s σ H vs us Q I r h
  obtain ⟨a, ns, rfl, hs, q⟩ := h
  obtain ⟨its, rv, hl, hz⟩ := I.tuple hs
  rw [Vals.ref1 r]
  have hi := rv.ints
  refine sort_tup SrtO.swo_int hl (by rw [← rv.length]; exact hz) (fun h2 h₁ a' _ _ => SrtO.ints_sortable hi h2) fun out h1 h2 => ?_
  obtain ⟨k1, k2, k3⟩ := SrtO.ints_out hi h1 h2
  obtain ⟨ep, he'⟩ := PyProof.Rows.sortedAll_at s.heap its out.toArray
  have hlen : ((out.map SrtO.iv).map V.int).length ≤ sizeLine := by
    rw [List.length_map, k2.length_eq]
    rw [List.length_map] at hz
    exact hz
  exact ⟨.ref _, upd H (s.heap.objs.size + 1) (.lst ((out.map SrtO.iv).map V.int)), I.laid (t' := s.toks) (fun _ _ => PyProof.Rows.sortedAll_old) (Nat.le_succ _) ⟨hlen, out, ep, vals_of_ints k1, he'⟩, rfl, q _ _ k2 k3 (I.hok.fresh (Nat.le_succ _))⟩
theorem b_sorted : CallR X (.builtin "sorted") (rPl ce sortF) := cr_imp (cr_or (cr_or cr_sortedI cr_sortedTI) cr_sortedTs) fun xs H Q ⟨hs, P, ds, d, r0, e, q⟩ => by
  unfold sortF at e
  split at e
  · rename_i ds
    obtain ⟨v, rfl, r⟩ := Reps.one_inv r0
    obtain ⟨a, vs, rfl, ea, hl, rr⟩ := rep_lst r
    cases hi : intsOf ds with
    | none =>
      rw [hi] at e
      cases e
    | some ns =>
      rw [hi] at e
      cases e
      have ev := rr.ofInts hi
      subst ev
      refine .inl (.inl ⟨a, ns, rfl, SqL.of ea, fun ns' p hp hs' hn => ?_⟩)
      have : ns' = sortI ns := srt_uniq (hp.trans (sortI_perm ns).symm) hs' (sortI_srt ns)
      subst this
      refine q _ _ (HExt.upd hn) (Rep.newL (reps_ints _) hn ?_ ⟨rfl, hn⟩)
      rw [List.length_map, (sortI_perm ns).length_eq]
      rwa [List.length_map] at hl
  · rename_i ds
    obtain ⟨v, rfl, r⟩ := Reps.one_inv r0
    obtain ⟨a, vs, rfl, ea, hl, rr⟩ := rep_tup r
    cases hi : intsOf ds with
    | none => rw [hi] at e; cases e
    | some ns =>
      rw [hi] at e
      cases e
      have ev := rr.ofInts hi
      subst ev
      refine .inl (.inr ⟨a, ns, rfl, ea.sq, fun ns' p hp hs' hn => ?_⟩)
      have : ns' = sortI ns := srt_uniq (hp.trans (sortI_perm ns).symm) hs' (sortI_srt ns)
      subst this
      refine q _ _ (HExt.upd hn) (Rep.newL (reps_ints _) hn ?_ ⟨rfl, hn⟩)
      rw [List.length_map, (sortI_perm ns).length_eq]
      rwa [List.length_map] at hl
  · cases e
theorem t_list : CallR X (.type "list") (rPl ce listF) := cr_imp call_list_of fun xs H Q ⟨hs, P, ds, d, r0, e, q⟩ => by
  unfold listF at e
  split at e
  · obtain ⟨v, rfl, r⟩ := Reps.one_inv r0
    obtain ⟨a, vs, rfl, ea, hl, rr⟩ := rep_lst r
    split at e
    · rename_i hf
      cases e
      exact ⟨a, vs, rfl, .inl (SqL.of ea), fun l hn => q _ _ (HExt.upd hn) (Rep.newL (reps_flat0 rr hf) hn hl ⟨rfl, hn⟩)⟩
    · cases e
  · obtain ⟨v, rfl, r⟩ := Reps.one_inv r0
    obtain ⟨a, vs, rfl, ea, hl, rr⟩ := rep_tup r
    split at e
    · rename_i hf
      cases e
      exact ⟨a, vs, rfl, .inr (ea.sq), fun l hn => q _ _ (HExt.upd hn) (Rep.newL (reps_flat0 rr hf) hn hl ⟨rfl, hn⟩)⟩
    · cases e
  · cases e
theorem t_tuple : CallR X (.type "tuple") (rPl ce tupF) := cr_imp call_tupleF fun xs H Q ⟨hs, P, ds, d, r0, e, q⟩ => by
  unfold tupF at e
  split at e
  · obtain ⟨v, rfl, r⟩ := Reps.one_inv r0
    obtain ⟨a, vs, rfl, ea, hl, rr⟩ := rep_lst r
    split at e
    · rename_i hf
      cases e
      exact ⟨a, vs, rfl, .inl ⟨SqL.of ea, fun l o hn ho => q _ _ (HExt.upd hn) (Rep.newT (reps_flat0 rr hf) hn ho hl)⟩⟩
    · cases e
  · obtain ⟨v, rfl, r⟩ := Reps.one_inv r0
    obtain ⟨a, vs, rfl, ea, hl, rr⟩ := rep_tup r
    split at e
    · rename_i hf
      cases e
      exact ⟨a, vs, rfl, .inr ⟨ea.sq, q _ _ HExt.refl (.tup ea hl (reps_flat0 rr hf))⟩⟩
    · cases e
  · cases e
theorem t_str : CallR X (.type "str") (rPl ce strF) := cr_imp call_str_int fun xs H Q ⟨hs, P, ds, d, r0, e, q⟩ => by
  unfold strF at e
  split at e
  · rename_i i
    obtain ⟨v, rfl, r⟩ := Reps.one_inv r0
    cases r
    split at e
    · rename_i hf
      cases e
      refine ⟨_, rfl, ?_, q _ _ HExt.refl (.str _)⟩
      have hlt := of_decide_eq_true hf
      by_cases h0 : i.natAbs = 0
      · rw [h0]; decide
      · exact (Nat.log2_lt h0).mpr (Nat.lt_of_lt_of_le hlt (Nat.le_trans (show 1000000000000 ≤ 2 ^ 40 by decide) (Nat.pow_le_pow_right (show 0 < 2 by decide) (show 40 ≤ 1920 by decide))))
    · cases e
  · cases e
theorem t_int : CallR X (.type "int") (rPl ce intF) := cr_imp (cr_or call_int_str call_int1) fun xs H Q ⟨hs, P, ds, d, r0, e, q⟩ => by
  unfold intF at e
  split at e
  · rename_i a
    obtain ⟨v, rfl, r⟩ := Reps.one_inv r0
    cases r
    split at e
    · rename_i hf
      cases hn : PySem.intText? a with
      | none => rw [hn] at e; cases e
      | some n =>
        rw [hn] at e
        cases e
        exact .inl ⟨_, n, rfl, hn, of_decide_eq_true hf, q _ _ HExt.refl (.int _)⟩
    · cases e
  · obtain ⟨v, rfl, r⟩ := Reps.one_inv r0
    cases r
    cases e
    exact .inr (.inl ⟨_, rfl, q _ _ HExt.refl (.int _)⟩)
  · cases e
theorem blt_ok (hc : X.calm = true) : ∀ {x : Str} {g : List D → Option D}, look tblB x = some g → x ∈ biNames ∧ ∃ id, bootBuiltins x = some (.builtin id) ∧ CallR X (.builtin id) (rPl ce g) := by
  intro x g h
  have h := look_mem h
  simp only [tblB, List.mem_cons, Prod.mk.injEq, List.not_mem_nil, or_false] at h
  rcases h with ⟨rfl, rfl⟩ | ⟨rfl, rfl⟩ | ⟨rfl, rfl⟩ | ⟨rfl, rfl⟩ | ⟨rfl, rfl⟩ | ⟨rfl, rfl⟩ | ⟨rfl, rfl⟩ | ⟨rfl, rfl⟩
  · exact ⟨by decide, _, boot_len, b_len⟩
  · exact ⟨by decide, "sum", by decide +kernel, b_sum hc⟩
  · exact ⟨by decide, "abs", by decide +kernel, b_abs⟩
  · exact ⟨by decide, "max", by decide +kernel, b_max hc⟩
  · exact ⟨by decide, "min", by decide +kernel, b_min hc⟩
  · exact ⟨by decide, "any", by decide +kernel, b_any hc⟩
  · exact ⟨by decide, "all", by decide +kernel, b_all hc⟩
  · exact ⟨by decide, "sorted", by decide +kernel, b_sorted⟩
theorem ty_ok : ∀ {x : Str} {g : List D → Option D}, look tblT x = some g → x ∈ biNames ∧ ∃ t, bootBuiltins x = some (.type t) ∧ CallR X (.type t) (rPl ce g) := by
  intro x g h
  have h := look_mem h
  simp only [tblT, List.mem_cons, Prod.mk.injEq, List.not_mem_nil, or_false] at h
  rcases h with ⟨rfl, rfl⟩ | ⟨rfl, rfl⟩ | ⟨rfl, rfl⟩ | ⟨rfl, rfl⟩
  · exact ⟨by decide, _, boot_list, t_list⟩
  · exact ⟨by decide, "tuple", by decide +kernel, t_tuple⟩
  · exact ⟨by decide, "str", by decide +kernel, t_str⟩
  · exact ⟨by decide, "int", by decide +kernel, t_int⟩
theorem okName_n {x : Str} (h : okName x = true) : x ≠ "__name__" := (okName_d h).2.2
theorem pl_b (B : Bok X sc) {x : Str} {a : Expr} {es : List Expr} {p pos : Pos} {g : List D → Option D} {te : Expr → TE} (hx : isGlo sc x = true) (hg : look tblB x = some g) (hs : (a :: es).all notStar = true) (h : ∀ b ∈ a :: es, PE X b (te b)) :
    PE X (.Call (.Name x p) (a :: es) [] pos) (tCB (rPl ce g) (tList te (a :: es))) := by
  obtain ⟨hm, id, hv, hc⟩ := blt_ok (ce := ce) B.calm hg
  obtain ⟨gl, okn⟩ := isGlo_ok B.sc_ hx
  have hs' := hs
  simp only [List.all_cons, Bool.and_eq_true] at hs'
  exact pe_callB hc gl (B.bi x hm) hv (pa_list hs h) (okName_n okn) (okName_d okn).1 (star_cons hs'.1) (star_none hs'.2)
theorem pl_t (B : Bok X sc) {x : Str} {a : Expr} {es : List Expr} {p pos : Pos} {g : List D → Option D} {te : Expr → TE} (hx : isGlo sc x = true) (hg : look tblT x = some g) (hs : (a :: es).all notStar = true) (h : ∀ b ∈ a :: es, PE X b (te b)) :
    PE X (.Call (.Name x p) (a :: es) [] pos) (tCB (rPl ce g) (tList te (a :: es))) := by
  obtain ⟨hm, id, hv, hc⟩ := ty_ok (ce := ce) hg
  obtain ⟨gl, okn⟩ := isGlo_ok B.sc_ hx
  have hs' := hs
  simp only [List.all_cons, Bool.and_eq_true] at hs'
  exact pe_callTy hc gl (B.bi x hm) hv (pa_list hs h) (okName_n okn) (okName_d okn).1 (star_cons hs'.1) (star_none hs'.2)
end
end T
namespace T
open PySem PySem.Spec PyProof.Rows L2
/-! ### further plain calls -/
def tyD : D → Option String
  | .none => some "NoneType"
  | .bool _ => some "bool"
  | .int _ => some "int"
  | .str _ => some "str"
  | .list _ => some "list"
  | .tuple _ => some "tuple"
  | _ => none
def tyNm : List (Str × String) := [("int", "int"), ("bool", "bool"), ("list", "list"), ("tuple", "tuple"), ("str", "str")]
def subT (t c : String) : Bool := decide (t = c) || (decide (t = "bool") && decide (c = "int"))
def isF (c : String) : List D → Option D
  | [d] => (tyD d).map fun t => .bool (subT t c)
  | _ => none
def lrF : List D → Option D
  | ds => match ds with
    | [.int j] => if small j then some (.list (rangeL 0 j.toNat)) else none
    | [.int i, .int j] => if small i && small j then some (.list (rangeL i (j - i).toNat)) else none
    | _ => none
def trF : List D → Option D
  | ds => match ds with
    | [.int j] => if small j then some (.tuple (rangeL 0 j.toNat)) else none
    | [.int i, .int j] => if small i && small j then some (.tuple (rangeL i (j - i).toNat)) else none
    | _ => none
def dedup (ns : List Int) : List Int := firstMet (fun i => ns.getD i 0) ns.length
def lsF : List D → Option D
  | [.list ds] => (intsOf ds).bind fun ns => if decide (ns.length ≤ 4000) then some (.int ((dedup ns).length : Nat)) else none
  | _ => none
def revF : List D → Option D
  | [.list ds] => if flatDs 0 ds then some (.list ds.reverse) else none
  | _ => none
section
variable {ce : Str → Option Addr} {X : Cx} {sc : Scope}
theorem ty_x {hs : List Addr} {H : Hp} {P : Pd} {v : V} {d : D} {t : String} {K : PySem.W.Frag} (r : Rep ce hs H P v d) (h : tyD d = some t) : TyX K H v (.type t) := by
  cases r with
  | non => cases h; exact .base .non
  | bl b => cases h; exact .base (.bl b)
  | int i => cases h; exact .base (.int i)
  | str x => cases h; exact .base (.str x)
  | lst e _ _ _ => cases h; exact .base (.lst e)
  | tup e _ _ => cases h; obtain ⟨_, _, e⟩ := e; exact .fTuple e
  | hdl _ => cases h
  | exc _ _ => cases h
theorem kit_ok (K : PySem.W.Frag) {d : D} {t c : String} {x : Str} (h : tyD d = some t) (hc : (x, c) ∈ tyNm) : PySem.W.kitOne K (.type t) (.type c) = some (subT t c) := by
  have ht : t ∈ ["NoneType", "bool", "int", "str", "list", "tuple"] := by
    cases d <;> first | (cases h; decide) | cases h
  simp only [tyNm, List.mem_cons, Prod.mk.injEq, List.not_mem_nil, or_false] at hc
  simp only [List.mem_cons, List.not_mem_nil, or_false] at ht
  rcases hc with ⟨_, rfl⟩ | ⟨_, rfl⟩ | ⟨_, rfl⟩ | ⟨_, rfl⟩ | ⟨_, rfl⟩ <;> rcases ht with rfl | rfl | rfl | rfl | rfl | rfl <;> kernel_rfl
theorem pe_tyn (B : Bok X sc) {x : Str} {c : String} {p : Pos} (hx : isGlo sc x = true) (hc : (x, c) ∈ tyNm) : PE X (.Name x p) (tC (.ty c)) := by
  obtain ⟨gl, okn⟩ := isGlo_ok B.sc_ hx
  have hb : x ∈ biNames ∧ bootBuiltins x = some (.type c) := by
    simp only [tyNm, List.mem_cons, Prod.mk.injEq, List.not_mem_nil, or_false] at hc
    rcases hc with ⟨rfl, rfl⟩ | ⟨rfl, rfl⟩ | ⟨rfl, rfl⟩ | ⟨rfl, rfl⟩ | ⟨rfl, rfl⟩ <;> exact ⟨by decide, by decide +kernel⟩
  exact ⟨fun pins s σ H Q I h => ld_blt I gl (B.bi x hb.1) hb.2 ⟨.ty c, H, I, rfl, h⟩ (okName_n okn) (okName_d okn).1⟩
variable {te : Expr → TE} {a b : Expr} {p p2 p3 q pos : Pos}
theorem pl_is (B : Bok X sc) (hm : MonoE te) {x : Str} {c : String} (h0 : isGlo sc "isinstance" = true) (hx : isGlo sc x = true) (hc : (x, c) ∈ tyNm) (hs : notStar a = true) (h : PE X a (te a)) :
    PE X (.Call (.Name "isinstance" p) [a, .Name x p2] [] pos) (tCB (rPl ce (isF c)) (tList te [a])) := by
  obtain ⟨gl, okn⟩ := isGlo_ok B.sc_ h0
  refine imE (pe_callB (id := "isinstance") call_isi gl (B.bi _ (by decide)) (by decide +kernel) (pa_cons h (pa_cons (pe_tyn B hx hc) pa_nil rfl) (star_cons hs)) (by decide) (by decide) (star_cons hs) rfl) fun σ H Q q => ?_
  refine hm _ _ _ _ _ (fun v H1 ⟨hs, P, ds, d, r0, e, q⟩ => ?_) q
  unfold isF at e
  split at e
  · rename_i d'
    obtain ⟨v, ev, r⟩ := Reps.one_inv r0
    cases ev
    cases ht : tyD d' with
    | none => rw [ht] at e; cases e
    | some t =>
      rw [ht] at e
      cases e
      exact ⟨v, .ty c, .type t, .type c, _, rfl, .ty c, ty_x r ht, kit_ok X.K ht hc, q _ _ HExt.refl (.bl _)⟩
  · cases e
theorem rangeL_rgV (lo : Int) (n : Nat) {hs : List Addr} {H : Hp} {P : Pd} : Reps ce hs H P ((List.range n).map fun i => V.int (lo + (i : Nat))) (rangeL lo n) := by
  induction n generalizing lo with
  | zero => exact .nil
  | succ n ih =>
    rw [List.range_succ_eq_map, List.map_cons, List.map_map]
    refine .cons (by simpa using Rep.int lo) ?_
    have := ih (lo + 1)
    have e : ((fun i : Nat => V.int (lo + (i : Nat))) ∘ Nat.succ) = fun i : Nat => V.int (lo + 1 + (i : Nat)) := by
      funext i; show V.int _ = V.int _; congr 1; push_cast; omega
    rw [e]
    exact this
theorem rg0 (j : Int) {hs : List Addr} {H : Hp} {P : Pd} : Reps ce hs H P (rgV 0 j) (rangeL 0 j.toNat) := by
  have := rangeL_rgV (ce := ce) (hs := hs) (H := H) (P := P) 0 j.toNat
  unfold rgV
  rw [Int.sub_zero]
  exact this
theorem small_le {j : Int} (h : small j = true) : j.natAbs ≤ 1000000 := of_decide_eq_true h
theorem rg_ok {i j : Int} (h1 : small i = true) (h2 : small j = true) : RgOk i j ∧ (rgV i j).length ≤ sizeLine := by
  have a := small_le h1
  have b := small_le h2
  refine ⟨⟨by omega, by omega, by omega, by omega, by omega⟩, ?_⟩
  rw [rgV_length, sizeLine_eq]; omega
theorem prg1_le (B : Bok X sc) (h0 : isGlo sc "range" = true) (hs : notStar a = true) (h : PE X a (te a)) : PRg X (.Call (.Name "range" p) [a] [] pos) (tRg1 (te a)) :=
  prg_1 (isGlo_ok B.sc_ h0).1 (B.bi _ (by decide)) h (star_cons hs)
theorem prg2_le (B : Bok X sc) (h0 : isGlo sc "range" = true) (hs : notStar a = true) (hs2 : notStar b = true) (h : PE X a (te a)) (h2 : PE X b (te b)) : PRg X (.Call (.Name "range" p) [a, b] [] pos) (tRg2 (te a) (te b)) :=
  prg_2 (isGlo_ok B.sc_ h0).1 (B.bi _ (by decide)) h h2 (star_cons hs) (star_cons hs2) (by rw [star_cons hs2]; rfl)
theorem pl_lr1 (B : Bok X sc) (hm : MonoE te) (h0 : isGlo sc "list" = true) (h1 : isGlo sc "range" = true) (hs : notStar a = true) (h : PE X a (te a)) :
    PE X (.Call (.Name "list" p) [.Call (.Name "range" p2) [a] [] q] [] pos) (tCB (rPl ce lrF) (tList te [a])) := by
  refine imE (pe_listRg B.calm (isGlo_ok B.sc_ h0).1 (B.bi _ (by decide)) (prg1_le B h1 hs h) rfl) fun σ H Q q => hm _ _ _ _ _ (fun v H1 ⟨hs, P, ds, d, r0, e, q⟩ => ?_) q
  unfold lrF at e
  dsimp only at e
  split at e
  · obtain ⟨v, ev, r⟩ := Reps.one_inv r0
    cases ev
    cases r
    split at e
    · rename_i hsm
      cases e
      obtain ⟨r1, r2⟩ := rg_ok (i := 0) (by decide) hsm
      exact ⟨_, rfl, r1, fun l hl => q _ _ (HExt.upd hl) (Rep.newL (rg0 _) hl r2 ⟨rfl, hl⟩)⟩
    · cases e
  · obtain ⟨v, u, ev, _⟩ := Reps.two_inv r0
    cases ev
  · cases e
theorem pl_lr2 (B : Bok X sc) (hm : MonoE te) (h0 : isGlo sc "list" = true) (h1 : isGlo sc "range" = true) (hs : notStar a = true) (hs2 : notStar b = true) (h : PE X a (te a)) (h2 : PE X b (te b)) :
    PE X (.Call (.Name "list" p) [.Call (.Name "range" p2) [a, b] [] q] [] pos) (tCB (rPl ce lrF) (tList te [a, b])) := by
  refine imE (pe_listRg B.calm (isGlo_ok B.sc_ h0).1 (B.bi _ (by decide)) (prg2_le B h1 hs hs2 h h2) rfl) fun σ H Q q => hm _ _ _ _ _ (fun v H1 q => hm _ _ _ _ _ (fun u H2 ⟨hs, P, ds, d, r0, e, q⟩ => ?_) q) q
  unfold lrF at e
  dsimp only at e
  split at e
  · obtain ⟨v, ev, r⟩ := Reps.one_inv r0
    cases ev
  · obtain ⟨v, u, ev, r, r'⟩ := Reps.two_inv r0
    cases ev
    cases r
    cases r'
    split at e
    · rename_i hsm
      cases e
      obtain ⟨s1, s2⟩ := Bool.and_eq_true_iff.mp hsm
      obtain ⟨r1, r2⟩ := rg_ok s1 s2
      exact ⟨_, _, rfl, rfl, r1, fun l hl => q _ _ (HExt.upd hl) (Rep.newL (rangeL_rgV _ _) hl r2 ⟨rfl, hl⟩)⟩
    · cases e
  · cases e
theorem pl_tr1 (B : Bok X sc) (hm : MonoE te) (h0 : isGlo sc "tuple" = true) (h1 : isGlo sc "range" = true) (hs : notStar a = true) (h : PE X a (te a)) :
    PE X (.Call (.Name "tuple" p) [.Call (.Name "range" p2) [a] [] q] [] pos) (tCB (rPl ce trF) (tList te [a])) := by
  refine imE (pe_tupRgF B.calm (isGlo_ok B.sc_ h0).1 (B.bi _ (by decide)) (prg1_le B h1 hs h) rfl) fun σ H Q q => hm _ _ _ _ _ (fun v H1 ⟨hs, P, ds, d, r0, e, q⟩ => ?_) q
  unfold trF at e
  dsimp only at e
  split at e
  · obtain ⟨v, ev, r⟩ := Reps.one_inv r0
    cases ev
    cases r
    split at e
    · rename_i hsm
      cases e
      obtain ⟨r1, r2⟩ := rg_ok (i := 0) (by decide) hsm
      exact ⟨_, rfl, r1, fun l o hl ho => q _ _ (HExt.upd hl) (Rep.newT (rg0 _) hl ho r2)⟩
    · cases e
  · obtain ⟨v, u, ev, _⟩ := Reps.two_inv r0
    cases ev
  · cases e
theorem pl_rev (hm : MonoE te) {k : Nat} {p4 : Pos} (h : PE X a (te a)) : PE X (.Subscript a (.Slice none none (some (.UnaryOp .USub (.Constant (.int 1) k p) p2)) p3) pos) (tCB (rPl ce revF) (tList te [a])) := by
  refine imE (pe_revL h) fun σ H Q q => hm _ _ _ _ _ (fun v H1 ⟨hs, P, ds, d, r0, e, q⟩ => ?_) q
  unfold revF at e
  split at e
  · obtain ⟨v, ev, r⟩ := Reps.one_inv r0
    cases ev
    obtain ⟨a, vs, rfl, ea, hl, rr⟩ := rep_lst r
    split at e
    · rename_i hf
      cases e
      refine ⟨a, vs, rfl, SqL.of ea, fun l hn => q _ _ (HExt.upd hn) (Rep.newL ?_ hn (by rw [List.length_reverse]; exact hl) ⟨rfl, hn⟩)⟩
      have go : ∀ {P : Pd} {vs : List V} {ds : List D}, Reps ce hs H1 P vs ds → Reps ce hs H1 P vs.reverse ds.reverse := by
        intro P vs
        induction vs with
        | nil => intro ds r; cases r; exact .nil
        | cons v vs ih =>
          intro ds r
          cases r with
          | cons x r => rw [List.reverse_cons, List.reverse_cons]; exact (ih r).append (.one x)
      exact go (reps_flat0 rr hf)
    · cases e
  · cases e
theorem pl_ls (B : Bok X sc) (hm : MonoE te) (h0 : isGlo sc "len" = true) (h1 : isGlo sc "set" = true) (hs : notStar a = true) (h : PE X a (te a)) :
    PE X (.Call (.Name "len" p) [.Call (.Name "set" p2) [a] [] q] [] pos) (tCB (rPl ce lsF) (tList te [a])) := by
  refine ⟨fun pins s σ H Q I hq => ?_⟩
  refine Call_ (ld_blt I (isGlo_ok B.sc_ h0).1 (B.bi _ (by decide)) boot_len ?_)
  refine PyProof.Rows.callWith_builtin1 (PyProof.Rows.args_cons ?_ rfl) rfl rfl
  refine Call_ (ld_blt I (isGlo_ok B.sc_ h1).1 (B.bi _ (by decide)) boot_set ?_)
  refine PyProof.Rows.callWith_type1 (PyProof.Rows.args_cons (thn (h.run pins s σ H _ I hq) fun v s1 ⟨x, H1, I1, r1, q1⟩ => PyProof.Rows.args_nil ?_) (star_cons hs)) (star_cons hs) rfl
  obtain ⟨hs', P, ds, d, r0, e, q1⟩ := q1
  unfold lsF at e
  split at e
  · rename_i ds'
    obtain ⟨v, ev, r⟩ := Reps.one_inv r0
    cases ev
    obtain ⟨l, vs, rfl, ea, hl, rr⟩ := rep_lst r
    cases hi : intsOf ds' with
    | none => rw [hi] at e; cases e
    | some ns =>
      rw [hi] at e
      have e : (if decide (ns.length ≤ 4000) then some (PyData.int ((dedup ns).length : Nat)) else none) = some d := e
      split at e
      · rename_i hlt
        have hlt := of_decide_eq_true hlt
        cases e
        rw [rr.ofInts hi] at ea
        cases r1
        obtain ⟨its, r, pl, hz⟩ := I1.list (SqL.of ea)
        have hlen : its.toArray.size = ns.length := by rw [List.size_toArray, ← r.length, List.length_map]
        refine call_set_list (I1.ok.hd B.calm) pl.isList (by simpa using RZ.intsAre_vals r) (by rw [hlen]; unfold scanBound; omega) fun h' tk hS hk => ?_
        refine PyProof.Rows.args_nil ?_
        rw [hlen] at hS
        obtain ⟨o, es, ep, t, ho, hex, hd, _, _, _, hf, hn⟩ := hS
        have I2 : Inv X pins σ H1 { s1 with heap := h', toks := tk } := I1.kept fun b o e => hk b o (Heap.lt_size e) e
        have hle : (dedup ns).length ≤ ns.length := firstMet_length_le _ _
        exact call_len_set ho hex hd hf (by rw [hn]; show (((dedup ns).length : Nat) : Int) < 2 ^ 63; omega) ⟨.int ((dedup ns).length : Nat), H1, I2.tok _, ⟨_, by rw [hn]; rfl⟩, q1 _ _ HExt.refl (.int _)⟩
      · cases e
  · cases e
end
end T
namespace T
open PySem PySem.Spec PyProof.Rows L2
/-! ### tuple(range(i, j, -1)), list(range(i, j, 2)) -/
def tr3F : List D → Option D
  | [.int i, .int j, .int c] => if small i && small j && decide (c = -1) then some (.tuple (downL i (i - j).toNat)) else none
  | _ => none
def upL2 (lo : Int) : Nat → List D
  | 0 => []
  | n + 1 => .int lo :: upL2 (lo + 2) n
def lr3F : List D → Option D
  | [.int i, .int j, .int c] => if small i && small j && decide (c = 2) then some (.list (upL2 i ((j - i + 1) / 2).toNat)) else none
  | _ => none
theorem reps_steps {ce : Str → Option Addr} {hs : List Addr} {H : Hp} {P : Pd} {a c : Int} {acc : Array Value} {n : Nat} (h : ItemsOf (fun i v => ∃ t, v = .int (a + i * c) t) acc n) : Vals ((List.range n).map fun i => V.int (a + (i : Nat) * c)) acc.toList := by
  have e : acc.toList.length = n := by rw [Array.length_toList]; exact h.1
  have := vals_of_get acc.toList (fun i => V.int (a + (i : Nat) * c)) fun j u hj => by
    obtain ⟨t, rfl⟩ := h.2 j u (by rw [← hj, Array.getElem?_toList])
    exact ⟨t, rfl⟩
  rw [e] at this
  exact this
theorem downL_reps {ce : Str → Option Addr} {hs : List Addr} {H : Hp} {P : Pd} (a : Int) (n : Nat) : Reps ce hs H P ((List.range n).map fun i => V.int (a + (i : Nat) * (-1))) (downL a n) := by
  induction n generalizing a with
  | zero => exact .nil
  | succ n ih =>
    rw [List.range_succ_eq_map, List.map_cons, List.map_map]
    have e0 : V.int (a + ((0 : Nat) : Int) * (-1)) = V.int a := by simp
    rw [e0]
    refine .cons (.int a) ?_
    have e : (List.range n).map ((fun (i : Nat) => V.int (a + (i : Int) * (-1))) ∘ Nat.succ) = (List.range n).map fun i => V.int (a - 1 + (i : Nat) * (-1)) := by
      apply List.map_congr_left; intro i _; show V.int _ = V.int _; congr 1; simp; omega
    rw [e]
    exact ih (a - 1)
theorem upL2_reps {ce : Str → Option Addr} {hs : List Addr} {H : Hp} {P : Pd} (a : Int) (n : Nat) : Reps ce hs H P ((List.range n).map fun i => V.int (a + (i : Nat) * 2)) (upL2 a n) := by
  induction n generalizing a with
  | zero => exact .nil
  | succ n ih =>
    rw [List.range_succ_eq_map, List.map_cons, List.map_map]
    have e0 : V.int (a + ((0 : Nat) : Int) * 2) = V.int a := by simp
    rw [e0]
    refine .cons (.int a) ?_
    have e : (List.range n).map ((fun (i : Nat) => V.int (a + (i : Int) * 2)) ∘ Nat.succ) = (List.range n).map fun i => V.int (a + 2 + (i : Nat) * 2) := by
      apply List.map_congr_left; intro i _; show V.int _ = V.int _; congr 1; simp; omega
    rw [e]
    exact ih (a + 2)
theorem size_two (i j : Int) : Builtin.Range.rangeSize i j 2 = (((j - i + 1) / 2).toNat : Int) := by
  unfold Builtin.Range.rangeSize
  simp only [show (2 : Int) > 0 by decide, if_true]
  split <;> omega
theorem small_two {i j : Int} (ha : -(2 ^ 61) ≤ i) (ha' : i < 2 ^ 61) (hb : -(2 ^ 61) ≤ j) (hb' : j < 2 ^ 61) : Builtin.Range.small i j 2 = true := by
  unfold Builtin.Range.small
  rw [size_two]
  simp only [Builtin.Range.rangeFitsLong, Bool.and_eq_true, Bool.or_eq_true, decide_eq_true_eq, beq_iff_eq, show (2 : Int) > 0 by decide, if_true]
  omega
section
variable {ce : Str → Option Addr} {X : Cx} {sc : Scope} {te : Expr → TE} {a b c : Expr} {p p2 q pos : Pos}
/-- a range of three parts -/
theorem rg3_le (B : Bok X sc) (h1 : isGlo sc "range" = true) (hs : [a, b, c].all notStar = true) (h : ∀ e ∈ [a, b, c], PE X e (te e)) {pins : List (Addr × Obj)} {s : Shared} {σ : L2.St} {H : Hp} {Q : List V → Hp → Prop} (I : L2.Inv X pins σ H s) (hq : tList te [a, b, c] σ H Q) (hQ : ∀ vs H1, Q vs H1 → ∃ (i j k : Int) (n : Nat), vs = [.int i, .int j, .int k] ∧ RgC i j k n) :
    wpAny (model X.prog X.w) X.A (eval (.Call (.Name "range" p2) [a, b, c] [] q) X.env) (fun x s' => ∃ r i j k t u v n H', x = .ref r ∧ IsRange s'.heap r i j k t u v ∧ RgC i j k n ∧ L2.Inv X pins σ H' s' ∧ Q [.int i, .int j, .int k] H') X.xe s := by
  have hs' := hs
  simp only [List.all_cons, Bool.and_eq_true] at hs'
  refine Call_ (ld_blt I (isGlo_ok B.sc_ h1).1 (B.bi _ (by decide)) boot_range (PyProof.Rows.callWith_type1 (thn ((pa_list hs h).run q pins s σ H _ I hq) fun us s1 ⟨vs, H1, I1, r1, q1⟩ => ?_) (star_cons hs'.1) (star_none (by simp only [List.all_cons, Bool.and_eq_true]; exact hs'.2))))
  obtain ⟨i, j, k, n, rfl, R⟩ := hQ vs H1 q1
  cases r1 with
  | cons r rr =>
    cases rr with
    | cons r' rr =>
      cases rr with
      | cons r'' rr =>
        cases rr
        obtain ⟨t, rfl⟩ := r
        obtain ⟨t', rfl⟩ := r'
        obtain ⟨t'', rfl⟩ := r''
        exact call_range_3 R.1 ⟨_, i, j, k, _, _, _, n, H1, rfl, IsRange.new .., R, I1.kept fun b u e => Heap.get?_push_of_some _ e, q1⟩ (.inl (PyProof.noPylong_small R.2.1))
theorem small3 {i : Int} (h : small i = true) : -(2 ^ 61) ≤ i ∧ i < 2 ^ 61 := by
  have := small_le h
  omega
theorem pl_tr3 (B : Bok X sc) (hm : MonoE te) (h0 : isGlo sc "tuple" = true) (h1 : isGlo sc "range" = true) (hs : [a, b, c].all notStar = true) (h : ∀ e ∈ [a, b, c], PE X e (te e)) :
    PE X (.Call (.Name "tuple" p) [.Call (.Name "range" p2) [a, b, c] [] q] [] pos) (tCB (rPl ce tr3F) (tList te [a, b, c])) := by
  refine ⟨fun pins s σ H Q I hq => ?_⟩
  refine Call_ (ld_blt I (isGlo_ok B.sc_ h0).1 (B.bi _ (by decide)) boot_tuple ?_)
  refine PyProof.Rows.callWith_type1 (PyProof.Rows.args_cons (thn (rg3_le B h1 hs h I hq fun vs H1 hv => ?_) fun x s1 ⟨r, i, j, k, t, u, v, n, H1, ex, hr, R, I1, q1⟩ => PyProof.Rows.args_nil ?_) rfl) rfl rfl
  · obtain ⟨hs', P, ds, d, r0, e, q1⟩ := hv
    unfold tr3F at e
    split at e
    · rename_i i j k
      cases r0 with
      | cons x1 r0 =>
        cases r0 with
        | cons x2 r0 =>
          cases r0 with
          | cons x3 r0 =>
            cases r0; cases x1; cases x2; cases x3
            split at e
            · rename_i hg
              simp only [Bool.and_eq_true, decide_eq_true_eq] at hg
              obtain ⟨⟨g1, g2⟩, rfl⟩ := hg
              have s1 := small3 g1
              have s2 := small3 g2
              exact ⟨i, j, -1, _, rfl, RgC.neg (by omega) (by omega) (by omega) (by omega)⟩
            · cases e
    · cases e
  · subst ex
    obtain ⟨hs', P, ds, d, r0, e, q1⟩ := q1
    unfold tr3F at e
    split at e
    · rename_i i' j' k'
      cases r0 with
      | cons x1 r0 =>
        cases r0 with
        | cons x2 r0 =>
          cases r0 with
          | cons x3 r0 =>
            cases r0; cases x1; cases x2; cases x3
            split at e
            · rename_i hg
              cases e
              simp only [Bool.and_eq_true, decide_eq_true_eq] at hg
              obtain ⟨⟨g1, g2⟩, rfl⟩ := hg
              have z1 := small_le g1
              have z2 := small_le g2
              have hn : n = (i - j).toNat := by
                have := R.2.2.2
                rw [PySem.W.rangeSize_downNat] at this
                exact_mod_cast this.symm
              subst hn
              refine call_tuple_range (n := (i - j).toNat) (I1.ok.hd B.calm) hr R.2.2.1 R.2.2.2 (by omega) fun h' tk acc hk hi => ?_
              have I2 : L2.Inv X pins σ H1 { s1 with heap := h', toks := tk } := I1.kept hk
              have hl : ((List.range (i - j).toNat).map fun k => V.int (i + (k : Nat) * (-1))).length ≤ sizeLine := by rw [List.length_map, List.length_range, sizeLine_eq]; omega
              refine ⟨.ref h'.objs.size, _, I2.laid (t' := tk) (o := .frz _ (.tup ((List.range (i - j).toNat).map fun k => V.int (i + (k : Nat) * (-1))))) (fun c o e => Heap.get?_push_of_some _ e) (Nat.le_refl _) (show ObjOk X.prog X.w _ _ _ (.frz _ (.tup _)) from ⟨Heap.get?_push_size _ rfl, hl, acc.toList, reps_steps (ce := ce) (hs := []) (H := H1) (P := fun _ _ => True) hi, ?_⟩), rfl, ?_⟩
              · rw [Array.toArray_toList]; exact IsTup.new _ _
              · have hnn := I2.hok.fresh (Nat.le_refl _)
                exact q1 _ _ (HExt.upd hnn) (Rep.newT (downL_reps i _) hnn rfl hl)
            · cases e
    · cases e
theorem pl_lr3 (B : Bok X sc) (hm : MonoE te) (h0 : isGlo sc "list" = true) (h1 : isGlo sc "range" = true) (hs : [a, b, c].all notStar = true) (h : ∀ e ∈ [a, b, c], PE X e (te e)) :
    PE X (.Call (.Name "list" p) [.Call (.Name "range" p2) [a, b, c] [] q] [] pos) (tCB (rPl ce lr3F) (tList te [a, b, c])) := by
  refine ⟨fun pins s σ H Q I hq => ?_⟩
  refine Call_ (ld_blt I (isGlo_ok B.sc_ h0).1 (B.bi _ (by decide)) boot_list ?_)
  refine PyProof.Rows.callWith_type1 (PyProof.Rows.args_cons (thn (rg3_le B h1 hs h I hq fun vs H1 hv => ?_) fun x s1 ⟨r, i, j, k, t, u, v, n, H1, ex, hr, R, I1, q1⟩ => PyProof.Rows.args_nil ?_) rfl) rfl rfl
  · obtain ⟨hs', P, ds, d, r0, e, q1⟩ := hv
    unfold lr3F at e
    split at e
    · rename_i i j k
      cases r0 with
      | cons x1 r0 =>
        cases r0 with
        | cons x2 r0 =>
          cases r0 with
          | cons x3 r0 =>
            cases r0; cases x1; cases x2; cases x3
            split at e
            · rename_i hg
              simp only [Bool.and_eq_true, decide_eq_true_eq] at hg
              obtain ⟨⟨g1, g2⟩, rfl⟩ := hg
              have s1 := small3 g1
              have s2 := small3 g2
              exact ⟨i, j, 2, _, rfl, by decide, by decide, small_two s1.1 s1.2 s2.1 s2.2, size_two i j⟩
            · cases e
    · cases e
  · subst ex
    obtain ⟨hs', P, ds, d, r0, e, q1⟩ := q1
    unfold lr3F at e
    split at e
    · rename_i i' j' k'
      cases r0 with
      | cons x1 r0 =>
        cases r0 with
        | cons x2 r0 =>
          cases r0 with
          | cons x3 r0 =>
            cases r0; cases x1; cases x2; cases x3
            split at e
            · rename_i hg
              cases e
              simp only [Bool.and_eq_true, decide_eq_true_eq] at hg
              obtain ⟨⟨g1, g2⟩, rfl⟩ := hg
              have z1 := small_le g1
              have z2 := small_le g2
              have hn : n = ((j - i + 1) / 2).toNat := by
                have := R.2.2.2
                rw [size_two] at this
                exact_mod_cast this.symm
              subst hn
              refine call_list_range (n := ((j - i + 1) / 2).toNat) (I1.ok.hd B.calm) hr R.2.2.1 R.2.2.2 (by omega) fun h' tk acc c' hk e' hi => ?_
              have hl : ((List.range ((j - i + 1) / 2).toNat).map fun k => V.int (i + (k : Nat) * 2)).length ≤ sizeLine := by rw [List.length_map, List.length_range, sizeLine_eq]; omega
              refine ⟨.ref s1.heap.objs.size, upd H1 s1.heap.objs.size (.lst ((List.range ((j - i + 1) / 2).toNat).map fun k => V.int (i + (k : Nat) * 2))), I1.laid hk (Nat.le_refl _) (show ObjOk X.prog X.w _ _ _ (.lst _) from ⟨hl, acc.toList, c', reps_steps (ce := ce) (hs := []) (H := H1) (P := fun _ _ => True) hi, ?_⟩), rfl, ?_⟩
              · rw [Array.toArray_toList]; exact e'
              · have hnn := I1.hok.fresh (Nat.le_refl _)
                exact q1 _ _ (HExt.upd hnn) (Rep.newL (upL2_reps i _) hnn hl ⟨rfl, hnn⟩)
            · cases e
    · cases e
end
end T
namespace T
open PySem PySem.Spec PyProof.Rows L2
/-! ### list(zip(a, b)) -/
abbrev IsZ2 (h : Heap) (z T : Addr) (f : Bool) (TI TO : Addr) : Prop :=
  h.get? z = some { cls := .type "zip", dict := none, data := .fields #[rawInt T, .bool f, .bool false, .ref TI, .ref TO], slots := #[] }
section
variable {prog : Program} {w : World} {A : Around} {E : Value → Shared → Prop} {s : Shared}
theorem held_free {z T TI TO : Addr} {f : Bool} {oT : Obj} {Q : Bool → Shared → Prop} (hz : IsZ2 s.heap z T f TI TO) (hT : s.heap.get? T = some oT)
    (hQ : ∀ h', IsZ2 h' z T true TI TO → Heap.SameBut z s.heap h' → Q false { s with heap := h' }) : wpAny (model prog w) A (Builtin.SmallTypes.ownedTupleIsFree (.ref z)) Q E s := by
  unfold Builtin.SmallTypes.ownedTupleIsFree
  refine wpAny_bind (wpAny_field hz rfl (x := rawInt T) rfl ?_)
  show wpAny _ _ (loadIfAlive T >>= _) _ _ _
  refine wpAny_bind (PySem.W.kdx_alive hT ?_)
  show wpAny _ _ (field (.ref z) 1 >>= _) _ _ _
  refine wpAny_bind (wpAny_field hz rfl (x := .bool f) rfl ?_)
  cases f with
  | true => exact wpAny_pure (hQ s.heap hz (Heap.SameBut.refl _ _))
  | false =>
    show wpAny _ _ (setField (.ref z) 1 (.bool true) >>= _) _ _ _
    exact wpAny_bind (wpAny_setField_rec hz (by simp) fun h' hz' hs' => wpAny_pure (hQ h' hz' hs'))
theorem zip2_item {z T TI TO i1 i2 l1 l2 : Addr} {f : Bool} {oT : Obj} {k1 k2 : Nat} {xs ys : Array Value} {x y : Value} {Q : Value → Shared → Prop} (D : ZipApart z TI TO i1 i2 l1 l2)
    (hz : IsZ2 s.heap z T f TI TO) (hT : s.heap.get? T = some oT) (hTI : IsPair s.heap TI (.ref i1) (.ref i2))
    (h1 : s.heap.IsListIter i1 l1 k1) (h2 : s.heap.IsListIter i2 l2 k2) (hl1 : s.heap.IsList l1 xs) (hl2 : s.heap.IsList l2 ys) (hx : xs[k1]? = some x) (hy : ys[k2]? = some y)
    (hQ : ∀ h', IsZ2 h' z T true TI TO → h'.IsListIter i1 l1 (k1 + 1) → h'.IsListIter i2 l2 (k2 + 1) → IsPair h' s.heap.objs.size x y → h'.objs.size = s.heap.objs.size + 1 →
      (∀ c o, c ≠ z → c ≠ i1 → c ≠ i2 → s.heap.get? c = some o → h'.get? c = some o) → Q (.ref s.heap.objs.size) { s with heap := h' }) :
    wpAny (model prog w) A (Builtin.«zip.__next__» ⟨[.ref z], []⟩) (fun fin s' => ∃ v, fin = .done (.ret v) ∧ Q v s') E s := by
  show wpAny _ _ (field (.ref z) 2 >>= _) _ _ _
  refine wpAny_bind (wpAny_field hz rfl (x := .bool false) rfl ?_)
  show wpAny _ _ (field (.ref z) 3 >>= _) _ _ _
  refine wpAny_bind (wpAny_field hz rfl (x := .ref TI) rfl ?_)
  refine wpAny_bind (wpAny_seqItems hTI rfl ?_)
  show wpAny _ _ (Builtin.SmallTypes.ownedTupleIsFree (.ref z) >>= _) _ _ _
  refine wpAny_bind (held_free hz hT fun h₁ hz₁ hs₁ => ?_)
  simp only [Bool.false_eq_true, if_false]
  refine wpAny_bind ?_
  rw [← Array.forIn_toList]
  simp only [List.forIn_cons, List.forIn_nil]
  refine wpAny_bind (wpAny_bind (wpAny_holding ?_))
  show wpAny _ _ (Builtin.SmallTypes.nextOf (.ref i1) >>= _) _ _ _
  refine wpAny_bind (wpAny_nextOf_list_item (h1.extBut hs₁.extBut D.i1z) (hl1.extBut hs₁.extBut D.l1z) hx fun h₂ h1₂ hs₂ => wpAny_pure (wpAny_pure ?_))
  refine wpAny_bind (wpAny_bind (wpAny_holding ?_))
  show wpAny _ _ (Builtin.SmallTypes.nextOf (.ref i2) >>= _) _ _ _
  refine wpAny_bind (wpAny_nextOf_list_item ((h2.extBut hs₁.extBut D.i2z).extBut hs₂.extBut D.i12.symm) ((hl2.extBut hs₁.extBut D.l2z).extBut hs₂.extBut D.l2i1) hy fun h₃ h2₃ hs₃ => wpAny_pure (wpAny_pure (wpAny_pure ?_)))
  refine wpAny_bind (wpAny_newTuple ?_ (show 2 ≤ sizeLine by rw [sizeLine_eq]; decide))
  have hsz : h₃.objs.size = s.heap.objs.size := by rw [hs₃.1, hs₂.1, hs₁.1]
  have hz₃ : IsZ2 h₃ z T true TI TO := hs₃.extBut _ _ D.i2z.symm (hs₂.extBut _ _ D.i1z.symm hz₁)
  have h1₃ : h₃.IsListIter i1 l1 (k1 + 1) := h1₂.extBut hs₃.extBut D.i12
  refine wpAny_pure ⟨_, rfl, ?_⟩
  show Q (.ref h₃.objs.size) _
  rw [hsz]
  have hp : ∀ c o, h₃.get? c = some o → (h₃.push { cls := .type "tuple", data := .seq #[x, y] }).get? c = some o := fun c o e => Heap.get?_push_of_some _ e
  refine hQ _ (hp _ _ hz₃) (h1₃.at fun o e => hp _ o e) (h2₃.at fun o e => hp _ o e) ?_ (by rw [Heap.size_push, hsz]) fun c o c1 c2 c3 e => hp _ _ (hs₃.extBut _ _ c3 (hs₂.extBut _ _ c2 (hs₁.extBut _ _ c1 e)))
  rw [← hsz]
  exact Heap.get?_push_size _ rfl
theorem zip2_end {z T TI TO i1 i2 l1 l2 : Addr} {f : Bool} {oT : Obj} {k1 k2 : Nat} {xs ys : Array Value} {Q : Fin → Shared → Prop} (hh : A.handled = none) (D : ZipApart z TI TO i1 i2 l1 l2)
    (hz : IsZ2 s.heap z T f TI TO) (hT : s.heap.get? T = some oT) (hTI : IsPair s.heap TI (.ref i1) (.ref i2))
    (h1 : s.heap.IsListIter i1 l1 k1) (h2 : s.heap.IsListIter i2 l2 k2) (hl1 : s.heap.IsList l1 xs) (hl2 : s.heap.IsList l2 ys) (hend : xs[k1]? = none ∨ ys[k2]? = none)
    (hE : ∀ h' e, (∀ c o, c ≠ z → c ≠ i1 → c ≠ i2 → s.heap.get? c = some o → h'.get? c = some o) → (∃ o, h'.get? e = some o ∧ o.cls = .type "StopIteration") → E (.ref e) { s with heap := h' }) :
    wpAny (model prog w) A (Builtin.«zip.__next__» ⟨[.ref z], []⟩) Q E s := by
  show wpAny _ _ (field (.ref z) 2 >>= _) _ _ _
  refine wpAny_bind (wpAny_field hz rfl (x := .bool false) rfl ?_)
  show wpAny _ _ (field (.ref z) 3 >>= _) _ _ _
  refine wpAny_bind (wpAny_field hz rfl (x := .ref TI) rfl ?_)
  refine wpAny_bind (wpAny_seqItems hTI rfl ?_)
  show wpAny _ _ (Builtin.SmallTypes.ownedTupleIsFree (.ref z) >>= _) _ _ _
  refine wpAny_bind (held_free hz hT fun h₁ hz₁ hs₁ => ?_)
  simp only [Bool.false_eq_true, if_false]
  refine wpAny_bind ?_
  rw [← Array.forIn_toList]
  simp only [List.forIn_cons, List.forIn_nil]
  refine wpAny_bind (wpAny_bind (wpAny_holding ?_))
  show wpAny _ _ (Builtin.SmallTypes.nextOf (.ref i1) >>= _) _ _ _
  cases hx : xs[k1]? with
  | none =>
    refine wpAny_bind (wpAny_nextOf_list_end hh (h1.extBut hs₁.extBut D.i1z) (hl1.extBut hs₁.extBut D.l1z) hx fun h₂ e hs₂ he => ?_)
    exact hE h₂ e (fun c o c1 c3 _ x => hs₂ _ _ c3 (hs₁.extBut _ _ c1 x)) he
  | some x =>
    have hy : ys[k2]? = none := by rcases hend with h | h; rw [hx] at h; cases h; exact h
    refine wpAny_bind (wpAny_nextOf_list_item (h1.extBut hs₁.extBut D.i1z) (hl1.extBut hs₁.extBut D.l1z) hx fun h₂ h1₂ hs₂ => wpAny_pure (wpAny_pure ?_))
    refine wpAny_bind (wpAny_bind (wpAny_holding ?_))
    show wpAny _ _ (Builtin.SmallTypes.nextOf (.ref i2) >>= _) _ _ _
    refine wpAny_bind (wpAny_nextOf_list_end hh ((h2.extBut hs₁.extBut D.i2z).extBut hs₂.extBut D.i12.symm) ((hl2.extBut hs₁.extBut D.l2z).extBut hs₂.extBut D.l2i1) hy fun h₃ e hs₃ he => ?_)
    exact hE h₃ e (fun c o c1 c2 c3 x => hs₃ _ _ c3 (hs₂.extBut _ _ c2 (hs₁.extBut _ _ c1 x))) he
theorem next2_item {z T TI TO i1 i2 l1 l2 : Addr} {f : Bool} {oT : Obj} {k1 k2 : Nat} {xs ys : Array Value} {x y : Value} {Q : Option Value → Shared → Prop} (D : ZipApart z TI TO i1 i2 l1 l2)
    (hz : IsZ2 s.heap z T f TI TO) (hT : s.heap.get? T = some oT) (hTI : IsPair s.heap TI (.ref i1) (.ref i2))
    (h1 : s.heap.IsListIter i1 l1 k1) (h2 : s.heap.IsListIter i2 l2 k2) (hl1 : s.heap.IsList l1 xs) (hl2 : s.heap.IsList l2 ys) (hx : xs[k1]? = some x) (hy : ys[k2]? = some y)
    (hQ : ∀ h', IsZ2 h' z T true TI TO → h'.IsListIter i1 l1 (k1 + 1) → h'.IsListIter i2 l2 (k2 + 1) → IsPair h' s.heap.objs.size x y → h'.objs.size = s.heap.objs.size + 1 →
      (∀ c o, c ≠ z → c ≠ i1 → c ≠ i2 → s.heap.get? c = some o → h'.get? c = some o) → Q (some (.ref s.heap.objs.size)) { s with heap := h' }) :
    wpAny (model prog w) A (pyNext (.ref z)) Q E s := by
  have hTy : s.TypeIs (.ref z) "zip" := ⟨_, hz, rfl⟩
  unfold pyNext
  exact wpAny_bind (wpAny_attempt (wpAny_callSpecial?_slot (name := Str.ofString "__next__") hTy F.slot_zip_next
    (wpAny_call_entry F.slot_zip_next hTy F.entry_zip_next
      (zip2_item D hz hT hTI h1 h2 hl1 hl2 hx hy fun h' a1 a3 a4 a5 a6 a7 => wpAny_pure (hQ h' a1 a3 a4 a5 a6 a7)) (F.args_zip_next_1 _))))
theorem next2_end {z T TI TO i1 i2 l1 l2 : Addr} {f : Bool} {oT : Obj} {k1 k2 : Nat} {xs ys : Array Value} {Q : Option Value → Shared → Prop} (hh : A.handled = none) (D : ZipApart z TI TO i1 i2 l1 l2)
    (hz : IsZ2 s.heap z T f TI TO) (hT : s.heap.get? T = some oT) (hTI : IsPair s.heap TI (.ref i1) (.ref i2))
    (h1 : s.heap.IsListIter i1 l1 k1) (h2 : s.heap.IsListIter i2 l2 k2) (hl1 : s.heap.IsList l1 xs) (hl2 : s.heap.IsList l2 ys) (hend : xs[k1]? = none ∨ ys[k2]? = none)
    (hQ : ∀ h', (∀ c o, c ≠ z → c ≠ i1 → c ≠ i2 → s.heap.get? c = some o → h'.get? c = some o) → Q none { s with heap := h' }) : wpAny (model prog w) A (pyNext (.ref z)) Q E s := by
  have hTy : s.TypeIs (.ref z) "zip" := ⟨_, hz, rfl⟩
  unfold pyNext
  refine wpAny_bind (wpAny_attempt (wpAny_callSpecial?_slot (name := Str.ofString "__next__") hTy F.slot_zip_next
    (wpAny_call_entry F.slot_zip_next hTy F.entry_zip_next (zip2_end hh D hz hT hTI h1 h2 hl1 hl2 hend fun h' e hk he => ?_) (F.args_zip_next_1 _))))
  obtain ⟨o, ho, hc⟩ := he
  refine wpAny_bind (wpAny_isInstance (T := "StopIteration") (b := true) ⟨o, ho, hc⟩ isSubtype_stop ?_)
  exact wpAny_pure (hQ _ hk)
end
theorem zip_no_len : typeLookup (.type "zip") "__len__" = pure none := by rw [typeLookup_type, builtinLookup_eq_fast]; kernel_rfl
theorem zip_no_hint : typeLookup (.type "zip") "__length_hint__" = pure none := by rw [typeLookup_type, builtinLookup_eq_fast]; kernel_rfl
/-- where the walk stands -/
def ZAt (z TI TO i1 i2 a b : Addr) (i : Nat) (h : Heap) : Prop := (IsZip h z TI TO .none ∧ i = 0 ∨ ∃ T f o, IsZ2 h z T f TI TO ∧ h.get? T = some o ∧ T ≠ z ∧ T ≠ i1 ∧ T ≠ i2) ∧ IsPair h TI (.ref i1) (.ref i2) ∧ (∃ x y, IsPair h TO x y) ∧ h.IsListIter i1 a i ∧ h.IsListIter i2 b i
def PairsAt (H : Hp) (acc xs ys : List V) : Prop := ∀ (j : Nat) (v : V), acc[j]? = some v → ∃ T x y, v = .ref T ∧ Ft H T [x, y] ∧ xs[j]? = some x ∧ ys[j]? = some y
theorem PairsAt.ext {H H' : Hp} {acc xs ys : List V} (h : PairsAt H acc xs ys) (k : ∀ T o, isT o → H T = some o → H' T = some o) : PairsAt H' acc xs ys := fun j v e => by
  obtain ⟨T, x, y, e1, e2, e3, e4⟩ := h j v e
  obtain ⟨o, hd, e2⟩ := e2
  exact ⟨T, x, y, e1, ⟨o, hd, k T _ trivial e2⟩, e3, e4⟩
section
variable {X : Cx} {pins : List (Addr × Obj)} {σ : L2.St}
theorem zip_loop (hc : X.calm = true) {A : Around} (hh : A.handled = none) {S z TI TO i1 i2 a b : Addr} (D : ZipApart z TI TO i1 i2 a b) {xs ys : List V} {n : Nat} (hn : n = min xs.length ys.length) (hnz : n ≤ sizeLine) {res : Value} {R : Result → Shared → Prop} {H0 : Hp}
    (hR : ∀ s' H' acc', Inv X pins σ H' s' → H' S = some (.lst acc') → acc'.length = n → PairsAt H' acc' xs ys → (∀ c o, c ≠ S → H0 c = some o → H' c = some o) → R (.ok (.ret res)) s') :
    ∀ (k i : Nat) (s : Shared) (H : Hp) (acc : List V), n - i = k → i ≤ n → Inv X pins σ H s → ZAt z TI TO i1 i2 a b i s.heap → (∀ c ∈ [z, TI, TO, i1, i2], FpOk X pins H c) → H a = some (.lst xs) → H b = some (.lst ys) → a ≠ S → b ≠ S → H S = some (.lst acc) → acc.length = i →
      PairsAt H acc xs ys → (∀ c o, c ≠ S → H0 c = some o → H c = some o) → codeAny (model X.prog X.w) A (.builtin "list.extend.loop" ⟨[.ref S, .ref z, res], []⟩) R s := by
  intro k
  induction k with
  | zero =>
    intro i s H acc hk hi I st hf ha hb naS nbS hS hl hp hx
    have hin : i = n := by omega
    refine codeAny_builtin F.entry_extend_loop ?_
    rw [Around.under_plainId F.plain_extend_loop _]
    show wpAny _ A.in1 (pyNext (.ref z) >>= _) _ _ s
    obtain ⟨its, rv, p1, _⟩ := I.list (SqL.of ha)
    obtain ⟨its2, rv2, p2, _⟩ := I.list (SqL.of hb)
    have l1 := rv.length
    have l2 := rv2.length
    have he : its.toArray[i]? = none ∨ its2.toArray[i]? = none := by
      rcases Nat.le_total xs.length ys.length with q | q
      · exact .inl (by simp; omega)
      · exact .inr (by simp; omega)
    obtain ⟨hz, hTI, ⟨x, y, hTO⟩, h1, h2⟩ := st
    rcases hz with ⟨hz, _⟩ | ⟨T, f, o, hz, hT, _⟩
    · refine wpAny_bind (wpAny_pyNext_zip_end (A := A.in1) hh D hz hTI hTO h1 h2 p1.isList p2.isList he fun h' hk' => ?_)
      refine wpAny_pure (hR _ H acc (I.turnedL (t' := s.toks) (ch := [z, TI, TO, i1, i2]) (fun c o hb q => hk' c o (fun q' => hb (by simp [q'])) (fun q' => hb (by simp [q'])) (fun q' => hb (by simp [q'])) (fun q' => hb (by simp [q'])) q) hf) hS (by omega) hp hx)
    · refine wpAny_bind (next2_end (A := A.in1) hh D hz hT hTI h1 h2 p1.isList p2.isList he fun h' hk' => ?_)
      refine wpAny_pure (hR _ H acc (I.turnedL (t' := s.toks) (ch := [z, TI, TO, i1, i2]) (fun c o hb q => hk' c o (fun q' => hb (by simp [q'])) (fun q' => hb (by simp [q'])) (fun q' => hb (by simp [q'])) q) hf) hS (by omega) hp hx)
  | succ k ih =>
    intro i s H acc hk hi I st hf ha hb naS nbS hS hl hp hx
    have hlt : i < n := by omega
    refine codeAny_builtin F.entry_extend_loop ?_
    rw [Around.under_plainId F.plain_extend_loop _]
    show wpAny _ A.in1 (pyNext (.ref z) >>= _) _ _ s
    obtain ⟨its, rv, p1, _⟩ := I.list (SqL.of ha)
    obtain ⟨its2, rv2, p2, _⟩ := I.list (SqL.of hb)
    have hi1 : i < xs.length := by omega
    have hi2 : i < ys.length := by omega
    have hx1 : xs[i]? = some xs[i] := List.getElem?_eq_getElem hi1
    have hy1 : ys[i]? = some ys[i] := List.getElem?_eq_getElem hi2
    obtain ⟨u, hu, ru⟩ := rv.get hx1
    obtain ⟨u2, hu2, ru2⟩ := rv2.get hy1
    have fsz : ∀ {c : Addr}, c ∈ [z, TI, TO, i1, i2] → c < s.heap.objs.size := fun {c} hc => by
      obtain ⟨hz, hTI, ⟨x, y, hTO⟩, ⟨_, e1, _⟩, ⟨_, e2, _⟩⟩ := st
      have hzl : z < s.heap.objs.size := by
        rcases hz with ⟨hz, _⟩ | ⟨T, f, o, hz, _⟩ <;> exact Heap.lt_size hz
      have e' : c = z ∨ c = TI ∨ c = TO ∨ c = i1 ∨ c = i2 := by simpa using hc
      rcases e' with q | q | q | q | q
      · rw [q]; exact hzl
      · rw [q]; exact Heap.lt_size hTI
      · rw [q]; exact Heap.lt_size hTO
      · rw [q]; exact Heap.lt_size e1
      · rw [q]; exact Heap.lt_size e2
    have hSz : S < s.heap.objs.size := by
      obtain ⟨_, _, n', _, e⟩ := (show ObjOk X.prog X.w H s.heap S (.lst acc) from I.hok S _ hS)
      exact Heap.lt_size e
    have fin : ∀ h' : Heap, ZAt z TI TO i1 i2 a b (i + 1) h' → IsPair h' s.heap.objs.size u u2 → h'.objs.size = s.heap.objs.size + 1 → (∀ c o, c ∉ [z, TI, TO, i1, i2] → s.heap.get? c = some o → h'.get? c = some o) →
        wpAny (model X.prog X.w) A.in1 (updateSeq S (·.push (.ref s.heap.objs.size)) >>= fun _ => again (.builtin "list.extend.loop" ⟨[.ref S, .ref z, res], []⟩)) (fun fin s' => match fin with | .done f => R (.ok f) s' | .again c' => c'.quiet = true ∧ codeAny (model X.prog X.w) A c' R s') (fun e s' => R (.error e) s') { s with heap := h' } := by
      intro h' st' hT hsz hk'
      obtain ⟨ob, obd, hT0, hTd⟩ : ∃ ob : Obj, ob = { cls := .type "tuple", data := .seq #[u, u2] } ∧ h'.get? s.heap.objs.size = some ob ∧ ob.dict = none := ⟨_, rfl, hT, rfl⟩
      have new : ObjOk X.prog X.w (upd H s.heap.objs.size (.frz ob (.tup [xs[i], ys[i]]))) h' s.heap.objs.size (.frz ob (.tup [xs[i], ys[i]])) :=
        ⟨hT0, by show 2 ≤ sizeLine; decide, [u, u2], .cons ru (.cons ru2 .nil), ⟨_, hT, rfl, _, rfl⟩⟩
      have I1 : Inv X pins σ (upd H s.heap.objs.size (.frz ob (.tup [xs[i], ys[i]]))) { s with heap := h' } := I.turnedNew (t' := s.toks) (ch := [z, TI, TO, i1, i2]) hk' hf (Nat.le_refl _) new
      have hnone : H s.heap.objs.size = none := I.hok.fresh (Nat.le_refl _)
      have keepT : ∀ c o, H c = some o → upd H s.heap.objs.size (.frz ob (.tup [xs[i], ys[i]])) c = some o := fun c o e => by rw [upd_ne (ne_of_none e hnone)]; exact e
      have hS1 := keepT S _ hS
      obtain ⟨zl, its3, n3, r3, hl3, e3⟩ := I1.lstM hS1
      refine wpAny_bind (wpAny_updateSeq e3 rfl (wpAny_pure ⟨plainId_quiet F.plain_extend_loop _, ?_⟩) (by rw [List.size_toArray, ← hl3]; omega) (by show (its3.toArray.push _).size ≤ sizeLine + 1; rw [Array.size_push, List.size_toArray, ← hl3]; omega))
      have I2 := I1.lset (its' := its3 ++ [.ref s.heap.objs.size]) (ys := acc ++ [.ref s.heap.objs.size]) (t' := s.toks) (f := (·.push (.ref s.heap.objs.size))) hS1 e3 (by simp) (r3.append (.cons (show L2.RelV (.ref s.heap.objs.size) (.ref s.heap.objs.size) from rfl) .nil)) (by rw [List.length_append]; show acc.length + 1 ≤ sizeLine; omega)
      have keepS : ∀ c o, c ≠ S → H c = some o → upd (upd H s.heap.objs.size (.frz ob (.tup [xs[i], ys[i]]))) S (.lst (acc ++ [.ref s.heap.objs.size])) c = some o := fun c o nc e => by rw [upd_ne nc]; exact keepT c o e
      refine ih (i + 1) _ _ (acc ++ [.ref s.heap.objs.size]) (by omega) (by omega) I2 ?_ ?_ (keepS _ _ naS ha) (keepS _ _ nbS hb) naS nbS upd_same (by rw [List.length_append]; show acc.length + 1 = i + 1; omega) ?_ (fun c o nc e => keepS c o nc (hx c o nc e))
      · obtain ⟨hz, hTI, ⟨x, y, hTO⟩, h1, h2⟩ := st'
        have hSne : ∀ {c : Addr}, c ∈ [z, TI, TO, i1, i2] → S ≠ c := fun {c} hc q => by have := (hf c hc).1; rw [← q, hS] at this; cases this
        have kk : ∀ c o, c ≠ S → h'.get? c = some o → (h'.update S (Obj.mapSeq (·.push (.ref s.heap.objs.size)))).get? c = some o := fun c o nc e => (Heap.get?_update_other _ _ (Ne.symm nc)).trans e
        refine ⟨?_, kk _ _ (hSne (by simp)).symm hTI, ⟨x, y, kk _ _ (hSne (by simp)).symm hTO⟩, h1.at fun o e => kk _ o (hSne (by simp)).symm e, h2.at fun o e => kk _ o (hSne (by simp)).symm e⟩
        rcases hz with ⟨_, q⟩ | ⟨T, f, o, hz, hT', q1, q2, q3⟩
        · cases q
        · by_cases hTS : T = S
          · exact .inr ⟨T, f, _, kk _ _ (hSne (by simp)).symm hz, (by rw [hTS]; exact Heap.get?_update_self _ e3 rfl), q1, q2, q3⟩
          · exact .inr ⟨T, f, o, kk _ _ (hSne (by simp)).symm hz, kk _ _ hTS hT', q1, q2, q3⟩
      · intro c hc
        have hcS : c ≠ S := fun q => by have := (hf c hc).1; rw [q, hS] at this; cases this
        obtain ⟨f1, f2⟩ := hf c hc
        exact ⟨by rw [upd_ne hcS, upd_ne (Nat.ne_of_lt (fsz hc))]; exact f1, f2⟩
      · intro j v e
        rcases Nat.lt_or_ge j acc.length with hj | hj
        · rw [List.getElem?_append_left hj] at e
          obtain ⟨T, x, y, e1, e2, e3', e4⟩ := hp j v e
          obtain ⟨o2, hd2, e2⟩ := e2
          refine ⟨T, x, y, e1, ⟨o2, hd2, keepS T _ (fun q => ?_) e2⟩, e3', e4⟩
          rw [q, hS] at e2; cases e2
        · rw [List.getElem?_append_right hj] at e
          have hj0 : j - acc.length = 0 := by
            cases q : j - acc.length with
            | zero => rfl
            | succ m => rw [q] at e; simp at e
          rw [hj0] at e
          have hji : j = i := by omega
          cases e
          refine ⟨_, xs[i], ys[i], rfl, ⟨ob, hTd, ?_⟩, by rw [hji]; exact hx1, by rw [hji]; exact hy1⟩
          rw [upd_ne (Nat.ne_of_gt hSz)]
          exact upd_same
    obtain ⟨hz, hTI, ⟨x, y, hTO⟩, h1, h2⟩ := st
    have ltz : ∀ {c : Addr} {o : Obj}, s.heap.get? c = some o → s.heap.objs.size ≠ c := fun e => Nat.ne_of_gt (Heap.lt_size e)
    rcases hz with ⟨hz, _⟩ | ⟨T, f, o, hz, hT, q1, q2, q3⟩
    · refine wpAny_bind (wpAny_pyNext_zip_item (A := A.in1) D hz hTI hTO h1 h2 p1.isList p2.isList (x := u) (y := u2) (by simpa using hu) (by simpa using hu2) fun h' z' TO' h1' h2' hT' hsz hk' => ?_)
      refine fin h' ⟨.inr ⟨s.heap.objs.size, false, _, z', hT', ltz hz, ?_, ?_⟩, hk' _ _ D.TIz D.TITO D.TIi1 D.TIi2 hTI, ⟨_, _, TO'⟩, h1', h2'⟩ hT' hsz fun c o hc q => hk' c o (fun q' => hc (by simp [q'])) (fun q' => hc (by simp [q'])) (fun q' => hc (by simp [q'])) (fun q' => hc (by simp [q'])) q
      · obtain ⟨_, e1, _⟩ := h1; exact ltz e1
      · obtain ⟨_, e2, _⟩ := h2; exact ltz e2
    · refine wpAny_bind (next2_item (A := A.in1) D hz hT hTI h1 h2 p1.isList p2.isList (x := u) (y := u2) (by simpa using hu) (by simpa using hu2) fun h' z' h1' h2' hT' hsz hk' => ?_)
      exact fin h' ⟨.inr ⟨T, true, o, z', hk' _ _ q1 q2 q3 hT, q1, q2, q3⟩, hk' _ _ D.TIz D.TIi1 D.TIi2 hTI, ⟨_, _, hk' _ _ D.TOz D.TOi1 D.TOi2 hTO⟩, h1', h2'⟩ hT' hsz fun c o hc q => hk' c o (fun q' => hc (by simp [q'])) (fun q' => hc (by simp [q'])) (fun q' => hc (by simp [q'])) q
theorem call_list_zip (hc : X.calm = true) {s : Shared} {H : Hp} {z TI TO i1 i2 a b : Addr} (D : ZipApart z TI TO i1 i2 a b) {xs ys : List V} {n : Nat} (hn : n = min xs.length ys.length) (hnz : n ≤ sizeLine) {Q : Value → Shared → Prop} {E : Value → Shared → Prop}
    (I : Inv X pins σ H s) (st : ZAt z TI TO i1 i2 a b 0 s.heap) (hz : IsZip s.heap z TI TO .none) (hf : ∀ c ∈ [z, TI, TO, i1, i2], FpOk X pins H c) (ha : H a = some (.lst xs)) (hb : H b = some (.lst ys))
    (hQ : ∀ s' H' acc' S, Inv X pins σ H' s' → H S = none → H' S = some (.lst acc') → acc'.length = n → PairsAt H' acc' xs ys → HExt H H' → Q (.ref S) s') :
    wpAny (model X.prog X.w) X.A (call (.type "list") [.ref z]) Q E s := by
  have hh : X.A.handled = none := I.ok.hd hc
  refine callType_codes (Q₁ := fun obj s₁ => obj = .ref s.heap.objs.size ∧ s₁ = { s with heap := s.heap.push { cls := .type "list", data := .seq #[] } }) F.called_list (F.typeCall_list_1 _) F.entry_list_init
    (code_list_new _ ⟨rfl, rfl⟩) fun obj s₁ h₁ => ?_
  obtain ⟨rfl, rfl⟩ := h₁
  have hS : (s.heap.push { cls := .type "list", data := .seq #[] }).get? s.heap.objs.size = some { cls := .type "list", data := .seq #[] } := Heap.get?_push_size _ rfl
  refine ⟨⟨_, hS, rfl⟩, F.args_list_init_2 _ _, ?_⟩
  have hnone : H s.heap.objs.size = none := I.hok.fresh (Nat.le_refl _)
  generalize hSS : s.heap.objs.size = S at *
  show wpAny _ X.A.in1.in1 (do let old ← Builtin.List.listItems (.ref S); Builtin.List.listUpdate (.ref S) (fun _ => #[]); letGo old.toList.reverse; Builtin.List.listExtendWith (.ref S) (.ref z) .none) _ _ _
  refine wpAny_bind ?_
  unfold Builtin.List.listItems
  refine wpAny_bind (wpAny_seqItems hS rfl (wpAny_pure ?_))
  show wpAny _ X.A.in1.in1 (updateSeq S (fun _ => #[]) >>= fun _ => letGo (#[] : Array Value).toList.reverse >>= fun _ => Builtin.List.listExtendWith (.ref S) (.ref z) .none) _ _ _
  refine wpAny_bind (wpAny_updateSeq hS rfl ?_)
  have hS₂ := Heap.get?_update_self (Obj.mapSeq (fun _ => (#[] : Array Value))) hS rfl
  refine wpAny_bind (wpAny_letGo ?_)
  have k2 : ∀ c o, c ≠ S → s.heap.get? c = some o → ((s.heap.push { cls := .type "list", data := .seq #[] }).update S (Obj.mapSeq (fun _ => (#[] : Array Value)))).get? c = some o := fun c o hc e => (Heap.get?_update_other _ _ (Ne.symm hc)).trans (Heap.get?_push_of_some _ e)
  have neS : ∀ {c : Addr} {o : Obj}, s.heap.get? c = some o → c ≠ S := fun e => by rw [← hSS]; exact Nat.ne_of_lt (Heap.lt_size e)
  have hzS : S ≠ z := (neS hz).symm
  generalize hh2 : ((s.heap.push { cls := .type "list", data := .seq #[] }).update S (Obj.mapSeq (fun _ => (#[] : Array Value)))) = g2 at *
  have hz2 : IsZip g2 z TI TO .none := k2 _ _ (neS hz) hz
  have hTz : ∀ tk, Shared.TypeIs { s with heap := g2, toks := tk } (.ref z) "zip" := fun tk => ⟨_, hz2, rfl⟩
  unfold Builtin.List.listExtendWith
  refine wpAny_bind (wpAny_typeOf (T := "zip") ⟨_, hz2, rfl⟩ ?_)
  have h1 : Builtin.List.listSameRef (.ref S) (.ref z) = false := by simp [Builtin.List.listSameRef, hzS]
  have h2 : (Value.type "zip" == Value.type "list") = false := by decide
  have h3 : (Value.type "zip" == Value.type "tuple") = false := by decide
  simp only [h1, h2, h3, Bool.or_false, Bool.false_eq_true, if_false]
  refine wpAny_bind (wpAny_pyIter_zip hz2 ?_)
  refine wpAny_bind (wpAny_holding ?_)
  unfold Builtin.List.listLengthHint
  refine wpAny_bind (wpAny_specialOf (T := "zip") ⟨_, hz2, rfl⟩ zip_no_len ?_)
  show wpAny _ X.A.in1.in1 (specialOf (Value.ref z) (Str.ofString "__length_hint__") >>= _) _ _ _
  refine wpAny_bind (wpAny_specialOf (T := "zip") ⟨_, hz2, rfl⟩ zip_no_hint ?_)
  refine wpAny_pure ?_
  show wpAny _ X.A.in1.in1 (rule "list.extend.makes-room" >>= fun _ => Builtin.List.listTouch (.ref S) >>= fun _ => again (.builtin "list.extend.loop" ⟨[.ref S, .ref z, .none], []⟩)) _ _ _
  refine wpAny_bind (wpAny_rule ?_)
  refine wpAny_bind ?_
  show wpAny _ X.A.in1.in1 (updateSeq S (·.push .none) >>= fun _ => updateSeq S (·.pop)) _ _ _
  refine wpAny_bind (wpAny_updateSeq hS₂ rfl ?_)
  have hS₃ := Heap.get?_update_self (Obj.mapSeq (·.push Value.none)) hS₂ rfl
  refine wpAny_updateSeq (hz := by seq_fits) hS₃ rfl ?_
  have hS₄ := Heap.get?_update_self (Obj.mapSeq (·.pop)) hS₃ rfl
  have k4 : ∀ c o, c ≠ S → s.heap.get? c = some o → ((g2.update S (Obj.mapSeq (·.push Value.none))).update S (Obj.mapSeq (·.pop))).get? c = some o := fun c o hb e => (Heap.get?_update_other _ _ (Ne.symm hb)).trans ((Heap.get?_update_other _ _ (Ne.symm hb)).trans (k2 c o hb e))
  have I4 : Inv X pins σ (upd H S (.lst [])) { s with heap := (g2.update S (Obj.mapSeq (·.push Value.none))).update S (Obj.mapSeq (·.pop)) } :=
    I.laid (t' := s.toks) (fun c o e => k4 c o (neS e) e) (by rw [hSS]; exact Nat.le_refl _) ⟨Nat.zero_le _, [], _, .nil, hS₄⟩
  have kx : HExt H (upd H S (.lst [])) := HExt.upd hnone
  refine wpAny_pure ⟨plainId_quiet F.plain_extend_loop _, zip_loop (X := X) (A := X.A.in1) (pins := pins) (σ := σ) (H0 := H) hc hh D hn hnz (fun s' H' acc' I' e1 e2 e3 e4 => ?_) n 0 _ _ [] (by omega) (Nat.zero_le _) I4 ?_ ?_ (kx _ _ ha) (kx _ _ hb) (fun q => by rw [q, hnone] at ha; cases ha) (fun q => by rw [q, hnone] at hb; cases hb) upd_same rfl (fun j v e => by simp at e) (fun c o nc e => kx c o e)⟩
  · exact ⟨rfl, hQ s' H' acc' S I' hnone e1 e2 e3 fun c o e => e4 c o (fun q => by rw [q, hnone] at e; cases e) e⟩
  · obtain ⟨_, hTI, ⟨x, y, hTO⟩, h1', h2'⟩ := st
    exact ⟨.inl ⟨k4 _ _ (neS hz) hz, rfl⟩, k4 _ _ (neS hTI) hTI, ⟨x, y, k4 _ _ (neS hTO) hTO⟩, h1'.at fun o e => k4 _ o (neS e) e, h2'.at fun o e => k4 _ o (neS e) e⟩
  · intro c hc
    obtain ⟨f1, f2⟩ := hf c hc
    refine ⟨?_, f2⟩
    have hcS : c ≠ S := by
      obtain ⟨_, hTI, ⟨x, y, hTO⟩, ⟨_, e1, _⟩, ⟨_, e2, _⟩⟩ := st
      have e' : c = z ∨ c = TI ∨ c = TO ∨ c = i1 ∨ c = i2 := by simpa using hc
      rcases e' with q | q | q | q | q <;> rw [q]
      · exact neS hz
      · exact neS hTI
      · exact neS hTO
      · exact neS e1
      · exact neS e2
    rw [upd_ne hcS]; exact f1
variable {ce : Str → Option Addr} {sc : Scope} {te : Expr → TE} {e1 e2 : Expr} {p p2 q pos : Pos}
def lzF : List D → Option D
  | [.list xs, .list ys] => if flatDs 0 xs && flatDs 0 ys then some (.list (zip2 xs ys)) else none
  | _ => none
theorem pl_lz (B : Bok X sc) (hm : MonoE te) (h0 : isGlo sc "list" = true) (h1 : isGlo sc "zip" = true) (hs : [e1, e2].all notStar = true) (h : ∀ a ∈ [e1, e2], PE X a (te a)) :
    PE X (.Call (.Name "list" p) [.Call (.Name "zip" p2) [e1, e2] [] q] [] pos) (tCB (rPl ce lzF) (tList te [e1, e2])) := by
  have hs' := hs
  simp only [List.all_cons, Bool.and_eq_true] at hs'
  refine ⟨fun pins s σ H Q I hq => ?_⟩
  refine Call_ (ld_blt I (isGlo_ok B.sc_ h0).1 (B.bi _ (by decide)) boot_list ?_)
  refine PyProof.Rows.callWith_type1 (PyProof.Rows.args_cons ?_ rfl) rfl rfl
  refine Call_ (ld_blt I (isGlo_ok B.sc_ h1).1 (B.bi _ (by decide)) PyProof.Rows.boot_zip (PyProof.Rows.callWith_type1 (thn ((pa_list hs h).run q pins s σ H _ I hq) fun us s1 ⟨vs, H1, I1, r1, q1⟩ => ?_) (star_cons hs'.1) (star_none (by simpa using hs'.2))))
  obtain ⟨hs, P, ds, d, r0, e, q1⟩ := q1
  unfold lzF at e
  split at e
  · rename_i xs ys
    obtain ⟨v, u, rfl, ra, rb⟩ := Reps.two_inv r0
    obtain ⟨a, vs, rfl, ea, hl, rr⟩ := rep_lst ra
    obtain ⟨b, us', rfl, eb, hl2, rr2⟩ := rep_lst rb
    split at e
    · rename_i hfl
      obtain ⟨f1, f2⟩ := Bool.and_eq_true_iff.mp hfl
      cases e
      cases r1 with
      | cons r rr' =>
        cases rr' with
        | cons r' rr' =>
          cases rr'
          cases r
          cases r'
          obtain ⟨its, rv, p1, _⟩ := I1.list (SqL.of ea)
          obtain ⟨its2, rv2, p2', _⟩ := I1.list (SqL.of eb)
          have la : a < s1.heap.objs.size := p1.lt
          have lb : b < s1.heap.objs.size := p2'.lt
          refine call_zip_2 p1.isList p2'.isList fun h' hz hTI hTO i1 i2 hsz hk => ?_
          have I2 : Inv X pins σ H1 { s1 with heap := h' } := I1.kept (t' := s1.toks) hk
          refine PyProof.Rows.args_nil ?_
          refine call_list_zip B.calm (PySem.W.ktu_apart s1.heap.objs.size a b la lb) (xs := vs) (ys := us') rfl (Nat.le_trans (Nat.min_le_left _ _) hl) I2 ⟨.inl ⟨hz, rfl⟩, hTI, ⟨_, _, hTO⟩, i1, i2⟩ hz (fun c hcm => ?_) ea eb fun s' H' acc' S I' hS e1 e2 e3 ex => ?_
          · have e' : c = s1.heap.objs.size + 4 ∨ c = s1.heap.objs.size + 2 ∨ c = s1.heap.objs.size + 3 ∨ c = s1.heap.objs.size ∨ c = s1.heap.objs.size + 1 := by simpa using hcm
            have hle : s1.heap.objs.size ≤ c := by rcases e' with z | z | z | z | z <;> rw [z] <;> first | exact Nat.le_add_right _ _ | exact Nat.le_refl _
            exact I1.fpOk hle (I1.hok.fresh hle)
          · refine ⟨.ref S, H', I', rfl, q1 _ _ ex (.lst e1 (by rw [e2]; exact Nat.le_trans (Nat.min_le_left _ _) hl) ⟨rfl, hS⟩ ?_)⟩
            have ra' : Reps ce hs H' (fun _ _ => False) vs xs := (reps_flat0 rr f1).ext ex
            have rb' : Reps ce hs H' (fun _ _ => False) us' ys := (reps_flat0 rr2 f2).ext ex
            have hlen : acc'.length = (zip2 xs ys).length := by rw [e2, zip2_len, ra'.length, rb'.length]
            clear e1 e2 hS I'
            have go : ∀ (vs us : List V) (xs ys : List D) (acc : List V), Reps ce hs H' (fun _ _ => False) vs xs → Reps ce hs H' (fun _ _ => False) us ys → acc.length = (zip2 xs ys).length → PairsAt H' acc vs us → ∀ {P' : Pd}, Reps ce hs H' P' acc (zip2 xs ys) := by
              intro vs
              induction vs with
              | nil => intro us xs ys acc r1 r2 hl hp P'; cases r1; cases acc with
                | nil => exact .nil
                | cons _ _ => simp [zip2] at hl
              | cons v vs ih =>
                intro us xs ys acc r1 r2 hl hp P'
                cases r1 with
                | cons x1 r1 =>
                  cases r2 with
                  | nil => cases acc with
                    | nil => exact .nil
                    | cons _ _ => simp [zip2] at hl
                  | cons x2 r2 =>
                    cases acc with
                    | nil => simp [zip2] at hl
                    | cons c acc =>
                      obtain ⟨T, x, y, e1, e2, e3, e4⟩ := hp 0 c rfl
                      simp at e3 e4
                      subst e3; subst e4; subst e1
                      refine .cons (.tup e2 (show 2 ≤ sizeLine by rw [sizeLine_eq]; decide) (.cons (x1.mono fun _ _ z => z.elim) (.cons (x2.mono fun _ _ z => z.elim) .nil))) (ih _ _ _ acc r1 r2 (by simpa [zip2] using hl) fun j v e => ?_)
                      simpa using hp (j + 1) v (by simpa using e)
            exact go _ _ _ _ _ ra' rb' hlen e3
    · cases e
  · cases e
end
end T
namespace T
open PySem PySem.Spec PyProof.Rows L2
/-! ### sorted(set(list of ints)) -/
section
variable {P : Program} {w : World} {A : Around} {E : Value → Shared → Prop} {s : Shared}
def sObj (w : World) : Obj := { cls := .type "set", dict := none, data := .set #[] 0 (.fresh 0 0 (!w.params.followText "set-order")) }
theorem call_set_ints {l : Addr} {its : Array Value} (ns : List Int) {Q : Value → Shared → Prop} (h0 : A.handled = none) (hl : s.heap.IsList l its) (hi : IntsAre its.toList ns) (hb : ns.length + 1 < scanBound)
    (h : ∀ (h' : Heap) (tk c : Nat), SetR w h' s.heap.objs.size (fun j => decide (j ∈ ns)) c → (∀ b o, s.heap.get? b = some o → h'.get? b = some o) → Q (.ref s.heap.objs.size) { s with heap := h', toks := tk }) :
    wpAny (model P w) A (call (.type "set") [.ref l]) Q E s := by
  have sz : its.size = ns.length := (Array.length_toList).symm.trans (IntsAre.length hi)
  obtain ⟨c0, tl0, m0⟩ := F.called_set.mro
  have m1 := F.called_set.made
  have m2 := F.called_set.sub
  refine wpAny_call (codeAny_of_tree (wpAny_pure ⟨Code.quiet_builtin _ (by decide +kernel), codeAny_builtin F.entry_type_call ?_⟩))
  rw [Around.under_plain (weight_type_call_type "set" [.ref l] []) rfl]
  have m3 := F.called_set.notType
  have m4 := F.called_set.canCreate
  have m5 := F.typeCall_set_1 (.ref l)
  repeat (any_goals (first | assumption | wp_step))
  refine codeAny_mono (code_set_led1 (.ref l) (E := E) (Q₁ := fun u s1 => u = .ref s.heap.objs.size ∧ s1 = { s with heap := s.heap.push (sObj w) }) ⟨rfl, rfl⟩) fun r s1 hr => ?_
  cases r with
  | error e => exact hr
  | ok fl =>
    cases fl with
    | ret u =>
      obtain ⟨rfl, rfl⟩ := hr
      have e1 : (s.heap.push (sObj w)).get? s.heap.objs.size = some (sObj w) := Heap.get?_push_size _ rfl
      have e2 : Shared.TypeIs { s with heap := s.heap.push (sObj w) } (.ref s.heap.objs.size) "set" := ⟨_, e1, rfl⟩
      have e3 := F.called_set.init.lookup
      have e4 := F.called_set.init.bind (.ref s.heap.objs.size)
      repeat (any_goals (first | assumption | wp_step))
      refine codeAny_mono (codeAny_call_builtin (R := wants (fun r s2 => r = .none ∧ ∃ h' tk c, s2 = { s with heap := h', toks := tk } ∧ SetR w h' s.heap.objs.size (fun j => decide (j ∈ ns)) c ∧ (∀ b o, s.heap.get? b = some o → h'.get? b = some o)) E) F.called_set.init.plain F.entry_set_init (check_set_init_1 e2 ?_)) fun r2 s2 hr2 => ?_
      · obtain ⟨⟨ocls, odict, odata, oslots⟩, f1, f2, nl, f3⟩ := hl
        cases f2; cases f3
        have g1 : (s.heap.push (sObj w)).get? l = some { cls := .type "list", dict := odict, data := .seq its nl, slots := oslots } := Heap.get?_push_of_some _ f1
        have g2 := F.sub_list_set
        have g3 := F.sub_list_frozenset
        have g4 : (Value.type "list" == Value.type "dict") = false := rfl
        have g5 : (s.heap.push (sObj w)).IsList l its := ⟨_, g1, rfl, nl, rfl⟩
        have hlS : l < s.heap.objs.size := Heap.lt_size f1
        have z1 : (s.heap.push (sObj w)).objs.size = s.heap.objs.size + 1 := Heap.size_push ..
        unfold Builtin.«set.__init__» noKeywords Builtin.Frozenset.updateFrom
        generalize hPI : pyIter = PI
        wp_walk
        subst hPI
        refine wpAny_pyIter_list g5 (wpAny_bind (wpAny_runValue ?_))
        have g6 : A.in1.in1.in1.handled = none := by simp [h0]
        refine set_update_ints ((Walks.list g6 _ l (by rw [z1]; exact Nat.ne_of_lt (Nat.lt_succ_of_lt hlS)) its).toS) s.heap.objs.size (by rw [z1]; intro hm; rcases List.mem_cons.mp hm with q | q; exact absurd q (Nat.ne_of_lt (Nat.lt_succ_self _)); exact absurd (List.mem_singleton.mp q) (Nat.ne_of_gt hlS)) ns sz hb (fun i v hv => ?_) (its.size - 0) 0 _ (by omega) (Nat.zero_le _) ⟨⟨_, Heap.get?_push_size _ rfl, rfl, rfl⟩, (g5.push _)⟩ ⟨0, Nat.le_refl 0, setR_new_at (Heap.get?_push_of_some _ e1)⟩ ?hR
        · have hi' : i < ns.length := by rw [← sz]; exact (Array.getElem?_eq_some_iff.mp hv).1
          obtain ⟨t, e⟩ := PyProof.Rows.IntsAre.int_at hi i v (by rw [Array.getElem?_toList]; exact hv)
          refine ⟨ns[i], t, List.getElem?_eq_getElem hi', ?_⟩
          rw [e, List.getD_eq_getElem?_getD, List.getElem?_eq_getElem hi']; rfl
        case hR =>
          rintro ⟨h', g7, d', tk', os'⟩ c' hm hc' hS'
          have eg : g7 = s.gens := hm.gens
          have ed : d' = s.drawn := hm.drawn
          have eo : os' = s.os := hm.os
          subst eg; subst ed; subst eo
          refine wpAny_pure (show wpAny _ _ (ret Value.none) _ _ _ from wpAny_pure ⟨rfl, h', tk', c', rfl, hS', fun b o e => ?_⟩)
          have hb0 : b < s.heap.objs.size := Heap.lt_size e
          exact hm.heap b o (by rw [z1]; intro q; rcases List.mem_cons.mp q with q | q; exact absurd q (Nat.ne_of_lt hb0); exact absurd (List.mem_singleton.mp q) (Nat.ne_of_lt (Nat.lt_succ_of_lt hb0))) (Heap.get?_push_of_some _ (Heap.get?_push_of_some _ e))
      · cases r2 with
        | error e => exact hr2
        | ok fl2 =>
          cases fl2 with
          | ret r =>
            obtain ⟨rfl, h', tk, c', rfl, k1, k2⟩ := hr2
            repeat (any_goals (first | assumption | wp_step))
            exact h _ _ _ k1 k2
          | _ => exact hr2.elim
    | _ => exact hr.elim
end
end T
namespace T
open PySem PySem.Spec PyProof.Rows L2
def dedupI : List Int → List Int
  | [] => []
  | n :: r => if n ∈ r then dedupI r else n :: dedupI r
def ssF : List D → Option D
  | [.list ds] => (intsOf ds).bind fun ns => if decide (ns.length ≤ 4000) && decide ((dedupI ns).length ≤ 63) then some (.list ((sortI (dedupI ns)).map .int)) else none
  | _ => none
theorem dedupI_mem : ∀ {ns : List Int} {k : Int}, k ∈ dedupI ns ↔ k ∈ ns
  | [], k => Iff.rfl
  | n :: r, k => by
    unfold dedupI
    split
    · rw [dedupI_mem, List.mem_cons]
      exact ⟨.inr, fun h => h.elim (fun z => z ▸ by assumption) id⟩
    · rw [List.mem_cons, List.mem_cons, dedupI_mem]
theorem dedupI_nd : ∀ ns : List Int, (dedupI ns).Nodup
  | [] => List.Pairwise.nil
  | n :: r => by
    unfold dedupI
    split
    · exact dedupI_nd r
    · exact List.nodup_cons.mpr ⟨fun z => by rename_i h; exact h (dedupI_mem.mp z), dedupI_nd r⟩
theorem nd_perm : ∀ {as bs : List Int}, as.Nodup → bs.Nodup → (∀ k, k ∈ as ↔ k ∈ bs) → as.Perm bs
  | [], bs, _, _, h => by
    cases bs with
    | nil => exact .nil
    | cons b r => exact absurd ((h b).mpr List.mem_cons_self) (by simp)
  | a :: as, bs, n1, n2, h => by
    obtain ⟨a1, a2⟩ := List.nodup_cons.mp n1
    have hm : a ∈ bs := (h a).mp List.mem_cons_self
    refine List.Perm.trans (.cons a (nd_perm a2 (n2.erase a) fun k => ?_)) (List.perm_cons_erase hm).symm
    rw [List.Nodup.mem_erase_iff n2]
    constructor
    · intro hk
      exact ⟨fun z => a1 (z ▸ hk), (h k).mp (List.mem_cons_of_mem _ hk)⟩
    · rintro ⟨z, hk⟩
      rcases List.mem_cons.mp ((h k).mpr hk) with q | q
      · exact absurd q z
      · exact q
section
variable {ce : Str → Option Addr} {X : Cx} {sc : Scope} {te : Expr → TE} {a : Expr} {p p2 q pos : Pos}
theorem pl_ss (B : Bok X sc) (hm : MonoE te) (h0 : isGlo sc "sorted" = true) (h1 : isGlo sc "set" = true) (hs : notStar a = true) (h : PE X a (te a)) :
    PE X (.Call (.Name "sorted" p) [.Call (.Name "set" p2) [a] [] q] [] pos) (tCB (rPl ce ssF) (tList te [a])) := by
  refine ⟨fun pins s σ H Q I hq => ?_⟩
  refine Call_ (ld_blt I (isGlo_ok B.sc_ h0).1 (B.bi _ (by decide)) boot_sorted ?_)
  refine PyProof.Rows.callWith_builtin1 (PyProof.Rows.args_cons ?_ rfl) rfl rfl
  refine Call_ (ld_blt I (isGlo_ok B.sc_ h1).1 (B.bi _ (by decide)) boot_set ?_)
  refine PyProof.Rows.callWith_type1 (PyProof.Rows.args_cons (thn (h.run pins s σ H _ I hq) fun v s1 ⟨x, H1, I1, r1, q1⟩ => PyProof.Rows.args_nil ?_) (star_cons hs)) (star_cons hs) rfl
  obtain ⟨hs', P, ds, d, r0, e, q1⟩ := q1
  unfold ssF at e
  split at e
  · rename_i ds'
    obtain ⟨v, ev, r⟩ := Reps.one_inv r0
    cases ev
    obtain ⟨l, vs, rfl, ea, hl, rr⟩ := rep_lst r
    cases hi : intsOf ds' with
    | none => rw [hi] at e; cases e
    | some ns =>
      rw [hi] at e
      have e : (if decide (ns.length ≤ 4000) && decide ((dedupI ns).length ≤ 63) then some (PyData.list ((sortI (dedupI ns)).map .int)) else none) = some d := e
      split at e
      · rename_i hlt
        simp only [Bool.and_eq_true, decide_eq_true_eq] at hlt
        cases e
        rw [rr.ofInts hi] at ea
        cases r1
        obtain ⟨its, r, pl, hz⟩ := I1.list (SqL.of ea)
        refine call_set_ints ns (I1.ok.hd B.calm) pl.isList (by simpa using RZ.intsAre_vals r) (by unfold scanBound; omega) fun h' tk c hS hk => ?_
        refine PyProof.Rows.args_nil ?_
        have I2 : Inv X pins σ H1 { s1 with heap := h', toks := tk } := I1.kept fun b o e => hk b o e
        have hc : c ≤ 63 := by
          obtain ⟨o, es, ep, t, ho, hex, hd, g, nd, hm2, hb, hf, hn, hr, hl2⟩ := hS
          have pp := nd_perm nd (dedupI_nd ns) fun k => by rw [← hm2 k, decide_eq_true_eq, dedupI_mem]
          have := pp.length_eq
          rw [List.length_map, Array.length_toList, hn] at this
          omega
        refine sorted_set (s := { s1 with heap := h', toks := tk }) hS (I1.ok.hd B.calm) (by omega) fun s2 p out c2 ns2 k2 g2 o2 hp hget hia hpw hmem hlen => ?_
        have hns : ns2 = sortI (dedupI ns) := srt_uniq (nd_perm (hpw.imp fun h => by omega) ((sortI_perm _).nodup_iff.mpr (dedupI_nd ns)) fun k => by rw [hmem k, decide_eq_true_eq, (sortI_perm _).mem_iff, dedupI_mem]) (hpw.imp fun h => by omega) (sortI_srt _)
        subst hns
        have hn : H1 p = none := I2.hok.fresh hp
        have hlen2 : (sortI (dedupI ns)).length ≤ 63 := by rw [(sortI_perm _).length_eq]; exact hlt.2
        have hz2 : ((sortI (dedupI ns)).map V.int).length ≤ sizeLine := by rw [List.length_map, sizeLine_eq]; omega
        have J : Inv X pins σ (upd H1 p (.lst ((sortI (dedupI ns)).map V.int))) s2 := I2.call' (ch := []) (s' := s2) o2 (Un.laid k2 hp hn) (I2.hok.laid k2 hp ⟨hz2, out.toList, c2, vals_of_ints hia, hget⟩) (by rw [g2]; exact I2.bare) (fun _ z => nomatch z)
        exact ⟨.ref p, _, J, rfl, q1 _ _ (HExt.upd hn) (Rep.newL (reps_ints _) hn hz2 ⟨rfl, hn⟩)⟩
      · cases e
  · cases e
end
end T
namespace T
open PySem PySem.Spec PyProof.Rows L2
section
variable {X : Cx} {pins : List (Addr × Obj)} {σ : L2.St}
/-- what a zip of two lists gives, collected -/
theorem collect_zip (hc : X.calm = true) {A : Around} (hh : A.handled = none) {s : Shared} {H : Hp} {z TI TO i1 i2 a b : Addr} (D : ZipApart z TI TO i1 i2 a b) {xs ys : List V} {n : Nat} (hn : n = min xs.length ys.length) (hnz : n ≤ sizeLine) {Q : List Value → Shared → Prop} {E : Value → Shared → Prop}
    (I : Inv X pins σ H s) (st : ZAt z TI TO i1 i2 a b 0 s.heap) (hz : IsZip s.heap z TI TO .none) (hf : ∀ c ∈ [z, TI, TO, i1, i2], FpOk X pins H c) (ha : H a = some (.lst xs)) (hb : H b = some (.lst ys))
    (hQ : ∀ s' H' acc' its, Inv X pins σ H' s' → Vals acc' its → acc'.length = n → PairsAt H' acc' xs ys → HExt H H' → Q its s') :
    wpAny (model X.prog X.w) A (collect (.ref z)) Q E s := by
  unfold collect
  refine wpAny_bind (wpAny_runValue (codeAny_builtin entry_proto_collect' ?_))
  show wpAny _ _ (do again (.builtin "list.__iadd__" ⟨[← newList [], .ref z], []⟩)) _ _ s
  refine wpAny_bind (wpAny_newList (wpAny_pure ⟨Code.quiet_builtin _ (by decide +kernel), codeAny_builtin entry_list_iadd' ?_⟩))
  show wpAny _ _ (Builtin.List.listExtendWith (.ref s.heap.objs.size) (.ref z) (.ref s.heap.objs.size)) _ _ { s with heap := s.heap.push { cls := .type "list", data := .seq #[] } }
  have hS₂ : (s.heap.push { cls := .type "list", data := .seq #[] }).get? s.heap.objs.size = some { cls := .type "list", data := .seq #[] } := Heap.get?_push_size _ rfl
  have hnone : H s.heap.objs.size = none := I.hok.fresh (Nat.le_refl _)
  have k2 : ∀ c o, s.heap.get? c = some o → (s.heap.push { cls := .type "list", data := .seq #[] }).get? c = some o := fun c o e => Heap.get?_push_of_some _ e
  generalize hSS : s.heap.objs.size = S at *
  have neS : ∀ {c : Addr} {o : Obj}, s.heap.get? c = some o → c ≠ S := fun e => by rw [← hSS]; exact Nat.ne_of_lt (Heap.lt_size e)
  have hzS : S ≠ z := (neS hz).symm
  generalize hh2 : (s.heap.push { cls := .type "list", data := .seq #[] }) = g2 at *
  have hz2 : IsZip g2 z TI TO .none := k2 _ _ hz
  unfold Builtin.List.listExtendWith
  refine wpAny_bind (wpAny_typeOf (T := "zip") ⟨_, hz2, rfl⟩ ?_)
  have h1 : Builtin.List.listSameRef (.ref S) (.ref z) = false := by simp [Builtin.List.listSameRef, hzS]
  have h2 : (Value.type "zip" == Value.type "list") = false := by decide
  have h3 : (Value.type "zip" == Value.type "tuple") = false := by decide
  simp only [h1, h2, h3, Bool.or_false, Bool.false_eq_true, if_false]
  refine wpAny_bind (wpAny_pyIter_zip hz2 ?_)
  refine wpAny_bind (wpAny_holding ?_)
  unfold Builtin.List.listLengthHint
  refine wpAny_bind (wpAny_specialOf (T := "zip") ⟨_, hz2, rfl⟩ zip_no_len ?_)
  show wpAny _ _ (specialOf (Value.ref z) (Str.ofString "__length_hint__") >>= _) _ _ _
  refine wpAny_bind (wpAny_specialOf (T := "zip") ⟨_, hz2, rfl⟩ zip_no_hint ?_)
  refine wpAny_pure ?_
  show wpAny _ _ (rule "list.extend.makes-room" >>= fun _ => Builtin.List.listTouch (.ref S) >>= fun _ => again (.builtin "list.extend.loop" ⟨[.ref S, .ref z, .ref S], []⟩)) _ _ _
  refine wpAny_bind (wpAny_rule ?_)
  refine wpAny_bind ?_
  show wpAny _ _ (updateSeq S (·.push .none) >>= fun _ => updateSeq S (·.pop)) _ _ _
  refine wpAny_bind (wpAny_updateSeq hS₂ rfl ?_)
  have hS₃ := Heap.get?_update_self (Obj.mapSeq (·.push Value.none)) hS₂ rfl
  refine wpAny_updateSeq (hz := by seq_fits) hS₃ rfl ?_
  have hS₄ := Heap.get?_update_self (Obj.mapSeq (·.pop)) hS₃ rfl
  have k4 : ∀ c o, c ≠ S → s.heap.get? c = some o → ((g2.update S (Obj.mapSeq (·.push Value.none))).update S (Obj.mapSeq (·.pop))).get? c = some o := fun c o hb e => (Heap.get?_update_other _ _ (Ne.symm hb)).trans ((Heap.get?_update_other _ _ (Ne.symm hb)).trans (k2 c o e))
  have I4 : Inv X pins σ (upd H S (.lst [])) { s with heap := (g2.update S (Obj.mapSeq (·.push Value.none))).update S (Obj.mapSeq (·.pop)) } :=
    I.laid (t' := s.toks) (fun c o e => k4 c o (neS e) e) (by rw [hSS]; exact Nat.le_refl _) ⟨Nat.zero_le _, [], _, .nil, hS₄⟩
  have kx : HExt H (upd H S (.lst [])) := HExt.upd hnone
  refine wpAny_pure ⟨plainId_quiet F.plain_extend_loop _, zip_loop (X := X) (pins := pins) (σ := σ) (H0 := H) hc hh D hn hnz (fun s' H' acc' I' e1 e2 e3 e4 => ?_) n 0 _ _ [] (by omega) (Nat.zero_le _) I4 ?_ ?_ (kx _ _ ha) (kx _ _ hb) (fun q => by rw [q, hnone] at ha; cases ha) (fun q => by rw [q, hnone] at hb; cases hb) upd_same rfl (fun j v e => by simp at e) (fun c o nc e => kx c o e)⟩
  · show wpAny (model X.prog X.w) A (do
        let o ← load S
        match o.data with
        | .seq xs _ => pure xs.toList
        | _ => unsupported "internal:collect") Q E s'
    obtain ⟨zl, its3, n3, r3, hl3, e3'⟩ := I'.lstM e1
    refine wpAny_bind (wpAny_load e3' ?_)
    show wpAny _ _ (pure its3.toArray.toList) Q E _
    refine wpAny_pure ?_
    rw [List.toList_toArray]
    exact hQ s' H' acc' its3 I' r3 e2 e3 fun c o e => e4 c o (fun q => by rw [q, hnone] at e; cases e) e
  · obtain ⟨_, hTI, ⟨x, y, hTO⟩, h1', h2'⟩ := st
    exact ⟨.inl ⟨k4 _ _ (neS hz) hz, rfl⟩, k4 _ _ (neS hTI) hTI, ⟨x, y, k4 _ _ (neS hTO) hTO⟩, h1'.at fun o e => k4 _ o (neS e) e, h2'.at fun o e => k4 _ o (neS e) e⟩
  · intro c hc
    obtain ⟨f1, f2⟩ := hf c hc
    refine ⟨?_, f2⟩
    have hcS : c ≠ S := by
      obtain ⟨_, hTI, ⟨x, y, hTO⟩, ⟨_, e1, _⟩, ⟨_, e2, _⟩⟩ := st
      have e' : c = z ∨ c = TI ∨ c = TO ∨ c = i1 ∨ c = i2 := by simpa using hc
      rcases e' with q | q | q | q | q <;> rw [q]
      · exact neS hz
      · exact neS hTI
      · exact neS hTO
      · exact neS e1
      · exact neS e2
    rw [upd_ne hcS]; exact f1
end
end T
namespace T
open PySem PySem.Spec PyProof.Rows L2
/-! ### the plain calls, all -/
def nestF (x y : Str) (n : Nat) : Option (List D → Option D) :=
  match decide (x = "list") && decide (y = "range") && (decide (n = 1) || decide (n = 2)) with
  | true => some lrF
  | false => match decide (x = "tuple") && decide (y = "range") && decide (n = 1) with
    | true => some trF
    | false => match decide (x = "len") && decide (y = "set") && decide (n = 1) with
      | true => some lsF
      | false => match decide (x = "list") && decide (y = "zip") && decide (n = 2) with
        | true => some lzF
        | false => match decide (x = "sorted") && decide (y = "set") && decide (n = 1) with
          | true => some ssF
          | false => match decide (x = "tuple") && decide (y = "range") && decide (n = 3) with
            | true => some tr3F
            | false => match decide (x = "list") && decide (y = "range") && decide (n = 3) with
              | true => some lr3F
              | false => none
def spec2 (sc : Scope) (x : Str) (a : Expr) (es : List Expr) : Option (List Expr × (List D → Option D)) := match a, es with
  | .Call (.Name y _) bs [] _, [] => (match isGlo sc y with
    | true => (nestF x y bs.length).map fun g => (bs, g)
    | false => none)
  | a, [.Name c _] => (match decide (x = "isinstance") && isGlo sc c with
    | true => (look tyNm c).map fun t => ([a], isF t)
    | false => none)
  | _, _ => none
def plP : Pl := fun sc e => match e with
  | .Call (.Name x _) (a :: es) [] _ => (match isGlo sc x with
    | true => (match spec2 sc x a es with
      | some r => some r
      | none => (match look tblB x with
        | some g => some (a :: es, g)
        | none => (look tblT x).map fun g => (a :: es, g)))
    | false => none)
  | .Subscript a (.Slice none none (some (.UnaryOp .USub (.Constant (.int 1) _ _) _)) _) _ => some ([a], revF)
  | _ => none
theorem plP_leaf : PlLeaf plP := by
  refine ⟨fun sc e h => ?_, fun sc y p q p2 es g h => ?_⟩
  · unfold plP at h
    split at h
    · rfl
    · rfl
    · exact absurd rfl h
  · have h : (match isGlo sc "len" with
      | true => (match spec2 sc "len" (.Name y q) [] with
        | some r => some r
        | none => (match look tblB "len" with
          | some g => some ([.Name y q], g)
          | none => (look tblT "len").map fun g => ([.Name y q], g)))
      | false => none) = some (es, g) := h
    cases hg : isGlo sc "len" with
    | false => rw [hg] at h; cases h
    | true =>
      rw [hg] at h
      have hs : spec2 sc "len" (.Name y q) [] = none := rfl
      rw [hs] at h
      have hl : ∃ g, look tblB "len" = some g := ⟨_, rfl⟩
      obtain ⟨g0, hl⟩ := hl
      rw [hl] at h
      cases h
      exact ⟨rfl, rfl⟩
section
variable {ce : Str → Option Addr} {X : Cx} {sc : Scope}
theorem nest_ok (B : Bok X sc) {te : Expr → TE} (hm : MonoE te) {x y : Str} {bs : List Expr} {g : List D → Option D} {p p2 q pos : Pos} (hx : isGlo sc x = true) (hy : isGlo sc y = true) (hg : nestF x y bs.length = some g) (hs : bs.all notStar = true) (h : ∀ a ∈ bs, PE X a (te a)) :
    PE X (.Call (.Name x p) [.Call (.Name y p2) bs [] q] [] pos) (tCB (rPl ce g) (tList te bs)) := by
  unfold nestF at hg
  split at hg
  · rename_i h1
    cases hg
    simp only [Bool.and_eq_true, Bool.or_eq_true, decide_eq_true_eq] at h1
    obtain ⟨⟨rfl, rfl⟩, h1⟩ := h1
    match bs, h1 with
    | [a], _ =>
      simp only [List.all_cons, Bool.and_eq_true] at hs
      exact pl_lr1 B hm hx hy hs.1 (h a (by simp))
    | [a, b], _ =>
      simp only [List.all_cons, Bool.and_eq_true] at hs
      exact pl_lr2 B hm hx hy hs.1 hs.2.1 (h a (by simp)) (h b (by simp))
    | [], h1 => simp at h1
    | _ :: _ :: _ :: _, h1 => simp at h1
  · split at hg
    · rename_i h1
      cases hg
      simp only [Bool.and_eq_true, decide_eq_true_eq] at h1
      obtain ⟨⟨rfl, rfl⟩, h1⟩ := h1
      match bs, h1 with
      | [a], _ =>
        simp only [List.all_cons, Bool.and_eq_true] at hs
        exact pl_tr1 B hm hx hy hs.1 (h a (by simp))
    · split at hg
      · rename_i h1
        cases hg
        simp only [Bool.and_eq_true, decide_eq_true_eq] at h1
        obtain ⟨⟨rfl, rfl⟩, h1⟩ := h1
        match bs, h1 with
        | [a], _ =>
          simp only [List.all_cons, Bool.and_eq_true] at hs
          exact pl_ls B hm hx hy hs.1 (h a (by simp))
      · split at hg
        · rename_i h1
          cases hg
          simp only [Bool.and_eq_true, decide_eq_true_eq] at h1
          obtain ⟨⟨rfl, rfl⟩, h1⟩ := h1
          match bs, h1 with
          | [a, b], _ => exact pl_lz B hm hx hy hs h
        · split at hg
          · rename_i h1
            cases hg
            simp only [Bool.and_eq_true, decide_eq_true_eq] at h1
            obtain ⟨⟨rfl, rfl⟩, h1⟩ := h1
            match bs, h1 with
            | [a], _ =>
              simp only [List.all_cons, Bool.and_eq_true] at hs
              exact pl_ss B hm hx hy hs.1 (h a (by simp))
          · split at hg
            · rename_i h1
              cases hg
              simp only [Bool.and_eq_true, decide_eq_true_eq] at h1
              obtain ⟨⟨rfl, rfl⟩, h1⟩ := h1
              match bs, h1 with
              | [a, b, c], _ => exact pl_tr3 B hm hx hy hs h
            · split at hg
              · rename_i h1
                cases hg
                simp only [Bool.and_eq_true, decide_eq_true_eq] at h1
                obtain ⟨⟨rfl, rfl⟩, h1⟩ := h1
                match bs, h1 with
                | [a, b, c], _ => exact pl_lr3 B hm hx hy hs h
              · cases hg
theorem spec_ok (B : Bok X sc) {te : Expr → TE} (hm : MonoE te) {x : Str} {a : Expr} {es bs : List Expr} {g : List D → Option D} {p pos : Pos} (hx : isGlo sc x = true) (hg : spec2 sc x a es = some (bs, g)) (hs : bs.all notStar = true) (h : ∀ a ∈ bs, PE X a (te a)) :
    PE X (.Call (.Name x p) (a :: es) [] pos) (tCB (rPl ce g) (tList te bs)) := by
  unfold spec2 at hg
  split at hg
  · split at hg
    · rename_i y p2' bs' q' h5 hy
      first | have hy : isGlo sc y = true := hy | trace_state
      cases hn : nestF x y bs'.length with
      | none => rw [hn] at hg; cases hg
      | some g' =>
        rw [hn] at hg
        cases hg
        exact nest_ok B hm hx hy hn hs h
    · cases hg
  · rename_i c p2
    split at hg
    · rename_i hc
      obtain ⟨h1, h2⟩ := Bool.and_eq_true_iff.mp hc
      have h1 := of_decide_eq_true h1
      subst h1
      cases hn : look tyNm c with
      | none => rw [hn] at hg; cases hg
      | some t =>
        rw [hn] at hg
        cases hg
        simp only [List.all_cons, Bool.and_eq_true] at hs
        exact pl_is B hm hx h2 (look_mem hn) hs.1 (h a (by simp))
    · cases hg
  · cases hg
theorem plP_ok (K : PySem.W.Frag) : PlOk ce K plP := by
  intro X sc _ B e es g hg hs te hm h
  unfold plP at hg
  split at hg
  · rename_i x p a es' pos
    split at hg
    · rename_i hx
      split at hg
      · rename_i r hr
        cases hg
        exact spec_ok B hm hx hr hs h
      · split at hg
        · rename_i g' hg'
          cases hg
          exact pl_b B hx hg' hs h
        · cases hn : look tblT x with
          | none => rw [hn] at hg; cases hg
          | some g' =>
            rw [hn] at hg
            cases hg
            exact pl_t B hx hn hs h
    · cases hg
  · cases hg
    exact pl_rev (p4 := ⟨0, 0, 0, 0⟩) hm (h _ (by simp))
  · cases hg
end
end T
namespace T
open PySem PySem.Spec PyProof.Rows L2
theorem drawsR {prog : Program} {w : World} {A : Around} (hh : A.handled = none) (it : Addr) (n : Nat) : Draws prog w A it [it] n (fun i x => ∃ t, x = .int (i : Nat) t) (fun i h => IsRangeIter h it (i : Nat) ((n : Int) - (i : Nat)) 1) where
  live := fun i h st => ⟨_, st⟩
  frame := fun i h h' st k => k it (by simp) _ st
  item := fun i s Q E hi st hQ => by
    unfold Builtin.SmallTypes.nextOf
    refine wpAny_bind (CpRep.range_item st (by omega) fun h' hit hs => wpAny_pure (hQ _ h' _ ⟨_, rfl⟩ ?_ hs))
    have e1 : (((i + 1 : Nat)) : Int) = (i : Int) + 1 := by omega
    have e2 : (n : Int) - ((i + 1 : Nat) : Int) = (n : Int) - (i : Int) - 1 := by omega
    rw [e2]
    rw [e1]
    exact hit
  done := fun s Q E st hE => by
    unfold Builtin.SmallTypes.nextOf
    refine wpAny_bind (CpRep.range_end hh st (by omega) fun e h' he hx => ?_)
    obtain ⟨a, o, vs, rfl, ho, hc, _⟩ := he
    exact hE h' a hx ⟨o, ho, hc⟩
theorem begins_range (r : Addr) (n : Int) (t u v : Tok) (h1 : Builtin.Range.small 0 n 1 = true) (h2 : Builtin.Range.rangeSize 0 n 1 = ((n.toNat : Nat) : Int)) : Begins (.ref r) { cls := .type "range_iterator", data := .fields #[rawInt 0, rawInt ((n.toNat : Nat) : Int), rawInt 1] } fun h => IsRange h r 0 n 1 t u v where
  iter := fun prog w A E s Q hl h => wpAny_pyIter_range hl h1 (by rw [h2]; exact h)
  keeps := fun h h' x hk => hk r _ x
  free := rfl
theorem turn_zipR {P : Program} {w : World} {K : PySem.W.Frag} {elts : List Expr} {kk : Nat} {tpos : Pos} {n m : Nat} {z TI TO i1 i2 : Addr} (S : ZipSep2 z TI TO i1 i2 [i1] [i2]) :
    Turn P w K (.Tuple elts kk tpos) (ItzR n m) [z, TI, TO, i1, i2] z (fun i h => IsZip h z TI TO .none ∧ IsTupOf2 h TI (.ref i1) (.ref i2) ∧ (∃ x y, IsTupOf2 h TO x y) ∧ IsRangeIter h i1 (i : Nat) ((n : Int) - (i : Nat)) 1 ∧ IsRangeIter h i2 (i : Nat) ((m : Int) - (i : Nat)) 1) where
  mem := by simp
  obj := fun i h st c' hc => by
    obtain ⟨hz, hTI, ⟨x, y, hTO⟩, e1, e2⟩ := st
    have e' : c' = z ∨ c' = TI ∨ c' = TO ∨ c' = i1 ∨ c' = i2 := by simpa using hc
    rcases e' with q | q | q | q | q
    · rw [q]; exact ⟨_, hz, fun v q => nomatch q⟩
    · rw [q]; exact ⟨_, hTI, fun v q => nomatch q⟩
    · rw [q]; exact ⟨_, hTO, fun v q => nomatch q⟩
    · rw [q]; exact ⟨_, e1, fun v q => nomatch q⟩
    · rw [q]; exact ⟨_, e2, fun v q => nomatch q⟩
  keep := fun i h h' st k => by
    obtain ⟨hz, hTI, ⟨x, y, hTO⟩, h1, h2⟩ := st
    exact ⟨k z (by simp) _ hz, k TI (by simp) _ hTI, ⟨x, y, k TO (by simp) _ hTO⟩, k i1 (by simp) _ h1, k i2 (by simp) _ h2⟩
  item := by
    intro X hP hw hK hc i pins s σ H E I hf st hg
    subst hP hw hK
    obtain ⟨hz, hTI, ⟨x0, y0, hTO⟩, h1, h2⟩ := st
    obtain ⟨hx, hy⟩ := hg
    have hh : X.A.in1.handled = none := I.ok.hd hc
    have hzl : z < s.heap.objs.size := Heap.lt_size hz
    refine wpAny_pyNext_zipD2_item S (drawsR hh i1 n) (drawsR hh i2 m) hz hTI hTO h1 h2 hx hy fun u1 u2 h' tk e1 e2 z' TO' s1 s2 hT hsz hk => ?_
    obtain ⟨t1, rfl⟩ := e1
    obtain ⟨t2, rfl⟩ := e2
    refine ⟨_, rfl, wpAny_letOwnedTupleGo_zip (s := { s with heap := h', toks := tk }) z' fun h'' z'' sb => ?_⟩
    have hT2 : h''.get? s.heap.objs.size = some { cls := .type "tuple", data := .seq #[.int (i : Nat) t1, .int (i : Nat) t2] } := (sb.2 _ (Nat.ne_of_gt hzl)).trans hT
    obtain ⟨ob, hT0, hTd⟩ : ∃ ob : Obj, h''.get? s.heap.objs.size = some ob ∧ ob.dict = none := ⟨_, hT2, rfl⟩
    have new : ObjOk X.prog X.w (upd H s.heap.objs.size (.frz ob (.tup [.int (i : Nat), .int (i : Nat)]))) h'' s.heap.objs.size (.frz ob (.tup [.int (i : Nat), .int (i : Nat)])) :=
      ⟨hT0, by show 2 ≤ sizeLine; decide, [.int (i : Nat) t1, .int (i : Nat) t2], .cons ⟨t1, rfl⟩ (.cons ⟨t2, rfl⟩ .nil), ⟨_, hT2, rfl, _, rfl⟩⟩
    have I1 : Inv X pins σ (upd H s.heap.objs.size (.frz ob (.tup [.int (i : Nat), .int (i : Nat)]))) { s with heap := h'', toks := tk } :=
      I.turnedNew (t' := tk) (ch := [z, TI, TO, i1, i2]) (fun c o hb q => (sb.2 c (fun q' => hb (by simp [q']))).trans (hk c o (fun q' => hb (by simp [q'])) (fun q' => hb (by simp [q'])) (fun q' => hb (by simp [q'])) (fun q' => hb (by simp [q'])) q)) hf (Nat.le_refl _) new
    refine ⟨.ref s.heap.objs.size, _, I1, rfl, ⟨_, ob, rfl, I.hok.fresh (Nat.le_refl _), hTd, rfl⟩, ⟨z'', ?_, ⟨.int (i : Nat) t1, .int (i : Nat) t2, ?_⟩, ?_, ?_⟩, fun c hcm => ?_⟩
    · exact (sb.2 _ S.TIz).trans (hk _ _ S.TIz S.TITO S.TIi1 S.TIi2 hTI)
    · exact (sb.2 _ S.TOz).trans TO'
    · exact (sb.2 _ (Ne.symm S.zi1)).trans s1
    · exact (sb.2 _ (Ne.symm S.zi2)).trans s2
    · have hlt : c < s.heap.objs.size := by
        have e' : c = z ∨ c = TI ∨ c = TO ∨ c = i1 ∨ c = i2 := by simpa using hcm
        rcases e' with q | q | q | q | q
        · rw [q]; exact hzl
        · rw [q]; exact Heap.lt_size hTI
        · rw [q]; exact Heap.lt_size hTO
        · rw [q]; exact Heap.lt_size h1
        · rw [q]; exact Heap.lt_size h2
      rw [upd_ne (Nat.ne_of_lt hlt)]
      exact (hf c hcm).1
  done := by
    intro X hP hw hK hc i pins s σ H E I hf st hg
    subst hP hw hK
    obtain ⟨hz, hTI, ⟨x0, y0, hTO⟩, h1, h2⟩ := st
    obtain ⟨hx, hy, hend⟩ := hg
    have hh : X.A.in1.handled = none := I.ok.hd hc
    exact wpAny_pyNext_zipD2_end S (drawsR hh i1 n) (drawsR hh i2 m) hz hTI hTO h1 h2 hx hy hend
      fun h' tk hk => ⟨rfl, I.turnedL (t' := tk) (ch := [z, TI, TO, i1, i2]) (fun c o hb q => hk c o (fun q' => hb (by simp [q'])) (fun q' => hb (by simp [q'])) (fun q' => hb (by simp [q'])) (fun q' => hb (by simp [q'])) q) hf⟩
  self := fun A i s Q E st h => wpAny_pyIter_zip st.1 h
theorem rg_small {n : Int} (h : small n = true) : Builtin.Range.small 0 n 1 = true ∧ Builtin.Range.rangeSize 0 n 1 = ((n.toNat : Nat) : Int) := by
  have := small_bd h
  refine ⟨small_one (by omega) (by omega) (by omega) (by omega), ?_⟩
  rw [rangeSize_one]
  split <;> omega
theorem zr_ok {ce : Str → Option Addr} : Zip3Ok ce := by
  intro X sc B gz gr x y px py p p1 p2 q1 q2 pos tpos elts kk ta tb ha hb
  refine ⟨fun pins s σ H R I hq => ?_⟩
  refine Call_ (ld_blt I gz (B.bi _ (by decide)) PyProof.Rows.boot_zip ?_)
  refine PyProof.Rows.callWith_type1 (PyProof.Rows.args_cons ?_ rfl) rfl rfl
  refine Call_ (ld_blt I gr (B.bi _ (by decide)) boot_range (PyProof.Rows.callWith_type1 (one_arg ha I hq (fun v s1 x1 H1 I1 r1 q => ?_) rfl) rfl))
  obtain ⟨n, rfl, hn, q⟩ := q
  obtain ⟨t1, rfl⟩ := r1
  refine call_range_1 ?_
  have I2 : Inv X ((s1.heap.objs.size, _) :: pins) σ H1 { s1 with heap := s1.heap.push { cls := .type "range", data := .fields #[.int 0 s1.toks, .int n t1, .int 1 (s1.toks + 1)] }, toks := s1.toks + 1 + 1 } := ClX.pin_new (o := { cls := .type "range", data := .fields #[.int 0 s1.toks, .int n t1, .int 1 (s1.toks + 1)] }) I1 (fun b u e => Heap.get?_push_of_some _ e) (Nat.le_refl _) (Heap.get?_push_size _ rfl) (fun v z => nomatch z)
  generalize s1.heap.objs.size = r1 at I2
  generalize s1.toks = k1 at I2
  generalize ({ s1 with heap := s1.heap.push { cls := .type "range", data := .fields #[.int 0 k1, .int n t1, .int 1 (k1 + 1)] }, toks := k1 + 1 + 1 } : Shared) = s2 at I2
  refine PyProof.Rows.args_cons ?_ rfl
  refine Call_ (ld_blt I2 gr (B.bi _ (by decide)) boot_range (PyProof.Rows.callWith_type1 (one_arg hb I2 q (fun v s3 x3 H3 I3 r3 q => ?_) rfl) rfl))
  obtain ⟨m, rfl, hm, q⟩ := q
  obtain ⟨t3, rfl⟩ := r3
  refine call_range_1 ?_
  have I4 : Inv X ((s3.heap.objs.size, _) :: _ :: pins) σ H3 { s3 with heap := s3.heap.push { cls := .type "range", data := .fields #[.int 0 s3.toks, .int m t3, .int 1 (s3.toks + 1)] }, toks := s3.toks + 1 + 1 } := ClX.pin_new (o := { cls := .type "range", data := .fields #[.int 0 s3.toks, .int m t3, .int 1 (s3.toks + 1)] }) I3 (fun b u e => Heap.get?_push_of_some _ e) (Nat.le_refl _) (Heap.get?_push_size _ rfl) (fun v z => nomatch z)
  generalize s3.heap.objs.size = r2 at I4
  generalize s3.toks = k3 at I4
  generalize ({ s3 with heap := s3.heap.push { cls := .type "range", data := .fields #[.int 0 k3, .int m t3, .int 1 (k3 + 1)] }, toks := k3 + 1 + 1 } : Shared) = s4 at I4
  refine PyProof.Rows.args_nil ?_
  have g2 := ClX.pin_at I4
  have g1 := ClX.pin_at (ClX.unpin I4)
  obtain ⟨a1, a2⟩ := rg_small hn
  obtain ⟨b1, b2⟩ := rg_small hm
  refine zip_begins2 (begins_range r1 n k1 t1 (k1 + 1) a1 a2) (begins_range r2 m k3 t3 (k3 + 1) b1 b2) g1 g2 fun h' hz hTI hTO j1 j2 hsz hk => wpAny_pyIter_zip hz ?_
  have I5 : Inv X pins σ H3 { s4 with heap := h' } := (ClX.unpin (ClX.unpin I4)).kept (t' := s4.toks) hk
  have I6 := ClX.unpin (ClX.unpin I4)
  have S := zip_sep2 (N := s4.heap.objs.size) (fp1 := []) (fp2 := []) (fun x hx => nomatch hx) (fun x hx => nomatch hx)
  refine ⟨s4.heap.objs.size + 4, [s4.heap.objs.size + 4, s4.heap.objs.size + 2, s4.heap.objs.size + 3, s4.heap.objs.size, s4.heap.objs.size + 1], _, ItzR n.toNat m.toNat, H3, rfl, I5, turn_zipR S, ⟨hz, hTI, ⟨_, _, hTO⟩, ?_, ?_⟩, fun x hx => ?_, q⟩
  · show IsRangeIter _ _ ((0 : Nat) : Int) (((n.toNat : Nat) : Int) - ((0 : Nat) : Int)) 1
    rw [show (((n.toNat : Nat) : Int) - ((0 : Nat) : Int)) = ((n.toNat : Nat) : Int) by omega]
    exact j1
  · show IsRangeIter _ _ ((0 : Nat) : Int) (((m.toNat : Nat) : Int) - ((0 : Nat) : Int)) 1
    rw [show (((m.toNat : Nat) : Int) - ((0 : Nat) : Int)) = ((m.toNat : Nat) : Int) by omega]
    exact j2
  · have e' : x = s4.heap.objs.size + 4 ∨ x = s4.heap.objs.size + 2 ∨ x = s4.heap.objs.size + 3 ∨ x = s4.heap.objs.size ∨ x = s4.heap.objs.size + 1 := by simpa using hx
    have hle : s4.heap.objs.size ≤ x := by rcases e' with z | z | z | z | z <;> rw [z] <;> first | exact Nat.le_add_right _ _ | exact Nat.le_refl _
    exact I6.fpOk hle (I6.hok.fresh hle)
end T
namespace T
open PySem PySem.Spec PyProof.Rows L2
/-! ### the world: the script, changing lists, objects of two fields -/
inductive Ob where
  | scr (ns : List Int)
  | lst (ds : List D)
  | ins (fs : List (Str × D))
  | dct (kds : List (List Int × D))
abbrev Wo := List Ob
def Ob.chg : Ob → Bool
  | .scr _ => false
  | _ => true
def ScrAt (K : PySem.W.Frag) (H : Hp) (a : Addr) (ns : List Int) : Prop := (∃ o, H a = some (.frz o (.lst (ns.map V.int)))) ∨
  ∃ (o : Obj) (its : Array Value) (n : Nat), K.lookup a = some o ∧ o.cls = .type "list" ∧ o.dict = none ∧ o.data = .seq its n ∧ its.size ≤ sizeLine ∧ Vals (ns.map V.int) its.toList
theorem ScrAt.sq {K : PySem.W.Frag} {H : Hp} {a : Addr} {ns : List Int} (h : ScrAt K H a ns) : SqL K H a (ns.map V.int) := h.elim (fun ⟨o, e⟩ => .inl (.inr ⟨o, e⟩)) .inr
def ObAt (ce : Str → Option Addr) (K : PySem.W.Frag) (cw : Addr) (hs : List Addr) (H : Hp) (a : Addr) : Ob → Prop
  | .scr ns => ScrAt K H a ns ∧ ns.length ≤ 63
  | .lst ds => ∃ vs, H a = some (.lst vs) ∧ vs.length ≤ sizeLine ∧ Reps ce hs H (fun _ _ => False) vs ds
  | .ins fs => ∃ dx fvs, H a = some (.ins cw dx fvs) ∧ FRep ce hs H fvs fs
  | .dct kds => ∃ kvs, H a = some (.dT kvs) ∧ DKV ce hs H kvs kds
structure WRel (ce : Str → Option Addr) (K : PySem.W.Frag) (cw : Addr) (g : Gh) (H : Hp) (w : Wo) : Prop where
  len : g.hs.length = w.length
  om : ∀ a, a ∈ g.Om ↔ ∃ (k : Nat) (o : Ob), w[k]? = some o ∧ o.chg = true ∧ g.hs[k]? = some a
  inj : ∀ (k k' : Nat) (o o' : Ob) (a : Addr), w[k]? = some o → o.chg = true → w[k']? = some o' → o'.chg = true → g.hs[k]? = some a → g.hs[k']? = some a → k = k'
  ob : ∀ (k : Nat) (o : Ob) (a : Addr), w[k]? = some o → g.hs[k]? = some a → ObAt ce K cw g.hs H a o
section
variable {ce : Str → Option Addr} {K : PySem.W.Frag} {cw : Addr}
theorem ObAt.go {hs hs' : List Addr} {H H' : Hp} {a : Addr} {o : Ob} (h : ObAt ce K cw hs H a o) (ha : o.chg = true → H' a = H a) (kt : ∀ b o, isT o → H b = some o → H' b = some o) (hh : ∀ (k : Nat) (a : Addr), hs[k]? = some a → hs'[k]? = some a) : ObAt ce K cw hs' H' a o := by
  cases o with
  | scr ns => exact ⟨h.1.elim (fun ⟨o, e⟩ => .inl ⟨o, kt _ _ trivial e⟩) .inr, h.2⟩
  | lst ds =>
    obtain ⟨vs, e, n, r⟩ := h
    exact ⟨vs, (ha rfl).trans e, n, r.go (fun _ _ _ z => z.elim) kt hh⟩
  | ins fs =>
    obtain ⟨dx, fvs, e, r⟩ := h
    exact ⟨dx, fvs, (ha rfl).trans e, r.go kt hh⟩
  | dct kds =>
    obtain ⟨kvs, e, r⟩ := h
    exact ⟨kvs, (ha rfl).trans e, r.go kt hh⟩
variable (ce K cw) in
def zo : Wd Wo where
  rel := WRel ce K cw
  stab := fun {g H H' w} r k kt => ⟨r.len, r.om, r.inj, fun i o a e1 e2 => (r.ob i o a e1 e2).go (fun hc => k a ((r.om a).mpr ⟨i, o, e1, hc, e2⟩)) kt fun _ _ e => e⟩
def hlO (w : Wo) (k : Nat) : Option (List D) := match w[k]? with
  | some (.lst ds) => some ds
  | _ => none
def hpO (w : Wo) (k : Nat) (ds : List D) : Wo := w.set k (.lst ds)
theorem hlO_some {w : Wo} {k : Nat} {ds : List D} (h : hlO w k = some ds) : w[k]? = some (.lst ds) := by
  unfold hlO at h
  split at h
  · cases h; assumption
  · cases h
theorem hlo : Hlo (zo ce K cw) ce hlO hpO where
  get := fun {g H w k ds} r h => by
    have e := hlO_some h
    obtain ⟨hk, _⟩ := List.getElem?_eq_some_iff.mp e
    have hk2 : k < g.hs.length := by rw [r.len]; exact hk
    have ea : g.hs[k]? = some g.hs[k] := List.getElem?_eq_getElem hk2
    obtain ⟨vs, e1, n, rr⟩ := r.ob k _ _ e ea
    exact ⟨_, vs, ea, (r.om _).mpr ⟨k, _, e, rfl, ea⟩, e1, n, rr⟩
  put := fun {g H w k ds ds' a vs'} r h ea hl rr => by
    have e := hlO_some h
    obtain ⟨hk, _⟩ := List.getElem?_eq_some_iff.mp e
    obtain ⟨vs, e1, n, _⟩ := r.ob k _ _ e ea
    have kt : ∀ b o, isT o → H b = some o → upd H a (.lst vs') b = some o := fun b o t eb => by
      rw [upd_ne (show b ≠ a from fun z => by rw [z, e1] at eb; cases eb; exact t)]; exact eb
    have back : ∀ (i : Nat) (o : Ob), (hpO w k ds')[i]? = some o → o.chg = true → ∃ o', w[i]? = some o' ∧ o'.chg = true := fun i o ei hc => by
      unfold hpO at ei
      by_cases z : k = i
      · subst z; exact ⟨_, e, rfl⟩
      · rw [List.getElem?_set_ne z] at ei; exact ⟨o, ei, hc⟩
    refine ⟨by rw [r.len]; exact (List.length_set ..).symm, fun b => ⟨fun hb => ?_, fun ⟨i, o, ei, hc, eb⟩ => ?_⟩, fun i i' o o' b ei hc ei' hc' eb eb' => ?_, fun i o b ei eb => ?_⟩
    · obtain ⟨i, o, ei, hc, eb⟩ := (r.om b).mp hb
      by_cases z : k = i
      · subst z
        exact ⟨k, .lst ds', List.getElem?_set_self hk, rfl, eb⟩
      · exact ⟨i, o, by unfold hpO; rw [List.getElem?_set_ne z]; exact ei, hc, eb⟩
    · obtain ⟨o', ei', hc'⟩ := back i o ei hc
      exact (r.om b).mpr ⟨i, o', ei', hc', eb⟩
    · obtain ⟨p, p1, p2⟩ := back i o ei hc
      obtain ⟨p', p1', p2'⟩ := back i' o' ei' hc'
      exact r.inj i i' p p' b p1 p2 p1' p2' eb eb'
    · unfold hpO at ei
      by_cases z : k = i
      · subst z
        rw [List.getElem?_set_self hk] at ei
        cases ei
        rw [ea] at eb
        cases eb
        exact ⟨vs', upd_same, hl, rr.go (fun _ _ _ z => z.elim) kt fun _ _ e => e⟩
      · rw [List.getElem?_set_ne z] at ei
        refine (r.ob i o b ei eb).go (fun hc => upd_ne fun q => z ?_) kt fun _ _ e => e
        subst q
        exact r.inj k i _ o b e rfl ei hc ea eb
/-- new objects become changing ones -/
theorem adoptO {g0 g : Gh} {H0 H : Hp} {w : Wo} {a : Addr} {ob : Ob} {ho : HO} (x : CStep g0 H0 g H) (wk : WOk (zo ce K cw) g H w) (ea : H a = some ho) (nt : ¬ isT ho) (hch : ob.chg = true) (h0 : H0 a = none) (ha : a ∉ g.Om) (r : ∀ hs, (∀ (k : Nat) (b : Addr), g.hs[k]? = some b → hs[k]? = some b) → ObAt ce K cw hs H a ob) :
    CStep g0 H0 ⟨g.Om ++ [a], g.hs ++ [a]⟩ H ∧ WOk (zo ce K cw) ⟨g.Om ++ [a], g.hs ++ [a]⟩ H (w ++ [ob]) ∧ (g.hs ++ [a])[w.length]? = some a := by
  have rl : WRel ce K cw g H w := wk.rel
  have hpre : ∀ (k : Nat) (b : Addr), g.hs[k]? = some b → (g.hs ++ [a])[k]? = some b := fun k b e => by
    rw [List.getElem?_append_left (List.getElem?_eq_some_iff.mp e).1]; exact e
  have hlast : (g.hs ++ [a])[w.length]? = some a := by rw [← rl.len]; simp
  have old : ∀ (k : Nat) (o : Ob), (w ++ [ob])[k]? = some o → (k < w.length ∧ w[k]? = some o) ∨ (k = w.length ∧ o = ob) := fun k o e => by
    by_cases hk : k < w.length
    · rw [List.getElem?_append_left hk] at e; exact .inl ⟨hk, e⟩
    · rw [List.getElem?_append_right (by omega)] at e
      have : k - w.length = 0 := by
        cases q : k - w.length with
        | zero => rfl
        | succ m => rw [q] at e; simp at e
      rw [this] at e
      cases e
      exact .inr ⟨by omega, rfl⟩
  have oldh : ∀ (k : Nat) (b : Addr), k < w.length → (g.hs ++ [a])[k]? = some b → g.hs[k]? = some b := fun k b hk e => by
    rw [List.getElem?_append_left (by rw [rl.len]; exact hk)] at e; exact e
  refine ⟨⟨x.keep, fun b hb => List.mem_append_left _ (x.sub b hb), fun b hb => ?_, fun k b e => hpre k b (x.hs k b e)⟩, ⟨⟨by simp [rl.len], fun b => ⟨fun hb => ?_, fun ⟨k, o, e, hc, eb⟩ => ?_⟩, fun k k' o o' b e hc e' hc' eb eb' => ?_, fun k o b e eb => ?_⟩, fun b hb => ?_, fun b hb o e => ?_⟩, hlast⟩
  · rcases List.mem_append.mp hb with z | z
    · exact x.new b z
    · simp at z; subst z; exact .inr h0
  · rcases List.mem_append.mp hb with z | z
    · obtain ⟨k, o, e, hc, eb⟩ := (rl.om b).mp z
      exact ⟨k, o, by rw [List.getElem?_append_left (List.getElem?_eq_some_iff.mp e).1]; exact e, hc, hpre k b eb⟩
    · simp at z; subst z
      exact ⟨w.length, ob, by simp, hch, hlast⟩
  · rcases old k o e with ⟨hk, e1⟩ | ⟨hk, _⟩
    · exact List.mem_append_left _ ((rl.om b).mpr ⟨k, o, e1, hc, oldh k b hk eb⟩)
    · rw [hk, hlast] at eb; cases eb; exact List.mem_append_right _ (by simp)
  · rcases old k o e with ⟨hk, e1⟩ | ⟨hk, _⟩
    · rcases old k' o' e' with ⟨hk', e1'⟩ | ⟨hk', _⟩
      · exact rl.inj k k' o o' b e1 hc e1' hc' (oldh k b hk eb) (oldh k' b hk' eb')
      · rw [hk', hlast] at eb'; cases eb'
        exact absurd ((rl.om a).mpr ⟨k, o, e1, hc, oldh k a hk eb⟩) ha
    · rcases old k' o' e' with ⟨hk', e1'⟩ | ⟨hk', _⟩
      · rw [hk, hlast] at eb; cases eb
        exact absurd ((rl.om a).mpr ⟨k', o', e1', hc', oldh k' a hk' eb'⟩) ha
      · rw [hk, hk']
  · rcases old k o e with ⟨hk, e1⟩ | ⟨hk, z⟩
    · exact (rl.ob k o b e1 (oldh k b hk eb)).go (fun _ => rfl) (fun _ _ _ e => e) hpre
    · subst z
      rw [hk, hlast] at eb; cases eb
      exact r _ hpre
  · rcases List.mem_append.mp hb with z | z
    · exact wk.dom b z
    · simp at z; subst z; rw [ea]; exact fun q => nomatch q
  · rcases List.mem_append.mp hb with z | z
    · exact wk.mu b z o e
    · simp at z; subst z; rw [ea] at e; cases e; exact nt
theorem adopt {g0 g : Gh} {H0 H : Hp} {w : Wo} {a : Addr} {vs : List V} {ds : List D} (x : CStep g0 H0 g H) (wk : WOk (zo ce K cw) g H w) (ea : H a = some (.lst vs)) (n : vs.length ≤ sizeLine) (h0 : H0 a = none) (ha : a ∉ g.Om) (r : Reps ce g.hs H (fun _ _ => False) vs ds) :
    CStep g0 H0 ⟨g.Om ++ [a], g.hs ++ [a]⟩ H ∧ WOk (zo ce K cw) ⟨g.Om ++ [a], g.hs ++ [a]⟩ H (w ++ [.lst ds]) ∧ (g.hs ++ [a])[w.length]? = some a :=
  adoptO x wk ea (fun t => t) rfl h0 ha fun hs hh => ⟨vs, ea, n, r.go (fun _ _ _ z => z.elim) (fun _ _ _ e => e) hh⟩
theorem adoptD {g0 g : Gh} {H0 H : Hp} {w : Wo} {a : Addr} {kvs : List (List Key × V)} {ds : List (List Int × D)} (x : CStep g0 H0 g H) (wk : WOk (zo ce K cw) g H w) (ea : H a = some (.dT kvs)) (h0 : H0 a = none) (ha : a ∉ g.Om) (r : DKV ce g.hs H kvs ds) :
    CStep g0 H0 ⟨g.Om ++ [a], g.hs ++ [a]⟩ H ∧ WOk (zo ce K cw) ⟨g.Om ++ [a], g.hs ++ [a]⟩ H (w ++ [.dct ds]) ∧ (g.hs ++ [a])[w.length]? = some a :=
  adoptO x wk ea (fun t => t) rfl h0 ha fun hs hh => ⟨kvs, ea, r.go (fun _ _ _ e => e) hh⟩
def dcO (w : Wo) (k : Nat) : Option (List (List Int × D)) := match w[k]? with
  | some (.dct kds) => some kds
  | _ => none
def dwO (w : Wo) (k : Nat) (kds : List (List Int × D)) : Wo := w.set k (.dct kds)
def dnO (w : Wo) : Option (Nat × Wo) := some (w.length, w ++ [.dct []])
def dxO : Dx Wo := ⟨dcO, dwO, dnO⟩
theorem dcO_some {w : Wo} {k : Nat} {kds : List (List Int × D)} (h : dcO w k = some kds) : w[k]? = some (.dct kds) := by
  unfold dcO at h
  split at h
  · cases h; assumption
  · cases h
theorem hdo : Hdo (zo ce K cw) ce dxO where
  get := fun {g H w k ds} r h => by
    have e := dcO_some h
    obtain ⟨hk, _⟩ := List.getElem?_eq_some_iff.mp e
    have hk2 : k < g.hs.length := by rw [r.len]; exact hk
    have ea : g.hs[k]? = some g.hs[k] := List.getElem?_eq_getElem hk2
    obtain ⟨vs, e1, rr⟩ := r.ob k _ _ e ea
    exact ⟨_, vs, ea, (r.om _).mpr ⟨k, _, e, rfl, ea⟩, e1, rr⟩
  put := fun {g H w k ds ds' a vs'} r h ea rr => by
    have e := dcO_some h
    obtain ⟨hk, _⟩ := List.getElem?_eq_some_iff.mp e
    obtain ⟨vs, e1, _⟩ := r.ob k _ _ e ea
    have kt : ∀ b o, isT o → H b = some o → upd H a (.dT vs') b = some o := fun b o t eb => by
      rw [upd_ne (show b ≠ a from fun z => by rw [z, e1] at eb; cases eb; exact t)]; exact eb
    have back : ∀ (i : Nat) (o : Ob), (dwO w k ds')[i]? = some o → o.chg = true → ∃ o', w[i]? = some o' ∧ o'.chg = true := fun i o ei hc => by
      have ei : (w.set k (.dct ds'))[i]? = some o := ei
      by_cases z : k = i
      · subst z; exact ⟨_, e, rfl⟩
      · rw [List.getElem?_set_ne z] at ei; exact ⟨o, ei, hc⟩
    refine ⟨by rw [r.len]; exact (List.length_set ..).symm, fun b => ⟨fun hb => ?_, fun ⟨i, o, ei, hc, eb⟩ => ?_⟩, fun i i' o o' b ei hc ei' hc' eb eb' => ?_, fun i o b ei eb => ?_⟩
    · obtain ⟨i, o, ei, hc, eb⟩ := (r.om b).mp hb
      by_cases z : k = i
      · subst z
        exact ⟨k, .dct ds', List.getElem?_set_self hk, rfl, eb⟩
      · exact ⟨i, o, by show (w.set k (.dct ds'))[i]? = _; rw [List.getElem?_set_ne z]; exact ei, hc, eb⟩
    · obtain ⟨o', ei', hc'⟩ := back i o ei hc
      exact (r.om b).mpr ⟨i, o', ei', hc', eb⟩
    · obtain ⟨p, p1, p2⟩ := back i o ei hc
      obtain ⟨p', p1', p2'⟩ := back i' o' ei' hc'
      exact r.inj i i' p p' b p1 p2 p1' p2' eb eb'
    · have ei : (w.set k (.dct ds'))[i]? = some o := ei
      by_cases z : k = i
      · subst z
        rw [List.getElem?_set_self hk] at ei
        cases ei
        rw [ea] at eb
        cases eb
        exact ⟨vs', upd_same, rr.go kt fun _ _ e => e⟩
      · rw [List.getElem?_set_ne z] at ei
        refine (r.ob i o b ei eb).go (fun hc => upd_ne fun q => z ?_) kt fun _ _ e => e
        subst q
        exact r.inj k i _ o b e rfl ei hc ea eb
  new := fun {g H w w' k p} wk h hp => by
    cases h
    have x2 : HExt H (upd H p (.dT [])) := HExt.upd hp
    obtain ⟨c1, w1, e1⟩ := adoptD (CStep.ext (g := g) x2) (wk.ext x2) upd_same hp (fun z => wk.dom p z hp) .nil
    exact ⟨_, c1, w1, e1⟩
/-! ### instances -/
theorem putO {g : Gh} {H : Hp} {w : Wo} {k : Nat} {o0 o1 : Ob} {a : Addr} {h0 h1 : HO} (r : WRel ce K cw g H w) (e : w[k]? = some o0) (c0 : o0.chg = true) (c1 : o1.chg = true) (ea : g.hs[k]? = some a) (e0 : H a = some h0) (nt : ¬ isT h0) (ra : ∀ H', (∀ b o, isT o → H b = some o → H' b = some o) → H' a = some h1 → ObAt ce K cw g.hs H' a o1) :
    WRel ce K cw g (upd H a h1) (w.set k o1) := by
  obtain ⟨hk, _⟩ := List.getElem?_eq_some_iff.mp e
  have kt : ∀ b o, isT o → H b = some o → upd H a h1 b = some o := fun b o t eb => by
    rw [upd_ne (show b ≠ a from fun z => by rw [z, e0] at eb; cases eb; exact nt t)]; exact eb
  have back : ∀ (i : Nat) (o : Ob), (w.set k o1)[i]? = some o → o.chg = true → ∃ o', w[i]? = some o' ∧ o'.chg = true := fun i o ei hc => by
    by_cases z : k = i
    · subst z; exact ⟨_, e, c0⟩
    · rw [List.getElem?_set_ne z] at ei; exact ⟨o, ei, hc⟩
  refine ⟨by rw [r.len]; exact (List.length_set ..).symm, fun b => ⟨fun hb => ?_, fun ⟨i, o, ei, hc, eb⟩ => ?_⟩, fun i i' o o' b ei hc ei' hc' eb eb' => ?_, fun i o b ei eb => ?_⟩
  · obtain ⟨i, o, ei, hc, eb⟩ := (r.om b).mp hb
    by_cases z : k = i
    · subst z
      exact ⟨k, o1, List.getElem?_set_self hk, c1, eb⟩
    · exact ⟨i, o, by rw [List.getElem?_set_ne z]; exact ei, hc, eb⟩
  · obtain ⟨o', ei', hc'⟩ := back i o ei hc
    exact (r.om b).mpr ⟨i, o', ei', hc', eb⟩
  · obtain ⟨p, p1, p2⟩ := back i o ei hc
    obtain ⟨p', p1', p2'⟩ := back i' o' ei' hc'
    exact r.inj i i' p p' b p1 p2 p1' p2' eb eb'
  · by_cases z : k = i
    · subst z
      rw [List.getElem?_set_self hk] at ei
      cases ei
      rw [ea] at eb
      cases eb
      exact ra _ kt upd_same
    · rw [List.getElem?_set_ne z] at ei
      refine (r.ob i o b ei eb).go (fun hc => upd_ne fun q => z ?_) kt fun _ _ e => e
      subst q
      exact r.inj k i _ o b e c0 ei hc ea eb
def fgO (w : Wo) (k : Nat) : Option (List (Str × D)) := match w[k]? with
  | some (.ins fs) => some fs
  | _ => none
def fpO (w : Wo) (k : Nat) (fs : List (Str × D)) : Wo := w.set k (.ins fs)
def ixOb : Ix Wo := ⟨fgO, fpO, fun w => (w.length, w ++ [.ins []]), fun w ds => (w.length, w ++ [.lst ds]), fun dss => dss.map .lst⟩
def io0 : Io Wo := ⟨ixOb, [], [], [], none, []⟩
theorem fgO_some {w : Wo} {k : Nat} {fs : List (Str × D)} (h : fgO w k = some fs) : w[k]? = some (.ins fs) := by
  unfold fgO at h
  split at h
  · cases h; assumption
  · cases h
theorem hio : Hio (zo ce K cw) ce cw ixOb where
  get := fun {g H w k fs} r h => by
    have e := fgO_some h
    obtain ⟨hk, _⟩ := List.getElem?_eq_some_iff.mp e
    have hk2 : k < g.hs.length := by rw [r.len]; exact hk
    have ea : g.hs[k]? = some g.hs[k] := List.getElem?_eq_getElem hk2
    obtain ⟨dx, fvs, e1, rr⟩ := r.ob k _ _ e ea
    exact ⟨_, dx, fvs, ea, (r.om _).mpr ⟨k, _, e, rfl, ea⟩, e1, rr⟩
  put := fun {g H w k fs fs' a dx fvs fvs'} r h ea eH rr =>
    putO r (fgO_some h) rfl rfl ea eH (fun t => t) fun H' kt e => ⟨dx, fvs', e, rr.go kt fun _ _ e => e⟩
  newI := fun {g0 g H0 H w a dx} x wk ea h0 ha => by
    obtain ⟨c1, w1, e1⟩ := adoptO (ob := .ins []) x wk ea (fun t => t) rfl h0 ha fun hs hh => ⟨dx, [], ea, .nil⟩
    exact ⟨_, c1, w1, e1⟩
  newL := fun {g0 g H0 H w a vs ds} x wk ea n h0 ha r => by
    obtain ⟨c1, w1, e1⟩ := adopt x wk ea n h0 ha r
    exact ⟨_, c1, w1, e1⟩
  new := fun {H as dss} nd hl h => by
    have hw : ∀ (k : Nat) (o : Ob), (dss.map Ob.lst)[k]? = some o → ∃ ds, dss[k]? = some ds ∧ o = .lst ds := fun k o e => by
      rw [List.getElem?_map] at e
      obtain ⟨ds, e1, e2⟩ := Option.map_eq_some_iff.mp e
      exact ⟨ds, e1, e2.symm⟩
    have ob : ∀ (k : Nat) (a : Addr), as[k]? = some a → ∃ ds, dss[k]? = some ds := fun k a e => by
      have := (List.getElem?_eq_some_iff.mp e).1
      exact ⟨_, List.getElem?_eq_getElem (by omega)⟩
    refine ⟨⟨by simp [ixOb, hl], fun a => ⟨fun ha => ?_, fun ⟨k, o, e, hc, ea⟩ => ?_⟩, fun k k' o o' a _ _ _ _ e e' => ?_, fun k o a e ea => ?_⟩, fun a ha => ?_, fun a ha o e => ?_⟩
    · obtain ⟨k, hk⟩ := List.mem_iff_getElem?.mp ha
      obtain ⟨ds, hd⟩ := ob k a hk
      exact ⟨k, .lst ds, by show (dss.map Ob.lst)[k]? = _; rw [List.getElem?_map, hd]; rfl, rfl, hk⟩
    · exact List.mem_of_getElem? ea
    · exact (List.getElem?_inj (List.getElem?_eq_some_iff.mp e).1 nd).mp (e.trans e'.symm)
    · obtain ⟨ds, hd, rfl⟩ := hw k o e
      exact h k a ds ea hd
    · obtain ⟨k, hk⟩ := List.mem_iff_getElem?.mp ha
      obtain ⟨ds, hd⟩ := ob k a hk
      obtain ⟨vs, e, _⟩ := h k a ds hk hd
      rw [e]; exact fun q => nomatch q
    · obtain ⟨k, hk⟩ := List.mem_iff_getElem?.mp ha
      obtain ⟨ds, hd⟩ := ob k a hk
      obtain ⟨vs, e', _⟩ := h k a ds hk hd
      rw [e'] at e; cases e; exact fun t => t
/-! ### the start of the draws -/
def isStart : List Stmt → Bool
  | [.Return (some (.List [.IfExp (.Compare (.Name s _) [.NotEq] [.List [] _] _) (.Call (.Name l _) [.Name s' _] [] _) (.List [.Constant (.int 0) _ _] _) _, .Constant (.int 0) _ _] _)) _] => decide (s = "script") && decide (s' = "script") && decide (l = "list")
  | _ => false
def scrOf (ns : List Int) : List D := match ns with
  | [] => [.int 0]
  | ns => ns.map .int
def startDen : Den Wo := fun ds w => match ds with
  | [d] => (match hdlOf d with
    | some k => (match w[k]? with
      | some (.scr ns) => .ok (hdl (w.length + 1)) (w ++ [.lst (scrOf ns)] ++ [.lst [hdl w.length, .int 0]])
      | _ => .no)
    | none => .no)
  | _ => .no
end
end T
namespace T
open PySem PySem.Spec PyProof.Rows L2
section
variable {ce : Str → Option Addr} {cw : Addr} {P : Program} {wd : World} {K : PySem.W.Frag} {mg : Str → Option Value} {base : Heap} {Γ : List (Str × D)} {errs : List Str}
theorem dp_ints {H : Hp} : ∀ ns : List Int, DpAll K H (ns.map V.int) (ns.map PyData.int)
  | [] => .nil
  | n :: ns => .cons (.int n) (dp_ints ns)
theorem shaped_ints : ∀ ns : List Int, SeqAt.shaped (.list (ns.map PyData.int)) = true := by
  intro ns
  have h1 : PyData.canLayAll0 (ns.map PyData.int) = true := by
    induction ns with
    | nil => rfl
    | cons n ns ih => simp [PyData.canLayAll0, PyData.canLay0] at ih ⊢; exact ih
  have h2 : PyData.depthAll (ns.map PyData.int) ≤ 1 := by
    clear h1
    induction ns with
    | nil => simp [PyData.depthAll]
    | cons n ns ih => simp [PyData.depthAll, PyData.depth] at ih ⊢; omega
  simp [SeqAt.shaped, PyData.canLay0, PyData.depth, h1]
  omega
theorem reps_scr {hs : List Addr} {H : Hp} {Q : Pd} (ns : List Int) (h : ns ≠ []) : Reps ce hs H Q (ns.map V.int) (scrOf ns) := by
  cases ns with
  | nil => exact absurd rfl h
  | cons n ns => exact reps_ints (n :: ns)
theorem ScrAt.ext {H H' : Hp} {a : Addr} {ns : List Int} (h : ScrAt K H a ns) (x : HExt H H') : ScrAt K H' a ns := h.elim (fun ⟨o, e⟩ => .inl ⟨o, x _ _ e⟩) .inr
theorem two_line1 : 1 ≤ sizeLine := by rw [sizeLine_eq]; decide
theorem two_line0 : 0 ≤ sizeLine := Nat.zero_le _
theorem has_start (fx : Fx ce Γ errs K mg) {k : Nat} {qual : Str} {params : Arguments} {body : List Stmt} {scope : Scope} {kws : List (Str × V)} {f : Addr} {fd : FuncData} (hbody : isStart body = true)
    (F : FunD K "_law_start" qual params body scope [] kws f fd) (S : FnScope ["script"] ["script"] scope) (gx : mg "_law_start" = some (.ref f)) (hl : isGlo scope "list" = true) (hv : rdSlot ["script"] scope "script" = some 0)
    (hb : ∀ (kV doc pm : Value) (an : Option Addr) (cdv ct : Value) (us : List Value), us.length = 1 → bindArgs (PySem.W.fnOf "_law_start" qual params body scope .none kV doc pm an cdv ct) ⟨us, []⟩ = pure ((["script"] : List Str).zip us)) :
    Has P wd K mg base (zo ce K cw) ce (k + 1) "_law_start" startDen := by
  refine ⟨f, fd, ["script"], F.ok S ?_ ?_, gx, F.kp, F.bindsN hb⟩
  · rintro vs H Q E ⟨g, ds, w, wk, r, h⟩
    unfold startDen at h
    split at h
    · obtain ⟨v, rfl, _⟩ := Reps.one_inv r; rfl
    · exact h.bad.elim
  · rintro cdv A outer s H vs Q E hr ⟨g, ds, w, wk, r, h⟩
    unfold isStart at hbody
    split at hbody
    · rename_i s1 p1 p2 p3 l1 p4 s2 p5 p6 k7 p7 p8 p9 k10 p10 p11 p12
      simp only [Bool.and_eq_true, decide_eq_true_eq] at hbody
      obtain ⟨⟨rfl, rfl⟩, rfl⟩ := hbody
      let X := cxOf (L2.CX P wd) P wd K mg base ["script"] qual scope f cdv A outer s H E
      obtain ⟨gl, okn⟩ := isGlo_ok (X := X) (sc := scope) rfl hl
      obtain ⟨h1, h2, h3⟩ := rdSlot_ok hv
      obtain ⟨d1, d2, _⟩ := okName_d h3
      have pv : ∀ p : Pos, PE X (.Name "script" p) (tVar 0) := fun p => pe_var (X := X) (i := 0) h1 h2 d1 d2
      refine ⟨_, pss_one (X := X) (ps_ret (pe_lst (pa_cons (pe_ifExp (pt_cmpR (op_neD hr.units) (pv _) (pe_lst pa_nil) rfl) (pe_callTy call_list_of gl (fx.bi _ (by decide)) boot_list (pa_cons (pv _) pa_nil rfl)) (pe_lst (pa_cons pe_int pa_nil rfl))) (pa_cons pe_int pa_nil rfl) rfl))), ?_⟩
      unfold startDen at h
      split at h
      · rename_i d
        obtain ⟨v, rfl, rv⟩ := Reps.one_inv r
        split at h
        · rename_i kk hk
          split at h
          · rename_i ns hw
            have h : ∀ v H' g', CStep g H g' H' → WOk (zo ce K cw) g' H' _ → Rep ce g'.hs H' (fun _ a => H a = none ∧ a ∉ g'.Om) v _ → Q v H' := h
            obtain ⟨a, rfl, ea⟩ := hdlOf_rep rv hk
            obtain ⟨sc, hns⟩ : ScrAt K H a ns ∧ ns.length ≤ 63 := wk.rel.ob kk _ a hw ea
            have fin : ∀ (H1 : Hp) (b : Addr) (xs : List V), HExt H H1 → H b = none → H1 b = some (.lst xs) → xs.length ≤ sizeLine → (∀ hs Pd, Reps ce hs H1 Pd xs (scrOf ns)) → ∀ p, H1 p = none → Q (.ref p) (upd H1 p (.lst [.ref b, .int 0])) := by
              intro H1 b xs xx hb eb hn hrp p hp
              have x2 : HExt H (upd H1 p (.lst [.ref b, .int 0])) := xx.trans (HExt.upd hp)
              have eb2 : upd H1 p (.lst [.ref b, .int 0]) b = some (.lst xs) := HExt.upd hp b _ eb
              have hbp : b ≠ p := fun z => by rw [z, hp] at eb; cases eb
              have wk2 := wk.ext x2
              obtain ⟨c1, w1, e1⟩ := adopt (CStep.ext (g := g) x2) wk2 eb2 hn hb (fun z => wk.dom b z hb) ((hrp _ _).ext (HExt.upd hp))
              have hp0 : H p = none := xx.none hp
              have hpO : p ∉ g.Om ++ [b] := fun z => (List.mem_append.mp z).elim (fun z => wk.dom p z hp0) fun z => hbp (by simp at z; exact z.symm)
              obtain ⟨c2, w2, e2⟩ := adopt (ds := [hdl w.length, .int 0]) c1 w1 upd_same (show 2 ≤ sizeLine from two_line) hp0 hpO (.cons (.hdl e1) (.cons (.int 0) .nil))
              rw [List.length_append] at e2
              exact h _ _ _ c2 w2 (.hdl e2)
            refine ⟨_, rfl, two_line0, fun p hp => ?_⟩
            have sc1 := sc.ext (HExt.upd (o := .lst []) hp)
            refine ⟨_, _, Dp.lst sc1.sq (dp_ints ns), Dp.lst (SqL.of upd_same) .nil, shaped_ints ns, by decide, _, rfl, ?_⟩
            have x1 : HExt H (upd H p (.lst [])) := HExt.upd hp
            cases ns with
            | nil =>
              refine iteF ⟨two_line1, fun b hb => ⟨two_line, fun q hq => fin _ b [.int 0] (x1.trans (HExt.upd hb)) (x1.none hb) upd_same two_line1 (fun _ _ => .cons (.int 0) .nil) q hq⟩⟩
            | cons n ns =>
              refine iteT ⟨_, rfl, a, _, rfl, .inl sc1.sq, fun b hb => ⟨two_line, fun q hq => fin _ b _ (x1.trans (HExt.upd hb)) (x1.none hb) upd_same ?_ (fun _ _ => reps_scr _ (by simp)) q hq⟩⟩
              rw [List.length_map, sizeLine_eq]; omega
          · exact h.bad.elim
        · exact h.bad.elim
      · exact h.bad.elim
    · cases hbody
end
end T
namespace T
open PySem PySem.Spec PyProof.Rows L2
/-! ### the end of a law -/
theorem cx_false {P : Program} {w : World} {H : Hp} {s : Shared} {e : Value} {s' : Shared} (h : L2.CX P w [] H s (fun _ _ _ => False) e s') : False := by
  obtain ⟨a, B, H', cls, d, _, _, _, _, _, _, _, z⟩ := h
  exact z
theorem walk_ofX {l : PySem.W.OpenLaw} {n k : Nat} {q : Program} {loose : List Str} {XP : (Str → Option Value) → Heap → Prop} {YP : World → Heap → Prop} {d : DefRec} {x : Str}
    (hn : l.most = some n) (hn2 : n ≤ sizeLine) (hdf : d.params.defaults = []) (hr : Room k callerA)
    (F : ∀ (w : World) (mg : Str → Option Value) (fa : Addr) (h : Heap), YP w h → h.Ns mainGlobals mg → mg d.name = some (.ref fa) →
      ∃ (K : PySem.W.Frag) (fd : FuncData) (sp : Sp), K.In h ∧ (∀ (s : Shared) (u : Value), BindsTo s fd ⟨[u], []⟩ [(x, u)]) ∧
        (∀ (H : Hp) (a : Addr) (ns : List Int), ns.length ≤ n → Only H → SqL K H a (ns.map V.int) → sp [.ref a] H (fun v _ => v = .bl true) fun _ _ _ => False) ∧
        ∀ base : Heap, K.In base → base.Ns mainGlobals mg → FnOk l.prog w K mg base (L2.CX l.prog w) k fa fd [x] sp) :
    PySem.W.WalkO q loose XP YP l.row.toRowW d [] (fun f vs => PySem.call f vs) := by
  refine Att.attach_call hn hdf fun w s₀ s₁ mg mb fa o pm cd doc a vs ns G Y ho hd hcd hmg hobj hints hlen hg => ?_
  obtain ⟨K, fd, sp, KX, hb, hsp, hF⟩ := F w mg fa _ Y G.T.g hmg
  exact law_call KX G.T.g G.T.b G.T.builtins G.T.nolimit hg hobj hints (Nat.le_trans hlen hn2) hr hF hb (fun H hO hS => hsp H a ns hlen hO hS) fun H e s' c => cx_false c
theorem sp_law {ce : Str → Option Addr} {K : PySem.W.Frag} {cw : Addr} {den : Den Wo} (h : ∀ ns : List Int, ns.length ≤ 63 → ∃ w', den [hdl 0] [.scr ns] = .ok (.bool true) w') (H : Hp) (a : Addr) (ns : List Int) (hl : ns.length ≤ 63) (hO : Only H) (hS : SqL K H a (ns.map V.int)) :
    spOf (zo ce K cw) ce den [.ref a] H (fun v _ => v = .bl true) fun _ _ _ => False := by
  have sc : ScrAt K H a ns := by
    rcases hS with (e | ⟨o, e⟩) | e
    · rcases hO a with z | ⟨o, xs, z⟩ <;> rw [z] at e <;> cases e
    · exact .inl ⟨o, e⟩
    · exact .inr e
  have rel : WRel ce K cw ⟨[], [a]⟩ H [.scr ns] := by
    have one : ∀ {k : Nat} {o : Ob}, ([Ob.scr ns] : Wo)[k]? = some o → k = 0 ∧ o = .scr ns := fun {k o} e => by
      cases k with
      | zero => cases e; exact ⟨rfl, rfl⟩
      | succ k => simp at e
    refine ⟨rfl, fun b => ⟨fun z => absurd z (by simp), fun ⟨k, o, e, hc, _⟩ => ?_⟩, fun k k' o o' b e hc _ _ _ _ => ?_, fun k o b e eb => ?_⟩
    · obtain ⟨_, rfl⟩ := one e; cases hc
    · obtain ⟨_, rfl⟩ := one e; cases hc
    · obtain ⟨rfl, rfl⟩ := one e
      cases eb
      exact ⟨sc, hl⟩
  obtain ⟨w', e⟩ := h ns hl
  refine ⟨⟨[], [a]⟩, [hdl 0], [.scr ns], ⟨rel, fun b z => absurd z (by simp), fun b z => absurd z (by simp)⟩, .cons (.hdl rfl) .nil, ?_⟩
  rw [e]
  intro v H' g' _ _ r
  cases r
  rfl
def ceOf (errs : List Str) (mg : Str → Option Value) (c : Str) : Option Addr := match errs.contains c, mg c with
  | true, some (.ref a) => some a
  | _, _ => none
/-! ### what the classes of errors say -/
def exBk (K : PySem.W.Frag) (c : Str) : Bool := He.eqO (PySem.W.findIn K (.ref (He.ga K c)) "__getattribute__") (some (some (.builtin "BaseException.__getattribute__"))) && (He.eqO (PySem.W.findIn K (.ref (He.ga K c)) "__getattr__") (some none) &&
  (decide (PySem.W.subIn K (.ref (He.ga K c)) (.type "BaseException") = some true) && (PySem.W.hasDictIn K (He.ga K c) && (He.eqO (PySem.W.findIn K (.ref (He.ga K c)) "__class__") (some (some (.builtin "object.__class__"))) &&
  (He.eqO (PySem.W.specialIn K (.builtin "object.__class__") "__get__") (some (some (.builtin "getset_descriptor.__get__"))) && (decide (PySem.W.takesIn K (.builtin "object.__class__") = some true) && decide (PySem.W.mroIn K (He.ga K c) (.type "object") = some true)))))))
theorem exBk_ok {K : PySem.W.Frag} {c : Str} (h : exBk K c = true) : L2.ExcC K (He.ga K c) := by
  unfold exBk at h
  simp only [Bool.and_eq_true, decide_eq_true_eq] at h
  obtain ⟨h1, h2, h3, h4, h5, h6, h7, h8⟩ := h
  exact ⟨He.eqO_ok h1, He.eqO_ok h2, h3, h4, He.eqO_ok h5, He.eqO_ok h6, h7, h8⟩
def okXs (errs : List Str) (K : PySem.W.Frag) : Bool := errs.all fun c => exBk K c && (decide (PySem.W.exmOne K (.ref (He.ga K c)) (.ref (He.ga K "JudgeError")) = some true) && (decide (PySem.W.kitOne K (.ref (He.ga K c)) (.type "ValueError") = some (subE c "ValueError")) &&
  errs.all fun c2 => decide (PySem.W.kitOne K (.ref (He.ga K c)) (.ref (He.ga K c2)) = some (subE c c2))))
/-- what hangs on the module's names, generation by generation, the module's own dict left out -/
def refsX (g : Addr → Option Obj) (a : Addr) : List Addr := match g a with
  | some o => He.refsD o
  | none => []
def nxX (g : Addr → Option Obj) (as : List Addr) : List Addr := (as.flatMap (refsX g)).filter fun a => !(a == mainGlobals)
def asXs (g : Addr → Option Obj) : Nat → List Addr → List Addr
  | 0, as => as
  | n + 1, as => as ++ asXs g n (nxX g as)
def asX (g : Addr → Option Obj) (n : Nat) : List Addr := mainGlobals :: asXs g n (refsX g mainGlobals)
def obsXG (n : Nat) (fa : List He.Fa) (fn : List He.DefD) (errs : List Str) (g : Addr → Option Obj) : He.AlD × Bool := (He.obsD fa fn (He.frG g (asX g n)), okXs errs (He.frG g (asX g n)))
def hookX (n : Nat) (fa : List He.Fa) (fn : List He.DefD) (errs : List Str) : PySem.W.Hook where
  α := He.AlD × Bool
  obs := fun s => obsXG n fa fn errs s.heap.get?
  val := fun _ => (He.valD fn, true)
  says := fun _ h => ∃ K : PySem.W.Frag, K.In h ∧ He.SaysD fa fn K ∧ okXs errs K = true
  of := fun _ _ e => ⟨_, He.frG_in, congrArg (fun z : He.AlD × Bool => z.1) e, congrArg (fun z : He.AlD × Bool => z.2) e⟩
  keeps := fun _ _ _ ⟨K, hK, c⟩ k => ⟨K, PySem.W.Frag.In.keeps hK k, c⟩
theorem obsXG_eq {n : Nat} {fa : List He.Fa} {fn : List He.DefD} {errs : List Str} {g : Addr → Option Obj} {s : Shared} (h : ∀ a, g a = s.heap.get? a) : obsXG n fa fn errs g = (hookX n fa fn errs).obs s := by
  have e : g = s.heap.get? := funext h
  rw [e] <;> rfl
def cFa : Str × D → He.Fa
  | (x, .int i) => .int x i
  | (x, .str z) => .str x z
  | (x, _) => .free x
def cOk : Str × D → Bool
  | (_, .int _) => true
  | (_, .str _) => true
  | _ => false
def faOf (errs : List Str) (Γ : List (Str × D)) (glos : List Str) (more : List He.Fa) : List He.Fa := biNames.map .free ++ (errs.map .exc ++ (errs.map .glo ++ (Γ.map cFa ++ (glos.map .glo ++ more))))
section
variable {fa : List He.Fa} {fn : List He.DefD} {K : PySem.W.Frag} {h : Heap} {mg : Str → Option Value}
theorem fact_mem (c : He.SaysD fa fn K) {f : He.Fa} (hf : f ∈ fa) : f.ok K = true := by
  obtain ⟨i, hi⟩ := List.mem_iff_getElem?.mp hf
  exact c.fact i hi
theorem ceOf_at {errs glos : List Str} {Γ : List (Str × D)} {more : List He.Fa} (c : He.SaysD (faOf errs Γ glos more) fn K) (X : K.In h) (G : h.Ns mainGlobals mg) {x : Str} {Kc : Addr} (e : ceOf errs mg x = some Kc) : x ∈ errs ∧ Kc = He.ga K x := by
  unfold ceOf at e
  split at e
  · rename_i h1 h2
    cases e
    have hm : x ∈ errs := by simpa using h1
    have h3 := He.glo_ok X G (fact_mem c (List.mem_append_right _ (List.mem_append_right _ (List.mem_append_left _ (List.mem_map_of_mem (f := He.Fa.glo) hm)))))
    rw [h3] at h2
    cases h2
    exact ⟨hm, rfl⟩
  · cases e
theorem fx_of {errs glos : List Str} {Γ : List (Str × D)} {more : List He.Fa} (c : He.SaysD (faOf errs Γ glos more) fn K) (cx : okXs errs K = true) (hJ : errs = [] ∨ ("JudgeError" : Str) ∈ errs) (X : K.In h) (G : h.Ns mainGlobals mg) (hΓ : Γ.all cOk = true) : Fx (ceOf errs mg) Γ errs K mg where
  bi := fun x hx => He.free_ok X G (fact_mem c (List.mem_append_left _ (List.mem_map_of_mem hx)))
  gam := fun x d hd => by
    have hm := look_mem hd
    have hf := fact_mem c (List.mem_append_right _ (List.mem_append_right _ (List.mem_append_right _ (List.mem_append_left _ (List.mem_map_of_mem (f := cFa) hm)))))
    have ho := List.all_eq_true.mp hΓ _ hm
    cases d with
    | int i =>
      obtain ⟨t, e⟩ := He.int_ok X G hf
      exact .inl ⟨i, t, rfl, e⟩
    | str z =>
      obtain ⟨t, e⟩ := He.str_ok X G hf
      exact .inr ⟨z, t, rfl, e⟩
    | _ => cases ho
  er := fun x hx => by
    have hm : x ∈ errs := by simpa using hx
    have h1 := He.glo_ok X G (fact_mem c (List.mem_append_right _ (List.mem_append_right _ (List.mem_append_left _ (List.mem_map_of_mem (f := He.Fa.glo) hm)))))
    obtain ⟨a1, a2, a3, a4⟩ := He.exc_ok (fact_mem c (List.mem_append_right _ (List.mem_append_left _ (List.mem_map_of_mem (f := He.Fa.exc) hm))))
    refine ⟨He.ga K x, ?_, h1, a1, a2, a3, a4⟩
    unfold ceOf
    rw [hx, h1]
  exi := fun x Kc e => by
    obtain ⟨hm, rfl⟩ := ceOf_at c X G e
    have hc := List.all_eq_true.mp cx x hm
    simp only [Bool.and_eq_true] at hc
    exact exBk_ok hc.1
  kit := fun x Kc e x2 h2 => by
    obtain ⟨hm, rfl⟩ := ceOf_at c X G e
    have hc := List.all_eq_true.mp cx x hm
    simp only [Bool.and_eq_true, decide_eq_true_eq, List.all_eq_true] at hc
    unfold errNm at h2
    rw [Bool.or_eq_true, decide_eq_true_eq] at h2
    rcases h2 with h2 | h2
    · have hm2 : x2 ∈ errs := by simpa using h2
      have h1 := He.glo_ok X G (fact_mem c (List.mem_append_right _ (List.mem_append_right _ (List.mem_append_left _ (List.mem_map_of_mem (f := He.Fa.glo) hm2)))))
      exact ⟨.ref (He.ga K x2), .ref (He.ga K x2), .inl ⟨_, rfl, rfl, h1⟩, hc.2.2.2 x2 hm2⟩
    · subst h2
      exact ⟨.ty "ValueError", .type "ValueError", .inr ⟨"ValueError", rfl, rfl, He.free_ok X G (fact_mem c (List.mem_append_left _ (List.mem_map_of_mem (by decide)))), by decide +kernel⟩, hc.2.2.1⟩
  jud := fun x Kc e => by
    obtain ⟨hm, rfl⟩ := ceOf_at c X G e
    have hc := List.all_eq_true.mp cx x hm
    simp only [Bool.and_eq_true, decide_eq_true_eq, List.all_eq_true] at hc
    have hmJ : ("JudgeError" : Str) ∈ errs := hJ.elim (fun z => by rw [z] at hm; cases hm) id
    have h1 := He.glo_ok X G (fact_mem c (List.mem_append_right _ (List.mem_append_right _ (List.mem_append_left _ (List.mem_map_of_mem (f := He.Fa.glo) hmJ)))))
    exact ⟨He.ga K "JudgeError", h1, hc.2.1⟩
theorem glo_of {errs glos : List Str} {Γ : List (Str × D)} {more : List He.Fa} (c : He.SaysD (faOf errs Γ glos more) fn K) (X : K.In h) (G : h.Ns mainGlobals mg) {x : Str} (hx : x ∈ glos) : mg x = some (.ref (He.ga K x)) :=
  He.glo_ok X G (fact_mem c (List.mem_append_right _ (List.mem_append_right _ (List.mem_append_right _ (List.mem_append_right _ (List.mem_append_left _ (List.mem_map_of_mem (f := He.Fa.glo) hx)))))))
end
end T
namespace T
open PySem PySem.Spec PyProof.Rows L2
/-! ### the class's methods -/
section
variable {W : Type} {P : Program} {wd : World} {K : PySem.W.Frag} {mg : Str → Option Value} {base : Heap} {Z : Wd W} {ce : Str → Option Addr} {pl : Pl} {Γ : List (Str × D)} {errs : List Str}
variable (P wd K mg base) in
def HasM (Z : Wd W) (ce : Str → Option Addr) (k : Nat) (c m : Str) (g : Den W) : Prop := ∃ fd ps, FnOk P wd K mg base (L2.CX P wd) k (He.ma K (He.ga K c) m) fd ps (spOf Z ce g) ∧ Binds K fd ps []
theorem HasM.mono {j k : Nat} {c m : Str} {g : Den W} (h : HasM P wd K mg base Z ce j c m g) (hjk : j ≤ k) : HasM P wd K mg base Z ce k c m g := by
  obtain ⟨fd, ps, F, r⟩ := h
  exact ⟨fd, ps, F.mono hjk, r⟩
theorem has_meth {hl : W → Nat → Option (List D)} {hpp : W → Nat → List D → W} (hh : Hlo Z ce hl hpp) {dx : Dx W} (hd : Hdo Z ce dx) {io : Io W} (h3 : Zip3Ok ce) (hp : ∀ K, PlOk ce K pl) (hpl : PlLeaf pl) (fx : Fx ce Γ errs K mg) {k m n wf : Nat} (hio : ∃ cw, IoHas P wd K mg base Z ce k io cw) {c x qual : Str} {params : Arguments} {body : List Stmt} {scope : Scope} {kws : List (Str × V)} {fd : FuncData} {N ps : List Str} {own : List Nat} {T Tc : List (Str × Den W)}
    (hT : ∀ p ∈ T, Has P wd K mg base Z ce k p.1 p.2) (hTc : ∀ p ∈ Tc, HasC P wd K mg base Z ce k p.1 p.2) (F : FunD K x qual params body scope [] kws (He.ma K (He.ga K c) x) fd) (S : FnScope N ps scope)
    (hb : ∀ (kV doc pm : Value) (an : Option Addr) (cdv ct : Value) (us : List Value), us.length = ps.length → bindArgs (PySem.W.fnOf x qual params body scope .none kV doc pm an cdv ct) ⟨us, []⟩ = pure (ps.zip us)) :
    HasM P wd K mg base Z ce (k + 1) c x (denB ⟨N, own, look T, look Γ, errs, wf, hl, hpp, look Tc, dx, io⟩ pl m scope n body ps.length) :=
  ⟨fd, ps, fn_def hh hd h3 hp hpl fx hio hT hTc F S, F.bindsN hb⟩
theorem IoHas.flds {ix : Ix W} {cw : Addr} {k : Nat} {fl : List Str} (h : Hio Z ce cw ix) (c : Cls K cw) (hf : ∀ f ∈ fl, NoAttr K cw f) : IoHas P wd K mg base Z ce k ⟨ix, fl, [], [], none, []⟩ cw :=
  ⟨h, fun f hm => ⟨c, hf f (by simpa using hm)⟩, (fun m g h => by cases h), (fun x g h => by cases h), (fun g h => by cases h), (fun x g h => by cases h)⟩
theorem IoHas.cls {ix : Ix W} {x : Str} {k : Nat} {mt mkr : List (Str × Den W)} {ln : Option (Den W)} (h : Hio Z ce (He.ga K x) ix) (c : Cls K (He.ga K x)) (hm : ∀ p ∈ mt, Meth K (He.ga K x) p.1 (He.ma K (He.ga K x) p.1) ∧ HasM P wd K mg base Z ce k x p.1 p.2)
    (hk : ∀ p ∈ mkr, mg p.1 = some (.ref (He.ga K x)) ∧ Mk K (He.ga K x) (He.ma K (He.ga K x) "__init__") ∧ ∃ j, j + 1 ≤ k ∧ HasM P wd K mg base Z ce j x "__init__" p.2)
    (hl : ∀ g, ln = some g → Meth K (He.ga K x) "__len__" (He.ma K (He.ga K x) "__len__") ∧ ∃ j, j + 1 ≤ k ∧ HasM P wd K mg base Z ce j x "__len__" g) : IoHas P wd K mg base Z ce k ⟨ix, [], mt, mkr, ln, []⟩ (He.ga K x) := by
  refine ⟨h, (fun f h => by cases h), fun m g hg => ?_, fun y g hg => ?_, fun g hg => ?_, (fun x g h => by cases h)⟩
  · obtain ⟨a, fd, ps, F, b⟩ := hm _ (lookD_mem hg)
    exact ⟨_, fd, ps, c, a, F, b⟩
  · obtain ⟨a, b, j, hj, fd, ps, F, e⟩ := hk _ (lookD_mem hg)
    exact ⟨j, _, fd, ps, hj, b, a, F, e⟩
  · obtain ⟨a, j, hj, fd, ps, F, e⟩ := hl g hg
    exact ⟨j, _, fd, ps, hj, a.at_, a.fn, F, e⟩
theorem more_of {fn : List He.DefD} {errs glos : List Str} {Γ : List (Str × D)} {more : List He.Fa} (c : He.SaysD (faOf errs Γ glos more) fn K) {f : He.Fa} (h : f ∈ more) : f.ok K = true :=
  fact_mem c (List.mem_append_right _ (List.mem_append_right _ (List.mem_append_right _ (List.mem_append_right _ (List.mem_append_right _ h)))))
end
end T
namespace T
open PySem PySem.Spec PyProof.Rows L2
/-! ### parts of a text -/
def innerB : List Stmt → Nat → List Stmt
  | .For _ _ b _ _ :: _, _ => b
  | .While _ b _ _ :: _, _ => b
  | .Try b _ _ _ _ :: _, _ => b
  | .If _ a _ _ :: _, 0 => a
  | .If _ _ b _ :: _, _ => b
  | _, _ => []
/-- a block within: 2 * i the body of statement i, 2 * i + 1 its other branch -/
def blkAt : List Stmt → List Nat → List Stmt
  | b, [] => b
  | b, i :: r => blkAt (innerB (b.drop (i / 2)) (i % 2)) r
def itAt (b : List Stmt) (i : Nat) : Expr := match b.drop i with
  | .For _ it _ _ _ :: _ => it
  | _ => .Constant default default default
def bdAt (b : List Stmt) (i : Nat) : List Stmt := match b.drop i with
  | .For _ _ x _ _ :: _ => x
  | _ => []
def psAt (b : List Stmt) (i : Nat) : Pos := match b.drop i with
  | .For _ _ _ _ p :: _ => p
  | _ => default
/-- a for row, its list not constant -/
theorem for_row {W : Type} {C : Cfg W} {pl : Pl} {m n : Nat} {sc : Scope} {tg it : Expr} {body : List Stmt} {pos : Pos} {l r : List Stmt} {ρ : Rho} {w : W} {A : Res W (List D)} {q : List D → Option (List D)} {F : D → Rho → W → SRes W} {R : Rho → W → SRes W}
    (hl : l = .For tg it body [] pos :: r) (hR : exB (exS C pl m sc (n + 1)) r = R)
    (hg : (notSet it && (itPl sc tg it).1.all notStar && (itPl sc tg it).1.all (fun e => decide (expo C.N C.own m sc e = 0)) && (asgSlots C.N sc tg).all (fun i => decide (ownAt C.own i = 0))) = true)
    (hA : trav (fun e w => evS C pl m sc e ρ w) (itPl sc tg it).1 w = A) (hq : (itPl sc tg it).2 = q)
    (hF : (fun d ρ w => asgK .no C.N sc tg d ρ fun ρ => exB (exS C pl m sc n) body ρ w) = F) :
    exB (exS C pl m sc (n + 1)) l ρ w = sq (onE ρ A fun ds w => onE ρ (lift (q ds) w) fun items w => forR F items ρ w) R := by
  subst hl hR hA hq hF
  show sq (guardS _ _) _ = _
  rw [hg]
  rfl
def tgAt (b : List Stmt) (i : Nat) : Expr := match b.drop i with
  | .For tg _ _ _ _ :: _ => tg
  | _ => .Constant .none 0 ⟨0, 0, 0, 0⟩
def teAt (b : List Stmt) (i : Nat) : Expr := match b.drop i with
  | .While c _ _ _ :: _ => c
  | _ => .Constant .none 0 ⟨0, 0, 0, 0⟩
/-- one of two -/
def cnd {α : Type} : Bool → α → α → α
  | true, x, _ => x
  | false, _, y => y
/-- a handle read -/
def dr (w : Wo) (d : D) : D := match hdlOf d with
  | some k => (match hlO w k with
    | some ds => .list ds
    | none => d)
  | none => d
def ixO (w : Wo) (x y : D) : Option D := match hdlOf x with
  | some k => (match hlO w k with
    | some ds => ixD (.list ds) y
    | none => none)
  | none => ixD x y
/-- dicts -/
def dgO (w : Wo) (x y : D) : Option D := match hdlOf x with
  | some k => (match keyOf y with
    | some key => (match dcO w k with
      | some kds => valK kds key
      | none => none)
    | none => none)
  | none => none
def dnewO (w : Wo) : Res Wo D := .ok (hdl w.length) (w ++ [.dct []])
def dset (w : Wo) (l kk d : D) (k : Wo → SRes Wo) : SRes Wo := match hdlOf l with
  | some h => (match keyOf kk with
    | some key => (match dcO w h with
      | some kds => guardS (lenOk (kds.length + 1)) (k (dwO w h (putKD kds key d)))
      | none => .no)
    | none => .no)
  | none => .no
/-- instances -/
def fldO (w : Wo) (x : D) (fl : Str) : Option D := match hdlOf x with
  | some k => (match fgO w k with
    | some fs => fldV fs fl
    | none => none)
  | none => none
def insO (w : Wo) (x : D) (nm : Str) : Bool := match hdlOf x with
  | some k => (match fgO w k with
    | some fs => (fldV fs nm).isNone
    | none => false)
  | none => false
def popO (w : Wo) (x : D) : Res Wo D := match hdlOf x with
  | some k => (match hlO w k with
    | some ds => (match ds.getLast? with
      | some d => .ok d (hpO w k ds.dropLast)
      | none => .no)
    | none => .no)
  | none => .no
def makO (g : Den Wo) (ds : List D) (w : Wo) : Res Wo D :=
  (g (hdl w.length :: ds) (w ++ [.ins []])).bind fun d w' => match d with
    | .none => .ok (hdl w.length) w'
    | _ => .no
def drlO (w : Wo) (d : D) : D := match hdlOf d with
  | some k => (match hlO w k with
    | some ds => .list ds
    | none => .none)
  | none => .none
def insLO (w : Wo) : List D → Bool
  | [d] => insO w d "__len__"
  | _ => false
def lenO (h : Den Wo) (ds : List D) (w : Wo) : Res Wo D := match insLO w ds with
  | true => lenR (h ds w)
  | false => lift (lenF (ds.map (dr w))) w
def fldQ (b1 b2 : Bool) (d : D) (w : Wo) : Option (D × Wo) := match d with
  | .list ds => (match flatDs 0 ds && b1 && b2 with
    | true => some (hdl w.length, w ++ [.lst ds])
    | false => none)
  | d => (match flatD 0 d with
    | true => some (d, w)
    | false => none)
def fsetO (o : D) (q : Option (D × Wo)) (fl : Str) (k : Wo → SRes Wo) : SRes Wo := match hdlOf o, q with
  | some h, some q => (match fgO q.2 h with
    | some fs => guardS (decide (fs.length < 1000)) (k (fpO q.2 h (putFD fl q.1 fs)))
    | none => .no)
  | _, _ => .no
def hlS (w : Wo) (l : D) : Bool := match hdlOf l with
  | some k => (hlO w k).isSome
  | none => false
def happ (w : Wo) (l d : D) (k : Wo → SRes Wo) : SRes Wo := match hdlOf l with
  | some h => (match hlO w h with
    | some ds => guardS (lenOk (ds.length + 1)) (k (hpO w h (ds ++ [d])))
    | none => .no)
  | none => .no
def appN (l : D) (k : SRes Wo) : SRes Wo := match l with
  | .list ds => guardS (lenOk (ds.length + 1)) k
  | _ => .no
/-- rows changed by a def -/
def rdRowsO (w : Wo) : Nat → List D → Option (List D)
  | _, [] => some []
  | s, h :: hs => (match hdlOf h, hlO w s with
    | some k, some es => (match decide (k = s) && es.all scalB with
      | true => (rdRowsO w (s + 1) hs).map (.list es :: ·)
      | false => none)
    | _, _ => none)
def mutWO (rows as bs : List D) : Wo := (hdls 3 rows.length :: as :: bs :: listsOf rows).map .lst
def mutRO (n : Nat) : Res Wo D → Option D
  | .ok .none w => (match hlO w 0 with
    | some hs => (match decide (hs.length = n) with
      | true => (rdRowsO w 3 hs).map .list
      | false => none)
    | none => none)
  | _ => none
def mutO (g : Den Wo) : D → D → D → Option D
  | .list rows, .list as, .list bs => (match rows.all rowB && as.all scalB && bs.all scalB with
    | true => mutRO rows.length (g [hdl 0, hdl 1, hdl 2] (mutWO rows as bs))
    | false => none)
  | _, _, _ => none
/-- an item of a changing list is set -/
def hset (w : Wo) (l kk d : D) (k : Wo → SRes Wo) : SRes Wo := match hdlOf l with
  | some h => (match hlO w h with
    | some ds => (match setD (.list ds) kk d with
      | some (.list ds') => k (hpO w h ds')
      | _ => .no)
    | none => .no)
  | none => .no
end T
namespace T
open PySem PySem.Spec PyProof.Rows L2
/-- not by reduction alone, for simp -/
theorem nr {α : Sort _} {a b : α} (h : a = b) : a = b := by cases h; rfl
/-! ### typed data -/
class Dt (α : Type) [DecidableEq α] where
  en : α → D
  eqv : ∀ a b, PyData.eqv (en a) (en b) = decide (a = b)
  can : ∀ a, (en a).canLay0 = true
  dep : Nat
  dep_le : ∀ a, (en a).depth ≤ dep
  ld : Nat
  flat : ∀ a n, ld ≤ n → flatD n (en a) = true
  nh : ∀ a, hdlOf (en a) = none
/-- a value's tree -/
def enc {α : Type} [DecidableEq α] [Dt α] (a : α) : D := Dt.en a
instance : Dt Int where
  en := .int
  eqv a b := by simp only [PyData.eqv]; exact PySem.W.beq_decide a b
  can _ := rfl
  dep := 0
  dep_le _ := Nat.le_refl _
  ld := 0
  flat _ n _ := by cases n <;> rfl
  nh _ := rfl
instance : Dt Bool where
  en := .bool
  eqv a b := by simp only [PyData.eqv]; exact PySem.W.beq_decide a b
  can _ := rfl
  dep := 0
  dep_le _ := Nat.le_refl _
  ld := 0
  flat _ n _ := by cases n <;> rfl
  nh _ := rfl
section
variable {α β γ : Type} [DecidableEq α] [Dt α] [DecidableEq β] [Dt β] [DecidableEq γ] [Dt γ]
theorem canAll : ∀ xs : List α, PyData.canLayAll0 (xs.map Dt.en) = true
  | [] => rfl
  | x :: xs => by rw [List.map_cons, PyData.canLayAll0, Dt.can x, canAll xs]; rfl
theorem depAll : ∀ xs : List α, PyData.depthAll (xs.map Dt.en) ≤ Dt.dep α
  | [] => Nat.zero_le _
  | x :: xs => by rw [List.map_cons, PyData.depthAll]; exact Nat.max_le.mpr ⟨Dt.dep_le x, depAll xs⟩
theorem eqAll : ∀ xs ys : List α, PyData.eqvAll (xs.map Dt.en) (ys.map Dt.en) = decide (xs = ys)
  | [], [] => by simp only [List.map_nil, PyData.eqvAll, decide_true]
  | [], _ :: _ => by simp [PyData.eqvAll]
  | _ :: _, [] => by simp [PyData.eqvAll]
  | x :: xs, y :: ys => by
    rw [List.map_cons, List.map_cons, PyData.eqvAll, Dt.eqv x y, eqAll xs ys, ← Bool.decide_and]
    exact decide_eq_decide.mpr (by rw [List.cons.injEq])
theorem flatAll (n : Nat) (h : Dt.ld α ≤ n) : ∀ xs : List α, flatDs n (xs.map Dt.en) = true
  | [] => by cases n <;> rfl
  | x :: xs => by rw [List.map_cons]; unfold flatDs; rw [Dt.flat x n h, flatAll n h xs]; rfl
instance : Dt (List α) where
  en xs := .list (xs.map Dt.en)
  eqv xs ys := by simp only [PyData.eqv]; exact eqAll xs ys
  can xs := by simp only [PyData.canLay0]; exact canAll xs
  dep := Dt.dep α + 1
  dep_le xs := by simp only [PyData.depth]; exact Nat.succ_le_succ (depAll xs)
  ld := Dt.ld α + 1
  flat xs n h := by
    cases n with
    | zero => omega
    | succ n => show flatD (n + 1) (.list _) = true; unfold flatD; exact flatAll n (by omega) xs
  nh _ := rfl
/-- a tuple of any length -/
structure Tp (α : Type) where
  it : List α
  deriving DecidableEq
instance : Dt (Tp α) where
  en t := .tuple (t.it.map Dt.en)
  eqv t u := by
    simp only [PyData.eqv]
    rw [eqAll]
    exact decide_eq_decide.mpr ⟨fun e => by cases t; cases u; exact congrArg Tp.mk e, fun e => by rw [e]⟩
  can t := by simp only [PyData.canLay0]; exact canAll t.it
  dep := Dt.dep α + 1
  dep_le t := by simp only [PyData.depth]; exact Nat.succ_le_succ (depAll t.it)
  ld := if Dt.ld α = 0 then 0 else Dt.ld α + 1
  flat t n h := by
    have : ∀ n, Dt.ld α ≤ n - 1 → flatD n (.tuple (t.it.map Dt.en)) = true := fun n h => by cases n <;> (unfold flatD; exact flatAll _ (by omega) _)
    refine this n ?_
    split at h <;> omega
  nh _ := rfl
instance : Dt (α × β) where
  en p := .tuple [Dt.en p.1, Dt.en p.2]
  eqv p q := by
    simp only [PyData.eqv, PyData.eqvAll]
    rw [Dt.eqv, Dt.eqv, Bool.and_true, ← Bool.decide_and]
    exact decide_eq_decide.mpr ⟨fun e => Prod.ext e.1 e.2, fun e => by rw [e]; exact ⟨rfl, rfl⟩⟩
  can p := by simp only [PyData.canLay0, PyData.canLayAll0, Dt.can, Bool.and_self]
  dep := max (Dt.dep α) (Dt.dep β) + 1
  dep_le p := by
    have h0 := Dt.dep_le p.1
    have h1 := Dt.dep_le p.2
    simp only [PyData.depth, PyData.depthAll]
    omega
  ld := if Dt.ld α = 0 ∧ Dt.ld β = 0 then 0 else max (Dt.ld α) (Dt.ld β) + 1
  flat p n h := by
    have : ∀ n, Dt.ld α ≤ n - 1 → Dt.ld β ≤ n - 1 → flatD n (.tuple [Dt.en p.1, Dt.en p.2]) = true := fun n h1 h2 => by
      have e1 := Dt.flat p.1 _ h1
      have e2 := Dt.flat p.2 _ h2
      cases n <;> (simp only [Nat.add_sub_cancel, Nat.zero_sub] at e1 e2; simp [flatD, flatDs, e1, e2])
    refine this n ?_ ?_ <;> (split at h <;> omega)
  nh _ := rfl
abbrev T3 := PySem.W.T3
instance : Dt (T3 α β γ) where
  en p := .tuple [Dt.en p.a, Dt.en p.b, Dt.en p.c]
  eqv p q := by
    simp only [PyData.eqv, PyData.eqvAll]
    rw [Dt.eqv, Dt.eqv, Dt.eqv, Bool.and_true, ← Bool.decide_and, ← Bool.decide_and]
    exact decide_eq_decide.mpr ⟨fun e => PySem.W.T3.same e.1 e.2.1 e.2.2, fun e => by rw [e]; exact ⟨rfl, rfl, rfl⟩⟩
  can p := by simp only [PyData.canLay0, PyData.canLayAll0, Dt.can, Bool.and_self]
  dep := max (max (Dt.dep α) (Dt.dep β)) (Dt.dep γ) + 1
  dep_le p := by
    have h0 := Dt.dep_le p.a
    have h1 := Dt.dep_le p.b
    have h2 := Dt.dep_le p.c
    simp only [PyData.depth, PyData.depthAll]
    omega
  ld := if Dt.ld α = 0 ∧ Dt.ld β = 0 ∧ Dt.ld γ = 0 then 0 else max (max (Dt.ld α) (Dt.ld β)) (Dt.ld γ) + 1
  flat p n h := by
    have : ∀ n, Dt.ld α ≤ n - 1 → Dt.ld β ≤ n - 1 → Dt.ld γ ≤ n - 1 → flatD n (.tuple [Dt.en p.a, Dt.en p.b, Dt.en p.c]) = true := fun n h1 h2 h3 => by
      have e1 := Dt.flat p.a _ h1
      have e2 := Dt.flat p.b _ h2
      have e3 := Dt.flat p.c _ h3
      cases n <;> (simp only [Nat.add_sub_cancel, Nat.zero_sub] at e1 e2 e3; simp [flatD, flatDs, e1, e2, e3])
    refine this n ?_ ?_ ?_ <;> (split at h <;> omega)
  nh _ := rfl
end
/-! ### rows for simp -/
section
variable {α β γ : Type} [DecidableEq α] [Dt α] [DecidableEq β] [Dt β] [DecidableEq γ] [Dt γ]
@[simp] theorem int_enc (i : Int) : PyData.int i = enc i := rfl
@[simp] theorem bool_enc (b : Bool) : PyData.bool b = enc b := rfl
@[simp] theorem pair_enc (a : α) (b : β) : PyData.tuple [enc a, enc b] = enc (a, b) := rfl
@[simp] theorem trip_enc (a : α) (b : β) (c : γ) : PyData.tuple [enc a, enc b, enc c] = enc (PySem.W.T3.mk a b c) := rfl
@[simp] theorem list_enc {δ : Type} (f : δ → α) (xs : List δ) : PyData.list (List.map (fun x => enc (f x)) xs) = enc (xs.map f) := by show _ = PyData.list ((xs.map f).map Dt.en); rw [List.map_map]; rfl
@[simp] theorem list_enc' (xs : List α) : PyData.list (List.map enc xs) = enc xs := rfl
@[simp] theorem tup_enc {δ : Type} (f : δ → α) (xs : List δ) : PyData.tuple (List.map (fun x => enc (f x)) xs) = enc (Tp.mk (xs.map f)) := by show _ = PyData.tuple ((xs.map f).map Dt.en); rw [List.map_map]; rfl
@[simp] theorem tup_enc' (xs : List α) : PyData.tuple (List.map enc xs) = enc (Tp.mk xs) := rfl
@[simp] theorem list1_enc (a : α) : PyData.list [enc a] = enc [a] := rfl
@[simp] theorem list2_enc (a b : α) : PyData.list [enc a, enc b] = enc [a, b] := rfl
@[simp] theorem list4_enc (a b c d : α) : PyData.list [enc a, enc b, enc c, enc d] = enc [a, b, c, d] := rfl
@[simp] theorem list5_enc (a b c d e : α) : PyData.list [enc a, enc b, enc c, enc d, enc e] = enc [a, b, c, d, e] := rfl
@[simp] theorem list6_enc (a b c d e f : α) : PyData.list [enc a, enc b, enc c, enc d, enc e, enc f] = enc [a, b, c, d, e, f] := rfl
@[simp] theorem list3_enc (a b c : α) : PyData.list [enc a, enc b, enc c] = enc [a, b, c] := rfl
@[simp] theorem tup1_enc (a : α) : PyData.tuple [enc a] = enc (Tp.mk [a]) := rfl
theorem enc_list (xs : List α) : enc xs = .list (xs.map enc) := rfl
theorem enc_tup (t : Tp α) : enc t = .tuple (t.it.map enc) := rfl
@[simp] theorem dep_int : Dt.dep Int = 0 := rfl
@[simp] theorem dep_bool : Dt.dep Bool = 0 := rfl
@[simp] theorem dep_list : Dt.dep (List α) = Dt.dep α + 1 := rfl
@[simp] theorem dep_tp : Dt.dep (Tp α) = Dt.dep α + 1 := rfl
@[simp] theorem dep_pair : Dt.dep (α × β) = max (Dt.dep α) (Dt.dep β) + 1 := rfl
@[simp] theorem dep_t3 : Dt.dep (T3 α β γ) = max (max (Dt.dep α) (Dt.dep β)) (Dt.dep γ) + 1 := rfl
@[simp] theorem ld_int : Dt.ld Int = 0 := rfl
@[simp] theorem ld_bool : Dt.ld Bool = 0 := rfl
@[simp] theorem ld_list : Dt.ld (List α) = Dt.ld α + 1 := rfl
@[simp] theorem ld_tp : Dt.ld (Tp α) = if Dt.ld α = 0 then 0 else Dt.ld α + 1 := rfl
@[simp] theorem ld_pair : Dt.ld (α × β) = if Dt.ld α = 0 ∧ Dt.ld β = 0 then 0 else max (Dt.ld α) (Dt.ld β) + 1 := rfl
@[simp] theorem ld_t3 : Dt.ld (T3 α β γ) = if Dt.ld α = 0 ∧ Dt.ld β = 0 ∧ Dt.ld γ = 0 then 0 else max (max (Dt.ld α) (Dt.ld β)) (Dt.ld γ) + 1 := rfl
@[simp] theorem flat_enc (n : Nat) (a : α) (h : Dt.ld α ≤ n) : flatD n (enc a) = true := Dt.flat a n h
@[simp] theorem flat_none (n : Nat) : flatD n .none = true := by cases n <;> rfl
@[simp] theorem flats_enc (n : Nat) (xs : List α) (h : Dt.ld α ≤ n) : flatDs n (xs.map enc) = true := flatAll n h xs
@[simp] theorem hdlOf_enc (a : α) : hdlOf (enc a) = none := Dt.nh a
@[simp] theorem dr_enc (w : Wo) (a : α) : dr w (enc a) = enc a := by unfold dr; rw [hdlOf_enc]
@[simp] theorem dr_none (w : Wo) : dr w .none = .none := rfl
@[simp] theorem dr_str (w : Wo) (x : Str) : dr w (.str x) = .str x := rfl
@[simp] theorem dr_list (w : Wo) (x : List D) : dr w (.list x) = .list x := rfl
@[simp] theorem dr_tuple (w : Wo) (x : List D) : dr w (.tuple x) = .tuple x := rfl
theorem shaped_enc (a : α) (h : Dt.dep α ≤ 64) : SeqAt.shaped (enc a) = true := by
  unfold SeqAt.shaped
  rw [show (enc a).canLay0 = true from Dt.can a, Bool.true_and]
  exact decide_eq_true (Nat.le_trans (Dt.dep_le a) h)
@[simp] theorem eqv_enc (a b : α) : PyData.eqv (enc a) (enc b) = decide (a = b) := Dt.eqv a b
@[simp] theorem cmp_eq (a b : α) (h : Dt.dep α ≤ 64) : cmpD .Eq (enc a) (enc b) = some (decide (a = b)) := by show (if SeqAt.shaped (enc a) && SeqAt.shaped (enc b) then some (PyData.eqv (enc a) (enc b)) else none) = _; rw [shaped_enc a h, shaped_enc b h, eqv_enc]; rfl
@[simp] theorem cmp_ne (a b : α) (h : Dt.dep α ≤ 64) : cmpD .NotEq (enc a) (enc b) = some (!decide (a = b)) := by show (if SeqAt.shaped (enc a) && SeqAt.shaped (enc b) then some (!PyData.eqv (enc a) (enc b)) else none) = _; rw [shaped_enc a h, shaped_enc b h, eqv_enc]; rfl
@[simp] theorem cmp_lt (i j : Int) : cmpD .Lt (enc i) (enc j) = some (decide (i < j)) := rfl
@[simp] theorem cmp_le (i j : Int) : cmpD .LtE (enc i) (enc j) = some (decide (i ≤ j)) := rfl
@[simp] theorem cmp_gt (i j : Int) : cmpD .Gt (enc i) (enc j) = some (decide (j < i)) := rfl
@[simp] theorem cmp_ge (i j : Int) : cmpD .GtE (enc i) (enc j) = some (decide (j ≤ i)) := rfl
@[simp] theorem cmp_is (a b : Bool) : cmpD .Is (enc a) (enc b) = some (a == b) := rfl
@[simp] theorem cmp_isn (a b : Bool) : cmpD .IsNot (enc a) (enc b) = some (!(a == b)) := rfl
@[simp] theorem cmp_is0 (d : D) : cmpD .Is d .none = some (isNoneD d) := by cases d <;> rfl
@[simp] theorem cmp_isn0 (d : D) : cmpD .IsNot d .none = some (!isNoneD d) := by cases d <;> rfl
@[simp] theorem isNone_none : isNoneD .none = true := rfl
@[simp] theorem isNone_int (i : Int) : isNoneD (enc i) = false := rfl
@[simp] theorem isNone_bool (i : Bool) : isNoneD (enc i) = false := rfl
@[simp] theorem isNone_list (x : List α) : isNoneD (enc x) = false := rfl
@[simp] theorem isNone_tp (x : Tp α) : isNoneD (enc x) = false := rfl
@[simp] theorem isNone_pair (x : α × β) : isNoneD (enc x) = false := rfl
theorem scal_ints : ∀ xs : List Int, (xs.map (enc (α := Int))).all scalB = true
  | [] => rfl
  | x :: xs => by rw [List.map_cons, List.all_cons, scal_ints xs]; rfl
theorem any_ints (x : Int) : ∀ xs : List Int, ((xs.map (enc (α := Int))).any fun y => PyData.eqv y (enc x)) = decide (x ∈ xs)
  | [] => by simp
  | y :: ys => by
    rw [List.map_cons, List.any_cons, any_ints x ys, eqv_enc]
    by_cases h : y = x
    · subst h; simp
    · simp [h, show x ≠ y from fun z => h z.symm]
@[simp] theorem cmp_in (x : Int) (xs : List Int) : cmpD .In (enc x) (enc xs) = some (decide (x ∈ xs)) := by
  show (if scalB (.int x) && (xs.map (enc (α := Int))).all scalB then some _ else none) = _
  rw [scal_ints]
  exact congrArg some (any_ints x xs)
@[simp] theorem cmp_nin (x : Int) (xs : List Int) : cmpD .NotIn (enc x) (enc xs) = some (!decide (x ∈ xs)) := by
  show (if scalB (.int x) && (xs.map (enc (α := Int))).all scalB then some _ else none) = _
  rw [scal_ints]
  exact congrArg (fun b => some (!b)) (any_ints x xs)
@[simp] theorem cmp_inT (x : Int) (t : Tp Int) : cmpD .In (enc x) (enc t) = some (decide (x ∈ t.it)) := by
  show (if scalB (.int x) && (t.it.map (enc (α := Int))).all scalB then some _ else none) = _
  rw [scal_ints]
  exact congrArg some (any_ints x t.it)
@[simp] theorem cmp_ninT (x : Int) (t : Tp Int) : cmpD .NotIn (enc x) (enc t) = some (!decide (x ∈ t.it)) := by
  show (if scalB (.int x) && (t.it.map (enc (α := Int))).all scalB then some _ else none) = _
  rw [scal_ints]
  exact congrArg (fun b => some (!b)) (any_ints x t.it)
/-! operators -/
@[simp] theorem bin_add (a b : Int) : binD .Add (enc a) (enc b) = some (enc (a + b)) := rfl
@[simp] theorem bin_sub (a b : Int) : binD .Sub (enc a) (enc b) = some (enc (a - b)) := rfl
@[simp] theorem bin_mul (a b : Int) (h : mulOk a b = true) : binD .Mult (enc a) (enc b) = some (enc (a * b)) := by show (if mulOk a b then _ else _) = _; rw [h]; rfl
@[simp] theorem bin_div (a b : Int) (h : 0 < b) (h2 : b < 1000000000000000000000000000000) : binD .FloorDiv (enc a) (enc b) = some (enc (a / b)) := by
  show (if decide (0 < b) && decide (b < 1000000000000000000000000000000) then some (PyData.int (a / b)) else none) = _
  rw [decide_eq_true h, decide_eq_true h2]; rfl
@[simp] theorem bin_mod (a b : Int) (h : 0 < b) : binD .Mod (enc a) (enc b) = some (enc (a % b)) := by
  show (if decide (0 < b) then some (PyData.int (a % b)) else none) = _
  rw [decide_eq_true h]; rfl
@[simp] theorem op_add (a b : Int) : opI .Add (enc a) (enc b) = some (enc (a + b)) := rfl
@[simp] theorem op_sub (a b : Int) : opI .Sub (enc a) (enc b) = some (enc (a - b)) := rfl
@[simp] theorem bin_cat (xs ys : List α) (h : xs.length + ys.length ≤ 1000000) : binD .Add (enc xs) (enc ys) = some (enc (xs ++ ys)) := by
  show (if lenOk ((xs.map enc).length + (ys.map enc).length) then some (PyData.list (xs.map enc ++ ys.map enc)) else none) = some (PyData.list ((xs ++ ys).map enc))
  rw [List.length_map, List.length_map, List.map_append, show lenOk (xs.length + ys.length) = true from decide_eq_true h]; rfl
@[simp] theorem bin_catT (xs ys : List α) (h : xs.length + ys.length ≤ 1000000) : binD .Add (enc (Tp.mk xs)) (enc (Tp.mk ys)) = some (enc (Tp.mk (xs ++ ys))) := by
  show (if lenOk ((xs.map enc).length + (ys.map enc).length) then some (PyData.tuple (xs.map enc ++ ys.map enc)) else none) = some (PyData.tuple ((xs ++ ys).map enc))
  rw [List.length_map, List.length_map, List.map_append, show lenOk (xs.length + ys.length) = true from decide_eq_true h]; rfl
@[simp] theorem bin_rep (xs : List α) (k : Int) (h : xs.length * k.toNat ≤ 1000000) (h2 : k.natAbs < 1000000000) : binD .Mult (enc xs) (enc k) = some (enc (List.replicate k.toNat xs).flatten) := by
  show (if lenOk ((xs.map enc).length * k.toNat) && decide (k.natAbs < 1000000000) then some (PyData.list (List.replicate k.toNat (xs.map enc)).flatten) else none) = some (PyData.list ((List.replicate k.toNat xs).flatten.map enc))
  rw [List.length_map, show lenOk (xs.length * k.toNat) = true from decide_eq_true h, decide_eq_true h2, List.map_flatten, List.map_replicate]; rfl
theorem ixN_nat (n k : Nat) (h : k < n) : ixN n (k : Int) = some k := by
  unfold ixN
  rw [if_pos (by omega), if_pos (by omega)]; simp
theorem ixN_int (n : Nat) (i : Int) (h0 : 0 ≤ i) (h : i < n) : ixN n i = some i.toNat := by
  unfold ixN
  rw [if_pos h0, if_pos h]
theorem ixN_last (n : Nat) (h : 0 < n) : ixN n (-1) = some (n - 1) := by
  unfold ixN
  rw [if_neg (by omega), if_pos (by omega)]; congr 1; omega
theorem atI_int {β : Type} (xs : List β) (d : β) (i : Int) (h0 : 0 ≤ i) (h : i < xs.length) : atI xs i = some (xs.getD i.toNat d) := by
  unfold atI
  rw [ixN_int _ _ h0 h]
  show xs[i.toNat]? = _
  rw [List.getD_eq_getElem?_getD, List.getElem?_eq_getElem (by omega)]; rfl
theorem atI_map {β γ : Type} (xs : List β) (f : β → γ) (i : Int) : atI (xs.map f) i = (atI xs i).map f := by
  unfold atI
  rw [List.length_map]
  cases ixN xs.length i with
  | none => rfl
  | some j => show (xs.map f)[j]? = _; rw [List.getElem?_map]; rfl
@[simp] theorem ix_enc (w : Wo) (xs : List α) (i : Int) : ixO w (enc xs) (enc i) = (atI xs i).map enc := by
  unfold ixO; rw [hdlOf_enc]
  exact atI_map xs enc i
@[simp] theorem ix_tp (w : Wo) (t : Tp α) (i : Int) : ixO w (enc t) (enc i) = (atI t.it i).map enc := by
  unfold ixO; rw [hdlOf_enc]
  exact atI_map t.it enc i
@[simp] theorem ixD_enc (xs : List α) (i : Int) : ixD (enc xs) (enc i) = (atI xs i).map enc := atI_map xs enc i
@[simp] theorem ix_pair0 (w : Wo) (p : α × β) : ixO w (enc p) (enc (0 : Int)) = some (enc p.1) := rfl
@[simp] theorem ix_pair1 (w : Wo) (p : α × β) : ixO w (enc p) (enc (1 : Int)) = some (enc p.2) := rfl
@[simp] theorem ix_t0 (w : Wo) (p : T3 α β γ) : ixO w (enc p) (enc (0 : Int)) = some (enc p.a) := rfl
@[simp] theorem ix_t1 (w : Wo) (p : T3 α β γ) : ixO w (enc p) (enc (1 : Int)) = some (enc p.b) := rfl
@[simp] theorem ix_t2 (w : Wo) (p : T3 α β γ) : ixO w (enc p) (enc (2 : Int)) = some (enc p.c) := rfl
@[simp] theorem atI_I (xs : List Int) (i : Int) (h0 : 0 ≤ i) (h : i < xs.length) : atI xs i = some (xs.getD i.toNat 0) := atI_int xs 0 i h0 h
@[simp] theorem atI_L {β : Type} (xs : List (List β)) (i : Int) (h0 : 0 ≤ i) (h : i < xs.length) : atI xs i = some (xs.getD i.toNat []) := atI_int xs [] i h0 h
@[simp] theorem atI_T {β : Type} (xs : List (Tp β)) (i : Int) (h0 : 0 ≤ i) (h : i < xs.length) : atI xs i = some (xs.getD i.toNat ⟨[]⟩) := atI_int xs ⟨[]⟩ i h0 h
@[simp] theorem atI_P (xs : List (Int × Int)) (i : Int) (h0 : 0 ≤ i) (h : i < xs.length) : atI xs i = some (xs.getD i.toNat (0, 0)) := atI_int xs (0, 0) i h0 h
theorem atI_last {β : Type} (xs : List β) (d : β) (h : 0 < xs.length) : atI xs (-1) = some (xs.getD (xs.length - 1) d) := by
  unfold atI
  rw [ixN_last _ h]
  show xs[xs.length - 1]? = _
  rw [List.getD_eq_getElem?_getD, List.getElem?_eq_getElem (by omega)]; rfl
@[simp] theorem isList_enc (xs : List α) : isListD (enc xs) = true := rfl
@[simp] theorem isList_list (xs : List D) : isListD (.list xs) = true := rfl
@[simp] theorem stVal_list (own : List Nat) (i : Nat) (xs : List α) : stVal own i (enc xs) = true := by
  unfold stVal
  split <;> rfl
@[simp] theorem stVal_nil (own : List Nat) (i : Nat) : stVal own i (.list []) = true := by
  unfold stVal
  split <;> rfl
@[simp] theorem asInt_enc (i : Int) : asInt (enc i) = some i := rfl
@[simp] theorem slice_enc (xs : List α) (lo hi : Option Int) : sliceD (enc xs) lo hi = some (enc (cutD xs lo hi)) := by
  show some (PyData.list (cutD (xs.map enc) lo hi)) = some (PyData.list ((cutD xs lo hi).map enc))
  unfold cutD
  rw [List.length_map, List.map_take, List.map_drop]
@[simp] theorem app_enc (xs : List α) (a : α) (h : xs.length + 1 ≤ 1000000) : appD (enc xs) (enc a) = some (enc (xs ++ [a])) := by
  show (if lenOk ((xs.map enc).length + 1) then some (PyData.list (xs.map enc ++ [enc a])) else none) = some (PyData.list ((xs ++ [a]).map enc))
  rw [List.length_map, List.map_append, show lenOk (xs.length + 1) = true from decide_eq_true h]; rfl
@[simp] theorem app_nil (a : α) : appD (.list []) (enc a) = some (enc [a]) := rfl
@[simp] theorem ext_enc (xs ys : List α) (h : xs.length + ys.length ≤ 1000000) : extD (enc xs) (enc ys) = some (enc (xs ++ ys)) := by
  show (if lenOk ((xs.map enc).length + (ys.map enc).length) then some (PyData.list (xs.map enc ++ ys.map enc)) else none) = some (PyData.list ((xs ++ ys).map enc))
  rw [List.length_map, List.length_map, List.map_append, show lenOk (xs.length + ys.length) = true from decide_eq_true h]; rfl
@[simp] theorem ext_nil (ys : List α) (h : ys.length ≤ 1000000) : extD (.list []) (enc ys) = some (enc ys) := by
  show (if lenOk (0 + (ys.map enc).length) then some (PyData.list ([] ++ ys.map enc)) else none) = some (PyData.list (ys.map enc))
  rw [List.length_map, Nat.zero_add, show lenOk ys.length = true from decide_eq_true h]; rfl
@[simp] theorem set_enc (xs : List α) (i : Int) (a : α) (h0 : 0 ≤ i) (h : i < xs.length) : setD (enc xs) (enc i) (enc a) = some (enc (xs.set i.toNat a)) := by
  show (ixN (xs.map enc).length i).map _ = some (PyData.list ((xs.set i.toNat a).map enc))
  rw [List.length_map, ixN_int _ _ h0 h, List.map_set]; rfl
/-! builtins -/
@[simp] theorem ints_enc (xs : List Int) : intsOf (xs.map enc) = some xs := by
  induction xs with
  | nil => rfl
  | cons x r ih => show (intsOf (r.map enc)).map (x :: ·) = _; rw [ih]; rfl
@[simp] theorem bls_enc (xs : List Bool) : blsOf (xs.map enc) = some xs := by
  induction xs with
  | nil => rfl
  | cons x r ih => show (blsOf (r.map enc)).map (x :: ·) = _; rw [ih]; rfl
@[simp] theorem len_enc (xs : List α) : lenF [enc xs] = some (enc (xs.length : Int)) := by show some (PyData.int ((xs.map enc).length : Nat)) = _; rw [List.length_map]; rfl
@[simp] theorem len_tp (t : Tp α) : lenF [enc t] = some (enc (t.it.length : Int)) := by show some (PyData.int ((t.it.map enc).length : Nat)) = _; rw [List.length_map]; rfl
@[simp] theorem sum_enc (xs : List Int) : sumF [enc xs] = some (enc xs.sum) := by show (intsOf (xs.map enc)).map _ = _; rw [ints_enc]; rfl
@[simp] theorem abs_enc (i : Int) : absF [enc i] = some (enc (if i < 0 then -i else i)) := rfl
@[simp] theorem max2_enc (i j : Int) : maxF [enc i, enc j] = some (enc (if j > i then j else i)) := rfl
@[simp] theorem min2_enc (i j : Int) : minF [enc i, enc j] = some (enc (if j < i then j else i)) := rfl
@[simp] theorem max_enc (xs : List Int) : maxF [enc xs] = (maxI xs).map enc := by show (intsOf (xs.map enc)).bind _ = _; rw [ints_enc]; rfl
@[simp] theorem min_enc (xs : List Int) : minF [enc xs] = (minI xs).map enc := by show (intsOf (xs.map enc)).bind _ = _; rw [ints_enc]; rfl
@[simp] theorem any_enc (xs : List Bool) : anyF [enc xs] = some (enc (xs.any id)) := by show (blsOf (xs.map enc)).map _ = _; rw [bls_enc]; rfl
@[simp] theorem all_enc (xs : List Bool) : allF [enc xs] = some (enc (xs.all id)) := by show (blsOf (xs.map enc)).map _ = _; rw [bls_enc]; rfl
@[simp] theorem list_f (xs : List α) (h : Dt.ld α = 0) : listF [enc xs] = some (enc xs) := by show (if flatDs 0 (xs.map enc) then _ else _) = _; rw [show flatDs 0 (xs.map enc) = true from flatAll 0 (by omega) xs]; rfl
@[simp] theorem list_fT (t : Tp α) (h : Dt.ld α = 0) : listF [enc t] = some (enc t.it) := by show (if flatDs 0 (t.it.map enc) then _ else _) = _; rw [show flatDs 0 (t.it.map enc) = true from flatAll 0 (by omega) t.it]; rfl
@[simp] theorem tup_f (xs : List α) (h : Dt.ld α = 0) : tupF [enc xs] = some (enc (Tp.mk xs)) := by show (if flatDs 0 (xs.map enc) then _ else _) = _; rw [show flatDs 0 (xs.map enc) = true from flatAll 0 (by omega) xs]; rfl
@[simp] theorem sort_f (xs : List Int) : sortF [enc xs] = some (enc (sortI xs)) := by
  show (match intsOf (xs.map enc) with
    | some ns => some (PyData.list ((sortI ns).map .int))
    | none => (tupsOf (xs.map enc)).map fun (nss : List (List Int)) => PyData.list ((sortLx nss).map fun (ns : List Int) => PyData.tuple (ns.map .int))) = _
  rw [ints_enc]; rfl
@[simp] theorem sort_fT (t : Tp Int) : sortF [enc t] = some (enc (sortI t.it)) := by show (intsOf (t.it.map enc)).map _ = _; rw [ints_enc]; rfl
@[simp] theorem ss_f (xs : List Int) (h : xs.length ≤ 4000) (h2 : (dedupI xs).length ≤ 63) : ssF [enc xs] = some (enc (sortI (dedupI xs))) := by
  show (intsOf (xs.map enc)).bind _ = _
  rw [ints_enc]
  show (if decide (xs.length ≤ 4000) && decide ((dedupI xs).length ≤ 63) then some (PyData.list ((sortI (dedupI xs)).map .int)) else none) = _
  rw [decide_eq_true h, decide_eq_true h2]; rfl
theorem rangeL_eq (lo : Int) (n : Nat) : rangeL lo n = (List.range n).map fun (k : Nat) => enc (lo + (k : Int)) := by
  induction n generalizing lo with
  | zero => rfl
  | succ n ih =>
    rw [List.range_succ_eq_map, List.map_cons, List.map_map]
    show PyData.int lo :: rangeL (lo + 1) n = _
    rw [ih]
    congr 1
    · show enc lo = enc (lo + ((0 : Nat) : Int)); congr 1; simp
    · apply List.map_congr_left; intro k _; show enc _ = enc _; congr 1; push_cast; omega
@[simp] theorem lr_f (j : Int) (h : j.natAbs ≤ 1000000) : lrF [enc j] = some (enc ((List.range j.toNat).map fun (k : Nat) => (k : Int))) := by
  show (if small j then some (PyData.list (rangeL 0 j.toNat)) else none) = _
  rw [show small j = true from decide_eq_true h, rangeL_eq]
  show some (PyData.list _) = some (PyData.list _)
  rw [List.map_map]; congr 2; apply List.map_congr_left; intro k _; show enc _ = enc _; congr 1; simp
@[simp] theorem tr_f (j : Int) (h : j.natAbs ≤ 1000000) : trF [enc j] = some (enc (Tp.mk ((List.range j.toNat).map fun (k : Nat) => (k : Int)))) := by
  show (if small j then some (PyData.tuple (rangeL 0 j.toNat)) else none) = _
  rw [show small j = true from decide_eq_true h, rangeL_eq]
  show some (PyData.tuple _) = some (PyData.tuple _)
  rw [List.map_map]; congr 2; apply List.map_congr_left; intro k _; show enc _ = enc _; congr 1; simp
@[simp] theorem is_enc_int (c : String) (i : Int) : isF c [enc i] = some (enc (decide ("int" = c))) := by
  show some (PyData.bool (subT "int" c)) = _
  unfold subT
  rw [show decide ("int" = "bool") = false from by decide, Bool.false_and, Bool.or_false]; rfl
@[simp] theorem is_enc_list (c : String) (xs : List α) : isF c [enc xs] = some (enc (decide ("list" = c))) := by
  show some (PyData.bool (subT "list" c)) = _
  unfold subT
  rw [show decide ("list" = "bool") = false from by decide, Bool.false_and, Bool.or_false]; rfl
@[simp] theorem is_enc_tp (c : String) (t : Tp α) : isF c [enc t] = some (enc (decide ("tuple" = c))) := by
  show some (PyData.bool (subT "tuple" c)) = _
  unfold subT
  rw [show decide ("tuple" = "bool") = false from by decide, Bool.false_and, Bool.or_false]; rfl
@[simp] theorem is_enc_bool (c : String) (b : Bool) : isF c [enc b] = some (enc (decide ("bool" = c) || decide (c = "int"))) := by
  show some (PyData.bool (subT "bool" c)) = _
  unfold subT
  rw [show decide ("bool" = "bool") = true from by decide, Bool.true_and]; rfl
/-! methods -/
@[simp] theorem mtx_count [BEq α] [LawfulBEq α] (xs : List α) (a : α) (h : Dt.dep α ≤ 63) : mtD "count" (enc xs) (enc a) = some (enc ((xs.count a : Nat) : Int)) := by
  show mtL "count" (xs.map enc) (enc a) = _
  unfold mtL
  rw [show PyData.list (xs.map enc) = enc xs from rfl, shaped_enc xs (by show Dt.dep α + 1 ≤ 64; omega), shaped_enc a (by omega)]
  show some (PyData.int ((xs.map enc).countP (fun z => PyData.eqv z (enc a)) : Nat)) = _
  congr 1
  show enc (_ : Int) = enc (_ : Int)
  congr 2
  rw [List.countP_map, List.count]
  apply List.countP_congr
  intro x _
  simp
@[simp] theorem mtx_index (xs : List α) (a : α) (h : Dt.dep α ≤ 63) : mtD "index" (enc xs) (enc a) = (xs.findIdx? fun z => decide (z = a)).map fun (j : Nat) => enc (j : Int) := by
  show mtL "index" (xs.map enc) (enc a) = _
  unfold mtL
  rw [show PyData.list (xs.map enc) = enc xs from rfl, shaped_enc xs (by show Dt.dep α + 1 ≤ 64; omega), shaped_enc a (by omega)]
  show ((xs.map enc).findIdx? fun z => PyData.eqv z (enc a)).map _ = _
  rw [List.findIdx?_map]
  congr 1
  congr 1
  funext z
  simp
@[simp] theorem mtGo_count (xs : List α) : mtGo "count" (enc xs) = true := rfl
@[simp] theorem mtGo_index (xs : List α) : mtGo "index" (enc xs) = true := rfl
/-! results -/
variable {W A B : Type}
@[simp] theorem cnd_true (x y : A) : cnd true x y = x := nr rfl
@[simp] theorem cnd_false (x y : A) : cnd false x y = y := nr rfl
@[simp] theorem cnd_bool (b x y : Bool) : cnd b x y = cond b x y := by cases b <;> rfl
@[simp] theorem cnd_opt (b : Bool) (x y : Option D) : cnd b x y = cond b x y := by cases b <;> rfl
@[simp] theorem cnd_enc (b : Bool) (x y : α) : cnd b (enc x) (enc y) = enc (cond b x y) := by cases b <;> rfl
@[simp] theorem bind_ok (a : A) (w : W) (f : A → W → Res W B) : (Res.ok a w).bind f = f a w := nr rfl
@[simp] theorem bind_ex (c : Str) (w : W) (f : A → W → Res W B) : (Res.ex c w).bind f = .ex c w := nr rfl
@[simp] theorem bind_no (f : A → W → Res W B) : (Res.no : Res W A).bind f = .no := nr rfl
@[simp] theorem lift_some (a : A) (w : W) : lift (some a) w = .ok a w := nr rfl
@[simp] theorem lift_none (w : W) : lift (none : Option A) w = .no := nr rfl
@[simp] theorem guardR_true (x : Res W A) : guardR true x = x := nr rfl
@[simp] theorem calm_ok (a : A) (w : W) : calmR (Res.ok a w) = .ok a w := nr rfl
@[simp] theorem asBool_enc (b : Bool) (w : W) : asBool (enc b) w = .ok b w := nr rfl
@[simp] theorem onE_ok (ρ : Rho) (a : A) (w : W) (f : A → W → SRes W) : onE ρ (.ok a w) f = f a w := nr rfl
@[simp] theorem onE_ex (ρ : Rho) (c : Str) (w : W) (f : A → W → SRes W) : onE ρ (.ex c w) f = .ex c ρ w := nr rfl
@[simp] theorem sq_nx (ρ : Rho) (w : W) (k : Rho → W → SRes W) : sq (.nx ρ w) k = k ρ w := nr rfl
@[simp] theorem sq_rt (d : D) (w : W) (k : Rho → W → SRes W) : sq (.rt d w) k = .rt d w := nr rfl
@[simp] theorem sq_ex (c : Str) (ρ : Rho) (w : W) (k : Rho → W → SRes W) : sq (.ex c ρ w) k = .ex c ρ w := nr rfl
@[simp] theorem guardS_true (x : SRes W) : guardS true x = x := nr rfl
@[simp] theorem endR_rt (d : D) (w : W) : endR (.rt d w) = .ok d w := nr rfl
@[simp] theorem endR_nx (ρ : Rho) (w : W) : endR (.nx ρ w) = .ok .none w := nr rfl
@[simp] theorem endR_ex (c : Str) (ρ : Rho) (w : W) : endR (.ex c ρ w) = .ex c w := nr rfl
@[simp] theorem cnd_ok (b : Bool) (x y : A) (w : W) : cnd b (Res.ok x w) (Res.ok y w) = .ok (cnd b x y) w := by cases b <;> rfl
theorem bind_cnd (b : Bool) (x y : Res W A) (f : A → W → Res W B) : (cnd b x y).bind f = cnd b (x.bind f) (y.bind f) := by cases b <;> rfl
theorem onE_cnd (ρ : Rho) (b : Bool) (x y : Res W A) (f : A → W → SRes W) : onE ρ (cnd b x y) f = cnd b (onE ρ x f) (onE ρ y f) := by cases b <;> rfl
theorem sq_cnd (b : Bool) (x y : SRes W) (k : Rho → W → SRes W) : sq (cnd b x y) k = cnd b (sq x k) (sq y k) := by cases b <;> rfl
@[simp] theorem tryN_nx (i j : Nat) (ρ : Rho) (w : W) : tryN i j (.nx ρ w) = .nx ρ w := nr rfl
@[simp] theorem tryN_rt (i j : Nat) (d : D) (w : W) : tryN i j (.rt d w) = .rt d w := nr rfl
@[simp] theorem tryN_ex (i j : Nat) (c : Str) (ρ : Rho) (w : W) : tryN i j (.ex c ρ w) = .nx (((ρ.set i (some (exc c))).set j (some (exc c))).set i none) w := nr rfl
@[simp] theorem isNone_exc (c : Str) : isNoneD (exc c) = false := rfl
@[simp] theorem isNone_str (c : Str) : isNoneD (.str c) = false := rfl
@[simp] theorem dr_exc (w : Wo) (c : Str) : dr w (exc c) = exc c := rfl
@[simp] theorem flat_str (n : Nat) (x : Str) : flatD n (.str x) = true := by cases n <;> rfl
@[simp] theorem cmp_ne_nil (xs : List α) (h : Dt.dep α ≤ 63) : cmpD .NotEq (enc xs) (.list []) = some (!decide (xs = [])) := cmp_ne xs [] (by show Dt.dep α + 1 ≤ 64; omega)
@[simp] theorem cmp_eq_nil (xs : List α) (h : Dt.dep α ≤ 63) : cmpD .Eq (enc xs) (.list []) = some (decide (xs = [])) := cmp_eq xs [] (by show Dt.dep α + 1 ≤ 64; omega)
@[simp] theorem cmp_nil_eq (xs : List α) (h : Dt.dep α ≤ 63) : cmpD .Eq (.list []) (enc xs) = some (decide ([] = xs)) := cmp_eq [] xs (by show Dt.dep α + 1 ≤ 64; omega)
def t3L (l : List Int) : T3 Int Int Int := ⟨l.getD 0 0, l.getD 1 0, l.getD 2 0⟩
def p2L (l : List Int) : Int × Int := (l.getD 0 0, l.getD 1 0)
/-- triples and pairs in order -/
def sort3 (xs : List (T3 Int Int Int)) : List (T3 Int Int Int) := (sortLx (xs.map fun t => [t.a, t.b, t.c])).map t3L
def sort2 (xs : List (Int × Int)) : List (Int × Int) := (sortLx (xs.map fun t => [t.1, t.2])).map p2L
theorem sort3_perm (xs : List (T3 Int Int Int)) : (sort3 xs).Perm xs := by
  have h := (sortLx_perm (xs.map fun t => [t.a, t.b, t.c])).map t3L
  rw [List.map_map] at h
  have e : xs.map (t3L ∘ fun t => [t.a, t.b, t.c]) = xs := by
    conv => rhs; rw [← List.map_id xs]
    rfl
  rw [e] at h
  exact h
theorem sort2_perm (xs : List (Int × Int)) : (sort2 xs).Perm xs := by
  have h := (sortLx_perm (xs.map fun t => [t.1, t.2])).map p2L
  rw [List.map_map] at h
  have e : xs.map (p2L ∘ fun t => [t.1, t.2]) = xs := by
    conv => rhs; rw [← List.map_id xs]
    rfl
  rw [e] at h
  exact h
theorem lexI (x y : Int) (l m : List (Int ⊕ List Nat)) : PyProof.Rows.lexLt itemOrd (.inl x :: l) (.inl y :: m) = if x = y then PyProof.Rows.lexLt itemOrd l m else decide (x < y) := by
  by_cases h : x = y
  · subst h
    rw [if_pos rfl]
    exact lex_self (O := itemOrd) _ _ _
  · rw [if_neg h]
    exact lex_diff (O := itemOrd) (fun q => h (Sum.inl.inj q))
theorem cmp_ge3 (x y : T3 Int Int Int) : cmpD .GtE (enc x) (enc y) = some (!lexL [x.a, x.b, x.c] [y.a, y.b, y.c]) := by
  show (if SeqAt.shaped (enc x) && SeqAt.shaped (enc y) && PySem.W.alike (enc x) (enc y) then some (!PySem.W.dataLt (enc x) (enc y)) else none) = _
  have ha : PySem.W.alike (enc x) (enc y) = true := by
    show PySem.W.alike (.tuple [.int x.a, .int x.b, .int x.c]) (.tuple [.int y.a, .int y.b, .int y.c]) = true
    simp [PySem.W.alike, PySem.W.alikeAll]
  rw [shaped_enc x (by decide), shaped_enc y (by decide), ha]
  show some (!PySem.W.dataLt (.tuple [.int x.a, .int x.b, .int x.c]) (.tuple [.int y.a, .int y.b, .int y.c])) = _
  rw [PySem.W.dataLt_tuple]
  simp only [PySem.W.keyToksAll, PySem.W.keyToks, List.cons_append, List.nil_append]
  refine congrArg (fun b => some (!b)) ?_
  have go : ∀ (p q : Int) (l m : List (Int ⊕ List Nat)) (r s : List Int), PyProof.Rows.lexLt itemOrd l m = lexL r s → PyProof.Rows.lexLt itemOrd (.inl 1 :: .inl p :: l) (.inl 1 :: .inl q :: m) = lexL (p :: r) (q :: s) := fun p q l m r s h => by
    refine (lexI 1 1 _ _).trans ?_
    rw [if_pos rfl]
    refine (lexI p q _ _).trans ?_
    unfold lexL
    rw [h]
  refine go _ _ _ _ _ _ (go _ _ _ _ _ _ (go _ _ _ _ _ _ ?_))
  refine (lexI 0 0 [] []).trans ?_
  rfl
theorem rowsB_enc (t : List (List Int)) : rowsB (enc t) = true := by
  show (t.map enc).all rowB = true
  rw [List.all_map, List.all_eq_true]
  intro r _
  show (r.map enc).all scalB = true
  rw [List.all_map, List.all_eq_true]
  intro x _
  rfl
/-! walks -/
@[simp] theorem it1_enc (xs : List α) : it1 [enc xs] = some (xs.map enc) := rfl
@[simp] theorem it1_tp (t : Tp α) : it1 [enc t] = some (t.it.map enc) := rfl
@[simp] theorem rg1_enc (j : Int) (h : j.natAbs ≤ 1000000) : rg1 [enc j] = some ((List.range j.toNat).map fun (k : Nat) => enc (k : Int)) := by
  show (if small j then some (rangeL 0 j.toNat) else none) = _
  rw [show small j = true from decide_eq_true h, rangeL_eq]
  simp
@[simp] theorem rg2_enc (i j : Int) (h0 : i.natAbs ≤ 1000000) (h : j.natAbs ≤ 1000000) : rg2 [enc i, enc j] = some ((List.range (j - i).toNat).map fun (k : Nat) => enc (i + (k : Int))) := by
  show (if small i && small j then some (rangeL i (j - i).toNat) else none) = _
  rw [show small j = true from decide_eq_true h, show small i = true from decide_eq_true h0, rangeL_eq]
  rfl
theorem zip2_map (xs : List α) (ys : List β) : zip2 (xs.map enc) (ys.map enc) = (xs.zip ys).map enc := by
  induction xs generalizing ys with
  | nil => cases ys <;> rfl
  | cons x r ih =>
    cases ys with
    | nil => rfl
    | cons y s => show PyData.tuple [enc x, enc y] :: zip2 (r.map enc) (s.map enc) = _; rw [ih]; rfl
@[simp] theorem zp2_enc (xs : List α) (ys : List β) : zp2 [enc xs, enc ys] = some ((xs.zip ys).map enc) := congrArg some (zip2_map xs ys)
@[simp] theorem lz_f (xs : List α) (ys : List β) (h : Dt.ld α = 0) (h2 : Dt.ld β = 0) : lzF [enc xs, enc ys] = some (enc (xs.zip ys)) := by
  show (if flatDs 0 (xs.map enc) && flatDs 0 (ys.map enc) then some (PyData.list (zip2 (xs.map enc) (ys.map enc))) else none) = _
  rw [show flatDs 0 (xs.map enc) = true from flatAll 0 (by omega) xs, show flatDs 0 (ys.map enc) = true from flatAll 0 (by omega) ys, zip2_map]; rfl
theorem enumL_map (i : Int) (xs : List α) : enumL i (xs.map enc) = (xs.zipIdx).map fun p => enc (i + (p.2 : Int), p.1) := by
  suffices h : ∀ (n : Nat) (j : Int), j = i + n → enumL j (xs.map enc) = (xs.zipIdx n).map fun p => enc (i + (p.2 : Int), p.1) from h 0 i (by simp)
  induction xs with
  | nil => intro n j _; rfl
  | cons x r ih =>
    intro n j hj
    subst hj
    show PyData.tuple [.int (i + n), enc x] :: enumL (i + n + 1) (r.map enc) = _
    rw [ih (n + 1) _ (by push_cast; omega)]
    rfl
@[simp] theorem en1_enc (xs : List α) : en1 [enc xs] = some ((xs.zipIdx).map fun p => enc ((p.2 : Int), p.1)) := by
  show some (enumL 0 (xs.map enc)) = _
  rw [enumL_map]
  simp
@[simp] theorem tup2_enc {R : Type} (no : R) (p : α × β) (k : D → D → R) : tup2 no (enc p) k = k (enc p.1) (enc p.2) := nr rfl
@[simp] theorem tup3_enc {R : Type} (no : R) (p : T3 α β γ) (k : D → D → D → R) : tup3 no (enc p) k = k (enc p.a) (enc p.b) (enc p.c) := nr rfl
end
/-! ### the draws -/
theorem nil_I : (PyData.list [] : D) = enc ([] : List Int) := rfl
/-- the world of a law: its script, the numbers, the count of draws, other objects -/
def wo (ns nums : List Int) (k : Int) (r : List Ob) : Wo := .scr ns :: .lst (nums.map enc) :: .lst [hdl 1, enc k] :: r
theorem hdlOf_hdl (k : Nat) : hdlOf (hdl k) = some k := by
  show (if (0 : Int) ≤ (k : Int) then some (k : Int).toNat else none) = _
  rw [if_pos (by omega)]; simp
theorem wo_1 (ns nums : List Int) (k : Int) (r : List Ob) : hlO (wo ns nums k r) 1 = some (nums.map enc) := rfl
theorem wo_2 (ns nums : List Int) (k : Int) (r : List Ob) : hlO (wo ns nums k r) 2 = some [hdl 1, enc k] := rfl
@[simp] theorem ixO_20 (ns nums : List Int) (k : Int) (r : List Ob) : ixO (wo ns nums k r) (hdl 2) (enc (0 : Int)) = some (hdl 1) := rfl
@[simp] theorem ixO_21 (ns nums : List Int) (k : Int) (r : List Ob) : ixO (wo ns nums k r) (hdl 2) (enc (1 : Int)) = some (enc k) := rfl
@[simp] theorem dr_1 (ns nums : List Int) (k : Int) (r : List Ob) : dr (wo ns nums k r) (hdl 1) = enc nums := rfl
@[simp] theorem ixO_1 (ns nums : List Int) (k : Int) (r : List Ob) (i : Int) : ixO (wo ns nums k r) (hdl 1) (enc i) = (atI nums i).map enc := atI_map nums enc i
@[simp] theorem hset_2 (ns nums : List Int) (k j : Int) (r : List Ob) (f : Wo → SRes Wo) : hset (wo ns nums k r) (hdl 2) (enc (1 : Int)) (enc j) f = f (wo ns nums j r) := nr rfl
@[simp] theorem hset_1 (ns nums : List Int) (k i x : Int) (r : List Ob) (h0 : 0 ≤ i) (h : i < nums.length) (f : Wo → SRes Wo) : hset (wo ns nums k r) (hdl 1) (enc i) (enc x) f = f (wo ns (nums.set i.toNat x) k r) := by
  unfold hset
  rw [hdlOf_hdl]
  show (match hlO (wo ns nums k r) 1 with
    | some ds => (match setD (.list ds) (enc i) (enc x) with
      | some (.list ds') => f (hpO (wo ns nums k r) 1 ds')
      | _ => .no)
    | none => .no) = _
  rw [wo_1]
  show (match setD (enc nums) (enc i) (enc x) with
      | some (.list ds') => f (hpO (wo ns nums k r) 1 ds')
      | _ => .no) = _
  rw [set_enc nums i x h0 h]
  rfl
@[simp] theorem bin_pow5 (a : Int) (h : a.natAbs < 18446744073709551616) : binD .Pow (enc a) (enc (5 : Int)) = some (enc (a ^ 5)) := by
  show (if decide ((0 : Int) ≤ 5) && decide ((5 : Int) ≤ 1000) && decide (a.natAbs < 18446744073709551616) then some (PyData.int (a ^ (5 : Int).toNat)) else none) = _
  rw [decide_eq_true h]; rfl
@[simp] theorem mulOk_l (a b : Int) (h : a.natAbs < 18446744073709551616) : mulOk a b = true := by unfold mulOk; rw [decide_eq_true h]; rfl
theorem mulOk_r (a b : Int) (h : b.natAbs < 18446744073709551616) : mulOk a b = true := by unfold mulOk; rw [decide_eq_true h, Bool.or_true]
/-! ### comprehensions and loops -/
section
variable {W A : Type}
def compG (g : A → W → Res W (Option D)) : List A → W → Res W (List D)
  | [], w => .ok [] w
  | a :: as, w => (g a w).bind fun o w => (compG g as w).bind fun bs w => .ok (match o with
    | some b => b :: bs
    | none => bs) w
@[simp] theorem compR_map (g : D → W → Res W (Option D)) (f : A → D) (xs : List A) (w : W) : compR g (xs.map f) w = compG (fun x w => g (f x) w) xs w := by
  induction xs generalizing w with
  | nil => rfl
  | cons x r ih => show (g (f x) w).bind _ = (g (f x) w).bind _; congr 1; funext o w; rw [ih] <;> rfl
theorem compG_congr {g g' : A → W → Res W (Option D)} {xs ys : List A} {w w' : W} (hx : xs = ys) (hw : w = w') (hg : ∀ x, x ∈ ys → ∀ w, g x w = g' x w) : compG g xs w = compG g' ys w' := by
  subst hx; subst hw
  induction xs generalizing w with
  | nil => rfl
  | cons x r ih =>
    show (g x w).bind _ = (g' x w).bind _
    rw [hg x List.mem_cons_self]
    congr 1; funext o w
    rw [ih fun y hy => hg y (List.mem_cons_of_mem _ hy)]
@[simp] theorem compG_some (h : A → D) (xs : List A) (w : W) : compG (fun x w => .ok (some (h x)) w) xs w = .ok (xs.map h) w := by
  induction xs with
  | nil => rfl
  | cons x r ih => show (compG _ r w).bind _ = _; rw [ih]; rfl
@[simp] theorem compG_filter (p : A → Bool) (h : A → D) (xs : List A) (w : W) : compG (fun x w => .ok (cond (p x) (some (h x)) none) w) xs w = .ok ((xs.filter p).map h) w := by
  induction xs with
  | nil => rfl
  | cons x r ih =>
    show (compG _ r w).bind _ = _
    rw [ih]
    cases hp : p x <;> simp [hp]
theorem compG_eq {g : A → W → Res W (Option D)} {xs : List A} {w : W} (h : A → D) (H : ∀ x, x ∈ xs → g x w = .ok (some (h x)) w) : compG g xs w = .ok (xs.map h) w := by
  induction xs with
  | nil => rfl
  | cons x r ih =>
    show (g x w).bind _ = _
    rw [H x List.mem_cons_self]
    show (compG g r w).bind _ = _
    rw [ih fun y hy => H y (List.mem_cons_of_mem _ hy)]; rfl
theorem compG_fil {g : A → W → Res W (Option D)} {xs : List A} {w : W} (p : A → Bool) (h : A → D) (H : ∀ x, x ∈ xs → g x w = .ok (cond (p x) (some (h x)) none) w) : compG g xs w = .ok ((xs.filter p).map h) w := by
  induction xs with
  | nil => rfl
  | cons x r ih =>
    show (g x w).bind _ = _
    rw [H x List.mem_cons_self]
    show (compG g r w).bind _ = _
    rw [ih fun y hy => H y (List.mem_cons_of_mem _ hy)]
    cases hp : p x <;> simp [hp]
theorem compG_inv {g : A → W → Res W (Option D)} (I : List D → W → Prop) : ∀ {xs : List A} {ds : List D} {w : W}, I ds w → (∀ x ds w, x ∈ xs → I ds w → ∃ d w', g x w = .ok (some d) w' ∧ I (ds ++ [d]) w') → ∃ es w', compG g xs w = .ok es w' ∧ I (ds ++ es) w' ∧ es.length = xs.length
  | [], ds, w, i, _ => ⟨[], w, rfl, by rw [List.append_nil]; exact i, rfl⟩
  | x :: xs, ds, w, i, h => by
    obtain ⟨d, w1, e1, i1⟩ := h x ds w List.mem_cons_self i
    obtain ⟨es, w2, e2, i2, l2⟩ := compG_inv I (xs := xs) i1 fun y ds w hy => h y ds w (List.mem_cons_of_mem _ hy)
    refine ⟨d :: es, w2, ?_, by rw [List.append_assoc] at i2; exact i2, by simp [l2]⟩
    show (g x w).bind _ = _
    rw [e1]
    show (compG g xs w1).bind _ = _
    rw [e2]; rfl
def forG (b : A → Rho → W → SRes W) : List A → Rho → W → SRes W
  | [], ρ, w => .nx ρ w
  | d :: ds, ρ, w => sq (b d ρ w) (forG b ds)
@[simp] theorem forR_map (g : D → Rho → W → SRes W) (f : A → D) (xs : List A) (ρ : Rho) (w : W) : forR g (xs.map f) ρ w = forG (fun x => g (f x)) xs ρ w := by
  induction xs generalizing ρ w with
  | nil => rfl
  | cons x r ih => show sq (g (f x) ρ w) _ = sq (g (f x) ρ w) _; congr 1; funext ρ w; exact ih ρ w
theorem forG_fold {S : Type} {b : A → Rho → W → SRes W} (R : S → Rho) (U : S → W) (step : S → A → S) : ∀ (xs : List A) (s : S), (∀ s x, x ∈ xs → b x (R s) (U s) = .nx (R (step s x)) (U (step s x))) → forG b xs (R s) (U s) = .nx (R (xs.foldl step s)) (U (xs.foldl step s))
  | [], s, _ => rfl
  | x :: r, s, h => by
    show sq (b x (R s) (U s)) _ = _
    rw [h s x List.mem_cons_self]
    exact forG_fold R U step r (step s x) fun s y hy => h s y (List.mem_cons_of_mem _ hy)
theorem forG_inv {b : A → Rho → W → SRes W} {xs : List A} (I : List A → Rho → W → Prop) {ρ : Rho} {w : W} (h0 : I [] ρ w)
    (hs : ∀ (don : List A) (x : A) (rest : List A) ρ w, xs = don ++ x :: rest → I don ρ w → ∃ ρ' w', b x ρ w = .nx ρ' w' ∧ I (don ++ [x]) ρ' w') : ∃ ρ' w', forG b xs ρ w = .nx ρ' w' ∧ I xs ρ' w' := by
  suffices h : ∀ (r don : List A) ρ w, xs = don ++ r → I don ρ w → ∃ ρ' w', forG b r ρ w = .nx ρ' w' ∧ I xs ρ' w' from h xs [] ρ w rfl h0
  intro r
  induction r with
  | nil => intro don ρ w e i; rw [List.append_nil] at e; subst e; exact ⟨ρ, w, rfl, i⟩
  | cons x r ih =>
    intro don ρ w e i
    obtain ⟨ρ1, w1, e1, i1⟩ := hs don x r ρ w e i
    obtain ⟨ρ2, w2, e2, i2⟩ := ih (don ++ [x]) ρ1 w1 (by rw [e]; simp) i1
    refine ⟨ρ2, w2, ?_, i2⟩
    show sq (b x ρ w) _ = _
    rw [e1]
    exact e2
theorem while_inv {t : Rho → W → Res W Bool} {b : Rho → W → SRes W} (I : Nat → Rho → W → Prop) (J : Rho → W → Prop) : ∀ (n m : Nat) (ρ : Rho) (w : W), m < n → I m ρ w →
    (∀ m ρ w, I m ρ w → (t ρ w = .ok false w ∧ J ρ w) ∨ (t ρ w = .ok true w ∧ ∃ m' ρ' w', m = m' + 1 ∧ b ρ w = .nx ρ' w' ∧ I m' ρ' w')) → ∃ ρ' w', whileR t b n ρ w = .nx ρ' w' ∧ J ρ' w'
  | 0, m, ρ, w, h, _, _ => by omega
  | n + 1, m, ρ, w, h, i, hs => by
    rcases hs m ρ w i with ⟨e, j⟩ | ⟨e, m', ρ1, w1, rfl, e1, i1⟩
    · refine ⟨ρ, w, ?_, j⟩
      show onE ρ (t ρ w) _ = _
      rw [e]; rfl
    · obtain ⟨ρ2, w2, e2, j2⟩ := while_inv I J n m' ρ1 w1 (by omega) i1 hs
      refine ⟨ρ2, w2, ?_, j2⟩
      show onE ρ (t ρ w) _ = _
      rw [e]
      show sq (b ρ w) _ = _
      rw [e1]
      exact e2
end
end T
/-! ## the head (printed) -/
namespace HD
open PySem PySem.Spec PyProof.Rows L2
def top (i : Nat) : Stmt := PySem.Challenge.pw_judgetables_k20_whole_named.main.body.getD i (.Pass ⟨0, 0, 0, 0⟩)
def s_is_int : Stmt := top 6
def d_is_int : He.DefD := ⟨("is_int", none), "is_int", "is_int", defArgs s_is_int, defBody s_is_int, defScope s_is_int, [], []⟩
def s_is_table : Stmt := top 7
def d_is_table : He.DefD := ⟨("is_table", none), "is_table", "is_table", defArgs s_is_table, defBody s_is_table, defScope s_is_table, [], []⟩
def s_check_table : Stmt := top 8
def d_check_table : He.DefD := ⟨("check_table", none), "check_table", "check_table", defArgs s_check_table, defBody s_check_table, defScope s_check_table, [], []⟩
def s_rows_of : Stmt := top 10
def d_rows_of : He.DefD := ⟨("rows_of", none), "rows_of", "rows_of", defArgs s_rows_of, defBody s_rows_of, defScope s_rows_of, [], []⟩
def s_cases : Stmt := top 11
def d_cases : He.DefD := ⟨("cases", none), "cases", "cases", defArgs s_cases, defBody s_cases, defScope s_cases, [], []⟩
def s_exchanged : Stmt := top 12
def d_exchanged : He.DefD := ⟨("exchanged", none), "exchanged", "exchanged", defArgs s_exchanged, defBody s_exchanged, defScope s_exchanged, [], []⟩
def s_agreed_of : Stmt := top 14
def d_agreed_of : He.DefD := ⟨("agreed_of", none), "agreed_of", "agreed_of", defArgs s_agreed_of, defBody s_agreed_of, defScope s_agreed_of, [], []⟩
def s_agreed : Stmt := top 15
def d_agreed : He.DefD := ⟨("agreed", none), "agreed", "agreed", defArgs s_agreed, defBody s_agreed, defScope s_agreed, [], []⟩
def s_check_order : Stmt := top 17
def d_check_order : He.DefD := ⟨("check_order", none), "check_order", "check_order", defArgs s_check_order, defBody s_check_order, defScope s_check_order, [], []⟩
def s_reordered : Stmt := top 18
def d_reordered : He.DefD := ⟨("reordered", none), "reordered", "reordered", defArgs s_reordered, defBody s_reordered, defScope s_reordered, [], []⟩
def s_orders_of : Stmt := top 20
def d_orders_of : He.DefD := ⟨("orders_of", none), "orders_of", "orders_of", defArgs s_orders_of, defBody s_orders_of, defScope s_orders_of, [], []⟩
def s_renamed : Stmt := top 21
def d_renamed : He.DefD := ⟨("renamed", none), "renamed", "renamed", defArgs s_renamed, defBody s_renamed, defScope s_renamed, [], []⟩
def s_count_of : Stmt := top 22
def d_count_of : He.DefD := ⟨("count_of", none), "count_of", "count_of", defArgs s_count_of, defBody s_count_of, defScope s_count_of, [], []⟩
def s_best_renaming : Stmt := top 23
def d_best_renaming : He.DefD := ⟨("best_renaming", none), "best_renaming", "best_renaming", defArgs s_best_renaming, defBody s_best_renaming, defScope s_best_renaming, [], []⟩
def s_renaming_counts : Stmt := top 24
def d_renaming_counts : He.DefD := ⟨("renaming_counts", none), "renaming_counts", "renaming_counts", defArgs s_renaming_counts, defBody s_renaming_counts, defScope s_renaming_counts, [], []⟩
def s_is_best_named : Stmt := top 25
def d_is_best_named : He.DefD := ⟨("is_best_named", none), "is_best_named", "is_best_named", defArgs s_is_best_named, defBody s_is_best_named, defScope s_is_best_named, [], []⟩
def s_law_start : Stmt := top 27
def d_law_start : He.DefD := ⟨("_law_start", none), "_law_start", "_law_start", defArgs s_law_start, defBody s_law_start, defScope s_law_start, [], []⟩
def s_law_draw : Stmt := top 28
def d_law_draw : He.DefD := ⟨("_law_draw", none), "_law_draw", "_law_draw", defArgs s_law_draw, defBody s_law_draw, defScope s_law_draw, [], []⟩
def s_law_pick : Stmt := top 29
def d_law_pick : He.DefD := ⟨("_law_pick", none), "_law_pick", "_law_pick", defArgs s_law_pick, defBody s_law_pick, defScope s_law_pick, [], []⟩
def s_law_lines : Stmt := top 30
def d_law_lines : He.DefD := ⟨("_law_lines", none), "_law_lines", "_law_lines", defArgs s_law_lines, defBody s_law_lines, defScope s_law_lines, [], []⟩
def s_law_count : Stmt := top 31
def d_law_count : He.DefD := ⟨("_law_count", none), "_law_count", "_law_count", defArgs s_law_count, defBody s_law_count, defScope s_law_count, [], []⟩
def s_law_table : Stmt := top 32
def d_law_table : He.DefD := ⟨("_law_table", none), "_law_table", "_law_table", defArgs s_law_table, defBody s_law_table, defScope s_law_table, [], []⟩
def s_law_same : Stmt := top 33
def d_law_same : He.DefD := ⟨("_law_same", none), "_law_same", "_law_same", defArgs s_law_same, defBody s_law_same, defScope s_law_same, [], []⟩
def s_law : Stmt := top 34
def d_law : He.DefD := ⟨("law", none), "law", "law", defArgs s_law, defBody s_law, defScope s_law, [], []⟩
def errs : List Str := ["JudgeError", "BadTable", "BadNumber"]
def gam : List (Str × T.D) := [("MOST_CASES", .int 60), ("MOST_KINDS", .int 5)]
def glos0 : List Str := ["is_int", "is_table", "check_table", "rows_of", "cases", "exchanged", "agreed_of", "agreed", "check_order", "reordered", "orders_of", "renamed", "count_of", "best_renaming", "renaming_counts", "is_best_named", "_law_start", "_law_draw", "_law_pick", "_law_lines", "_law_count", "_law_table", "_law_same", "law"]
def glos : List Str := glos0
def more : List He.Fa := []
def fa : List He.Fa := T.faOf errs gam glos more
def fn0 : List He.DefD := [d_is_int, d_is_table, d_check_table, d_rows_of, d_cases, d_exchanged, d_agreed_of, d_agreed, d_check_order, d_reordered, d_orders_of, d_renamed, d_count_of, d_best_renaming, d_renaming_counts, d_is_best_named, d_law_start, d_law_draw, d_law_pick, d_law_lines, d_law_count, d_law_table, d_law_same, d_law]
def fn : List He.DefD := fn0
def loose0 : List PySem.Str := ["JudgeError", "BadTable", "BadNumber", "MOST_CASES", "MOST_KINDS", "is_int", "is_table", "check_table", "rows_of", "cases", "exchanged", "agreed_of", "agreed", "check_order", "reordered", "orders_of", "renamed", "count_of", "best_renaming", "renaming_counts", "is_best_named", "_law_start", "_law_draw", "_law_pick", "_law_lines"]
def loose1 : List PySem.Str := ["_law_count", "_law_table", "_law_same"]
def loose : List PySem.Str := loose0 ++ loose1
abbrev R : PySem.W.OpenRow := PySem.W.OpenLaw.row PySem.Challenge.rw_judgetables_k20_whole_named
abbrev hk : PySem.W.Hook := T.hookX 4 fa fn errs
def ob (s : PySem.W.SharedT) : He.AlD × Bool := T.obsXG 4 fa fn errs (HandSHeadRun.getT s)
theorem ob_eq (s : PySem.W.SharedT) : ob s = hk.obs s.abs := T.obsXG_eq (HandSHeadRun.getT_eq s)
theorem run (w : World) : HandSHeadRun.RunEq R (PySem.W.view R.prog [34]) hk ob 20000 loose w := by
  intro os
  kernel_rfl
end HD
/-! ## what each def gives (printed) -/
namespace DN
open PySem PySem.Spec PyProof.Rows L2 T
def c_is_int : Cfg Wo := ⟨["value", "low", "high"], [], look [], look HD.gam, HD.errs, 200, hlO, hpO, look [], dxO, io0⟩
def d_is_int : Den Wo := denB c_is_int plP 30 (defScope HD.s_is_int) 12 (defBody HD.s_is_int) 3
def c_is_table : Cfg Wo := ⟨["value", "row", "one"], [], look [("is_int", d_is_int)], look HD.gam, HD.errs, 200, hlO, hpO, look [], dxO, io0⟩
def d_is_table : Den Wo := denB c_is_table plP 30 (defScope HD.s_is_table) 12 (defBody HD.s_is_table) 1
def c_check_table : Cfg Wo := ⟨["value"], [], look [("is_table", d_is_table)], look HD.gam, HD.errs, 200, hlO, hpO, look [], dxO, io0⟩
def d_check_table : Den Wo := denB c_check_table plP 30 (defScope HD.s_check_table) 12 (defBody HD.s_check_table) 1
def c_rows_of : Cfg Wo := ⟨["table", "row"], [], look [], look HD.gam, HD.errs, 200, hlO, hpO, look [], dxO, io0⟩
def d_rows_of : Den Wo := denB c_rows_of plP 30 (defScope HD.s_rows_of) 12 (defBody HD.s_rows_of) 1
def c_cases : Cfg Wo := ⟨["table"], [], look [("check_table", d_check_table), ("rows_of", d_rows_of)], look HD.gam, HD.errs, 200, hlO, hpO, look [], dxO, io0⟩
def d_cases : Den Wo := denB c_cases plP 30 (defScope HD.s_cases) 12 (defBody HD.s_cases) 1
def c_exchanged : Cfg Wo := ⟨["table", "kind", "row"], [], look [("check_table", d_check_table)], look HD.gam, HD.errs, 200, hlO, hpO, look [], dxO, io0⟩
def d_exchanged : Den Wo := denB c_exchanged plP 30 (defScope HD.s_exchanged) 12 (defBody HD.s_exchanged) 1
def c_agreed_of : Cfg Wo := ⟨["table", "kind"], [], look [], look HD.gam, HD.errs, 200, hlO, hpO, look [], dxO, io0⟩
def d_agreed_of : Den Wo := denB c_agreed_of plP 30 (defScope HD.s_agreed_of) 12 (defBody HD.s_agreed_of) 1
def c_agreed : Cfg Wo := ⟨["table"], [], look [("check_table", d_check_table), ("agreed_of", d_agreed_of)], look HD.gam, HD.errs, 200, hlO, hpO, look [], dxO, io0⟩
def d_agreed : Den Wo := denB c_agreed plP 30 (defScope HD.s_agreed) 12 (defBody HD.s_agreed) 1
def c_check_order : Cfg Wo := ⟨["table", "value", "one"], [], look [("is_int", d_is_int)], look HD.gam, HD.errs, 200, hlO, hpO, look [], dxO, io0⟩
def d_check_order : Den Wo := denB c_check_order plP 30 (defScope HD.s_check_order) 12 (defBody HD.s_check_order) 2
def c_reordered : Cfg Wo := ⟨["table", "order", "a", "b"], [], look [("check_table", d_check_table), ("check_order", d_check_order)], look HD.gam, HD.errs, 200, hlO, hpO, look [], dxO, io0⟩
def d_reordered : Den Wo := denB c_reordered plP 30 (defScope HD.s_reordered) 12 (defBody HD.s_reordered) 2
def c_orders_of : Cfg Wo := ⟨["size", "found", "turn", "longer", "one", "kind"], [0, 201, 0, 1], look [], look HD.gam, HD.errs, 200, hlO, hpO, look [], dxO, io0⟩
def d_orders_of : Den Wo := denB c_orders_of plP 30 (defScope HD.s_orders_of) 12 (defBody HD.s_orders_of) 1
def c_renamed : Cfg Wo := ⟨["table", "order", "row", "kind"], [], look [("check_table", d_check_table), ("check_order", d_check_order)], look HD.gam, HD.errs, 200, hlO, hpO, look [], dxO, io0⟩
def d_renamed : Den Wo := denB c_renamed plP 30 (defScope HD.s_renamed) 12 (defBody HD.s_renamed) 2
def c_count_of : Cfg Wo := ⟨["table", "order", "kind"], [], look [], look HD.gam, HD.errs, 200, hlO, hpO, look [], dxO, io0⟩
def d_count_of : Den Wo := denB c_count_of plP 30 (defScope HD.s_count_of) 12 (defBody HD.s_count_of) 2
def c_best_renaming : Cfg Wo := ⟨["table", "best", "order"], [], look [("check_table", d_check_table), ("orders_of", d_orders_of), ("count_of", d_count_of)], look HD.gam, HD.errs, 200, hlO, hpO, look [], dxO, io0⟩
def d_best_renaming : Den Wo := denB c_best_renaming plP 30 (defScope HD.s_best_renaming) 12 (defBody HD.s_best_renaming) 1
def c_renaming_counts : Cfg Wo := ⟨["table", "found", "order", "one"], [], look [("check_table", d_check_table), ("count_of", d_count_of), ("orders_of", d_orders_of)], look HD.gam, HD.errs, 200, hlO, hpO, look [], dxO, io0⟩
def d_renaming_counts : Den Wo := denB c_renaming_counts plP 30 (defScope HD.s_renaming_counts) 12 (defBody HD.s_renaming_counts) 1
def c_is_best_named : Cfg Wo := ⟨["table", "order"], [], look [("check_table", d_check_table), ("agreed_of", d_agreed_of), ("count_of", d_count_of), ("orders_of", d_orders_of)], look HD.gam, HD.errs, 200, hlO, hpO, look [], dxO, io0⟩
def d_is_best_named : Den Wo := denB c_is_best_named plP 30 (defScope HD.s_is_best_named) 12 (defBody HD.s_is_best_named) 1
def c_law_draw : Cfg Wo := ⟨["draws", "limit", "numbers", "at", "cell", "mixed"], [], look [], look HD.gam, HD.errs, 200, hlO, hpO, look [], dxO, io0⟩
def d_law_draw : Den Wo := denB c_law_draw plP 30 (defScope HD.s_law_draw) 12 (defBody HD.s_law_draw) 2
def c_law_pick : Cfg Wo := ⟨["draws", "choices"], [], look [("_law_draw", d_law_draw)], look HD.gam, HD.errs, 200, hlO, hpO, look [], dxO, io0⟩
def d_law_pick : Den Wo := denB c_law_pick plP 30 (defScope HD.s_law_pick) 12 (defBody HD.s_law_pick) 2
def c_law_lines : Cfg Wo := ⟨["draws", "size", "most", "like", "k", "one", "other"], [0, 0, 0, 0, 0, 1, 1], look [("_law_draw", d_law_draw)], look HD.gam, HD.errs, 200, hlO, hpO, look [], dxO, io0⟩
def d_law_lines : Den Wo := denB c_law_lines plP 30 (defScope HD.s_law_lines) 12 (defBody HD.s_law_lines) 3
def c_law_count : Cfg Wo := ⟨["one", "other", "size", "pairs", "a", "b"], [], look [], look HD.gam, HD.errs, 200, hlO, hpO, look [], dxO, io0⟩
def d_law_count : Den Wo := denB c_law_count plP 30 (defScope HD.s_law_count) 12 (defBody HD.s_law_count) 3
def c_law_table : Cfg Wo := ⟨["draws", "most", "size", "one", "other"], [], look [("_law_lines", d_law_lines), ("_law_count", d_law_count), ("_law_draw", d_law_draw), ("_law_pick", d_law_pick)], look HD.gam, HD.errs, 200, hlO, hpO, look [], dxO, io0⟩
def d_law_table : Den Wo := denB c_law_table plP 30 (defScope HD.s_law_table) 12 (defBody HD.s_law_table) 2
def c_law_same : Cfg Wo := ⟨["table", "size", "one", "other", "top", "moved", "alike", "b", "a", "k"], [], look [("renamed", d_renamed), ("renaming_counts", d_renaming_counts), ("agreed", d_agreed), ("cases", d_cases), ("best_renaming", d_best_renaming), ("reordered", d_reordered), ("exchanged", d_exchanged)], look HD.gam, HD.errs, 200, hlO, hpO, look [], dxO, io0⟩
def d_law_same : Den Wo := denB c_law_same plP 30 (defScope HD.s_law_same) 12 (defBody HD.s_law_same) 5
def c_law : Cfg Wo := ⟨["script", "draws", "table", "size", "orders", "turn", "twice_names", "best", "top", "one", "other", "left", "order_here", "k", "count", "many"], [0, 0, 0, 0, 1, 0, 0, 0, 0, 0, 0, 1, 1], look [("_law_start", startDen), ("_law_table", d_law_table), ("best_renaming", d_best_renaming), ("agreed", d_agreed), ("_law_same", d_law_same), ("renamed", d_renamed), ("reordered", d_reordered), ("exchanged", d_exchanged), ("cases", d_cases), ("is_best_named", d_is_best_named), ("_law_pick", d_law_pick), ("renaming_counts", d_renaming_counts)], look HD.gam, HD.errs, 200, hlO, hpO, look [], dxO, io0⟩
def d_law : Den Wo := denB c_law plP 30 (defScope HD.s_law) 12 (defBody HD.s_law) 1
end DN
namespace DN
open PySem PySem.Spec PyProof.Rows L2 T
/-! ### is_int -/
def K_is_int (p : List Nat) (i : Nat) : Rho → Wo → SRes Wo := exB (exS c_is_int plP 30 (defScope HD.s_is_int) (12 - p.length)) ((blkAt (defBody HD.s_is_int) p).drop i)
theorem m_is_int (v_value v_low v_high : D) (w : Wo) : d_is_int [v_value, v_low, v_high] w = endR (K_is_int [] 0 [some v_value, some v_low, some v_high] w) := by kernel_rfl
theorem t_is_int_t_0 (v_value v_low v_high : D) (w : Wo) : K_is_int [] 0 [some v_value, some v_low, some v_high] w = sq (onE [some v_value, some v_low, some v_high] ((((lift (isF "int" (List.map (dr w) (v_value :: []))) w).bind asBool).bind fun b1 w => (cnd b1 ((((lift (isF "bool" (List.map (dr w) (v_value :: []))) w).bind asBool).bind fun b2 w => .ok (!b2) w).bind fun b3 w => (cnd b3 (((lift (cmpD .LtE v_low v_value) w).bind fun t4 w => (cnd t4 ((lift (cmpD .LtE v_value v_high) w).bind fun t5 w => .ok (.bool t5) w) (.ok (.bool false) w))).bind asBool) (.ok false w))) (.ok false w))).bind fun b6 w => .ok (.bool b6) w) fun x7 w => guardS (flatD 9 x7) (.rt x7 w)) (K_is_int [] 1) := by kernel_rfl
theorem e_is_int_t (ρ : Rho) (w : Wo) : K_is_int [] 1 ρ w = .nx ρ w := by kernel_rfl
/-! ### is_table -/
def K_is_table (p : List Nat) (i : Nat) : Rho → Wo → SRes Wo := exB (exS c_is_table plP 30 (defScope HD.s_is_table) (12 - p.length)) ((blkAt (defBody HD.s_is_table) p).drop i)
theorem m_is_table (v_value : D) (w : Wo) : d_is_table [v_value] w = endR (K_is_table [] 0 [some v_value, none, none] w) := by kernel_rfl
theorem t_is_table_t_0 (v_value : D) (o_row o_one : Option D) (w : Wo) : K_is_table [] 0 [some v_value, o_row, o_one] w = sq (onE [some v_value, o_row, o_one] ((((lift (isF "list" (List.map (dr w) (v_value :: []))) w).bind asBool).bind fun b1 w => .ok (!b1) w).bind fun b2 w => (cnd b2 (.ok true w) ((((lift (lenF (List.map (dr w) (v_value :: []))) w).bind fun x3 w => (lift (cmpD .LtE (.int 2) x3) w).bind fun t4 w => (cnd t4 ((lift (cmpD .LtE x3 (.int 5)) w).bind fun t5 w => .ok (.bool t5) w) (.ok (.bool false) w))).bind asBool).bind fun b6 w => .ok (!b6) w))) fun b7 w => cnd b7 (K_is_table [0] 0 [some v_value, o_row, o_one] w) (.nx [some v_value, o_row, o_one] w)) (K_is_table [] 1) := by kernel_rfl
theorem t_is_table_0_0 (o_value o_row o_one : Option D) (w : Wo) : K_is_table [0] 0 [o_value, o_row, o_one] w = .rt (.bool false) w := by kernel_rfl
theorem e_is_table_0 (ρ : Rho) (w : Wo) : K_is_table [0] 1 ρ w = .nx ρ w := by kernel_rfl
def F_is_table_t_1 (d : D) (ρ : Rho) (w : Wo) : SRes Wo := asgK .no c_is_table.N (defScope HD.s_is_table) (tgAt (blkAt (defBody HD.s_is_table) []) 1) d ρ fun ρ => K_is_table [2] 0 ρ w
theorem g_is_table_t_1 (d : D) (o_value o_row o_one : Option D) (w : Wo) : F_is_table_t_1 d [o_value, o_row, o_one] w = K_is_table [2] 0 [o_value, some d, o_one] w := by kernel_rfl
theorem t_is_table_t_1 (v_value : D) (o_row o_one : Option D) (w : Wo) : K_is_table [] 1 [some v_value, o_row, o_one] w = sq (onE [some v_value, o_row, o_one] (lift (it1 (v_value :: [])) w) fun l8 w => forR F_is_table_t_1 l8 [some v_value, o_row, o_one] w) (K_is_table [] 2) := by kernel_rfl
theorem t_is_table_2_0 (v_value v_row : D) (o_one : Option D) (w : Wo) : K_is_table [2] 0 [some v_value, some v_row, o_one] w = sq (onE [some v_value, some v_row, o_one] ((((lift (isF "list" (List.map (dr w) (v_row :: []))) w).bind asBool).bind fun b9 w => .ok (!b9) w).bind fun b10 w => (cnd b10 (.ok true w) ((((lift (lenF (List.map (dr w) (v_row :: []))) w).bind fun x11 w => (lift (lenF (List.map (dr w) (v_value :: []))) w).bind fun x12 w => (lift (cmpD .NotEq x11 x12) w).bind fun t13 w => .ok (.bool t13) w).bind asBool).bind fun b14 w => (cnd b14 (.ok true w) ((((((lift (it1 (v_row :: [])) w).bind fun l18 w => (calmR (compR (fun d15 w => (d_is_int (d15 :: ((.int 0) :: ((.int 60) :: []))) w).bind fun x16 w => .ok (some x16) w) l18 w)).bind fun l19 w => .ok (.list l19) w).bind fun x20 w => .ok (x20 :: []) w).bind fun l21 w => lift (allF (List.map (dr w) l21)) w).bind asBool).bind fun b22 w => .ok (!b22) w))))) fun b23 w => cnd b23 (K_is_table [2, 0] 0 [some v_value, some v_row, o_one] w) (.nx [some v_value, some v_row, o_one] w)) (K_is_table [2] 1) := by kernel_rfl
theorem t_is_table_2_0_0 (o_value o_row o_one : Option D) (w : Wo) : K_is_table [2, 0] 0 [o_value, o_row, o_one] w = .rt (.bool false) w := by kernel_rfl
theorem e_is_table_2_0 (ρ : Rho) (w : Wo) : K_is_table [2, 0] 1 ρ w = .nx ρ w := by kernel_rfl
theorem e_is_table_2 (ρ : Rho) (w : Wo) : K_is_table [2] 1 ρ w = .nx ρ w := by kernel_rfl
theorem t_is_table_t_2 (v_value : D) (o_row o_one : Option D) (w : Wo) : K_is_table [] 2 [some v_value, o_row, o_one] w = sq (onE [some v_value, o_row, o_one] (((((lift (it1 (v_value :: [])) w).bind fun l27 w => (calmR (compR (fun d24 w => (lift (sumF (List.map (dr w) (d24 :: []))) w).bind fun x25 w => .ok (some x25) w) l27 w)).bind fun l28 w => .ok (.list l28) w).bind fun x29 w => .ok (x29 :: []) w).bind fun l30 w => lift (sumF (List.map (dr w) l30)) w).bind fun x31 w => (lift (cmpD .LtE (.int 1) x31) w).bind fun t32 w => (cnd t32 ((lift (cmpD .LtE x31 (.int 60)) w).bind fun t33 w => .ok (.bool t33) w) (.ok (.bool false) w))) fun x34 w => guardS (flatD 9 x34) (.rt x34 w)) (K_is_table [] 3) := by kernel_rfl
theorem e_is_table_t (ρ : Rho) (w : Wo) : K_is_table [] 3 ρ w = .nx ρ w := by kernel_rfl
/-! ### check_table -/
def K_check_table (p : List Nat) (i : Nat) : Rho → Wo → SRes Wo := exB (exS c_check_table plP 30 (defScope HD.s_check_table) (12 - p.length)) ((blkAt (defBody HD.s_check_table) p).drop i)
theorem m_check_table (v_value : D) (w : Wo) : d_check_table [v_value] w = endR (K_check_table [] 0 [some v_value] w) := by kernel_rfl
theorem t_check_table_t_0 (v_value : D) (w : Wo) : K_check_table [] 0 [some v_value] w = sq (onE [some v_value] (((d_is_table (v_value :: []) w).bind asBool).bind fun b1 w => .ok (!b1) w) fun b2 w => cnd b2 (K_check_table [0] 0 [some v_value] w) (.nx [some v_value] w)) (K_check_table [] 1) := by kernel_rfl
theorem t_check_table_0_0 (o_value : Option D) (w : Wo) : K_check_table [0] 0 [o_value] w = .ex "BadTable" [o_value] w := by kernel_rfl
theorem e_check_table_0 (ρ : Rho) (w : Wo) : K_check_table [0] 1 ρ w = .nx ρ w := by kernel_rfl
theorem e_check_table_t (ρ : Rho) (w : Wo) : K_check_table [] 1 ρ w = .nx ρ w := by kernel_rfl
/-! ### rows_of -/
def K_rows_of (p : List Nat) (i : Nat) : Rho → Wo → SRes Wo := exB (exS c_rows_of plP 30 (defScope HD.s_rows_of) (12 - p.length)) ((blkAt (defBody HD.s_rows_of) p).drop i)
theorem m_rows_of (v_table : D) (w : Wo) : d_rows_of [v_table] w = endR (K_rows_of [] 0 [some v_table, none] w) := by kernel_rfl
theorem t_rows_of_t_0 (v_table : D) (o_row : Option D) (w : Wo) : K_rows_of [] 0 [some v_table, o_row] w = sq (onE [some v_table, o_row] ((lift (it1 (v_table :: [])) w).bind fun l4 w => (calmR (compR (fun d1 w => (lift (sumF (List.map (dr w) (d1 :: []))) w).bind fun x2 w => .ok (some x2) w) l4 w)).bind fun l5 w => .ok (.list l5) w) fun x6 w => guardS (flatD 10 x6) (.rt x6 w)) (K_rows_of [] 1) := by kernel_rfl
theorem e_rows_of_t (ρ : Rho) (w : Wo) : K_rows_of [] 1 ρ w = .nx ρ w := by kernel_rfl
/-! ### cases -/
def K_cases (p : List Nat) (i : Nat) : Rho → Wo → SRes Wo := exB (exS c_cases plP 30 (defScope HD.s_cases) (12 - p.length)) ((blkAt (defBody HD.s_cases) p).drop i)
theorem m_cases (v_table : D) (w : Wo) : d_cases [v_table] w = endR (K_cases [] 0 [some v_table] w) := by kernel_rfl
theorem t_cases_t_0 (v_table : D) (w : Wo) : K_cases [] 0 [some v_table] w = sq (onE [some v_table] (d_check_table (v_table :: []) w) fun x1 w => .nx [some v_table] w) (K_cases [] 1) := by kernel_rfl
theorem t_cases_t_1 (v_table : D) (w : Wo) : K_cases [] 1 [some v_table] w = sq (onE [some v_table] (((d_rows_of (v_table :: []) w).bind fun x2 w => .ok (x2 :: []) w).bind fun l3 w => lift (sumF (List.map (dr w) l3)) w) fun x4 w => guardS (flatD 9 x4) (.rt x4 w)) (K_cases [] 2) := by kernel_rfl
theorem e_cases_t (ρ : Rho) (w : Wo) : K_cases [] 2 ρ w = .nx ρ w := by kernel_rfl
/-! ### exchanged -/
def K_exchanged (p : List Nat) (i : Nat) : Rho → Wo → SRes Wo := exB (exS c_exchanged plP 30 (defScope HD.s_exchanged) (12 - p.length)) ((blkAt (defBody HD.s_exchanged) p).drop i)
theorem m_exchanged (v_table : D) (w : Wo) : d_exchanged [v_table] w = endR (K_exchanged [] 0 [some v_table, none, none] w) := by kernel_rfl
theorem t_exchanged_t_0 (v_table : D) (o_kind o_row : Option D) (w : Wo) : K_exchanged [] 0 [some v_table, o_kind, o_row] w = sq (onE [some v_table, o_kind, o_row] (d_check_table (v_table :: []) w) fun x1 w => .nx [some v_table, o_kind, o_row] w) (K_exchanged [] 1) := by kernel_rfl
theorem t_exchanged_t_1 (v_table : D) (o_kind o_row : Option D) (w : Wo) : K_exchanged [] 1 [some v_table, o_kind, o_row] w = sq (onE [some v_table, o_kind, o_row] (((lift (lenF (List.map (dr w) (v_table :: []))) w).bind fun x9 w => .ok (x9 :: []) w).bind fun l10 w => (lift (rg1 l10) w).bind fun l12 w => (calmR (compR (fun d2 w => ((lift (it1 (v_table :: [])) w).bind fun l6 w => (calmR (compR (fun d3 w => (lift (ixO w d3 d2) w).bind fun x4 w => .ok (some x4) w) l6 w)).bind fun l7 w => .ok (.list l7) w).bind fun x8 w => .ok (some x8) w) l12 w)).bind fun l13 w => .ok (.list l13) w) fun x14 w => guardS (flatD 2 x14) (.rt x14 w)) (K_exchanged [] 2) := by kernel_rfl
theorem e_exchanged_t (ρ : Rho) (w : Wo) : K_exchanged [] 2 ρ w = .nx ρ w := by kernel_rfl
/-! ### agreed_of -/
def K_agreed_of (p : List Nat) (i : Nat) : Rho → Wo → SRes Wo := exB (exS c_agreed_of plP 30 (defScope HD.s_agreed_of) (12 - p.length)) ((blkAt (defBody HD.s_agreed_of) p).drop i)
theorem m_agreed_of (v_table : D) (w : Wo) : d_agreed_of [v_table] w = endR (K_agreed_of [] 0 [some v_table, none] w) := by kernel_rfl
theorem t_agreed_of_t_0 (v_table : D) (o_kind : Option D) (w : Wo) : K_agreed_of [] 0 [some v_table, o_kind] w = sq (onE [some v_table, o_kind] (((((lift (lenF (List.map (dr w) (v_table :: []))) w).bind fun x4 w => .ok (x4 :: []) w).bind fun l5 w => (lift (rg1 l5) w).bind fun l7 w => (calmR (compR (fun d1 w => ((lift (ixO w v_table d1) w).bind fun x2 w => lift (ixO w x2 d1) w).bind fun x3 w => .ok (some x3) w) l7 w)).bind fun l8 w => .ok (.list l8) w).bind fun x9 w => .ok (x9 :: []) w).bind fun l10 w => lift (sumF (List.map (dr w) l10)) w) fun x11 w => guardS (flatD 9 x11) (.rt x11 w)) (K_agreed_of [] 1) := by kernel_rfl
theorem e_agreed_of_t (ρ : Rho) (w : Wo) : K_agreed_of [] 1 ρ w = .nx ρ w := by kernel_rfl
/-! ### agreed -/
def K_agreed (p : List Nat) (i : Nat) : Rho → Wo → SRes Wo := exB (exS c_agreed plP 30 (defScope HD.s_agreed) (12 - p.length)) ((blkAt (defBody HD.s_agreed) p).drop i)
theorem m_agreed (v_table : D) (w : Wo) : d_agreed [v_table] w = endR (K_agreed [] 0 [some v_table] w) := by kernel_rfl
theorem t_agreed_t_0 (v_table : D) (w : Wo) : K_agreed [] 0 [some v_table] w = sq (onE [some v_table] (d_check_table (v_table :: []) w) fun x1 w => .nx [some v_table] w) (K_agreed [] 1) := by kernel_rfl
theorem t_agreed_t_1 (v_table : D) (w : Wo) : K_agreed [] 1 [some v_table] w = sq (onE [some v_table] (d_agreed_of (v_table :: []) w) fun x2 w => guardS (flatD 9 x2) (.rt x2 w)) (K_agreed [] 2) := by kernel_rfl
theorem e_agreed_t (ρ : Rho) (w : Wo) : K_agreed [] 2 ρ w = .nx ρ w := by kernel_rfl
/-! ### check_order -/
def K_check_order (p : List Nat) (i : Nat) : Rho → Wo → SRes Wo := exB (exS c_check_order plP 30 (defScope HD.s_check_order) (12 - p.length)) ((blkAt (defBody HD.s_check_order) p).drop i)
theorem m_check_order (v_table v_value : D) (w : Wo) : d_check_order [v_table, v_value] w = endR (K_check_order [] 0 [some v_table, some v_value, none] w) := by kernel_rfl
theorem t_check_order_t_0 (v_table v_value : D) (o_one : Option D) (w : Wo) : K_check_order [] 0 [some v_table, some v_value, o_one] w = sq (onE [some v_table, some v_value, o_one] ((((lift (isF "tuple" (List.map (dr w) (v_value :: []))) w).bind asBool).bind fun b1 w => .ok (!b1) w).bind fun b2 w => (cnd b2 (.ok true w) ((((((lift (it1 (v_value :: [])) w).bind fun l11 w => (calmR (compR (fun d3 w => ((((((lift (lenF (List.map (dr w) (v_table :: []))) w).bind fun x4 w => lift (binD .Sub x4 (.int 1)) w).bind fun x5 w => .ok (x5 :: []) w).bind fun l6 w => .ok ((.int 0) :: l6) w).bind fun l7 w => .ok (d3 :: l7) w).bind fun l8 w => d_is_int l8 w).bind fun x9 w => .ok (some x9) w) l11 w)).bind fun l12 w => .ok (.list l12) w).bind fun x13 w => .ok (x13 :: []) w).bind fun l14 w => lift (allF (List.map (dr w) l14)) w).bind asBool).bind fun b15 w => .ok (!b15) w))) fun b16 w => cnd b16 (K_check_order [0] 0 [some v_table, some v_value, o_one] w) (.nx [some v_table, some v_value, o_one] w)) (K_check_order [] 1) := by kernel_rfl
theorem t_check_order_0_0 (o_table o_value o_one : Option D) (w : Wo) : K_check_order [0] 0 [o_table, o_value, o_one] w = .ex "BadNumber" [o_table, o_value, o_one] w := by kernel_rfl
theorem e_check_order_0 (ρ : Rho) (w : Wo) : K_check_order [0] 1 ρ w = .nx ρ w := by kernel_rfl
theorem t_check_order_t_1 (v_table v_value : D) (o_one : Option D) (w : Wo) : K_check_order [] 1 [some v_table, some v_value, o_one] w = sq (onE [some v_table, some v_value, o_one] (((lift (sortF (List.map (dr w) (v_value :: []))) w).bind fun x17 w => (((lift (lenF (List.map (dr w) (v_table :: []))) w).bind fun x18 w => .ok (x18 :: []) w).bind fun l19 w => lift (lrF (List.map (dr w) l19)) w).bind fun x20 w => (lift (cmpD .NotEq x17 x20) w).bind fun t21 w => .ok (.bool t21) w).bind asBool) fun b22 w => cnd b22 (K_check_order [2] 0 [some v_table, some v_value, o_one] w) (.nx [some v_table, some v_value, o_one] w)) (K_check_order [] 2) := by kernel_rfl
theorem t_check_order_2_0 (o_table o_value o_one : Option D) (w : Wo) : K_check_order [2] 0 [o_table, o_value, o_one] w = .ex "BadNumber" [o_table, o_value, o_one] w := by kernel_rfl
theorem e_check_order_2 (ρ : Rho) (w : Wo) : K_check_order [2] 1 ρ w = .nx ρ w := by kernel_rfl
theorem e_check_order_t (ρ : Rho) (w : Wo) : K_check_order [] 2 ρ w = .nx ρ w := by kernel_rfl
/-! ### reordered -/
def K_reordered (p : List Nat) (i : Nat) : Rho → Wo → SRes Wo := exB (exS c_reordered plP 30 (defScope HD.s_reordered) (12 - p.length)) ((blkAt (defBody HD.s_reordered) p).drop i)
theorem m_reordered (v_table v_order : D) (w : Wo) : d_reordered [v_table, v_order] w = endR (K_reordered [] 0 [some v_table, some v_order, none, none] w) := by kernel_rfl
theorem t_reordered_t_0 (v_table : D) (o_order o_a o_b : Option D) (w : Wo) : K_reordered [] 0 [some v_table, o_order, o_a, o_b] w = sq (onE [some v_table, o_order, o_a, o_b] (d_check_table (v_table :: []) w) fun x1 w => .nx [some v_table, o_order, o_a, o_b] w) (K_reordered [] 1) := by kernel_rfl
theorem t_reordered_t_1 (v_table v_order : D) (o_a o_b : Option D) (w : Wo) : K_reordered [] 1 [some v_table, some v_order, o_a, o_b] w = sq (onE [some v_table, some v_order, o_a, o_b] (d_check_order (v_table :: (v_order :: [])) w) fun x2 w => .nx [some v_table, some v_order, o_a, o_b] w) (K_reordered [] 2) := by kernel_rfl
theorem t_reordered_t_2 (v_table v_order : D) (o_a o_b : Option D) (w : Wo) : K_reordered [] 2 [some v_table, some v_order, o_a, o_b] w = sq (onE [some v_table, some v_order, o_a, o_b] ((lift (it1 (v_order :: [])) w).bind fun l12 w => (calmR (compR (fun d3 w => ((lift (it1 (v_order :: [])) w).bind fun l8 w => (calmR (compR (fun d4 w => ((lift (ixO w v_table d3) w).bind fun x5 w => lift (ixO w x5 d4) w).bind fun x6 w => .ok (some x6) w) l8 w)).bind fun l9 w => .ok (.list l9) w).bind fun x10 w => .ok (some x10) w) l12 w)).bind fun l13 w => .ok (.list l13) w) fun x14 w => guardS (flatD 2 x14) (.rt x14 w)) (K_reordered [] 3) := by kernel_rfl
theorem e_reordered_t (ρ : Rho) (w : Wo) : K_reordered [] 3 ρ w = .nx ρ w := by kernel_rfl
/-! ### orders_of -/
def K_orders_of (p : List Nat) (i : Nat) : Rho → Wo → SRes Wo := exB (exS c_orders_of plP 30 (defScope HD.s_orders_of) (12 - p.length)) ((blkAt (defBody HD.s_orders_of) p).drop i)
theorem m_orders_of (v_size : D) (w : Wo) : d_orders_of [v_size] w = endR (K_orders_of [] 0 [some v_size, none, none, none, none, none] w) := by kernel_rfl
theorem t_orders_of_t_0 (o_size o_found o_turn o_longer o_one o_kind : Option D) (w : Wo) : K_orders_of [] 0 [o_size, o_found, o_turn, o_longer, o_one, o_kind] w = (K_orders_of [] 1) [o_size, some (.list ((.tuple []) :: [])), o_turn, o_longer, o_one, o_kind] w := by kernel_rfl
def F_orders_of_t_1 (d : D) (ρ : Rho) (w : Wo) : SRes Wo := asgK .no c_orders_of.N (defScope HD.s_orders_of) (tgAt (blkAt (defBody HD.s_orders_of) []) 1) d ρ fun ρ => K_orders_of [2] 0 ρ w
theorem g_orders_of_t_1 (d : D) (o_size o_found o_turn o_longer o_one o_kind : Option D) (w : Wo) : F_orders_of_t_1 d [o_size, o_found, o_turn, o_longer, o_one, o_kind] w = K_orders_of [2] 0 [o_size, o_found, some d, o_longer, o_one, o_kind] w := by kernel_rfl
theorem t_orders_of_t_1 (v_size : D) (o_found o_turn o_longer o_one o_kind : Option D) (w : Wo) : K_orders_of [] 1 [some v_size, o_found, o_turn, o_longer, o_one, o_kind] w = sq (onE [some v_size, o_found, o_turn, o_longer, o_one, o_kind] (lift (rg1 (v_size :: [])) w) fun l1 w => forR F_orders_of_t_1 l1 [some v_size, o_found, o_turn, o_longer, o_one, o_kind] w) (K_orders_of [] 2) := by kernel_rfl
theorem t_orders_of_2_0 (o_size o_found o_turn o_longer o_one o_kind : Option D) (w : Wo) : K_orders_of [2] 0 [o_size, o_found, o_turn, o_longer, o_one, o_kind] w = (K_orders_of [2] 1) [o_size, o_found, o_turn, some (.list []), o_one, o_kind] w := by kernel_rfl
def F_orders_of_2_1 (d : D) (ρ : Rho) (w : Wo) : SRes Wo := asgK .no c_orders_of.N (defScope HD.s_orders_of) (tgAt (blkAt (defBody HD.s_orders_of) [2]) 1) d ρ fun ρ => K_orders_of [2, 2] 0 ρ w
theorem g_orders_of_2_1 (d : D) (o_size o_found o_turn o_longer o_one o_kind : Option D) (w : Wo) : F_orders_of_2_1 d [o_size, o_found, o_turn, o_longer, o_one, o_kind] w = K_orders_of [2, 2] 0 [o_size, o_found, o_turn, o_longer, some d, o_kind] w := by kernel_rfl
theorem t_orders_of_2_1 (v_found : D) (o_size o_turn o_longer o_one o_kind : Option D) (w : Wo) : K_orders_of [2] 1 [o_size, some v_found, o_turn, o_longer, o_one, o_kind] w = sq (onE [o_size, some v_found, o_turn, o_longer, o_one, o_kind] (lift (it1 (v_found :: [])) w) fun l2 w => forR F_orders_of_2_1 l2 [o_size, some v_found, o_turn, o_longer, o_one, o_kind] w) (K_orders_of [2] 2) := by kernel_rfl
theorem t_orders_of_2_2_0 (v_size v_longer v_one : D) (o_found o_turn o_kind : Option D) (w : Wo) : K_orders_of [2, 2] 0 [some v_size, o_found, o_turn, some v_longer, some v_one, o_kind] w = sq (guardS (isListD v_longer) (onE [some v_size, o_found, o_turn, some v_longer, some v_one, o_kind] ((lift (rg1 (v_size :: [])) w).bind fun l8 w => (calmR (compR (fun d3 w => (((lift (cmpD .NotIn d3 v_one) w).bind fun t4 w => .ok (.bool t4) w).bind asBool).bind fun b5 w => (cnd b5 ((lift (binD .Add v_one (.tuple (d3 :: []))) w).bind fun x6 w => .ok (some x6) w) (.ok none w))) l8 w)).bind fun l9 w => .ok (.list l9) w) fun x10 w => onE [some v_size, o_found, o_turn, some v_longer, some v_one, o_kind] (lift (extD v_longer x10) w) fun l11 w => .nx [some v_size, o_found, o_turn, some l11, some v_one, o_kind] w)) (K_orders_of [2, 2] 1) := by kernel_rfl
theorem e_orders_of_2_2 (ρ : Rho) (w : Wo) : K_orders_of [2, 2] 1 ρ w = .nx ρ w := by kernel_rfl
theorem t_orders_of_2_2 (v_longer : D) (o_size o_found o_turn o_one o_kind : Option D) (w : Wo) : K_orders_of [2] 2 [o_size, o_found, o_turn, some v_longer, o_one, o_kind] w = sq (guardS (isListD v_longer) (.nx [o_size, some v_longer, o_turn, none, o_one, o_kind] w)) (K_orders_of [2] 3) := by kernel_rfl
theorem e_orders_of_2 (ρ : Rho) (w : Wo) : K_orders_of [2] 3 ρ w = .nx ρ w := by kernel_rfl
theorem t_orders_of_t_2 (v_found : D) (o_size o_turn o_longer o_one o_kind : Option D) (w : Wo) : K_orders_of [] 2 [o_size, some v_found, o_turn, o_longer, o_one, o_kind] w = sq (guardS (flatD 1 v_found) (.rt v_found w)) (K_orders_of [] 3) := by kernel_rfl
theorem e_orders_of_t (ρ : Rho) (w : Wo) : K_orders_of [] 3 ρ w = .nx ρ w := by kernel_rfl
/-! ### renamed -/
def K_renamed (p : List Nat) (i : Nat) : Rho → Wo → SRes Wo := exB (exS c_renamed plP 30 (defScope HD.s_renamed) (12 - p.length)) ((blkAt (defBody HD.s_renamed) p).drop i)
theorem m_renamed (v_table v_order : D) (w : Wo) : d_renamed [v_table, v_order] w = endR (K_renamed [] 0 [some v_table, some v_order, none, none] w) := by kernel_rfl
theorem t_renamed_t_0 (v_table : D) (o_order o_row o_kind : Option D) (w : Wo) : K_renamed [] 0 [some v_table, o_order, o_row, o_kind] w = sq (onE [some v_table, o_order, o_row, o_kind] (d_check_table (v_table :: []) w) fun x1 w => .nx [some v_table, o_order, o_row, o_kind] w) (K_renamed [] 1) := by kernel_rfl
theorem t_renamed_t_1 (v_table v_order : D) (o_row o_kind : Option D) (w : Wo) : K_renamed [] 1 [some v_table, some v_order, o_row, o_kind] w = sq (onE [some v_table, some v_order, o_row, o_kind] (d_check_order (v_table :: (v_order :: [])) w) fun x2 w => .nx [some v_table, some v_order, o_row, o_kind] w) (K_renamed [] 2) := by kernel_rfl
theorem t_renamed_t_2 (v_table v_order : D) (o_row o_kind : Option D) (w : Wo) : K_renamed [] 2 [some v_table, some v_order, o_row, o_kind] w = sq (onE [some v_table, some v_order, o_row, o_kind] ((lift (it1 (v_table :: [])) w).bind fun l11 w => (calmR (compR (fun d3 w => ((lift (it1 (v_order :: [])) w).bind fun l7 w => (calmR (compR (fun d4 w => (lift (ixO w d3 d4) w).bind fun x5 w => .ok (some x5) w) l7 w)).bind fun l8 w => .ok (.list l8) w).bind fun x9 w => .ok (some x9) w) l11 w)).bind fun l12 w => .ok (.list l12) w) fun x13 w => guardS (flatD 2 x13) (.rt x13 w)) (K_renamed [] 3) := by kernel_rfl
theorem e_renamed_t (ρ : Rho) (w : Wo) : K_renamed [] 3 ρ w = .nx ρ w := by kernel_rfl
/-! ### count_of -/
def K_count_of (p : List Nat) (i : Nat) : Rho → Wo → SRes Wo := exB (exS c_count_of plP 30 (defScope HD.s_count_of) (12 - p.length)) ((blkAt (defBody HD.s_count_of) p).drop i)
theorem m_count_of (v_table v_order : D) (w : Wo) : d_count_of [v_table, v_order] w = endR (K_count_of [] 0 [some v_table, some v_order, none] w) := by kernel_rfl
theorem t_count_of_t_0 (v_table v_order : D) (o_kind : Option D) (w : Wo) : K_count_of [] 0 [some v_table, some v_order, o_kind] w = sq (onE [some v_table, some v_order, o_kind] (((((lift (lenF (List.map (dr w) (v_table :: []))) w).bind fun x5 w => .ok (x5 :: []) w).bind fun l6 w => (lift (rg1 l6) w).bind fun l8 w => (calmR (compR (fun d1 w => ((lift (ixO w v_table d1) w).bind fun x2 w => (lift (ixO w v_order d1) w).bind fun x3 w => lift (ixO w x2 x3) w).bind fun x4 w => .ok (some x4) w) l8 w)).bind fun l9 w => .ok (.list l9) w).bind fun x10 w => .ok (x10 :: []) w).bind fun l11 w => lift (sumF (List.map (dr w) l11)) w) fun x12 w => guardS (flatD 9 x12) (.rt x12 w)) (K_count_of [] 1) := by kernel_rfl
theorem e_count_of_t (ρ : Rho) (w : Wo) : K_count_of [] 1 ρ w = .nx ρ w := by kernel_rfl
/-! ### best_renaming -/
def K_best_renaming (p : List Nat) (i : Nat) : Rho → Wo → SRes Wo := exB (exS c_best_renaming plP 30 (defScope HD.s_best_renaming) (12 - p.length)) ((blkAt (defBody HD.s_best_renaming) p).drop i)
theorem m_best_renaming (v_table : D) (w : Wo) : d_best_renaming [v_table] w = endR (K_best_renaming [] 0 [some v_table, none, none] w) := by kernel_rfl
theorem t_best_renaming_t_0 (v_table : D) (o_best o_order : Option D) (w : Wo) : K_best_renaming [] 0 [some v_table, o_best, o_order] w = sq (onE [some v_table, o_best, o_order] (d_check_table (v_table :: []) w) fun x1 w => .nx [some v_table, o_best, o_order] w) (K_best_renaming [] 1) := by kernel_rfl
theorem t_best_renaming_t_1 (o_table o_best o_order : Option D) (w : Wo) : K_best_renaming [] 1 [o_table, o_best, o_order] w = (K_best_renaming [] 2) [o_table, some .none, o_order] w := by kernel_rfl
def F_best_renaming_t_2 (d : D) (ρ : Rho) (w : Wo) : SRes Wo := asgK .no c_best_renaming.N (defScope HD.s_best_renaming) (tgAt (blkAt (defBody HD.s_best_renaming) []) 2) d ρ fun ρ => K_best_renaming [4] 0 ρ w
theorem g_best_renaming_t_2 (d : D) (o_table o_best o_order : Option D) (w : Wo) : F_best_renaming_t_2 d [o_table, o_best, o_order] w = K_best_renaming [4] 0 [o_table, o_best, some d] w := by kernel_rfl
theorem t_best_renaming_t_2 (v_table : D) (o_best o_order : Option D) (w : Wo) : K_best_renaming [] 2 [some v_table, o_best, o_order] w = sq (onE [some v_table, o_best, o_order] ((((lift (lenF (List.map (dr w) (v_table :: []))) w).bind fun x2 w => .ok (x2 :: []) w).bind fun l3 w => d_orders_of l3 w).bind fun x4 w => .ok (x4 :: []) w) fun l5 w => onE [some v_table, o_best, o_order] (lift (it1 l5) w) fun l6 w => forR F_best_renaming_t_2 l6 [some v_table, o_best, o_order] w) (K_best_renaming [] 3) := by kernel_rfl
theorem t_best_renaming_4_0 (v_table v_best v_order : D) (w : Wo) : K_best_renaming [4] 0 [some v_table, some v_best, some v_order] w = sq (onE [some v_table, some v_best, some v_order] ((((lift (cmpD .Is v_best .none) w).bind fun t7 w => .ok (.bool t7) w).bind asBool).bind fun b8 w => (cnd b8 (.ok true w) (((d_count_of (v_table :: (v_order :: [])) w).bind fun x9 w => (d_count_of (v_table :: (v_best :: [])) w).bind fun x10 w => (lift (cmpD .Gt x9 x10) w).bind fun t11 w => .ok (.bool t11) w).bind asBool))) fun b12 w => cnd b12 (K_best_renaming [4, 0] 0 [some v_table, some v_best, some v_order] w) (.nx [some v_table, some v_best, some v_order] w)) (K_best_renaming [4] 1) := by kernel_rfl
theorem t_best_renaming_4_0_0 (v_order : D) (o_table o_best : Option D) (w : Wo) : K_best_renaming [4, 0] 0 [o_table, o_best, some v_order] w = (K_best_renaming [4, 0] 1) [o_table, some v_order, some v_order] w := by kernel_rfl
theorem e_best_renaming_4_0 (ρ : Rho) (w : Wo) : K_best_renaming [4, 0] 1 ρ w = .nx ρ w := by kernel_rfl
theorem e_best_renaming_4 (ρ : Rho) (w : Wo) : K_best_renaming [4] 1 ρ w = .nx ρ w := by kernel_rfl
theorem t_best_renaming_t_3 (v_best : D) (o_table o_order : Option D) (w : Wo) : K_best_renaming [] 3 [o_table, some v_best, o_order] w = sq (guardS (flatD 0 v_best) (.rt v_best w)) (K_best_renaming [] 4) := by kernel_rfl
theorem e_best_renaming_t (ρ : Rho) (w : Wo) : K_best_renaming [] 4 ρ w = .nx ρ w := by kernel_rfl
/-! ### renaming_counts -/
def K_renaming_counts (p : List Nat) (i : Nat) : Rho → Wo → SRes Wo := exB (exS c_renaming_counts plP 30 (defScope HD.s_renaming_counts) (12 - p.length)) ((blkAt (defBody HD.s_renaming_counts) p).drop i)
theorem m_renaming_counts (v_table : D) (w : Wo) : d_renaming_counts [v_table] w = endR (K_renaming_counts [] 0 [some v_table, none, none, none] w) := by kernel_rfl
theorem t_renaming_counts_t_0 (v_table : D) (o_found o_order o_one : Option D) (w : Wo) : K_renaming_counts [] 0 [some v_table, o_found, o_order, o_one] w = sq (onE [some v_table, o_found, o_order, o_one] (d_check_table (v_table :: []) w) fun x1 w => .nx [some v_table, o_found, o_order, o_one] w) (K_renaming_counts [] 1) := by kernel_rfl
theorem t_renaming_counts_t_1 (v_table : D) (o_found o_order o_one : Option D) (w : Wo) : K_renaming_counts [] 1 [some v_table, o_found, o_order, o_one] w = sq (onE [some v_table, o_found, o_order, o_one] (((((lift (lenF (List.map (dr w) (v_table :: []))) w).bind fun x4 w => .ok (x4 :: []) w).bind fun l5 w => d_orders_of l5 w).bind fun x6 w => .ok (x6 :: []) w).bind fun l7 w => (lift (it1 l7) w).bind fun l9 w => (calmR (compR (fun d2 w => (d_count_of (v_table :: (d2 :: [])) w).bind fun x3 w => .ok (some x3) w) l9 w)).bind fun l10 w => .ok (.list l10) w) fun x11 w => .nx [some v_table, some x11, o_order, o_one] w) (K_renaming_counts [] 2) := by kernel_rfl
theorem t_renaming_counts_t_2 (v_found : D) (o_table o_order o_one : Option D) (w : Wo) : K_renaming_counts [] 2 [o_table, some v_found, o_order, o_one] w = sq (onE [o_table, some v_found, o_order, o_one] (((lift (ssF (List.map (dr w) (v_found :: []))) w).bind fun x17 w => .ok (x17 :: []) w).bind fun l18 w => (lift (it1 l18) w).bind fun l20 w => (calmR (compR (fun d12 w => ((((guardR (mtGo "count" (dr w v_found)) (lift (mtD "count" (dr w v_found) d12) w)).bind fun x13 w => .ok (x13 :: []) w).bind fun l14 w => .ok (d12 :: l14) w).bind fun l15 w => .ok (.tuple l15) w).bind fun x16 w => .ok (some x16) w) l20 w)).bind fun l21 w => .ok (.list l21) w) fun x22 w => guardS (flatD 2 x22) (.rt x22 w)) (K_renaming_counts [] 3) := by kernel_rfl
theorem e_renaming_counts_t (ρ : Rho) (w : Wo) : K_renaming_counts [] 3 ρ w = .nx ρ w := by kernel_rfl
/-! ### is_best_named -/
def K_is_best_named (p : List Nat) (i : Nat) : Rho → Wo → SRes Wo := exB (exS c_is_best_named plP 30 (defScope HD.s_is_best_named) (12 - p.length)) ((blkAt (defBody HD.s_is_best_named) p).drop i)
theorem m_is_best_named (v_table : D) (w : Wo) : d_is_best_named [v_table] w = endR (K_is_best_named [] 0 [some v_table, none] w) := by kernel_rfl
theorem t_is_best_named_t_0 (v_table : D) (o_order : Option D) (w : Wo) : K_is_best_named [] 0 [some v_table, o_order] w = sq (onE [some v_table, o_order] (d_check_table (v_table :: []) w) fun x1 w => .nx [some v_table, o_order] w) (K_is_best_named [] 1) := by kernel_rfl
theorem t_is_best_named_t_1 (v_table : D) (o_order : Option D) (w : Wo) : K_is_best_named [] 1 [some v_table, o_order] w = sq (onE [some v_table, o_order] ((d_agreed_of (v_table :: []) w).bind fun x2 w => (((((((lift (lenF (List.map (dr w) (v_table :: []))) w).bind fun x5 w => .ok (x5 :: []) w).bind fun l6 w => d_orders_of l6 w).bind fun x7 w => .ok (x7 :: []) w).bind fun l8 w => (lift (it1 l8) w).bind fun l10 w => (calmR (compR (fun d3 w => (d_count_of (v_table :: (d3 :: [])) w).bind fun x4 w => .ok (some x4) w) l10 w)).bind fun l11 w => .ok (.list l11) w).bind fun x12 w => .ok (x12 :: []) w).bind fun l13 w => lift (maxF (List.map (dr w) l13)) w).bind fun x14 w => (lift (cmpD .Eq x2 x14) w).bind fun t15 w => .ok (.bool t15) w) fun x16 w => guardS (flatD 9 x16) (.rt x16 w)) (K_is_best_named [] 2) := by kernel_rfl
theorem e_is_best_named_t (ρ : Rho) (w : Wo) : K_is_best_named [] 2 ρ w = .nx ρ w := by kernel_rfl
/-! ### _law_draw -/
def K_law_draw (p : List Nat) (i : Nat) : Rho → Wo → SRes Wo := exB (exS c_law_draw plP 30 (defScope HD.s_law_draw) (12 - p.length)) ((blkAt (defBody HD.s_law_draw) p).drop i)
theorem m_law_draw (v_draws v_limit : D) (w : Wo) : d_law_draw [v_draws, v_limit] w = endR (K_law_draw [] 0 [some v_draws, some v_limit, none, none, none, none] w) := by kernel_rfl
theorem t_law_draw_t_0 (v_draws : D) (o_limit o_numbers o_at o_cell o_mixed : Option D) (w : Wo) : K_law_draw [] 0 [some v_draws, o_limit, o_numbers, o_at, o_cell, o_mixed] w = sq (onE [some v_draws, o_limit, o_numbers, o_at, o_cell, o_mixed] (lift (ixO w v_draws (.int 0)) w) fun x1 w => .nx [some v_draws, o_limit, some x1, o_at, o_cell, o_mixed] w) (K_law_draw [] 1) := by kernel_rfl
theorem t_law_draw_t_1 (v_draws : D) (o_limit o_numbers o_at o_cell o_mixed : Option D) (w : Wo) : K_law_draw [] 1 [some v_draws, o_limit, o_numbers, o_at, o_cell, o_mixed] w = sq (onE [some v_draws, o_limit, o_numbers, o_at, o_cell, o_mixed] ((lift (ixO w v_draws (.int 1)) w).bind fun x2 w => lift (binD .Add x2 (.int 1)) w) fun x3 w => guardS (flatD 0 x3) (hset w v_draws (.int 1) x3 fun w => .nx [some v_draws, o_limit, o_numbers, o_at, o_cell, o_mixed] w)) (K_law_draw [] 2) := by kernel_rfl
theorem t_law_draw_t_2 (v_draws v_numbers : D) (o_limit o_at o_cell o_mixed : Option D) (w : Wo) : K_law_draw [] 2 [some v_draws, o_limit, some v_numbers, o_at, o_cell, o_mixed] w = sq (onE [some v_draws, o_limit, some v_numbers, o_at, o_cell, o_mixed] ((lift (ixO w v_draws (.int 1)) w).bind fun x4 w => (lift (lenF (List.map (dr w) (v_numbers :: []))) w).bind fun x5 w => lift (binD .Mod x4 x5) w) fun x6 w => .nx [some v_draws, o_limit, some v_numbers, some x6, o_cell, o_mixed] w) (K_law_draw [] 3) := by kernel_rfl
theorem t_law_draw_t_3 (v_numbers v_at : D) (o_draws o_limit o_cell o_mixed : Option D) (w : Wo) : K_law_draw [] 3 [o_draws, o_limit, some v_numbers, some v_at, o_cell, o_mixed] w = sq (onE [o_draws, o_limit, some v_numbers, some v_at, o_cell, o_mixed] (lift (ixO w v_numbers v_at) w) fun x7 w => .nx [o_draws, o_limit, some v_numbers, some v_at, some x7, o_mixed] w) (K_law_draw [] 4) := by kernel_rfl
theorem t_law_draw_t_4 (v_cell : D) (o_draws o_limit o_numbers o_at o_mixed : Option D) (w : Wo) : K_law_draw [] 4 [o_draws, o_limit, o_numbers, o_at, some v_cell, o_mixed] w = sq (onE [o_draws, o_limit, o_numbers, o_at, some v_cell, o_mixed] (((lift (cmpD .GtE v_cell (.int 1000000000000000000)) w).bind fun t8 w => .ok (.bool t8) w).bind asBool) fun b9 w => cnd b9 (K_law_draw [8] 0 [o_draws, o_limit, o_numbers, o_at, some v_cell, o_mixed] w) (.nx [o_draws, o_limit, o_numbers, o_at, some v_cell, o_mixed] w)) (K_law_draw [] 5) := by kernel_rfl
theorem t_law_draw_8_0 (v_limit v_numbers v_at v_cell : D) (o_draws o_mixed : Option D) (w : Wo) : K_law_draw [8] 0 [o_draws, some v_limit, some v_numbers, some v_at, some v_cell, o_mixed] w = sq (onE [o_draws, some v_limit, some v_numbers, some v_at, some v_cell, o_mixed] (lift (binD .FloorDiv v_cell v_limit) w) fun x10 w => guardS (flatD 0 x10) (hset w v_numbers v_at x10 fun w => .nx [o_draws, some v_limit, some v_numbers, some v_at, some v_cell, o_mixed] w)) (K_law_draw [8] 1) := by kernel_rfl
theorem t_law_draw_8_1 (v_limit v_cell : D) (o_draws o_numbers o_at o_mixed : Option D) (w : Wo) : K_law_draw [8] 1 [o_draws, some v_limit, o_numbers, o_at, some v_cell, o_mixed] w = sq (onE [o_draws, some v_limit, o_numbers, o_at, some v_cell, o_mixed] (lift (binD .Mod v_cell v_limit) w) fun x11 w => guardS (flatD 1 x11) (.rt x11 w)) (K_law_draw [8] 2) := by kernel_rfl
theorem e_law_draw_8 (ρ : Rho) (w : Wo) : K_law_draw [8] 2 ρ w = .nx ρ w := by kernel_rfl
theorem t_law_draw_t_5 (v_draws v_cell : D) (o_limit o_numbers o_at o_mixed : Option D) (w : Wo) : K_law_draw [] 5 [some v_draws, o_limit, o_numbers, o_at, some v_cell, o_mixed] w = sq (onE [some v_draws, o_limit, o_numbers, o_at, some v_cell, o_mixed] ((((lift (ixO w v_draws (.int 1)) w).bind fun x12 w => lift (binD .Mult (.int 104729) x12) w).bind fun x13 w => lift (binD .Add v_cell x13) w).bind fun x14 w => lift (binD .Mod x14 (.int 4294967291)) w) fun x15 w => .nx [some v_draws, o_limit, o_numbers, o_at, some v_cell, some x15] w) (K_law_draw [] 6) := by kernel_rfl
theorem t_law_draw_t_6 (v_mixed : D) (o_draws o_limit o_numbers o_at o_cell : Option D) (w : Wo) : K_law_draw [] 6 [o_draws, o_limit, o_numbers, o_at, o_cell, some v_mixed] w = sq (onE [o_draws, o_limit, o_numbers, o_at, o_cell, some v_mixed] ((lift (binD .Pow v_mixed (.int 5)) w).bind fun x16 w => lift (binD .Mod x16 (.int 4294967279)) w) fun x17 w => .nx [o_draws, o_limit, o_numbers, o_at, o_cell, some x17] w) (K_law_draw [] 7) := by kernel_rfl
theorem t_law_draw_t_7 (v_limit v_mixed : D) (o_draws o_numbers o_at o_cell : Option D) (w : Wo) : K_law_draw [] 7 [o_draws, some v_limit, o_numbers, o_at, o_cell, some v_mixed] w = sq (onE [o_draws, some v_limit, o_numbers, o_at, o_cell, some v_mixed] ((((((lift (binD .FloorDiv v_mixed (.int 64)) w).bind fun x18 w => lift (binD .Mult x18 (.int 69621)) w).bind fun x19 w => lift (binD .Add x19 v_mixed) w).bind fun x20 w => lift (binD .Mod x20 (.int 4294967231)) w).bind fun x21 w => lift (binD .FloorDiv x21 (.int 8)) w).bind fun x22 w => lift (binD .Mod x22 v_limit) w) fun x23 w => guardS (flatD 1 x23) (.rt x23 w)) (K_law_draw [] 8) := by kernel_rfl
theorem e_law_draw_t (ρ : Rho) (w : Wo) : K_law_draw [] 8 ρ w = .nx ρ w := by kernel_rfl
/-! ### _law_pick -/
def K_law_pick (p : List Nat) (i : Nat) : Rho → Wo → SRes Wo := exB (exS c_law_pick plP 30 (defScope HD.s_law_pick) (12 - p.length)) ((blkAt (defBody HD.s_law_pick) p).drop i)
theorem m_law_pick (v_draws v_choices : D) (w : Wo) : d_law_pick [v_draws, v_choices] w = endR (K_law_pick [] 0 [some v_draws, some v_choices] w) := by kernel_rfl
theorem t_law_pick_t_0 (v_draws v_choices : D) (w : Wo) : K_law_pick [] 0 [some v_draws, some v_choices] w = sq (onE [some v_draws, some v_choices] (((((lift (lenF (List.map (dr w) (v_choices :: []))) w).bind fun x1 w => .ok (x1 :: []) w).bind fun l2 w => .ok (v_draws :: l2) w).bind fun l3 w => d_law_draw l3 w).bind fun x4 w => lift (ixO w v_choices x4) w) fun x5 w => guardS (flatD 0 x5) (.rt x5 w)) (K_law_pick [] 1) := by kernel_rfl
theorem e_law_pick_t (ρ : Rho) (w : Wo) : K_law_pick [] 1 ρ w = .nx ρ w := by kernel_rfl
/-! ### _law_lines -/
def K_law_lines (p : List Nat) (i : Nat) : Rho → Wo → SRes Wo := exB (exS c_law_lines plP 30 (defScope HD.s_law_lines) (12 - p.length)) ((blkAt (defBody HD.s_law_lines) p).drop i)
theorem m_law_lines (v_draws v_size v_most : D) (w : Wo) : d_law_lines [v_draws, v_size, v_most] w = endR (K_law_lines [] 0 [some v_draws, some v_size, some v_most, none, none, none, none] w) := by kernel_rfl
theorem t_law_lines_t_0 (o_draws o_size o_most o_like o_k o_one o_other : Option D) (w : Wo) : K_law_lines [] 0 [o_draws, o_size, o_most, o_like, o_k, o_one, o_other] w = (K_law_lines [] 1) [o_draws, o_size, o_most, o_like, o_k, some (.list []), some (.list [])] w := by kernel_rfl
theorem t_law_lines_t_1 (v_draws : D) (o_size o_most o_like o_k o_one o_other : Option D) (w : Wo) : K_law_lines [] 1 [some v_draws, o_size, o_most, o_like, o_k, o_one, o_other] w = sq (onE [some v_draws, o_size, o_most, o_like, o_k, o_one, o_other] (d_law_draw (v_draws :: ((.int 4) :: [])) w) fun x1 w => .nx [some v_draws, o_size, o_most, some x1, o_k, o_one, o_other] w) (K_law_lines [] 2) := by kernel_rfl
def F_law_lines_t_2 (d : D) (ρ : Rho) (w : Wo) : SRes Wo := asgK .no c_law_lines.N (defScope HD.s_law_lines) (tgAt (blkAt (defBody HD.s_law_lines) []) 2) d ρ fun ρ => K_law_lines [4] 0 ρ w
theorem g_law_lines_t_2 (d : D) (o_draws o_size o_most o_like o_k o_one o_other : Option D) (w : Wo) : F_law_lines_t_2 d [o_draws, o_size, o_most, o_like, o_k, o_one, o_other] w = K_law_lines [4] 0 [o_draws, o_size, o_most, o_like, some d, o_one, o_other] w := by kernel_rfl
theorem t_law_lines_t_2 (v_draws v_most : D) (o_size o_like o_k o_one o_other : Option D) (w : Wo) : K_law_lines [] 2 [some v_draws, o_size, some v_most, o_like, o_k, o_one, o_other] w = sq (onE [some v_draws, o_size, some v_most, o_like, o_k, o_one, o_other] (((d_law_draw (v_draws :: (v_most :: [])) w).bind fun x2 w => lift (binD .Add (.int 1) x2) w).bind fun x3 w => .ok (x3 :: []) w) fun l4 w => onE [some v_draws, o_size, some v_most, o_like, o_k, o_one, o_other] (lift (rg1 l4) w) fun l5 w => forR F_law_lines_t_2 l5 [some v_draws, o_size, some v_most, o_like, o_k, o_one, o_other] w) (K_law_lines [] 3) := by kernel_rfl
theorem t_law_lines_4_0 (v_draws v_size v_one : D) (o_most o_like o_k o_other : Option D) (w : Wo) : K_law_lines [4] 0 [some v_draws, some v_size, o_most, o_like, o_k, some v_one, o_other] w = sq (guardS (isListD v_one) (onE [some v_draws, some v_size, o_most, o_like, o_k, some v_one, o_other] (d_law_draw (v_draws :: (v_size :: [])) w) fun x6 w => onE [some v_draws, some v_size, o_most, o_like, o_k, some v_one, o_other] (lift (appD v_one x6) w) fun l7 w => .nx [some v_draws, some v_size, o_most, o_like, o_k, some l7, o_other] w)) (K_law_lines [4] 1) := by kernel_rfl
theorem t_law_lines_4_1 (v_draws v_size v_like v_one v_other : D) (o_most o_k : Option D) (w : Wo) : K_law_lines [4] 1 [some v_draws, some v_size, o_most, some v_like, o_k, some v_one, some v_other] w = sq (guardS (isListD v_other) (onE [some v_draws, some v_size, o_most, some v_like, o_k, some v_one, some v_other] ((((d_law_draw (v_draws :: ((.int 4) :: [])) w).bind fun x8 w => (lift (cmpD .Lt x8 v_like) w).bind fun t9 w => .ok (.bool t9) w).bind asBool).bind fun b10 w => (cnd b10 ((lift ((asInt (.int 1)).map fun i => .int (-i)) w).bind fun x11 w => lift (ixO w v_one x11) w) (d_law_draw (v_draws :: (v_size :: [])) w))) fun x12 w => onE [some v_draws, some v_size, o_most, some v_like, o_k, some v_one, some v_other] (lift (appD v_other x12) w) fun l13 w => .nx [some v_draws, some v_size, o_most, some v_like, o_k, some v_one, some l13] w)) (K_law_lines [4] 2) := by kernel_rfl
theorem e_law_lines_4 (ρ : Rho) (w : Wo) : K_law_lines [4] 2 ρ w = .nx ρ w := by kernel_rfl
theorem t_law_lines_t_3 (v_one v_other : D) (o_draws o_size o_most o_like o_k : Option D) (w : Wo) : K_law_lines [] 3 [o_draws, o_size, o_most, o_like, o_k, some v_one, some v_other] w = sq (guardS (flatD 2 (.tuple (v_one :: (v_other :: [])))) (.rt (.tuple (v_one :: (v_other :: []))) w)) (K_law_lines [] 4) := by kernel_rfl
theorem e_law_lines_t (ρ : Rho) (w : Wo) : K_law_lines [] 4 ρ w = .nx ρ w := by kernel_rfl
/-! ### _law_count -/
def K_law_count (p : List Nat) (i : Nat) : Rho → Wo → SRes Wo := exB (exS c_law_count plP 30 (defScope HD.s_law_count) (12 - p.length)) ((blkAt (defBody HD.s_law_count) p).drop i)
theorem m_law_count (v_one v_other v_size : D) (w : Wo) : d_law_count [v_one, v_other, v_size] w = endR (K_law_count [] 0 [some v_one, some v_other, some v_size, none, none, none] w) := by kernel_rfl
theorem t_law_count_t_0 (v_one v_other : D) (o_size o_pairs o_a o_b : Option D) (w : Wo) : K_law_count [] 0 [some v_one, some v_other, o_size, o_pairs, o_a, o_b] w = sq (onE [some v_one, some v_other, o_size, o_pairs, o_a, o_b] (lift (lzF (List.map (dr w) (v_one :: (v_other :: [])))) w) fun x1 w => .nx [some v_one, some v_other, o_size, some x1, o_a, o_b] w) (K_law_count [] 1) := by kernel_rfl
theorem t_law_count_t_1 (v_size v_pairs : D) (o_one o_other o_a o_b : Option D) (w : Wo) : K_law_count [] 1 [o_one, o_other, some v_size, some v_pairs, o_a, o_b] w = sq (onE [o_one, o_other, some v_size, some v_pairs, o_a, o_b] ((lift (rg1 (v_size :: [])) w).bind fun l10 w => (calmR (compR (fun d2 w => ((lift (rg1 (v_size :: [])) w).bind fun l6 w => (calmR (compR (fun d3 w => (guardR (mtGo "count" (dr w v_pairs)) (lift (mtD "count" (dr w v_pairs) (.tuple (d2 :: (d3 :: [])))) w)).bind fun x4 w => .ok (some x4) w) l6 w)).bind fun l7 w => .ok (.list l7) w).bind fun x8 w => .ok (some x8) w) l10 w)).bind fun l11 w => .ok (.list l11) w) fun x12 w => guardS (flatD 11 x12) (.rt x12 w)) (K_law_count [] 2) := by kernel_rfl
theorem e_law_count_t (ρ : Rho) (w : Wo) : K_law_count [] 2 ρ w = .nx ρ w := by kernel_rfl
/-! ### _law_table -/
def K_law_table (p : List Nat) (i : Nat) : Rho → Wo → SRes Wo := exB (exS c_law_table plP 30 (defScope HD.s_law_table) (12 - p.length)) ((blkAt (defBody HD.s_law_table) p).drop i)
theorem m_law_table (v_draws v_most : D) (w : Wo) : d_law_table [v_draws, v_most] w = endR (K_law_table [] 0 [some v_draws, some v_most, none, none, none] w) := by kernel_rfl
theorem t_law_table_t_0 (v_draws v_most : D) (o_size o_one o_other : Option D) (w : Wo) : K_law_table [] 0 [some v_draws, some v_most, o_size, o_one, o_other] w = sq (onE [some v_draws, some v_most, o_size, o_one, o_other] (((((lift (binD .Sub v_most (.int 1)) w).bind fun x1 w => .ok (x1 :: []) w).bind fun l2 w => .ok (v_draws :: l2) w).bind fun l3 w => d_law_draw l3 w).bind fun x4 w => lift (binD .Add (.int 2) x4) w) fun x5 w => .nx [some v_draws, some v_most, some x5, o_one, o_other] w) (K_law_table [] 1) := by kernel_rfl
theorem t_law_table_t_1 (v_draws v_size : D) (o_most o_one o_other : Option D) (w : Wo) : K_law_table [] 1 [some v_draws, o_most, some v_size, o_one, o_other] w = sq (onE [some v_draws, o_most, some v_size, o_one, o_other] (((((d_law_pick (v_draws :: ((.list ((.int 4) :: ((.int 12) :: ((.int 40) :: [])))) :: [])) w).bind fun x6 w => .ok (x6 :: []) w).bind fun l7 w => .ok (v_size :: l7) w).bind fun l8 w => .ok (v_draws :: l8) w).bind fun l9 w => d_law_lines l9 w) fun x10 w => tup2 .no x10 fun one11 other12 => .nx [some v_draws, o_most, some v_size, some one11, some other12] w) (K_law_table [] 2) := by kernel_rfl
theorem t_law_table_t_2 (v_size v_one v_other : D) (o_draws o_most : Option D) (w : Wo) : K_law_table [] 2 [o_draws, o_most, some v_size, some v_one, some v_other] w = sq (onE [o_draws, o_most, some v_size, some v_one, some v_other] (d_law_count (v_one :: (v_other :: (v_size :: []))) w) fun x13 w => guardS (flatD 9 x13) (.rt x13 w)) (K_law_table [] 3) := by kernel_rfl
theorem e_law_table_t (ρ : Rho) (w : Wo) : K_law_table [] 3 ρ w = .nx ρ w := by kernel_rfl
/-! ### _law_same -/
def K_law_same (p : List Nat) (i : Nat) : Rho → Wo → SRes Wo := exB (exS c_law_same plP 30 (defScope HD.s_law_same) (12 - p.length)) ((blkAt (defBody HD.s_law_same) p).drop i)
theorem m_law_same (v_table v_size v_one v_other v_top : D) (w : Wo) : d_law_same [v_table, v_size, v_one, v_other, v_top] w = endR (K_law_same [] 0 [some v_table, some v_size, some v_one, some v_other, some v_top, none, none, none, none, none] w) := by kernel_rfl
theorem t_law_same_t_0 (v_table v_one : D) (o_size o_other o_top o_moved o_alike o_b o_a o_k : Option D) (w : Wo) : K_law_same [] 0 [some v_table, o_size, some v_one, o_other, o_top, o_moved, o_alike, o_b, o_a, o_k] w = sq (onE [some v_table, o_size, some v_one, o_other, o_top, o_moved, o_alike, o_b, o_a, o_k] (d_renamed (v_table :: (v_one :: [])) w) fun x1 w => .nx [some v_table, o_size, some v_one, o_other, o_top, some x1, o_alike, o_b, o_a, o_k] w) (K_law_same [] 1) := by kernel_rfl
theorem t_law_same_t_1 (v_table v_top v_moved : D) (o_size o_one o_other o_alike o_b o_a o_k : Option D) (w : Wo) : K_law_same [] 1 [some v_table, o_size, o_one, o_other, some v_top, some v_moved, o_alike, o_b, o_a, o_k] w = sq (onE [some v_table, o_size, o_one, o_other, some v_top, some v_moved, o_alike, o_b, o_a, o_k] ((((d_renaming_counts (v_moved :: []) w).bind fun x2 w => (d_renaming_counts (v_table :: []) w).bind fun x3 w => (lift (cmpD .NotEq x2 x3) w).bind fun t4 w => .ok (.bool t4) w).bind asBool).bind fun b5 w => (cnd b5 (.ok true w) ((((((((d_best_renaming (v_moved :: []) w).bind fun x6 w => .ok (x6 :: []) w).bind fun l7 w => .ok (v_moved :: l7) w).bind fun l8 w => d_renamed l8 w).bind fun x9 w => .ok (x9 :: []) w).bind fun l10 w => d_agreed l10 w).bind fun x11 w => (lift (cmpD .NotEq x11 v_top) w).bind fun t12 w => .ok (.bool t12) w).bind asBool))) fun b13 w => cnd b13 (K_law_same [2] 0 [some v_table, o_size, o_one, o_other, some v_top, some v_moved, o_alike, o_b, o_a, o_k] w) (.nx [some v_table, o_size, o_one, o_other, some v_top, some v_moved, o_alike, o_b, o_a, o_k] w)) (K_law_same [] 2) := by kernel_rfl
theorem t_law_same_2_0 (o_table o_size o_one o_other o_top o_moved o_alike o_b o_a o_k : Option D) (w : Wo) : K_law_same [2] 0 [o_table, o_size, o_one, o_other, o_top, o_moved, o_alike, o_b, o_a, o_k] w = .rt (.bool false) w := by kernel_rfl
theorem e_law_same_2 (ρ : Rho) (w : Wo) : K_law_same [2] 1 ρ w = .nx ρ w := by kernel_rfl
theorem t_law_same_t_2 (v_table v_other v_top v_moved : D) (o_size o_one o_alike o_b o_a o_k : Option D) (w : Wo) : K_law_same [] 2 [some v_table, o_size, o_one, some v_other, some v_top, some v_moved, o_alike, o_b, o_a, o_k] w = sq (onE [some v_table, o_size, o_one, some v_other, some v_top, some v_moved, o_alike, o_b, o_a, o_k] ((((d_agreed (v_moved :: []) w).bind fun x14 w => (lift (cmpD .Gt x14 v_top) w).bind fun t15 w => .ok (.bool t15) w).bind asBool).bind fun b16 w => (cnd b16 (.ok true w) ((((((d_reordered (v_table :: (v_other :: [])) w).bind fun x17 w => .ok (x17 :: []) w).bind fun l18 w => d_agreed l18 w).bind fun x19 w => (d_agreed (v_table :: []) w).bind fun x20 w => (lift (cmpD .NotEq x19 x20) w).bind fun t21 w => .ok (.bool t21) w).bind asBool).bind fun b22 w => (cnd b22 (.ok true w) (((d_cases (v_moved :: []) w).bind fun x23 w => (d_cases (v_table :: []) w).bind fun x24 w => (lift (cmpD .NotEq x23 x24) w).bind fun t25 w => .ok (.bool t25) w).bind asBool))))) fun b26 w => cnd b26 (K_law_same [4] 0 [some v_table, o_size, o_one, some v_other, some v_top, some v_moved, o_alike, o_b, o_a, o_k] w) (.nx [some v_table, o_size, o_one, some v_other, some v_top, some v_moved, o_alike, o_b, o_a, o_k] w)) (K_law_same [] 3) := by kernel_rfl
theorem t_law_same_4_0 (o_table o_size o_one o_other o_top o_moved o_alike o_b o_a o_k : Option D) (w : Wo) : K_law_same [4] 0 [o_table, o_size, o_one, o_other, o_top, o_moved, o_alike, o_b, o_a, o_k] w = .rt (.bool false) w := by kernel_rfl
theorem e_law_same_4 (ρ : Rho) (w : Wo) : K_law_same [4] 1 ρ w = .nx ρ w := by kernel_rfl
theorem t_law_same_t_3 (v_table v_size : D) (o_one o_other o_top o_moved o_alike o_b o_a o_k : Option D) (w : Wo) : K_law_same [] 3 [some v_table, some v_size, o_one, o_other, o_top, o_moved, o_alike, o_b, o_a, o_k] w = sq (onE [some v_table, some v_size, o_one, o_other, o_top, o_moved, o_alike, o_b, o_a, o_k] ((((lift (cmpD .Lt v_size (.int 5)) w).bind fun t27 w => .ok (.bool t27) w).bind asBool).bind fun b28 w => (cnd b28 (((((d_exchanged (v_table :: []) w).bind fun x29 w => .ok (x29 :: []) w).bind fun l30 w => d_renaming_counts l30 w).bind fun x31 w => (d_renaming_counts (v_table :: []) w).bind fun x32 w => (lift (cmpD .NotEq x31 x32) w).bind fun t33 w => .ok (.bool t33) w).bind asBool) (.ok false w))) fun b34 w => cnd b34 (K_law_same [6] 0 [some v_table, some v_size, o_one, o_other, o_top, o_moved, o_alike, o_b, o_a, o_k] w) (.nx [some v_table, some v_size, o_one, o_other, o_top, o_moved, o_alike, o_b, o_a, o_k] w)) (K_law_same [] 4) := by kernel_rfl
theorem t_law_same_6_0 (o_table o_size o_one o_other o_top o_moved o_alike o_b o_a o_k : Option D) (w : Wo) : K_law_same [6] 0 [o_table, o_size, o_one, o_other, o_top, o_moved, o_alike, o_b, o_a, o_k] w = .rt (.bool false) w := by kernel_rfl
theorem e_law_same_6 (ρ : Rho) (w : Wo) : K_law_same [6] 1 ρ w = .nx ρ w := by kernel_rfl
theorem t_law_same_t_4 (v_size : D) (o_table o_one o_other o_top o_moved o_alike o_b o_a o_k : Option D) (w : Wo) : K_law_same [] 4 [o_table, some v_size, o_one, o_other, o_top, o_moved, o_alike, o_b, o_a, o_k] w = sq (onE [o_table, some v_size, o_one, o_other, o_top, o_moved, o_alike, o_b, o_a, o_k] ((lift (zr2 (v_size :: (v_size :: []))) w).bind fun l47 w => (calmR (compR (fun d35 w => tup2 .no d35 fun a36 k37 => ((lift (rg1 (v_size :: [])) w).bind fun l43 w => (calmR (compR (fun d38 w => ((((lift (cmpD .Eq a36 d38) w).bind fun t39 w => .ok (.bool t39) w).bind asBool).bind fun b40 w => (cnd b40 (lift (binD .Add (.int 1) k37) w) (.ok (.int 0) w))).bind fun x41 w => .ok (some x41) w) l43 w)).bind fun l44 w => .ok (.list l44) w).bind fun x45 w => .ok (some x45) w) l47 w)).bind fun l48 w => .ok (.list l48) w) fun x49 w => .nx [o_table, some v_size, o_one, o_other, o_top, o_moved, some x49, o_b, o_a, o_k] w) (K_law_same [] 5) := by kernel_rfl
theorem t_law_same_t_5 (v_size v_one v_alike : D) (o_table o_other o_top o_moved o_b o_a o_k : Option D) (w : Wo) : K_law_same [] 5 [o_table, some v_size, some v_one, o_other, o_top, o_moved, some v_alike, o_b, o_a, o_k] w = sq (onE [o_table, some v_size, some v_one, o_other, o_top, o_moved, some v_alike, o_b, o_a, o_k] (((((d_best_renaming (v_alike :: []) w).bind fun x50 w => (lift (trF (List.map (dr w) (v_size :: []))) w).bind fun x51 w => (lift (cmpD .Eq x50 x51) w).bind fun t52 w => .ok (.bool t52) w).bind asBool).bind fun b53 w => (cnd b53 ((((((d_renamed (v_alike :: (v_one :: [])) w).bind fun x54 w => .ok (x54 :: []) w).bind fun l55 w => d_best_renaming l55 w).bind fun x56 w => lift (ixO w x56 (.int 0)) w).bind fun x57 w => (guardR (mtGo "index" (dr w v_one)) (lift (mtD "index" (dr w v_one) (.int 0)) w)).bind fun x58 w => (lift (cmpD .Eq x57 x58) w).bind fun t59 w => .ok (.bool t59) w).bind asBool) (.ok false w))).bind fun b60 w => .ok (.bool b60) w) fun x61 w => guardS (flatD 9 x61) (.rt x61 w)) (K_law_same [] 6) := by kernel_rfl
theorem e_law_same_t (ρ : Rho) (w : Wo) : K_law_same [] 6 ρ w = .nx ρ w := by kernel_rfl
/-! ### law -/
def K_law (p : List Nat) (i : Nat) : Rho → Wo → SRes Wo := exB (exS c_law plP 30 (defScope HD.s_law) (12 - p.length)) ((blkAt (defBody HD.s_law) p).drop i)
theorem m_law (v_script : D) (w : Wo) : d_law [v_script] w = endR (K_law [] 0 [some v_script, none, none, none, none, none, none, none, none, none, none, none, none, none, none, none] w) := by kernel_rfl
theorem t_law_t_0 (v_script : D) (o_draws o_table o_size o_orders o_turn o_twice_names o_best o_top o_one o_other o_left o_order_here o_k o_count o_many : Option D) (w : Wo) : K_law [] 0 [some v_script, o_draws, o_table, o_size, o_orders, o_turn, o_twice_names, o_best, o_top, o_one, o_other, o_left, o_order_here, o_k, o_count, o_many] w = sq (onE [some v_script, o_draws, o_table, o_size, o_orders, o_turn, o_twice_names, o_best, o_top, o_one, o_other, o_left, o_order_here, o_k, o_count, o_many] (startDen (v_script :: []) w) fun x1 w => .nx [some v_script, some x1, o_table, o_size, o_orders, o_turn, o_twice_names, o_best, o_top, o_one, o_other, o_left, o_order_here, o_k, o_count, o_many] w) (K_law [] 1) := by kernel_rfl
theorem t_law_t_1 (v_draws : D) (o_script o_table o_size o_orders o_turn o_twice_names o_best o_top o_one o_other o_left o_order_here o_k o_count o_many : Option D) (w : Wo) : K_law [] 1 [o_script, some v_draws, o_table, o_size, o_orders, o_turn, o_twice_names, o_best, o_top, o_one, o_other, o_left, o_order_here, o_k, o_count, o_many] w = sq (onE [o_script, some v_draws, o_table, o_size, o_orders, o_turn, o_twice_names, o_best, o_top, o_one, o_other, o_left, o_order_here, o_k, o_count, o_many] (d_law_table (v_draws :: ((.int 5) :: [])) w) fun x2 w => .nx [o_script, some v_draws, some x2, o_size, o_orders, o_turn, o_twice_names, o_best, o_top, o_one, o_other, o_left, o_order_here, o_k, o_count, o_many] w) (K_law [] 2) := by kernel_rfl
theorem t_law_t_2 (v_table : D) (o_script o_draws o_size o_orders o_turn o_twice_names o_best o_top o_one o_other o_left o_order_here o_k o_count o_many : Option D) (w : Wo) : K_law [] 2 [o_script, o_draws, some v_table, o_size, o_orders, o_turn, o_twice_names, o_best, o_top, o_one, o_other, o_left, o_order_here, o_k, o_count, o_many] w = sq (onE [o_script, o_draws, some v_table, o_size, o_orders, o_turn, o_twice_names, o_best, o_top, o_one, o_other, o_left, o_order_here, o_k, o_count, o_many] (lift (lenF (List.map (dr w) (v_table :: []))) w) fun x3 w => .nx [o_script, o_draws, some v_table, some x3, o_orders, o_turn, o_twice_names, o_best, o_top, o_one, o_other, o_left, o_order_here, o_k, o_count, o_many] w) (K_law [] 3) := by kernel_rfl
theorem t_law_t_3 (o_script o_draws o_table o_size o_orders o_turn o_twice_names o_best o_top o_one o_other o_left o_order_here o_k o_count o_many : Option D) (w : Wo) : K_law [] 3 [o_script, o_draws, o_table, o_size, o_orders, o_turn, o_twice_names, o_best, o_top, o_one, o_other, o_left, o_order_here, o_k, o_count, o_many] w = sq (.nx [o_script, o_draws, o_table, o_size, some (.list []), o_turn, o_twice_names, o_best, o_top, o_one, o_other, o_left, o_order_here, o_k, o_count, o_many] w) (K_law [] 4) := by kernel_rfl
def F_law_t_4 (d : D) (ρ : Rho) (w : Wo) : SRes Wo := asgK .no c_law.N (defScope HD.s_law) (tgAt (blkAt (defBody HD.s_law) []) 4) d ρ fun ρ => K_law [8] 0 ρ w
theorem g_law_t_4 (d : D) (o_script o_draws o_table o_size o_orders o_turn o_twice_names o_best o_top o_one o_other o_left o_order_here o_k o_count o_many : Option D) (w : Wo) : F_law_t_4 d [o_script, o_draws, o_table, o_size, o_orders, o_turn, o_twice_names, o_best, o_top, o_one, o_other, o_left, o_order_here, o_k, o_count, o_many] w = K_law [8] 0 [o_script, o_draws, o_table, o_size, o_orders, some d, o_twice_names, o_best, o_top, o_one, o_other, o_left, o_order_here, o_k, o_count, o_many] w := by kernel_rfl
theorem t_law_t_4 (o_script o_draws o_table o_size o_orders o_turn o_twice_names o_best o_top o_one o_other o_left o_order_here o_k o_count o_many : Option D) (w : Wo) : K_law [] 4 [o_script, o_draws, o_table, o_size, o_orders, o_turn, o_twice_names, o_best, o_top, o_one, o_other, o_left, o_order_here, o_k, o_count, o_many] w = sq (onE [o_script, o_draws, o_table, o_size, o_orders, o_turn, o_twice_names, o_best, o_top, o_one, o_other, o_left, o_order_here, o_k, o_count, o_many] (lift (rg1 ((.int 2) :: [])) w) fun l4 w => forR F_law_t_4 l4 [o_script, o_draws, o_table, o_size, o_orders, o_turn, o_twice_names, o_best, o_top, o_one, o_other, o_left, o_order_here, o_k, o_count, o_many] w) (K_law [] 5) := by kernel_rfl
theorem t_law_8_0 (v_size : D) (o_script o_draws o_table o_orders o_turn o_twice_names o_best o_top o_one o_other o_left o_order_here o_k o_count o_many : Option D) (w : Wo) : K_law [8] 0 [o_script, o_draws, o_table, some v_size, o_orders, o_turn, o_twice_names, o_best, o_top, o_one, o_other, o_left, o_order_here, o_k, o_count, o_many] w = sq (onE [o_script, o_draws, o_table, some v_size, o_orders, o_turn, o_twice_names, o_best, o_top, o_one, o_other, o_left, o_order_here, o_k, o_count, o_many] ((lift (lrF (List.map (dr w) (v_size :: []))) w).bind fun x5 w => .ok (x5 :: ((.list []) :: [])) w) fun l6 w => .nx (setR [o_script, o_draws, o_table, some v_size, o_orders, o_turn, o_twice_names, o_best, o_top, o_one, o_other, o_left, o_order_here, o_k, o_count, o_many] (List.zip [11, 12] l6)) w) (K_law [8] 1) := by kernel_rfl
def W_law_8_1 (ρ : Rho) (w : Wo) : Res Wo Bool := tst (ev c_law plP 30) 30 (defScope HD.s_law) (teAt (blkAt (defBody HD.s_law) [8]) 1) ρ w
theorem g_law_8_1 (v_left : D) (o_script o_draws o_table o_size o_orders o_turn o_twice_names o_best o_top o_one o_other o_order_here o_k o_count o_many : Option D) (w : Wo) : W_law_8_1 [o_script, o_draws, o_table, o_size, o_orders, o_turn, o_twice_names, o_best, o_top, o_one, o_other, some v_left, o_order_here, o_k, o_count, o_many] w = ((lift (cmpD .NotEq v_left (.list [])) w).bind fun t7 w => .ok (.bool t7) w).bind asBool := by kernel_rfl
theorem t_law_8_1 (o_script o_draws o_table o_size o_orders o_turn o_twice_names o_best o_top o_one o_other o_left o_order_here o_k o_count o_many : Option D) (w : Wo) : K_law [8] 1 [o_script, o_draws, o_table, o_size, o_orders, o_turn, o_twice_names, o_best, o_top, o_one, o_other, o_left, o_order_here, o_k, o_count, o_many] w = sq (whileR W_law_8_1 (K_law [8, 2] 0) 200 [o_script, o_draws, o_table, o_size, o_orders, o_turn, o_twice_names, o_best, o_top, o_one, o_other, o_left, o_order_here, o_k, o_count, o_many] w) (K_law [8] 2) := by kernel_rfl
theorem t_law_8_2_0 (v_draws v_left v_order_here : D) (o_script o_table o_size o_orders o_turn o_twice_names o_best o_top o_one o_other o_k o_count o_many : Option D) (w : Wo) : K_law [8, 2] 0 [o_script, some v_draws, o_table, o_size, o_orders, o_turn, o_twice_names, o_best, o_top, o_one, o_other, some v_left, some v_order_here, o_k, o_count, o_many] w = sq (guardS (isListD v_order_here) (onE [o_script, some v_draws, o_table, o_size, o_orders, o_turn, o_twice_names, o_best, o_top, o_one, o_other, some v_left, some v_order_here, o_k, o_count, o_many] (d_law_pick (v_draws :: (v_left :: [])) w) fun x8 w => onE [o_script, some v_draws, o_table, o_size, o_orders, o_turn, o_twice_names, o_best, o_top, o_one, o_other, some v_left, some v_order_here, o_k, o_count, o_many] (lift (appD v_order_here x8) w) fun l9 w => .nx [o_script, some v_draws, o_table, o_size, o_orders, o_turn, o_twice_names, o_best, o_top, o_one, o_other, some v_left, some l9, o_k, o_count, o_many] w)) (K_law [8, 2] 1) := by kernel_rfl
theorem t_law_8_2_1 (v_left v_order_here : D) (o_script o_draws o_table o_size o_orders o_turn o_twice_names o_best o_top o_one o_other o_k o_count o_many : Option D) (w : Wo) : K_law [8, 2] 1 [o_script, o_draws, o_table, o_size, o_orders, o_turn, o_twice_names, o_best, o_top, o_one, o_other, some v_left, some v_order_here, o_k, o_count, o_many] w = sq (guardS (isListD v_left) (onE [o_script, o_draws, o_table, o_size, o_orders, o_turn, o_twice_names, o_best, o_top, o_one, o_other, some v_left, some v_order_here, o_k, o_count, o_many] ((lift ((asInt (.int 1)).map fun i => .int (-i)) w).bind fun x10 w => lift (ixO w v_order_here x10) w) fun x11 w => onE [o_script, o_draws, o_table, o_size, o_orders, o_turn, o_twice_names, o_best, o_top, o_one, o_other, some v_left, some v_order_here, o_k, o_count, o_many] (lift (remD v_left x11) w) fun l12 w => .nx [o_script, o_draws, o_table, o_size, o_orders, o_turn, o_twice_names, o_best, o_top, o_one, o_other, some l12, some v_order_here, o_k, o_count, o_many] w)) (K_law [8, 2] 2) := by kernel_rfl
theorem e_law_8_2 (ρ : Rho) (w : Wo) : K_law [8, 2] 2 ρ w = .nx ρ w := by kernel_rfl
theorem t_law_8_2 (v_orders v_order_here : D) (o_script o_draws o_table o_size o_turn o_twice_names o_best o_top o_one o_other o_left o_k o_count o_many : Option D) (w : Wo) : K_law [8] 2 [o_script, o_draws, o_table, o_size, some v_orders, o_turn, o_twice_names, o_best, o_top, o_one, o_other, o_left, some v_order_here, o_k, o_count, o_many] w = sq (guardS (isListD v_orders) (onE [o_script, o_draws, o_table, o_size, some v_orders, o_turn, o_twice_names, o_best, o_top, o_one, o_other, o_left, some v_order_here, o_k, o_count, o_many] (lift (tupF (List.map (dr w) (v_order_here :: []))) w) fun x13 w => onE [o_script, o_draws, o_table, o_size, some v_orders, o_turn, o_twice_names, o_best, o_top, o_one, o_other, o_left, some v_order_here, o_k, o_count, o_many] (lift (appD v_orders x13) w) fun l14 w => .nx [o_script, o_draws, o_table, o_size, some l14, o_turn, o_twice_names, o_best, o_top, o_one, o_other, o_left, some v_order_here, o_k, o_count, o_many] w)) (K_law [8] 3) := by kernel_rfl
theorem e_law_8 (ρ : Rho) (w : Wo) : K_law [8] 3 ρ w = .nx ρ w := by kernel_rfl
theorem t_law_t_5 (v_orders : D) (o_script o_draws o_table o_size o_turn o_twice_names o_best o_top o_one o_other o_left o_order_here o_k o_count o_many : Option D) (w : Wo) : K_law [] 5 [o_script, o_draws, o_table, o_size, some v_orders, o_turn, o_twice_names, o_best, o_top, o_one, o_other, o_left, o_order_here, o_k, o_count, o_many] w = sq (list2 .no v_orders fun one15 other16 => .nx [o_script, o_draws, o_table, o_size, some v_orders, o_turn, o_twice_names, o_best, o_top, some one15, some other16, o_left, o_order_here, o_k, o_count, o_many] w) (K_law [] 6) := by kernel_rfl
theorem t_law_t_6 (v_one v_other : D) (o_script o_draws o_table o_size o_orders o_turn o_twice_names o_best o_top o_left o_order_here o_k o_count o_many : Option D) (w : Wo) : K_law [] 6 [o_script, o_draws, o_table, o_size, o_orders, o_turn, o_twice_names, o_best, o_top, some v_one, some v_other, o_left, o_order_here, o_k, o_count, o_many] w = sq (onE [o_script, o_draws, o_table, o_size, o_orders, o_turn, o_twice_names, o_best, o_top, some v_one, some v_other, o_left, o_order_here, o_k, o_count, o_many] ((((lift (it1 (v_other :: [])) w).bind fun l20 w => (calmR (compR (fun d17 w => (lift (ixO w v_one d17) w).bind fun x18 w => .ok (some x18) w) l20 w)).bind fun l21 w => .ok (.list l21) w).bind fun x22 w => .ok (x22 :: []) w).bind fun l23 w => lift (tupF (List.map (dr w) l23)) w) fun x24 w => .nx [o_script, o_draws, o_table, o_size, o_orders, o_turn, some x24, o_best, o_top, some v_one, some v_other, o_left, o_order_here, o_k, o_count, o_many] w) (K_law [] 7) := by kernel_rfl
theorem t_law_t_7 (v_table v_twice_names v_one v_other : D) (o_script o_draws o_size o_orders o_turn o_best o_top o_left o_order_here o_k o_count o_many : Option D) (w : Wo) : K_law [] 7 [o_script, o_draws, some v_table, o_size, o_orders, o_turn, some v_twice_names, o_best, o_top, some v_one, some v_other, o_left, o_order_here, o_k, o_count, o_many] w = sq (onE [o_script, o_draws, some v_table, o_size, o_orders, o_turn, some v_twice_names, o_best, o_top, some v_one, some v_other, o_left, o_order_here, o_k, o_count, o_many] ((((((d_renamed (v_table :: (v_one :: [])) w).bind fun x25 w => .ok (x25 :: (v_other :: [])) w).bind fun l26 w => d_renamed l26 w).bind fun x27 w => (d_renamed (v_table :: (v_twice_names :: [])) w).bind fun x28 w => (lift (cmpD .NotEq x27 x28) w).bind fun t29 w => .ok (.bool t29) w).bind asBool).bind fun b30 w => (cnd b30 (.ok true w) (((((d_reordered (v_table :: (v_one :: [])) w).bind fun x31 w => .ok (x31 :: (v_other :: [])) w).bind fun l32 w => d_reordered l32 w).bind fun x33 w => (d_reordered (v_table :: (v_twice_names :: [])) w).bind fun x34 w => (lift (cmpD .NotEq x33 x34) w).bind fun t35 w => .ok (.bool t35) w).bind asBool))) fun b36 w => cnd b36 (K_law [14] 0 [o_script, o_draws, some v_table, o_size, o_orders, o_turn, some v_twice_names, o_best, o_top, some v_one, some v_other, o_left, o_order_here, o_k, o_count, o_many] w) (.nx [o_script, o_draws, some v_table, o_size, o_orders, o_turn, some v_twice_names, o_best, o_top, some v_one, some v_other, o_left, o_order_here, o_k, o_count, o_many] w)) (K_law [] 8) := by kernel_rfl
theorem t_law_14_0 (o_script o_draws o_table o_size o_orders o_turn o_twice_names o_best o_top o_one o_other o_left o_order_here o_k o_count o_many : Option D) (w : Wo) : K_law [14] 0 [o_script, o_draws, o_table, o_size, o_orders, o_turn, o_twice_names, o_best, o_top, o_one, o_other, o_left, o_order_here, o_k, o_count, o_many] w = .rt (.bool false) w := by kernel_rfl
theorem e_law_14 (ρ : Rho) (w : Wo) : K_law [14] 1 ρ w = .nx ρ w := by kernel_rfl
theorem t_law_t_8 (v_table v_size v_one : D) (o_script o_draws o_orders o_turn o_twice_names o_best o_top o_other o_left o_order_here o_k o_count o_many : Option D) (w : Wo) : K_law [] 8 [o_script, o_draws, some v_table, some v_size, o_orders, o_turn, o_twice_names, o_best, o_top, some v_one, o_other, o_left, o_order_here, o_k, o_count, o_many] w = sq (onE [o_script, o_draws, some v_table, some v_size, o_orders, o_turn, o_twice_names, o_best, o_top, some v_one, o_other, o_left, o_order_here, o_k, o_count, o_many] ((((((((((d_renamed (v_table :: (v_one :: [])) w).bind fun x37 w => .ok (x37 :: []) w).bind fun l38 w => d_exchanged l38 w).bind fun x39 w => .ok (x39 :: (v_one :: [])) w).bind fun l40 w => d_renamed l40 w).bind fun x41 w => .ok (x41 :: []) w).bind fun l42 w => d_exchanged l42 w).bind fun x43 w => (d_reordered (v_table :: (v_one :: [])) w).bind fun x44 w => (lift (cmpD .NotEq x43 x44) w).bind fun t45 w => .ok (.bool t45) w).bind asBool).bind fun b46 w => (cnd b46 (.ok true w) ((((((lift (trF (List.map (dr w) (v_size :: []))) w).bind fun x47 w => .ok (x47 :: []) w).bind fun l48 w => .ok (v_table :: l48) w).bind fun l49 w => d_renamed l49 w).bind fun x50 w => (lift (cmpD .NotEq x50 v_table) w).bind fun t51 w => .ok (.bool t51) w).bind asBool))) fun b52 w => cnd b52 (K_law [16] 0 [o_script, o_draws, some v_table, some v_size, o_orders, o_turn, o_twice_names, o_best, o_top, some v_one, o_other, o_left, o_order_here, o_k, o_count, o_many] w) (.nx [o_script, o_draws, some v_table, some v_size, o_orders, o_turn, o_twice_names, o_best, o_top, some v_one, o_other, o_left, o_order_here, o_k, o_count, o_many] w)) (K_law [] 9) := by kernel_rfl
theorem t_law_16_0 (o_script o_draws o_table o_size o_orders o_turn o_twice_names o_best o_top o_one o_other o_left o_order_here o_k o_count o_many : Option D) (w : Wo) : K_law [16] 0 [o_script, o_draws, o_table, o_size, o_orders, o_turn, o_twice_names, o_best, o_top, o_one, o_other, o_left, o_order_here, o_k, o_count, o_many] w = .rt (.bool false) w := by kernel_rfl
theorem e_law_16 (ρ : Rho) (w : Wo) : K_law [16] 1 ρ w = .nx ρ w := by kernel_rfl
theorem t_law_t_9 (v_table : D) (o_script o_draws o_size o_orders o_turn o_twice_names o_best o_top o_one o_other o_left o_order_here o_k o_count o_many : Option D) (w : Wo) : K_law [] 9 [o_script, o_draws, some v_table, o_size, o_orders, o_turn, o_twice_names, o_best, o_top, o_one, o_other, o_left, o_order_here, o_k, o_count, o_many] w = sq (onE [o_script, o_draws, some v_table, o_size, o_orders, o_turn, o_twice_names, o_best, o_top, o_one, o_other, o_left, o_order_here, o_k, o_count, o_many] (d_best_renaming (v_table :: []) w) fun x53 w => .nx [o_script, o_draws, some v_table, o_size, o_orders, o_turn, o_twice_names, some x53, o_top, o_one, o_other, o_left, o_order_here, o_k, o_count, o_many] w) (K_law [] 10) := by kernel_rfl
theorem t_law_t_10 (v_table v_best : D) (o_script o_draws o_size o_orders o_turn o_twice_names o_top o_one o_other o_left o_order_here o_k o_count o_many : Option D) (w : Wo) : K_law [] 10 [o_script, o_draws, some v_table, o_size, o_orders, o_turn, o_twice_names, some v_best, o_top, o_one, o_other, o_left, o_order_here, o_k, o_count, o_many] w = sq (onE [o_script, o_draws, some v_table, o_size, o_orders, o_turn, o_twice_names, some v_best, o_top, o_one, o_other, o_left, o_order_here, o_k, o_count, o_many] (((d_renamed (v_table :: (v_best :: [])) w).bind fun x54 w => .ok (x54 :: []) w).bind fun l55 w => d_agreed l55 w) fun x56 w => .nx [o_script, o_draws, some v_table, o_size, o_orders, o_turn, o_twice_names, some v_best, some x56, o_one, o_other, o_left, o_order_here, o_k, o_count, o_many] w) (K_law [] 11) := by kernel_rfl
theorem t_law_t_11 (v_table v_size v_top : D) (o_script o_draws o_orders o_turn o_twice_names o_best o_one o_other o_left o_order_here o_k o_count o_many : Option D) (w : Wo) : K_law [] 11 [o_script, o_draws, some v_table, some v_size, o_orders, o_turn, o_twice_names, o_best, some v_top, o_one, o_other, o_left, o_order_here, o_k, o_count, o_many] w = sq (onE [o_script, o_draws, some v_table, some v_size, o_orders, o_turn, o_twice_names, o_best, some v_top, o_one, o_other, o_left, o_order_here, o_k, o_count, o_many] ((((((d_renaming_counts (v_table :: []) w).bind fun x57 w => (lift ((asInt (.int 1)).map fun i => .int (-i)) w).bind fun x58 w => lift (ixO w x57 x58) w).bind fun x59 w => lift (ixO w x59 (.int 0)) w).bind fun x60 w => (lift (cmpD .NotEq x60 v_top) w).bind fun t61 w => .ok (.bool t61) w).bind asBool).bind fun b62 w => (cnd b62 (.ok true w) ((((d_agreed (v_table :: []) w).bind fun x63 w => (lift (cmpD .Lt v_top x63) w).bind fun t64 w => .ok (.bool t64) w).bind asBool).bind fun b65 w => (cnd b65 (.ok true w) (((lift (binD .Mult v_top v_size) w).bind fun x66 w => (d_cases (v_table :: []) w).bind fun x67 w => (lift (cmpD .Lt x66 x67) w).bind fun t68 w => .ok (.bool t68) w).bind asBool))))) fun b69 w => cnd b69 (K_law [22] 0 [o_script, o_draws, some v_table, some v_size, o_orders, o_turn, o_twice_names, o_best, some v_top, o_one, o_other, o_left, o_order_here, o_k, o_count, o_many] w) (.nx [o_script, o_draws, some v_table, some v_size, o_orders, o_turn, o_twice_names, o_best, some v_top, o_one, o_other, o_left, o_order_here, o_k, o_count, o_many] w)) (K_law [] 12) := by kernel_rfl
theorem t_law_22_0 (o_script o_draws o_table o_size o_orders o_turn o_twice_names o_best o_top o_one o_other o_left o_order_here o_k o_count o_many : Option D) (w : Wo) : K_law [22] 0 [o_script, o_draws, o_table, o_size, o_orders, o_turn, o_twice_names, o_best, o_top, o_one, o_other, o_left, o_order_here, o_k, o_count, o_many] w = .rt (.bool false) w := by kernel_rfl
theorem e_law_22 (ρ : Rho) (w : Wo) : K_law [22] 1 ρ w = .nx ρ w := by kernel_rfl
theorem t_law_t_12 (v_table v_best v_top : D) (o_script o_draws o_size o_orders o_turn o_twice_names o_one o_other o_left o_order_here o_k o_count o_many : Option D) (w : Wo) : K_law [] 12 [o_script, o_draws, some v_table, o_size, o_orders, o_turn, o_twice_names, some v_best, some v_top, o_one, o_other, o_left, o_order_here, o_k, o_count, o_many] w = sq (onE [o_script, o_draws, some v_table, o_size, o_orders, o_turn, o_twice_names, some v_best, some v_top, o_one, o_other, o_left, o_order_here, o_k, o_count, o_many] ((((((d_renamed (v_table :: (v_best :: [])) w).bind fun x70 w => .ok (x70 :: []) w).bind fun l71 w => d_is_best_named l71 w).bind fun x72 w => (lift (cmpD .IsNot x72 (.bool true)) w).bind fun t73 w => .ok (.bool t73) w).bind asBool).bind fun b74 w => (cnd b74 (.ok true w) (((d_is_best_named (v_table :: []) w).bind fun x75 w => ((d_agreed (v_table :: []) w).bind fun x76 w => (lift (cmpD .Eq v_top x76) w).bind fun t77 w => .ok (.bool t77) w).bind fun x78 w => (lift (cmpD .NotEq x75 x78) w).bind fun t79 w => .ok (.bool t79) w).bind asBool))) fun b80 w => cnd b80 (K_law [24] 0 [o_script, o_draws, some v_table, o_size, o_orders, o_turn, o_twice_names, some v_best, some v_top, o_one, o_other, o_left, o_order_here, o_k, o_count, o_many] w) (.nx [o_script, o_draws, some v_table, o_size, o_orders, o_turn, o_twice_names, some v_best, some v_top, o_one, o_other, o_left, o_order_here, o_k, o_count, o_many] w)) (K_law [] 13) := by kernel_rfl
theorem t_law_24_0 (o_script o_draws o_table o_size o_orders o_turn o_twice_names o_best o_top o_one o_other o_left o_order_here o_k o_count o_many : Option D) (w : Wo) : K_law [24] 0 [o_script, o_draws, o_table, o_size, o_orders, o_turn, o_twice_names, o_best, o_top, o_one, o_other, o_left, o_order_here, o_k, o_count, o_many] w = .rt (.bool false) w := by kernel_rfl
theorem e_law_24 (ρ : Rho) (w : Wo) : K_law [24] 1 ρ w = .nx ρ w := by kernel_rfl
theorem t_law_t_13 (v_table v_size : D) (o_script o_draws o_orders o_turn o_twice_names o_best o_top o_one o_other o_left o_order_here o_k o_count o_many : Option D) (w : Wo) : K_law [] 13 [o_script, o_draws, some v_table, some v_size, o_orders, o_turn, o_twice_names, o_best, o_top, o_one, o_other, o_left, o_order_here, o_k, o_count, o_many] w = sq (onE [o_script, o_draws, some v_table, some v_size, o_orders, o_turn, o_twice_names, o_best, o_top, o_one, o_other, o_left, o_order_here, o_k, o_count, o_many] (((((((d_renaming_counts (v_table :: []) w).bind fun x84 w => .ok (x84 :: []) w).bind fun l85 w => (lift (it1 l85) w).bind fun l87 w => (calmR (compR (fun d81 w => tup2 .no d81 fun count82 many83 => .ok (some many83) w) l87 w)).bind fun l88 w => .ok (.list l88) w).bind fun x89 w => .ok (x89 :: []) w).bind fun l90 w => lift (sumF (List.map (dr w) l90)) w).bind fun x91 w => (lift (ixO w (.list ((.int 0) :: ((.int 0) :: ((.int 2) :: ((.int 6) :: ((.int 24) :: ((.int 120) :: []))))))) v_size) w).bind fun x92 w => (lift (cmpD .NotEq x91 x92) w).bind fun t93 w => .ok (.bool t93) w).bind asBool) fun b94 w => cnd b94 (K_law [26] 0 [o_script, o_draws, some v_table, some v_size, o_orders, o_turn, o_twice_names, o_best, o_top, o_one, o_other, o_left, o_order_here, o_k, o_count, o_many] w) (.nx [o_script, o_draws, some v_table, some v_size, o_orders, o_turn, o_twice_names, o_best, o_top, o_one, o_other, o_left, o_order_here, o_k, o_count, o_many] w)) (K_law [] 14) := by kernel_rfl
theorem t_law_26_0 (o_script o_draws o_table o_size o_orders o_turn o_twice_names o_best o_top o_one o_other o_left o_order_here o_k o_count o_many : Option D) (w : Wo) : K_law [26] 0 [o_script, o_draws, o_table, o_size, o_orders, o_turn, o_twice_names, o_best, o_top, o_one, o_other, o_left, o_order_here, o_k, o_count, o_many] w = .rt (.bool false) w := by kernel_rfl
theorem e_law_26 (ρ : Rho) (w : Wo) : K_law [26] 1 ρ w = .nx ρ w := by kernel_rfl
theorem t_law_t_14 (v_table v_size v_top v_one v_other : D) (o_script o_draws o_orders o_turn o_twice_names o_best o_left o_order_here o_k o_count o_many : Option D) (w : Wo) : K_law [] 14 [o_script, o_draws, some v_table, some v_size, o_orders, o_turn, o_twice_names, o_best, some v_top, some v_one, some v_other, o_left, o_order_here, o_k, o_count, o_many] w = sq (onE [o_script, o_draws, some v_table, some v_size, o_orders, o_turn, o_twice_names, o_best, some v_top, some v_one, some v_other, o_left, o_order_here, o_k, o_count, o_many] (d_law_same (v_table :: (v_size :: (v_one :: (v_other :: (v_top :: []))))) w) fun x95 w => guardS (flatD 9 x95) (.rt x95 w)) (K_law [] 15) := by kernel_rfl
theorem e_law_t (ρ : Rho) (w : Wo) : K_law [] 15 ρ w = .nx ρ w := by kernel_rfl
end DN
namespace DN
open PySem PySem.Spec PyProof.Rows L2 T
/-! ## tables -/
structure Tab (t : List (List Int)) : Prop where
  n2 : 2 ≤ t.length
  n5 : t.length ≤ 5
  row : ∀ r ∈ t, r.length = t.length
  pos : ∀ r ∈ t, ∀ x ∈ r, 0 ≤ x
  s1 : 1 ≤ (t.map List.sum).sum
  s60 : (t.map List.sum).sum ≤ 60
theorem sum_pos : ∀ {xs : List Int}, (∀ x ∈ xs, 0 ≤ x) → 0 ≤ xs.sum
  | [], _ => by simp
  | x :: r, h => by
    rw [List.sum_cons]
    have h1 := h x List.mem_cons_self
    have h2 := sum_pos (xs := r) fun y hy => h y (List.mem_cons_of_mem _ hy)
    omega
theorem le_sum : ∀ {xs : List Int} {x : Int}, (∀ x ∈ xs, 0 ≤ x) → x ∈ xs → x ≤ xs.sum
  | y :: r, x, h, hx => by
    rw [List.sum_cons]
    have h1 := h y List.mem_cons_self
    have h2 := sum_pos (xs := r) fun y hy => h y (List.mem_cons_of_mem _ hy)
    rcases List.mem_cons.mp hx with rfl | hx
    · omega
    · have := le_sum (xs := r) (fun y hy => h y (List.mem_cons_of_mem _ hy)) hx
      omega
theorem Tab.rpos {t : List (List Int)} (T : Tab t) : ∀ s ∈ t.map List.sum, 0 ≤ s := fun s hs => by
  obtain ⟨r, hr, rfl⟩ := List.mem_map.mp hs
  exact sum_pos (T.pos r hr)
theorem Tab.x60 {t : List (List Int)} (T : Tab t) {r : List Int} (hr : r ∈ t) {x : Int} (hx : x ∈ r) : x ≤ 60 := by
  have h1 := le_sum (T.pos r hr) hx
  have h2 := le_sum T.rpos (List.mem_map_of_mem (f := List.sum) hr)
  have := T.s60
  omega
theorem s_is_int (v lo hi : Int) (w : Wo) : d_is_int [enc v, enc lo, enc hi] w = .ok (enc (decide (lo ≤ v) && decide (v ≤ hi))) w := by
  rw [m_is_int, t_is_int_t_0]
  simp
theorem all_true {xs : List Int} {p : Int → Bool} (h : ∀ x ∈ xs, p x = true) : (xs.map p).all id = true := by
  simp only [List.all_map, List.all_eq_true]
  exact fun x hx => h x hx
theorem s_is_table {t : List (List Int)} (T : Tab t) (w : Wo) : d_is_table [enc t] w = .ok (enc true) w := by
  rw [m_is_table, t_is_table_t_0]
  have h2 := T.n2
  have h5 := T.n5
  have g2 : (2 : Int) ≤ (t.length : Int) := by omega
  have g5 : (t.length : Int) ≤ 5 := by omega
  have s1 := T.s1
  have s60 := T.s60
  simp [g2, g5, t_is_table_t_1]
  obtain ⟨ρ', w', e, o1, o2, rfl, rfl⟩ := forG_inv (xs := t) (b := fun x => F_is_table_t_1 (enc x)) (fun _ ρ w' => ∃ o1 o2, ρ = [some (enc t), o1, o2] ∧ w' = w) (ρ := [some (enc t), none, none]) (w := w) ⟨none, none, rfl, rfl⟩ (by
    rintro don r rest _ _ ht ⟨o1, o2, rfl, rfl⟩
    have hrt : r ∈ t := by rw [ht]; simp
    refine ⟨[some (enc t), some (enc r), o2], _, ?_, some (enc r), o2, rfl, rfl⟩
    show F_is_table_t_1 (enc r) [some (enc t), o1, o2] _ = _
    rw [g_is_table_t_1, t_is_table_2_0]
    have hl := T.row r hrt
    have : (r.map fun x => decide (0 ≤ x) && decide (x ≤ 60)).all id = true := all_true fun x hx => by simp [T.pos r hrt x hx, T.x60 hrt hx]
    simp [hl, s_is_int, e_is_table_2, this])
  rw [e]
  simp [t_is_table_t_2, s1, s60]
theorem s_check_table {t : List (List Int)} (T : Tab t) (w : Wo) : d_check_table [enc t] w = .ok .none w := by
  rw [m_check_table, t_check_table_t_0]
  simp [s_is_table T, e_check_table_t]
theorem s_rows_of (t : List (List Int)) (w : Wo) : d_rows_of [enc t] w = .ok (enc (t.map List.sum)) w := by
  rw [m_rows_of, t_rows_of_t_0]
  simp
/-! ## totals -/
def cls (t : List (List Int)) : List Int := (List.range t.length).map fun k => (t.map fun r => r.getD k 0).sum
def cel (t : List (List Int)) (a b : Nat) : Int := (t.getD a []).getD b 0
def agr (t : List (List Int)) : Int := ((List.range t.length).map fun k => cel t k k).sum
theorem getD_mem {α : Type} {xs : List α} {k : Nat} (d : α) (h : k < xs.length) : xs.getD k d ∈ xs := by
  rw [List.getD_eq_getElem?_getD, List.getElem?_eq_getElem h]; exact List.getElem_mem h
theorem Tab.rowk {t : List (List Int)} (T : Tab t) {k : Nat} (h : k < t.length) : (t.getD k []).length = t.length := T.row _ (getD_mem [] h)
theorem s_cases {t : List (List Int)} (T : Tab t) (w : Wo) : d_cases [enc t] w = .ok (enc (t.map List.sum).sum) w := by
  rw [m_cases, t_cases_t_0]
  simp [s_check_table T, t_cases_t_1, s_rows_of]
theorem s_agreed_of {t : List (List Int)} (T : Tab t) (w : Wo) : d_agreed_of [enc t] w = .ok (enc (agr t)) w := by
  rw [m_agreed_of, t_agreed_of_t_0]
  have := T.n5
  have g : t.length ≤ 1000000 := by omega
  simp [g]
  rw [compG_eq (h := fun k => enc (cel t k k)) (by
    intro k hk
    have hk : k < t.length := List.mem_range.mp hk
    have z : (k : Int) < (t.length : Int) := by omega
    have z2 := T.rowk hk
    simp [z, ← List.getD_eq_getElem?_getD, z2, cel])]
  simp [agr]
theorem s_agreed {t : List (List Int)} (T : Tab t) (w : Wo) : d_agreed [enc t] w = .ok (enc (agr t)) w := by
  rw [m_agreed, t_agreed_t_0]
  simp [s_check_table T, t_agreed_t_1, s_agreed_of T]
/-! ## draws -/
theorem s_start (ns : List Int) : ∃ nums, nums ≠ [] ∧ startDen [hdl 0] [.scr ns] = .ok (hdl 2) (wo ns nums 0 []) := by
  cases ns with
  | nil => exact ⟨[0], by simp, rfl⟩
  | cons n r => exact ⟨n :: r, by simp, rfl⟩
theorem s_draw (ns nums : List Int) (k : Int) (r : List Ob) (lim : Int) (hn : nums ≠ []) (h0 : 0 < lim) (h1 : lim < 1000000) :
    ∃ v nums', d_law_draw [hdl 2, enc lim] (wo ns nums k r) = .ok (enc v) (wo ns nums' (k + 1) r) ∧ nums' ≠ [] ∧ 0 ≤ v ∧ v < lim := by
  have hlen : 0 < nums.length := List.length_pos_iff.mpr hn
  have i0 : (0 : Int) < (nums.length : Int) := by omega
  have a0 : 0 ≤ (k + 1) % (nums.length : Int) := Int.emod_nonneg _ (by omega)
  have a1 : (k + 1) % (nums.length : Int) < (nums.length : Int) := Int.emod_lt_of_pos _ i0
  have l2 : lim < 1000000000000000000000000000000 := by omega
  generalize hat : (k + 1) % (nums.length : Int) = at_ at a0 a1
  have hcell : atI nums at_ = some (nums.getD at_.toNat 0) := atI_I nums at_ a0 a1
  generalize hc : nums.getD at_.toNat 0 = cell at hcell
  by_cases hbig : 1000000000000000000 ≤ cell
  · refine ⟨cell % lim, nums.set at_.toNat (cell / lim), ?_, ?_, Int.emod_nonneg _ (by omega), Int.emod_lt_of_pos _ h0⟩
    · rw [m_law_draw, t_law_draw_t_0]
      simp [t_law_draw_t_1, t_law_draw_t_2, hlen, hat, t_law_draw_t_3, hcell, t_law_draw_t_4, hbig, t_law_draw_8_0, h0, l2, a0, a1, t_law_draw_8_1]
    · intro z
      have := congrArg List.length z
      rw [List.length_set] at this
      simp at this
      exact hn this
  · generalize hm : (cell + 104729 * (k + 1)) % 4294967291 = m1
    have m0 : 0 ≤ m1 := hm ▸ Int.emod_nonneg _ (by omega)
    have m2 : m1 < 4294967291 := hm ▸ Int.emod_lt_of_pos _ (by omega)
    have m3 : m1.natAbs < 18446744073709551616 := by omega
    generalize hm2 : m1 ^ 5 % 4294967279 = m4
    have n0 : 0 ≤ m4 := hm2 ▸ Int.emod_nonneg _ (by omega)
    have n2 : m4 < 4294967279 := hm2 ▸ Int.emod_lt_of_pos _ (by omega)
    have n3 : (m4 / 64).natAbs < 18446744073709551616 := by omega
    refine ⟨(m4 / 64 * 69621 + m4) % 4294967231 / 8 % lim, nums, ?_, hn, Int.emod_nonneg _ (by omega), Int.emod_lt_of_pos _ h0⟩
    rw [m_law_draw, t_law_draw_t_0]
    simp [t_law_draw_t_1, t_law_draw_t_2, hlen, hat, t_law_draw_t_3, hcell, t_law_draw_t_4, hbig, t_law_draw_t_5, t_law_draw_t_6, t_law_draw_t_7, h0, hm, m3, hm2, n3]
/-! ## lists of kinds, tables -/
theorem s_pick {α : Type} [DecidableEq α] [Dt α] (ns nums : List Int) (k : Int) (r : List Ob) (xs : List α) (d : α) (hl : Dt.ld α = 0) (hn : nums ≠ []) (hx : xs ≠ []) (hx2 : xs.length < 1000000) :
    ∃ j nums', d_law_pick [hdl 2, enc xs] (wo ns nums k r) = .ok (enc (xs.getD j d)) (wo ns nums' (k + 1) r) ∧ nums' ≠ [] ∧ j < xs.length := by
  have h0 : 0 < xs.length := List.length_pos_iff.mpr hx
  obtain ⟨v, nums', e, hn', v0, v1⟩ := s_draw ns nums k r (xs.length : Int) hn (by omega) (by omega)
  refine ⟨v.toNat, nums', ?_, hn', by omega⟩
  rw [m_law_pick, t_law_pick_t_0]
  simp [e, atI_int xs d v v0 v1, hl]
theorem s_lines (ns nums : List Int) (k : Int) (r : List Ob) (size most : Int) (hn : nums ≠ []) (h0 : 0 < size) (h1 : size < 1000000) (h2 : 0 < most) (h3 : most ≤ 100) :
    ∃ (one other nums' : List Int) (k' : Int), d_law_lines [hdl 2, enc size, enc most] (wo ns nums k r) = .ok (enc (one, other)) (wo ns nums' k' r) ∧ nums' ≠ [] ∧ one.length = other.length ∧ 1 ≤ one.length ∧ (one.length : Int) ≤ most ∧
      (∀ x ∈ one, 0 ≤ x ∧ x < size) ∧ ∀ x ∈ other, 0 ≤ x ∧ x < size := by
  obtain ⟨like, n1, e1, hn1, _, _⟩ := s_draw ns nums k r 4 hn (by omega) (by omega)
  obtain ⟨many, n2, e2, hn2, m0, m1⟩ := s_draw ns n1 (k + 1) r most hn1 h2 (by omega)
  obtain ⟨ρ', w', e, one, other, n3, k3, ok, rfl, rfl, hn3, l1, l2, b1, b2⟩ := forG_inv (xs := List.range (1 + many).toNat) (b := fun (x : Nat) => F_law_lines_t_2 (enc (x : Int)))
    (fun don ρ w => ∃ (one other nums : List Int) (k : Int) (ok : Option D), ρ = [some (hdl 2), some (enc size), some (enc most), some (enc like), ok, some (enc one), some (enc other)] ∧ w = wo ns nums k r ∧ nums ≠ [] ∧ one.length = don.length ∧ other.length = don.length ∧ (∀ x ∈ one, 0 ≤ x ∧ x < size) ∧ ∀ x ∈ other, 0 ≤ x ∧ x < size)
    (ρ := [some (hdl 2), some (enc size), some (enc most), some (enc like), none, some (enc ([] : List Int)), some (enc ([] : List Int))]) (w := wo ns n2 (k + 1 + 1) r) ⟨[], [], n2, k + 1 + 1, none, rfl, rfl, hn2, rfl, rfl, by simp, by simp⟩ (by
      rintro don x rest _ _ hx ⟨one, other, nums, k, ok, rfl, rfl, hn, l1, l2, b1, b2⟩
      have hdl_ : don.length < 200 := by
        have := congrArg List.length hx
        rw [List.length_range, List.length_append] at this
        simp at this
        omega
      obtain ⟨v1, n4, e4, hn4, c0, c1⟩ := s_draw ns nums k r size hn h0 h1
      obtain ⟨v2, n5, e5, hn5, _, _⟩ := s_draw ns n4 (k + 1) r 4 hn4 (by omega) (by omega)
      have q1 : one.length + 1 ≤ 1000000 := by omega
      have q2 : other.length + 1 ≤ 1000000 := by omega
      have q3 : atI (one ++ [v1]) (-1) = some v1 := by
        rw [atI_last _ 0 (by simp)]; simp
      have bb1 : ∀ x ∈ one ++ [v1], 0 ≤ x ∧ x < size := fun x hx => by
        rcases List.mem_append.mp hx with h | h
        · exact b1 x h
        · rw [List.mem_singleton.mp h]; exact ⟨c0, c1⟩
      by_cases hlk : v2 < like
      · refine ⟨_, _, ?_, one ++ [v1], other ++ [v1], n5, k + 1 + 1, some (enc (x : Int)), rfl, rfl, hn5, by simp [l1], by simp [l2], bb1, fun x hx => ?_⟩
        · show F_law_lines_t_2 (enc (x : Int)) _ _ = _
          rw [g_law_lines_t_2, t_law_lines_4_0]
          simp [e4, q1, t_law_lines_4_1, e5, hlk, q3, q2, e_law_lines_4]
        · rcases List.mem_append.mp hx with h | h
          · exact b2 x h
          · rw [List.mem_singleton.mp h]; exact ⟨c0, c1⟩
      · obtain ⟨v3, n6, e6, hn6, d0, d1⟩ := s_draw ns n5 (k + 1 + 1) r size hn5 h0 h1
        refine ⟨_, _, ?_, one ++ [v1], other ++ [v3], n6, k + 1 + 1 + 1, some (enc (x : Int)), rfl, rfl, hn6, by simp [l1], by simp [l2], bb1, fun x hx => ?_⟩
        · show F_law_lines_t_2 (enc (x : Int)) _ _ = _
          rw [g_law_lines_t_2, t_law_lines_4_0]
          simp [e4, q1, t_law_lines_4_1, e5, hlk, q2, e6, e_law_lines_4]
        · rcases List.mem_append.mp hx with h | h
          · exact b2 x h
          · rw [List.mem_singleton.mp h]; exact ⟨d0, d1⟩)
  rw [List.length_range] at l1 l2
  have g : (1 + many).natAbs ≤ 1000000 := by omega
  refine ⟨one, other, n3, k3, ?_, hn3, by omega, by omega, by omega, b1, b2⟩
  rw [m_law_lines, t_law_lines_t_0]
  simp [t_law_lines_t_1, e1, t_law_lines_t_2, e2, g, nil_I, e, t_law_lines_t_3]
def tabOf (one other : List Int) (n : Nat) : List (List Int) := (List.range n).map fun (a : Nat) => (List.range n).map fun (b : Nat) => (((one.zip other).count ((a : Int), (b : Int)) : Nat) : Int)
theorem s_law_count (one other : List Int) (n : Nat) (hn : n ≤ 1000) (w : Wo) : d_law_count [enc one, enc other, enc (n : Int)] w = .ok (enc (tabOf one other n)) w := by
  rw [m_law_count, t_law_count_t_0]
  have g : n ≤ 1000000 := by omega
  simp [t_law_count_t_1, g, tabOf]
/-! ### sums of counts -/
theorem sum_zero {α : Type} (xs : List α) : (xs.map fun _ => (0 : Int)).sum = 0 := by
  induction xs with
  | nil => rfl
  | cons x r ih => rw [List.map_cons, List.sum_cons, ih]; rfl
theorem sum_add {α : Type} (f g : α → Int) (xs : List α) : (xs.map fun x => f x + g x).sum = (xs.map f).sum + (xs.map g).sum := by
  induction xs with
  | nil => rfl
  | cons x r ih => simp [ih]; omega
theorem sum_one (n : Nat) (c : Int) (h0 : 0 ≤ c) (h1 : c < n) : ((List.range n).map fun (a : Nat) => if c = (a : Int) then (1 : Int) else 0).sum = 1 := by
  induction n with
  | zero => omega
  | succ n ih =>
    rw [List.range_succ, List.map_append, List.sum_append]
    by_cases h : c = (n : Int)
    · subst h
      have : ((List.range n).map fun (a : Nat) => if ((n : Nat) : Int) = (a : Int) then (1 : Int) else 0) = (List.range n).map fun _ => (0 : Int) := by
        apply List.map_congr_left
        intro a ha
        have := List.mem_range.mp ha
        rw [if_neg (by omega)]
      rw [this, sum_zero]; simp
    · rw [ih (by omega)]; simp [h]
theorem sum_swap {α β : Type} (f : α → β → Int) (xs : List α) (ys : List β) : (xs.map fun x => (ys.map fun y => f x y).sum).sum = (ys.map fun y => (xs.map fun x => f x y).sum).sum := by
  induction xs with
  | nil => simp [sum_zero]
  | cons x r ih =>
    rw [List.map_cons, List.sum_cons, ih]
    have : (ys.map fun y => ((x :: r).map fun x => f x y).sum) = ys.map fun y => f x y + (r.map fun x => f x y).sum := List.map_congr_left fun y _ => by rw [List.map_cons, List.sum_cons]
    rw [this, sum_add]
theorem tab_sum {one other : List Int} {n : Nat} (b1 : ∀ x ∈ one, 0 ≤ x ∧ x < n) (b2 : ∀ x ∈ other, 0 ≤ x ∧ x < n) (hl : one.length = other.length) : ((tabOf one other n).map List.sum).sum = one.length := by
  unfold tabOf
  rw [List.map_map]
  have key : ∀ ps : List (Int × Int), (∀ p ∈ ps, (0 ≤ p.1 ∧ p.1 < n) ∧ 0 ≤ p.2 ∧ p.2 < n) → ((List.range n).map (List.sum ∘ fun (a : Nat) => (List.range n).map fun (b : Nat) => ((ps.count ((a : Int), (b : Int)) : Nat) : Int))).sum = ps.length := by
    intro ps
    induction ps with
    | nil =>
      intro _
      have : (List.range n).map (List.sum ∘ fun (a : Nat) => (List.range n).map fun (b : Nat) => (((([] : List (Int × Int)).count ((a : Int), (b : Int)) : Nat) : Int))) = (List.range n).map fun _ => (0 : Int) := by
        apply List.map_congr_left; intro a _
        show ((List.range n).map fun (b : Nat) => (0 : Int)).sum = 0
        exact sum_zero _
      rw [this, sum_zero]; rfl
    | cons p ps ih =>
      intro h
      have ih := ih fun q hq => h q (List.mem_cons_of_mem _ hq)
      obtain ⟨⟨p0, p1⟩, p2, p3⟩ := h p List.mem_cons_self
      have e : (List.range n).map (List.sum ∘ fun (a : Nat) => (List.range n).map fun (b : Nat) => (((p :: ps).count ((a : Int), (b : Int)) : Nat) : Int)) = (List.range n).map fun (a : Nat) => (List.sum ∘ fun (a : Nat) => (List.range n).map fun (b : Nat) => ((ps.count ((a : Int), (b : Int)) : Nat) : Int)) a + if p.1 = (a : Int) then (1 : Int) else 0 := by
        apply List.map_congr_left; intro a _
        show ((List.range n).map fun (b : Nat) => (((p :: ps).count ((a : Int), (b : Int)) : Nat) : Int)).sum = ((List.range n).map fun (b : Nat) => ((ps.count ((a : Int), (b : Int)) : Nat) : Int)).sum + if p.1 = (a : Int) then (1 : Int) else 0
        have e2 : (List.range n).map (fun (b : Nat) => (((p :: ps).count ((a : Int), (b : Int)) : Nat) : Int)) = (List.range n).map fun (b : Nat) => ((ps.count ((a : Int), (b : Int)) : Nat) : Int) + if p.1 = (a : Int) then (if p.2 = (b : Int) then (1 : Int) else 0) else 0 := by
          apply List.map_congr_left; intro b _
          rw [List.count_cons]
          obtain ⟨x, y⟩ := p
          by_cases hx : x = (a : Int) <;> by_cases hy : y = (b : Int) <;> simp [hx, hy]
        rw [e2, sum_add]
        congr 1
        by_cases hx : p.1 = (a : Int)
        · simp only [hx, if_true]; exact sum_one n p.2 p2 p3
        · simp only [hx, if_false]; exact sum_zero _
      rw [e, sum_add, ih, sum_one n p.1 p0 p1]
      simp
  have hz := key (one.zip other) (fun p hp => ⟨b1 _ (List.of_mem_zip hp).1, b2 _ (List.of_mem_zip hp).2⟩)
  rw [hz, List.length_zip]; omega
theorem tabOf_len (one other : List Int) (n : Nat) : (tabOf one other n).length = n := by simp [tabOf]
theorem tabOf_tab {one other : List Int} {n : Nat} (h2 : 2 ≤ n) (h5 : n ≤ 5) (b1 : ∀ x ∈ one, 0 ≤ x ∧ x < n) (b2 : ∀ x ∈ other, 0 ≤ x ∧ x < n) (hl : one.length = other.length) (l1 : 1 ≤ one.length) (l2 : one.length ≤ 60) : Tab (tabOf one other n) where
  n2 := by rw [tabOf_len]; exact h2
  n5 := by rw [tabOf_len]; exact h5
  row := fun r hr => by
    rw [tabOf_len]
    obtain ⟨a, _, rfl⟩ := List.mem_map.mp hr
    simp
  pos := fun r hr x hx => by
    obtain ⟨a, _, rfl⟩ := List.mem_map.mp hr
    obtain ⟨b, _, rfl⟩ := List.mem_map.mp hx
    omega
  s1 := by rw [tab_sum b1 b2 hl]; omega
  s60 := by rw [tab_sum b1 b2 hl]; omega
theorem s_table (ns nums : List Int) (k : Int) (r : List Ob) (most : Int) (hn : nums ≠ []) (h0 : 2 ≤ most) (h1 : most ≤ 5) :
    ∃ (one other : List Int) (n : Nat) (nums' : List Int) (k' : Int), d_law_table [hdl 2, enc most] (wo ns nums k r) = .ok (enc (tabOf one other n)) (wo ns nums' k' r) ∧ nums' ≠ [] ∧ 2 ≤ n ∧ (n : Int) ≤ most ∧ one.length = other.length ∧ 1 ≤ one.length ∧ one.length ≤ 40 ∧
      (∀ x ∈ one, 0 ≤ x ∧ x < n) ∧ ∀ x ∈ other, 0 ≤ x ∧ x < n := by
  obtain ⟨v, n1, e1, hn1, v0, v1⟩ := s_draw ns nums k r (most - 1) hn (by omega) (by omega)
  obtain ⟨j, n2, e2, hn2, hj⟩ := s_pick ns n1 (k + 1) r [(4 : Int), 12, 40] 0 rfl hn1 (by simp) (by simp)
  have hm : ([(4 : Int), 12, 40].getD j 0) = 4 ∨ ([(4 : Int), 12, 40].getD j 0) = 12 ∨ ([(4 : Int), 12, 40].getD j 0) = 40 := by
    match j, hj with
    | 0, _ => simp
    | 1, _ => simp
    | 2, _ => simp
  generalize hmm : ([(4 : Int), 12, 40].getD j 0) = m at e2 hm
  obtain ⟨one, other, n3, k3, e3, hn3, hl, l1, l2, b1, b2⟩ := s_lines ns n2 (k + 1 + 1) r (2 + v) m hn2 (by omega) (by omega) (by omega) (by omega)
  have hnat : (2 + v) = (((2 + v).toNat : Nat) : Int) := by omega
  refine ⟨one, other, (2 + v).toNat, n3, k3, ?_, hn3, by omega, by omega, hl, l1, by omega, fun x hx => ?_, fun x hx => ?_⟩
  · rw [m_law_table, t_law_table_t_0]
    have e4 := s_law_count one other (2 + v).toNat (by omega) (wo ns n3 k3 r)
    rw [← hnat] at e4
    simp [e1, t_law_table_t_1, e2, e3, t_law_table_t_2, e4]
  · have := b1 x hx; omega
  · have := b2 x hx; omega
/-! ## orders -/
def ordS (n : Nat) (fs : List (List Int)) : List (List Int) := (fs.map fun o => (((List.range n).map fun (k : Nat) => (k : Int)).filter fun k => !decide (k ∈ o)).map fun k => o ++ [k]).flatten
def ordI (n : Nat) : Nat → List (List Int)
  | 0 => [[]]
  | m + 1 => ordS n (ordI n m)
def ordL (n : Nat) : List (List Int) := ordI n n
def rgI (n : Nat) : List Int := (List.range n).map fun (k : Nat) => (k : Int)
/-- an order of n kinds -/
structure Ordr (n : Nat) (o : List Int) : Prop where
  bd : ∀ x ∈ o, 0 ≤ x ∧ x < n
  st : sortI o = rgI n
theorem Ordr.perm {n : Nat} {o : List Int} (h : Ordr n o) : o.Perm (rgI n) := h.st ▸ (sortI_perm o).symm
theorem Ordr.len {n : Nat} {o : List Int} (h : Ordr n o) : o.length = n := by rw [h.perm.length_eq]; simp [rgI]
theorem s_check_order {t : List (List Int)} {o : List Int} (ht : t.length ≤ 100) (h : Ordr t.length o) (w : Wo) : d_check_order [enc t, enc (Tp.mk o)] w = .ok .none w := by
  rw [m_check_order, t_check_order_t_0]
  have g : t.length ≤ 1000000 := by omega
  have e : (o.map fun x => decide (0 ≤ x) && decide (x ≤ (t.length : Int) - 1)).all id = true := all_true fun x hx => by
    have := h.bd x hx
    simp [this.1]; omega
  have e2 := h.st
  unfold rgI at e2
  simp [s_is_int, e, t_check_order_t_1, g, e2, e_check_order_t]
def reo (t : List (List Int)) (o : List Int) : List (List Int) := o.map fun a => o.map fun b => cel t a.toNat b.toNat
def ren (t : List (List Int)) (o : List Int) : List (List Int) := t.map fun r => o.map fun k => r.getD k.toNat 0
theorem s_reordered {t : List (List Int)} (T : Tab t) {o : List Int} (h : Ordr t.length o) (w : Wo) : d_reordered [enc t, enc (Tp.mk o)] w = .ok (enc (reo t o)) w := by
  rw [m_reordered, t_reordered_t_0]
  have := T.n5
  simp [s_check_table T, t_reordered_t_1, s_check_order (by omega) h, t_reordered_t_2]
  rw [compG_eq (h := fun a => enc (o.map fun b => cel t a.toNat b.toNat)) (by
    intro a ha
    obtain ⟨a0, a1⟩ := h.bd a ha
    have al := T.rowk (k := a.toNat) (by omega)
    rw [compG_eq (h := fun b => enc (cel t a.toNat b.toNat)) (by
      intro b hb
      obtain ⟨b0, b1⟩ := h.bd b hb
      simp [a0, a1, b0, b1, ← List.getD_eq_getElem?_getD, al, cel])]
    simp)]
  simp [reo]
theorem s_renamed {t : List (List Int)} (T : Tab t) {o : List Int} (h : Ordr t.length o) (w : Wo) : d_renamed [enc t, enc (Tp.mk o)] w = .ok (enc (ren t o)) w := by
  rw [m_renamed, t_renamed_t_0]
  have := T.n5
  simp [s_check_table T, t_renamed_t_1, s_check_order (by omega) h, t_renamed_t_2]
  rw [compG_eq (h := fun r => enc (o.map fun k => r.getD k.toNat 0)) (by
    intro r hr
    have al := T.row r hr
    rw [compG_eq (h := fun k => enc (r.getD k.toNat 0)) (by
      intro b hb
      obtain ⟨b0, b1⟩ := h.bd b hb
      simp [b0, b1, al])]
    simp)]
  simp [ren]
def cnt (t : List (List Int)) (o : List Int) : Int := ((List.range t.length).map fun k => cel t k (o.getD k 0).toNat).sum
theorem s_count_of {t : List (List Int)} (T : Tab t) {o : List Int} (h : Ordr t.length o) (w : Wo) : d_count_of [enc t, enc (Tp.mk o)] w = .ok (enc (cnt t o)) w := by
  rw [m_count_of, t_count_of_t_0]
  have := T.n5
  have g : t.length ≤ 1000000 := by omega
  simp [g]
  rw [compG_eq (h := fun k => enc (cel t k (o.getD k 0).toNat)) (by
    intro k hk
    have hk : k < t.length := List.mem_range.mp hk
    have z : (k : Int) < (t.length : Int) := by omega
    have z3 : (k : Int) < (o.length : Int) := by rw [h.len]; omega
    have z2 := T.rowk hk
    obtain ⟨b0, b1⟩ := h.bd (o.getD k 0) (getD_mem 0 (by rw [h.len]; exact hk))
    simp only [List.getD_eq_getElem?_getD] at z2 b0 b1
    simp [z, z3, z2, cel, b0, b1])]
  simp [cnt]
theorem s_orders_of {n : Nat} (h2 : 2 ≤ n) (h5 : n ≤ 5) (w : Wo) : d_orders_of [enc (n : Int)] w = .ok (enc ((ordL n).map Tp.mk)) w := by
  match n, h2, h5 with
  | 2, _, _ => kernel_rfl
  | 3, _, _ => kernel_rfl
  | 4, _, _ => kernel_rfl
  | 5, _, _ => kernel_rfl
theorem ord_ok {n : Nat} (h2 : 2 ≤ n) (h5 : n ≤ 5) : ∀ o ∈ ordL n, Ordr n o := by
  have key : ∀ m ∈ [2, 3, 4, 5], ((ordL m).all fun o => decide (sortI o = rgI m) && o.all fun x => decide (0 ≤ x) && decide (x < (m : Int))) = true := by decide +kernel
  intro o ho
  have k := List.all_eq_true.mp (key n (by simp; omega)) o ho
  simp only [Bool.and_eq_true, decide_eq_true_eq, List.all_eq_true] at k
  exact ⟨fun x hx => k.2 x hx, k.1⟩
/-! ## the best order -/
def bestOf {α : Type} (f : α → Int) (d : α) : List α → α
  | [] => d
  | o :: r => r.foldl (fun p q => if f p < f q then q else p) o
theorem best_cut {α : Type} (f : α → Int) : ∀ (r : List α) (o : α), ∃ pre suf, o :: r = pre ++ (r.foldl (fun p q => if f p < f q then q else p) o) :: suf ∧ (∀ q ∈ pre, f q < f (r.foldl (fun p q => if f p < f q then q else p) o)) ∧ ∀ q ∈ suf, f q ≤ f (r.foldl (fun p q => if f p < f q then q else p) o)
  | [], o => ⟨[], [], rfl, by simp, by simp⟩
  | p :: r, o => by
    rw [List.foldl_cons]
    by_cases h : f o < f p
    · rw [if_pos h]
      obtain ⟨pre, suf, e, h1, h2⟩ := best_cut f r p
      refine ⟨o :: pre, suf, by rw [e]; rfl, fun q hq => ?_, h2⟩
      rcases List.mem_cons.mp hq with rfl | hq
      · cases pre with
        | nil => simp only [List.nil_append, List.cons.injEq] at e; rw [← e.1]; exact h
        | cons p' pre' =>
          simp only [List.cons_append, List.cons.injEq] at e
          have := h1 p' List.mem_cons_self
          rw [e.1] at h
          omega
      · exact h1 q hq
    · rw [if_neg h]
      obtain ⟨pre, suf, e, h1, h2⟩ := best_cut f r o
      cases pre with
      | nil =>
        simp only [List.nil_append, List.cons.injEq] at e
        refine ⟨[], p :: suf, by rw [← e.1, ← e.2]; rfl, by simp, fun q hq => ?_⟩
        rcases List.mem_cons.mp hq with rfl | hq
        · rw [← e.1]; omega
        · exact h2 q hq
      | cons p' pre' =>
        simp only [List.cons_append, List.cons.injEq] at e
        refine ⟨o :: p :: pre', suf, congrArg (fun z => o :: p :: z) e.2, fun q hq => ?_, h2⟩
        have ho := h1 p' List.mem_cons_self
        rw [← e.1] at ho
        rcases List.mem_cons.mp hq with rfl | hq
        · exact ho
        · rcases List.mem_cons.mp hq with rfl | hq
          · omega
          · exact h1 q (List.mem_cons_of_mem _ hq)
theorem best_max {α : Type} (f : α → Int) (d : α) {xs : List α} (hx : xs ≠ []) : ∃ pre suf, xs = pre ++ bestOf f d xs :: suf ∧ (∀ q ∈ pre, f q < f (bestOf f d xs)) ∧ (∀ q ∈ suf, f q ≤ f (bestOf f d xs)) := by
  cases xs with
  | nil => exact absurd rfl hx
  | cons o r => exact best_cut f r o
theorem maxI_some : ∀ {ns : List Int}, ns ≠ [] → ∃ m, maxI ns = some m
  | [], h => absurd rfl h
  | [i], _ => ⟨i, rfl⟩
  | i :: j :: r, _ => by
    obtain ⟨m, e⟩ := maxI_some (ns := j :: r) (by simp)
    exact ⟨_, by show (maxI (j :: r)).map _ = _; rw [e]; rfl⟩
theorem maxI_is {ns : List Int} {m : Int} (h1 : m ∈ ns) (h2 : ∀ y ∈ ns, y ≤ m) : maxI ns = some m := by
  obtain ⟨m', e⟩ := maxI_some (ns := ns) (fun z => by subst z; cases h1)
  obtain ⟨g1, g2⟩ := maxI_ok e
  have := h2 m' g1
  have := g2 m h1
  rw [e]; congr 1; omega
theorem best_in {α : Type} (f : α → Int) (d : α) {xs : List α} (hx : xs ≠ []) : bestOf f d xs ∈ xs := by
  obtain ⟨pre, suf, e, _, _⟩ := best_max f d hx
  have : bestOf f d xs ∈ pre ++ bestOf f d xs :: suf := List.mem_append_right _ List.mem_cons_self
  rw [← e] at this
  exact this
theorem best_le {α : Type} (f : α → Int) (d : α) {xs : List α} (hx : xs ≠ []) {q : α} (hq : q ∈ xs) : f q ≤ f (bestOf f d xs) := by
  obtain ⟨pre, suf, e, h1, h2⟩ := best_max f d hx
  have hq : q ∈ pre ++ bestOf f d xs :: suf := e ▸ hq
  rcases List.mem_append.mp hq with h | h
  · exact Int.le_of_lt (h1 q h)
  · rcases List.mem_cons.mp h with h | h
    · rw [← h]; exact Int.le_refl _
    · exact h2 q h
theorem best_maxI {α : Type} (f : α → Int) (d : α) {xs : List α} (hx : xs ≠ []) : maxI (xs.map f) = some (f (bestOf f d xs)) :=
  maxI_is (List.mem_map_of_mem (best_in f d hx)) fun y hy => by
    obtain ⟨q, hq, rfl⟩ := List.mem_map.mp hy
    exact best_le f d hx hq
theorem best_idx {α : Type} (f : α → Int) (d : α) {xs : List α} (hx : xs ≠ []) : ∃ j, (xs.map f).findIdx? (fun z => decide (z = f (bestOf f d xs))) = some j ∧ j < xs.length ∧ xs.getD j d = bestOf f d xs := by
  obtain ⟨pre, suf, e, h1, h2⟩ := best_max f d hx
  generalize bestOf f d xs = b at e h1 h2
  subst e
  refine ⟨pre.length, ?_, by simp, by simp⟩
  rw [List.map_append, List.findIdx?_append]
  have : (pre.map f).findIdx? (fun z => decide (z = f b)) = none := by
    rw [List.findIdx?_eq_none_iff]
    intro x hx
    obtain ⟨q, hq, rfl⟩ := List.mem_map.mp hx
    have := h1 q hq
    simp; omega
  rw [this]
  simp [List.findIdx?_cons]
theorem ordL_ne {n : Nat} (h2 : 2 ≤ n) (h5 : n ≤ 5) : ordL n ≠ [] := by
  have key : ∀ m ∈ [2, 3, 4, 5], ordL m ≠ [] := by decide +kernel
  exact key n (by simp; omega)
theorem s_best_renaming {t : List (List Int)} (T : Tab t) (w : Wo) : d_best_renaming [enc t] w = .ok (enc (Tp.mk (bestOf (cnt t) [] (ordL t.length)))) w := by
  rw [m_best_renaming, t_best_renaming_t_0]
  have hx := ordL_ne T.n2 T.n5
  have hO := ord_ok T.n2 T.n5
  simp [s_check_table T, t_best_renaming_t_1, t_best_renaming_t_2, s_orders_of T.n2 T.n5]
  generalize ordL t.length = xs at hx hO
  cases xs with
  | nil => exact absurd rfl hx
  | cons o r =>
    have e1 : F_best_renaming_t_2 (enc (Tp.mk o)) [some (enc t), some .none, none] w = .nx [some (enc t), some (enc (Tp.mk o)), some (enc (Tp.mk o))] w := by
      rw [g_best_renaming_t_2, t_best_renaming_4_0]
      simp [t_best_renaming_4_0_0, e_best_renaming_4_0, e_best_renaming_4]
    have e2 : ∃ z, forG (fun x => F_best_renaming_t_2 (enc (Tp.mk x))) r [some (enc t), some (enc (Tp.mk o)), some (enc (Tp.mk o))] w = .nx [some (enc t), some (enc (Tp.mk (bestOf (cnt t) [] (o :: r)))), z] w := by
      obtain ⟨ρ', w', e, z, rfl, rfl⟩ := forG_inv (xs := r) (b := fun x => F_best_renaming_t_2 (enc (Tp.mk x))) (fun don ρ w' => ∃ z, ρ = [some (enc t), some (enc (Tp.mk (bestOf (cnt t) [] (o :: don)))), z] ∧ w' = w)
        (ρ := [some (enc t), some (enc (Tp.mk o)), some (enc (Tp.mk o))]) (w := w) ⟨_, rfl, rfl⟩ (by
          rintro don x rest _ _ hr ⟨z, rfl, rfl⟩
          have hxO : Ordr t.length x := hO x (by rw [hr]; simp)
          have hb : bestOf (cnt t) [] (o :: don) ∈ o :: don := best_in _ _ (by simp)
          have hbO : Ordr t.length (bestOf (cnt t) [] (o :: don)) := hO _ (by
            rcases List.mem_cons.mp hb with h | h
            · rw [h]; simp
            · rw [hr]; exact List.mem_cons_of_mem _ (List.mem_append_left _ h))
          have hstep : bestOf (cnt t) [] (o :: (don ++ [x])) = if cnt t (bestOf (cnt t) [] (o :: don)) < cnt t x then x else bestOf (cnt t) [] (o :: don) := by
            show (don ++ [x]).foldl _ o = _
            rw [List.foldl_append]; rfl
          refine ⟨_, _, ?_, some (enc (Tp.mk x)), rfl, rfl⟩
          show F_best_renaming_t_2 (enc (Tp.mk x)) _ _ = _
          rw [g_best_renaming_t_2, t_best_renaming_4_0, hstep]
          by_cases hlt : cnt t (bestOf (cnt t) [] (o :: don)) < cnt t x
          · simp [s_count_of T hxO, s_count_of T hbO, hlt, t_best_renaming_4_0_0, e_best_renaming_4_0, e_best_renaming_4]
          · simp [s_count_of T hxO, s_count_of T hbO, hlt, e_best_renaming_4])
      exact ⟨z, e⟩
    obtain ⟨z, e2⟩ := e2
    show endR (sq (forG _ (o :: r) _ _) _) = _
    show endR (sq (sq (F_best_renaming_t_2 (enc (Tp.mk o)) [some (enc t), some .none, none] w) _) _) = _
    rw [e1]
    simp [e2, t_best_renaming_t_3]
def rcOf (cs : List Int) : List (Int × Int) := (sortI (dedupI cs)).map fun m => (m, ((cs.count m : Nat) : Int))
theorem nd_le (n : Nat) : ∀ {l : List Int}, l.Nodup → (∀ x ∈ l, 0 ≤ x ∧ x < n) → l.length ≤ n := by
  induction n with
  | zero =>
    intro l _ h
    cases l with
    | nil => simp
    | cons x r => have := h x List.mem_cons_self; omega
  | succ n ih =>
    intro l hn h
    have h1 := ih (l := l.erase (n : Int)) (hn.erase _) fun x hx => by
      have hne := (List.Nodup.mem_erase_iff hn).mp hx
      have := h x hne.2
      have := hne.1
      omega
    have h2 : l.length ≤ (l.erase (n : Int)).length + 1 := by
      by_cases hm : (n : Int) ∈ l
      · rw [List.length_erase_of_mem hm]; omega
      · rw [List.erase_of_not_mem hm]; omega
    omega
theorem dedup_le {cs : List Int} (n : Nat) (h : ∀ x ∈ cs, 0 ≤ x ∧ x < n) : (dedupI cs).length ≤ n := nd_le n (dedupI_nd cs) fun x hx => h x (dedupI_mem.mp hx)
theorem sum_le {α : Type} {f g : α → Int} : ∀ {xs : List α}, (∀ x ∈ xs, f x ≤ g x) → (xs.map f).sum ≤ (xs.map g).sum
  | [], _ => by simp
  | x :: r, h => by
    rw [List.map_cons, List.map_cons, List.sum_cons, List.sum_cons]
    have h1 := h x List.mem_cons_self
    have h2 := sum_le (xs := r) fun y hy => h y (List.mem_cons_of_mem _ hy)
    omega
theorem map_range_getD {α β : Type} (f : α → β) (d : α) (xs : List α) : (List.range xs.length).map (fun k => f (xs.getD k d)) = xs.map f := by
  apply List.ext_getElem
  · simp
  · intro i h1 h2
    have : i < xs.length := by simpa using h1
    simp [this]
theorem Tab.cel_pos {t : List (List Int)} (T : Tab t) (a b : Nat) : 0 ≤ cel t a b := by
  unfold cel
  by_cases h : a < t.length
  · by_cases h2 : b < (t.getD a []).length
    · exact T.pos _ (getD_mem [] h) _ (getD_mem 0 h2)
    · rw [List.getD_eq_getElem?_getD (l := t.getD a []), List.getElem?_eq_none (by omega)]; simp
  · rw [List.getD_eq_getElem?_getD (l := t), List.getElem?_eq_none (by omega)]; simp
theorem cnt_bd {t : List (List Int)} (T : Tab t) (o : List Int) : 0 ≤ cnt t o ∧ cnt t o < 61 := by
  constructor
  · refine sum_pos fun x hx => ?_
    obtain ⟨k, _, rfl⟩ := List.mem_map.mp hx
    exact T.cel_pos _ _
  · have : cnt t o ≤ (t.map List.sum).sum := by
      rw [← map_range_getD List.sum [] t]
      refine sum_le fun k hk => ?_
      have hk := List.mem_range.mp hk
      unfold cel
      by_cases h2 : (o.getD k 0).toNat < (t.getD k []).length
      · exact le_sum (T.pos _ (getD_mem [] hk)) (getD_mem 0 h2)
      · rw [List.getD_eq_getElem?_getD (l := t.getD k []), List.getElem?_eq_none (by omega)]
        exact sum_pos (T.pos _ (getD_mem [] hk))
    have := T.s60
    omega
def cnts (t : List (List Int)) : List Int := (ordL t.length).map (cnt t)
theorem cnts_bd {t : List (List Int)} (T : Tab t) : ∀ x ∈ cnts t, 0 ≤ x ∧ x < (61 : Nat) := fun x hx => by
  obtain ⟨o, _, rfl⟩ := List.mem_map.mp hx
  exact cnt_bd T o
theorem ordL_len {n : Nat} (h2 : 2 ≤ n) (h5 : n ≤ 5) : (ordL n).length ≤ 120 := by
  have key : ∀ m ∈ [2, 3, 4, 5], (ordL m).length ≤ 120 := by decide +kernel
  exact key n (by simp; omega)
theorem s_counts {t : List (List Int)} (T : Tab t) (w : Wo) : compG (fun x w => (d_count_of [enc t, enc (Tp.mk x)] w).bind fun x3 w => Res.ok (some x3) w) (ordL t.length) w = .ok ((ordL t.length).map fun o => enc (cnt t o)) w :=
  compG_eq _ fun o ho => by rw [s_count_of T (ord_ok T.n2 T.n5 o ho)]; rfl
theorem s_renaming_counts {t : List (List Int)} (T : Tab t) (w : Wo) : d_renaming_counts [enc t] w = .ok (enc (rcOf (cnts t))) w := by
  rw [m_renaming_counts, t_renaming_counts_t_0]
  have l1 : (cnts t).length ≤ 4000 := by have := ordL_len T.n2 T.n5; simp [cnts]; omega
  have l2 : (dedupI (cnts t)).length ≤ 63 := by have := dedup_le 61 (cnts_bd T); omega
  have e : (ordL t.length).map (fun o => cnt t o) = cnts t := rfl
  simp [s_check_table T, t_renaming_counts_t_1, s_orders_of T.n2 T.n5, s_counts T, e, t_renaming_counts_t_2, l1, l2, rcOf]
theorem s_is_best_named {t : List (List Int)} (T : Tab t) (w : Wo) : d_is_best_named [enc t] w = .ok (enc (decide (agr t = cnt t (bestOf (cnt t) [] (ordL t.length))))) w := by
  rw [m_is_best_named, t_is_best_named_t_0]
  have e : maxI ((ordL t.length).map (fun o => cnt t o)) = _ := best_maxI (cnt t) [] (ordL_ne T.n2 T.n5)
  simp [s_check_table T, t_is_best_named_t_1, s_agreed_of T, s_orders_of T.n2 T.n5, s_counts T, e]
/-! ## orders, by plain means -/
theorem rgI_srt (n : Nat) : (rgI n).Pairwise (· ≤ ·) := by
  unfold rgI
  rw [List.pairwise_map]
  exact List.pairwise_lt_range.imp fun h => by omega
theorem rgI_nd (n : Nat) : (rgI n).Nodup := by
  unfold rgI
  rw [List.nodup_iff_pairwise_ne, List.pairwise_map]
  exact List.pairwise_lt_range.imp fun h => by omega
theorem rgI_len (n : Nat) : (rgI n).length = n := by simp [rgI]
theorem rgI_mem {n : Nat} {x : Int} : x ∈ rgI n ↔ 0 ≤ x ∧ x < n := by
  unfold rgI
  rw [List.mem_map]
  constructor
  · rintro ⟨k, hk, rfl⟩
    have := List.mem_range.mp hk
    omega
  · rintro ⟨h0, h1⟩
    exact ⟨x.toNat, List.mem_range.mpr (by omega), by omega⟩
theorem rgI_getD {n k : Nat} (h : k < n) : (rgI n).getD k 0 = k := by
  unfold rgI
  simp [h]
theorem ordr_of {n : Nat} {o : List Int} (h : o.Perm (rgI n)) : Ordr n o :=
  ⟨fun x hx => rgI_mem.mp (h.mem_iff.mp hx), srt_uniq ((sortI_perm o).trans h) (sortI_srt o) (rgI_srt n)⟩
theorem Ordr.nd {n : Nat} {o : List Int} (h : Ordr n o) : o.Nodup := h.perm.nodup_iff.mpr (rgI_nd n)
theorem sub_perm {α : Type} [DecidableEq α] : ∀ {l m : List α}, l.Nodup → (∀ x ∈ l, x ∈ m) → m.length ≤ l.length → l.Perm m
  | [], m, _, _, h => by
    have : m = [] := List.eq_nil_of_length_eq_zero (by simpa using h)
    rw [this]
  | a :: l, m, hn, hs, h => by
    obtain ⟨h1, h2⟩ := List.nodup_cons.mp hn
    have hm := hs a List.mem_cons_self
    refine List.Perm.trans (.cons a (sub_perm h2 (fun x hx => ?_) ?_)) (List.perm_cons_erase hm).symm
    · have hx2 := hs x (List.mem_cons_of_mem _ hx)
      exact (List.mem_erase_of_ne (fun (z : x = a) => h1 (z ▸ hx))).mpr hx2
    · rw [List.length_erase_of_mem hm]
      simp at h
      omega
theorem mem_ordI {n : Nat} : ∀ {m : Nat} {o : List Int}, o ∈ ordI n m ↔ o.length = m ∧ o.Nodup ∧ ∀ x ∈ o, x ∈ rgI n
  | 0, o => by
    show o ∈ [[]] ↔ _
    rw [List.mem_singleton]
    constructor
    · rintro rfl; simp
    · rintro ⟨h, _⟩; exact List.eq_nil_of_length_eq_zero h
  | m + 1, o => by
    show o ∈ ordS n (ordI n m) ↔ _
    unfold ordS
    rw [List.mem_flatten]
    constructor
    · rintro ⟨l, hl, ho⟩
      obtain ⟨p, hp, rfl⟩ := List.mem_map.mp hl
      obtain ⟨k, hk, rfl⟩ := List.mem_map.mp ho
      obtain ⟨hk1, hk2⟩ := List.mem_filter.mp hk
      simp at hk2
      obtain ⟨a1, a2, a3⟩ := mem_ordI.mp hp
      refine ⟨by simp [a1], ?_, fun x hx => ?_⟩
      · rw [List.nodup_append]
        exact ⟨a2, by simp, fun a ha b hb => by rw [List.mem_singleton.mp hb]; exact fun z => hk2 (z ▸ ha)⟩
      · rcases List.mem_append.mp hx with h | h
        · exact a3 x h
        · rw [List.mem_singleton.mp h]; exact hk1
    · rintro ⟨h1, h2, h3⟩
      have hne : o ≠ [] := fun z => by subst z; simp at h1
      obtain ⟨p, k, rfl⟩ : ∃ p k, o = p ++ [k] := ⟨o.dropLast, o.getLast hne, (List.dropLast_concat_getLast hne).symm⟩
      rw [List.nodup_append] at h2
      obtain ⟨b1, _, b3⟩ := h2
      refine ⟨_, List.mem_map.mpr ⟨p, mem_ordI.mpr ⟨by simpa using h1, b1, fun x hx => h3 x (List.mem_append_left _ hx)⟩, rfl⟩, List.mem_map.mpr ⟨k, List.mem_filter.mpr ⟨h3 k (by simp), ?_⟩, rfl⟩⟩
      simp
      exact fun hk => b3 k hk k (by simp) rfl
theorem mem_ordL {n : Nat} {o : List Int} : o ∈ ordL n ↔ Ordr n o := by
  unfold ordL
  rw [mem_ordI]
  constructor
  · rintro ⟨h1, h2, h3⟩
    exact ordr_of (sub_perm h2 h3 (by rw [rgI_len, h1]; exact Nat.le_refl _))
  · intro h
    exact ⟨h.len, h.nd, fun x hx => rgI_mem.mpr (h.bd x hx)⟩
theorem ordL_nd {n : Nat} (h2 : 2 ≤ n) (h5 : n ≤ 5) : (ordL n).Nodup := by
  have key : ∀ m ∈ [2, 3, 4, 5], (ordL m).Nodup := by decide +kernel
  exact key n (by simp; omega)
/-! ### one order after another -/
def comp (a b : List Int) : List Int := b.map fun k => a.getD k.toNat 0
theorem comp_len (a b : List Int) : (comp a b).length = b.length := by simp [comp]
theorem getD_map {α β : Type} (f : α → β) (d : α) (e : β) {xs : List α} {k : Nat} (h : k < xs.length) : (xs.map f).getD k e = f (xs.getD k d) := by
  simp [List.getD_eq_getElem?_getD, List.getElem?_map, List.getElem?_eq_getElem h]
theorem comp_getD {a b : List Int} {k : Nat} (h : k < b.length) : (comp a b).getD k 0 = a.getD (b.getD k 0).toNat 0 := getD_map (fun k : Int => a.getD k.toNat 0) 0 0 h
theorem comp_id_l {n : Nat} {v : List Int} (h : ∀ x ∈ v, 0 ≤ x ∧ x < n) : comp (rgI n) v = v := by
  unfold comp
  conv => rhs; rw [← List.map_id v]
  apply List.map_congr_left
  intro x hx
  have := h x hx
  rw [rgI_getD (by omega)]
  simp; omega
theorem comp_id_r {n : Nat} {b : List Int} (h : b.length = n) : comp b (rgI n) = b := by
  unfold comp rgI
  rw [List.map_map]
  subst h
  have := map_range_getD (fun x : Int => x) 0 b
  simp at this ⊢
  exact this
theorem comp_assoc {a b c : List Int} (h : ∀ x ∈ c, 0 ≤ x ∧ x < b.length) : comp (comp a b) c = comp a (comp b c) := by
  unfold comp
  rw [List.map_map]
  apply List.map_congr_left
  intro x hx
  have := h x hx
  exact getD_map (fun k : Int => a.getD k.toNat 0) 0 0 (by omega)
theorem Ordr.comp {n : Nat} {o p : List Int} (h : Ordr n o) (g : Ordr n p) : Ordr n (comp o p) := by
  refine ordr_of ?_
  have e : (rgI n).map (fun k => o.getD k.toNat 0) = o := comp_id_r h.len
  have := g.perm.map fun k : Int => o.getD k.toNat 0
  rw [e] at this
  exact this.trans h.perm
theorem getD_inj {o : List Int} (h : o.Nodup) {i j : Nat} (hi : i < o.length) (hj : j < o.length) (e : o.getD i 0 = o.getD j 0) : i = j := by
  rw [List.getD_eq_getElem?_getD, List.getD_eq_getElem?_getD, List.getElem?_eq_getElem hi, List.getElem?_eq_getElem hj] at e
  have e : o[i] = o[j] := e
  have hp := List.pairwise_iff_getElem.mp h
  rcases Nat.lt_trichotomy i j with z | z | z
  · exact absurd e (hp i j hi hj z)
  · exact z
  · exact absurd e.symm (hp j i hj hi z)
theorem comp_inj {n : Nat} {o p q : List Int} (h : Ordr n o) (g : Ordr n p) (k : Ordr n q) (e : comp o p = comp o q) : p = q := by
  apply List.ext_getElem
  · rw [g.len, k.len]
  · intro i h1 h2
    have e1 : (comp o p).getD i 0 = (comp o q).getD i 0 := by rw [e]
    rw [comp_getD h1, comp_getD h2] at e1
    have b1 := g.bd _ (getD_mem 0 h1)
    have b2 := k.bd _ (getD_mem 0 h2)
    have := getD_inj h.nd (by rw [h.len]; omega) (by rw [h.len]; omega) e1
    rw [List.getD_eq_getElem?_getD, List.getElem?_eq_getElem h1] at this b1
    rw [List.getD_eq_getElem?_getD, List.getElem?_eq_getElem h2] at this b2
    simp at this b1 b2
    omega
theorem nodup_map {α β : Type} {f : α → β} : ∀ {xs : List α}, (∀ a ∈ xs, ∀ b ∈ xs, f a = f b → a = b) → xs.Nodup → (xs.map f).Nodup
  | [], _, _ => List.Pairwise.nil
  | x :: r, h, hn => by
    obtain ⟨h1, h2⟩ := List.nodup_cons.mp hn
    rw [List.map_cons, List.nodup_cons]
    refine ⟨fun z => ?_, nodup_map (fun a ha b hb => h a (List.mem_cons_of_mem _ ha) b (List.mem_cons_of_mem _ hb)) h2⟩
    obtain ⟨y, hy, e⟩ := List.mem_map.mp z
    exact h1 (h x List.mem_cons_self y (List.mem_cons_of_mem _ hy) e.symm ▸ hy)
theorem comp_perm {n : Nat} (h2 : 2 ≤ n) (h5 : n ≤ 5) {o : List Int} (h : Ordr n o) : ((ordL n).map (comp o)).Perm (ordL n) := by
  refine sub_perm (nodup_map (fun a ha b hb e => comp_inj h (mem_ordL.mp ha) (mem_ordL.mp hb) e) (ordL_nd h2 h5)) (fun x hx => ?_) (by simp)
  obtain ⟨p, hp, rfl⟩ := List.mem_map.mp hx
  exact mem_ordL.mpr (h.comp (mem_ordL.mp hp))
theorem inv_ex {n : Nat} (h2 : 2 ≤ n) (h5 : n ≤ 5) {o : List Int} (h : Ordr n o) : ∃ v, Ordr n v ∧ comp o v = rgI n ∧ comp v o = rgI n := by
  have hid : rgI n ∈ ordL n := mem_ordL.mpr (ordr_of (.refl _))
  obtain ⟨v, hv, e⟩ := List.mem_map.mp ((comp_perm h2 h5 h).mem_iff.mpr hid)
  have hv := mem_ordL.mp hv
  refine ⟨v, hv, e, comp_inj h (hv.comp h) (ordr_of (.refl _)) ?_⟩
  rw [← comp_assoc (fun x hx => by rw [hv.len]; exact h.bd x hx), e, comp_id_l h.bd, comp_id_r h.len]
theorem comp_perm_r {n : Nat} (h2 : 2 ≤ n) (h5 : n ≤ 5) {v : List Int} (h : Ordr n v) : ((ordL n).map fun p => comp p v).Perm (ordL n) := by
  obtain ⟨u, hu, e1, e2⟩ := inv_ex h2 h5 h
  refine sub_perm (nodup_map (fun a ha b hb e => ?_) (ordL_nd h2 h5)) (fun x hx => ?_) (by simp)
  · have ha := mem_ordL.mp ha
    have hb := mem_ordL.mp hb
    have : comp (comp a v) u = comp (comp b v) u := congrArg (fun l => comp l u) e
    rw [comp_assoc (fun x hx => by rw [h.len]; exact hu.bd x hx), comp_assoc (fun x hx => by rw [h.len]; exact hu.bd x hx), e1, comp_id_r ha.len, comp_id_r hb.len] at this
    exact this
  · obtain ⟨p, hp, rfl⟩ := List.mem_map.mp hx
    exact mem_ordL.mpr ((mem_ordL.mp hp).comp h)
/-! ### tables renamed -/
theorem sum_perm {α : Type} (f : α → Int) {xs ys : List α} (h : xs.Perm ys) : (xs.map f).sum = (ys.map f).sum := by
  induction h with
  | nil => rfl
  | cons x _ ih => simp [ih]
  | swap x y l => simp; omega
  | trans _ _ h1 h2 => rw [h1, h2]
theorem sum_rgI {n : Nat} (f : Int → Int) : ((rgI n).map f).sum = ((List.range n).map fun (k : Nat) => f (k : Int)).sum := by
  unfold rgI; rw [List.map_map]; rfl
theorem Ordr.sum {n : Nat} {o : List Int} (h : Ordr n o) (f : Int → Int) : (o.map f).sum = ((List.range n).map fun (k : Nat) => f (k : Int)).sum := by
  rw [sum_perm f h.perm, sum_rgI]
theorem range_sum {n : Nat} {r : List Int} (h : r.length = n) : ((List.range n).map fun k => r.getD k 0).sum = r.sum := by
  subst h
  have := map_range_getD (fun x : Int => x) 0 r
  rw [List.map_id'] at this
  rw [this]
theorem ren_len (t : List (List Int)) (o : List Int) : (ren t o).length = t.length := by simp [ren]
theorem ren_cel {t : List (List Int)} {o : List Int} {a b : Nat} (ha : a < t.length) (hb : b < o.length) : cel (ren t o) a b = cel t a (o.getD b 0).toNat := by
  unfold cel ren
  rw [getD_map (fun r : List Int => o.map fun k : Int => r.getD k.toNat 0) [] [] ha]
  exact getD_map (fun k : Int => (t.getD a []).getD k.toNat 0) 0 0 hb
theorem ren_rows {t : List (List Int)} (T : Tab t) {o : List Int} (h : Ordr t.length o) : (ren t o).map List.sum = t.map List.sum := by
  unfold ren
  rw [List.map_map]
  apply List.map_congr_left
  intro r hr
  show (o.map fun k => r.getD k.toNat 0).sum = r.sum
  rw [h.sum, ← range_sum (T.row r hr)]
  rfl
theorem ren_tab {t : List (List Int)} (T : Tab t) {o : List Int} (h : Ordr t.length o) : Tab (ren t o) where
  n2 := by rw [ren_len]; exact T.n2
  n5 := by rw [ren_len]; exact T.n5
  row := fun r hr => by
    obtain ⟨q, _, rfl⟩ := List.mem_map.mp hr
    rw [ren_len, List.length_map, h.len]
  pos := fun r hr x hx => by
    obtain ⟨q, hq, rfl⟩ := List.mem_map.mp hr
    obtain ⟨k, hk, rfl⟩ := List.mem_map.mp hx
    have := h.bd k hk
    exact T.pos q hq _ (getD_mem 0 (by rw [T.row q hq]; omega))
  s1 := by rw [ren_rows T h]; exact T.s1
  s60 := by rw [ren_rows T h]; exact T.s60
theorem sum_congr {α : Type} {f g : α → Int} {xs : List α} (h : ∀ x ∈ xs, f x = g x) : (xs.map f).sum = (xs.map g).sum := by rw [List.map_congr_left h]
theorem ren_agr {t : List (List Int)} {o : List Int} (h : Ordr t.length o) : agr (ren t o) = cnt t o := by
  unfold agr cnt
  rw [ren_len]
  exact sum_congr fun k hk => ren_cel (List.mem_range.mp hk) (by rw [h.len]; exact List.mem_range.mp hk)
theorem ren_cnt {t : List (List Int)} {o p : List Int} (h : Ordr t.length o) (g : Ordr t.length p) : cnt (ren t o) p = cnt t (comp o p) := by
  unfold cnt
  rw [ren_len]
  refine sum_congr fun k hk => ?_
  have hk := List.mem_range.mp hk
  have hp := g.bd (p.getD k 0) (getD_mem 0 (by rw [g.len]; exact hk))
  rw [ren_cel hk (by rw [h.len]; omega), comp_getD (by rw [g.len]; exact hk)]
theorem ren_ren {t : List (List Int)} {o p : List Int} (h : Ordr t.length o) (g : Ordr t.length p) : ren (ren t o) p = ren t (comp o p) := by
  unfold ren comp
  rw [List.map_map]
  apply List.map_congr_left
  intro r _
  show (p.map fun k : Int => (o.map fun k : Int => r.getD k.toNat 0).getD k.toNat 0) = (p.map fun k => o.getD k.toNat 0).map fun k => r.getD k.toNat 0
  rw [List.map_map]
  apply List.map_congr_left
  intro k hk
  have := g.bd k hk
  exact getD_map (fun k : Int => r.getD k.toNat 0) 0 0 (by rw [h.len]; omega)
theorem ren_id {t : List (List Int)} (T : Tab t) : ren t (rgI t.length) = t := by
  unfold ren
  conv => rhs; rw [← List.map_id t]
  apply List.map_congr_left
  intro r hr
  have := map_range_getD (fun x : Int => x) 0 r
  rw [T.row r hr, List.map_id'] at this
  unfold rgI
  rw [List.map_map]
  exact this
theorem cnts_ren {t : List (List Int)} (T : Tab t) {o : List Int} (h : Ordr t.length o) : (cnts (ren t o)).Perm (cnts t) := by
  unfold cnts
  rw [ren_len]
  have e : (ordL t.length).map (cnt (ren t o)) = ((ordL t.length).map (comp o)).map (cnt t) := by
    rw [List.map_map]
    exact List.map_congr_left fun p hp => ren_cnt h (mem_ordL.mp hp)
  rw [e]
  exact (comp_perm T.n2 T.n5 h).map _
theorem rc_perm {cs ds : List Int} (h : cs.Perm ds) : rcOf cs = rcOf ds := by
  unfold rcOf
  have e : sortI (dedupI cs) = sortI (dedupI ds) := srt_uniq ((sortI_perm _).trans ((nd_perm (dedupI_nd cs) (dedupI_nd ds) fun k => by rw [dedupI_mem, dedupI_mem, h.mem_iff]).trans (sortI_perm _).symm)) (sortI_srt _) (sortI_srt _)
  rw [e]
  apply List.map_congr_left
  intro m _
  rw [h.count_eq]
theorem max_perm {cs ds : List Int} (h : cs.Perm ds) : maxI cs = maxI ds := by
  cases hd : ds with
  | nil => subst hd; rw [List.perm_nil.mp h]
  | cons d r =>
    obtain ⟨m, e⟩ := maxI_some (ns := ds) (by rw [hd]; simp)
    obtain ⟨a1, a2⟩ := maxI_ok e
    rw [hd] at e
    rw [e]
    exact maxI_is (h.mem_iff.mpr a1) fun y hy => a2 y (h.mem_iff.mp hy)
/-- the columns of a renamed table -/
theorem cls_getD {t : List (List Int)} {k : Nat} (h : k < t.length) : (cls t).getD k 0 = (t.map fun r => r.getD k 0).sum := by
  unfold cls
  simp [h]
theorem ren_cls {t : List (List Int)} {o : List Int} (h : Ordr t.length o) : cls (ren t o) = o.map fun k => (cls t).getD k.toNat 0 := by
  have e : o.map (fun k => (cls t).getD k.toNat 0) = (List.range t.length).map fun j => (cls t).getD (o.getD j 0).toNat 0 := by
    have := map_range_getD (fun k : Int => (cls t).getD k.toNat 0) 0 o
    rw [h.len] at this
    exact this.symm
  rw [e]
  unfold cls
  rw [ren_len]
  apply List.map_congr_left
  intro j hj
  have hj := List.mem_range.mp hj
  have hb := h.bd (o.getD j 0) (getD_mem 0 (by rw [h.len]; exact hj))
  show _ = (cls t).getD (o.getD j 0).toNat 0
  rw [cls_getD (by omega)]
  unfold ren
  rw [List.map_map]
  refine sum_congr fun r _ => ?_
  exact getD_map (fun k : Int => r.getD k.toNat 0) 0 0 (by rw [h.len]; exact hj)
/-! ### tables reordered -/
theorem reo_len (t : List (List Int)) (o : List Int) : (reo t o).length = o.length := by simp [reo]
theorem reo_cel {t : List (List Int)} {o : List Int} {a b : Nat} (ha : a < o.length) (hb : b < o.length) : cel (reo t o) a b = cel t (o.getD a 0).toNat (o.getD b 0).toNat := by
  unfold cel reo
  rw [getD_map (fun a : Int => o.map fun b : Int => cel t a.toNat b.toNat) 0 [] ha, getD_map (fun b : Int => cel t (o.getD a 0).toNat b.toNat) 0 0 hb]
  rfl
theorem row_sum {t : List (List Int)} (T : Tab t) {k : Nat} (hk : k < t.length) : ((List.range t.length).map fun j => cel t k j).sum = (t.getD k []).sum := range_sum (T.rowk hk)
theorem reo_whole {t : List (List Int)} (T : Tab t) {o : List Int} (h : Ordr t.length o) : ((reo t o).map List.sum).sum = (t.map List.sum).sum := by
  have e1 : (reo t o).map List.sum = o.map fun a => (t.getD a.toNat []).sum := by
    unfold reo
    rw [List.map_map]
    apply List.map_congr_left
    intro a ha
    have := h.bd a ha
    show (o.map fun b => cel t a.toNat b.toNat).sum = _
    rw [h.sum]
    exact row_sum T (by omega)
  rw [e1, h.sum]
  have := map_range_getD List.sum [] t
  rw [← this]
  rfl
theorem reo_tab {t : List (List Int)} (T : Tab t) {o : List Int} (h : Ordr t.length o) : Tab (reo t o) where
  n2 := by rw [reo_len, h.len]; exact T.n2
  n5 := by rw [reo_len, h.len]; exact T.n5
  row := fun r hr => by
    obtain ⟨q, _, rfl⟩ := List.mem_map.mp hr
    rw [reo_len, List.length_map]
  pos := fun r hr x hx => by
    obtain ⟨q, hq, rfl⟩ := List.mem_map.mp hr
    obtain ⟨k, hk, rfl⟩ := List.mem_map.mp hx
    exact T.cel_pos _ _
  s1 := by rw [reo_whole T h]; exact T.s1
  s60 := by rw [reo_whole T h]; exact T.s60
theorem sum_by {n : Nat} {o : List Int} (h : Ordr n o) (f : Nat → Int) : ((List.range n).map fun i => f (o.getD i 0).toNat).sum = ((List.range n).map f).sum := by
  have e := map_range_getD (fun k : Int => f k.toNat) 0 o
  rw [h.len] at e
  rw [e, h.sum]
  rfl
theorem reo_agr {t : List (List Int)} {o : List Int} (h : Ordr t.length o) : agr (reo t o) = agr t := by
  unfold agr
  rw [reo_len, h.len, ← sum_by h fun k => cel t k k]
  exact sum_congr fun k hk => reo_cel (by rw [h.len]; exact List.mem_range.mp hk) (by rw [h.len]; exact List.mem_range.mp hk)
theorem cnts_reo {t : List (List Int)} (T : Tab t) {o : List Int} (h : Ordr t.length o) : (cnts (reo t o)).Perm (cnts t) := by
  obtain ⟨v, hv, e1, e2⟩ := inv_ex T.n2 T.n5 h
  unfold cnts
  rw [reo_len, h.len]
  have e : (ordL t.length).map (cnt (reo t o)) = (((ordL t.length).map fun p => comp p v).map (comp o)).map (cnt t) := by
    rw [List.map_map, List.map_map]
    apply List.map_congr_left
    intro p hp
    have hp := mem_ordL.mp hp
    show cnt (reo t o) p = cnt t (comp o (comp p v))
    unfold cnt
    rw [reo_len, h.len, ← sum_by h fun k => cel t k ((comp o (comp p v)).getD k 0).toNat]
    refine sum_congr fun i hi => ?_
    have hi := List.mem_range.mp hi
    have ho := h.bd (o.getD i 0) (getD_mem 0 (by rw [h.len]; exact hi))
    have hpi := hp.bd (p.getD i 0) (getD_mem 0 (by rw [hp.len]; exact hi))
    have hvi : v.getD (o.getD i 0).toNat 0 = (i : Int) := by
      have : (comp v o).getD i 0 = (rgI t.length).getD i 0 := by rw [e2]
      rw [comp_getD (by rw [h.len]; exact hi), rgI_getD hi] at this
      exact this
    rw [reo_cel (by rw [h.len]; exact hi) (by rw [h.len]; omega), comp_getD (by rw [comp_len, hv.len]; omega), comp_getD (by rw [hv.len]; omega), hvi]
    rfl
  rw [e]
  exact (((comp_perm_r T.n2 T.n5 hv).map _).trans (comp_perm T.n2 T.n5 h)).map _
theorem cls_sum {t : List (List Int)} (hr : ∀ r ∈ t, r.length = t.length) : (cls t).sum = (t.map List.sum).sum := by
  unfold cls
  rw [sum_swap (fun (k : Nat) (r : List Int) => r.getD k 0)]
  refine sum_congr fun r h => ?_
  exact range_sum (hr r h)
theorem tab_ext {s t : List (List Int)} {n : Nat} (hs : s.length = n) (ht : t.length = n) (rs : ∀ r ∈ s, r.length = n) (rt : ∀ r ∈ t, r.length = n) (h : ∀ a b, a < n → b < n → cel s a b = cel t a b) : s = t := by
  apply List.ext_getElem (by omega)
  intro a h1 h2
  have q1 := rs _ (List.getElem_mem h1)
  have q2 := rt _ (List.getElem_mem h2)
  apply List.ext_getElem (by omega)
  intro b k1 k2
  have := h a b (by omega) (by omega)
  unfold cel at this
  simpa [List.getD_eq_getElem?_getD, List.getElem?_eq_getElem h1, List.getElem?_eq_getElem h2, List.getElem?_eq_getElem k1, List.getElem?_eq_getElem k2] using this
def trn (t : List (List Int)) : List (List Int) := (List.range t.length).map fun k => t.map fun r => r.getD k 0
theorem trn_len (t : List (List Int)) : (trn t).length = t.length := by simp [trn]
theorem trn_row (t : List (List Int)) : ∀ r ∈ trn t, r.length = (trn t).length := fun r hr => by
  rw [trn_len]
  obtain ⟨k, _, rfl⟩ := List.mem_map.mp hr
  simp
theorem trn_cel {t : List (List Int)} {a b : Nat} (ha : a < t.length) (hb : b < t.length) : cel (trn t) a b = cel t b a := by
  unfold cel trn
  rw [getD_map (fun (k : Nat) => t.map fun r => r.getD k 0) 0 [] (by simpa using ha), getD_map (fun r : List Int => r.getD ((List.range t.length).getD a 0) 0) [] 0 hb]
  simp [List.getD_eq_getElem?_getD, ha]
theorem trn_rows {t : List (List Int)} : (trn t).map List.sum = cls t := by
  unfold trn cls
  rw [List.map_map]
  rfl
theorem trn_whole {t : List (List Int)} (hr : ∀ r ∈ t, r.length = t.length) : ((trn t).map List.sum).sum = (t.map List.sum).sum := by rw [trn_rows, cls_sum hr]
theorem trn_tab {t : List (List Int)} (T : Tab t) : Tab (trn t) where
  n2 := by rw [trn_len]; exact T.n2
  n5 := by rw [trn_len]; exact T.n5
  row := trn_row t
  pos := fun r hr x hx => by
    obtain ⟨k, _, rfl⟩ := List.mem_map.mp hr
    obtain ⟨s, hs, rfl⟩ := List.mem_map.mp hx
    rw [List.getD_eq_getElem?_getD]
    cases q : s[k]? with
    | none => simp
    | some y => simpa using T.pos s hs y (List.mem_of_getElem? q)
  s1 := by rw [trn_whole T.row]; exact T.s1
  s60 := by rw [trn_whole T.row]; exact T.s60
theorem s_exchanged {t : List (List Int)} (T : Tab t) (w : Wo) : d_exchanged [enc t] w = .ok (enc (trn t)) w := by
  have n5 := T.n5
  have c1 : ∀ (k : Nat) (w : Wo), k < t.length → compG (fun (r : List Int) w => (lift (ixO w (enc r) (enc (k : Int))) w).bind fun x3 w => .ok (some x3) w) t w = .ok (t.map fun r => enc (r.getD k 0)) w := fun k w hk => compG_eq _ fun r hr => by
    have := T.row r hr
    have : ∀ w : Wo, ixO w (enc r) (enc (k : Int)) = some (enc (r.getD k 0)) := fun w => by rw [ix_enc, atI_I _ _ (by omega) (by omega)]; rfl
    simp only [this, lift_some, bind_ok]
  have c2 : ∀ w : Wo, compG (fun (k : Nat) w => (((lift (it1 (enc t :: [])) w).bind fun l7 w => (calmR (compR (fun d3 w => (lift (ixO w d3 (enc (k : Int))) w).bind fun x4 w => .ok (some x4) w) l7 w)).bind fun l8 w => .ok (.list l8) w)).bind fun x9 w => .ok (some x9) w) (List.range t.length) w = .ok ((List.range t.length).map fun k => enc (t.map fun r => r.getD k 0)) w := fun w => compG_eq _ fun k hk => by
    simp only [it1_enc, lift_some, bind_ok, compR_map, c1 k w (List.mem_range.mp hk), calm_ok, list_enc]
  rw [m_exchanged, t_exchanged_t_0]
  simp only [s_check_table T, onE_ok, sq_nx]
  rw [t_exchanged_t_1]
  simp only [it1_enc, lift_some, bind_ok, compR_map] at c2
  simp only [List.map_cons, List.map_nil, dr_enc, len_enc, it1_enc, lift_some, bind_ok, rg1_enc _ (show ((t.length : Int)).natAbs ≤ 1000000 by omega), Int.toNat_natCast, compR_map, c2, calm_ok, list_enc]
  rw [show ((List.range t.length).map fun k => t.map fun r => r.getD k 0) = trn t from rfl]
  simp only [onE_ok, flat_enc _ _ (show Dt.ld (List (List Int)) ≤ 2 by decide), flat_enc _ _ (show Dt.ld (List (List Int)) ≤ 10 by decide), flat_enc _ _ (show Dt.ld (List (List Int)) ≤ 11 by decide), guardS_true, sq_rt, endR_rt]
theorem s_tab (ns nums : List Int) (k : Int) (hn : nums ≠ []) : ∃ (t : List (List Int)) (nums' : List Int) (k' : Int), d_law_table [hdl 2, enc (5 : Int)] (wo ns nums k []) = .ok (enc t) (wo ns nums' k' []) ∧ nums' ≠ [] ∧ Tab t ∧ (t.map List.sum).sum ≤ 40 := by
  obtain ⟨one, other, n, n1, k1, e1, hn1, n2, n4, hlen, l1, l2, b1, b2⟩ := s_table ns nums k [] 5 hn (by omega) (by omega)
  refine ⟨tabOf one other n, n1, k1, e1, hn1, tabOf_tab n2 (by omega) b1 b2 hlen l1 (by omega), ?_⟩
  rw [tab_sum b1 b2 hlen]
  omega
theorem remI_mem : ∀ {ns : List Int} {k : Int}, k ∈ ns → remI k ns = some (ns.erase k)
  | n :: r, k, h => by
    unfold remI
    by_cases e : n = k
    · rw [if_pos e, e, List.erase_cons_head]
    · rw [if_neg e, remI_mem ((List.mem_cons.mp h).resolve_left fun z => e z.symm), List.erase_cons_tail (by simpa using e)]
      rfl
theorem rem_enc {xs : List Int} {x : Int} (h : x ∈ xs) : remD (enc xs) (enc x) = some (enc (xs.erase x)) := by
  show (intsOf (xs.map enc)).bind (fun ns => (remI x ns).map fun ms => PyData.list (ms.map .int)) = _
  have e : intsOf (xs.map enc) = some xs := by
    clear h
    induction xs with
    | nil => rfl
    | cons y r ih =>
      show (intsOf (r.map enc)).map (y :: ·) = _
      rw [ih]; rfl
  rw [e]
  show (remI x xs).map (fun ms => PyData.list (ms.map .int)) = _
  rw [remI_mem h]
  rfl
theorem order_loop {t : Rho → Wo → Res Wo Bool} {b : Rho → Wo → SRes Wo} {ns : List Int} (R : List Int → List Int → Rho) (left0 : List Int) (h5 : left0.length ≤ 5)
    (ht : ∀ left ord w, t (R left ord) w = .ok (!decide (left = [])) w)
    (hb : ∀ left ord nums k, left ≠ [] → left.length + ord.length ≤ 5 → nums ≠ [] → ∃ v nums', v ∈ left ∧ nums' ≠ [] ∧ b (R left ord) (wo ns nums k []) = .nx (R (left.erase v) (ord ++ [v])) (wo ns nums' (k + 1) []))
    (nums : List Int) (k : Int) (hn : nums ≠ []) : ∃ ord nums' k', ord.Perm left0 ∧ nums' ≠ [] ∧ whileR t b 200 (R left0 []) (wo ns nums k []) = .nx (R [] ord) (wo ns nums' k' []) := by
  obtain ⟨ρ, w, e, ord, nums', k', rfl, rfl, hn', hp⟩ := while_inv (t := t) (b := b) (fun m ρ w => ∃ left ord nums k, ρ = R left ord ∧ w = wo ns nums k [] ∧ nums ≠ [] ∧ left.length = m ∧ (left ++ ord).Perm left0) (fun ρ w => ∃ ord nums k, ρ = R [] ord ∧ w = wo ns nums k [] ∧ nums ≠ [] ∧ ord.Perm left0) 200 left0.length _ _ (by omega) ⟨left0, [], nums, k, rfl, rfl, hn, rfl, by simp⟩ (by
    rintro m ρ w ⟨left, ord, nums, k, rfl, rfl, hn, hl, hp⟩
    by_cases h : left = []
    · subst h
      exact Or.inl ⟨by rw [ht]; rfl, ord, nums, k, rfl, rfl, hn, by simpa using hp⟩
    · have hlen := hp.length_eq
      rw [List.length_append] at hlen
      obtain ⟨v, nums', hv, hn', e⟩ := hb left ord nums k h (by omega) hn
      refine Or.inr ⟨by rw [ht, decide_eq_false h]; rfl, (left.erase v).length, _, _, ?_, e, left.erase v, ord ++ [v], nums', k + 1, rfl, rfl, hn', rfl, ?_⟩
      · rw [List.length_erase_of_mem hv]
        have := List.length_pos_iff.mpr h
        omega
      · refine List.Perm.trans ?_ hp
        have h1 : left.Perm (v :: left.erase v) := List.perm_cons_erase hv
        refine List.Perm.trans ?_ (h1.append_right ord).symm
        rw [← List.append_assoc]
        exact List.perm_append_comm.trans (by simp))
  exact ⟨ord, nums', k', hp, hn', e⟩
theorem rgI_map (n : Nat) : ((List.range n).map fun (k : Nat) => (k : Int)) = rgI n := by
  apply List.ext_getElem
  · simp [rgI_len]
  · intro i h1 h2
    have hi : i < n := by simpa using h1
    have := rgI_getD hi
    rw [List.getD_eq_getElem?_getD, List.getElem?_eq_getElem h2] at this
    simpa using this.symm
/-! ## renaming twice, both renamed -/
theorem reo_reo {t : List (List Int)} {o p : List Int} (h : Ordr t.length o) (g : Ordr t.length p) : reo (reo t o) p = reo t (comp o p) := by
  unfold comp
  show p.map (fun a => p.map fun b => cel (reo t o) a.toNat b.toNat) = (p.map fun k => o.getD k.toNat 0).map fun a => (p.map fun k => o.getD k.toNat 0).map fun b => cel t a.toNat b.toNat
  rw [List.map_map]
  refine List.map_congr_left fun a ha => ?_
  show _ = ((p.map fun k => o.getD k.toNat 0).map fun b => cel t (o.getD a.toNat 0).toNat b.toNat)
  rw [List.map_map]
  refine List.map_congr_left fun b hb => ?_
  have a1 := g.bd a ha
  have b1 := g.bd b hb
  have hl := h.len
  exact reo_cel (by omega) (by omega)
theorem reo_row (t : List (List Int)) (o : List Int) : ∀ r ∈ reo t o, r.length = o.length := fun r hr => by
  obtain ⟨a, _, rfl⟩ := List.mem_map.mp hr
  simp
theorem ren_row (t : List (List Int)) (o : List Int) : ∀ r ∈ ren t o, r.length = o.length := fun r hr => by
  obtain ⟨a, _, rfl⟩ := List.mem_map.mp hr
  simp
theorem trn_ren2 {t : List (List Int)} {o : List Int} (h : Ordr t.length o) : trn (ren (trn (ren t o)) o) = reo t o := by
  have hl := h.len
  refine tab_ext (n := t.length) (by rw [trn_len, ren_len, trn_len, ren_len]) (by rw [reo_len, hl]) (fun r hr => by rw [trn_row _ r hr, trn_len, ren_len, trn_len, ren_len]) (fun r hr => by rw [reo_row _ _ r hr, hl]) fun a b ha hb => ?_
  have oa := h.bd (o.getD a 0) (getD_mem 0 (by omega))
  rw [trn_cel (by rw [ren_len, trn_len, ren_len]; exact ha) (by rw [ren_len, trn_len, ren_len]; exact hb)]
  rw [ren_cel (by rw [trn_len, ren_len]; exact hb) (by omega)]
  rw [trn_cel (by rw [ren_len]; exact hb) (by rw [ren_len]; omega)]
  rw [ren_cel (by omega) (by omega), reo_cel (by omega) (by omega)]
/-! ## the way back of an order -/
open Classical in
noncomputable def invO (n : Nat) (o : List Int) : List Int := if h : ∃ v, Ordr n v ∧ comp o v = rgI n ∧ comp v o = rgI n then h.choose else []
theorem invO_ok {n : Nat} (h2 : 2 ≤ n) (h5 : n ≤ 5) {o : List Int} (h : Ordr n o) : Ordr n (invO n o) ∧ comp o (invO n o) = rgI n ∧ comp (invO n o) o = rgI n := by
  have e := inv_ex h2 h5 h
  unfold invO
  rw [dif_pos e]
  exact e.choose_spec
theorem invO_inj {n : Nat} (h2 : 2 ≤ n) (h5 : n ≤ 5) {o p : List Int} (h : Ordr n o) (g : Ordr n p) (e : invO n o = invO n p) : o = p := by
  obtain ⟨h1, h3, h4⟩ := invO_ok h2 h5 h
  obtain ⟨g1, g3, g4⟩ := invO_ok h2 h5 g
  refine comp_inj h1 h g ?_
  rw [h4, e, g4]
theorem inv_perm {n : Nat} (h2 : 2 ≤ n) (h5 : n ≤ 5) : ((ordL n).map (invO n)).Perm (ordL n) := by
  refine sub_perm (nodup_map (fun a ha b hb e => invO_inj h2 h5 (mem_ordL.mp ha) (mem_ordL.mp hb) e) (ordL_nd h2 h5)) (fun x hx => ?_) (by simp)
  obtain ⟨o, ho, rfl⟩ := List.mem_map.mp hx
  exact mem_ordL.mpr (invO_ok h2 h5 (mem_ordL.mp ho)).1
theorem trn_cnt {t : List (List Int)} {o v : List Int} (h : Ordr t.length o) (g : Ordr t.length v) (e : comp o v = rgI t.length) : cnt (trn t) v = cnt t o := by
  unfold cnt
  rw [trn_len]
  have hl := h.len
  have gl := g.len
  have e1 : ((List.range t.length).map fun k => cel (trn t) k (v.getD k 0).toNat).sum = ((List.range t.length).map fun k => (fun j => cel t j (o.getD j 0).toNat) (v.getD k 0).toNat).sum := by
    refine sum_congr fun k hk => ?_
    have hk := List.mem_range.mp hk
    have vk := g.bd (v.getD k 0) (getD_mem 0 (by omega))
    rw [trn_cel hk (by omega)]
    show _ = cel t (v.getD k 0).toNat (o.getD (v.getD k 0).toNat 0).toNat
    have : (comp o v).getD k 0 = (k : Int) := by rw [e, rgI_getD hk]
    rw [comp_getD (by omega)] at this
    rw [this]
    simp
  rw [e1]
  exact sum_by g fun j => cel t j (o.getD j 0).toNat
theorem cnts_trn {t : List (List Int)} (T : Tab t) : (cnts (trn t)).Perm (cnts t) := by
  have h := (inv_perm T.n2 T.n5).map (cnt t)
  rw [List.map_map] at h
  refine List.Perm.trans ?_ h
  unfold cnts
  rw [trn_len]
  rw [List.map_congr_left (g := cnt t ∘ invO t.length) fun o ho => ?_]
  have h1 := mem_ordL.mp ho
  obtain ⟨h2, h3, h4⟩ := invO_ok T.n2 T.n5 h1
  exact trn_cnt h2 h1 h4
/-! ## counts of renamings -/
theorem srt_last {xs : List Int} (hs : xs.Pairwise (· ≤ ·)) (hx : xs ≠ []) : ∀ y ∈ xs, y ≤ xs.getD (xs.length - 1) 0 := by
  induction xs with
  | nil => exact absurd rfl hx
  | cons x r ih =>
    obtain ⟨h1, h2⟩ := List.pairwise_cons.mp hs
    cases r with
    | nil => intro y hy; simp at hy; subst hy; simp
    | cons z r =>
      have ih := ih h2 (by simp)
      intro y hy
      have e : (x :: z :: r).getD ((x :: z :: r).length - 1) 0 = (z :: r).getD ((z :: r).length - 1) 0 := by simp [List.getD_eq_getElem?_getD]
      rw [e]
      rcases List.mem_cons.mp hy with rfl | hy
      · exact Int.le_trans (h1 z List.mem_cons_self) (ih z List.mem_cons_self)
      · exact ih y hy
theorem rc_ne {cs : List Int} (h : cs ≠ []) : 0 < (rcOf cs).length := by
  unfold rcOf
  rw [List.length_map, (sortI_perm _).length_eq]
  cases cs with
  | nil => exact absurd rfl h
  | cons c r => exact List.length_pos_of_mem (dedupI_mem.mpr (List.mem_cons_self (a := c) (l := r)))
theorem rc_last {cs : List Int} {m : Int} (h : maxI cs = some m) : ((rcOf cs).getD ((rcOf cs).length - 1) (0, 0)).1 = m := by
  obtain ⟨h1, h2⟩ := maxI_ok h
  have hne : cs ≠ [] := fun z => by rw [z] at h1; cases h1
  have hl := rc_ne hne
  have hmem : ∀ x, x ∈ sortI (dedupI cs) ↔ x ∈ cs := fun x => (sortI_perm _).mem_iff.trans dedupI_mem
  have hl2 : (rcOf cs).length = (sortI (dedupI cs)).length := by simp [rcOf]
  rw [hl2] at hl ⊢
  unfold rcOf
  rw [getD_map (fun m => (m, ((cs.count m : Nat) : Int))) 0 (0, 0) (by omega)]
  show (sortI (dedupI cs)).getD _ 0 = m
  have q1 : (sortI (dedupI cs)).getD ((sortI (dedupI cs)).length - 1) 0 ∈ sortI (dedupI cs) := getD_mem 0 (by omega)
  have q2 := srt_last (sortI_srt (dedupI cs)) (List.ne_nil_of_length_pos hl) m ((hmem m).mpr h1)
  have q3 := h2 _ ((hmem _).mp q1)
  omega
theorem rc_many (cs : List Int) : ((rcOf cs).map fun p => p.2).sum = cs.length := by
  have key : ∀ (ms cs : List Int), ms.Nodup → (∀ x ∈ cs, x ∈ ms) → (ms.map fun m => ((cs.count m : Nat) : Int)).sum = cs.length := by
    intro ms cs hn
    induction cs with
    | nil =>
      intro _
      have : (ms.map fun m => (((([] : List Int).count m : Nat)) : Int)) = ms.map fun _ => (0 : Int) := List.map_congr_left fun m _ => by simp
      rw [this, sum_zero]; rfl
    | cons c cs ih =>
      intro h
      have ih := ih fun x hx => h x (List.mem_cons_of_mem _ hx)
      have e : (ms.map fun m => (((c :: cs).count m : Nat) : Int)) = ms.map fun m => ((cs.count m : Nat) : Int) + if c = m then 1 else 0 := by
        apply List.map_congr_left; intro m _
        rw [List.count_cons]
        by_cases hc : c = m
        · subst hc; simp
        · simp [hc]
      rw [e, sum_add, ih]
      have hone : ∀ (ms : List Int), ms.Nodup → c ∈ ms → (ms.map fun m => if c = m then (1 : Int) else 0).sum = 1 := by
        intro ms
        induction ms with
        | nil => intro _ h; cases h
        | cons m ms ih2 =>
          intro hn hm
          obtain ⟨n1, n2⟩ := List.nodup_cons.mp hn
          rw [List.map_cons, List.sum_cons]
          by_cases hc : c = m
          · subst hc
            have : (ms.map fun m => if c = m then (1 : Int) else 0) = ms.map fun _ => (0 : Int) := List.map_congr_left fun m hm' => if_neg fun (z : c = m) => n1 (z ▸ hm')
            rw [this, sum_zero]; simp
          · rcases List.mem_cons.mp hm with z | z
            · exact absurd z hc
            · rw [ih2 n2 z]; simp [hc]
      rw [hone ms hn (h c List.mem_cons_self)]; simp
  unfold rcOf
  rw [List.map_map]
  exact key (sortI (dedupI cs)) cs ((sortI_perm _).nodup_iff.mpr (dedupI_nd cs)) fun x hx => (sortI_perm _).mem_iff.mpr (dedupI_mem.mpr hx)
theorem sum_rep (f : Int → Int) (xs : List Int) : ∀ c : Nat, (((List.replicate c xs).flatten).map f).sum = c * (xs.map f).sum
  | 0 => by simp
  | c + 1 => by
    rw [List.replicate_succ, List.flatten_cons, List.map_append, List.sum_append, sum_rep f xs c]
    push_cast
    rw [Int.add_mul]; omega
theorem cnts_sum {t : List (List Int)} (T : Tab t) : (cnts t).sum * (t.length : Int) = (t.map List.sum).sum * ((ordL t.length).length : Int) := by
  have key : ∀ m ∈ [2, 3, 4, 5], ∃ c ∈ [1, 2, 6, 24], c * m = (ordL m).length ∧ ∀ k ∈ List.range m, ((ordL m).map fun o => o.getD k 0).Perm (List.replicate c (rgI m)).flatten := by decide +kernel
  obtain ⟨c, _, hc, hp⟩ := key t.length (by have := T.n2; have := T.n5; simp; omega)
  have e : (cnts t).sum = c * (t.map List.sum).sum := by
    unfold cnts cnt
    rw [sum_swap]
    have : (List.range t.length).map (fun k => ((ordL t.length).map fun o => cel t k (o.getD k 0).toNat).sum) = (List.range t.length).map fun k => c * (t.getD k []).sum := by
      apply List.map_congr_left
      intro k hk
      have e1 : ((ordL t.length).map fun o => cel t k (o.getD k 0).toNat) = ((ordL t.length).map fun o => o.getD k 0).map fun j => cel t k j.toNat := by rw [List.map_map]; rfl
      rw [e1, sum_perm _ (hp k hk), sum_rep, sum_rgI, ← row_sum T (List.mem_range.mp hk)]
      rfl
    rw [this]
    have hm : ∀ xs : List Nat, (xs.map fun k => (c : Int) * (t.getD k []).sum).sum = c * (xs.map fun k => (t.getD k []).sum).sum := by
      intro xs
      induction xs with
      | nil => simp
      | cons x r ih => rw [List.map_cons, List.sum_cons, ih, List.map_cons, List.sum_cons, Int.mul_add]
    rw [hm, map_range_getD List.sum [] t]
  rw [e, ← hc]
  push_cast
  rw [Int.mul_comm (c : Int), Int.mul_assoc]
theorem sum_le_len {b : Int} : ∀ {xs : List Int}, (∀ x ∈ xs, x ≤ b) → xs.sum ≤ b * (xs.length : Int)
  | [], _ => by simp
  | x :: r, h => by
    have h1 := h x List.mem_cons_self
    have h2 := sum_le_len (xs := r) fun y hy => h y (List.mem_cons_of_mem _ hy)
    rw [List.sum_cons, List.length_cons]
    push_cast
    rw [Int.mul_add]
    omega
theorem top_cases {t : List (List Int)} (T : Tab t) {b : Int} (h : maxI (cnts t) = some b) : (t.map List.sum).sum ≤ b * (t.length : Int) := by
  obtain ⟨_, h2⟩ := maxI_ok h
  have e := cnts_sum T
  have s := sum_le_len h2
  have hl : (cnts t).length = (ordL t.length).length := by simp [cnts]
  have hp : 0 < (ordL t.length).length := List.length_pos_iff.mpr (ordL_ne T.n2 T.n5)
  rw [hl] at s
  generalize (ordL t.length).length = L at e s hp
  generalize (cnts t).sum = S at e s
  generalize (t.map List.sum).sum = W at e ⊢
  have n2 := T.n2
  generalize t.length = n at e n2 ⊢
  have s2 := Int.mul_le_mul_of_nonneg_right s (show (0 : Int) ≤ (n : Int) by omega)
  rw [e] at s2
  have s3 : W * (L : Int) ≤ b * (n : Int) * (L : Int) := by
    rw [Int.mul_assoc b, Int.mul_comm (n : Int), ← Int.mul_assoc]; exact s2
  exact Int.le_of_mul_le_mul_right s3 (by omega)
theorem agr_cnt {t : List (List Int)} (T : Tab t) : agr t = cnt t (rgI t.length) := by
  have h := ren_agr (t := t) (ordr_of (List.Perm.refl (rgI t.length)))
  rw [ren_id T] at h
  exact h
theorem idx_mem {α : Type} [DecidableEq α] (d : α) {xs : List α} {a : α} (h : a ∈ xs) : ∃ j, xs.findIdx? (fun z => decide (z = a)) = some j ∧ j < xs.length ∧ xs.getD j d = a := by
  induction xs with
  | nil => cases h
  | cons x r ih =>
    by_cases hx : x = a
    · exact ⟨0, by simp [List.findIdx?_cons, hx], by simp, by simp [hx]⟩
    · rcases List.mem_cons.mp h with z | z
      · exact absurd z.symm hx
      · obtain ⟨j, e1, e2, e3⟩ := ih z
        exact ⟨j + 1, by simp [List.findIdx?_cons, hx, e1], by simp [e2], by simpa using e3⟩
/-! ## a table of unlike numbers -/
def alk (n : Nat) : List (List Int) := (List.range n).map fun (a : Nat) => (List.range n).map fun (b : Nat) => if a = b then 1 + (a : Int) else 0
theorem alk_len (n : Nat) : (alk n).length = n := by simp [alk]
theorem alk_tab {n : Nat} (h2 : 2 ≤ n) (h5 : n ≤ 5) : Tab (alk n) := by
  have key : ∀ m ∈ [2, 3, 4, 5], (∀ r ∈ alk m, r.length = (alk m).length) ∧ (∀ r ∈ alk m, ∀ x ∈ r, 0 ≤ x) ∧ 1 ≤ ((alk m).map List.sum).sum ∧ ((alk m).map List.sum).sum ≤ 60 := by decide +kernel
  obtain ⟨k1, k2, k3, k4⟩ := key n (by simp; omega)
  exact ⟨by rw [alk_len]; exact h2, by rw [alk_len]; exact h5, k1, k2, k3, k4⟩
theorem alk_best {n : Nat} (h2 : 2 ≤ n) (h5 : n ≤ 5) {q : List Int} (h : Ordr n q) (hq : cnt (alk n) (rgI n) ≤ cnt (alk n) q) : q = rgI n := by
  have key : ∀ m ∈ [2, 3, 4, 5], ∀ q ∈ ordL m, cnt (alk m) (rgI m) ≤ cnt (alk m) q → q = rgI m := by decide +kernel
  exact key n (by simp; omega) q (mem_ordL.mpr h) hq
theorem alk_own {n : Nat} (h2 : 2 ≤ n) (h5 : n ≤ 5) : bestOf (cnt (alk n)) [] (ordL n) = rgI n :=
  alk_best h2 h5 (mem_ordL.mp (best_in _ _ (ordL_ne h2 h5))) (best_le _ _ (ordL_ne h2 h5) (mem_ordL.mpr (ordr_of (List.Perm.refl _))))
theorem alk_ren {n : Nat} (h2 : 2 ≤ n) (h5 : n ≤ 5) {o : List Int} (h : Ordr n o) : ∃ j : Nat, o.findIdx? (fun z => decide (z = 0)) = some j ∧ (bestOf (cnt (ren (alk n) o)) [] (ordL n)).getD 0 0 = (j : Int) := by
  have hne := ordL_ne h2 h5
  have hl := alk_len n
  have hb : Ordr n (bestOf (cnt (ren (alk n) o)) [] (ordL n)) := mem_ordL.mp (best_in _ _ hne)
  have hle : ∀ q ∈ ordL n, cnt (ren (alk n) o) q ≤ cnt (ren (alk n) o) (bestOf (cnt (ren (alk n) o)) [] (ordL n)) := fun q hq => best_le _ _ hne hq
  generalize bestOf (cnt (ren (alk n) o)) [] (ordL n) = b at hb hle
  have h' : Ordr (alk n).length o := by rw [hl]; exact h
  have hb' : Ordr (alk n).length b := by rw [hl]; exact hb
  obtain ⟨v, hv, v1, v2⟩ := inv_ex h2 h5 h
  have hv' : Ordr (alk n).length v := by rw [hl]; exact hv
  have q := hle v (mem_ordL.mpr hv)
  rw [ren_cnt h' hv', ren_cnt h' hb', v1] at q
  have hc := alk_best h2 h5 (h.comp hb) q
  have ob := hb.len
  have oo := h.len
  have b0 := hb.bd (b.getD 0 0) (getD_mem 0 (by omega))
  have e0 : o.getD (b.getD 0 0).toNat 0 = 0 := by
    rw [← comp_getD (by omega), hc, rgI_getD (by omega)]; rfl
  have hm : (0 : Int) ∈ o := by rw [← e0]; exact getD_mem 0 (by omega)
  obtain ⟨j, j1, j2, j3⟩ := idx_mem 0 hm
  refine ⟨j, j1, ?_⟩
  have := getD_inj h.nd (i := j) (j := (b.getD 0 0).toNat) j2 (by omega) (by rw [j3, e0])
  omega
/-! ## rows of the law -/
theorem mt_ixTp (o : List Int) : mtD "index" (enc (Tp.mk o)) (.int 0) = (o.findIdx? fun z => decide (z = 0)).map fun (j : Nat) => enc (j : Int) := by
  show mtT "index" (o.map enc) (.int 0) = _
  unfold mtT
  rw [ints_enc]
  show (o.findIdx? fun z => z == 0).map (fun (j : Nat) => PyData.int (j : Nat)) = _
  have : (fun z : Int => z == 0) = fun z => decide (z = 0) := by funext z; rfl
  rw [this]
  rfl
theorem mtGo_ixTp (o : List Int) : mtGo "index" (enc (Tp.mk o)) = true := rfl
theorem list2_e {α R : Type} [DecidableEq α] [Dt α] (no : R) (x y : α) (k : D → D → R) : list2 no (enc [x, y]) k = k (enc x) (enc y) := rfl
theorem zr2_e {n : Nat} (h : n ≤ 1000000) : zr2 [enc (n : Int), enc (n : Int)] = some ((List.range n).map fun (k : Nat) => enc ((k : Int), (k : Int))) := by
  have hs : small (n : Int) = true := by unfold small; exact decide_eq_true (by omega)
  show (if small (n : Int) && small (n : Int) then some (zip2 (rangeL 0 (n : Int).toNat) (rangeL 0 (n : Int).toNat)) else none) = _
  rw [hs, Int.toNat_natCast, rangeL_eq]
  have e : ((List.range n).map fun (k : Nat) => (enc (0 + (k : Int)) : D)) = ((List.range n).map fun (k : Nat) => (k : Int)).map enc := by
    rw [List.map_map]
    exact List.map_congr_left fun k _ => by simp
  rw [e, zip2_map]
  have z : ∀ xs : List Int, xs.zip xs = xs.map fun x => (x, x) := fun xs => by
    induction xs with
    | nil => rfl
    | cons x r ih => rw [List.zip_cons_cons, ih]; rfl
  rw [z, List.map_map, List.map_map]
  rfl
def fl (t : List (List Int)) (os : List (Tp Int)) (tu l r : Option D) : Rho := [some (hdl 0), some (hdl 2), some (enc t), some (enc (t.length : Int)), some (enc os), tu, none, none, none, none, none, l, r, none, none, none]
theorem s_order_one {t : List (List Int)} (T : Tab t) (os : List (Tp Int)) (ho : os.length ≤ 10) (d : D) (tu l r : Option D) (ns nums : List Int) (k : Int) (hn : nums ≠ []) :
    ∃ ord nums' k', Ordr t.length ord ∧ nums' ≠ [] ∧ F_law_t_4 d (fl t os tu l r) (wo ns nums k []) = .nx (fl t (os ++ [Tp.mk ord]) (some d) (some (enc ([] : List Int))) (some (enc ord))) (wo ns nums' k' []) := by
  have n5 := T.n5
  obtain ⟨ord, n1, k1, hp, hn1, e⟩ := order_loop (t := W_law_8_1) (b := K_law [8, 2] 0) (ns := ns) (fun left ord => fl t os (some d) (some (enc left)) (some (enc ord))) (rgI t.length) (by rw [rgI_len]; exact n5) (by
    intro left ord w
    unfold fl
    rw [g_law_8_1]
    simp only [cmp_ne_nil _ (show Dt.dep Int ≤ 63 by decide), lift_some, bind_ok, bool_enc, asBool_enc]) (by
    intro left ord nums k hl h5 hn
    obtain ⟨j, n1, e1, hn1, hj⟩ := s_pick ns nums k [] left 0 rfl hn hl (by omega)
    have hv : left.getD j 0 ∈ left := getD_mem 0 hj
    refine ⟨left.getD j 0, n1, hv, hn1, ?_⟩
    generalize left.getD j 0 = v at e1 hv
    have i1 : ∀ w : Wo, ixO w (enc (ord ++ [v])) (enc (-1 : Int)) = some (enc v) := fun w => by
      rw [ix_enc, L2.atI_last]; rfl
    unfold fl
    rw [t_law_8_2_0]
    simp only [isList_enc, guardS_true, e1, onE_ok, app_enc ord v (by omega), lift_some, sq_nx]
    rw [t_law_8_2_1]
    simp only [isList_enc, guardS_true, int_enc, asInt_enc, Option.map_some, lift_some, bind_ok, i1, onE_ok, rem_enc hv, sq_nx, e_law_8_2]) nums k hn
  refine ⟨ord, n1, k1, ordr_of hp, hn1, ?_⟩
  unfold fl at e ⊢
  rw [g_law_t_4, t_law_8_0]
  simp only [List.map_cons, List.map_nil, dr_enc, lr_f _ (show ((t.length : Int)).natAbs ≤ 1000000 by omega), Int.toNat_natCast, rgI_map, lift_some, bind_ok, onE_ok, sq_nx, setR, List.zip_cons_cons, List.zip_nil_right, List.set_cons_zero, List.set_cons_succ]
  rw [t_law_8_1]
  have e' : whileR W_law_8_1 (K_law [8, 2] 0) 200 [some (hdl 0), some (hdl 2), some (enc t), some (enc (t.length : Int)), some (enc os), some d, none, none, none, none, none, some (enc (rgI t.length)), some (.list []), none, none, none] (wo ns nums k []) = _ := e
  rw [e', sq_nx, t_law_8_2]
  simp only [isList_enc, guardS_true, List.map_cons, List.map_nil, dr_enc, tup_f _ (show Dt.ld Int = 0 by decide), lift_some, onE_ok, app_enc os (Tp.mk ord) (by omega), sq_nx, e_law_8]
/-! ## the same counts -/
theorem best_top {t u : List (List Int)} (T : Tab t) (hl : u.length = t.length) (hp : (cnts u).Perm (cnts t)) : cnt u (bestOf (cnt u) [] (ordL u.length)) = cnt t (bestOf (cnt t) [] (ordL t.length)) := by
  have hx := ordL_ne T.n2 T.n5
  have h1 := best_maxI (cnt u) [] (xs := ordL u.length) (by rw [hl]; exact hx)
  have h2 := best_maxI (cnt t) [] hx
  have h3 := max_perm hp
  unfold cnts at h3
  rw [h1, h2] at h3
  exact Option.some.inj h3
theorem s_law_same {t : List (List Int)} (T : Tab t) {o p : List Int} (h : Ordr t.length o) (g : Ordr t.length p) (w : Wo) :
    d_law_same [enc t, enc (t.length : Int), enc (Tp.mk o), enc (Tp.mk p), enc (cnt t (bestOf (cnt t) [] (ordL t.length)))] w = .ok (enc true) w := by
  have n2 := T.n2
  have n5 := T.n5
  have hx := ordL_ne T.n2 T.n5
  have T2 := ren_tab T h
  have T3 := reo_tab T g
  have l2 : (ren t o).length = t.length := ren_len _ _
  have hb2 : Ordr (ren t o).length (bestOf (cnt (ren t o)) [] (ordL (ren t o).length)) := by
    rw [l2]; exact mem_ordL.mp (best_in _ _ hx)
  have T4 := ren_tab T2 hb2
  have e1 : agr (ren (ren t o) (bestOf (cnt (ren t o)) [] (ordL (ren t o).length))) = cnt t (bestOf (cnt t) [] (ordL t.length)) := by
    rw [ren_agr hb2]; exact best_top T l2 (cnts_ren T h)
  have e2 : ¬ (cnt t (bestOf (cnt t) [] (ordL t.length)) < agr (ren t o)) := by
    rw [ren_agr h]; have := best_le (cnt t) [] hx (mem_ordL.mpr h); omega
  have e3 : ((ren t o).map List.sum).sum = (t.map List.sum).sum := by rw [ren_rows T h]
  generalize htop : cnt t (bestOf (cnt t) [] (ordL t.length)) = top at e1 e2
  generalize hbb : bestOf (cnt (ren t o)) [] (ordL (ren t o).length) = bb at e1 hb2 T4
  rw [m_law_same, t_law_same_t_0]
  simp only [s_renamed T h, onE_ok, sq_nx]
  rw [t_law_same_t_1]
  simp only [s_renaming_counts T2, s_renaming_counts T, rc_perm (cnts_ren T h), bind_ok, cmp_ne _ _ (show Dt.dep (List (Int × Int)) ≤ 64 by decide), decide_true, Bool.not_true, lift_some, bool_enc, asBool_enc, cnd_false, s_best_renaming T2, hbb, s_renamed T2 hb2, s_agreed T4, e1, cmp_ne _ _ (show Dt.dep Int ≤ 64 by decide), onE_ok, sq_nx]
  rw [t_law_same_t_2]
  simp only [s_agreed T2, s_agreed T, cmp_gt, decide_eq_false e2, lift_some, bind_ok, bool_enc, asBool_enc, cnd_false, s_reordered T g, s_agreed T3, reo_agr g, cmp_ne _ _ (show Dt.dep Int ≤ 64 by decide), decide_true, Bool.not_true, s_cases T2, s_cases T, e3, onE_ok, sq_nx]
  rw [t_law_same_t_3]
  have hlt : cmpD .Lt (enc (t.length : Int)) (.int 5) = some (decide ((t.length : Int) < 5)) := rfl
  have T5 := trn_tab T
  have hstep : ∀ (ρ : Rho) (k : Wo → SRes Wo), onE ρ (((lift (cmpD .Lt (enc (t.length : Int)) (.int 5)) w).bind fun t27 w => Res.ok (PyData.bool t27) w).bind asBool |>.bind fun b28 w => (cnd b28 (((((d_exchanged (enc t :: []) w).bind fun x29 w => .ok (x29 :: []) w).bind fun l30 w => d_renaming_counts l30 w).bind fun x31 w => (d_renaming_counts (enc t :: []) w).bind fun x32 w => (lift (cmpD .NotEq x31 x32) w).bind fun t33 w => .ok (.bool t33) w).bind asBool) (.ok false w))) (fun b34 w => cnd b34 (k w) (.nx ρ w)) = .nx ρ w := by
    intro ρ k
    by_cases h5 : (t.length : Int) < 5
    · simp only [hlt, decide_eq_true h5, lift_some, bind_ok, bool_enc, asBool_enc, cnd_true, s_exchanged T, s_renaming_counts T5, s_renaming_counts T, rc_perm (cnts_trn T), cmp_ne _ _ (show Dt.dep (List (Int × Int)) ≤ 64 by decide), decide_true, Bool.not_true, cnd_false, onE_ok]
    · simp only [hlt, decide_eq_false h5, lift_some, bind_ok, bool_enc, asBool_enc, cnd_false, onE_ok]
  rw [hstep _ (K_law_same [6] 0 _), sq_nx, t_law_same_t_4]
  have c1 : ∀ (a : Nat) (w : Wo), compG (fun (b : Nat) w => (((((lift (cmpD .Eq (enc (a : Int)) (enc (b : Int))) w).bind fun t39 w => .ok (.bool t39) w).bind asBool).bind fun b40 w => (cnd b40 (lift (binD .Add (.int 1) (enc (a : Int))) w) (.ok (.int 0) w))).bind fun x41 w => .ok (some x41) w)) (List.range t.length) w = .ok ((List.range t.length).map fun (b : Nat) => enc (if a = b then 1 + (a : Int) else 0)) w := fun a w => compG_eq _ fun b _ => by
    by_cases hab : a = b
    · subst hab
      simp only [cmp_eq _ _ (show Dt.dep Int ≤ 64 by decide), decide_true, lift_some, bind_ok, bool_enc, asBool_enc, cnd_true, int_enc, bin_add, if_true]
    · have : ¬ ((a : Int) = (b : Int)) := by omega
      simp only [cmp_eq _ _ (show Dt.dep Int ≤ 64 by decide), decide_eq_false this, lift_some, bind_ok, bool_enc, asBool_enc, cnd_false, int_enc, if_neg hab]
  have hz : zr2 (enc (t.length : Int) :: enc (t.length : Int) :: []) = _ := zr2_e (n := t.length) (by omega)
  have c2 : ∀ w : Wo, compG (fun (a : Nat) w => tup2 .no (enc ((a : Int), (a : Int))) fun a36 k37 => ((lift (rg1 (enc (t.length : Int) :: [])) w).bind fun l43 w => (calmR (compR (fun d38 w => ((((lift (cmpD .Eq a36 d38) w).bind fun t39 w => .ok (.bool t39) w).bind asBool).bind fun b40 w => (cnd b40 (lift (binD .Add (.int 1) k37) w) (.ok (.int 0) w))).bind fun x41 w => .ok (some x41) w) l43 w)).bind fun l44 w => .ok (.list l44) w).bind fun x45 w => .ok (some x45) w) (List.range t.length) w = .ok ((List.range t.length).map fun (a : Nat) => enc ((List.range t.length).map fun (b : Nat) => if a = b then 1 + (a : Int) else 0)) w := fun w => compG_eq _ fun a _ => by
    simp only [tup2_enc, rg1_enc _ (show ((t.length : Int)).natAbs ≤ 1000000 by omega), Int.toNat_natCast, lift_some, bind_ok, compR_map, c1, calm_ok, list_enc]
  rw [hz]
  simp only [lift_some, bind_ok, compR_map]
  rw [c2]
  simp only [calm_ok, bind_ok, list_enc]
  rw [show ((List.range t.length).map fun (a : Nat) => (List.range t.length).map fun (b : Nat) => if a = b then 1 + (a : Int) else 0) = alk t.length from rfl]
  simp only [onE_ok, sq_nx]
  rw [t_law_same_t_5]
  have A := alk_tab n2 n5
  have hA : Ordr (alk t.length).length o := by rw [alk_len]; exact h
  have A2 := ren_tab A hA
  obtain ⟨j, j1, j2⟩ := alk_ren n2 n5 h
  have lb : 0 < (bestOf (cnt (ren (alk t.length) o)) [] (ordL t.length)).length := by
    rw [(mem_ordL.mp (best_in (cnt (ren (alk t.length) o)) [] hx)).len]; omega
  have i0 : ∀ w : Wo, ixO w (enc (Tp.mk (bestOf (cnt (ren (alk t.length) o)) [] (ordL t.length)))) (enc (0 : Int)) = some (enc (j : Int)) := fun w => by
    rw [ix_tp, atI_I _ _ (by omega) (by simpa using lb)]
    show some (enc ((bestOf (cnt (ren (alk t.length) o)) [] (ordL t.length)).getD 0 0)) = _
    rw [j2]
  have mt : mtD "index" (enc (Tp.mk o)) (enc (0 : Int)) = some (enc (j : Int)) := by
    have := mt_ixTp o
    rw [j1] at this
    exact this
  have sb1 := s_best_renaming A w
  have sb2 := s_best_renaming A2 w
  rw [alk_len, alk_own n2 n5] at sb1
  rw [ren_len, alk_len] at sb2
  simp only [sb1, List.map_cons, List.map_nil, dr_enc, tr_f _ (show ((t.length : Int)).natAbs ≤ 1000000 by omega), Int.toNat_natCast, rgI_map, lift_some, bind_ok, cmp_eq _ _ (show Dt.dep (Tp Int) ≤ 64 by decide), decide_true, bool_enc, asBool_enc, cnd_true, s_renamed A hA, sb2, int_enc, i0, mtGo_ixTp, guardR_true, mt, cmp_eq _ _ (show Dt.dep Int ≤ 64 by decide), onE_ok, flat_enc _ _ (show Dt.ld Bool ≤ 9 by decide), guardS_true, sq_rt, endR_rt]
theorem ordL_many {n : Nat} (h2 : 2 ≤ n) (h5 : n ≤ 5) (w : Wo) : ixO w (.list ((.int 0) :: (.int 0) :: (.int 2) :: (.int 6) :: (.int 24) :: (.int 120) :: [])) (enc (n : Int)) = some (enc ((ordL n).length : Int)) := by
  have key : ∀ m ∈ [2, 3, 4, 5], ([0, 0, 2, 6, 24, 120] : List Int).getD m 0 = ((ordL m).length : Int) := by decide +kernel
  have e : ixO w (enc ([0, 0, 2, 6, 24, 120] : List Int)) (enc (n : Int)) = _ := ix_enc w _ _
  rw [atI_I _ _ (by omega) (by simp; omega)] at e
  have k := key n (by simp; omega)
  rw [Int.toNat_natCast, k] at e
  exact e
theorem law_true (ns : List Int) (hns : ns.length ≤ 63) : ∃ w', d_law [hdl 0] [.scr ns] = .ok (.bool true) w' := by
  obtain ⟨nums, hn, e0⟩ := s_start ns
  obtain ⟨t, m1, k1, e1, hm1, T, _⟩ := s_tab ns nums 0 hn
  obtain ⟨o, m2, k2, h, hm2, f1⟩ := s_order_one T [] (by simp) (enc (0 : Int)) none none none ns m1 k1 hm1
  obtain ⟨p, m3, k3, g, hm3, f2⟩ := s_order_one T [Tp.mk o] (by simp) (enc (1 : Int)) (some (enc (0 : Int))) (some (enc ([] : List Int))) (some (enc o)) ns m2 k2 hm2
  have n2 := T.n2
  have n5 := T.n5
  have hx := ordL_ne T.n2 T.n5
  refine ⟨wo ns m3 k3 [], ?_⟩
  rw [m_law, t_law_t_0]
  simp only [e0, onE_ok, sq_nx]
  rw [t_law_t_1]
  simp only [int_enc, e1, onE_ok, sq_nx]
  rw [t_law_t_2]
  simp only [List.map_cons, List.map_nil, dr_enc, len_enc, lift_some, onE_ok, sq_nx]
  rw [t_law_t_3, sq_nx, t_law_t_4]
  have hr : rg1 (PyData.int 2 :: []) = some [enc (0 : Int), enc (1 : Int)] := rfl
  have hf : forR F_law_t_4 [enc (0 : Int), enc (1 : Int)] [some (hdl 0), some (hdl 2), some (enc t), some (enc (t.length : Int)), some (.list []), none, none, none, none, none, none, none, none, none, none, none] (wo ns m1 k1 []) = .nx (fl t [Tp.mk o, Tp.mk p] (some (enc (1 : Int))) (some (enc ([] : List Int))) (some (enc p))) (wo ns m3 k3 []) := by
    show sq (F_law_t_4 (enc (0 : Int)) (fl t [] none none none) (wo ns m1 k1 [])) _ = _
    rw [f1, sq_nx]
    show sq (F_law_t_4 (enc (1 : Int)) (fl t [Tp.mk o] (some (enc (0 : Int))) (some (enc ([] : List Int))) (some (enc o))) (wo ns m2 k2 [])) _ = _
    rw [f2, sq_nx]
    rfl
  simp only [hr, lift_some, onE_ok]
  rw [hf, sq_nx]
  generalize wo ns m3 k3 [] = w
  unfold fl
  rw [t_law_t_5, list2_e, sq_nx, t_law_t_6]
  have c1 : ∀ w : Wo, compG (fun (k : Int) w => (lift (ixO w (enc (Tp.mk o)) (enc k)) w).bind fun x18 w => .ok (some x18) w) p w = .ok (p.map fun k => enc (o.getD k.toNat 0)) w := fun w => compG_eq _ fun k hk => by
    have := g.bd k hk
    have hl := h.len
    rw [ix_tp, atI_I _ _ (by omega) (by show k < ((o.length : Nat) : Int); omega)]
    rfl
  have hit : it1 (enc (Tp.mk p) :: []) = some (p.map enc) := rfl
  simp only [hit, lift_some, bind_ok, compR_map, c1, calm_ok, list_enc]
  rw [show (p.map fun k => o.getD k.toNat 0) = comp o p from rfl]
  simp only [List.map_cons, List.map_nil, dr_enc, tup_f _ (show Dt.ld Int = 0 by decide), lift_some, bind_ok, onE_ok, sq_nx]
  -- twice
  have C : Ordr t.length (comp o p) := h.comp g
  have T1 := ren_tab T h
  have T2 := reo_tab T h
  have lr : (ren t o).length = t.length := ren_len _ _
  have lo : (reo t o).length = t.length := by rw [reo_len, h.len]
  have g1 : Ordr (ren t o).length p := by rw [lr]; exact g
  have g2 : Ordr (reo t o).length p := by rw [lo]; exact g
  rw [t_law_t_7]
  simp only [s_renamed T h, s_renamed T1 g1, s_renamed T C, ren_ren h g, bind_ok, cmp_ne _ _ (show Dt.dep (List (List Int)) ≤ 64 by decide), decide_true, Bool.not_true, lift_some, bool_enc, asBool_enc, cnd_false, s_reordered T h, s_reordered T2 g2, s_reordered T C, reo_reo h g, onE_ok, sq_nx]
  -- exchanged
  have T3 := trn_tab T1
  have h3 : Ordr (trn (ren t o)).length o := by rw [trn_len, lr]; exact h
  have T4 := ren_tab T3 h3
  have I : Ordr t.length (rgI t.length) := ordr_of (.refl _)
  rw [t_law_t_8]
  simp only [s_renamed T h, bind_ok, s_exchanged T1, s_renamed T3 h3, s_exchanged T4, trn_ren2 h, s_reordered T h, cmp_ne _ _ (show Dt.dep (List (List Int)) ≤ 64 by decide), decide_true, Bool.not_true, lift_some, bool_enc, asBool_enc, cnd_false, List.map_cons, List.map_nil, dr_enc, tr_f _ (show ((t.length : Int)).natAbs ≤ 1000000 by omega), Int.toNat_natCast, rgI_map, s_renamed T I, ren_id T, onE_ok, sq_nx]
  -- the best
  have hB : Ordr t.length (bestOf (cnt t) [] (ordL t.length)) := mem_ordL.mp (best_in _ _ hx)
  have TB := ren_tab T hB
  have hmax : maxI (cnts t) = some (cnt t (bestOf (cnt t) [] (ordL t.length))) := best_maxI _ _ hx
  have hbt := best_top T (ren_len t _) (cnts_ren T hB)
  have hsame := s_law_same T h g w
  have sb := s_is_best_named TB w
  rw [ren_agr hB, hbt, decide_eq_true rfl] at sb
  have sa := s_is_best_named T w
  have hagr : agr t ≤ cnt t (bestOf (cnt t) [] (ordL t.length)) := by
    rw [agr_cnt T]; exact best_le _ _ hx (mem_ordL.mpr I)
  have hra := ren_agr hB
  have sbr := s_best_renaming T w
  have htc := top_cases T hmax
  have hcb := cnt_bd T (bestOf (cnt t) [] (ordL t.length))
  generalize bestOf (cnt t) [] (ordL t.length) = b at *
  rw [t_law_t_9]
  simp only [sbr, onE_ok, sq_nx]
  rw [t_law_t_10]
  simp only [s_renamed T hB, bind_ok, s_agreed TB, hra, onE_ok, sq_nx]
  rw [t_law_t_11]
  have hcs : cnts t ≠ [] := fun z => by rw [z] at hmax; cases hmax
  have i1 : ∀ w : Wo, ixO w (enc (rcOf (cnts t))) (enc (-1 : Int)) = some (enc ((rcOf (cnts t)).getD ((rcOf (cnts t)).length - 1) (0, 0))) := fun w => by
    rw [ix_enc, _root_.T.atI_last _ (0, 0) (rc_ne hcs)]; rfl
  have hl := rc_last hmax
  generalize (rcOf (cnts t)).getD ((rcOf (cnts t)).length - 1) (0, 0) = z at i1 hl
  have m1 : mulOk (cnt t b) (t.length : Int) = true := mulOk_r _ _ (by omega)
  simp only [s_renaming_counts T, bind_ok, int_enc, asInt_enc, Option.map_some, lift_some, i1, ix_pair0, hl, cmp_ne _ _ (show Dt.dep Int ≤ 64 by decide), decide_true, Bool.not_true, bool_enc, asBool_enc, cnd_false, s_agreed T, cmp_lt, decide_eq_false (show ¬ cnt t b < agr t by omega), bin_mul _ _ m1, s_cases T, decide_eq_false (show ¬ cnt t b * (t.length : Int) < (t.map List.sum).sum by omega), onE_ok, sq_nx]
  rw [t_law_t_12]
  have hsym : decide (agr t = cnt t b) = decide (cnt t b = agr t) := decide_eq_decide.mpr ⟨Eq.symm, Eq.symm⟩
  simp only [s_renamed T hB, bind_ok, sb, sa, hsym, bool_enc, cmp_isn, beq_self_eq_true, lift_some, Bool.not_true, asBool_enc, cnd_false, s_agreed T, cmp_eq _ _ (show Dt.dep Int ≤ 64 by decide), cmp_ne _ _ (show Dt.dep Bool ≤ 64 by decide), decide_true, onE_ok, sq_nx]
  rw [t_law_t_13]
  have c3 : ∀ w : Wo, compG (fun (q : Int × Int) w => tup2 Res.no (enc q) fun count82 many83 => .ok (some many83) w) (rcOf (cnts t)) w = .ok ((rcOf (cnts t)).map fun q => enc q.2) w := fun w => compG_eq _ fun q _ => by
    rw [tup2_enc]
  have hcl : (((cnts t).length : Nat) : Int) = ((ordL t.length).length : Int) := by simp [cnts]
  simp only [s_renaming_counts T, bind_ok, it1_enc, lift_some, compR_map, c3, calm_ok, list_enc, List.map_cons, List.map_nil, dr_enc, sum_enc, rc_many, hcl]
  rw [ordL_many n2 n5]
  simp only [lift_some, bind_ok, cmp_ne _ _ (show Dt.dep Int ≤ 64 by decide), decide_true, Bool.not_true, bool_enc, asBool_enc, cnd_false, onE_ok, sq_nx]
  rw [t_law_t_14]
  simp only [hsame, onE_ok, flat_enc _ _ (show Dt.ld Bool ≤ 9 by decide), guardS_true, sq_rt, endR_rt, bool_enc]
end DN
/-! ## each def keeps it (printed) -/
namespace DN
open PySem PySem.Spec PyProof.Rows L2 T
section
variable {P : Program} {wd : World} {K : PySem.W.Frag} {mg : Str → Option Value} {base h : Heap} (c : He.SaysD HD.fa HD.fn K) (cx : okXs HD.errs K = true) (X : K.In h) (G : h.Ns mainGlobals mg)
include c cx X G
theorem has_is_int : Has P wd K mg base (zo (ceOf HD.errs mg) K 0) (ceOf HD.errs mg) 1 "is_int" d_is_int := by
  obtain ⟨fd, F⟩ := c.def_ 0 (d := HD.d_is_int) rfl
  refine has_def (x := "is_int") (N := ["value", "low", "high"]) (ps := ["value", "low", "high"]) hlo hdo zr_ok plP_ok plP_leaf (fx_of (errs := HD.errs) (Γ := HD.gam) (glos := HD.glos) (more := HD.more) c cx (by decide) X G (by decide)) (k := 0) ⟨_, IoHas.zero (hio (cw := 0))⟩ (fun p hp => ?_) (fun p hp => ?_) F ⟨rfl, rfl, rfl, by decide +kernel, rfl, by decide +kernel, by decide +kernel⟩ (glo_of (errs := HD.errs) (Γ := HD.gam) (glos := HD.glos) (more := HD.more) c X G (by decide)) (fun _ _ _ _ _ _ us hl => match us, hl with
    | [_, _, _], _ => rfl)
  · exact absurd hp (by simp)
  · exact absurd hp (by simp)
theorem has_is_table : Has P wd K mg base (zo (ceOf HD.errs mg) K 0) (ceOf HD.errs mg) 2 "is_table" d_is_table := by
  obtain ⟨fd, F⟩ := c.def_ 1 (d := HD.d_is_table) rfl
  refine has_def (x := "is_table") (N := ["value", "row", "one"]) (ps := ["value"]) hlo hdo zr_ok plP_ok plP_leaf (fx_of (errs := HD.errs) (Γ := HD.gam) (glos := HD.glos) (more := HD.more) c cx (by decide) X G (by decide)) (k := 1) ⟨_, IoHas.zero (hio (cw := 0))⟩ (fun p hp => ?_) (fun p hp => ?_) F ⟨rfl, rfl, rfl, by decide +kernel, rfl, by decide +kernel, by decide +kernel⟩ (glo_of (errs := HD.errs) (Γ := HD.gam) (glos := HD.glos) (more := HD.more) c X G (by decide)) (fun _ _ _ _ _ _ us hl => match us, hl with
    | [_], _ => rfl)
  · simp only [List.mem_cons, List.not_mem_nil, or_false] at hp
    subst hp
    · exact (has_is_int c cx X G).mono (by decide)
  · exact absurd hp (by simp)
theorem has_check_table : Has P wd K mg base (zo (ceOf HD.errs mg) K 0) (ceOf HD.errs mg) 3 "check_table" d_check_table := by
  obtain ⟨fd, F⟩ := c.def_ 2 (d := HD.d_check_table) rfl
  refine has_def (x := "check_table") (N := ["value"]) (ps := ["value"]) hlo hdo zr_ok plP_ok plP_leaf (fx_of (errs := HD.errs) (Γ := HD.gam) (glos := HD.glos) (more := HD.more) c cx (by decide) X G (by decide)) (k := 2) ⟨_, IoHas.zero (hio (cw := 0))⟩ (fun p hp => ?_) (fun p hp => ?_) F ⟨rfl, rfl, rfl, by decide +kernel, rfl, by decide +kernel, by decide +kernel⟩ (glo_of (errs := HD.errs) (Γ := HD.gam) (glos := HD.glos) (more := HD.more) c X G (by decide)) (fun _ _ _ _ _ _ us hl => match us, hl with
    | [_], _ => rfl)
  · simp only [List.mem_cons, List.not_mem_nil, or_false] at hp
    subst hp
    · exact (has_is_table c cx X G).mono (by decide)
  · exact absurd hp (by simp)
theorem has_rows_of : Has P wd K mg base (zo (ceOf HD.errs mg) K 0) (ceOf HD.errs mg) 1 "rows_of" d_rows_of := by
  obtain ⟨fd, F⟩ := c.def_ 3 (d := HD.d_rows_of) rfl
  refine has_def (x := "rows_of") (N := ["table", "row"]) (ps := ["table"]) hlo hdo zr_ok plP_ok plP_leaf (fx_of (errs := HD.errs) (Γ := HD.gam) (glos := HD.glos) (more := HD.more) c cx (by decide) X G (by decide)) (k := 0) ⟨_, IoHas.zero (hio (cw := 0))⟩ (fun p hp => ?_) (fun p hp => ?_) F ⟨rfl, rfl, rfl, by decide +kernel, rfl, by decide +kernel, by decide +kernel⟩ (glo_of (errs := HD.errs) (Γ := HD.gam) (glos := HD.glos) (more := HD.more) c X G (by decide)) (fun _ _ _ _ _ _ us hl => match us, hl with
    | [_], _ => rfl)
  · exact absurd hp (by simp)
  · exact absurd hp (by simp)
theorem has_cases : Has P wd K mg base (zo (ceOf HD.errs mg) K 0) (ceOf HD.errs mg) 4 "cases" d_cases := by
  obtain ⟨fd, F⟩ := c.def_ 4 (d := HD.d_cases) rfl
  refine has_def (x := "cases") (N := ["table"]) (ps := ["table"]) hlo hdo zr_ok plP_ok plP_leaf (fx_of (errs := HD.errs) (Γ := HD.gam) (glos := HD.glos) (more := HD.more) c cx (by decide) X G (by decide)) (k := 3) ⟨_, IoHas.zero (hio (cw := 0))⟩ (fun p hp => ?_) (fun p hp => ?_) F ⟨rfl, rfl, rfl, by decide +kernel, rfl, by decide +kernel, by decide +kernel⟩ (glo_of (errs := HD.errs) (Γ := HD.gam) (glos := HD.glos) (more := HD.more) c X G (by decide)) (fun _ _ _ _ _ _ us hl => match us, hl with
    | [_], _ => rfl)
  · simp only [List.mem_cons, List.not_mem_nil, or_false] at hp
    rcases hp with rfl | rfl
    · exact (has_check_table c cx X G).mono (by decide)
    · exact (has_rows_of c cx X G).mono (by decide)
  · exact absurd hp (by simp)
theorem has_exchanged : Has P wd K mg base (zo (ceOf HD.errs mg) K 0) (ceOf HD.errs mg) 4 "exchanged" d_exchanged := by
  obtain ⟨fd, F⟩ := c.def_ 5 (d := HD.d_exchanged) rfl
  refine has_def (x := "exchanged") (N := ["table", "kind", "row"]) (ps := ["table"]) hlo hdo zr_ok plP_ok plP_leaf (fx_of (errs := HD.errs) (Γ := HD.gam) (glos := HD.glos) (more := HD.more) c cx (by decide) X G (by decide)) (k := 3) ⟨_, IoHas.zero (hio (cw := 0))⟩ (fun p hp => ?_) (fun p hp => ?_) F ⟨rfl, rfl, rfl, by decide +kernel, rfl, by decide +kernel, by decide +kernel⟩ (glo_of (errs := HD.errs) (Γ := HD.gam) (glos := HD.glos) (more := HD.more) c X G (by decide)) (fun _ _ _ _ _ _ us hl => match us, hl with
    | [_], _ => rfl)
  · simp only [List.mem_cons, List.not_mem_nil, or_false] at hp
    subst hp
    · exact (has_check_table c cx X G).mono (by decide)
  · exact absurd hp (by simp)
theorem has_agreed_of : Has P wd K mg base (zo (ceOf HD.errs mg) K 0) (ceOf HD.errs mg) 1 "agreed_of" d_agreed_of := by
  obtain ⟨fd, F⟩ := c.def_ 6 (d := HD.d_agreed_of) rfl
  refine has_def (x := "agreed_of") (N := ["table", "kind"]) (ps := ["table"]) hlo hdo zr_ok plP_ok plP_leaf (fx_of (errs := HD.errs) (Γ := HD.gam) (glos := HD.glos) (more := HD.more) c cx (by decide) X G (by decide)) (k := 0) ⟨_, IoHas.zero (hio (cw := 0))⟩ (fun p hp => ?_) (fun p hp => ?_) F ⟨rfl, rfl, rfl, by decide +kernel, rfl, by decide +kernel, by decide +kernel⟩ (glo_of (errs := HD.errs) (Γ := HD.gam) (glos := HD.glos) (more := HD.more) c X G (by decide)) (fun _ _ _ _ _ _ us hl => match us, hl with
    | [_], _ => rfl)
  · exact absurd hp (by simp)
  · exact absurd hp (by simp)
theorem has_agreed : Has P wd K mg base (zo (ceOf HD.errs mg) K 0) (ceOf HD.errs mg) 4 "agreed" d_agreed := by
  obtain ⟨fd, F⟩ := c.def_ 7 (d := HD.d_agreed) rfl
  refine has_def (x := "agreed") (N := ["table"]) (ps := ["table"]) hlo hdo zr_ok plP_ok plP_leaf (fx_of (errs := HD.errs) (Γ := HD.gam) (glos := HD.glos) (more := HD.more) c cx (by decide) X G (by decide)) (k := 3) ⟨_, IoHas.zero (hio (cw := 0))⟩ (fun p hp => ?_) (fun p hp => ?_) F ⟨rfl, rfl, rfl, by decide +kernel, rfl, by decide +kernel, by decide +kernel⟩ (glo_of (errs := HD.errs) (Γ := HD.gam) (glos := HD.glos) (more := HD.more) c X G (by decide)) (fun _ _ _ _ _ _ us hl => match us, hl with
    | [_], _ => rfl)
  · simp only [List.mem_cons, List.not_mem_nil, or_false] at hp
    rcases hp with rfl | rfl
    · exact (has_check_table c cx X G).mono (by decide)
    · exact (has_agreed_of c cx X G).mono (by decide)
  · exact absurd hp (by simp)
theorem has_check_order : Has P wd K mg base (zo (ceOf HD.errs mg) K 0) (ceOf HD.errs mg) 2 "check_order" d_check_order := by
  obtain ⟨fd, F⟩ := c.def_ 8 (d := HD.d_check_order) rfl
  refine has_def (x := "check_order") (N := ["table", "value", "one"]) (ps := ["table", "value"]) hlo hdo zr_ok plP_ok plP_leaf (fx_of (errs := HD.errs) (Γ := HD.gam) (glos := HD.glos) (more := HD.more) c cx (by decide) X G (by decide)) (k := 1) ⟨_, IoHas.zero (hio (cw := 0))⟩ (fun p hp => ?_) (fun p hp => ?_) F ⟨rfl, rfl, rfl, by decide +kernel, rfl, by decide +kernel, by decide +kernel⟩ (glo_of (errs := HD.errs) (Γ := HD.gam) (glos := HD.glos) (more := HD.more) c X G (by decide)) (fun _ _ _ _ _ _ us hl => match us, hl with
    | [_, _], _ => rfl)
  · simp only [List.mem_cons, List.not_mem_nil, or_false] at hp
    subst hp
    · exact (has_is_int c cx X G).mono (by decide)
  · exact absurd hp (by simp)
theorem has_reordered : Has P wd K mg base (zo (ceOf HD.errs mg) K 0) (ceOf HD.errs mg) 4 "reordered" d_reordered := by
  obtain ⟨fd, F⟩ := c.def_ 9 (d := HD.d_reordered) rfl
  refine has_def (x := "reordered") (N := ["table", "order", "a", "b"]) (ps := ["table", "order"]) hlo hdo zr_ok plP_ok plP_leaf (fx_of (errs := HD.errs) (Γ := HD.gam) (glos := HD.glos) (more := HD.more) c cx (by decide) X G (by decide)) (k := 3) ⟨_, IoHas.zero (hio (cw := 0))⟩ (fun p hp => ?_) (fun p hp => ?_) F ⟨rfl, rfl, rfl, by decide +kernel, rfl, by decide +kernel, by decide +kernel⟩ (glo_of (errs := HD.errs) (Γ := HD.gam) (glos := HD.glos) (more := HD.more) c X G (by decide)) (fun _ _ _ _ _ _ us hl => match us, hl with
    | [_, _], _ => rfl)
  · simp only [List.mem_cons, List.not_mem_nil, or_false] at hp
    rcases hp with rfl | rfl
    · exact (has_check_table c cx X G).mono (by decide)
    · exact (has_check_order c cx X G).mono (by decide)
  · exact absurd hp (by simp)
theorem has_orders_of : Has P wd K mg base (zo (ceOf HD.errs mg) K 0) (ceOf HD.errs mg) 1 "orders_of" d_orders_of := by
  obtain ⟨fd, F⟩ := c.def_ 10 (d := HD.d_orders_of) rfl
  refine has_def (x := "orders_of") (N := ["size", "found", "turn", "longer", "one", "kind"]) (ps := ["size"]) hlo hdo zr_ok plP_ok plP_leaf (fx_of (errs := HD.errs) (Γ := HD.gam) (glos := HD.glos) (more := HD.more) c cx (by decide) X G (by decide)) (k := 0) ⟨_, IoHas.zero (hio (cw := 0))⟩ (fun p hp => ?_) (fun p hp => ?_) F ⟨rfl, rfl, rfl, by decide +kernel, rfl, by decide +kernel, by decide +kernel⟩ (glo_of (errs := HD.errs) (Γ := HD.gam) (glos := HD.glos) (more := HD.more) c X G (by decide)) (fun _ _ _ _ _ _ us hl => match us, hl with
    | [_], _ => rfl)
  · exact absurd hp (by simp)
  · exact absurd hp (by simp)
theorem has_renamed : Has P wd K mg base (zo (ceOf HD.errs mg) K 0) (ceOf HD.errs mg) 4 "renamed" d_renamed := by
  obtain ⟨fd, F⟩ := c.def_ 11 (d := HD.d_renamed) rfl
  refine has_def (x := "renamed") (N := ["table", "order", "row", "kind"]) (ps := ["table", "order"]) hlo hdo zr_ok plP_ok plP_leaf (fx_of (errs := HD.errs) (Γ := HD.gam) (glos := HD.glos) (more := HD.more) c cx (by decide) X G (by decide)) (k := 3) ⟨_, IoHas.zero (hio (cw := 0))⟩ (fun p hp => ?_) (fun p hp => ?_) F ⟨rfl, rfl, rfl, by decide +kernel, rfl, by decide +kernel, by decide +kernel⟩ (glo_of (errs := HD.errs) (Γ := HD.gam) (glos := HD.glos) (more := HD.more) c X G (by decide)) (fun _ _ _ _ _ _ us hl => match us, hl with
    | [_, _], _ => rfl)
  · simp only [List.mem_cons, List.not_mem_nil, or_false] at hp
    rcases hp with rfl | rfl
    · exact (has_check_table c cx X G).mono (by decide)
    · exact (has_check_order c cx X G).mono (by decide)
  · exact absurd hp (by simp)
theorem has_count_of : Has P wd K mg base (zo (ceOf HD.errs mg) K 0) (ceOf HD.errs mg) 1 "count_of" d_count_of := by
  obtain ⟨fd, F⟩ := c.def_ 12 (d := HD.d_count_of) rfl
  refine has_def (x := "count_of") (N := ["table", "order", "kind"]) (ps := ["table", "order"]) hlo hdo zr_ok plP_ok plP_leaf (fx_of (errs := HD.errs) (Γ := HD.gam) (glos := HD.glos) (more := HD.more) c cx (by decide) X G (by decide)) (k := 0) ⟨_, IoHas.zero (hio (cw := 0))⟩ (fun p hp => ?_) (fun p hp => ?_) F ⟨rfl, rfl, rfl, by decide +kernel, rfl, by decide +kernel, by decide +kernel⟩ (glo_of (errs := HD.errs) (Γ := HD.gam) (glos := HD.glos) (more := HD.more) c X G (by decide)) (fun _ _ _ _ _ _ us hl => match us, hl with
    | [_, _], _ => rfl)
  · exact absurd hp (by simp)
  · exact absurd hp (by simp)
theorem has_best_renaming : Has P wd K mg base (zo (ceOf HD.errs mg) K 0) (ceOf HD.errs mg) 4 "best_renaming" d_best_renaming := by
  obtain ⟨fd, F⟩ := c.def_ 13 (d := HD.d_best_renaming) rfl
  refine has_def (x := "best_renaming") (N := ["table", "best", "order"]) (ps := ["table"]) hlo hdo zr_ok plP_ok plP_leaf (fx_of (errs := HD.errs) (Γ := HD.gam) (glos := HD.glos) (more := HD.more) c cx (by decide) X G (by decide)) (k := 3) ⟨_, IoHas.zero (hio (cw := 0))⟩ (fun p hp => ?_) (fun p hp => ?_) F ⟨rfl, rfl, rfl, by decide +kernel, rfl, by decide +kernel, by decide +kernel⟩ (glo_of (errs := HD.errs) (Γ := HD.gam) (glos := HD.glos) (more := HD.more) c X G (by decide)) (fun _ _ _ _ _ _ us hl => match us, hl with
    | [_], _ => rfl)
  · simp only [List.mem_cons, List.not_mem_nil, or_false] at hp
    rcases hp with rfl | rfl | rfl
    · exact (has_check_table c cx X G).mono (by decide)
    · exact (has_orders_of c cx X G).mono (by decide)
    · exact (has_count_of c cx X G).mono (by decide)
  · exact absurd hp (by simp)
theorem has_renaming_counts : Has P wd K mg base (zo (ceOf HD.errs mg) K 0) (ceOf HD.errs mg) 4 "renaming_counts" d_renaming_counts := by
  obtain ⟨fd, F⟩ := c.def_ 14 (d := HD.d_renaming_counts) rfl
  refine has_def (x := "renaming_counts") (N := ["table", "found", "order", "one"]) (ps := ["table"]) hlo hdo zr_ok plP_ok plP_leaf (fx_of (errs := HD.errs) (Γ := HD.gam) (glos := HD.glos) (more := HD.more) c cx (by decide) X G (by decide)) (k := 3) ⟨_, IoHas.zero (hio (cw := 0))⟩ (fun p hp => ?_) (fun p hp => ?_) F ⟨rfl, rfl, rfl, by decide +kernel, rfl, by decide +kernel, by decide +kernel⟩ (glo_of (errs := HD.errs) (Γ := HD.gam) (glos := HD.glos) (more := HD.more) c X G (by decide)) (fun _ _ _ _ _ _ us hl => match us, hl with
    | [_], _ => rfl)
  · simp only [List.mem_cons, List.not_mem_nil, or_false] at hp
    rcases hp with rfl | rfl | rfl
    · exact (has_check_table c cx X G).mono (by decide)
    · exact (has_count_of c cx X G).mono (by decide)
    · exact (has_orders_of c cx X G).mono (by decide)
  · exact absurd hp (by simp)
theorem has_is_best_named : Has P wd K mg base (zo (ceOf HD.errs mg) K 0) (ceOf HD.errs mg) 4 "is_best_named" d_is_best_named := by
  obtain ⟨fd, F⟩ := c.def_ 15 (d := HD.d_is_best_named) rfl
  refine has_def (x := "is_best_named") (N := ["table", "order"]) (ps := ["table"]) hlo hdo zr_ok plP_ok plP_leaf (fx_of (errs := HD.errs) (Γ := HD.gam) (glos := HD.glos) (more := HD.more) c cx (by decide) X G (by decide)) (k := 3) ⟨_, IoHas.zero (hio (cw := 0))⟩ (fun p hp => ?_) (fun p hp => ?_) F ⟨rfl, rfl, rfl, by decide +kernel, rfl, by decide +kernel, by decide +kernel⟩ (glo_of (errs := HD.errs) (Γ := HD.gam) (glos := HD.glos) (more := HD.more) c X G (by decide)) (fun _ _ _ _ _ _ us hl => match us, hl with
    | [_], _ => rfl)
  · simp only [List.mem_cons, List.not_mem_nil, or_false] at hp
    rcases hp with rfl | rfl | rfl | rfl
    · exact (has_check_table c cx X G).mono (by decide)
    · exact (has_agreed_of c cx X G).mono (by decide)
    · exact (has_count_of c cx X G).mono (by decide)
    · exact (has_orders_of c cx X G).mono (by decide)
  · exact absurd hp (by simp)
theorem has_law_start : Has P wd K mg base (zo (ceOf HD.errs mg) K 0) (ceOf HD.errs mg) 1 "_law_start" startDen := by
  obtain ⟨fd, F⟩ := c.def_ 16 (d := HD.d_law_start) rfl
  exact has_start (k := 0) (fx_of (errs := HD.errs) (Γ := HD.gam) (glos := HD.glos) (more := HD.more) c cx (by decide) X G (by decide)) (body := defBody HD.s_law_start) (scope := defScope HD.s_law_start) rfl F ⟨rfl, rfl, rfl, by decide +kernel, rfl, by decide +kernel, by decide +kernel⟩ (glo_of (errs := HD.errs) (Γ := HD.gam) (glos := HD.glos) (more := HD.more) c X G (by decide)) rfl rfl (fun _ _ _ _ _ _ us hl => match us, hl with
    | [_], _ => rfl)
theorem has_law_draw : Has P wd K mg base (zo (ceOf HD.errs mg) K 0) (ceOf HD.errs mg) 1 "_law_draw" d_law_draw := by
  obtain ⟨fd, F⟩ := c.def_ 17 (d := HD.d_law_draw) rfl
  refine has_def (x := "_law_draw") (N := ["draws", "limit", "numbers", "at", "cell", "mixed"]) (ps := ["draws", "limit"]) hlo hdo zr_ok plP_ok plP_leaf (fx_of (errs := HD.errs) (Γ := HD.gam) (glos := HD.glos) (more := HD.more) c cx (by decide) X G (by decide)) (k := 0) ⟨_, IoHas.zero (hio (cw := 0))⟩ (fun p hp => ?_) (fun p hp => ?_) F ⟨rfl, rfl, rfl, by decide +kernel, rfl, by decide +kernel, by decide +kernel⟩ (glo_of (errs := HD.errs) (Γ := HD.gam) (glos := HD.glos) (more := HD.more) c X G (by decide)) (fun _ _ _ _ _ _ us hl => match us, hl with
    | [_, _], _ => rfl)
  · exact absurd hp (by simp)
  · exact absurd hp (by simp)
theorem has_law_pick : Has P wd K mg base (zo (ceOf HD.errs mg) K 0) (ceOf HD.errs mg) 2 "_law_pick" d_law_pick := by
  obtain ⟨fd, F⟩ := c.def_ 18 (d := HD.d_law_pick) rfl
  refine has_def (x := "_law_pick") (N := ["draws", "choices"]) (ps := ["draws", "choices"]) hlo hdo zr_ok plP_ok plP_leaf (fx_of (errs := HD.errs) (Γ := HD.gam) (glos := HD.glos) (more := HD.more) c cx (by decide) X G (by decide)) (k := 1) ⟨_, IoHas.zero (hio (cw := 0))⟩ (fun p hp => ?_) (fun p hp => ?_) F ⟨rfl, rfl, rfl, by decide +kernel, rfl, by decide +kernel, by decide +kernel⟩ (glo_of (errs := HD.errs) (Γ := HD.gam) (glos := HD.glos) (more := HD.more) c X G (by decide)) (fun _ _ _ _ _ _ us hl => match us, hl with
    | [_, _], _ => rfl)
  · simp only [List.mem_cons, List.not_mem_nil, or_false] at hp
    subst hp
    · exact (has_law_draw c cx X G).mono (by decide)
  · exact absurd hp (by simp)
theorem has_law_lines : Has P wd K mg base (zo (ceOf HD.errs mg) K 0) (ceOf HD.errs mg) 2 "_law_lines" d_law_lines := by
  obtain ⟨fd, F⟩ := c.def_ 19 (d := HD.d_law_lines) rfl
  refine has_def (x := "_law_lines") (N := ["draws", "size", "most", "like", "k", "one", "other"]) (ps := ["draws", "size", "most"]) hlo hdo zr_ok plP_ok plP_leaf (fx_of (errs := HD.errs) (Γ := HD.gam) (glos := HD.glos) (more := HD.more) c cx (by decide) X G (by decide)) (k := 1) ⟨_, IoHas.zero (hio (cw := 0))⟩ (fun p hp => ?_) (fun p hp => ?_) F ⟨rfl, rfl, rfl, by decide +kernel, rfl, by decide +kernel, by decide +kernel⟩ (glo_of (errs := HD.errs) (Γ := HD.gam) (glos := HD.glos) (more := HD.more) c X G (by decide)) (fun _ _ _ _ _ _ us hl => match us, hl with
    | [_, _, _], _ => rfl)
  · simp only [List.mem_cons, List.not_mem_nil, or_false] at hp
    subst hp
    · exact (has_law_draw c cx X G).mono (by decide)
  · exact absurd hp (by simp)
theorem has_law_count : Has P wd K mg base (zo (ceOf HD.errs mg) K 0) (ceOf HD.errs mg) 1 "_law_count" d_law_count := by
  obtain ⟨fd, F⟩ := c.def_ 20 (d := HD.d_law_count) rfl
  refine has_def (x := "_law_count") (N := ["one", "other", "size", "pairs", "a", "b"]) (ps := ["one", "other", "size"]) hlo hdo zr_ok plP_ok plP_leaf (fx_of (errs := HD.errs) (Γ := HD.gam) (glos := HD.glos) (more := HD.more) c cx (by decide) X G (by decide)) (k := 0) ⟨_, IoHas.zero (hio (cw := 0))⟩ (fun p hp => ?_) (fun p hp => ?_) F ⟨rfl, rfl, rfl, by decide +kernel, rfl, by decide +kernel, by decide +kernel⟩ (glo_of (errs := HD.errs) (Γ := HD.gam) (glos := HD.glos) (more := HD.more) c X G (by decide)) (fun _ _ _ _ _ _ us hl => match us, hl with
    | [_, _, _], _ => rfl)
  · exact absurd hp (by simp)
  · exact absurd hp (by simp)
theorem has_law_table : Has P wd K mg base (zo (ceOf HD.errs mg) K 0) (ceOf HD.errs mg) 3 "_law_table" d_law_table := by
  obtain ⟨fd, F⟩ := c.def_ 21 (d := HD.d_law_table) rfl
  refine has_def (x := "_law_table") (N := ["draws", "most", "size", "one", "other"]) (ps := ["draws", "most"]) hlo hdo zr_ok plP_ok plP_leaf (fx_of (errs := HD.errs) (Γ := HD.gam) (glos := HD.glos) (more := HD.more) c cx (by decide) X G (by decide)) (k := 2) ⟨_, IoHas.zero (hio (cw := 0))⟩ (fun p hp => ?_) (fun p hp => ?_) F ⟨rfl, rfl, rfl, by decide +kernel, rfl, by decide +kernel, by decide +kernel⟩ (glo_of (errs := HD.errs) (Γ := HD.gam) (glos := HD.glos) (more := HD.more) c X G (by decide)) (fun _ _ _ _ _ _ us hl => match us, hl with
    | [_, _], _ => rfl)
  · simp only [List.mem_cons, List.not_mem_nil, or_false] at hp
    rcases hp with rfl | rfl | rfl | rfl
    · exact (has_law_lines c cx X G).mono (by decide)
    · exact (has_law_count c cx X G).mono (by decide)
    · exact (has_law_draw c cx X G).mono (by decide)
    · exact (has_law_pick c cx X G).mono (by decide)
  · exact absurd hp (by simp)
theorem has_law_same : Has P wd K mg base (zo (ceOf HD.errs mg) K 0) (ceOf HD.errs mg) 5 "_law_same" d_law_same := by
  obtain ⟨fd, F⟩ := c.def_ 22 (d := HD.d_law_same) rfl
  refine has_def (x := "_law_same") (N := ["table", "size", "one", "other", "top", "moved", "alike", "b", "a", "k"]) (ps := ["table", "size", "one", "other", "top"]) hlo hdo zr_ok plP_ok plP_leaf (fx_of (errs := HD.errs) (Γ := HD.gam) (glos := HD.glos) (more := HD.more) c cx (by decide) X G (by decide)) (k := 4) ⟨_, IoHas.zero (hio (cw := 0))⟩ (fun p hp => ?_) (fun p hp => ?_) F ⟨rfl, rfl, rfl, by decide +kernel, rfl, by decide +kernel, by decide +kernel⟩ (glo_of (errs := HD.errs) (Γ := HD.gam) (glos := HD.glos) (more := HD.more) c X G (by decide)) (fun _ _ _ _ _ _ us hl => match us, hl with
    | [_, _, _, _, _], _ => rfl)
  · simp only [List.mem_cons, List.not_mem_nil, or_false] at hp
    rcases hp with rfl | rfl | rfl | rfl | rfl | rfl | rfl
    · exact (has_renamed c cx X G).mono (by decide)
    · exact (has_renaming_counts c cx X G).mono (by decide)
    · exact (has_agreed c cx X G).mono (by decide)
    · exact (has_cases c cx X G).mono (by decide)
    · exact (has_best_renaming c cx X G).mono (by decide)
    · exact (has_reordered c cx X G).mono (by decide)
    · exact (has_exchanged c cx X G).mono (by decide)
  · exact absurd hp (by simp)
end
end DN
/-! ## the law (printed) -/
namespace DN
open PySem PySem.Spec PyProof.Rows L2 T
theorem facts {P : Program} {wd : World} {K : PySem.W.Frag} {h : Heap} {mg : Str → Option Value} {f : Addr} (X : K.In h) (G : h.Ns mainGlobals mg) (hfa : mg ("law" : Str) = some (.ref f)) (c : He.SaysD HD.fa HD.fn K) (cx : okXs HD.errs K = true) :
    ∃ fd : FuncData, (∀ (s : Shared) (v : Value), BindsTo s fd ⟨[v], []⟩ [("script", v)]) ∧ ∀ base : Heap, FnOk P wd K mg base (L2.CX P wd) 6 f fd ["script"] (spOf (zo (ceOf HD.errs mg) K 0) (ceOf HD.errs mg) d_law) := by
  obtain ⟨fd, F⟩ := c.def_ 23 (d := HD.d_law) rfl
  have e := hfa.symm.trans (glo_of (errs := HD.errs) (Γ := HD.gam) (glos := HD.glos) (more := HD.more) c X G (x := "law") (by decide))
  cases e
  have b := FunD.bindsA (ps := ["script"]) F fun _ _ _ _ _ _ us hl => match us, hl with | [_], _ => rfl
  refine ⟨fd, fun s v => b s [v] rfl, fun base => ?_⟩
  refine fn_def (x := "law") (N := ["script", "draws", "table", "size", "orders", "turn", "twice_names", "best", "top", "one", "other", "left", "order_here", "k", "count", "many"]) (ps := ["script"]) hlo hdo zr_ok plP_ok plP_leaf (fx_of (errs := HD.errs) (Γ := HD.gam) (glos := HD.glos) (more := HD.more) c cx (by decide) X G (by decide)) (k := 5) ⟨_, IoHas.zero (hio (cw := 0))⟩ (fun p hp => ?_) (fun p hp => absurd hp (by simp)) F ⟨rfl, rfl, rfl, by decide +kernel, rfl, by decide +kernel, by decide +kernel⟩
  simp only [List.mem_cons, List.not_mem_nil, or_false] at hp
  rcases hp with rfl | rfl | rfl | rfl | rfl | rfl | rfl | rfl | rfl | rfl | rfl | rfl
  · exact (has_law_start c cx X G).mono (by decide)
  · exact (has_law_table c cx X G).mono (by decide)
  · exact (has_best_renaming c cx X G).mono (by decide)
  · exact (has_agreed c cx X G).mono (by decide)
  · exact (has_law_same c cx X G).mono (by decide)
  · exact (has_renamed c cx X G).mono (by decide)
  · exact (has_reordered c cx X G).mono (by decide)
  · exact (has_exchanged c cx X G).mono (by decide)
  · exact (has_cases c cx X G).mono (by decide)
  · exact (has_is_best_named c cx X G).mono (by decide)
  · exact (has_law_pick c cx X G).mono (by decide)
  · exact (has_renaming_counts c cx X G).mono (by decide)
end DN
open PySem PySem.W PySem.Calls PyProof.Rows
theorem PySem.Challenge.cw_judgetables_k20_whole_named_holds : PySem.Challenge.rw_judgetables_k20_whole_named.Holds := by
  w_on; o_law
  refine HandSHeadRun.head_any (r := OpenLaw.row PySem.Challenge.rw_judgetables_k20_whole_named) (q := view (OpenLaw.row PySem.Challenge.rw_judgetables_k20_whole_named).prog [34]) (H := HD.hk) (ob := HD.ob) (M := 20000) (loose := HD.loose) (d := HandSHeadRun.topDef (OpenLaw.row PySem.Challenge.rw_judgetables_k20_whole_named).prog 34) (kwd := []) HD.ob_eq
    (by kernel_rfl) (fun s => by kernel_rfl) HD.run (by kernel_rfl) (by kernel_rfl) (by kernel_rfl) (by rfl) (by first | assumption | decide +kernel) (by decide +kernel) ⟨rfl, rfl, rfl, rfl, rfl, by decide +kernel⟩ ?hw ?hc
  case hw => w_witness2
  case hc =>
    refine T.walk_ofX (l := PySem.Challenge.rw_judgetables_k20_whole_named) (n := 63) (k := 6) (x := "script") rfl (by decide) (by kernel_rfl) ⟨rfl, by decide, by decide⟩ ?F
    intro w mg fa h Y G hmg0
    obtain ⟨K, KX, c, cx⟩ := Y
    have hmg : mg ("law" : PySem.Str) = some (.ref fa) := by
      have e : (HandSHeadRun.topDef (OpenLaw.row PySem.Challenge.rw_judgetables_k20_whole_named).prog 34).name = ("law" : PySem.Str) := by kernel_rfl
      rw [← e]
      exact hmg0
    obtain ⟨fd, hb, hF⟩ := DN.facts (P := (PySem.Challenge.rw_judgetables_k20_whole_named).prog) (wd := w) KX G hmg c cx
    exact ⟨K, fd, _, KX, hb, fun H a ns hl hO hS => T.sp_law DN.law_true H a ns hl hO hS, fun base _ _ => hF base⟩
