import PyProof.Rows.All
import Wide.All
import Open.Line
import OpenK.KMore
import OpenK.KCell
import Wide.FinOn
import PyProof.EqLayable
import PyProof.EnumMake
import PyProof.Draws
import PyProof.TableCode
import PySem.Challenge.RW_sx_r021_2
section
set_option genSizeOf false
set_option genSizeOfSpec false
set_option genInjectivity false
set_option backward.match.sparseCases false
namespace Mine
open PySem
section
abbrev D := PyData
inductive Op | add | sub | mul | mod
inductive Cm | eq | ne | lt | le | gt | ge | isin | notin
inductive B1 | len | maxl | sorted | list | tuple
inductive B2 | min | max
inductive Ty | tuple | bool | int
set_option genCtorIdx false in
set_option backward.linearNoConfusionType false in
inductive Tx
  | one (x : Nat) (p : Pos)
  | many (xs : List (Nat × Pos)) (p : Pos)
set_option genCtorIdx false in
set_option backward.linearNoConfusionType false in
mutual
inductive Ex
  | lit (d : D) (p : Pos)
  | neg (i : Int) (p q : Pos)
  | var (x : Nat) (p : Pos)
  | glb (x : Nat) (p : Pos)
  | tup (es : Exs) (p : Pos)
  | lst (es : Exs) (p : Pos)
  | bin (o : Op) (a b : Qx) (p : Pos)
  | and (es : Exs) (p : Pos)
  | or (es : Exs) (p : Pos)
  | cmp (o : Cm) (a b : Qx) (p : Pos)
  | ite (t : Te) (a b : Ex) (p : Pos)
  | idx (e : Qx) (i : Ex) (p : Pos)
  | slc (e : Qx) (lo hi : Ox) (p q : Pos)
  | attr (x a : Nat) (p q : Pos)
  | b1 (f : B1) (e : Qx) (p q : Pos)
  | b2 (f : B2) (a b : Ex) (p q : Pos)
  | isTy (e : Ex) (t : Ty) (p c f q : Pos)
  | isNone (e : Ex) (p q : Pos)
  | call (f : Nat) (es : Exs) (p q : Pos)
  | meth (x m : Nat) (es : Exs) (p a q : Pos)
  | comp (elt : Ex) (tg : Tx) (src : Sr) (cond : Cx) (sc : List (Nat × NameKind)) (p : Pos)
inductive Exs
  | nil
  | cons (e : Ex) (r : Exs)
inductive Ox
  | none
  | some (e : Ex)
inductive Qx
  | v (e : Ex)
  | ov (x : Nat) (p : Pos)
  | oa (x a : Nat) (p q : Pos)
inductive Te
  | v (e : Ex)
  | q (e : Qx)
  | cmp2 (o o' : Cm) (a b c : Ex) (p : Pos)
  | not (t : Te) (p : Pos)
  | all (ts : Tes) (p : Pos)
  | any (ts : Tes) (p : Pos)
inductive Tes
  | nil
  | cons (t : Te) (r : Tes)
inductive Cx
  | none
  | some (t : Te)
inductive Sr
  | seq (e : Qx)
  | rng (es : Exs) (p q : Pos)
  | enum (e : Qx) (p q : Pos)
  | zip (a b : Qx) (p q : Pos)
end
set_option genCtorIdx false in
set_option backward.linearNoConfusionType false in
inductive Lc
  | v (x : Nat) (p : Pos)
  | a (x a : Nat) (p q : Pos)
set_option genCtorIdx false in
set_option backward.linearNoConfusionType false in
inductive Tg
  | nm (x : Nat) (p : Pos)
  | att (x a : Nat) (p q : Pos)
  | tu (xs : List (Nat × Pos)) (p : Pos)
set_option genCtorIdx false in
set_option backward.linearNoConfusionType false in
mutual
inductive Sm
  | app (l : Lc) (e : Ex) (p c a : Pos)
  | asg (x : Nat) (own : Bool) (e : Ex) (p q : Pos)
  | asgT (ts : List (Tg × Bool)) (es : Exs) (p t v : Pos)
  | unp (ts : List Tg) (e : Ex) (p t : Pos)
  | asgA (x a : Nat) (own : Bool) (e : Ex) (p t q : Pos)
  | aug (x : Nat) (o : Op) (e : Ex) (p q : Pos)
  | augA (x a : Nat) (o : Op) (e : Ex) (p t q : Pos)
  | ext (x : Nat) (e : Ex) (p q : Pos)
  | setI (l : Lc) (i e : Ex) (p t : Pos)
  | unpSet (x : Nat) (i : Ex) (y : Nat) (e : Ex) (p t u q r : Pos)
  | del (l : Lc) (lo : Ex) (p t q : Pos)
  | pop (y x : Nat) (i : Ex) (p q c a r : Pos)
  | mcall (x m : Nat) (es : Exs) (p c a q : Pos)
  | new (x f : Nat) (es : Exs) (p q c r : Pos)
  | ite (t : Te) (a b : Sms) (p : Pos)
  | for_ (tg : Tx) (src : Sr) (b : Sms) (p : Pos)
  | ret (e : Ex) (p : Pos)
  | retN (p : Pos)
  | brk (p : Pos)
  | frz (x : Nat)
  | frzA (a : Nat)
inductive Sms
  | nil
  | cons (s : Sm) (r : Sms)
end
noncomputable def opOf : Op → Operator
  | .add => .Add | .sub => .Sub | .mul => .Mult | .mod => .Mod
noncomputable def cmOf : Cm → CmpOp
  | .eq => .Eq | .ne => .NotEq | .lt => .Lt | .le => .LtE | .gt => .Gt | .ge => .GtE | .isin => .In | .notin => .NotIn
noncomputable def b1Name : B1 → Str
  | .len => "len" | .maxl => "max" | .sorted => "sorted" | .list => "list" | .tuple => "tuple"
noncomputable def b2Name : B2 → Str
  | .min => "min" | .max => "max"
noncomputable def tyStr : Ty → String
  | .tuple => "tuple" | .bool => "bool" | .int => "int"
noncomputable def litOf : D → Const
  | .none => .none | .bool b => .bool b | .int i => .int i | .str x => .str x | _ => .ellipsis
noncomputable def scOf (T : Nat → Str) (ns : List (Nat × NameKind)) : Scope := { kind := .function, names := ns.map fun x => (T x.1, x.2), isGenerator := false, isCoroutine := false, more := [] }
noncomputable def toTg (T : Nat → Str) : Tx → Expr
  | .one x p => .Name (T x) p
  | .many xs p => .Tuple (xs.map fun x => .Name (T x.1) x.2) 0 p
mutual
noncomputable def toE (T : Nat → Str) : Ex → Expr
  | .lit d p => .Constant (litOf d) 0 p
  | .neg i p q => .UnaryOp .USub (.Constant (.int i) 0 q) p
  | .var x p => .Name (T x) p
  | .glb x p => .Name (T x) p
  | .tup es p => .Tuple (toEs T es) 0 p
  | .lst es p => .List (toEs T es) p
  | .bin o a b p => .BinOp (toQ T a) (opOf o) (toQ T b) p
  | .and es p => .BoolOp .And (toEs T es) p
  | .or es p => .BoolOp .Or (toEs T es) p
  | .cmp o a b p => .Compare (toQ T a) [cmOf o] [toQ T b] p
  | .ite t a b p => .IfExp (toT T t) (toE T a) (toE T b) p
  | .idx e i p => .Subscript (toQ T e) (toE T i) p
  | .slc e lo hi p q => .Subscript (toQ T e) (.Slice (toO T lo) (toO T hi) none q) p
  | .attr x a p q => .Attribute (.Name (T x) q) (T a) p
  | .b1 f e p q => .Call (.Name (b1Name f) q) [toQ T e] [] p
  | .b2 f a b p q => .Call (.Name (b2Name f) q) [toE T a, toE T b] [] p
  | .isTy e t p c f q => .Compare (.Call (.Name "type" f) [toE T e] [] c) [.Is] [.Name (Str.ofString (tyStr t)) q] p
  | .isNone e p q => .Compare (toE T e) [.Is] [.Constant .none 0 q] p
  | .call f es p q => .Call (.Name (T f) q) (toEs T es) [] p
  | .meth x m es p a q => .Call (.Attribute (.Name (T x) q) (T m) a) (toEs T es) [] p
  | .comp elt tg src cond sc p => .ListComp (toE T elt) [⟨toTg T tg, toS T src, toC T cond, 0⟩] (scOf T sc) p
noncomputable def toEs (T : Nat → Str) : Exs → List Expr
  | .nil => []
  | .cons e r => toE T e :: toEs T r
noncomputable def toO (T : Nat → Str) : Ox → Option Expr
  | .none => none
  | .some e => some (toE T e)
noncomputable def toQ (T : Nat → Str) : Qx → Expr
  | .v e => toE T e
  | .ov x p => .Name (T x) p
  | .oa x a p q => .Attribute (.Name (T x) q) (T a) p
noncomputable def toT (T : Nat → Str) : Te → Expr
  | .v e => toE T e
  | .q e => toQ T e
  | .cmp2 o o' a b c p => .Compare (toE T a) [cmOf o, cmOf o'] [toE T b, toE T c] p
  | .not t p => .UnaryOp .Not (toT T t) p
  | .all ts p => .BoolOp .And (toTs T ts) p
  | .any ts p => .BoolOp .Or (toTs T ts) p
noncomputable def toTs (T : Nat → Str) : Tes → List Expr
  | .nil => []
  | .cons t r => toT T t :: toTs T r
noncomputable def toC (T : Nat → Str) : Cx → List Expr
  | .none => []
  | .some t => [toT T t]
noncomputable def toS (T : Nat → Str) : Sr → Expr
  | .seq e => toQ T e
  | .rng es p q => .Call (.Name "range" q) (toEs T es) [] p
  | .enum e p q => .Call (.Name "enumerate" q) [toQ T e] [] p
  | .zip a b p q => .Call (.Name "zip" q) [toQ T a, toQ T b] [] p
end
noncomputable def toL (T : Nat → Str) : Lc → Expr
  | .v x p => .Name (T x) p
  | .a x a p q => .Attribute (.Name (T x) q) (T a) p
noncomputable def toG (T : Nat → Str) : Tg → Expr
  | .nm x p => .Name (T x) p
  | .att x a p q => .Attribute (.Name (T x) q) (T a) p
  | .tu xs p => .Tuple (xs.map fun x => .Name (T x.1) x.2) 0 p
mutual
noncomputable def toM (T : Nat → Str) : Sm → List Stmt
  | .app l e p c a => [.Expr (.Call (.Attribute (toL T l) "append" a) [toE T e] [] c) p]
  | .asg x _ e p q => [.Assign [.Name (T x) q] (toE T e) p]
  | .asgT ts es p t v => [.Assign [.Tuple (ts.map fun g => toG T g.1) 0 t] (.Tuple (toEs T es) 0 v) p]
  | .unp ts e p t => [.Assign [.Tuple (ts.map (toG T)) 0 t] (toE T e) p]
  | .asgA x a _ e p t q => [.Assign [.Attribute (.Name (T x) q) (T a) t] (toE T e) p]
  | .aug x o e p q => [.AugAssign (.Name (T x) q) (opOf o) (toE T e) p]
  | .augA x a o e p t q => [.AugAssign (.Attribute (.Name (T x) q) (T a) t) (opOf o) (toE T e) p]
  | .ext x e p q => [.AugAssign (.Name (T x) q) .Add (toE T e) p]
  | .setI l i e p t => [.Assign [.Subscript (toL T l) (toE T i) t] (toE T e) p]
  | .unpSet x i y e p t u q r => [.Assign [.Tuple [.Subscript (.Name (T x) q) (toE T i) u, .Name (T y) r] 0 t] (toE T e) p]
  | .del l lo p t q => [.Delete [.Subscript (toL T l) (.Slice (some (toE T lo)) none none q) t] p]
  | .pop y x i p q c a r => [.Assign [.Name (T y) q] (.Call (.Attribute (.Name (T x) r) "pop" a) [toE T i] [] c) p]
  | .mcall x m es p c a q => [.Expr (.Call (.Attribute (.Name (T x) q) (T m) a) (toEs T es) [] c) p]
  | .new x f es p q c r => [.Assign [.Name (T x) q] (.Call (.Name (T f) r) (toEs T es) [] c) p]
  | .ite t a b p => [.If (toT T t) (toMs T a) (toMs T b) p]
  | .for_ tg src b p => [.For (toTg T tg) (toS T src) (toMs T b) [] p]
  | .ret e p => [.Return (some (toE T e)) p]
  | .retN p => [.Return none p]
  | .brk p => [.Break p]
  | .frz _ => []
  | .frzA _ => []
noncomputable def toMs (T : Nat → Str) : Sms → List Stmt
  | .nil => []
  | .cons s r => toM T s ++ toMs T r
end
inductive AV
  | fz (d : D)
  | own (ds : List D)
  | obj
abbrev Al := List (Nat × AV)
structure PS where
  loc : Al
  ob : Al
noncomputable def put (x : Nat) (v : AV) : Al → Al
  | [] => [(x, v)]
  | (y, u) :: r => if y = x then (x, v) :: r else (y, u) :: put x v r
noncomputable def look (x : Nat) : Al → Option AV
  | [] => none
  | (y, u) :: r => if y = x then some u else look x r
noncomputable def big : Nat := 65536
structure Orc where
  gl : Nat → Option D
  fn : Nat → List D → Option D
  pm : Nat → Al → List D → Option D
  mm : Nat → Al → List D → Option (D × Al)
theorem ns {α : Type} {x : α} {P : Prop} (h : (none : Option α) = some x) : P := by cases h
theorem nso {α : Type} {o : Option α} {x : α} {P : Prop} (h : o = none) (g : o = some x) : P := ns (h.symm.trans g)
noncomputable def gd (b : Bool) (x : α) : Option α := if b then some x else none
theorem gd_some {b : Bool} {x y : α} (h : gd b x = some y) : b = true ∧ x = y := by
  cases b with
  | true => exact ⟨rfl, Option.some.inj h⟩
  | false => cases h
theorem bnd {α β : Type} {x : Option α} {f : α → Option β} {r : β} {P : Prop} (h : x.bind f = some r) (k : ∀ a, x = some a → f a = some r → P) : P := by
  obtain ⟨a, h1, h2⟩ := Option.bind_eq_some_iff.mp h; exact k a h1 h2
theorem mpd {α β : Type} {x : Option α} {f : α → β} {r : β} {P : Prop} (h : x.map f = some r) (k : ∀ a, x = some a → f a = r → P) : P := by
  obtain ⟨a, h1, h2⟩ := Option.map_eq_some_iff.mp h; exact k a h1 h2
theorem gdd {α : Type} {b : Bool} {x y : α} {P : Prop} (h : gd b x = some y) (k : b = true → x = y → P) : P := k (gd_some h).1 (gd_some h).2
noncomputable def asInt : D → Option Int
  | .int i => some i
  | _ => none
noncomputable def asList : D → Option (List D)
  | .list l => some l
  | _ => none
noncomputable def asTup : D → Option (List D)
  | .tuple l => some l
  | _ => none
noncomputable def asSeq : D → Option (List D)
  | .list l => some l
  | .tuple l => some l
  | _ => none
noncomputable def asInts : List D → Option (List Int)
  | [] => some []
  | d :: r => (asInt d).bind fun i => (asInts r).map fun l => i :: l
noncomputable def asPair : List D → Option (Int × Int)
  | [a, b] => (asInt a).bind fun i => (asInt b).map fun j => (i, j)
  | _ => none
noncomputable def truth : D → Option Bool
  | .none => some false
  | .bool b => some b
  | .int i => some (i != 0)
  | .list l => some (!l.isEmpty)
  | .tuple l => some (!l.isEmpty)
  | _ => none
noncomputable def fitI (i : Int) : Bool := decide (-4611686018427387904 ≤ i) && decide (i < 4611686018427387904)
noncomputable def addD (x y : D) : Option D := match x with
  | .int i => (asInt y).map fun j => .int (i + j)
  | .list l => (asList y).bind fun t => gd (decide (l.length + t.length ≤ big)) (.list (l ++ t))
  | .tuple l => (asTup y).bind fun t => gd (decide (l.length + t.length ≤ big)) (.tuple (l ++ t))
  | _ => none
noncomputable def mulD (x y : D) : Option D := match x with
  | .int i => (asInt y).bind fun j => gd (fitI i) (.int (i * j))
  | .list l => (asInt y).bind fun j => gd (decide (0 ≤ j) && decide (j ≤ 16) && decide (l.length ≤ 16)) (.list (List.replicate j.toNat l).flatten)
  | _ => none
noncomputable def doBin : Op → D → D → Option D
  | .add, x, y => addD x y
  | .sub, x, y => (asInt x).bind fun i => (asInt y).map fun j => .int (i - j)
  | .mul, x, y => mulD x y
  | .mod, x, y => (asInt x).bind fun i => (asInt y).bind fun j => gd (decide (0 < j)) (.int (i.fmod j))
noncomputable def eqD (a b : D) : Option Bool := gd (decide (a.depth ≤ 64) && decide (b.depth ≤ 64)) (PyData.eqv a b)
noncomputable def inD (a : D) (l : List D) : Option Bool := gd (decide (a.depth ≤ 64)) (l.any fun y => PyData.eqv y a)
noncomputable def twoI (x y : D) (f : Int → Int → Bool) : Option Bool := (asInt x).bind fun i => (asInt y).map fun j => f i j
noncomputable def geD (x y : D) : Option Bool := match x with
  | .tuple l => (asPair l).bind fun p => (asTup y).bind fun t => (asPair t).map fun q => decide (p.1 > q.1 ∨ (p.1 = q.1 ∧ p.2 ≥ q.2))
  | _ => twoI x y fun i j => decide (j ≤ i)
noncomputable def doCm : Cm → D → D → Option Bool
  | .eq, a, b => eqD a b
  | .ne, a, b => (eqD a b).map (!·)
  | .lt, a, b => twoI a b fun i j => decide (i < j)
  | .le, a, b => twoI a b fun i j => decide (i ≤ j)
  | .gt, a, b => twoI a b fun i j => decide (j < i)
  | .ge, a, b => geD a b
  | .isin, a, b => (asSeq b).bind fun l => inD a l
  | .notin, a, b => ((asSeq b).bind fun l => inD a l).map (!·)
noncomputable def atI (l : List D) (i : Int) : Option D := if 0 ≤ i then l[i.toNat]? else if -(l.length : Int) ≤ i then l[(i + l.length).toNat]? else none
noncomputable def doIdx (x y : D) : Option D := (asSeq x).bind fun l => (asInt y).bind fun i => atI l i
noncomputable def partI : Option D → Option (Option Nat)
  | none => some none
  | some d => (asInt d).bind fun i => gd (decide (0 ≤ i) && fitI i) (some i.toNat)
noncomputable def cutN (lo hi : Option Nat) (l : List α) : List α := ((match hi with | some b => l.take b | none => l).drop (lo.getD 0))
noncomputable def doSlc (lo hi : Option D) (x : D) : Option D := (partI lo).bind fun a => (partI hi).bind fun b => match x with
  | .list l => some (.list (cutN a b l))
  | .tuple l => some (.tuple (cutN a b l))
  | _ => none
noncomputable def insI (x : Int) : List Int → List Int
  | [] => [x]
  | y :: r => if x ≤ y then x :: y :: r else y :: insI x r
noncomputable def sortI : List Int → List Int
  | [] => []
  | x :: r => insI x (sortI r)
noncomputable def maxI : Int → List Int → Int
  | a, [] => a
  | a, x :: r => maxI (if x > a then x else a) r
noncomputable def maxIs : List Int → Option D
  | [] => none
  | i :: r => some (.int (maxI i r))
noncomputable def tupOnly : D → Option D
  | .tuple l => some (.tuple l)
  | _ => none
noncomputable def isNo : D → Bool
  | .none => true
  | _ => false
noncomputable def tyName : D → String
  | .none => "NoneType" | .bool _ => "bool" | .int _ => "int" | .str _ => "str" | .list _ => "list" | .tuple _ => "tuple" | .dict _ => "dict"
noncomputable def doB1 : B1 → D → Option D
  | .len, x => (asSeq x).map fun l => .int l.length
  | .maxl, x => (asList x).bind fun l => (asInts l).bind maxIs
  | .sorted, x => (asList x).bind fun l => (asInts l).bind fun is => gd (decide (is.length < 64)) (.list ((sortI is).map .int))
  | .list, x => (asSeq x).map .list
  | .tuple, x => tupOnly x
noncomputable def doB2 (f : B2) (x y : D) : Option D := (asInt x).bind fun i => (asInt y).map fun j => .int (match f with | .min => if j < i then j else i | .max => if j > i then j else i)
noncomputable def rangeL (a b c : Int) : Option (List D) :=
  if c = 1 then gd (fitI a && fitI b && decide ((b - a).toNat ≤ big)) ((List.range (b - a).toNat).map fun i : Nat => .int (a + Int.ofNat i))
  else if c = -1 then gd (fitI a && fitI b && decide ((a - b).toNat ≤ big)) ((List.range (a - b).toNat).map fun i : Nat => .int (a - Int.ofNat i))
  else none
noncomputable def doRng : List Int → Option (List D)
  | [b] => rangeL 0 b 1
  | [a, b] => rangeL a b 1
  | [a, b, c] => rangeL a b c
  | _ => none
noncomputable def enumL : Nat → List D → List D
  | _, [] => []
  | i, x :: r => .tuple [.int (i : Int), x] :: enumL (i + 1) r
noncomputable def zipL : List D → List D → List D
  | x :: r, y :: t => .tuple [x, y] :: zipL r t
  | _, _ => []
noncomputable def isObj (x : Nat) (l : Al) : Bool := match look x l with
  | some .obj => true
  | _ => false
noncomputable def putO (x : Nat) (v : AV) (l : Al) : Option Al := gd (!isObj x l) (put x v l)
noncomputable def putA (a : Nat) (v : AV) (ob : Al) : Option Al := gd (decide (ob.length < 64)) (put a v ob)
noncomputable def putAll : List (Nat × Pos) → List D → Al → Option Al
  | [], [], l => some l
  | x :: xs, d :: ds, l => (putO x.1 (.fz d) l).bind fun l' => putAll xs ds l'
  | _, _, _ => none
noncomputable def bindT : Tx → D → Al → Option Al
  | .one x _, d, l => putO x (.fz d) l
  | .many xs _, d, l => (asTup d).bind fun ds => putAll xs ds l
noncomputable def compL (f : D → Option (Option D)) : List D → Option (List D)
  | [] => some []
  | x :: r => (f x).bind fun y => (compL f r).map fun l => y.toList ++ l
noncomputable def fzOf : Option AV → Option D
  | some (.fz d) => some d
  | _ => none
noncomputable def ownOf : Option AV → Option (List D)
  | some (.own ds) => some ds
  | _ => none
noncomputable def noObj : Al → Bool
  | [] => true
  | (_, .obj) :: _ => false
  | _ :: r => noObj r
mutual
noncomputable def ev (O : Orc) : Ex → PS → Option D
  | .lit d _, _ => some d
  | .neg i _ _, _ => some (.int (-i))
  | .var x _, S => fzOf (look x S.loc)
  | .glb x _, _ => O.gl x
  | .tup es _, S => (evs O es S).map .tuple
  | .lst es _, S => (evs O es S).map .list
  | .bin o a b _, S => (evQ O a S).bind fun x => (evQ O b S).bind fun y => doBin o x y
  | .and es _, S => evAnd O es S
  | .or es _, S => evOr O es S
  | .cmp o a b _, S => (evQ O a S).bind fun x => (evQ O b S).bind fun y => (doCm o x y).map .bool
  | .ite c a b _, S => (evT O c S).bind fun t => if t then ev O a S else ev O b S
  | .idx e i _, S => (evQ O e S).bind fun x => (ev O i S).bind fun y => doIdx x y
  | .slc e lo hi _ _, S => (evQ O e S).bind fun x => (evO O lo S).bind fun a => (evO O hi S).bind fun b => doSlc a b x
  | .attr x a _ _, S => if isObj x S.loc then fzOf (look a S.ob) else none
  | .b1 f e _ _, S => (evQ O e S).bind fun x => doB1 f x
  | .b2 f a b _ _, S => (ev O a S).bind fun x => (ev O b S).bind fun y => doB2 f x y
  | .isTy e t _ _ _ _, S => (ev O e S).map fun x => .bool (tyName x == tyStr t)
  | .isNone e _ _, S => (ev O e S).map fun x => .bool (isNo x)
  | .call f es _ _, S => (evs O es S).bind fun ds => O.fn f ds
  | .meth x m es _ _ _, S => if isObj x S.loc then (evs O es S).bind fun ds => O.pm m S.ob ds else none
  | .comp elt tg src cond _ _, S => (evSr O src S).bind fun items => (compL (fun d => (bindT tg d S.loc).bind fun l =>
      (evC O cond { S with loc := l }).bind fun c => if c then (ev O elt { S with loc := l }).map some else some none) items).bind fun l => gd (decide (l.length ≤ big)) (.list l)
noncomputable def evs (O : Orc) : Exs → PS → Option (List D)
  | .nil, _ => some []
  | .cons e r, S => (ev O e S).bind fun x => (evs O r S).map fun l => x :: l
noncomputable def evAnd (O : Orc) : Exs → PS → Option D
  | .nil, _ => none
  | .cons e .nil, S => ev O e S
  | .cons e r, S => (ev O e S).bind fun x => (truth x).bind fun c => if c then evAnd O r S else some x
noncomputable def evOr (O : Orc) : Exs → PS → Option D
  | .nil, _ => none
  | .cons e .nil, S => ev O e S
  | .cons e r, S => (ev O e S).bind fun x => (truth x).bind fun c => if c then some x else evOr O r S
noncomputable def evO (O : Orc) : Ox → PS → Option (Option D)
  | .none, _ => some none
  | .some e, S => (ev O e S).map some
noncomputable def evQ (O : Orc) : Qx → PS → Option D
  | .v e, S => ev O e S
  | .ov x _, S => (ownOf (look x S.loc)).map .list
  | .oa x a _ _, S => if isObj x S.loc then (ownOf (look a S.ob)).map .list else none
noncomputable def evT (O : Orc) : Te → PS → Option Bool
  | .v e, S => (ev O e S).bind truth
  | .q e, S => (evQ O e S).bind truth
  | .cmp2 o o' a b c _, S => (ev O a S).bind fun x => (ev O b S).bind fun y => (doCm o x y).bind fun t => if t then (ev O c S).bind fun z => doCm o' y z else some false
  | .not a _, S => (evT O a S).map (!·)
  | .all ts _, S => evAll O ts S
  | .any ts _, S => evAny O ts S
noncomputable def evAll (O : Orc) : Tes → PS → Option Bool
  | .nil, _ => some true
  | .cons t r, S => (evT O t S).bind fun c => if c then evAll O r S else some false
noncomputable def evAny (O : Orc) : Tes → PS → Option Bool
  | .nil, _ => some false
  | .cons t r, S => (evT O t S).bind fun c => if c then some true else evAny O r S
noncomputable def evC (O : Orc) : Cx → PS → Option Bool
  | .none, _ => some true
  | .some e, S => evT O e S
noncomputable def evSr (O : Orc) : Sr → PS → Option (List D)
  | .seq e, S => (evQ O e S).bind asSeq
  | .rng es _ _, S => (evs O es S).bind fun ds => (asInts ds).bind doRng
  | .enum e _ _, S => (evQ O e S).bind fun x => (asSeq x).map fun l => enumL 0 l
  | .zip a b _ _, S => (evQ O a S).bind fun x => (evQ O b S).bind fun y => (asList x).bind fun l => (asList y).map fun t => zipL l t
end
inductive Fl
  | next
  | brk
  | ret (d : D)
noncomputable def freshE : Ex → Bool
  | .lst .. | .comp .. | .b1 .list .. | .bin .add .. | .bin .mul .. => true
  | _ => false
noncomputable def getL (l : Lc) (S : PS) : Option (List D) := match l with
  | .v x _ => ownOf (look x S.loc)
  | .a x a _ _ => if isObj x S.loc then ownOf (look a S.ob) else none
noncomputable def putL (l : Lc) (ds : List D) (S : PS) : PS := match l with
  | .v x _ => { S with loc := put x (.own ds) S.loc }
  | .a _ a _ _ => { S with ob := put a (.own ds) S.ob }
noncomputable def setT (t : Tg) (v : AV) (S : PS) : Option PS := match t with
  | .nm x _ => (putO x v S.loc).map fun l => { S with loc := l }
  | .att x a _ _ => if isObj x S.loc then (putA a v S.ob).map fun o => { S with ob := o } else none
  | .tu xs _ => (fzOf (some v)).bind fun d => (asTup d).bind fun ds => (putAll xs ds S.loc).map fun l => { S with loc := l }
noncomputable def setTs : List Tg → List AV → PS → Option PS
  | [], [], S => some S
  | t :: ts, v :: vs, S => (setT t v S).bind fun S' => setTs ts vs S'
  | _, _, _ => none
noncomputable def avOf (own : Bool) (d : D) : Option AV := if own then (asList d).map .own else some (.fz d)
noncomputable def avsOf : List Bool → List D → Option (List AV)
  | [], [] => some []
  | b :: bs, d :: ds => (avOf b d).bind fun v => (avsOf bs ds).map fun r => v :: r
  | _, _ => none
noncomputable def freshAt : List Bool → Exs → Bool
  | [], .nil => true
  | b :: bs, .cons e r => (!b || freshE e) && freshAt bs r
  | _, _ => false
noncomputable def placeOf (n : Nat) (d : D) : Option Nat := (asInt d).bind fun i => gd (decide (0 ≤ i) && decide (i.toNat < n)) i.toNat
noncomputable def asTwo : List D → Option (D × D)
  | [a, b] => some (a, b)
  | _ => none
noncomputable def forL (f : D → PS → Option (Fl × PS)) : List D → PS → Option (Fl × PS)
  | [], S => some (.next, S)
  | d :: r, S => (f d S).bind fun p => match p.1 with
    | .next => forL f r p.2
    | .brk => some (.next, p.2)
    | .ret v => some (.ret v, p.2)
mutual
noncomputable def ex (O : Orc) : Sm → PS → Option (Fl × PS)
  | .app l e _ _ _, S => (getL l S).bind fun ds => (ev O e S).bind fun d => gd (decide (ds.length < big)) (.next, putL l (ds ++ [d]) S)
  | .asg x own e _ _, S => (ev O e S).bind fun d => gd (!own || freshE e) () |>.bind fun _ => (avOf own d).bind fun v => (putO x v S.loc).map fun l => (.next, { S with loc := l })
  | .asgT ts es _ _ _, S => (evs O es S).bind fun ds => gd (freshAt (ts.map (·.2)) es) () |>.bind fun _ => (avsOf (ts.map (·.2)) ds).bind fun vs => (setTs (ts.map (·.1)) vs S).map fun S' => (.next, S')
  | .unp ts e _ _, S => (ev O e S).bind fun d => (asTup d).bind fun ds => (setTs ts (ds.map .fz) S).map fun S' => (.next, S')
  | .asgA x a own e _ _ _, S => if isObj x S.loc then (ev O e S).bind fun d => gd (!own || freshE e) () |>.bind fun _ => (avOf own d).bind fun v => (putA a v S.ob).map fun o => (.next, { S with ob := o }) else none
  | .aug x o e _ _, S => (fzOf (look x S.loc)).bind fun d => (ev O e S).bind fun d' => (asInt d).bind fun i => (asInt d').bind fun j => (doBin o (.int i) (.int j)).map fun r => (.next, { S with loc := put x (.fz r) S.loc })
  | .augA x a o e _ _ _, S => if isObj x S.loc then (fzOf (look a S.ob)).bind fun d => (ev O e S).bind fun d' => (asInt d).bind fun i => (asInt d').bind fun j => (doBin o (.int i) (.int j)).bind fun r => (putA a (.fz r) S.ob).map fun o => (.next, { S with ob := o }) else none
  | .ext x e _ _, S => (ownOf (look x S.loc)).bind fun ds => (ev O e S).bind fun d => (asList d).bind fun l => gd (decide (ds.length + l.length ≤ big)) (.next, { S with loc := put x (.own (ds ++ l)) S.loc })
  | .setI l i e _ _, S => (ev O e S).bind fun d => (getL l S).bind fun ds => (ev O i S).bind fun j => (placeOf ds.length j).map fun k => (.next, putL l (ds.set k d) S)
  | .unpSet x i y e _ _ _ _ _, S => (ev O e S).bind fun d => (asTup d).bind fun l => (asTwo l).bind fun p => (ownOf (look x S.loc)).bind fun ds => (ev O i S).bind fun j => (placeOf ds.length j).bind fun k =>
        (putO y (.fz p.2) (put x (.own (ds.set k p.1)) S.loc)).map fun l => (.next, { S with loc := l })
  | .del l lo _ _ _, S => (getL l S).bind fun ds => (ev O lo S).bind fun j => (asInt j).bind fun i => gd (decide (0 ≤ i) && fitI i) (.next, putL l (ds.take i.toNat) S)
  | .pop y x i _ _ _ _ _, S => (ownOf (look x S.loc)).bind fun ds => (ev O i S).bind fun j => (placeOf ds.length j).bind fun k => (ds[k]?).bind fun d =>
      (putO y (.fz d) (put x (.own (ds.eraseIdx k)) S.loc)).map fun l => (.next, { S with loc := l })
  | .mcall x m es _ _ _ _, S => if isObj x S.loc then (evs O es S).bind fun ds => (O.mm m S.ob ds).bind fun p => gd (isNo p.1) (.next, { S with ob := p.2 }) else none
  | .new x _ es _ _ _ _, S => (evs O es S).bind fun ds => (O.mm 0 [] ds).bind fun p => gd (isNo p.1 && noObj S.loc && S.ob.isEmpty) (.next, { loc := put x .obj S.loc, ob := p.2 })
  | .ite t a b _, S => (evT O t S).bind fun c => if c then exs O a S else exs O b S
  | .for_ tg src b _, S => (evSr O src S).bind fun items => forL (fun d S => (bindT tg d S.loc).bind fun l => exs O b { S with loc := l }) items S
  | .ret e _, S => (ev O e S).map fun d => (.ret d, S)
  | .retN _, S => some (.ret .none, S)
  | .brk _, S => some (.brk, S)
  | .frz x, S => (ownOf (look x S.loc)).map fun ds => (.next, { S with loc := put x (.fz (.list ds)) S.loc })
  | .frzA a, S => (ownOf (look a S.ob)).map fun ds => (.next, { S with ob := put a (.fz (.list ds)) S.ob })
noncomputable def exs (O : Orc) : Sms → PS → Option (Fl × PS)
  | .nil, S => some (.next, S)
  | .cons s r, S => (ex O s S).bind fun p => match p.1 with
    | .next => exs O r p.2
    | f => some (f, p.2)
end
noncomputable def valOf : Fl → Option D
  | .next => some .none
  | .ret d => some d
  | .brk => none
noncomputable def zipA : List Nat → List AV → Option Al
  | [], [] => some []
  | x :: xs, v :: vs => (zipA xs vs).map fun r => (x, v) :: r
  | _, _ => none
noncomputable def runFn (O : Orc) (ps : List Nat) (b : Sms) (ds : List D) : Option D :=
  (zipA ps (ds.map .fz)).bind fun l => (exs O b { loc := l, ob := [] }).bind fun p => valOf p.1
noncomputable def runMm (O : Orc) (ps : List Nat) (b : Sms) (ob : Al) (ds : List D) : Option (D × Al) :=
  (zipA ps (.obj :: ds.map .fz)).bind fun l => (exs O b { loc := l, ob := ob }).bind fun p => (valOf p.1).map fun d => (d, p.2.ob)
noncomputable def isComp : Ex → Bool
  | .comp .. => true
  | _ => false
mutual
noncomputable def pureS : Sm → Bool
  | .asg _ own e .. => !own && !isComp e
  | .ret .. | .retN _ | .brk _ => true
  | .ite _ a b _ => pureSs a && pureSs b
  | _ => false
noncomputable def pureSs : Sms → Bool
  | .nil => true
  | .cons s r => pureS s && pureSs r
end
noncomputable def runPm (O : Orc) (ps : List Nat) (b : Sms) (ob : Al) (ds : List D) : Option D :=
  gd (pureSs b) () |>.bind fun _ => (runMm O ps b ob ds).map (·.1)
end
end Mine
end
section
set_option maxRecDepth 100000
set_option backward.match.sparseCases false
namespace Mine
open PySem
noncomputable def nms : List Str := [Str.ofString "__init__", Str.ofString "self", Str.ofString "t", Str.ofString "me", Str.ofString "size", Str.ofString "role", Str.ofString "term", Str.ofString "voted", Str.ofString "log", Str.ofString "commit", Str.ofString "extra", Str.ofString "out", Str.ofString "tup", Str.ofString "ex", Str.ofString "last", Str.ofString "term_at", Str.ofString "i", Str.ofString "others", Str.ofString "j", Str.ofString ".0", Str.ofString "send_append", Str.ofString "nxt", Str.ofString "prev", Str.ofString "beat", Str.ofString "maybe_lead", Str.ofString "look", Str.ofString "n", Str.ofString "x", Str.ofString "follow", Str.ofString "handle", Str.ofString "ev", Str.ofString "receive", Str.ofString "message", Str.ofString "kind", Str.ofString "frm", Str.ofString "rest", Str.ofString "ok", Str.ofString "pt", Str.ofString "pi", Str.ofString "entries", Str.ofString "k", Str.ofString "e", Str.ofString "end", Str.ofString "match", Str.ofString "step", Str.ofString "node", Str.ofString "event", Str.ofString "_Node", Str.ofString "len", Str.ofString "law", Str.ofString "script", Str.ofString "nodes", Str.ofString "fresh", Str.ofString "history", Str.ofString "way", Str.ofString "a", Str.ofString "actions", Str.ofString "at", Str.ofString "m", Str.ofString "verb", Str.ofString "chain", Str.ofString "_law_plans", Str.ofString "head", Str.ofString "w", Str.ofString "acts", Str.ofString "to", Str.ofString "ahead", Str.ofString "_law_entry", Str.ofString "votes", Str.ofString "_law_appends", Str.ofString "good", Str.ofString "p", Str.ofString "act", Str.ofString "asks", Str.ofString "_law_won", Str.ofString "_law_reached", Str.ofString "before", Str.ofString "same", Str.ofString "mine", Str.ofString "came", Str.ofString "told", Str.ofString "sent", Str.ofString "mail", Str.ofString "now", Str.ofString "given", Str.ofString "v", Str.ofString "_law_take", Str.ofString "most", Str.ofString "_law_hear", Str.ofString "_law_tell", Str.ofString "_law_sizes", Str.ofString "part", Str.ofString "_law_moves", Str.ofString "twin", Str.ofString "got", Str.ofString "play", Str.ofString "_law_reckon"]
noncomputable def T (i : Nat) : Str := match nms[i]? with | some x => x | none => ⟨Array.replicate (i + 1) 0⟩
noncomputable def gls : Nat → Option D
  | 90 => some (.tuple [(.int 3), (.int 4), (.int 3), (.int 2), (.int 3), (.int 1), (.int 5)])
  | 61 => some (.tuple [(.tuple [(.str (Str.ofString "timeout")), (.tuple [(.tuple [(.str (Str.ofString "deliver")), (.int (-1))]), (.tuple [(.str (Str.ofString "deliver")), (.int (-1))]), (.tuple [(.str (Str.ofString "deliver")), (.int (-1))]), (.tuple [(.str (Str.ofString "deliver")), (.int (-1))])])]), (.tuple [(.str (Str.ofString "propose")), (.tuple [(.tuple [(.str (Str.ofString "deliver")), (.int (-1))]), (.tuple [(.str (Str.ofString "deliver")), (.int (-1))])])]), (.tuple [(.str (Str.ofString "timeout")), (.tuple [(.tuple [(.str (Str.ofString "deliver")), (.int (-2))]), (.tuple [(.str (Str.ofString "deliver")), (.int (-1))]), (.tuple [(.str (Str.ofString "deliver")), (.int (-2))]), (.tuple [(.str (Str.ofString "deliver")), (.int (-1))])])]), (.tuple [(.str (Str.ofString "put")), (.tuple [])]), (.tuple [(.str (Str.ofString "deliver")), (.tuple [])]), (.tuple [(.str (Str.ofString "propose")), (.tuple [(.tuple [(.str (Str.ofString "deliver")), (.int (-2))]), (.tuple [(.str (Str.ofString "deliver")), (.int (-1))])])]), (.tuple [(.str (Str.ofString "beat")), (.tuple [(.tuple [(.str (Str.ofString "deliver")), (.int (-2))]), (.tuple [(.str (Str.ofString "double")), (.int (-1))]), (.tuple [(.str (Str.ofString "deliver")), (.int (-1))]), (.tuple [(.str (Str.ofString "deliver")), (.int (-2))]), (.tuple [(.str (Str.ofString "deliver")), (.int (-1))])])]), (.tuple [(.str (Str.ofString "crash")), (.tuple [])]), (.tuple [(.str (Str.ofString "double")), (.tuple [(.tuple [(.str (Str.ofString "deliver")), (.int (-1))]), (.tuple [(.str (Str.ofString "deliver")), (.int (-1))])])]), (.tuple [(.str (Str.ofString "timeout")), (.tuple [(.tuple [(.str (Str.ofString "deliver")), (.int (-1))])])]), (.tuple [(.str (Str.ofString "drop")), (.tuple [])])])
  | _ => none
noncomputable def ps_init : List Nat := [1, 2]
noncomputable def ir_init : Sms := (.cons (.unp [(.att 1 3 ⟨5,8,5,15⟩ ⟨5,8,5,12⟩), (.att 1 4 ⟨5,17,5,26⟩ ⟨5,17,5,21⟩), (.att 1 5 ⟨5,28,5,37⟩ ⟨5,28,5,32⟩), (.att 1 6 ⟨5,39,5,48⟩ ⟨5,39,5,43⟩), (.att 1 7 ⟨5,50,5,60⟩ ⟨5,50,5,54⟩), (.nm 8 ⟨5,62,5,65⟩), (.att 1 9 ⟨5,67,5,78⟩ ⟨5,67,5,71⟩), (.nm 10 ⟨5,80,5,85⟩)] (.var 2 ⟨5,88,5,89⟩) ⟨5,8,5,89⟩ ⟨5,8,5,85⟩)
  (.cons (.asgA 1 8 true (.b1 .list (.v (.var 8 ⟨6,24,6,27⟩)) ⟨6,19,6,28⟩ ⟨6,19,6,23⟩) ⟨6,8,6,28⟩ ⟨6,8,6,16⟩ ⟨6,8,6,12⟩)
  (.cons (.asgA 1 10 true (.b1 .list (.v (.var 10 ⟨7,26,7,31⟩)) ⟨7,21,7,32⟩ ⟨7,21,7,25⟩) ⟨7,8,7,32⟩ ⟨7,8,7,18⟩ ⟨7,8,7,12⟩)
  (.cons (.asgA 1 11 true (.lst .nil ⟨8,19,8,21⟩) ⟨8,8,8,21⟩ ⟨8,8,8,16⟩ ⟨8,8,8,12⟩)
  .nil))))
noncomputable def ps_others : List Nat := [1]
noncomputable def ir_others : Sms := (.cons (.ret (.comp (.var 18 ⟨21,16,21,17⟩) (.one 18 ⟨21,22,21,23⟩) (.rng (.cons (.attr 1 4 ⟨21,33,21,42⟩ ⟨21,33,21,37⟩) .nil) ⟨21,27,21,43⟩ ⟨21,27,21,32⟩) (.some (.v (.cmp .ne (.v (.var 18 ⟨21,47,21,48⟩)) (.v (.attr 1 3 ⟨21,52,21,59⟩ ⟨21,52,21,56⟩)) ⟨21,47,21,59⟩))) [(19, .local), (18, .local), (1, .free)] ⟨21,15,21,60⟩) ⟨21,8,21,60⟩)
  .nil)
noncomputable def ps_term_at : List Nat := [1, 16]
noncomputable def ir_term_at : Sms := (.cons (.ret (.ite (.cmp2 .lt .le (.lit (.int 0) ⟨18,37,18,38⟩) (.var 16 ⟨18,41,18,42⟩) (.b1 .len (.oa 1 8 ⟨18,50,18,58⟩ ⟨18,50,18,54⟩) ⟨18,46,18,59⟩ ⟨18,46,18,49⟩) ⟨18,37,18,59⟩) (.idx (.v (.idx (.oa 1 8 ⟨18,15,18,23⟩ ⟨18,15,18,19⟩) (.bin .sub (.v (.var 16 ⟨18,24,18,25⟩)) (.v (.lit (.int 1) ⟨18,28,18,29⟩)) ⟨18,24,18,29⟩) ⟨18,15,18,30⟩)) (.lit (.int 0) ⟨18,31,18,32⟩) ⟨18,15,18,33⟩) (.lit (.int 0) ⟨18,65,18,66⟩) ⟨18,15,18,66⟩) ⟨18,8,18,66⟩)
  .nil)
noncomputable def ps_send_append : List Nat := [1, 18]
noncomputable def ir_send_append : Sms := (.cons (.asg 21 false (.idx (.v (.idx (.oa 1 10 ⟨24,14,24,24⟩ ⟨24,14,24,18⟩) (.var 18 ⟨24,25,24,26⟩) ⟨24,14,24,27⟩)) (.lit (.int 0) ⟨24,28,24,29⟩) ⟨24,14,24,30⟩) ⟨24,8,24,30⟩ ⟨24,8,24,11⟩)
  (.cons (.asg 22 false (.bin .sub (.v (.var 21 ⟨25,15,25,18⟩)) (.v (.lit (.int 1) ⟨25,21,25,22⟩)) ⟨25,15,25,22⟩) ⟨25,8,25,22⟩ ⟨25,8,25,12⟩)
  (.cons (.app (.a 1 11 ⟨26,8,26,16⟩ ⟨26,8,26,12⟩) (.tup (.cons (.lit (.str (Str.ofString "append")) ⟨26,25,26,33⟩) (.cons (.attr 1 6 ⟨26,35,26,44⟩ ⟨26,35,26,39⟩) (.cons (.attr 1 3 ⟨26,46,26,53⟩ ⟨26,46,26,50⟩) (.cons (.var 18 ⟨26,55,26,56⟩) (.cons (.tup (.cons (.meth 1 15 (.cons (.var 22 ⟨26,72,26,76⟩) .nil) ⟨26,59,26,77⟩ ⟨26,59,26,71⟩ ⟨26,59,26,63⟩) (.cons (.var 22 ⟨26,79,26,83⟩) .nil)) ⟨26,58,26,84⟩) (.cons (.slc (.oa 1 8 ⟨26,86,26,94⟩ ⟨26,86,26,90⟩) (.some (.var 22 ⟨26,95,26,99⟩)) .none ⟨26,86,26,101⟩ ⟨26,95,26,100⟩) (.cons (.attr 1 9 ⟨26,103,26,114⟩ ⟨26,103,26,107⟩) .nil))))))) ⟨26,24,26,115⟩) ⟨26,8,26,116⟩ ⟨26,8,26,116⟩ ⟨26,8,26,23⟩)
  .nil)))
noncomputable def ps_beat : List Nat := [1]
noncomputable def ir_beat : Sms := (.cons (.ite (.v (.cmp .eq (.v (.attr 1 5 ⟨29,11,29,20⟩ ⟨29,11,29,15⟩)) (.v (.lit (.str (Str.ofString "leader")) ⟨29,24,29,32⟩)) ⟨29,11,29,32⟩)) (.cons (.for_ (.one 18 ⟨30,16,30,17⟩) (.seq (.v (.meth 1 17 .nil ⟨30,21,30,34⟩ ⟨30,21,30,32⟩ ⟨30,21,30,25⟩))) (.cons (.mcall 1 20 (.cons (.var 18 ⟨31,33,31,34⟩) .nil) ⟨31,16,31,35⟩ ⟨31,16,31,35⟩ ⟨31,16,31,32⟩ ⟨31,16,31,20⟩)
  .nil) ⟨30,12,31,35⟩)
  .nil) .nil ⟨29,8,31,35⟩)
  .nil)
noncomputable def ps_maybe_lead : List Nat := [1]
noncomputable def ir_maybe_lead : Sms := (.cons (.ite (.all (.cons (.v (.cmp .eq (.v (.attr 1 5 ⟨34,11,34,20⟩ ⟨34,11,34,15⟩)) (.v (.lit (.str (Str.ofString "candidate")) ⟨34,24,34,35⟩)) ⟨34,11,34,35⟩)) (.cons (.v (.cmp .gt (.v (.bin .mul (.v (.lit (.int 2) ⟨34,40,34,41⟩)) (.v (.b1 .len (.oa 1 10 ⟨34,48,34,58⟩ ⟨34,48,34,52⟩) ⟨34,44,34,59⟩ ⟨34,44,34,47⟩)) ⟨34,40,34,59⟩)) (.v (.attr 1 4 ⟨34,62,34,71⟩ ⟨34,62,34,66⟩)) ⟨34,40,34,71⟩)) .nil)) ⟨34,11,34,71⟩) (.cons (.asgA 1 5 false (.lit (.str (Str.ofString "leader")) ⟨35,24,35,32⟩) ⟨35,12,35,32⟩ ⟨35,12,35,21⟩ ⟨35,12,35,16⟩)
  (.cons (.asgA 1 10 true (.bin .mul (.v (.lst (.cons (.tup (.cons (.bin .add (.v (.b1 .len (.oa 1 8 ⟨36,31,36,39⟩ ⟨36,31,36,35⟩) ⟨36,27,36,40⟩ ⟨36,27,36,30⟩)) (.v (.lit (.int 1) ⟨36,43,36,44⟩)) ⟨36,27,36,44⟩) (.cons (.lit (.int 0) ⟨36,46,36,47⟩) .nil)) ⟨36,26,36,48⟩) .nil) ⟨36,25,36,49⟩)) (.v (.attr 1 4 ⟨36,52,36,61⟩ ⟨36,52,36,56⟩)) ⟨36,25,36,61⟩) ⟨36,12,36,61⟩ ⟨36,12,36,22⟩ ⟨36,12,36,16⟩)
  (.cons (.setI (.a 1 10 ⟨37,12,37,22⟩ ⟨37,12,37,16⟩) (.attr 1 3 ⟨37,23,37,30⟩ ⟨37,23,37,27⟩) (.tup (.cons (.bin .add (.v (.b1 .len (.oa 1 8 ⟨37,39,37,47⟩ ⟨37,39,37,43⟩) ⟨37,35,37,48⟩ ⟨37,35,37,38⟩)) (.v (.lit (.int 1) ⟨37,51,37,52⟩)) ⟨37,35,37,52⟩) (.cons (.b1 .len (.oa 1 8 ⟨37,58,37,66⟩ ⟨37,58,37,62⟩) ⟨37,54,37,67⟩ ⟨37,54,37,57⟩) .nil)) ⟨37,34,37,68⟩) ⟨37,12,37,68⟩ ⟨37,12,37,31⟩)
  (.cons (.mcall 1 23 .nil ⟨38,12,38,23⟩ ⟨38,12,38,23⟩ ⟨38,12,38,21⟩ ⟨38,12,38,16⟩)
  .nil)))) .nil ⟨34,8,38,23⟩)
  .nil)
noncomputable def ps_follow : List Nat := [1]
noncomputable def ir_follow : Sms := (.cons (.asgA 1 5 false (.lit (.str (Str.ofString "follower")) ⟨47,20,47,30⟩) ⟨47,8,47,30⟩ ⟨47,8,47,17⟩ ⟨47,8,47,12⟩)
  (.cons (.asgA 1 10 true (.lst .nil ⟨48,21,48,23⟩) ⟨48,8,48,23⟩ ⟨48,8,48,18⟩ ⟨48,8,48,12⟩)
  .nil))
noncomputable def ps_last : List Nat := [1]
noncomputable def ir_last : Sms := (.cons (.ret (.ite (.q (.oa 1 8 ⟨15,51,15,59⟩ ⟨15,51,15,55⟩)) (.tup (.cons (.idx (.v (.idx (.oa 1 8 ⟨15,16,15,24⟩ ⟨15,16,15,20⟩) (.neg 1 ⟨15,25,15,27⟩ ⟨15,26,15,27⟩) ⟨15,16,15,28⟩)) (.lit (.int 0) ⟨15,29,15,30⟩) ⟨15,16,15,31⟩) (.cons (.b1 .len (.oa 1 8 ⟨15,37,15,45⟩ ⟨15,37,15,41⟩) ⟨15,33,15,46⟩ ⟨15,33,15,36⟩) .nil)) ⟨15,15,15,47⟩) (.tup (.cons (.lit (.int 0) ⟨15,66,15,67⟩) (.cons (.lit (.int 0) ⟨15,69,15,70⟩) .nil)) ⟨15,65,15,71⟩) ⟨15,15,15,71⟩) ⟨15,8,15,71⟩)
  .nil)
noncomputable def ps_look : List Nat := [1]
noncomputable def ir_look : Sms := (.cons (.for_ (.one 26 ⟨41,12,41,13⟩) (.rng (.cons (.b1 .len (.oa 1 8 ⟨41,27,41,35⟩ ⟨41,27,41,31⟩) ⟨41,23,41,36⟩ ⟨41,23,41,26⟩) (.cons (.attr 1 9 ⟨41,38,41,49⟩ ⟨41,38,41,42⟩) (.cons (.neg 1 ⟨41,51,41,53⟩ ⟨41,52,41,53⟩) .nil))) ⟨41,17,41,54⟩ ⟨41,17,41,22⟩) (.cons (.ite (.all (.cons (.v (.cmp .eq (.v (.meth 1 15 (.cons (.var 26 ⟨42,28,42,29⟩) .nil) ⟨42,15,42,30⟩ ⟨42,15,42,27⟩ ⟨42,15,42,19⟩)) (.v (.attr 1 6 ⟨42,34,42,43⟩ ⟨42,34,42,38⟩)) ⟨42,15,42,43⟩)) (.cons (.v (.cmp .gt (.v (.bin .mul (.v (.lit (.int 2) ⟨42,48,42,49⟩)) (.v (.b1 .len (.v (.comp (.var 27 ⟨42,57,42,58⟩) (.one 27 ⟨42,63,42,64⟩) (.seq (.oa 1 10 ⟨42,68,42,78⟩ ⟨42,68,42,72⟩)) (.some (.v (.cmp .ge (.v (.idx (.v (.var 27 ⟨42,82,42,83⟩)) (.lit (.int 1) ⟨42,84,42,85⟩) ⟨42,82,42,86⟩)) (.v (.var 26 ⟨42,90,42,91⟩)) ⟨42,82,42,91⟩))) [(19, .local), (27, .local), (26, .free)] ⟨42,56,42,92⟩)) ⟨42,52,42,93⟩ ⟨42,52,42,55⟩)) ⟨42,48,42,93⟩)) (.v (.attr 1 4 ⟨42,96,42,105⟩ ⟨42,96,42,100⟩)) ⟨42,48,42,105⟩)) .nil)) ⟨42,15,42,105⟩) (.cons (.asgA 1 9 false (.var 26 ⟨43,30,43,31⟩) ⟨43,16,43,31⟩ ⟨43,16,43,27⟩ ⟨43,16,43,20⟩)
  (.cons (.retN ⟨44,16,44,22⟩)
  .nil)) .nil ⟨42,12,44,22⟩)
  .nil) ⟨41,8,44,22⟩)
  .nil)
noncomputable def ps_receive : List Nat := [1, 32]
noncomputable def ir_receive : Sms := (.cons (.asgT [((.nm 33 ⟨70,8,70,12⟩), false), ((.nm 6 ⟨70,14,70,18⟩), false), ((.nm 34 ⟨70,20,70,23⟩), false), ((.nm 35 ⟨70,25,70,29⟩), false)] (.cons (.idx (.v (.var 32 ⟨70,33,70,40⟩)) (.lit (.int 0) ⟨70,41,70,42⟩) ⟨70,33,70,43⟩) (.cons (.idx (.v (.var 32 ⟨70,45,70,52⟩)) (.lit (.int 1) ⟨70,53,70,54⟩) ⟨70,45,70,55⟩) (.cons (.idx (.v (.var 32 ⟨70,57,70,64⟩)) (.lit (.int 2) ⟨70,65,70,66⟩) ⟨70,57,70,67⟩) (.cons (.slc (.v (.var 32 ⟨70,69,70,76⟩)) (.some (.lit (.int 4) ⟨70,77,70,78⟩)) .none ⟨70,69,70,80⟩ ⟨70,77,70,79⟩) .nil)))) ⟨70,8,70,81⟩ ⟨70,8,70,29⟩ ⟨70,32,70,81⟩)
  (.cons (.ite (.v (.cmp .gt (.v (.var 6 ⟨71,11,71,15⟩)) (.v (.attr 1 6 ⟨71,18,71,27⟩ ⟨71,18,71,22⟩)) ⟨71,11,71,27⟩)) (.cons (.asgT [((.att 1 6 ⟨72,12,72,21⟩ ⟨72,12,72,16⟩), false), ((.att 1 7 ⟨72,23,72,33⟩ ⟨72,23,72,27⟩), false)] (.cons (.var 6 ⟨72,37,72,41⟩) (.cons (.lit .none ⟨72,43,72,47⟩) .nil)) ⟨72,12,72,48⟩ ⟨72,12,72,33⟩ ⟨72,36,72,48⟩)
  (.cons (.mcall 1 28 .nil ⟨73,12,73,25⟩ ⟨73,12,73,25⟩ ⟨73,12,73,23⟩ ⟨73,12,73,16⟩)
  .nil)) .nil ⟨71,8,73,25⟩)
  (.cons (.ite (.v (.cmp .eq (.v (.var 33 ⟨74,11,74,15⟩)) (.v (.lit (.str (Str.ofString "ask")) ⟨74,19,74,24⟩)) ⟨74,11,74,24⟩)) (.cons (.asg 36 false (.and (.cons (.cmp .eq (.v (.var 6 ⟨75,17,75,21⟩)) (.v (.attr 1 6 ⟨75,25,75,34⟩ ⟨75,25,75,29⟩)) ⟨75,17,75,34⟩) (.cons (.cmp .isin (.v (.attr 1 7 ⟨75,39,75,49⟩ ⟨75,39,75,43⟩)) (.v (.tup (.cons (.lit .none ⟨75,54,75,58⟩) (.cons (.var 34 ⟨75,60,75,63⟩) .nil)) ⟨75,53,75,64⟩)) ⟨75,39,75,64⟩) (.cons (.cmp .ge (.v (.b1 .tuple (.v (.idx (.v (.var 35 ⟨75,76,75,80⟩)) (.lit (.int 0) ⟨75,81,75,82⟩) ⟨75,76,75,83⟩)) ⟨75,70,75,84⟩ ⟨75,70,75,75⟩)) (.v (.meth 1 14 .nil ⟨75,88,75,99⟩ ⟨75,88,75,97⟩ ⟨75,88,75,92⟩)) ⟨75,70,75,99⟩) .nil))) ⟨75,17,75,100⟩) ⟨75,12,75,100⟩ ⟨75,12,75,14⟩)
  (.cons (.ite (.v (.var 36 ⟨76,15,76,17⟩)) (.cons (.asgA 1 7 false (.var 34 ⟨77,29,77,32⟩) ⟨77,16,77,32⟩ ⟨77,16,77,26⟩ ⟨77,16,77,20⟩)
  .nil) .nil ⟨76,12,77,32⟩)
  (.cons (.app (.a 1 11 ⟨78,12,78,20⟩ ⟨78,12,78,16⟩) (.tup (.cons (.lit (.str (Str.ofString "vote")) ⟨78,29,78,35⟩) (.cons (.attr 1 6 ⟨78,37,78,46⟩ ⟨78,37,78,41⟩) (.cons (.attr 1 3 ⟨78,48,78,55⟩ ⟨78,48,78,52⟩) (.cons (.var 34 ⟨78,57,78,60⟩) (.cons (.var 36 ⟨78,62,78,64⟩) .nil))))) ⟨78,28,78,65⟩) ⟨78,12,78,66⟩ ⟨78,12,78,66⟩ ⟨78,12,78,27⟩)
  .nil))) (.cons (.ite (.v (.cmp .eq (.v (.var 33 ⟨79,13,79,17⟩)) (.v (.lit (.str (Str.ofString "vote")) ⟨79,21,79,27⟩)) ⟨79,13,79,27⟩)) (.cons (.ite (.all (.cons (.v (.idx (.v (.var 35 ⟨80,15,80,19⟩)) (.lit (.int 0) ⟨80,20,80,21⟩) ⟨80,15,80,22⟩)) (.cons (.v (.cmp .eq (.v (.var 6 ⟨80,27,80,31⟩)) (.v (.attr 1 6 ⟨80,35,80,44⟩ ⟨80,35,80,39⟩)) ⟨80,27,80,44⟩)) (.cons (.v (.cmp .eq (.v (.attr 1 5 ⟨80,50,80,59⟩ ⟨80,50,80,54⟩)) (.v (.lit (.str (Str.ofString "candidate")) ⟨80,63,80,74⟩)) ⟨80,50,80,74⟩)) .nil))) ⟨80,15,80,75⟩) (.cons (.ite (.v (.cmp .notin (.v (.var 34 ⟨81,19,81,22⟩)) (.oa 1 10 ⟨81,30,81,40⟩ ⟨81,30,81,34⟩) ⟨81,19,81,40⟩)) (.cons (.app (.a 1 10 ⟨82,20,82,30⟩ ⟨82,20,82,24⟩) (.var 34 ⟨82,38,82,41⟩) ⟨82,20,82,42⟩ ⟨82,20,82,42⟩ ⟨82,20,82,37⟩)
  .nil) .nil ⟨81,16,82,42⟩)
  (.cons (.mcall 1 24 .nil ⟨83,16,83,33⟩ ⟨83,16,83,33⟩ ⟨83,16,83,31⟩ ⟨83,16,83,20⟩)
  .nil)) .nil ⟨80,12,83,33⟩)
  .nil) (.cons (.ite (.v (.cmp .eq (.v (.var 33 ⟨84,13,84,17⟩)) (.v (.lit (.str (Str.ofString "append")) ⟨84,21,84,29⟩)) ⟨84,13,84,29⟩)) (.cons (.unp [(.tu [(37, ⟨85,13,85,15⟩), (38, ⟨85,17,85,19⟩)] ⟨85,12,85,20⟩), (.nm 39 ⟨85,22,85,29⟩), (.nm 9 ⟨85,31,85,37⟩)] (.var 35 ⟨85,40,85,44⟩) ⟨85,12,85,44⟩ ⟨85,12,85,37⟩)
  (.cons (.asg 36 false (.cmp .eq (.v (.var 6 ⟨86,17,86,21⟩)) (.v (.attr 1 6 ⟨86,25,86,34⟩ ⟨86,25,86,29⟩)) ⟨86,17,86,34⟩) ⟨86,12,86,34⟩ ⟨86,12,86,14⟩)
  (.cons (.ite (.v (.var 36 ⟨87,15,87,17⟩)) (.cons (.mcall 1 28 .nil ⟨88,16,88,29⟩ ⟨88,16,88,29⟩ ⟨88,16,88,27⟩ ⟨88,16,88,20⟩)
  (.cons (.asg 36 false (.or (.cons (.cmp .eq (.v (.var 38 ⟨89,21,89,23⟩)) (.v (.lit (.int 0) ⟨89,27,89,28⟩)) ⟨89,21,89,28⟩) (.cons (.and (.cons (.cmp .le (.v (.var 38 ⟨89,33,89,35⟩)) (.v (.b1 .len (.oa 1 8 ⟨89,43,89,51⟩ ⟨89,43,89,47⟩) ⟨89,39,89,52⟩ ⟨89,39,89,42⟩)) ⟨89,33,89,52⟩) (.cons (.cmp .eq (.v (.meth 1 15 (.cons (.var 38 ⟨89,70,89,72⟩) .nil) ⟨89,57,89,73⟩ ⟨89,57,89,69⟩ ⟨89,57,89,61⟩)) (.v (.var 37 ⟨89,77,89,79⟩)) ⟨89,57,89,79⟩) .nil)) ⟨89,33,89,79⟩) .nil)) ⟨89,21,89,80⟩) ⟨89,16,89,80⟩ ⟨89,16,89,18⟩)
  .nil)) .nil ⟨87,12,89,80⟩)
  (.cons (.ite (.not (.v (.var 36 ⟨90,19,90,21⟩)) ⟨90,15,90,21⟩) (.cons (.app (.a 1 11 ⟨91,16,91,24⟩ ⟨91,16,91,20⟩) (.tup (.cons (.lit (.str (Str.ofString "done")) ⟨91,33,91,39⟩) (.cons (.attr 1 6 ⟨91,41,91,50⟩ ⟨91,41,91,45⟩) (.cons (.attr 1 3 ⟨91,52,91,59⟩ ⟨91,52,91,56⟩) (.cons (.var 34 ⟨91,61,91,64⟩) (.cons (.lit (.bool false) ⟨91,66,91,71⟩) (.cons (.lit (.int 0) ⟨91,73,91,74⟩) .nil)))))) ⟨91,32,91,75⟩) ⟨91,16,91,76⟩ ⟨91,16,91,76⟩ ⟨91,16,91,31⟩)
  (.cons (.retN ⟨92,16,92,22⟩)
  .nil)) .nil ⟨90,12,92,22⟩)
  (.cons (.for_ (.many [(40, ⟨93,16,93,17⟩), (41, ⟨93,19,93,20⟩)] ⟨93,16,93,20⟩) (.enum (.v (.var 39 ⟨93,34,93,41⟩)) ⟨93,24,93,42⟩ ⟨93,24,93,33⟩) (.cons (.asg 16 false (.bin .add (.v (.bin .add (.v (.var 38 ⟨94,20,94,22⟩)) (.v (.var 40 ⟨94,25,94,26⟩)) ⟨94,20,94,26⟩)) (.v (.lit (.int 1) ⟨94,29,94,30⟩)) ⟨94,20,94,30⟩) ⟨94,16,94,30⟩ ⟨94,16,94,17⟩)
  (.cons (.ite (.all (.cons (.v (.cmp .le (.v (.var 16 ⟨95,19,95,20⟩)) (.v (.b1 .len (.oa 1 8 ⟨95,28,95,36⟩ ⟨95,28,95,32⟩) ⟨95,24,95,37⟩ ⟨95,24,95,27⟩)) ⟨95,19,95,37⟩)) (.cons (.v (.cmp .ne (.v (.meth 1 15 (.cons (.var 16 ⟨95,55,95,56⟩) .nil) ⟨95,42,95,57⟩ ⟨95,42,95,54⟩ ⟨95,42,95,46⟩)) (.v (.idx (.v (.var 41 ⟨95,61,95,62⟩)) (.lit (.int 0) ⟨95,63,95,64⟩) ⟨95,61,95,65⟩)) ⟨95,42,95,65⟩)) .nil)) ⟨95,19,95,65⟩) (.cons (.del (.a 1 8 ⟨96,24,96,32⟩ ⟨96,24,96,28⟩) (.bin .sub (.v (.var 16 ⟨96,33,96,34⟩)) (.v (.lit (.int 1) ⟨96,37,96,38⟩)) ⟨96,33,96,38⟩) ⟨96,20,96,40⟩ ⟨96,24,96,40⟩ ⟨96,33,96,39⟩)
  .nil) .nil ⟨95,16,96,40⟩)
  (.cons (.ite (.v (.cmp .gt (.v (.var 16 ⟨97,19,97,20⟩)) (.v (.b1 .len (.oa 1 8 ⟨97,27,97,35⟩ ⟨97,27,97,31⟩) ⟨97,23,97,36⟩ ⟨97,23,97,26⟩)) ⟨97,19,97,36⟩)) (.cons (.app (.a 1 8 ⟨98,20,98,28⟩ ⟨98,20,98,24⟩) (.var 41 ⟨98,36,98,37⟩) ⟨98,20,98,38⟩ ⟨98,20,98,38⟩ ⟨98,20,98,35⟩)
  .nil) .nil ⟨97,16,98,38⟩)
  .nil))) ⟨93,12,98,38⟩)
  (.cons (.asg 42 false (.bin .add (.v (.var 38 ⟨99,18,99,20⟩)) (.v (.b1 .len (.v (.var 39 ⟨99,27,99,34⟩)) ⟨99,23,99,35⟩ ⟨99,23,99,26⟩)) ⟨99,18,99,35⟩) ⟨99,12,99,35⟩ ⟨99,12,99,15⟩)
  (.cons (.ite (.v (.cmp .gt (.v (.b2 .min (.var 9 ⟨100,19,100,25⟩) (.var 42 ⟨100,27,100,30⟩) ⟨100,15,100,31⟩ ⟨100,15,100,18⟩)) (.v (.attr 1 9 ⟨100,34,100,45⟩ ⟨100,34,100,38⟩)) ⟨100,15,100,45⟩)) (.cons (.asgA 1 9 false (.b2 .min (.var 9 ⟨101,34,101,40⟩) (.var 42 ⟨101,42,101,45⟩) ⟨101,30,101,46⟩ ⟨101,30,101,33⟩) ⟨101,16,101,46⟩ ⟨101,16,101,27⟩ ⟨101,16,101,20⟩)
  .nil) .nil ⟨100,12,101,46⟩)
  (.cons (.app (.a 1 11 ⟨102,12,102,20⟩ ⟨102,12,102,16⟩) (.tup (.cons (.lit (.str (Str.ofString "done")) ⟨102,29,102,35⟩) (.cons (.attr 1 6 ⟨102,37,102,46⟩ ⟨102,37,102,41⟩) (.cons (.attr 1 3 ⟨102,48,102,55⟩ ⟨102,48,102,52⟩) (.cons (.var 34 ⟨102,57,102,60⟩) (.cons (.lit (.bool true) ⟨102,62,102,66⟩) (.cons (.var 42 ⟨102,68,102,71⟩) .nil)))))) ⟨102,28,102,72⟩) ⟨102,12,102,73⟩ ⟨102,12,102,73⟩ ⟨102,12,102,27⟩)
  .nil)))))))) (.cons (.ite (.all (.cons (.v (.cmp .eq (.v (.var 33 ⟨103,13,103,17⟩)) (.v (.lit (.str (Str.ofString "done")) ⟨103,21,103,27⟩)) ⟨103,13,103,27⟩)) (.cons (.v (.cmp .eq (.v (.var 6 ⟨103,32,103,36⟩)) (.v (.attr 1 6 ⟨103,40,103,49⟩ ⟨103,40,103,44⟩)) ⟨103,32,103,49⟩)) (.cons (.v (.cmp .eq (.v (.attr 1 5 ⟨103,55,103,64⟩ ⟨103,55,103,59⟩)) (.v (.lit (.str (Str.ofString "leader")) ⟨103,68,103,76⟩)) ⟨103,55,103,76⟩)) .nil))) ⟨103,13,103,77⟩) (.cons (.unp [(.nm 21 ⟨104,12,104,15⟩), (.nm 43 ⟨104,17,104,22⟩)] (.idx (.oa 1 10 ⟨104,25,104,35⟩ ⟨104,25,104,29⟩) (.var 34 ⟨104,36,104,39⟩) ⟨104,25,104,40⟩) ⟨104,12,104,40⟩ ⟨104,12,104,22⟩)
  (.cons (.ite (.v (.idx (.v (.var 35 ⟨105,15,105,19⟩)) (.lit (.int 0) ⟨105,20,105,21⟩) ⟨105,15,105,22⟩)) (.cons (.asg 43 false (.b2 .max (.var 43 ⟨106,28,106,33⟩) (.idx (.v (.var 35 ⟨106,35,106,39⟩)) (.lit (.int 1) ⟨106,40,106,41⟩) ⟨106,35,106,42⟩) ⟨106,24,106,43⟩ ⟨106,24,106,27⟩) ⟨106,16,106,43⟩ ⟨106,16,106,21⟩)
  (.cons (.setI (.a 1 10 ⟨107,16,107,26⟩ ⟨107,16,107,20⟩) (.var 34 ⟨107,27,107,30⟩) (.tup (.cons (.bin .add (.v (.var 43 ⟨107,35,107,40⟩)) (.v (.lit (.int 1) ⟨107,43,107,44⟩)) ⟨107,35,107,44⟩) (.cons (.var 43 ⟨107,46,107,51⟩) .nil)) ⟨107,34,107,52⟩) ⟨107,16,107,52⟩ ⟨107,16,107,31⟩)
  (.cons (.mcall 1 25 .nil ⟨108,16,108,27⟩ ⟨108,16,108,27⟩ ⟨108,16,108,25⟩ ⟨108,16,108,20⟩)
  .nil))) (.cons (.setI (.a 1 10 ⟨110,16,110,26⟩ ⟨110,16,110,20⟩) (.var 34 ⟨110,27,110,30⟩) (.tup (.cons (.b2 .max (.lit (.int 1) ⟨110,39,110,40⟩) (.bin .sub (.v (.var 21 ⟨110,42,110,45⟩)) (.v (.lit (.int 1) ⟨110,48,110,49⟩)) ⟨110,42,110,49⟩) ⟨110,35,110,50⟩ ⟨110,35,110,38⟩) (.cons (.var 43 ⟨110,52,110,57⟩) .nil)) ⟨110,34,110,58⟩) ⟨110,16,110,58⟩ ⟨110,16,110,31⟩)
  (.cons (.mcall 1 20 (.cons (.var 34 ⟨111,33,111,36⟩) .nil) ⟨111,16,111,37⟩ ⟨111,16,111,37⟩ ⟨111,16,111,32⟩ ⟨111,16,111,20⟩)
  .nil)) ⟨105,12,111,37⟩)
  .nil)) .nil ⟨103,8,111,37⟩)
  .nil) ⟨84,8,111,37⟩)
  .nil) ⟨79,8,111,37⟩)
  .nil) ⟨74,8,111,37⟩)
  .nil)))
noncomputable def ps_handle : List Nat := [1, 30]
noncomputable def ir_handle : Sms := (.cons (.ite (.v (.cmp .eq (.v (.idx (.v (.var 30 ⟨51,11,51,13⟩)) (.lit (.int 0) ⟨51,14,51,15⟩) ⟨51,11,51,16⟩)) (.v (.lit (.str (Str.ofString "timeout")) ⟨51,20,51,29⟩)) ⟨51,11,51,29⟩)) (.cons (.ite (.v (.cmp .ne (.v (.attr 1 5 ⟨52,15,52,24⟩ ⟨52,15,52,19⟩)) (.v (.lit (.str (Str.ofString "leader")) ⟨52,28,52,36⟩)) ⟨52,15,52,36⟩)) (.cons (.augA 1 6 .add (.lit (.int 1) ⟨53,29,53,30⟩) ⟨53,16,53,30⟩ ⟨53,16,53,25⟩ ⟨53,16,53,20⟩)
  (.cons (.asgT [((.att 1 5 ⟨54,16,54,25⟩ ⟨54,16,54,20⟩), false), ((.att 1 7 ⟨54,27,54,37⟩ ⟨54,27,54,31⟩), false), ((.att 1 10 ⟨54,39,54,49⟩ ⟨54,39,54,43⟩), true)] (.cons (.lit (.str (Str.ofString "candidate")) ⟨54,53,54,64⟩) (.cons (.attr 1 3 ⟨54,66,54,73⟩ ⟨54,66,54,70⟩) (.cons (.lst (.cons (.attr 1 3 ⟨54,76,54,83⟩ ⟨54,76,54,80⟩) .nil) ⟨54,75,54,84⟩) .nil))) ⟨54,16,54,85⟩ ⟨54,16,54,49⟩ ⟨54,52,54,85⟩)
  (.cons (.for_ (.one 18 ⟨55,20,55,21⟩) (.seq (.v (.meth 1 17 .nil ⟨55,25,55,38⟩ ⟨55,25,55,36⟩ ⟨55,25,55,29⟩))) (.cons (.app (.a 1 11 ⟨56,20,56,28⟩ ⟨56,20,56,24⟩) (.tup (.cons (.lit (.str (Str.ofString "ask")) ⟨56,37,56,42⟩) (.cons (.attr 1 6 ⟨56,44,56,53⟩ ⟨56,44,56,48⟩) (.cons (.attr 1 3 ⟨56,55,56,62⟩ ⟨56,55,56,59⟩) (.cons (.var 18 ⟨56,64,56,65⟩) (.cons (.meth 1 14 .nil ⟨56,67,56,78⟩ ⟨56,67,56,76⟩ ⟨56,67,56,71⟩) .nil))))) ⟨56,36,56,79⟩) ⟨56,20,56,80⟩ ⟨56,20,56,80⟩ ⟨56,20,56,35⟩)
  .nil) ⟨55,16,56,80⟩)
  (.cons (.mcall 1 24 .nil ⟨57,16,57,33⟩ ⟨57,16,57,33⟩ ⟨57,16,57,31⟩ ⟨57,16,57,20⟩)
  .nil)))) .nil ⟨52,12,57,33⟩)
  .nil) (.cons (.ite (.v (.cmp .eq (.v (.idx (.v (.var 30 ⟨58,13,58,15⟩)) (.lit (.int 0) ⟨58,16,58,17⟩) ⟨58,13,58,18⟩)) (.v (.lit (.str (Str.ofString "beat")) ⟨58,22,58,28⟩)) ⟨58,13,58,28⟩)) (.cons (.mcall 1 23 .nil ⟨59,12,59,23⟩ ⟨59,12,59,23⟩ ⟨59,12,59,21⟩ ⟨59,12,59,16⟩)
  .nil) (.cons (.ite (.v (.cmp .eq (.v (.idx (.v (.var 30 ⟨60,13,60,15⟩)) (.lit (.int 0) ⟨60,16,60,17⟩) ⟨60,13,60,18⟩)) (.v (.lit (.str (Str.ofString "propose")) ⟨60,22,60,31⟩)) ⟨60,13,60,31⟩)) (.cons (.ite (.v (.cmp .eq (.v (.attr 1 5 ⟨61,15,61,24⟩ ⟨61,15,61,19⟩)) (.v (.lit (.str (Str.ofString "leader")) ⟨61,28,61,36⟩)) ⟨61,15,61,36⟩)) (.cons (.app (.a 1 8 ⟨62,16,62,24⟩ ⟨62,16,62,20⟩) (.tup (.cons (.attr 1 6 ⟨62,33,62,42⟩ ⟨62,33,62,37⟩) (.cons (.idx (.v (.var 30 ⟨62,44,62,46⟩)) (.lit (.int 1) ⟨62,47,62,48⟩) ⟨62,44,62,49⟩) .nil)) ⟨62,32,62,50⟩) ⟨62,16,62,51⟩ ⟨62,16,62,51⟩ ⟨62,16,62,31⟩)
  (.cons (.setI (.a 1 10 ⟨63,16,63,26⟩ ⟨63,16,63,20⟩) (.attr 1 3 ⟨63,27,63,34⟩ ⟨63,27,63,31⟩) (.tup (.cons (.idx (.v (.idx (.oa 1 10 ⟨63,39,63,49⟩ ⟨63,39,63,43⟩) (.attr 1 3 ⟨63,50,63,57⟩ ⟨63,50,63,54⟩) ⟨63,39,63,58⟩)) (.lit (.int 0) ⟨63,59,63,60⟩) ⟨63,39,63,61⟩) (.cons (.b1 .len (.oa 1 8 ⟨63,67,63,75⟩ ⟨63,67,63,71⟩) ⟨63,63,63,76⟩ ⟨63,63,63,66⟩) .nil)) ⟨63,38,63,77⟩) ⟨63,16,63,77⟩ ⟨63,16,63,35⟩)
  (.cons (.mcall 1 25 .nil ⟨64,16,64,27⟩ ⟨64,16,64,27⟩ ⟨64,16,64,25⟩ ⟨64,16,64,20⟩)
  (.cons (.mcall 1 23 .nil ⟨65,16,65,27⟩ ⟨65,16,65,27⟩ ⟨65,16,65,25⟩ ⟨65,16,65,20⟩)
  .nil)))) .nil ⟨61,12,65,27⟩)
  .nil) (.cons (.mcall 1 31 (.cons (.idx (.v (.var 30 ⟨67,25,67,27⟩)) (.lit (.int 1) ⟨67,28,67,29⟩) ⟨67,25,67,30⟩) .nil) ⟨67,12,67,31⟩ ⟨67,12,67,31⟩ ⟨67,12,67,24⟩ ⟨67,12,67,16⟩)
  .nil) ⟨60,8,67,31⟩)
  .nil) ⟨58,8,67,31⟩)
  .nil) ⟨51,8,67,31⟩)
  .nil)
noncomputable def ps_tup : List Nat := [1]
noncomputable def ir_tup : Sms := (.cons (.asg 13 false (.ite (.v (.cmp .eq (.v (.attr 1 5 ⟨11,35,11,44⟩ ⟨11,35,11,39⟩)) (.v (.lit (.str (Str.ofString "candidate")) ⟨11,48,11,59⟩)) ⟨11,35,11,59⟩)) (.b1 .sorted (.v (.attr 1 10 ⟨11,20,11,30⟩ ⟨11,20,11,24⟩)) ⟨11,13,11,31⟩ ⟨11,13,11,19⟩) (.attr 1 10 ⟨11,65,11,75⟩ ⟨11,65,11,69⟩) ⟨11,13,11,75⟩) ⟨11,8,11,75⟩ ⟨11,8,11,10⟩)
  (.cons (.ret (.tup (.cons (.attr 1 3 ⟨12,16,12,23⟩ ⟨12,16,12,20⟩) (.cons (.attr 1 4 ⟨12,25,12,34⟩ ⟨12,25,12,29⟩) (.cons (.attr 1 5 ⟨12,36,12,45⟩ ⟨12,36,12,40⟩) (.cons (.attr 1 6 ⟨12,47,12,56⟩ ⟨12,47,12,51⟩) (.cons (.attr 1 7 ⟨12,58,12,68⟩ ⟨12,58,12,62⟩) (.cons (.attr 1 8 ⟨12,70,12,78⟩ ⟨12,70,12,74⟩) (.cons (.attr 1 9 ⟨12,80,12,91⟩ ⟨12,80,12,84⟩) (.cons (.var 13 ⟨12,93,12,95⟩) .nil)))))))) ⟨12,15,12,96⟩) ⟨12,8,12,96⟩)
  .nil))
noncomputable def ps_step : List Nat := [45, 46]
noncomputable def ir_step : Sms := (.cons (.new 26 47 (.cons (.var 45 ⟨115,14,115,18⟩) .nil) ⟨115,4,115,19⟩ ⟨115,4,115,5⟩ ⟨115,8,115,19⟩ ⟨115,8,115,13⟩)
  (.cons (.mcall 26 29 (.cons (.var 46 ⟨116,13,116,18⟩) .nil) ⟨116,4,116,19⟩ ⟨116,4,116,19⟩ ⟨116,4,116,12⟩ ⟨116,4,116,5⟩)
  (.cons (.frzA 8)
  (.cons (.frzA 10)
  (.cons (.frzA 11)
  (.cons (.ret (.tup (.cons (.meth 26 12 .nil ⟨117,12,117,19⟩ ⟨117,12,117,17⟩ ⟨117,12,117,13⟩) (.cons (.attr 26 11 ⟨117,21,117,26⟩ ⟨117,21,117,22⟩) .nil)) ⟨117,11,117,27⟩) ⟨117,4,117,27⟩)
  .nil))))))
noncomputable def ps_fresh : List Nat := [3, 4]
noncomputable def ir_fresh : Sms := (.cons (.ret (.tup (.cons (.var 3 ⟨113,12,113,14⟩) (.cons (.var 4 ⟨113,16,113,20⟩) (.cons (.lit (.str (Str.ofString "follower")) ⟨113,22,113,32⟩) (.cons (.lit (.int 0) ⟨113,34,113,35⟩) (.cons (.lit .none ⟨113,37,113,41⟩) (.cons (.lst .nil ⟨113,43,113,45⟩) (.cons (.lit (.int 0) ⟨113,47,113,48⟩) (.cons (.lst .nil ⟨113,50,113,52⟩) .nil)))))))) ⟨113,11,113,53⟩) ⟨113,4,113,53⟩)
  .nil)
noncomputable def ps_play : List Nat := [4, 56]
noncomputable def ir_play : Sms := (.cons (.asg 51 true (.comp (.call 52 (.cons (.var 40 ⟨119,19,119,20⟩) (.cons (.var 4 ⟨119,22,119,26⟩) .nil)) ⟨119,13,119,27⟩ ⟨119,13,119,18⟩) (.one 40 ⟨119,32,119,33⟩) (.rng (.cons (.var 4 ⟨119,43,119,47⟩) .nil) ⟨119,37,119,48⟩ ⟨119,37,119,42⟩) .none [(19, .local), (40, .local), (52, .globalImplicit), (4, .free)] ⟨119,12,119,49⟩) ⟨119,4,119,49⟩ ⟨119,4,119,9⟩)
  (.cons (.asgT [((.nm 53 ⟨120,4,120,11⟩), true), ((.nm 54 ⟨120,13,120,16⟩), true)] (.cons (.lst (.cons (.b1 .list (.ov 51 ⟨120,26,120,31⟩) ⟨120,21,120,32⟩ ⟨120,21,120,25⟩) .nil) ⟨120,20,120,33⟩) (.cons (.lst .nil ⟨120,35,120,37⟩) .nil)) ⟨120,4,120,38⟩ ⟨120,4,120,16⟩ ⟨120,19,120,38⟩)
  (.cons (.for_ (.one 55 ⟨121,8,121,9⟩) (.seq (.v (.var 56 ⟨121,13,121,20⟩))) (.cons (.ite (.v (.cmp .isin (.v (.idx (.v (.var 55 ⟨122,11,122,12⟩)) (.lit (.int 0) ⟨122,13,122,14⟩) ⟨122,11,122,15⟩)) (.v (.tup (.cons (.lit (.str (Str.ofString "deliver")) ⟨122,20,122,29⟩) (.cons (.lit (.str (Str.ofString "drop")) ⟨122,31,122,37⟩) (.cons (.lit (.str (Str.ofString "double")) ⟨122,39,122,47⟩) .nil))) ⟨122,19,122,48⟩)) ⟨122,11,122,48⟩)) (.cons (.ite (.q (.ov 54 ⟨123,15,123,18⟩)) (.cons (.asg 57 false (.bin .mod (.v (.idx (.v (.var 55 ⟨124,21,124,22⟩)) (.lit (.int 1) ⟨124,23,124,24⟩) ⟨124,21,124,25⟩)) (.v (.b1 .len (.ov 54 ⟨124,32,124,35⟩) ⟨124,28,124,36⟩ ⟨124,28,124,31⟩)) ⟨124,21,124,36⟩) ⟨124,16,124,36⟩ ⟨124,16,124,18⟩)
  (.cons (.ite (.v (.cmp .eq (.v (.idx (.v (.var 55 ⟨125,19,125,20⟩)) (.lit (.int 0) ⟨125,21,125,22⟩) ⟨125,19,125,23⟩)) (.v (.lit (.str (Str.ofString "double")) ⟨125,27,125,35⟩)) ⟨125,19,125,35⟩)) (.cons (.app (.v 54 ⟨126,20,126,23⟩) (.idx (.ov 54 ⟨126,31,126,34⟩) (.var 57 ⟨126,35,126,37⟩) ⟨126,31,126,38⟩) ⟨126,20,126,39⟩ ⟨126,20,126,39⟩ ⟨126,20,126,30⟩)
  .nil) (.cons (.pop 58 54 (.var 57 ⟨128,32,128,34⟩) ⟨128,20,128,35⟩ ⟨128,20,128,21⟩ ⟨128,24,128,35⟩ ⟨128,24,128,31⟩ ⟨128,24,128,27⟩)
  (.cons (.ite (.v (.cmp .eq (.v (.idx (.v (.var 55 ⟨129,23,129,24⟩)) (.lit (.int 0) ⟨129,25,129,26⟩) ⟨129,23,129,27⟩)) (.v (.lit (.str (Str.ofString "deliver")) ⟨129,31,129,40⟩)) ⟨129,23,129,40⟩)) (.cons (.unpSet 51 (.idx (.v (.var 58 ⟨130,30,130,31⟩)) (.lit (.int 3) ⟨130,32,130,33⟩) ⟨130,30,130,34⟩) 11 (.call 44 (.cons (.idx (.ov 51 ⟨130,48,130,53⟩) (.idx (.v (.var 58 ⟨130,54,130,55⟩)) (.lit (.int 3) ⟨130,56,130,57⟩) ⟨130,54,130,58⟩) ⟨130,48,130,59⟩) (.cons (.tup (.cons (.lit (.str (Str.ofString "message")) ⟨130,62,130,71⟩) (.cons (.var 58 ⟨130,73,130,74⟩) .nil)) ⟨130,61,130,75⟩) .nil)) ⟨130,43,130,76⟩ ⟨130,43,130,47⟩) ⟨130,24,130,76⟩ ⟨130,24,130,40⟩ ⟨130,24,130,35⟩ ⟨130,24,130,29⟩ ⟨130,37,130,40⟩)
  (.cons (.ext 54 (.var 11 ⟨131,31,131,34⟩) ⟨131,24,131,34⟩ ⟨131,24,131,27⟩)
  .nil)) .nil ⟨129,20,131,34⟩)
  .nil)) ⟨125,16,131,34⟩)
  .nil)) .nil ⟨123,12,131,34⟩)
  .nil) (.cons (.ite (.v (.cmp .eq (.v (.idx (.v (.var 55 ⟨132,13,132,14⟩)) (.lit (.int 0) ⟨132,15,132,16⟩) ⟨132,13,132,17⟩)) (.v (.lit (.str (Str.ofString "crash")) ⟨132,21,132,28⟩)) ⟨132,13,132,28⟩)) (.cons (.asg 26 false (.idx (.ov 51 ⟨133,16,133,21⟩) (.idx (.v (.var 55 ⟨133,22,133,23⟩)) (.lit (.int 1) ⟨133,24,133,25⟩) ⟨133,22,133,26⟩) ⟨133,16,133,27⟩) ⟨133,12,133,27⟩ ⟨133,12,133,13⟩)
  (.cons (.setI (.v 51 ⟨134,12,134,17⟩) (.idx (.v (.var 55 ⟨134,18,134,19⟩)) (.lit (.int 1) ⟨134,20,134,21⟩) ⟨134,18,134,22⟩) (.bin .add (.v (.bin .add (.v (.bin .add (.v (.slc (.v (.var 26 ⟨134,26,134,27⟩)) .none (.some (.lit (.int 2) ⟨134,29,134,30⟩)) ⟨134,26,134,31⟩ ⟨134,28,134,30⟩)) (.v (.tup (.cons (.lit (.str (Str.ofString "follower")) ⟨134,35,134,45⟩) .nil) ⟨134,34,134,47⟩)) ⟨134,26,134,47⟩)) (.v (.slc (.v (.var 26 ⟨134,50,134,51⟩)) (.some (.lit (.int 3) ⟨134,52,134,53⟩)) (.some (.lit (.int 6) ⟨134,54,134,55⟩)) ⟨134,50,134,56⟩ ⟨134,52,134,55⟩)) ⟨134,26,134,56⟩)) (.v (.tup (.cons (.lit (.int 0) ⟨134,60,134,61⟩) (.cons (.lst .nil ⟨134,63,134,65⟩) .nil)) ⟨134,59,134,66⟩)) ⟨134,26,134,66⟩) ⟨134,12,134,66⟩ ⟨134,12,134,23⟩)
  .nil)) (.cons (.unpSet 51 (.idx (.v (.var 55 ⟨136,18,136,19⟩)) (.lit (.int 1) ⟨136,20,136,21⟩) ⟨136,18,136,22⟩) 11 (.call 44 (.cons (.idx (.ov 51 ⟨136,36,136,41⟩) (.idx (.v (.var 55 ⟨136,42,136,43⟩)) (.lit (.int 1) ⟨136,44,136,45⟩) ⟨136,42,136,46⟩) ⟨136,36,136,47⟩) (.cons (.bin .add (.v (.tup (.cons (.idx (.v (.var 55 ⟨136,50,136,51⟩)) (.lit (.int 0) ⟨136,52,136,53⟩) ⟨136,50,136,54⟩) .nil) ⟨136,49,136,56⟩)) (.v (.slc (.v (.var 55 ⟨136,59,136,60⟩)) (.some (.lit (.int 2) ⟨136,61,136,62⟩)) .none ⟨136,59,136,64⟩ ⟨136,61,136,63⟩)) ⟨136,49,136,64⟩) .nil)) ⟨136,31,136,65⟩ ⟨136,31,136,35⟩) ⟨136,12,136,65⟩ ⟨136,12,136,28⟩ ⟨136,12,136,23⟩ ⟨136,12,136,17⟩ ⟨136,25,136,28⟩)
  (.cons (.ext 54 (.var 11 ⟨137,19,137,22⟩) ⟨137,12,137,22⟩ ⟨137,12,137,15⟩)
  .nil)) ⟨132,8,137,22⟩)
  .nil) ⟨122,8,137,22⟩)
  (.cons (.app (.v 53 ⟨138,8,138,15⟩) (.b1 .list (.ov 51 ⟨138,28,138,33⟩) ⟨138,23,138,34⟩ ⟨138,23,138,27⟩) ⟨138,8,138,35⟩ ⟨138,8,138,35⟩ ⟨138,8,138,22⟩)
  .nil)) ⟨121,4,138,35⟩)
  (.cons (.frz 53)
  (.cons (.frz 54)
  (.cons (.ret (.tup (.cons (.var 53 ⟨139,12,139,19⟩) (.cons (.var 54 ⟨139,21,139,24⟩) .nil)) ⟨139,11,139,25⟩) ⟨139,4,139,25⟩)
  .nil))))))
noncomputable def ps_law_moves : List Nat := [4, 62, 33, 63]
noncomputable def ir_law_moves : Sms := (.cons (.unp [(.nm 59 ⟨144,4,144,8⟩), (.nm 60 ⟨144,10,144,15⟩)] (.idx (.v (.glb 61 ⟨144,18,144,28⟩)) (.var 33 ⟨144,29,144,33⟩) ⟨144,18,144,34⟩) ⟨144,4,144,34⟩ ⟨144,4,144,15⟩)
  (.cons (.ite (.v (.cmp .eq (.v (.var 59 ⟨145,7,145,11⟩)) (.v (.lit (.str (Str.ofString "timeout")) ⟨145,15,145,24⟩)) ⟨145,7,145,24⟩)) (.cons (.asg 62 false (.bin .mod (.v (.var 63 ⟨146,15,146,16⟩)) (.v (.var 4 ⟨146,19,146,23⟩)) ⟨146,15,146,23⟩) ⟨146,8,146,23⟩ ⟨146,8,146,12⟩)
  (.cons (.asg 64 false (.lst (.cons (.tup (.cons (.lit (.str (Str.ofString "timeout")) ⟨147,17,147,26⟩) (.cons (.var 62 ⟨147,28,147,32⟩) .nil)) ⟨147,16,147,33⟩) .nil) ⟨147,15,147,34⟩) ⟨147,8,147,34⟩ ⟨147,8,147,12⟩)
  .nil)) (.cons (.ite (.v (.cmp .eq (.v (.var 59 ⟨148,9,148,13⟩)) (.v (.lit (.str (Str.ofString "crash")) ⟨148,17,148,24⟩)) ⟨148,9,148,24⟩)) (.cons (.asg 64 false (.lst (.cons (.tup (.cons (.lit (.str (Str.ofString "crash")) ⟨149,17,149,24⟩) (.cons (.bin .mod (.v (.var 63 ⟨149,26,149,27⟩)) (.v (.var 4 ⟨149,30,149,34⟩)) ⟨149,26,149,34⟩) .nil)) ⟨149,16,149,35⟩) .nil) ⟨149,15,149,36⟩) ⟨149,8,149,36⟩ ⟨149,8,149,12⟩)
  .nil) (.cons (.ite (.v (.cmp .eq (.v (.var 59 ⟨150,9,150,13⟩)) (.v (.lit (.str (Str.ofString "put")) ⟨150,17,150,22⟩)) ⟨150,9,150,22⟩)) (.cons (.asg 64 false (.lst (.cons (.tup (.cons (.lit (.str (Str.ofString "propose")) ⟨151,17,151,26⟩) (.cons (.bin .mod (.v (.var 63 ⟨151,28,151,29⟩)) (.v (.var 4 ⟨151,32,151,36⟩)) ⟨151,28,151,36⟩) (.cons (.var 63 ⟨151,38,151,39⟩) .nil))) ⟨151,16,151,40⟩) .nil) ⟨151,15,151,41⟩) ⟨151,8,151,41⟩ ⟨151,8,151,12⟩)
  .nil) (.cons (.ite (.v (.cmp .eq (.v (.var 59 ⟨152,9,152,13⟩)) (.v (.lit (.str (Str.ofString "propose")) ⟨152,17,152,26⟩)) ⟨152,9,152,26⟩)) (.cons (.asg 64 false (.lst (.cons (.tup (.cons (.lit (.str (Str.ofString "propose")) ⟨153,17,153,26⟩) (.cons (.var 62 ⟨153,28,153,32⟩) (.cons (.var 63 ⟨153,34,153,35⟩) .nil))) ⟨153,16,153,36⟩) .nil) ⟨153,15,153,37⟩) ⟨153,8,153,37⟩ ⟨153,8,153,12⟩)
  .nil) (.cons (.ite (.v (.cmp .eq (.v (.var 59 ⟨154,9,154,13⟩)) (.v (.lit (.str (Str.ofString "beat")) ⟨154,17,154,23⟩)) ⟨154,9,154,23⟩)) (.cons (.asg 64 false (.lst (.cons (.tup (.cons (.lit (.str (Str.ofString "beat")) ⟨155,17,155,23⟩) (.cons (.var 62 ⟨155,25,155,29⟩) .nil)) ⟨155,16,155,30⟩) .nil) ⟨155,15,155,31⟩) ⟨155,8,155,31⟩ ⟨155,8,155,12⟩)
  .nil) (.cons (.asg 64 false (.lst (.cons (.tup (.cons (.var 59 ⟨157,17,157,21⟩) (.cons (.var 63 ⟨157,23,157,24⟩) .nil)) ⟨157,16,157,25⟩) .nil) ⟨157,15,157,26⟩) ⟨157,8,157,26⟩ ⟨157,8,157,12⟩)
  .nil) ⟨154,4,157,26⟩)
  .nil) ⟨152,4,157,26⟩)
  .nil) ⟨150,4,157,26⟩)
  .nil) ⟨148,4,157,26⟩)
  .nil) ⟨145,4,157,26⟩)
  (.cons (.ret (.tup (.cons (.var 62 ⟨158,12,158,16⟩) (.cons (.bin .add (.v (.var 64 ⟨158,18,158,22⟩)) (.v (.b1 .list (.v (.var 60 ⟨158,30,158,35⟩)) ⟨158,25,158,36⟩ ⟨158,25,158,29⟩)) ⟨158,18,158,36⟩) .nil)) ⟨158,11,158,37⟩) ⟨158,4,158,37⟩)
  .nil)))
noncomputable def ps_law_entry : List Nat := [8, 57]
noncomputable def ir_law_entry : Sms := (.cons (.ite (.v (.cmp .eq (.v (.var 57 ⟨160,7,160,9⟩)) (.v (.lit (.int 0) ⟨160,13,160,14⟩)) ⟨160,7,160,14⟩)) (.cons (.ret (.tup (.cons (.lit (.int 0) ⟨161,16,161,17⟩) (.cons (.lit (.int 0) ⟨161,19,161,20⟩) .nil)) ⟨161,15,161,21⟩) ⟨161,8,161,21⟩)
  .nil) .nil ⟨160,4,161,21⟩)
  (.cons (.ret (.tup (.cons (.idx (.v (.idx (.v (.var 8 ⟨162,12,162,15⟩)) (.bin .sub (.v (.var 57 ⟨162,16,162,18⟩)) (.v (.lit (.int 1) ⟨162,21,162,22⟩)) ⟨162,16,162,22⟩) ⟨162,12,162,23⟩)) (.lit (.int 0) ⟨162,24,162,25⟩) ⟨162,12,162,26⟩) (.cons (.var 57 ⟨162,28,162,30⟩) .nil)) ⟨162,11,162,31⟩) ⟨162,4,162,31⟩)
  .nil))
noncomputable def ps_law_appends : List Nat := [3, 6, 8, 9, 10, 65]
noncomputable def ir_law_appends : Sms := (.cons (.asg 11 true (.lst .nil ⟨164,10,164,12⟩) ⟨164,4,164,12⟩ ⟨164,4,164,7⟩)
  (.cons (.for_ (.one 18 ⟨165,8,165,9⟩) (.seq (.v (.var 65 ⟨165,13,165,15⟩))) (.cons (.asg 66 false (.bin .sub (.v (.idx (.v (.idx (.v (.var 10 ⟨166,16,166,21⟩)) (.var 18 ⟨166,22,166,23⟩) ⟨166,16,166,24⟩)) (.lit (.int 0) ⟨166,25,166,26⟩) ⟨166,16,166,27⟩)) (.v (.lit (.int 1) ⟨166,30,166,31⟩)) ⟨166,16,166,31⟩) ⟨166,8,166,31⟩ ⟨166,8,166,13⟩)
  (.cons (.app (.v 11 ⟨167,8,167,11⟩) (.tup (.cons (.lit (.str (Str.ofString "append")) ⟨167,20,167,28⟩) (.cons (.var 6 ⟨167,30,167,34⟩) (.cons (.var 3 ⟨167,36,167,38⟩) (.cons (.var 18 ⟨167,40,167,41⟩) (.cons (.call 67 (.cons (.var 8 ⟨167,54,167,57⟩) (.cons (.var 66 ⟨167,59,167,64⟩) .nil)) ⟨167,43,167,65⟩ ⟨167,43,167,53⟩) (.cons (.slc (.v (.var 8 ⟨167,67,167,70⟩)) (.some (.var 66 ⟨167,71,167,76⟩)) .none ⟨167,67,167,78⟩ ⟨167,71,167,77⟩) (.cons (.var 9 ⟨167,80,167,86⟩) .nil))))))) ⟨167,19,167,87⟩) ⟨167,8,167,88⟩ ⟨167,8,167,88⟩ ⟨167,8,167,18⟩)
  .nil)) ⟨165,4,167,88⟩)
  (.cons (.frz 11)
  (.cons (.ret (.var 11 ⟨168,11,168,14⟩) ⟨168,4,168,14⟩)
  .nil))))
noncomputable def ps_law_won : List Nat := [3, 4, 6, 8, 9, 68]
noncomputable def ir_law_won : Sms := (.cons (.ite (.v (.cmp .le (.v (.bin .mul (.v (.lit (.int 2) ⟨173,7,173,8⟩)) (.v (.b1 .len (.v (.var 68 ⟨173,15,173,20⟩)) ⟨173,11,173,21⟩ ⟨173,11,173,14⟩)) ⟨173,7,173,21⟩)) (.v (.var 4 ⟨173,25,173,29⟩)) ⟨173,7,173,29⟩)) (.cons (.ret (.tup (.cons (.lit (.str (Str.ofString "candidate")) ⟨174,16,174,27⟩) (.cons (.var 68 ⟨174,29,174,34⟩) (.cons (.lst .nil ⟨174,36,174,38⟩) .nil))) ⟨174,15,174,39⟩) ⟨174,8,174,39⟩)
  .nil) .nil ⟨173,4,174,39⟩)
  (.cons (.asg 26 false (.b1 .len (.v (.var 8 ⟨175,12,175,15⟩)) ⟨175,8,175,16⟩ ⟨175,8,175,11⟩) ⟨175,4,175,16⟩ ⟨175,4,175,5⟩)
  (.cons (.asg 10 false (.bin .add (.v (.bin .add (.v (.bin .mul (.v (.lst (.cons (.tup (.cons (.bin .add (.v (.var 26 ⟨176,14,176,15⟩)) (.v (.lit (.int 1) ⟨176,18,176,19⟩)) ⟨176,14,176,19⟩) (.cons (.lit (.int 0) ⟨176,21,176,22⟩) .nil)) ⟨176,13,176,23⟩) .nil) ⟨176,12,176,24⟩)) (.v (.var 3 ⟨176,27,176,29⟩)) ⟨176,12,176,29⟩)) (.v (.lst (.cons (.tup (.cons (.bin .add (.v (.var 26 ⟨176,34,176,35⟩)) (.v (.lit (.int 1) ⟨176,38,176,39⟩)) ⟨176,34,176,39⟩) (.cons (.var 26 ⟨176,41,176,42⟩) .nil)) ⟨176,33,176,43⟩) .nil) ⟨176,32,176,44⟩)) ⟨176,12,176,44⟩)) (.v (.bin .mul (.v (.lst (.cons (.tup (.cons (.bin .add (.v (.var 26 ⟨176,49,176,50⟩)) (.v (.lit (.int 1) ⟨176,53,176,54⟩)) ⟨176,49,176,54⟩) (.cons (.lit (.int 0) ⟨176,56,176,57⟩) .nil)) ⟨176,48,176,58⟩) .nil) ⟨176,47,176,59⟩)) (.v (.bin .sub (.v (.bin .sub (.v (.var 4 ⟨176,63,176,67⟩)) (.v (.var 3 ⟨176,70,176,72⟩)) ⟨176,63,176,72⟩)) (.v (.lit (.int 1) ⟨176,75,176,76⟩)) ⟨176,63,176,76⟩)) ⟨176,47,176,77⟩)) ⟨176,12,176,77⟩) ⟨176,4,176,77⟩ ⟨176,4,176,9⟩)
  (.cons (.asg 17 false (.comp (.var 18 ⟨177,14,177,15⟩) (.one 18 ⟨177,20,177,21⟩) (.rng (.cons (.var 4 ⟨177,31,177,35⟩) .nil) ⟨177,25,177,36⟩ ⟨177,25,177,30⟩) (.some (.v (.cmp .ne (.v (.var 18 ⟨177,40,177,41⟩)) (.v (.var 3 ⟨177,45,177,47⟩)) ⟨177,40,177,47⟩))) [(19, .local), (18, .local), (3, .free)] ⟨177,13,177,48⟩) ⟨177,4,177,48⟩ ⟨177,4,177,10⟩)
  (.cons (.ret (.tup (.cons (.lit (.str (Str.ofString "leader")) ⟨178,12,178,20⟩) (.cons (.var 10 ⟨178,22,178,27⟩) (.cons (.call 69 (.cons (.var 3 ⟨178,42,178,44⟩) (.cons (.var 6 ⟨178,46,178,50⟩) (.cons (.var 8 ⟨178,52,178,55⟩) (.cons (.var 9 ⟨178,57,178,63⟩) (.cons (.var 10 ⟨178,65,178,70⟩) (.cons (.var 17 ⟨178,72,178,78⟩) .nil)))))) ⟨178,29,178,79⟩ ⟨178,29,178,41⟩) .nil))) ⟨178,11,178,80⟩) ⟨178,4,178,80⟩)
  .nil)))))
noncomputable def ps_law_reached : List Nat := [6, 8, 9, 10]
noncomputable def ir_law_reached : Sms := (.cons (.asg 70 false (.comp (.var 26 ⟨170,12,170,13⟩) (.one 26 ⟨170,18,170,19⟩) (.rng (.cons (.lit (.int 1) ⟨170,29,170,30⟩) (.cons (.bin .add (.v (.b1 .len (.v (.var 8 ⟨170,36,170,39⟩)) ⟨170,32,170,40⟩ ⟨170,32,170,35⟩)) (.v (.lit (.int 1) ⟨170,43,170,44⟩)) ⟨170,32,170,44⟩) .nil)) ⟨170,23,170,45⟩ ⟨170,23,170,28⟩) (.some (.all (.cons (.v (.cmp .eq (.v (.idx (.v (.idx (.v (.var 8 ⟨170,49,170,52⟩)) (.bin .sub (.v (.var 26 ⟨170,53,170,54⟩)) (.v (.lit (.int 1) ⟨170,57,170,58⟩)) ⟨170,53,170,58⟩) ⟨170,49,170,59⟩)) (.lit (.int 0) ⟨170,60,170,61⟩) ⟨170,49,170,62⟩)) (.v (.var 6 ⟨170,66,170,70⟩)) ⟨170,49,170,70⟩)) (.cons (.v (.cmp .gt (.v (.bin .mul (.v (.lit (.int 2) ⟨170,75,170,76⟩)) (.v (.b1 .len (.v (.comp (.var 71 ⟨170,84,170,85⟩) (.one 71 ⟨170,90,170,91⟩) (.seq (.v (.var 10 ⟨170,95,170,100⟩))) (.some (.v (.cmp .ge (.v (.idx (.v (.var 71 ⟨170,104,170,105⟩)) (.lit (.int 1) ⟨170,106,170,107⟩) ⟨170,104,170,108⟩)) (.v (.var 26 ⟨170,112,170,113⟩)) ⟨170,104,170,113⟩))) [(19, .local), (71, .local), (26, .free)] ⟨170,83,170,114⟩)) ⟨170,79,170,115⟩ ⟨170,79,170,82⟩)) ⟨170,75,170,115⟩)) (.v (.b1 .len (.v (.var 10 ⟨170,122,170,127⟩)) ⟨170,118,170,128⟩ ⟨170,118,170,121⟩)) ⟨170,75,170,128⟩)) .nil)) ⟨170,49,170,128⟩)) [(19, .local), (26, .cell), (48, .globalImplicit), (10, .free), (8, .free), (6, .free)] ⟨170,11,170,129⟩) ⟨170,4,170,129⟩ ⟨170,4,170,8⟩)
  (.cons (.ret (.b1 .maxl (.v (.bin .add (.v (.lst (.cons (.var 9 ⟨171,16,171,22⟩) .nil) ⟨171,15,171,23⟩)) (.v (.var 70 ⟨171,26,171,30⟩)) ⟨171,15,171,30⟩)) ⟨171,11,171,31⟩ ⟨171,11,171,14⟩) ⟨171,4,171,31⟩)
  .nil))
noncomputable def ps_law_tell : List Nat := [45, 72]
noncomputable def ir_law_tell : Sms := (.cons (.unp [(.nm 3 ⟨193,4,193,6⟩), (.nm 4 ⟨193,8,193,12⟩), (.nm 5 ⟨193,14,193,18⟩), (.nm 6 ⟨193,20,193,24⟩), (.nm 7 ⟨193,26,193,31⟩), (.nm 8 ⟨193,33,193,36⟩), (.nm 9 ⟨193,38,193,44⟩), (.nm 10 ⟨193,46,193,51⟩)] (.var 45 ⟨193,54,193,58⟩) ⟨193,4,193,58⟩ ⟨193,4,193,51⟩)
  (.cons (.ite (.v (.cmp .eq (.v (.idx (.v (.var 72 ⟨194,7,194,10⟩)) (.lit (.int 0) ⟨194,11,194,12⟩) ⟨194,7,194,13⟩)) (.v (.lit (.str (Str.ofString "crash")) ⟨194,17,194,24⟩)) ⟨194,7,194,24⟩)) (.cons (.ret (.tup (.cons (.tup (.cons (.var 3 ⟨195,17,195,19⟩) (.cons (.var 4 ⟨195,21,195,25⟩) (.cons (.lit (.str (Str.ofString "follower")) ⟨195,27,195,37⟩) (.cons (.var 6 ⟨195,39,195,43⟩) (.cons (.var 7 ⟨195,45,195,50⟩) (.cons (.var 8 ⟨195,52,195,55⟩) (.cons (.lit (.int 0) ⟨195,57,195,58⟩) (.cons (.lst .nil ⟨195,60,195,62⟩) .nil)))))))) ⟨195,16,195,63⟩) (.cons (.lst .nil ⟨195,65,195,67⟩) .nil)) ⟨195,15,195,68⟩) ⟨195,8,195,68⟩)
  .nil) .nil ⟨194,4,195,68⟩)
  (.cons (.asg 17 false (.comp (.var 18 ⟨196,14,196,15⟩) (.one 18 ⟨196,20,196,21⟩) (.rng (.cons (.var 4 ⟨196,31,196,35⟩) .nil) ⟨196,25,196,36⟩ ⟨196,25,196,30⟩) (.some (.v (.cmp .ne (.v (.var 18 ⟨196,40,196,41⟩)) (.v (.var 3 ⟨196,45,196,47⟩)) ⟨196,40,196,47⟩))) [(19, .local), (18, .local), (3, .free)] ⟨196,13,196,48⟩) ⟨196,4,196,48⟩ ⟨196,4,196,10⟩)
  (.cons (.ite (.v (.cmp .eq (.v (.idx (.v (.var 72 ⟨197,7,197,10⟩)) (.lit (.int 0) ⟨197,11,197,12⟩) ⟨197,7,197,13⟩)) (.v (.lit (.str (Str.ofString "timeout")) ⟨197,17,197,26⟩)) ⟨197,7,197,26⟩)) (.cons (.ite (.v (.cmp .eq (.v (.var 5 ⟨198,11,198,15⟩)) (.v (.lit (.str (Str.ofString "leader")) ⟨198,19,198,27⟩)) ⟨198,11,198,27⟩)) (.cons (.ret (.tup (.cons (.var 45 ⟨199,20,199,24⟩) (.cons (.lst .nil ⟨199,26,199,28⟩) .nil)) ⟨199,19,199,29⟩) ⟨199,12,199,29⟩)
  .nil) .nil ⟨198,8,199,29⟩)
  (.cons (.asg 14 false (.call 67 (.cons (.var 8 ⟨200,26,200,29⟩) (.cons (.b1 .len (.v (.var 8 ⟨200,35,200,38⟩)) ⟨200,31,200,39⟩ ⟨200,31,200,34⟩) .nil)) ⟨200,15,200,40⟩ ⟨200,15,200,25⟩) ⟨200,8,200,40⟩ ⟨200,8,200,12⟩)
  (.cons (.asg 73 false (.comp (.tup (.cons (.lit (.str (Str.ofString "ask")) ⟨201,17,201,22⟩) (.cons (.bin .add (.v (.var 6 ⟨201,24,201,28⟩)) (.v (.lit (.int 1) ⟨201,31,201,32⟩)) ⟨201,24,201,32⟩) (.cons (.var 3 ⟨201,34,201,36⟩) (.cons (.var 18 ⟨201,38,201,39⟩) (.cons (.var 14 ⟨201,41,201,45⟩) .nil))))) ⟨201,16,201,46⟩) (.one 18 ⟨201,51,201,52⟩) (.seq (.v (.var 17 ⟨201,56,201,62⟩))) .none [(19, .local), (18, .local), (14, .free), (3, .free), (6, .free)] ⟨201,15,201,63⟩) ⟨201,8,201,63⟩ ⟨201,8,201,12⟩)
  (.cons (.unp [(.nm 5 ⟨202,8,202,12⟩), (.nm 10 ⟨202,14,202,19⟩), (.nm 11 ⟨202,21,202,24⟩)] (.call 74 (.cons (.var 3 ⟨202,36,202,38⟩) (.cons (.var 4 ⟨202,40,202,44⟩) (.cons (.bin .add (.v (.var 6 ⟨202,46,202,50⟩)) (.v (.lit (.int 1) ⟨202,53,202,54⟩)) ⟨202,46,202,54⟩) (.cons (.var 8 ⟨202,56,202,59⟩) (.cons (.var 9 ⟨202,61,202,67⟩) (.cons (.lst (.cons (.var 3 ⟨202,70,202,72⟩) .nil) ⟨202,69,202,73⟩) .nil)))))) ⟨202,27,202,74⟩ ⟨202,27,202,35⟩) ⟨202,8,202,74⟩ ⟨202,8,202,24⟩)
  (.cons (.ret (.tup (.cons (.tup (.cons (.var 3 ⟨203,17,203,19⟩) (.cons (.var 4 ⟨203,21,203,25⟩) (.cons (.var 5 ⟨203,27,203,31⟩) (.cons (.bin .add (.v (.var 6 ⟨203,33,203,37⟩)) (.v (.lit (.int 1) ⟨203,40,203,41⟩)) ⟨203,33,203,41⟩) (.cons (.var 3 ⟨203,43,203,45⟩) (.cons (.var 8 ⟨203,47,203,50⟩) (.cons (.var 9 ⟨203,52,203,58⟩) (.cons (.var 10 ⟨203,60,203,65⟩) .nil)))))))) ⟨203,16,203,66⟩) (.cons (.bin .add (.v (.var 73 ⟨203,68,203,72⟩)) (.v (.var 11 ⟨203,75,203,78⟩)) ⟨203,68,203,78⟩) .nil)) ⟨203,15,203,79⟩) ⟨203,8,203,79⟩)
  .nil))))) .nil ⟨197,4,203,79⟩)
  (.cons (.ite (.v (.cmp .ne (.v (.var 5 ⟨204,7,204,11⟩)) (.v (.lit (.str (Str.ofString "leader")) ⟨204,15,204,23⟩)) ⟨204,7,204,23⟩)) (.cons (.ret (.tup (.cons (.var 45 ⟨205,16,205,20⟩) (.cons (.lst .nil ⟨205,22,205,24⟩) .nil)) ⟨205,15,205,25⟩) ⟨205,8,205,25⟩)
  .nil) .nil ⟨204,4,205,25⟩)
  (.cons (.ite (.v (.cmp .eq (.v (.idx (.v (.var 72 ⟨206,7,206,10⟩)) (.lit (.int 0) ⟨206,11,206,12⟩) ⟨206,7,206,13⟩)) (.v (.lit (.str (Str.ofString "propose")) ⟨206,17,206,26⟩)) ⟨206,7,206,26⟩)) (.cons (.asg 8 false (.bin .add (.v (.var 8 ⟨207,14,207,17⟩)) (.v (.lst (.cons (.tup (.cons (.var 6 ⟨207,22,207,26⟩) (.cons (.idx (.v (.var 72 ⟨207,28,207,31⟩)) (.lit (.int 2) ⟨207,32,207,33⟩) ⟨207,28,207,34⟩) .nil)) ⟨207,21,207,35⟩) .nil) ⟨207,20,207,36⟩)) ⟨207,14,207,36⟩) ⟨207,8,207,36⟩ ⟨207,8,207,11⟩)
  (.cons (.asg 10 false (.bin .add (.v (.bin .add (.v (.slc (.v (.var 10 ⟨208,16,208,21⟩)) .none (.some (.var 3 ⟨208,23,208,25⟩)) ⟨208,16,208,26⟩ ⟨208,22,208,25⟩)) (.v (.lst (.cons (.tup (.cons (.idx (.v (.idx (.v (.var 10 ⟨208,31,208,36⟩)) (.var 3 ⟨208,37,208,39⟩) ⟨208,31,208,40⟩)) (.lit (.int 0) ⟨208,41,208,42⟩) ⟨208,31,208,43⟩) (.cons (.b1 .len (.v (.var 8 ⟨208,49,208,52⟩)) ⟨208,45,208,53⟩ ⟨208,45,208,48⟩) .nil)) ⟨208,30,208,54⟩) .nil) ⟨208,29,208,55⟩)) ⟨208,16,208,55⟩)) (.v (.slc (.v (.var 10 ⟨208,58,208,63⟩)) (.some (.bin .add (.v (.var 3 ⟨208,64,208,66⟩)) (.v (.lit (.int 1) ⟨208,69,208,70⟩)) ⟨208,64,208,70⟩)) .none ⟨208,58,208,72⟩ ⟨208,64,208,71⟩)) ⟨208,16,208,72⟩) ⟨208,8,208,72⟩ ⟨208,8,208,13⟩)
  (.cons (.asg 9 false (.call 75 (.cons (.var 6 ⟨209,30,209,34⟩) (.cons (.var 8 ⟨209,36,209,39⟩) (.cons (.var 9 ⟨209,41,209,47⟩) (.cons (.var 10 ⟨209,49,209,54⟩) .nil)))) ⟨209,17,209,55⟩ ⟨209,17,209,29⟩) ⟨209,8,209,55⟩ ⟨209,8,209,14⟩)
  .nil))) .nil ⟨206,4,209,55⟩)
  (.cons (.asg 11 false (.call 69 (.cons (.var 3 ⟨210,23,210,25⟩) (.cons (.var 6 ⟨210,27,210,31⟩) (.cons (.var 8 ⟨210,33,210,36⟩) (.cons (.var 9 ⟨210,38,210,44⟩) (.cons (.var 10 ⟨210,46,210,51⟩) (.cons (.var 17 ⟨210,53,210,59⟩) .nil)))))) ⟨210,10,210,60⟩ ⟨210,10,210,22⟩) ⟨210,4,210,60⟩ ⟨210,4,210,7⟩)
  (.cons (.ret (.tup (.cons (.tup (.cons (.var 3 ⟨211,13,211,15⟩) (.cons (.var 4 ⟨211,17,211,21⟩) (.cons (.var 5 ⟨211,23,211,27⟩) (.cons (.var 6 ⟨211,29,211,33⟩) (.cons (.var 7 ⟨211,35,211,40⟩) (.cons (.var 8 ⟨211,42,211,45⟩) (.cons (.var 9 ⟨211,47,211,53⟩) (.cons (.var 10 ⟨211,55,211,60⟩) .nil)))))))) ⟨211,12,211,61⟩) (.cons (.var 11 ⟨211,63,211,66⟩) .nil)) ⟨211,11,211,67⟩) ⟨211,4,211,67⟩)
  .nil))))))))
noncomputable def ps_law_take : List Nat := [8, 9, 76, 39, 80]
noncomputable def ir_law_take : Sms := (.cons (.asg 57 false (.idx (.v (.var 76 ⟨180,9,180,15⟩)) (.lit (.int 1) ⟨180,16,180,17⟩) ⟨180,9,180,18⟩) ⟨180,4,180,18⟩ ⟨180,4,180,6⟩)
  (.cons (.ite (.any (.cons (.v (.cmp .gt (.v (.var 57 ⟨181,7,181,9⟩)) (.v (.b1 .len (.v (.var 8 ⟨181,16,181,19⟩)) ⟨181,12,181,20⟩ ⟨181,12,181,15⟩)) ⟨181,7,181,20⟩)) (.cons (.v (.cmp .ne (.v (.call 67 (.cons (.var 8 ⟨181,35,181,38⟩) (.cons (.var 57 ⟨181,40,181,42⟩) .nil)) ⟨181,24,181,43⟩ ⟨181,24,181,34⟩)) (.v (.var 76 ⟨181,47,181,53⟩)) ⟨181,24,181,53⟩)) .nil)) ⟨181,7,181,53⟩) (.cons (.ret (.tup (.cons (.var 8 ⟨182,16,182,19⟩) (.cons (.var 9 ⟨182,21,182,27⟩) (.cons (.lit (.bool false) ⟨182,29,182,34⟩) (.cons (.lit (.int 0) ⟨182,36,182,37⟩) .nil)))) ⟨182,15,182,38⟩) ⟨182,8,182,38⟩)
  .nil) .nil ⟨181,4,182,38⟩)
  (.cons (.asg 77 false (.lit (.int 0) ⟨183,11,183,12⟩) ⟨183,4,183,12⟩ ⟨183,4,183,8⟩)
  (.cons (.for_ (.many [(78, ⟨184,8,184,12⟩), (79, ⟨184,14,184,18⟩)] ⟨184,8,184,18⟩) (.zip (.v (.slc (.v (.var 8 ⟨184,26,184,29⟩)) (.some (.var 57 ⟨184,30,184,32⟩)) .none ⟨184,26,184,34⟩ ⟨184,30,184,33⟩)) (.v (.var 39 ⟨184,36,184,43⟩)) ⟨184,22,184,44⟩ ⟨184,22,184,25⟩) (.cons (.ite (.v (.cmp .ne (.v (.idx (.v (.var 78 ⟨185,11,185,15⟩)) (.lit (.int 0) ⟨185,16,185,17⟩) ⟨185,11,185,18⟩)) (.v (.idx (.v (.var 79 ⟨185,22,185,26⟩)) (.lit (.int 0) ⟨185,27,185,28⟩) ⟨185,22,185,29⟩)) ⟨185,11,185,29⟩)) (.cons (.brk ⟨186,12,186,17⟩)
  .nil) .nil ⟨185,8,186,17⟩)
  (.cons (.aug 77 .add (.lit (.int 1) ⟨187,16,187,17⟩) ⟨187,8,187,17⟩ ⟨187,8,187,12⟩)
  .nil)) ⟨184,4,187,17⟩)
  (.cons (.ite (.v (.cmp .lt (.v (.var 77 ⟨188,7,188,11⟩)) (.v (.b1 .len (.v (.var 39 ⟨188,18,188,25⟩)) ⟨188,14,188,26⟩ ⟨188,14,188,17⟩)) ⟨188,7,188,26⟩)) (.cons (.asg 8 false (.bin .add (.v (.slc (.v (.var 8 ⟨189,14,189,17⟩)) .none (.some (.bin .add (.v (.var 57 ⟨189,19,189,21⟩)) (.v (.var 77 ⟨189,24,189,28⟩)) ⟨189,19,189,28⟩)) ⟨189,14,189,29⟩ ⟨189,18,189,28⟩)) (.v (.slc (.v (.var 39 ⟨189,32,189,39⟩)) (.some (.var 77 ⟨189,40,189,44⟩)) .none ⟨189,32,189,46⟩ ⟨189,40,189,45⟩)) ⟨189,14,189,46⟩) ⟨189,8,189,46⟩ ⟨189,8,189,11⟩)
  .nil) .nil ⟨188,4,189,46⟩)
  (.cons (.asg 42 false (.bin .add (.v (.var 57 ⟨190,10,190,12⟩)) (.v (.b1 .len (.v (.var 39 ⟨190,19,190,26⟩)) ⟨190,15,190,27⟩ ⟨190,15,190,18⟩)) ⟨190,10,190,27⟩) ⟨190,4,190,27⟩ ⟨190,4,190,7⟩)
  (.cons (.ret (.tup (.cons (.var 8 ⟨191,12,191,15⟩) (.cons (.b2 .max (.var 9 ⟨191,21,191,27⟩) (.b2 .min (.var 80 ⟨191,33,191,37⟩) (.var 42 ⟨191,39,191,42⟩) ⟨191,29,191,43⟩ ⟨191,29,191,32⟩) ⟨191,17,191,44⟩ ⟨191,17,191,20⟩) (.cons (.lit (.bool true) ⟨191,46,191,50⟩) (.cons (.var 42 ⟨191,52,191,55⟩) .nil)))) ⟨191,11,191,56⟩) ⟨191,4,191,56⟩)
  .nil)))))))
noncomputable def ps_law_hear : List Nat := [45, 82]
noncomputable def ir_law_hear : Sms := (.cons (.unp [(.nm 3 ⟨213,4,213,6⟩), (.nm 4 ⟨213,8,213,12⟩), (.nm 5 ⟨213,14,213,18⟩), (.nm 6 ⟨213,20,213,24⟩), (.nm 7 ⟨213,26,213,31⟩), (.nm 8 ⟨213,33,213,36⟩), (.nm 9 ⟨213,38,213,44⟩), (.nm 10 ⟨213,46,213,51⟩)] (.var 45 ⟨213,54,213,58⟩) ⟨213,4,213,58⟩ ⟨213,4,213,51⟩)
  (.cons (.asgT [((.nm 33 ⟨214,4,214,8⟩), false), ((.nm 81 ⟨214,10,214,14⟩), false), ((.nm 34 ⟨214,16,214,19⟩), false)] (.cons (.idx (.v (.var 82 ⟨214,23,214,27⟩)) (.lit (.int 0) ⟨214,28,214,29⟩) ⟨214,23,214,30⟩) (.cons (.idx (.v (.var 82 ⟨214,32,214,36⟩)) (.lit (.int 1) ⟨214,37,214,38⟩) ⟨214,32,214,39⟩) (.cons (.idx (.v (.var 82 ⟨214,41,214,45⟩)) (.lit (.int 2) ⟨214,46,214,47⟩) ⟨214,41,214,48⟩) .nil))) ⟨214,4,214,49⟩ ⟨214,4,214,19⟩ ⟨214,22,214,49⟩)
  (.cons (.asg 11 false (.lst .nil ⟨215,10,215,12⟩) ⟨215,4,215,12⟩ ⟨215,4,215,7⟩)
  (.cons (.ite (.v (.cmp .gt (.v (.var 81 ⟨216,7,216,11⟩)) (.v (.var 6 ⟨216,14,216,18⟩)) ⟨216,7,216,18⟩)) (.cons (.asgT [((.nm 5 ⟨217,8,217,12⟩), false), ((.nm 6 ⟨217,14,217,18⟩), false), ((.nm 7 ⟨217,20,217,25⟩), false), ((.nm 10 ⟨217,27,217,32⟩), false)] (.cons (.lit (.str (Str.ofString "follower")) ⟨217,36,217,46⟩) (.cons (.var 81 ⟨217,48,217,52⟩) (.cons (.lit .none ⟨217,54,217,58⟩) (.cons (.lst .nil ⟨217,60,217,62⟩) .nil)))) ⟨217,8,217,63⟩ ⟨217,8,217,32⟩ ⟨217,35,217,63⟩)
  .nil) .nil ⟨216,4,217,63⟩)
  (.cons (.asg 83 false (.cmp .eq (.v (.var 81 ⟨218,10,218,14⟩)) (.v (.var 6 ⟨218,18,218,22⟩)) ⟨218,10,218,22⟩) ⟨218,4,218,22⟩ ⟨218,4,218,7⟩)
  (.cons (.ite (.v (.cmp .eq (.v (.var 33 ⟨219,7,219,11⟩)) (.v (.lit (.str (Str.ofString "ask")) ⟨219,15,219,20⟩)) ⟨219,7,219,20⟩)) (.cons (.asg 84 false (.lit (.bool false) ⟨220,16,220,21⟩) ⟨220,8,220,21⟩ ⟨220,8,220,13⟩)
  (.cons (.ite (.all (.cons (.v (.var 83 ⟨221,11,221,14⟩)) (.cons (.any (.cons (.v (.isNone (.var 7 ⟨221,20,221,25⟩) ⟨221,20,221,33⟩ ⟨221,29,221,33⟩)) (.cons (.v (.cmp .eq (.v (.var 7 ⟨221,37,221,42⟩)) (.v (.var 34 ⟨221,46,221,49⟩)) ⟨221,37,221,49⟩)) .nil)) ⟨221,20,221,49⟩) (.cons (.v (.cmp .ge (.v (.idx (.v (.var 82 ⟨221,56,221,60⟩)) (.lit (.int 4) ⟨221,61,221,62⟩) ⟨221,56,221,63⟩)) (.v (.call 67 (.cons (.var 8 ⟨221,78,221,81⟩) (.cons (.b1 .len (.v (.var 8 ⟨221,87,221,90⟩)) ⟨221,83,221,91⟩ ⟨221,83,221,86⟩) .nil)) ⟨221,67,221,92⟩ ⟨221,67,221,77⟩)) ⟨221,56,221,92⟩)) .nil))) ⟨221,11,221,93⟩) (.cons (.asg 84 false (.lit (.bool true) ⟨222,20,222,24⟩) ⟨222,12,222,24⟩ ⟨222,12,222,17⟩)
  (.cons (.asg 7 false (.var 34 ⟨223,20,223,23⟩) ⟨223,12,223,23⟩ ⟨223,12,223,17⟩)
  .nil)) .nil ⟨221,8,223,23⟩)
  (.cons (.asg 11 false (.lst (.cons (.tup (.cons (.lit (.str (Str.ofString "vote")) ⟨224,16,224,22⟩) (.cons (.var 6 ⟨224,24,224,28⟩) (.cons (.var 3 ⟨224,30,224,32⟩) (.cons (.var 34 ⟨224,34,224,37⟩) (.cons (.var 84 ⟨224,39,224,44⟩) .nil))))) ⟨224,15,224,45⟩) .nil) ⟨224,14,224,46⟩) ⟨224,8,224,46⟩ ⟨224,8,224,11⟩)
  .nil))) (.cons (.ite (.v (.cmp .eq (.v (.var 33 ⟨225,9,225,13⟩)) (.v (.lit (.str (Str.ofString "vote")) ⟨225,17,225,23⟩)) ⟨225,9,225,23⟩)) (.cons (.ite (.all (.cons (.v (.idx (.v (.var 82 ⟨226,11,226,15⟩)) (.lit (.int 4) ⟨226,16,226,17⟩) ⟨226,11,226,18⟩)) (.cons (.v (.var 83 ⟨226,23,226,26⟩)) (.cons (.v (.cmp .eq (.v (.var 5 ⟨226,32,226,36⟩)) (.v (.lit (.str (Str.ofString "candidate")) ⟨226,40,226,51⟩)) ⟨226,32,226,51⟩)) .nil))) ⟨226,11,226,52⟩) (.cons (.asg 68 false (.comp (.var 85 ⟨227,21,227,22⟩) (.one 85 ⟨227,27,227,28⟩) (.rng (.cons (.var 4 ⟨227,38,227,42⟩) .nil) ⟨227,32,227,43⟩ ⟨227,32,227,37⟩) (.some (.any (.cons (.v (.cmp .eq (.v (.var 85 ⟨227,47,227,48⟩)) (.v (.var 34 ⟨227,52,227,55⟩)) ⟨227,47,227,55⟩)) (.cons (.v (.cmp .isin (.v (.var 85 ⟨227,59,227,60⟩)) (.v (.var 10 ⟨227,64,227,69⟩)) ⟨227,59,227,69⟩)) .nil)) ⟨227,47,227,69⟩)) [(19, .local), (85, .local), (10, .free), (34, .free)] ⟨227,20,227,70⟩) ⟨227,12,227,70⟩ ⟨227,12,227,17⟩)
  (.cons (.unp [(.nm 5 ⟨228,12,228,16⟩), (.nm 10 ⟨228,18,228,23⟩), (.nm 11 ⟨228,25,228,28⟩)] (.call 74 (.cons (.var 3 ⟨228,40,228,42⟩) (.cons (.var 4 ⟨228,44,228,48⟩) (.cons (.var 6 ⟨228,50,228,54⟩) (.cons (.var 8 ⟨228,56,228,59⟩) (.cons (.var 9 ⟨228,61,228,67⟩) (.cons (.var 68 ⟨228,69,228,74⟩) .nil)))))) ⟨228,31,228,75⟩ ⟨228,31,228,39⟩) ⟨228,12,228,75⟩ ⟨228,12,228,28⟩)
  .nil)) .nil ⟨226,8,228,75⟩)
  .nil) (.cons (.ite (.v (.cmp .eq (.v (.var 33 ⟨229,9,229,13⟩)) (.v (.lit (.str (Str.ofString "append")) ⟨229,17,229,25⟩)) ⟨229,9,229,25⟩)) (.cons (.asgT [((.nm 70 ⟨230,8,230,12⟩), false), ((.nm 42 ⟨230,14,230,17⟩), false)] (.cons (.lit (.bool false) ⟨230,21,230,26⟩) (.cons (.lit (.int 0) ⟨230,28,230,29⟩) .nil)) ⟨230,8,230,30⟩ ⟨230,8,230,17⟩ ⟨230,20,230,30⟩)
  (.cons (.ite (.v (.var 83 ⟨231,11,231,14⟩)) (.cons (.asgT [((.nm 5 ⟨232,12,232,16⟩), false), ((.nm 10 ⟨232,18,232,23⟩), false)] (.cons (.lit (.str (Str.ofString "follower")) ⟨232,27,232,37⟩) (.cons (.lst .nil ⟨232,39,232,41⟩) .nil)) ⟨232,12,232,42⟩ ⟨232,12,232,23⟩ ⟨232,26,232,42⟩)
  (.cons (.unp [(.nm 8 ⟨233,12,233,15⟩), (.nm 9 ⟨233,17,233,23⟩), (.nm 70 ⟨233,25,233,29⟩), (.nm 42 ⟨233,31,233,34⟩)] (.call 86 (.cons (.var 8 ⟨233,47,233,50⟩) (.cons (.var 9 ⟨233,52,233,58⟩) (.cons (.idx (.v (.var 82 ⟨233,60,233,64⟩)) (.lit (.int 4) ⟨233,65,233,66⟩) ⟨233,60,233,67⟩) (.cons (.idx (.v (.var 82 ⟨233,69,233,73⟩)) (.lit (.int 5) ⟨233,74,233,75⟩) ⟨233,69,233,76⟩) (.cons (.idx (.v (.var 82 ⟨233,78,233,82⟩)) (.lit (.int 6) ⟨233,83,233,84⟩) ⟨233,78,233,85⟩) .nil))))) ⟨233,37,233,86⟩ ⟨233,37,233,46⟩) ⟨233,12,233,86⟩ ⟨233,12,233,34⟩)
  .nil)) .nil ⟨231,8,233,86⟩)
  (.cons (.asg 11 false (.lst (.cons (.tup (.cons (.lit (.str (Str.ofString "done")) ⟨234,16,234,22⟩) (.cons (.var 6 ⟨234,24,234,28⟩) (.cons (.var 3 ⟨234,30,234,32⟩) (.cons (.var 34 ⟨234,34,234,37⟩) (.cons (.var 70 ⟨234,39,234,43⟩) (.cons (.var 42 ⟨234,45,234,48⟩) .nil)))))) ⟨234,15,234,49⟩) .nil) ⟨234,14,234,50⟩) ⟨234,8,234,50⟩ ⟨234,8,234,11⟩)
  .nil))) (.cons (.ite (.all (.cons (.v (.var 83 ⟨235,9,235,12⟩)) (.cons (.v (.cmp .eq (.v (.var 5 ⟨235,17,235,21⟩)) (.v (.lit (.str (Str.ofString "leader")) ⟨235,25,235,33⟩)) ⟨235,17,235,33⟩)) .nil)) ⟨235,9,235,33⟩) (.cons (.unp [(.nm 66 ⟨236,8,236,13⟩), (.nm 43 ⟨236,15,236,20⟩)] (.idx (.v (.var 10 ⟨236,23,236,28⟩)) (.var 34 ⟨236,29,236,32⟩) ⟨236,23,236,33⟩) ⟨236,8,236,33⟩ ⟨236,8,236,20⟩)
  (.cons (.ite (.v (.idx (.v (.var 82 ⟨237,11,237,15⟩)) (.lit (.int 4) ⟨237,16,237,17⟩) ⟨237,11,237,18⟩)) (.cons (.asg 87 false (.b2 .max (.var 43 ⟨238,23,238,28⟩) (.idx (.v (.var 82 ⟨238,30,238,34⟩)) (.lit (.int 5) ⟨238,35,238,36⟩) ⟨238,30,238,37⟩) ⟨238,19,238,38⟩ ⟨238,19,238,22⟩) ⟨238,12,238,38⟩ ⟨238,12,238,16⟩)
  (.cons (.asg 10 false (.bin .add (.v (.bin .add (.v (.slc (.v (.var 10 ⟨239,20,239,25⟩)) .none (.some (.var 34 ⟨239,27,239,30⟩)) ⟨239,20,239,31⟩ ⟨239,26,239,30⟩)) (.v (.lst (.cons (.tup (.cons (.bin .add (.v (.var 87 ⟨239,36,239,40⟩)) (.v (.lit (.int 1) ⟨239,43,239,44⟩)) ⟨239,36,239,44⟩) (.cons (.var 87 ⟨239,46,239,50⟩) .nil)) ⟨239,35,239,51⟩) .nil) ⟨239,34,239,52⟩)) ⟨239,20,239,52⟩)) (.v (.slc (.v (.var 10 ⟨239,55,239,60⟩)) (.some (.bin .add (.v (.var 34 ⟨239,61,239,64⟩)) (.v (.lit (.int 1) ⟨239,67,239,68⟩)) ⟨239,61,239,68⟩)) .none ⟨239,55,239,70⟩ ⟨239,61,239,69⟩)) ⟨239,20,239,70⟩) ⟨239,12,239,70⟩ ⟨239,12,239,17⟩)
  (.cons (.asg 9 false (.call 75 (.cons (.var 6 ⟨240,34,240,38⟩) (.cons (.var 8 ⟨240,40,240,43⟩) (.cons (.var 9 ⟨240,45,240,51⟩) (.cons (.var 10 ⟨240,53,240,58⟩) .nil)))) ⟨240,21,240,59⟩ ⟨240,21,240,33⟩) ⟨240,12,240,59⟩ ⟨240,12,240,18⟩)
  .nil))) (.cons (.asg 10 false (.bin .add (.v (.bin .add (.v (.slc (.v (.var 10 ⟨242,20,242,25⟩)) .none (.some (.var 34 ⟨242,27,242,30⟩)) ⟨242,20,242,31⟩ ⟨242,26,242,30⟩)) (.v (.lst (.cons (.tup (.cons (.b2 .max (.bin .sub (.v (.var 66 ⟨242,40,242,45⟩)) (.v (.lit (.int 1) ⟨242,48,242,49⟩)) ⟨242,40,242,49⟩) (.lit (.int 1) ⟨242,51,242,52⟩) ⟨242,36,242,53⟩ ⟨242,36,242,39⟩) (.cons (.var 43 ⟨242,55,242,60⟩) .nil)) ⟨242,35,242,61⟩) .nil) ⟨242,34,242,62⟩)) ⟨242,20,242,62⟩)) (.v (.slc (.v (.var 10 ⟨242,65,242,70⟩)) (.some (.bin .add (.v (.var 34 ⟨242,71,242,74⟩)) (.v (.lit (.int 1) ⟨242,77,242,78⟩)) ⟨242,71,242,78⟩)) .none ⟨242,65,242,80⟩ ⟨242,71,242,79⟩)) ⟨242,20,242,80⟩) ⟨242,12,242,80⟩ ⟨242,12,242,17⟩)
  (.cons (.asg 11 false (.call 69 (.cons (.var 3 ⟨243,31,243,33⟩) (.cons (.var 6 ⟨243,35,243,39⟩) (.cons (.var 8 ⟨243,41,243,44⟩) (.cons (.var 9 ⟨243,46,243,52⟩) (.cons (.var 10 ⟨243,54,243,59⟩) (.cons (.lst (.cons (.var 34 ⟨243,62,243,65⟩) .nil) ⟨243,61,243,66⟩) .nil)))))) ⟨243,18,243,67⟩ ⟨243,18,243,30⟩) ⟨243,12,243,67⟩ ⟨243,12,243,15⟩)
  .nil)) ⟨237,8,243,67⟩)
  .nil)) .nil ⟨235,4,243,67⟩)
  .nil) ⟨229,4,243,67⟩)
  .nil) ⟨225,4,243,67⟩)
  .nil) ⟨219,4,243,67⟩)
  (.cons (.ret (.tup (.cons (.tup (.cons (.var 3 ⟨244,13,244,15⟩) (.cons (.var 4 ⟨244,17,244,21⟩) (.cons (.var 5 ⟨244,23,244,27⟩) (.cons (.var 6 ⟨244,29,244,33⟩) (.cons (.var 7 ⟨244,35,244,40⟩) (.cons (.var 8 ⟨244,42,244,45⟩) (.cons (.var 9 ⟨244,47,244,53⟩) (.cons (.var 10 ⟨244,55,244,60⟩) .nil)))))))) ⟨244,12,244,61⟩) (.cons (.var 11 ⟨244,63,244,66⟩) .nil)) ⟨244,11,244,67⟩) ⟨244,4,244,67⟩)
  .nil)))))))
noncomputable def ps_law_reckon : List Nat := [4, 56]
noncomputable def ir_law_reckon : Sms := (.cons (.asg 51 false (.comp (.tup (.cons (.var 40 ⟨246,14,246,15⟩) (.cons (.var 4 ⟨246,17,246,21⟩) (.cons (.lit (.str (Str.ofString "follower")) ⟨246,23,246,33⟩) (.cons (.lit (.int 0) ⟨246,35,246,36⟩) (.cons (.lit .none ⟨246,38,246,42⟩) (.cons (.lst .nil ⟨246,44,246,46⟩) (.cons (.lit (.int 0) ⟨246,48,246,49⟩) (.cons (.lst .nil ⟨246,51,246,53⟩) .nil)))))))) ⟨246,13,246,54⟩) (.one 40 ⟨246,59,246,60⟩) (.rng (.cons (.var 4 ⟨246,70,246,74⟩) .nil) ⟨246,64,246,75⟩ ⟨246,64,246,69⟩) .none [(19, .local), (40, .local), (4, .free)] ⟨246,12,246,76⟩) ⟨246,4,246,76⟩ ⟨246,4,246,9⟩)
  (.cons (.asg 53 true (.lst (.cons (.var 51 ⟨247,15,247,20⟩) .nil) ⟨247,14,247,21⟩) ⟨247,4,247,21⟩ ⟨247,4,247,11⟩)
  (.cons (.asg 54 false (.lst .nil ⟨248,10,248,12⟩) ⟨248,4,248,12⟩ ⟨248,4,248,7⟩)
  (.cons (.for_ (.one 72 ⟨249,8,249,11⟩) (.seq (.v (.var 56 ⟨249,15,249,22⟩))) (.cons (.asg 11 false (.lst .nil ⟨250,14,250,16⟩) ⟨250,8,250,16⟩ ⟨250,8,250,11⟩)
  (.cons (.ite (.v (.cmp .isin (.v (.idx (.v (.var 72 ⟨251,11,251,14⟩)) (.lit (.int 0) ⟨251,15,251,16⟩) ⟨251,11,251,17⟩)) (.v (.tup (.cons (.lit (.str (Str.ofString "deliver")) ⟨251,22,251,31⟩) (.cons (.lit (.str (Str.ofString "drop")) ⟨251,33,251,39⟩) (.cons (.lit (.str (Str.ofString "double")) ⟨251,41,251,49⟩) .nil))) ⟨251,21,251,50⟩)) ⟨251,11,251,50⟩)) (.cons (.ite (.v (.var 54 ⟨252,15,252,18⟩)) (.cons (.asg 57 false (.bin .mod (.v (.idx (.v (.var 72 ⟨253,21,253,24⟩)) (.lit (.int 1) ⟨253,25,253,26⟩) ⟨253,21,253,27⟩)) (.v (.b1 .len (.v (.var 54 ⟨253,34,253,37⟩)) ⟨253,30,253,38⟩ ⟨253,30,253,33⟩)) ⟨253,21,253,38⟩) ⟨253,16,253,38⟩ ⟨253,16,253,18⟩)
  (.cons (.asg 82 false (.idx (.v (.var 54 ⟨254,23,254,26⟩)) (.var 57 ⟨254,27,254,29⟩) ⟨254,23,254,30⟩) ⟨254,16,254,30⟩ ⟨254,16,254,20⟩)
  (.cons (.ite (.v (.cmp .eq (.v (.idx (.v (.var 72 ⟨255,19,255,22⟩)) (.lit (.int 0) ⟨255,23,255,24⟩) ⟨255,19,255,25⟩)) (.v (.lit (.str (Str.ofString "double")) ⟨255,29,255,37⟩)) ⟨255,19,255,37⟩)) (.cons (.asg 54 false (.bin .add (.v (.var 54 ⟨256,26,256,29⟩)) (.v (.lst (.cons (.var 82 ⟨256,33,256,37⟩) .nil) ⟨256,32,256,38⟩)) ⟨256,26,256,38⟩) ⟨256,20,256,38⟩ ⟨256,20,256,23⟩)
  .nil) (.cons (.asg 54 false (.bin .add (.v (.slc (.v (.var 54 ⟨258,26,258,29⟩)) .none (.some (.var 57 ⟨258,31,258,33⟩)) ⟨258,26,258,34⟩ ⟨258,30,258,33⟩)) (.v (.slc (.v (.var 54 ⟨258,37,258,40⟩)) (.some (.bin .add (.v (.var 57 ⟨258,41,258,43⟩)) (.v (.lit (.int 1) ⟨258,46,258,47⟩)) ⟨258,41,258,47⟩)) .none ⟨258,37,258,49⟩ ⟨258,41,258,48⟩)) ⟨258,26,258,49⟩) ⟨258,20,258,49⟩ ⟨258,20,258,23⟩)
  .nil) ⟨255,16,258,49⟩)
  (.cons (.ite (.v (.cmp .eq (.v (.idx (.v (.var 72 ⟨259,19,259,22⟩)) (.lit (.int 0) ⟨259,23,259,24⟩) ⟨259,19,259,25⟩)) (.v (.lit (.str (Str.ofString "deliver")) ⟨259,29,259,38⟩)) ⟨259,19,259,38⟩)) (.cons (.unp [(.nm 45 ⟨260,20,260,24⟩), (.nm 11 ⟨260,26,260,29⟩)] (.call 88 (.cons (.idx (.v (.var 51 ⟨260,42,260,47⟩)) (.idx (.v (.var 82 ⟨260,48,260,52⟩)) (.lit (.int 3) ⟨260,53,260,54⟩) ⟨260,48,260,55⟩) ⟨260,42,260,56⟩) (.cons (.var 82 ⟨260,58,260,62⟩) .nil)) ⟨260,32,260,63⟩ ⟨260,32,260,41⟩) ⟨260,20,260,63⟩ ⟨260,20,260,29⟩)
  (.cons (.asg 51 false (.bin .add (.v (.bin .add (.v (.slc (.v (.var 51 ⟨261,28,261,33⟩)) .none (.some (.idx (.v (.var 82 ⟨261,35,261,39⟩)) (.lit (.int 3) ⟨261,40,261,41⟩) ⟨261,35,261,42⟩)) ⟨261,28,261,43⟩ ⟨261,34,261,42⟩)) (.v (.lst (.cons (.var 45 ⟨261,47,261,51⟩) .nil) ⟨261,46,261,52⟩)) ⟨261,28,261,52⟩)) (.v (.slc (.v (.var 51 ⟨261,55,261,60⟩)) (.some (.bin .add (.v (.idx (.v (.var 82 ⟨261,61,261,65⟩)) (.lit (.int 3) ⟨261,66,261,67⟩) ⟨261,61,261,68⟩)) (.v (.lit (.int 1) ⟨261,71,261,72⟩)) ⟨261,61,261,72⟩)) .none ⟨261,55,261,74⟩ ⟨261,61,261,73⟩)) ⟨261,28,261,74⟩) ⟨261,20,261,74⟩ ⟨261,20,261,25⟩)
  .nil)) .nil ⟨259,16,261,74⟩)
  .nil)))) .nil ⟨252,12,261,74⟩)
  .nil) (.cons (.unp [(.nm 45 ⟨263,12,263,16⟩), (.nm 11 ⟨263,18,263,21⟩)] (.call 89 (.cons (.idx (.v (.var 51 ⟨263,34,263,39⟩)) (.idx (.v (.var 72 ⟨263,40,263,43⟩)) (.lit (.int 1) ⟨263,44,263,45⟩) ⟨263,40,263,46⟩) ⟨263,34,263,47⟩) (.cons (.var 72 ⟨263,49,263,52⟩) .nil)) ⟨263,24,263,53⟩ ⟨263,24,263,33⟩) ⟨263,12,263,53⟩ ⟨263,12,263,21⟩)
  (.cons (.asg 51 false (.bin .add (.v (.bin .add (.v (.slc (.v (.var 51 ⟨264,20,264,25⟩)) .none (.some (.idx (.v (.var 72 ⟨264,27,264,30⟩)) (.lit (.int 1) ⟨264,31,264,32⟩) ⟨264,27,264,33⟩)) ⟨264,20,264,34⟩ ⟨264,26,264,33⟩)) (.v (.lst (.cons (.var 45 ⟨264,38,264,42⟩) .nil) ⟨264,37,264,43⟩)) ⟨264,20,264,43⟩)) (.v (.slc (.v (.var 51 ⟨264,46,264,51⟩)) (.some (.bin .add (.v (.idx (.v (.var 72 ⟨264,52,264,55⟩)) (.lit (.int 1) ⟨264,56,264,57⟩) ⟨264,52,264,58⟩)) (.v (.lit (.int 1) ⟨264,61,264,62⟩)) ⟨264,52,264,62⟩)) .none ⟨264,46,264,64⟩ ⟨264,52,264,63⟩)) ⟨264,20,264,64⟩) ⟨264,12,264,64⟩ ⟨264,12,264,17⟩)
  .nil)) ⟨251,8,264,64⟩)
  (.cons (.asg 54 false (.bin .add (.v (.var 54 ⟨265,14,265,17⟩)) (.v (.var 11 ⟨265,20,265,23⟩)) ⟨265,14,265,23⟩) ⟨265,8,265,23⟩ ⟨265,8,265,11⟩)
  (.cons (.app (.v 53 ⟨266,8,266,15⟩) (.var 51 ⟨266,23,266,28⟩) ⟨266,8,266,29⟩ ⟨266,8,266,29⟩ ⟨266,8,266,22⟩)
  .nil)))) ⟨249,4,266,29⟩)
  (.cons (.frz 53)
  (.cons (.ret (.tup (.cons (.var 53 ⟨267,12,267,19⟩) (.cons (.var 54 ⟨267,21,267,24⟩) .nil)) ⟨267,11,267,25⟩) ⟨267,4,267,25⟩)
  .nil))))))
noncomputable def ps_law : List Nat := [50]
noncomputable def ir_law : Sms := (.cons (.ite (.v (.cmp .lt (.v (.b1 .len (.v (.var 50 ⟨269,11,269,17⟩)) ⟨269,7,269,18⟩ ⟨269,7,269,10⟩)) (.v (.lit (.int 15) ⟨269,21,269,23⟩)) ⟨269,7,269,23⟩)) (.cons (.ret (.lit (.bool true) ⟨270,15,270,19⟩) ⟨270,8,270,19⟩)
  .nil) .nil ⟨269,4,270,19⟩)
  (.cons (.asg 4 false (.idx (.v (.glb 90 ⟨271,11,271,21⟩)) (.bin .mod (.v (.idx (.v (.var 50 ⟨271,22,271,28⟩)) (.lit (.int 0) ⟨271,29,271,30⟩) ⟨271,22,271,31⟩)) (.v (.lit (.int 7) ⟨271,34,271,35⟩)) ⟨271,22,271,35⟩) ⟨271,11,271,36⟩) ⟨271,4,271,36⟩ ⟨271,4,271,8⟩)
  (.cons (.asg 62 false (.lit (.int 0) ⟨272,11,272,12⟩) ⟨272,4,272,12⟩ ⟨272,4,272,8⟩)
  (.cons (.asg 64 false (.lst .nil ⟨273,11,273,13⟩) ⟨273,4,273,13⟩ ⟨273,4,273,8⟩)
  (.cons (.for_ (.many [(33, ⟨274,8,274,12⟩), (63, ⟨274,14,274,15⟩)] ⟨274,8,274,15⟩) (.seq (.v (.lst (.cons (.tup (.cons (.idx (.v (.var 50 ⟨274,21,274,27⟩)) (.lit (.int 1) ⟨274,28,274,29⟩) ⟨274,21,274,30⟩) (.cons (.idx (.v (.var 50 ⟨274,32,274,38⟩)) (.lit (.int 6) ⟨274,39,274,40⟩) ⟨274,32,274,41⟩) .nil)) ⟨274,20,274,42⟩) (.cons (.tup (.cons (.idx (.v (.var 50 ⟨274,45,274,51⟩)) (.lit (.int 2) ⟨274,52,274,53⟩) ⟨274,45,274,54⟩) (.cons (.idx (.v (.var 50 ⟨274,56,274,62⟩)) (.lit (.int 7) ⟨274,63,274,64⟩) ⟨274,56,274,65⟩) .nil)) ⟨274,44,274,66⟩) (.cons (.tup (.cons (.idx (.v (.var 50 ⟨274,69,274,75⟩)) (.lit (.int 3) ⟨274,76,274,77⟩) ⟨274,69,274,78⟩) (.cons (.idx (.v (.var 50 ⟨274,80,274,86⟩)) (.lit (.int 8) ⟨274,87,274,88⟩) ⟨274,80,274,89⟩) .nil)) ⟨274,68,274,90⟩) (.cons (.tup (.cons (.idx (.v (.var 50 ⟨274,93,274,99⟩)) (.lit (.int 4) ⟨274,100,274,101⟩) ⟨274,93,274,102⟩) (.cons (.idx (.v (.var 50 ⟨274,104,274,110⟩)) (.lit (.int 9) ⟨274,111,274,112⟩) ⟨274,104,274,113⟩) .nil)) ⟨274,92,274,114⟩) (.cons (.tup (.cons (.idx (.v (.var 50 ⟨274,117,274,123⟩)) (.lit (.int 5) ⟨274,124,274,125⟩) ⟨274,117,274,126⟩) (.cons (.idx (.v (.var 50 ⟨274,128,274,134⟩)) (.lit (.int 10) ⟨274,135,274,137⟩) ⟨274,128,274,138⟩) .nil)) ⟨274,116,274,139⟩) (.cons (.tup (.cons (.idx (.v (.var 50 ⟨274,142,274,148⟩)) (.lit (.int 6) ⟨274,149,274,150⟩) ⟨274,142,274,151⟩) (.cons (.idx (.v (.var 50 ⟨274,153,274,159⟩)) (.lit (.int 11) ⟨274,160,274,162⟩) ⟨274,153,274,163⟩) .nil)) ⟨274,141,274,164⟩) (.cons (.tup (.cons (.idx (.v (.var 50 ⟨274,167,274,173⟩)) (.lit (.int 7) ⟨274,174,274,175⟩) ⟨274,167,274,176⟩) (.cons (.idx (.v (.var 50 ⟨274,178,274,184⟩)) (.lit (.int 12) ⟨274,185,274,187⟩) ⟨274,178,274,188⟩) .nil)) ⟨274,166,274,189⟩) (.cons (.tup (.cons (.idx (.v (.var 50 ⟨274,192,274,198⟩)) (.lit (.int 8) ⟨274,199,274,200⟩) ⟨274,192,274,201⟩) (.cons (.idx (.v (.var 50 ⟨274,203,274,209⟩)) (.lit (.int 13) ⟨274,210,274,212⟩) ⟨274,203,274,213⟩) .nil)) ⟨274,191,274,214⟩) (.cons (.tup (.cons (.idx (.v (.var 50 ⟨274,217,274,223⟩)) (.lit (.int 9) ⟨274,224,274,225⟩) ⟨274,217,274,226⟩) (.cons (.idx (.v (.var 50 ⟨274,228,274,234⟩)) (.lit (.int 14) ⟨274,235,274,237⟩) ⟨274,228,274,238⟩) .nil)) ⟨274,216,274,239⟩) (.cons (.tup (.cons (.idx (.v (.var 50 ⟨274,242,274,248⟩)) (.lit (.int 10) ⟨274,249,274,251⟩) ⟨274,242,274,252⟩) (.cons (.idx (.v (.var 50 ⟨274,254,274,260⟩)) (.lit (.int 1) ⟨274,261,274,262⟩) ⟨274,254,274,263⟩) .nil)) ⟨274,241,274,264⟩) (.cons (.tup (.cons (.idx (.v (.var 50 ⟨274,267,274,273⟩)) (.lit (.int 11) ⟨274,274,274,276⟩) ⟨274,267,274,277⟩) (.cons (.idx (.v (.var 50 ⟨274,279,274,285⟩)) (.lit (.int 2) ⟨274,286,274,287⟩) ⟨274,279,274,288⟩) .nil)) ⟨274,266,274,289⟩) (.cons (.tup (.cons (.idx (.v (.var 50 ⟨274,292,274,298⟩)) (.lit (.int 12) ⟨274,299,274,301⟩) ⟨274,292,274,302⟩) (.cons (.idx (.v (.var 50 ⟨274,304,274,310⟩)) (.lit (.int 3) ⟨274,311,274,312⟩) ⟨274,304,274,313⟩) .nil)) ⟨274,291,274,314⟩) (.cons (.tup (.cons (.idx (.v (.var 50 ⟨274,317,274,323⟩)) (.lit (.int 13) ⟨274,324,274,326⟩) ⟨274,317,274,327⟩) (.cons (.idx (.v (.var 50 ⟨274,329,274,335⟩)) (.lit (.int 4) ⟨274,336,274,337⟩) ⟨274,329,274,338⟩) .nil)) ⟨274,316,274,339⟩) (.cons (.tup (.cons (.idx (.v (.var 50 ⟨274,342,274,348⟩)) (.lit (.int 14) ⟨274,349,274,351⟩) ⟨274,342,274,352⟩) (.cons (.idx (.v (.var 50 ⟨274,354,274,360⟩)) (.lit (.int 5) ⟨274,361,274,362⟩) ⟨274,354,274,363⟩) .nil)) ⟨274,341,274,364⟩) .nil)))))))))))))) ⟨274,19,274,365⟩))) (.cons (.unp [(.nm 62 ⟨275,8,275,12⟩), (.nm 91 ⟨275,14,275,18⟩)] (.call 92 (.cons (.var 4 ⟨275,32,275,36⟩) (.cons (.var 62 ⟨275,38,275,42⟩) (.cons (.bin .mod (.v (.var 33 ⟨275,44,275,48⟩)) (.v (.lit (.int 11) ⟨275,51,275,53⟩)) ⟨275,44,275,53⟩) (.cons (.var 63 ⟨275,55,275,56⟩) .nil)))) ⟨275,21,275,57⟩ ⟨275,21,275,31⟩) ⟨275,8,275,57⟩ ⟨275,8,275,18⟩)
  (.cons (.asg 64 false (.bin .add (.v (.var 64 ⟨276,15,276,19⟩)) (.v (.var 91 ⟨276,22,276,26⟩)) ⟨276,15,276,26⟩) ⟨276,8,276,26⟩ ⟨276,8,276,12⟩)
  .nil)) ⟨274,4,276,26⟩)
  (.cons (.asg 93 false (.b1 .list (.v (.var 64 ⟨277,16,277,20⟩)) ⟨277,11,277,21⟩ ⟨277,11,277,15⟩) ⟨277,4,277,21⟩ ⟨277,4,277,8⟩)
  (.cons (.asg 94 false (.call 95 (.cons (.var 4 ⟨278,15,278,19⟩) (.cons (.var 64 ⟨278,21,278,25⟩) .nil)) ⟨278,10,278,26⟩ ⟨278,10,278,14⟩) ⟨278,4,278,26⟩ ⟨278,4,278,7⟩)
  (.cons (.ite (.v (.cmp .ne (.v (.var 64 ⟨279,7,279,11⟩)) (.v (.var 93 ⟨279,15,279,19⟩)) ⟨279,7,279,19⟩)) (.cons (.ret (.lit (.bool false) ⟨280,15,280,20⟩) ⟨280,8,280,20⟩)
  .nil) .nil ⟨279,4,280,20⟩)
  (.cons (.ite (.v (.cmp .ne (.v (.var 94 ⟨281,7,281,10⟩)) (.v (.call 96 (.cons (.var 4 ⟨281,26,281,30⟩) (.cons (.var 93 ⟨281,32,281,36⟩) .nil)) ⟨281,14,281,37⟩ ⟨281,14,281,25⟩)) ⟨281,7,281,37⟩)) (.cons (.ret (.lit (.bool false) ⟨282,15,282,20⟩) ⟨282,8,282,20⟩)
  .nil) .nil ⟨281,4,282,20⟩)
  (.cons (.for_ (.one 45 ⟨283,8,283,12⟩) (.seq (.v (.idx (.v (.idx (.v (.var 94 ⟨283,16,283,19⟩)) (.lit (.int 0) ⟨283,20,283,21⟩) ⟨283,16,283,22⟩)) (.neg 1 ⟨283,23,283,25⟩ ⟨283,24,283,25⟩) ⟨283,16,283,26⟩))) (.cons (.ite (.not (.all (.cons (.v (.isTy (.idx (.v (.var 45 ⟨284,21,284,25⟩)) (.lit (.int 3) ⟨284,26,284,27⟩) ⟨284,21,284,28⟩) .int ⟨284,16,284,36⟩ ⟨284,16,284,29⟩ ⟨284,16,284,20⟩ ⟨284,33,284,36⟩)) (.cons (.v (.isTy (.idx (.v (.var 45 ⟨284,46,284,50⟩)) (.lit (.int 6) ⟨284,51,284,52⟩) ⟨284,46,284,53⟩) .int ⟨284,41,284,61⟩ ⟨284,41,284,54⟩ ⟨284,41,284,45⟩ ⟨284,58,284,61⟩)) .nil)) ⟨284,16,284,61⟩) ⟨284,11,284,62⟩) (.cons (.ret (.lit (.bool false) ⟨285,19,285,24⟩) ⟨285,12,285,24⟩)
  .nil) .nil ⟨284,8,285,24⟩)
  (.cons (.ite (.not (.any (.cons (.v (.isNone (.idx (.v (.var 45 ⟨286,16,286,20⟩)) (.lit (.int 4) ⟨286,21,286,22⟩) ⟨286,16,286,23⟩) ⟨286,16,286,31⟩ ⟨286,27,286,31⟩)) (.cons (.v (.isTy (.idx (.v (.var 45 ⟨286,40,286,44⟩)) (.lit (.int 4) ⟨286,45,286,46⟩) ⟨286,40,286,47⟩) .int ⟨286,35,286,55⟩ ⟨286,35,286,48⟩ ⟨286,35,286,39⟩ ⟨286,52,286,55⟩)) .nil)) ⟨286,16,286,55⟩) ⟨286,11,286,56⟩) (.cons (.ret (.lit (.bool false) ⟨287,19,287,24⟩) ⟨287,12,287,24⟩)
  .nil) .nil ⟨286,8,287,24⟩)
  .nil)) ⟨283,4,287,24⟩)
  (.cons (.for_ (.one 82 ⟨288,8,288,12⟩) (.seq (.v (.idx (.v (.var 94 ⟨288,16,288,19⟩)) (.lit (.int 1) ⟨288,20,288,21⟩) ⟨288,16,288,22⟩))) (.cons (.ite (.all (.cons (.v (.cmp .isin (.v (.idx (.v (.var 82 ⟨289,11,289,15⟩)) (.lit (.int 0) ⟨289,16,289,17⟩) ⟨289,11,289,18⟩)) (.v (.tup (.cons (.lit (.str (Str.ofString "vote")) ⟨289,23,289,29⟩) (.cons (.lit (.str (Str.ofString "done")) ⟨289,31,289,37⟩) .nil)) ⟨289,22,289,38⟩)) ⟨289,11,289,38⟩)) (.cons (.not (.v (.isTy (.idx (.v (.var 82 ⟨289,53,289,57⟩)) (.lit (.int 4) ⟨289,58,289,59⟩) ⟨289,53,289,60⟩) .bool ⟨289,48,289,69⟩ ⟨289,48,289,61⟩ ⟨289,48,289,52⟩ ⟨289,65,289,69⟩)) ⟨289,44,289,69⟩) .nil)) ⟨289,11,289,70⟩) (.cons (.ret (.lit (.bool false) ⟨290,19,290,24⟩) ⟨290,12,290,24⟩)
  .nil) .nil ⟨289,8,290,24⟩)
  .nil) ⟨288,4,290,24⟩)
  (.cons (.ret (.lit (.bool true) ⟨291,11,291,15⟩) ⟨291,4,291,15⟩)
  .nil))))))))))))
noncomputable def O0 : Orc := { gl := gls, fn := fun _ _ => none, pm := fun _ _ _ => none, mm := fun _ _ _ => none }
noncomputable def F_init : Al → List D → Option (D × Al) := runMm O0 ps_init ir_init
noncomputable def O1 : Orc := { O0 with mm := fun f ob ds => if f = 0 then F_init ob ds else O0.mm f ob ds }
noncomputable def F_others : Al → List D → Option D := runPm O1 ps_others ir_others
noncomputable def O2 : Orc := { O1 with pm := fun f ob ds => if f = 17 then F_others ob ds else O1.pm f ob ds }
noncomputable def F_term_at : Al → List D → Option D := runPm O2 ps_term_at ir_term_at
noncomputable def O3 : Orc := { O2 with pm := fun f ob ds => if f = 15 then F_term_at ob ds else O2.pm f ob ds }
noncomputable def F_send_append : Al → List D → Option (D × Al) := runMm O3 ps_send_append ir_send_append
noncomputable def O4 : Orc := { O3 with mm := fun f ob ds => if f = 20 then F_send_append ob ds else O3.mm f ob ds }
noncomputable def F_beat : Al → List D → Option (D × Al) := runMm O4 ps_beat ir_beat
noncomputable def O5 : Orc := { O4 with mm := fun f ob ds => if f = 23 then F_beat ob ds else O4.mm f ob ds }
noncomputable def F_maybe_lead : Al → List D → Option (D × Al) := runMm O5 ps_maybe_lead ir_maybe_lead
noncomputable def O6 : Orc := { O5 with mm := fun f ob ds => if f = 24 then F_maybe_lead ob ds else O5.mm f ob ds }
noncomputable def F_follow : Al → List D → Option (D × Al) := runMm O6 ps_follow ir_follow
noncomputable def O7 : Orc := { O6 with mm := fun f ob ds => if f = 28 then F_follow ob ds else O6.mm f ob ds }
noncomputable def F_last : Al → List D → Option D := runPm O7 ps_last ir_last
noncomputable def O8 : Orc := { O7 with pm := fun f ob ds => if f = 14 then F_last ob ds else O7.pm f ob ds }
noncomputable def F_look : Al → List D → Option (D × Al) := runMm O8 ps_look ir_look
noncomputable def O9 : Orc := { O8 with mm := fun f ob ds => if f = 25 then F_look ob ds else O8.mm f ob ds }
noncomputable def F_receive : Al → List D → Option (D × Al) := runMm O9 ps_receive ir_receive
noncomputable def O10 : Orc := { O9 with mm := fun f ob ds => if f = 31 then F_receive ob ds else O9.mm f ob ds }
noncomputable def F_handle : Al → List D → Option (D × Al) := runMm O10 ps_handle ir_handle
noncomputable def O11 : Orc := { O10 with mm := fun f ob ds => if f = 29 then F_handle ob ds else O10.mm f ob ds }
noncomputable def F_tup : Al → List D → Option D := runPm O11 ps_tup ir_tup
noncomputable def O12 : Orc := { O11 with pm := fun f ob ds => if f = 12 then F_tup ob ds else O11.pm f ob ds }
noncomputable def F_step : List D → Option D := runFn O12 ps_step ir_step
noncomputable def O13 : Orc := { O12 with fn := fun f ds => if f = 44 then F_step ds else O12.fn f ds }
noncomputable def F_fresh : List D → Option D := runFn O13 ps_fresh ir_fresh
noncomputable def O14 : Orc := { O13 with fn := fun f ds => if f = 52 then F_fresh ds else O13.fn f ds }
noncomputable def F_play : List D → Option D := runFn O14 ps_play ir_play
noncomputable def O15 : Orc := { O14 with fn := fun f ds => if f = 95 then F_play ds else O14.fn f ds }
noncomputable def F_law_moves : List D → Option D := runFn O15 ps_law_moves ir_law_moves
noncomputable def O16 : Orc := { O15 with fn := fun f ds => if f = 92 then F_law_moves ds else O15.fn f ds }
noncomputable def F_law_entry : List D → Option D := runFn O16 ps_law_entry ir_law_entry
noncomputable def O17 : Orc := { O16 with fn := fun f ds => if f = 67 then F_law_entry ds else O16.fn f ds }
noncomputable def F_law_appends : List D → Option D := runFn O17 ps_law_appends ir_law_appends
noncomputable def O18 : Orc := { O17 with fn := fun f ds => if f = 69 then F_law_appends ds else O17.fn f ds }
noncomputable def F_law_won : List D → Option D := runFn O18 ps_law_won ir_law_won
noncomputable def O19 : Orc := { O18 with fn := fun f ds => if f = 74 then F_law_won ds else O18.fn f ds }
noncomputable def F_law_reached : List D → Option D := runFn O19 ps_law_reached ir_law_reached
noncomputable def O20 : Orc := { O19 with fn := fun f ds => if f = 75 then F_law_reached ds else O19.fn f ds }
noncomputable def F_law_tell : List D → Option D := runFn O20 ps_law_tell ir_law_tell
noncomputable def O21 : Orc := { O20 with fn := fun f ds => if f = 89 then F_law_tell ds else O20.fn f ds }
noncomputable def F_law_take : List D → Option D := runFn O21 ps_law_take ir_law_take
noncomputable def O22 : Orc := { O21 with fn := fun f ds => if f = 86 then F_law_take ds else O21.fn f ds }
noncomputable def F_law_hear : List D → Option D := runFn O22 ps_law_hear ir_law_hear
noncomputable def O23 : Orc := { O22 with fn := fun f ds => if f = 88 then F_law_hear ds else O22.fn f ds }
noncomputable def F_law_reckon : List D → Option D := runFn O23 ps_law_reckon ir_law_reckon
noncomputable def O24 : Orc := { O23 with fn := fun f ds => if f = 96 then F_law_reckon ds else O23.fn f ds }
noncomputable def F_law : List D → Option D := runFn O24 ps_law ir_law
noncomputable def O25 : Orc := { O24 with fn := fun f ds => if f = 49 then F_law ds else O24.fn f ds }
end Mine
end
section
set_option maxRecDepth 100000
set_option backward.match.sparseCases false
namespace Mine
open PySem PySem.W PyProof.Rows
noncomputable def vS (x : String) (t : Nat) : Value := .str (Str.ofString x) t
noncomputable def dE (P : Params) (x : String) (t : Nat) (v : Value) : DictEntry := ⟨PyData.keyHash P (Str.ofString x), vS x t, v⟩
noncomputable def fd_init : FuncData := (FuncData.mk "__init__" "_Node.__init__" (Arguments.mk [] [(Arg.mk "self" none (Pos.mk 4 17 4 21)), (Arg.mk "t" none (Pos.mk 4 23 4 24))] none [] [] none []) (.stmts (toMs T ir_init)) (Scope.mk .function [("self", .local), ("t", .local), ("log", .local), ("extra", .local), ("list", .globalImplicit)] false false []) 3 [] .none .none .none (vS "raftkit.core" 187) none (.ref 27) .none 0)
noncomputable def fd_tup : FuncData := (FuncData.mk "tup" "_Node.tup" (Arguments.mk [] [(Arg.mk "self" none (Pos.mk 10 12 10 16))] none [] [] none []) (.stmts (toMs T ir_tup)) (Scope.mk .function [("self", .local), ("ex", .local), ("sorted", .globalImplicit)] false false []) 3 [] .none .none .none (vS "raftkit.core" 187) none (.ref 34) .none 0)
noncomputable def fd_last : FuncData := (FuncData.mk "last" "_Node.last" (Arguments.mk [] [(Arg.mk "self" none (Pos.mk 14 13 14 17))] none [] [] none []) (.stmts (toMs T ir_last)) (Scope.mk .function [("self", .local), ("len", .globalImplicit)] false false []) 3 [] .none .none .none (vS "raftkit.core" 187) none (.ref 41) .none 0)
noncomputable def fd_term_at : FuncData := (FuncData.mk "term_at" "_Node.term_at" (Arguments.mk [] [(Arg.mk "self" none (Pos.mk 17 16 17 20)), (Arg.mk "i" none (Pos.mk 17 22 17 23))] none [] [] none []) (.stmts (toMs T ir_term_at)) (Scope.mk .function [("self", .local), ("i", .local), ("len", .globalImplicit)] false false []) 3 [] .none .none .none (vS "raftkit.core" 187) none (.ref 48) .none 0)
noncomputable def fd_others : FuncData := (FuncData.mk "others" "_Node.others" (Arguments.mk [] [(Arg.mk "self" none (Pos.mk 20 15 20 19))] none [] [] none []) (.stmts (toMs T ir_others)) (Scope.mk .function [("self", .cell), ("range", .globalImplicit)] false false [("fast", (@Const.str "self")), ("fast", (@Const.str "j"))]) 3 [] .none .none .none (vS "raftkit.core" 187) none (.ref 53) .none 0)
noncomputable def fd_send_append : FuncData := (FuncData.mk "send_append" "_Node.send_append" (Arguments.mk [] [(Arg.mk "self" none (Pos.mk 23 20 23 24)), (Arg.mk "j" none (Pos.mk 23 26 23 27))] none [] [] none []) (.stmts (toMs T ir_send_append)) (Scope.mk .function [("self", .local), ("j", .local), ("nxt", .local), ("prev", .local)] false false []) 3 [] .none .none .none (vS "raftkit.core" 187) none (.ref 60) .none 0)
noncomputable def fd_beat : FuncData := (FuncData.mk "beat" "_Node.beat" (Arguments.mk [] [(Arg.mk "self" none (Pos.mk 28 13 28 17))] none [] [] none []) (.stmts (toMs T ir_beat)) (Scope.mk .function [("self", .local), ("j", .local)] false false []) 3 [] .none .none .none (vS "raftkit.core" 187) none (.ref 67) .none 0)
noncomputable def fd_maybe_lead : FuncData := (FuncData.mk "maybe_lead" "_Node.maybe_lead" (Arguments.mk [] [(Arg.mk "self" none (Pos.mk 33 19 33 23))] none [] [] none []) (.stmts (toMs T ir_maybe_lead)) (Scope.mk .function [("self", .local), ("len", .globalImplicit)] false false []) 3 [] .none .none .none (vS "raftkit.core" 187) none (.ref 74) .none 0)
noncomputable def fd_look : FuncData := (FuncData.mk "look" "_Node.look" (Arguments.mk [] [(Arg.mk "self" none (Pos.mk 40 13 40 17))] none [] [] none []) (.stmts (toMs T ir_look)) (Scope.mk .function [("self", .local), ("n", .cell), ("range", .globalImplicit), ("len", .globalImplicit)] false false [("fast", (@Const.str "self")), ("fast", (@Const.str "n")), ("fast", (@Const.str "x"))]) 3 [] .none .none .none (vS "raftkit.core" 187) none (.ref 79) .none 0)
noncomputable def fd_follow : FuncData := (FuncData.mk "follow" "_Node.follow" (Arguments.mk [] [(Arg.mk "self" none (Pos.mk 46 15 46 19))] none [] [] none []) (.stmts (toMs T ir_follow)) (Scope.mk .function [("self", .local)] false false []) 3 [] .none .none .none (vS "raftkit.core" 187) none (.ref 86) .none 0)
noncomputable def fd_handle : FuncData := (FuncData.mk "handle" "_Node.handle" (Arguments.mk [] [(Arg.mk "self" none (Pos.mk 50 15 50 19)), (Arg.mk "ev" none (Pos.mk 50 21 50 23))] none [] [] none []) (.stmts (toMs T ir_handle)) (Scope.mk .function [("self", .local), ("ev", .local), ("j", .local), ("len", .globalImplicit)] false false []) 3 [] .none .none .none (vS "raftkit.core" 187) none (.ref 93) .none 0)
noncomputable def fd_receive : FuncData := (FuncData.mk "receive" "_Node.receive" (Arguments.mk [] [(Arg.mk "self" none (Pos.mk 69 16 69 20)), (Arg.mk "message" none (Pos.mk 69 22 69 29))] none [] [] none []) (.stmts (toMs T ir_receive)) (Scope.mk .function [("self", .local), ("message", .local), ("kind", .local), ("term", .local), ("frm", .local), ("rest", .local), ("ok", .local), ("pt", .local), ("pi", .local), ("entries", .local), ("commit", .local), ("k", .local), ("e", .local), ("i", .local), ("end", .local), ("nxt", .local), ("match", .local), ("tuple", .globalImplicit), ("len", .globalImplicit), ("enumerate", .globalImplicit), ("min", .globalImplicit), ("max", .globalImplicit)] false false []) 3 [] .none .none .none (vS "raftkit.core" 187) none (.ref 100) .none 0)
noncomputable def fd_fresh : FuncData := (FuncData.mk "fresh" "fresh" (Arguments.mk [] [(Arg.mk "me" none (Pos.mk 112 10 112 12)), (Arg.mk "size" none (Pos.mk 112 14 112 18))] none [] [] none []) (.stmts (toMs T ir_fresh)) (Scope.mk .function [("me", .local), ("size", .local)] false false []) 3 [] .none .none .none (vS "raftkit.core" 187) none (.ref 114) .none 0)
noncomputable def fd_step : FuncData := (FuncData.mk "step" "step" (Arguments.mk [] [(Arg.mk "node" none (Pos.mk 114 9 114 13)), (Arg.mk "event" none (Pos.mk 114 15 114 20))] none [] [] none []) (.stmts (toMs T ir_step)) (Scope.mk .function [("node", .local), ("event", .local), ("n", .local), ("_Node", .globalImplicit)] false false []) 3 [] .none .none .none (vS "raftkit.core" 187) none (.ref 121) .none 0)
noncomputable def fd_play : FuncData := (FuncData.mk "play" "play" (Arguments.mk [] [(Arg.mk "size" none (Pos.mk 118 9 118 13)), (Arg.mk "actions" none (Pos.mk 118 15 118 22))] none [] [] none []) (.stmts (toMs T ir_play)) (Scope.mk .function [("size", .cell), ("actions", .local), ("nodes", .local), ("history", .local), ("way", .local), ("a", .local), ("at", .local), ("m", .local), ("out", .local), ("n", .local), ("range", .globalImplicit), ("list", .globalImplicit), ("len", .globalImplicit), ("step", .globalImplicit)] false false [("fast", (@Const.str "size")), ("fast", (@Const.str "actions")), ("fast", (@Const.str "k")), ("fast", (@Const.str "nodes")), ("fast", (@Const.str "history")), ("fast", (@Const.str "way")), ("fast", (@Const.str "a")), ("fast", (@Const.str "at")), ("fast", (@Const.str "m")), ("fast", (@Const.str "out")), ("fast", (@Const.str "n"))]) 3 [] .none .none .none (vS "raftkit.core" 187) none (.ref 126) .none 0)
noncomputable def fd_law_moves : FuncData := (FuncData.mk "_law_moves" "_law_moves" (Arguments.mk [] [(Arg.mk "size" none (Pos.mk 143 15 143 19)), (Arg.mk "head" none (Pos.mk 143 21 143 25)), (Arg.mk "kind" none (Pos.mk 143 27 143 31)), (Arg.mk "w" none (Pos.mk 143 33 143 34))] none [] [] none []) (.stmts (toMs T ir_law_moves)) (Scope.mk .function [("size", .local), ("head", .local), ("kind", .local), ("w", .local), ("verb", .local), ("chain", .local), ("acts", .local), ("_law_plans", .globalImplicit), ("list", .globalImplicit)] false false []) 3 [] .none .none .none (vS "law_sx_r021_2" 350) none (.ref 177) .none 0)
noncomputable def fd_law_entry : FuncData := (FuncData.mk "_law_entry" "_law_entry" (Arguments.mk [] [(Arg.mk "log" none (Pos.mk 159 15 159 18)), (Arg.mk "at" none (Pos.mk 159 20 159 22))] none [] [] none []) (.stmts (toMs T ir_law_entry)) (Scope.mk .function [("log", .local), ("at", .local)] false false []) 3 [] .none .none .none (vS "law_sx_r021_2" 350) none (.ref 184) .none 0)
noncomputable def fd_law_appends : FuncData := (FuncData.mk "_law_appends" "_law_appends" (Arguments.mk [] [(Arg.mk "me" none (Pos.mk 163 17 163 19)), (Arg.mk "term" none (Pos.mk 163 21 163 25)), (Arg.mk "log" none (Pos.mk 163 27 163 30)), (Arg.mk "commit" none (Pos.mk 163 32 163 38)), (Arg.mk "extra" none (Pos.mk 163 40 163 45)), (Arg.mk "to" none (Pos.mk 163 47 163 49))] none [] [] none []) (.stmts (toMs T ir_law_appends)) (Scope.mk .function [("me", .local), ("term", .local), ("log", .local), ("commit", .local), ("extra", .local), ("to", .local), ("out", .local), ("j", .local), ("ahead", .local), ("_law_entry", .globalImplicit)] false false []) 3 [] .none .none .none (vS "law_sx_r021_2" 350) none (.ref 191) .none 0)
noncomputable def fd_law_reached : FuncData := (FuncData.mk "_law_reached" "_law_reached" (Arguments.mk [] [(Arg.mk "term" none (Pos.mk 169 17 169 21)), (Arg.mk "log" none (Pos.mk 169 23 169 26)), (Arg.mk "commit" none (Pos.mk 169 28 169 34)), (Arg.mk "extra" none (Pos.mk 169 36 169 41))] none [] [] none []) (.stmts (toMs T ir_law_reached)) (Scope.mk .function [("term", .cell), ("log", .cell), ("commit", .local), ("extra", .cell), ("good", .local), ("range", .globalImplicit), ("len", .globalImplicit), ("max", .globalImplicit)] false false [("fast", (@Const.str "term")), ("fast", (@Const.str "log")), ("fast", (@Const.str "commit")), ("fast", (@Const.str "extra")), ("fast", (@Const.str "n")), ("fast", (@Const.str "p")), ("fast", (@Const.str "good"))]) 3 [] .none .none .none (vS "law_sx_r021_2" 350) none (.ref 196) .none 0)
noncomputable def fd_law_won : FuncData := (FuncData.mk "_law_won" "_law_won" (Arguments.mk [] [(Arg.mk "me" none (Pos.mk 172 13 172 15)), (Arg.mk "size" none (Pos.mk 172 17 172 21)), (Arg.mk "term" none (Pos.mk 172 23 172 27)), (Arg.mk "log" none (Pos.mk 172 29 172 32)), (Arg.mk "commit" none (Pos.mk 172 34 172 40)), (Arg.mk "votes" none (Pos.mk 172 42 172 47))] none [] [] none []) (.stmts (toMs T ir_law_won)) (Scope.mk .function [("me", .cell), ("size", .local), ("term", .local), ("log", .local), ("commit", .local), ("votes", .local), ("n", .local), ("extra", .local), ("others", .local), ("len", .globalImplicit), ("range", .globalImplicit), ("_law_appends", .globalImplicit)] false false [("fast", (@Const.str "me")), ("fast", (@Const.str "size")), ("fast", (@Const.str "term")), ("fast", (@Const.str "log")), ("fast", (@Const.str "commit")), ("fast", (@Const.str "votes")), ("fast", (@Const.str "n")), ("fast", (@Const.str "extra")), ("fast", (@Const.str "j")), ("fast", (@Const.str "others"))]) 3 [] .none .none .none (vS "law_sx_r021_2" 350) none (.ref 201) .none 0)
noncomputable def fd_law_take : FuncData := (FuncData.mk "_law_take" "_law_take" (Arguments.mk [] [(Arg.mk "log" none (Pos.mk 179 14 179 17)), (Arg.mk "commit" none (Pos.mk 179 19 179 25)), (Arg.mk "before" none (Pos.mk 179 27 179 33)), (Arg.mk "entries" none (Pos.mk 179 35 179 42)), (Arg.mk "told" none (Pos.mk 179 44 179 48))] none [] [] none []) (.stmts (toMs T ir_law_take)) (Scope.mk .function [("log", .local), ("commit", .local), ("before", .local), ("entries", .local), ("told", .local), ("at", .local), ("same", .local), ("mine", .local), ("came", .local), ("end", .local), ("len", .globalImplicit), ("_law_entry", .globalImplicit), ("zip", .globalImplicit), ("max", .globalImplicit), ("min", .globalImplicit)] false false []) 3 [] .none .none .none (vS "law_sx_r021_2" 350) none (.ref 208) .none 0)
noncomputable def fd_law_tell : FuncData := (FuncData.mk "_law_tell" "_law_tell" (Arguments.mk [] [(Arg.mk "node" none (Pos.mk 192 14 192 18)), (Arg.mk "act" none (Pos.mk 192 20 192 23))] none [] [] none []) (.stmts (toMs T ir_law_tell)) (Scope.mk .function [("node", .local), ("act", .local), ("me", .cell), ("size", .local), ("role", .local), ("term", .cell), ("voted", .local), ("log", .local), ("commit", .local), ("extra", .local), ("others", .local), ("last", .cell), ("asks", .local), ("out", .local), ("range", .globalImplicit), ("_law_entry", .globalImplicit), ("len", .globalImplicit), ("_law_won", .globalImplicit), ("_law_reached", .globalImplicit), ("_law_appends", .globalImplicit)] false false [("fast", (@Const.str "node")), ("fast", (@Const.str "act")), ("fast", (@Const.str "me")), ("fast", (@Const.str "size")), ("fast", (@Const.str "role")), ("fast", (@Const.str "term")), ("fast", (@Const.str "voted")), ("fast", (@Const.str "log")), ("fast", (@Const.str "commit")), ("fast", (@Const.str "extra")), ("fast", (@Const.str "j")), ("fast", (@Const.str "others")), ("fast", (@Const.str "last")), ("fast", (@Const.str "asks")), ("fast", (@Const.str "out"))]) 3 [] .none .none .none (vS "law_sx_r021_2" 350) none (.ref 213) .none 0)
noncomputable def fd_law_hear : FuncData := (FuncData.mk "_law_hear" "_law_hear" (Arguments.mk [] [(Arg.mk "node" none (Pos.mk 212 14 212 18)), (Arg.mk "mail" none (Pos.mk 212 20 212 24))] none [] [] none []) (.stmts (toMs T ir_law_hear)) (Scope.mk .function [("node", .local), ("mail", .local), ("me", .local), ("size", .local), ("role", .local), ("term", .local), ("voted", .local), ("log", .local), ("commit", .local), ("extra", .cell), ("kind", .local), ("sent", .local), ("frm", .cell), ("out", .local), ("now", .local), ("given", .local), ("votes", .local), ("good", .local), ("end", .local), ("ahead", .local), ("match", .local), ("most", .local), ("_law_entry", .globalImplicit), ("len", .globalImplicit), ("range", .globalImplicit), ("_law_won", .globalImplicit), ("_law_take", .globalImplicit), ("max", .globalImplicit), ("_law_reached", .globalImplicit), ("_law_appends", .globalImplicit)] false false [("fast", (@Const.str "node")), ("fast", (@Const.str "mail")), ("fast", (@Const.str "me")), ("fast", (@Const.str "size")), ("fast", (@Const.str "role")), ("fast", (@Const.str "term")), ("fast", (@Const.str "voted")), ("fast", (@Const.str "log")), ("fast", (@Const.str "commit")), ("fast", (@Const.str "extra")), ("fast", (@Const.str "kind")), ("fast", (@Const.str "sent")), ("fast", (@Const.str "frm")), ("fast", (@Const.str "out")), ("fast", (@Const.str "now")), ("fast", (@Const.str "given")), ("fast", (@Const.str "v")), ("fast", (@Const.str "votes")), ("fast", (@Const.str "good")), ("fast", (@Const.str "end")), ("fast", (@Const.str "ahead")), ("fast", (@Const.str "match")), ("fast", (@Const.str "most"))]) 3 [] .none .none .none (vS "law_sx_r021_2" 350) none (.ref 218) .none 0)
noncomputable def fd_law_reckon : FuncData := (FuncData.mk "_law_reckon" "_law_reckon" (Arguments.mk [] [(Arg.mk "size" none (Pos.mk 245 16 245 20)), (Arg.mk "actions" none (Pos.mk 245 22 245 29))] none [] [] none []) (.stmts (toMs T ir_law_reckon)) (Scope.mk .function [("size", .cell), ("actions", .local), ("nodes", .local), ("history", .local), ("way", .local), ("act", .local), ("out", .local), ("at", .local), ("mail", .local), ("node", .local), ("range", .globalImplicit), ("len", .globalImplicit), ("_law_hear", .globalImplicit), ("_law_tell", .globalImplicit)] false false [("fast", (@Const.str "size")), ("fast", (@Const.str "actions")), ("fast", (@Const.str "k")), ("fast", (@Const.str "nodes")), ("fast", (@Const.str "history")), ("fast", (@Const.str "way")), ("fast", (@Const.str "act")), ("fast", (@Const.str "out")), ("fast", (@Const.str "at")), ("fast", (@Const.str "mail")), ("fast", (@Const.str "node"))]) 3 [] .none .none .none (vS "law_sx_r021_2" 350) none (.ref 223) .none 0)
noncomputable def fd_law : FuncData := (FuncData.mk "law" "law" (Arguments.mk [] [(Arg.mk "script" none (Pos.mk 268 8 268 14))] none [] [] none []) (.stmts (toMs T ir_law)) (Scope.mk .function [("script", .local), ("size", .local), ("head", .local), ("acts", .local), ("kind", .local), ("w", .local), ("part", .local), ("twin", .local), ("got", .local), ("node", .local), ("mail", .local), ("len", .globalImplicit), ("_law_sizes", .globalImplicit), ("_law_moves", .globalImplicit), ("list", .globalImplicit), ("play", .globalImplicit), ("_law_reckon", .globalImplicit), ("type", .globalImplicit), ("int", .globalImplicit), ("bool", .globalImplicit)] false false []) 3 [] .none .none .none (vS "law_sx_r021_2" 350) none (.ref 230) .none 0)
noncomputable def KK (P : Params) : Frag := [
  (2, (Obj.mk .none none (.dict #[] 0) #[])),
  (3, (Obj.mk (.type "dict") none (.dict ([(dE P "__name__" 165 (vS "law_sx_r021_2" 350)), (dE P "__doc__" 166 .none), (dE P "__package__" 167 .none), (dE P "__loader__" 168 (.builtin "__main__.__loader__#opaque")), (dE P "__spec__" 169 .none), (dE P "__annotations__" 170 (.ref 6)), (dE P "__builtins__" 171 (.ref 4)), (dE P "__file__" 173 (vS "/claim/cut.py" 172)), (dE P "__cached__" 174 .none), (dE P "_Node" 326 (.ref 104)), (dE P "fresh" 334 (.ref 115)), (dE P "step" 343 (.ref 122)), (dE P "play" 349 (.ref 127)), (dE P "_law_sizes" 359 (.ref 128)), (dE P "_law_plans" 431 (.ref 171)), (dE P "_law_moves" 444 (.ref 178)), (dE P "_law_entry" 452 (.ref 185)), (dE P "_law_appends" 467 (.ref 192)), (dE P "_law_reached" 473 (.ref 197)), (dE P "_law_won" 479 (.ref 202)), (dE P "_law_take" 495 (.ref 209)), (dE P "_law_tell" 501 (.ref 214)), (dE P "_law_hear" 507 (.ref 219)), (dE P "_law_reckon" 513 (.ref 224)), (dE P "law" 530 (.ref 231))]).toArray 25) #[])),
  (22, (Obj.mk (.type "tuple") none (.seq #[] 0) #[])),
  (24, (Obj.mk (.type "tuple") none (.seq ([(vS "self" 204), (vS "t" 205), (vS "log" 206), (vS "extra" 207)]).toArray 0) #[])),
  (25, (Obj.mk (.type "tuple") none (.seq #[] 0) #[])),
  (27, (Obj.mk (.type "code") none (.fields ([(vS "__init__" 201), (vS "_Node.__init__" 202), (vS "/claim/cut.py" 203), (.int (4 : @Int) 0), (.int (2 : @Int) 0), (.int (0 : @Int) 0), (.int (0 : @Int) 0), (.int (3 : @Int) 0), (.ref 22), (@Value.bool true), (.int (181 : @Int) 0), (.ref 23), .none, (.ref 24), (.ref 25), (.ref 26), (.int (208 : @Int) 0), (.int (4 : @Int) 0), (vS "/claim/cut.py" 209)]).toArray) #[])),
  (28, (Obj.mk (.type "function") none (.func fd_init) #[])),
  (29, (Obj.mk (.type "tuple") none (.seq #[] 0) #[])),
  (31, (Obj.mk (.type "tuple") none (.seq ([(vS "self" 214), (vS "ex" 215)]).toArray 0) #[])),
  (32, (Obj.mk (.type "tuple") none (.seq #[] 0) #[])),
  (34, (Obj.mk (.type "code") none (.fields ([(vS "tup" 211), (vS "_Node.tup" 212), (vS "/claim/cut.py" 213), (.int (10 : @Int) 0), (.int (1 : @Int) 0), (.int (0 : @Int) 0), (.int (0 : @Int) 0), (.int (3 : @Int) 0), (.ref 29), (@Value.bool true), (.int (181 : @Int) 0), (.ref 30), .none, (.ref 31), (.ref 32), (.ref 33), (.int (216 : @Int) 0), (.int (10 : @Int) 0), (vS "/claim/cut.py" 217)]).toArray) #[])),
  (35, (Obj.mk (.type "function") none (.func fd_tup) #[])),
  (36, (Obj.mk (.type "tuple") none (.seq #[] 0) #[])),
  (38, (Obj.mk (.type "tuple") none (.seq ([(vS "self" 222)]).toArray 0) #[])),
  (39, (Obj.mk (.type "tuple") none (.seq #[] 0) #[])),
  (41, (Obj.mk (.type "code") none (.fields ([(vS "last" 219), (vS "_Node.last" 220), (vS "/claim/cut.py" 221), (.int (14 : @Int) 0), (.int (1 : @Int) 0), (.int (0 : @Int) 0), (.int (0 : @Int) 0), (.int (3 : @Int) 0), (.ref 36), (@Value.bool true), (.int (181 : @Int) 0), (.ref 37), .none, (.ref 38), (.ref 39), (.ref 40), (.int (223 : @Int) 0), (.int (14 : @Int) 0), (vS "/claim/cut.py" 224)]).toArray) #[])),
  (42, (Obj.mk (.type "function") none (.func fd_last) #[])),
  (43, (Obj.mk (.type "tuple") none (.seq #[] 0) #[])),
  (45, (Obj.mk (.type "tuple") none (.seq ([(vS "self" 229), (vS "i" 230)]).toArray 0) #[])),
  (46, (Obj.mk (.type "tuple") none (.seq #[] 0) #[])),
  (48, (Obj.mk (.type "code") none (.fields ([(vS "term_at" 226), (vS "_Node.term_at" 227), (vS "/claim/cut.py" 228), (.int (17 : @Int) 0), (.int (2 : @Int) 0), (.int (0 : @Int) 0), (.int (0 : @Int) 0), (.int (3 : @Int) 0), (.ref 43), (@Value.bool true), (.int (181 : @Int) 0), (.ref 44), .none, (.ref 45), (.ref 46), (.ref 47), (.int (231 : @Int) 0), (.int (17 : @Int) 0), (vS "/claim/cut.py" 232)]).toArray) #[])),
  (49, (Obj.mk (.type "function") none (.func fd_term_at) #[])),
  (50, (Obj.mk (.type "tuple") none (.seq #[] 0) #[])),
  (53, (Obj.mk (.type "code") none (.fields ([(vS "others" 234), (vS "_Node.others" 235), (vS "/claim/cut.py" 236), (.int (20 : @Int) 0), (.int (1 : @Int) 0), (.int (0 : @Int) 0), (.int (0 : @Int) 0), (.int (3 : @Int) 0), (.ref 50), (@Value.bool true), (.int (181 : @Int) 0), (.ref 51), .none, .none, .none, (.ref 52), (.int (237 : @Int) 0), (.int (20 : @Int) 0), (vS "/claim/cut.py" 238)]).toArray) #[])),
  (54, (Obj.mk (.type "function") none (.func fd_others) #[])),
  (55, (Obj.mk (.type "tuple") none (.seq #[] 0) #[])),
  (57, (Obj.mk (.type "tuple") none (.seq ([(vS "self" 243), (vS "j" 244), (vS "nxt" 245), (vS "prev" 246)]).toArray 0) #[])),
  (58, (Obj.mk (.type "tuple") none (.seq #[] 0) #[])),
  (60, (Obj.mk (.type "code") none (.fields ([(vS "send_append" 240), (vS "_Node.send_append" 241), (vS "/claim/cut.py" 242), (.int (23 : @Int) 0), (.int (2 : @Int) 0), (.int (0 : @Int) 0), (.int (0 : @Int) 0), (.int (3 : @Int) 0), (.ref 55), (@Value.bool true), (.int (181 : @Int) 0), (.ref 56), .none, (.ref 57), (.ref 58), (.ref 59), (.int (247 : @Int) 0), (.int (23 : @Int) 0), (vS "/claim/cut.py" 248)]).toArray) #[])),
  (61, (Obj.mk (.type "function") none (.func fd_send_append) #[])),
  (62, (Obj.mk (.type "tuple") none (.seq #[] 0) #[])),
  (64, (Obj.mk (.type "tuple") none (.seq ([(vS "self" 253), (vS "j" 254)]).toArray 0) #[])),
  (65, (Obj.mk (.type "tuple") none (.seq #[] 0) #[])),
  (67, (Obj.mk (.type "code") none (.fields ([(vS "beat" 250), (vS "_Node.beat" 251), (vS "/claim/cut.py" 252), (.int (28 : @Int) 0), (.int (1 : @Int) 0), (.int (0 : @Int) 0), (.int (0 : @Int) 0), (.int (3 : @Int) 0), (.ref 62), (@Value.bool true), (.int (181 : @Int) 0), (.ref 63), .none, (.ref 64), (.ref 65), (.ref 66), (.int (255 : @Int) 0), (.int (28 : @Int) 0), (vS "/claim/cut.py" 256)]).toArray) #[])),
  (68, (Obj.mk (.type "function") none (.func fd_beat) #[])),
  (69, (Obj.mk (.type "tuple") none (.seq #[] 0) #[])),
  (71, (Obj.mk (.type "tuple") none (.seq ([(vS "self" 261)]).toArray 0) #[])),
  (72, (Obj.mk (.type "tuple") none (.seq #[] 0) #[])),
  (74, (Obj.mk (.type "code") none (.fields ([(vS "maybe_lead" 258), (vS "_Node.maybe_lead" 259), (vS "/claim/cut.py" 260), (.int (33 : @Int) 0), (.int (1 : @Int) 0), (.int (0 : @Int) 0), (.int (0 : @Int) 0), (.int (3 : @Int) 0), (.ref 69), (@Value.bool true), (.int (181 : @Int) 0), (.ref 70), .none, (.ref 71), (.ref 72), (.ref 73), (.int (262 : @Int) 0), (.int (33 : @Int) 0), (vS "/claim/cut.py" 263)]).toArray) #[])),
  (75, (Obj.mk (.type "function") none (.func fd_maybe_lead) #[])),
  (76, (Obj.mk (.type "tuple") none (.seq #[] 0) #[])),
  (79, (Obj.mk (.type "code") none (.fields ([(vS "look" 265), (vS "_Node.look" 266), (vS "/claim/cut.py" 267), (.int (40 : @Int) 0), (.int (1 : @Int) 0), (.int (0 : @Int) 0), (.int (0 : @Int) 0), (.int (3 : @Int) 0), (.ref 76), (@Value.bool true), (.int (181 : @Int) 0), (.ref 77), .none, .none, .none, (.ref 78), (.int (268 : @Int) 0), (.int (40 : @Int) 0), (vS "/claim/cut.py" 269)]).toArray) #[])),
  (80, (Obj.mk (.type "function") none (.func fd_look) #[])),
  (81, (Obj.mk (.type "tuple") none (.seq #[] 0) #[])),
  (83, (Obj.mk (.type "tuple") none (.seq ([(vS "self" 274)]).toArray 0) #[])),
  (84, (Obj.mk (.type "tuple") none (.seq #[] 0) #[])),
  (86, (Obj.mk (.type "code") none (.fields ([(vS "follow" 271), (vS "_Node.follow" 272), (vS "/claim/cut.py" 273), (.int (46 : @Int) 0), (.int (1 : @Int) 0), (.int (0 : @Int) 0), (.int (0 : @Int) 0), (.int (3 : @Int) 0), (.ref 81), (@Value.bool true), (.int (181 : @Int) 0), (.ref 82), .none, (.ref 83), (.ref 84), (.ref 85), (.int (275 : @Int) 0), (.int (46 : @Int) 0), (vS "/claim/cut.py" 276)]).toArray) #[])),
  (87, (Obj.mk (.type "function") none (.func fd_follow) #[])),
  (88, (Obj.mk (.type "tuple") none (.seq #[] 0) #[])),
  (90, (Obj.mk (.type "tuple") none (.seq ([(vS "self" 281), (vS "ev" 282), (vS "j" 283)]).toArray 0) #[])),
  (91, (Obj.mk (.type "tuple") none (.seq #[] 0) #[])),
  (93, (Obj.mk (.type "code") none (.fields ([(vS "handle" 278), (vS "_Node.handle" 279), (vS "/claim/cut.py" 280), (.int (50 : @Int) 0), (.int (2 : @Int) 0), (.int (0 : @Int) 0), (.int (0 : @Int) 0), (.int (3 : @Int) 0), (.ref 88), (@Value.bool true), (.int (181 : @Int) 0), (.ref 89), .none, (.ref 90), (.ref 91), (.ref 92), (.int (284 : @Int) 0), (.int (50 : @Int) 0), (vS "/claim/cut.py" 285)]).toArray) #[])),
  (94, (Obj.mk (.type "function") none (.func fd_handle) #[])),
  (95, (Obj.mk (.type "tuple") none (.seq #[] 0) #[])),
  (97, (Obj.mk (.type "tuple") none (.seq ([(vS "self" 290), (vS "message" 291), (vS "kind" 292), (vS "term" 293), (vS "frm" 294), (vS "rest" 295), (vS "ok" 296), (vS "pt" 297), (vS "pi" 298), (vS "entries" 299), (vS "commit" 300), (vS "k" 301), (vS "e" 302), (vS "i" 303), (vS "end" 304), (vS "nxt" 305), (vS "match" 306)]).toArray 0) #[])),
  (98, (Obj.mk (.type "tuple") none (.seq #[] 0) #[])),
  (100, (Obj.mk (.type "code") none (.fields ([(vS "receive" 287), (vS "_Node.receive" 288), (vS "/claim/cut.py" 289), (.int (69 : @Int) 0), (.int (2 : @Int) 0), (.int (0 : @Int) 0), (.int (0 : @Int) 0), (.int (3 : @Int) 0), (.ref 95), (@Value.bool true), (.int (181 : @Int) 0), (.ref 96), .none, (.ref 97), (.ref 98), (.ref 99), (.int (307 : @Int) 0), (.int (69 : @Int) 0), (vS "/claim/cut.py" 308)]).toArray) #[])),
  (101, (Obj.mk (.type "function") none (.func fd_receive) #[])),
  (102, (Obj.mk (.type "tuple") none (.seq ([(vS "commit" 310), (vS "extra" 311), (vS "log" 312), (vS "me" 313), (vS "out" 314), (vS "role" 315), (vS "size" 316), (vS "term" 317), (vS "voted" 318)]).toArray 0) #[])),
  (103, (Obj.mk (.type "dict") none (.dict ([(dE P "__module__" 196 (vS "raftkit.core" 187)), (dE P "__firstlineno__" 200 (.int (2 : @Int) 199)), (dE P "__init__" 210 (.ref 28)), (dE P "tup" 218 (.ref 35)), (dE P "last" 225 (.ref 42)), (dE P "term_at" 233 (.ref 49)), (dE P "others" 239 (.ref 54)), (dE P "send_append" 249 (.ref 61)), (dE P "beat" 257 (.ref 68)), (dE P "maybe_lead" 264 (.ref 75)), (dE P "look" 270 (.ref 80)), (dE P "follow" 277 (.ref 87)), (dE P "handle" 286 (.ref 94)), (dE P "receive" 309 (.ref 101)), (dE P "__static_attributes__" 319 (.ref 102)), (dE P "__dict__" 321 (.ref 105)), (dE P "__weakref__" 323 (.ref 106)), (dE P "__doc__" 324 .none)]).toArray 4) #[])),
  (104, (Obj.mk (.type "type") none (.cls (ClassData.mk "_Node" [(.type "object")] [(.ref 104), (.type "object")] 103 "_Node" true [] [] false none false)) ([none, none, (some (vS "_Node" 189)), (some (vS "_Node" 197)), (some (.builtin "object.__new__")), (some (@Value.bool true))]).toArray)),
  (105, (Obj.mk (.type "getset_descriptor") none (.fields ([(vS "__dict__" 320), (.ref 104), (.builtin "function.__dict__"), (.builtin "function.__dict__#set")]).toArray) #[])),
  (106, (Obj.mk (.type "getset_descriptor") none (.fields ([(vS "__weakref__" 322), (.ref 104), (.builtin "ExceptionGroup.__weakref__"), .none]).toArray) #[])),
  (109, (Obj.mk (.type "tuple") none (.seq #[] 0) #[])),
  (111, (Obj.mk (.type "tuple") none (.seq ([(vS "me" 330), (vS "size" 331)]).toArray 0) #[])),
  (112, (Obj.mk (.type "tuple") none (.seq #[] 0) #[])),
  (114, (Obj.mk (.type "code") none (.fields ([(vS "fresh" 327), (vS "fresh" 328), (vS "/claim/cut.py" 329), (.int (112 : @Int) 0), (.int (2 : @Int) 0), (.int (0 : @Int) 0), (.int (0 : @Int) 0), (.int (3 : @Int) 0), (.ref 109), (@Value.bool true), (.int (181 : @Int) 0), (.ref 110), .none, (.ref 111), (.ref 112), (.ref 113), (.int (332 : @Int) 0), (.int (112 : @Int) 0), (vS "/claim/cut.py" 333)]).toArray) #[])),
  (115, (Obj.mk (.type "function") none (.func fd_fresh) #[])),
  (116, (Obj.mk (.type "tuple") none (.seq #[] 0) #[])),
  (118, (Obj.mk (.type "tuple") none (.seq ([(vS "node" 338), (vS "event" 339), (vS "n" 340)]).toArray 0) #[])),
  (119, (Obj.mk (.type "tuple") none (.seq #[] 0) #[])),
  (121, (Obj.mk (.type "code") none (.fields ([(vS "step" 335), (vS "step" 336), (vS "/claim/cut.py" 337), (.int (114 : @Int) 0), (.int (2 : @Int) 0), (.int (0 : @Int) 0), (.int (0 : @Int) 0), (.int (3 : @Int) 0), (.ref 116), (@Value.bool true), (.int (181 : @Int) 0), (.ref 117), .none, (.ref 118), (.ref 119), (.ref 120), (.int (341 : @Int) 0), (.int (114 : @Int) 0), (vS "/claim/cut.py" 342)]).toArray) #[])),
  (122, (Obj.mk (.type "function") none (.func fd_step) #[])),
  (123, (Obj.mk (.type "tuple") none (.seq #[] 0) #[])),
  (126, (Obj.mk (.type "code") none (.fields ([(vS "play" 344), (vS "play" 345), (vS "/claim/cut.py" 346), (.int (118 : @Int) 0), (.int (2 : @Int) 0), (.int (0 : @Int) 0), (.int (0 : @Int) 0), (.int (3 : @Int) 0), (.ref 123), (@Value.bool true), (.int (181 : @Int) 0), (.ref 124), .none, .none, .none, (.ref 125), (.int (347 : @Int) 0), (.int (118 : @Int) 0), (vS "/claim/cut.py" 348)]).toArray) #[])),
  (127, (Obj.mk (.type "function") none (.func fd_play) #[])),
  (128, (Obj.mk (.type "tuple") none (.seq ([(.int (3 : @Int) 352), (.int (4 : @Int) 353), (.int (3 : @Int) 354), (.int (2 : @Int) 355), (.int (3 : @Int) 356), (.int (1 : @Int) 357), (.int (5 : @Int) 358)]).toArray 0) #[])),
  (129, (Obj.mk (.type "tuple") none (.seq ([(vS "deliver" 361), (.int (@Neg.neg @Int @Int.instNegInt (1 : @Int)) 363)]).toArray 0) #[])),
  (130, (Obj.mk (.type "tuple") none (.seq ([(vS "deliver" 364), (.int (@Neg.neg @Int @Int.instNegInt (1 : @Int)) 366)]).toArray 0) #[])),
  (131, (Obj.mk (.type "tuple") none (.seq ([(vS "deliver" 367), (.int (@Neg.neg @Int @Int.instNegInt (1 : @Int)) 369)]).toArray 0) #[])),
  (132, (Obj.mk (.type "tuple") none (.seq ([(vS "deliver" 370), (.int (@Neg.neg @Int @Int.instNegInt (1 : @Int)) 372)]).toArray 0) #[])),
  (133, (Obj.mk (.type "tuple") none (.seq ([(.ref 129), (.ref 130), (.ref 131), (.ref 132)]).toArray 0) #[])),
  (134, (Obj.mk (.type "tuple") none (.seq ([(vS "timeout" 360), (.ref 133)]).toArray 0) #[])),
  (135, (Obj.mk (.type "tuple") none (.seq ([(vS "deliver" 374), (.int (@Neg.neg @Int @Int.instNegInt (1 : @Int)) 376)]).toArray 0) #[])),
  (136, (Obj.mk (.type "tuple") none (.seq ([(vS "deliver" 377), (.int (@Neg.neg @Int @Int.instNegInt (1 : @Int)) 379)]).toArray 0) #[])),
  (137, (Obj.mk (.type "tuple") none (.seq ([(.ref 135), (.ref 136)]).toArray 0) #[])),
  (138, (Obj.mk (.type "tuple") none (.seq ([(vS "propose" 373), (.ref 137)]).toArray 0) #[])),
  (139, (Obj.mk (.type "tuple") none (.seq ([(vS "deliver" 381), (.int (@Neg.neg @Int @Int.instNegInt (2 : @Int)) 383)]).toArray 0) #[])),
  (140, (Obj.mk (.type "tuple") none (.seq ([(vS "deliver" 384), (.int (@Neg.neg @Int @Int.instNegInt (1 : @Int)) 386)]).toArray 0) #[])),
  (141, (Obj.mk (.type "tuple") none (.seq ([(vS "deliver" 387), (.int (@Neg.neg @Int @Int.instNegInt (2 : @Int)) 389)]).toArray 0) #[])),
  (142, (Obj.mk (.type "tuple") none (.seq ([(vS "deliver" 390), (.int (@Neg.neg @Int @Int.instNegInt (1 : @Int)) 392)]).toArray 0) #[])),
  (143, (Obj.mk (.type "tuple") none (.seq ([(.ref 139), (.ref 140), (.ref 141), (.ref 142)]).toArray 0) #[])),
  (144, (Obj.mk (.type "tuple") none (.seq ([(vS "timeout" 380), (.ref 143)]).toArray 0) #[])),
  (145, (Obj.mk (.type "tuple") none (.seq #[] 0) #[])),
  (146, (Obj.mk (.type "tuple") none (.seq ([(vS "put" 393), (.ref 145)]).toArray 0) #[])),
  (147, (Obj.mk (.type "tuple") none (.seq #[] 0) #[])),
  (148, (Obj.mk (.type "tuple") none (.seq ([(vS "deliver" 394), (.ref 147)]).toArray 0) #[])),
  (149, (Obj.mk (.type "tuple") none (.seq ([(vS "deliver" 396), (.int (@Neg.neg @Int @Int.instNegInt (2 : @Int)) 398)]).toArray 0) #[])),
  (150, (Obj.mk (.type "tuple") none (.seq ([(vS "deliver" 399), (.int (@Neg.neg @Int @Int.instNegInt (1 : @Int)) 401)]).toArray 0) #[])),
  (151, (Obj.mk (.type "tuple") none (.seq ([(.ref 149), (.ref 150)]).toArray 0) #[])),
  (152, (Obj.mk (.type "tuple") none (.seq ([(vS "propose" 395), (.ref 151)]).toArray 0) #[])),
  (153, (Obj.mk (.type "tuple") none (.seq ([(vS "deliver" 403), (.int (@Neg.neg @Int @Int.instNegInt (2 : @Int)) 405)]).toArray 0) #[])),
  (154, (Obj.mk (.type "tuple") none (.seq ([(vS "double" 406), (.int (@Neg.neg @Int @Int.instNegInt (1 : @Int)) 408)]).toArray 0) #[])),
  (155, (Obj.mk (.type "tuple") none (.seq ([(vS "deliver" 409), (.int (@Neg.neg @Int @Int.instNegInt (1 : @Int)) 411)]).toArray 0) #[])),
  (156, (Obj.mk (.type "tuple") none (.seq ([(vS "deliver" 412), (.int (@Neg.neg @Int @Int.instNegInt (2 : @Int)) 414)]).toArray 0) #[])),
  (157, (Obj.mk (.type "tuple") none (.seq ([(vS "deliver" 415), (.int (@Neg.neg @Int @Int.instNegInt (1 : @Int)) 417)]).toArray 0) #[])),
  (158, (Obj.mk (.type "tuple") none (.seq ([(.ref 153), (.ref 154), (.ref 155), (.ref 156), (.ref 157)]).toArray 0) #[])),
  (159, (Obj.mk (.type "tuple") none (.seq ([(vS "beat" 402), (.ref 158)]).toArray 0) #[])),
  (160, (Obj.mk (.type "tuple") none (.seq #[] 0) #[])),
  (161, (Obj.mk (.type "tuple") none (.seq ([(vS "crash" 418), (.ref 160)]).toArray 0) #[])),
  (162, (Obj.mk (.type "tuple") none (.seq ([(vS "deliver" 420), (.int (@Neg.neg @Int @Int.instNegInt (1 : @Int)) 422)]).toArray 0) #[])),
  (163, (Obj.mk (.type "tuple") none (.seq ([(vS "deliver" 423), (.int (@Neg.neg @Int @Int.instNegInt (1 : @Int)) 425)]).toArray 0) #[])),
  (164, (Obj.mk (.type "tuple") none (.seq ([(.ref 162), (.ref 163)]).toArray 0) #[])),
  (165, (Obj.mk (.type "tuple") none (.seq ([(vS "double" 419), (.ref 164)]).toArray 0) #[])),
  (166, (Obj.mk (.type "tuple") none (.seq ([(vS "deliver" 427), (.int (@Neg.neg @Int @Int.instNegInt (1 : @Int)) 429)]).toArray 0) #[])),
  (167, (Obj.mk (.type "tuple") none (.seq ([(.ref 166)]).toArray 0) #[])),
  (168, (Obj.mk (.type "tuple") none (.seq ([(vS "timeout" 426), (.ref 167)]).toArray 0) #[])),
  (169, (Obj.mk (.type "tuple") none (.seq #[] 0) #[])),
  (170, (Obj.mk (.type "tuple") none (.seq ([(vS "drop" 430), (.ref 169)]).toArray 0) #[])),
  (171, (Obj.mk (.type "tuple") none (.seq ([(.ref 134), (.ref 138), (.ref 144), (.ref 146), (.ref 148), (.ref 152), (.ref 159), (.ref 161), (.ref 165), (.ref 168), (.ref 170)]).toArray 0) #[])),
  (172, (Obj.mk (.type "tuple") none (.seq #[] 0) #[])),
  (174, (Obj.mk (.type "tuple") none (.seq ([(vS "size" 435), (vS "head" 436), (vS "kind" 437), (vS "w" 438), (vS "verb" 439), (vS "chain" 440), (vS "acts" 441)]).toArray 0) #[])),
  (175, (Obj.mk (.type "tuple") none (.seq #[] 0) #[])),
  (177, (Obj.mk (.type "code") none (.fields ([(vS "_law_moves" 432), (vS "_law_moves" 433), (vS "/claim/cut.py" 434), (.int (143 : @Int) 0), (.int (4 : @Int) 0), (.int (0 : @Int) 0), (.int (0 : @Int) 0), (.int (3 : @Int) 0), (.ref 172), (@Value.bool true), (.int (181 : @Int) 0), (.ref 173), .none, (.ref 174), (.ref 175), (.ref 176), (.int (442 : @Int) 0), (.int (143 : @Int) 0), (vS "/claim/cut.py" 443)]).toArray) #[])),
  (178, (Obj.mk (.type "function") none (.func fd_law_moves) #[])),
  (179, (Obj.mk (.type "tuple") none (.seq #[] 0) #[])),
  (181, (Obj.mk (.type "tuple") none (.seq ([(vS "log" 448), (vS "at" 449)]).toArray 0) #[])),
  (182, (Obj.mk (.type "tuple") none (.seq #[] 0) #[])),
  (184, (Obj.mk (.type "code") none (.fields ([(vS "_law_entry" 445), (vS "_law_entry" 446), (vS "/claim/cut.py" 447), (.int (159 : @Int) 0), (.int (2 : @Int) 0), (.int (0 : @Int) 0), (.int (0 : @Int) 0), (.int (3 : @Int) 0), (.ref 179), (@Value.bool true), (.int (181 : @Int) 0), (.ref 180), .none, (.ref 181), (.ref 182), (.ref 183), (.int (450 : @Int) 0), (.int (159 : @Int) 0), (vS "/claim/cut.py" 451)]).toArray) #[])),
  (185, (Obj.mk (.type "function") none (.func fd_law_entry) #[])),
  (186, (Obj.mk (.type "tuple") none (.seq #[] 0) #[])),
  (188, (Obj.mk (.type "tuple") none (.seq ([(vS "me" 456), (vS "term" 457), (vS "log" 458), (vS "commit" 459), (vS "extra" 460), (vS "to" 461), (vS "out" 462), (vS "j" 463), (vS "ahead" 464)]).toArray 0) #[])),
  (189, (Obj.mk (.type "tuple") none (.seq #[] 0) #[])),
  (191, (Obj.mk (.type "code") none (.fields ([(vS "_law_appends" 453), (vS "_law_appends" 454), (vS "/claim/cut.py" 455), (.int (163 : @Int) 0), (.int (6 : @Int) 0), (.int (0 : @Int) 0), (.int (0 : @Int) 0), (.int (3 : @Int) 0), (.ref 186), (@Value.bool true), (.int (181 : @Int) 0), (.ref 187), .none, (.ref 188), (.ref 189), (.ref 190), (.int (465 : @Int) 0), (.int (163 : @Int) 0), (vS "/claim/cut.py" 466)]).toArray) #[])),
  (192, (Obj.mk (.type "function") none (.func fd_law_appends) #[])),
  (193, (Obj.mk (.type "tuple") none (.seq #[] 0) #[])),
  (196, (Obj.mk (.type "code") none (.fields ([(vS "_law_reached" 468), (vS "_law_reached" 469), (vS "/claim/cut.py" 470), (.int (169 : @Int) 0), (.int (4 : @Int) 0), (.int (0 : @Int) 0), (.int (0 : @Int) 0), (.int (3 : @Int) 0), (.ref 193), (@Value.bool true), (.int (181 : @Int) 0), (.ref 194), .none, .none, .none, (.ref 195), (.int (471 : @Int) 0), (.int (169 : @Int) 0), (vS "/claim/cut.py" 472)]).toArray) #[])),
  (197, (Obj.mk (.type "function") none (.func fd_law_reached) #[])),
  (198, (Obj.mk (.type "tuple") none (.seq #[] 0) #[])),
  (201, (Obj.mk (.type "code") none (.fields ([(vS "_law_won" 474), (vS "_law_won" 475), (vS "/claim/cut.py" 476), (.int (172 : @Int) 0), (.int (6 : @Int) 0), (.int (0 : @Int) 0), (.int (0 : @Int) 0), (.int (3 : @Int) 0), (.ref 198), (@Value.bool true), (.int (181 : @Int) 0), (.ref 199), .none, .none, .none, (.ref 200), (.int (477 : @Int) 0), (.int (172 : @Int) 0), (vS "/claim/cut.py" 478)]).toArray) #[])),
  (202, (Obj.mk (.type "function") none (.func fd_law_won) #[])),
  (203, (Obj.mk (.type "tuple") none (.seq #[] 0) #[])),
  (205, (Obj.mk (.type "tuple") none (.seq ([(vS "log" 483), (vS "commit" 484), (vS "before" 485), (vS "entries" 486), (vS "told" 487), (vS "at" 488), (vS "same" 489), (vS "mine" 490), (vS "came" 491), (vS "end" 492)]).toArray 0) #[])),
  (206, (Obj.mk (.type "tuple") none (.seq #[] 0) #[])),
  (208, (Obj.mk (.type "code") none (.fields ([(vS "_law_take" 480), (vS "_law_take" 481), (vS "/claim/cut.py" 482), (.int (179 : @Int) 0), (.int (5 : @Int) 0), (.int (0 : @Int) 0), (.int (0 : @Int) 0), (.int (3 : @Int) 0), (.ref 203), (@Value.bool true), (.int (181 : @Int) 0), (.ref 204), .none, (.ref 205), (.ref 206), (.ref 207), (.int (493 : @Int) 0), (.int (179 : @Int) 0), (vS "/claim/cut.py" 494)]).toArray) #[])),
  (209, (Obj.mk (.type "function") none (.func fd_law_take) #[])),
  (210, (Obj.mk (.type "tuple") none (.seq #[] 0) #[])),
  (213, (Obj.mk (.type "code") none (.fields ([(vS "_law_tell" 496), (vS "_law_tell" 497), (vS "/claim/cut.py" 498), (.int (192 : @Int) 0), (.int (2 : @Int) 0), (.int (0 : @Int) 0), (.int (0 : @Int) 0), (.int (3 : @Int) 0), (.ref 210), (@Value.bool true), (.int (181 : @Int) 0), (.ref 211), .none, .none, .none, (.ref 212), (.int (499 : @Int) 0), (.int (192 : @Int) 0), (vS "/claim/cut.py" 500)]).toArray) #[])),
  (214, (Obj.mk (.type "function") none (.func fd_law_tell) #[])),
  (215, (Obj.mk (.type "tuple") none (.seq #[] 0) #[])),
  (218, (Obj.mk (.type "code") none (.fields ([(vS "_law_hear" 502), (vS "_law_hear" 503), (vS "/claim/cut.py" 504), (.int (212 : @Int) 0), (.int (2 : @Int) 0), (.int (0 : @Int) 0), (.int (0 : @Int) 0), (.int (3 : @Int) 0), (.ref 215), (@Value.bool true), (.int (181 : @Int) 0), (.ref 216), .none, .none, .none, (.ref 217), (.int (505 : @Int) 0), (.int (212 : @Int) 0), (vS "/claim/cut.py" 506)]).toArray) #[])),
  (219, (Obj.mk (.type "function") none (.func fd_law_hear) #[])),
  (220, (Obj.mk (.type "tuple") none (.seq #[] 0) #[])),
  (223, (Obj.mk (.type "code") none (.fields ([(vS "_law_reckon" 508), (vS "_law_reckon" 509), (vS "/claim/cut.py" 510), (.int (245 : @Int) 0), (.int (2 : @Int) 0), (.int (0 : @Int) 0), (.int (0 : @Int) 0), (.int (3 : @Int) 0), (.ref 220), (@Value.bool true), (.int (181 : @Int) 0), (.ref 221), .none, .none, .none, (.ref 222), (.int (511 : @Int) 0), (.int (245 : @Int) 0), (vS "/claim/cut.py" 512)]).toArray) #[])),
  (224, (Obj.mk (.type "function") none (.func fd_law_reckon) #[])),
  (225, (Obj.mk (.type "tuple") none (.seq #[] 0) #[])),
  (227, (Obj.mk (.type "tuple") none (.seq ([(vS "script" 517), (vS "size" 518), (vS "head" 519), (vS "acts" 520), (vS "kind" 521), (vS "w" 522), (vS "part" 523), (vS "twin" 524), (vS "got" 525), (vS "node" 526), (vS "mail" 527)]).toArray 0) #[])),
  (228, (Obj.mk (.type "tuple") none (.seq #[] 0) #[])),
  (230, (Obj.mk (.type "code") none (.fields ([(vS "law" 514), (vS "law" 515), (vS "/claim/cut.py" 516), (.int (268 : @Int) 0), (.int (1 : @Int) 0), (.int (0 : @Int) 0), (.int (0 : @Int) 0), (.int (3 : @Int) 0), (.ref 225), (@Value.bool true), (.int (181 : @Int) 0), (.ref 226), .none, (.ref 227), (.ref 228), (.ref 229), (.int (528 : @Int) 0), (.int (268 : @Int) 0), (vS "/claim/cut.py" 529)]).toArray) #[])),
  (231, (Obj.mk (.type "function") none (.func fd_law) #[]))]
noncomputable def kas : List Addr := [2, 3, 22, 24, 25, 27, 28, 29, 31, 32, 34, 35, 36, 38, 39, 41, 42, 43, 45, 46, 48, 49, 50, 53, 54, 55, 57, 58, 60, 61, 62, 64, 65, 67, 68, 69, 71, 72, 74, 75, 76, 79, 80, 81, 83, 84, 86, 87, 88, 90, 91, 93, 94, 95, 97, 98, 100, 101, 102, 103, 104, 105, 106, 109, 111, 112, 114, 115, 116, 118, 119, 121, 122, 123, 126, 127, 128, 129, 130, 131, 132, 133, 134, 135, 136, 137, 138, 139, 140, 141, 142, 143, 144, 145, 146, 147, 148, 149, 150, 151, 152, 153, 154, 155, 156, 157, 158, 159, 160, 161, 162, 163, 164, 165, 166, 167, 168, 169, 170, 171, 172, 174, 175, 177, 178, 179, 181, 182, 184, 185, 186, 188, 189, 191, 192, 193, 196, 197, 198, 201, 202, 203, 205, 206, 208, 209, 210, 213, 214, 215, 218, 219, 220, 223, 224, 225, 227, 228, 230, 231]
end Mine
end
section
set_option maxRecDepth 100000
set_option genInjectivity false
set_option genSizeOf false
set_option genSizeOfSpec false
set_option backward.match.sparseCases false
namespace Mine
open PySem PySem.Calls PySem.Spec PyProof.Rows PySem.W
structure GC where
  prog : Program
  w : World
  K : Frag
  C : Addr
  T : Nat → Str
  H₀ : Heap
  mg : Str → Option Value
  mb : Str → Option Value
  attrs : List Nat
noncomputable def Ask (w : World) (H : Heap) (mg mb : Str → Option Value) : Prop :=
  ∀ (p : Program) (loose : List Str) (R : WRecords) (XP : (Str → Option Value) → Heap → Prop) (s₀ s₁ : Shared), s₁.heap = H → Ground p loose R XP w s₀ mg mb s₁.heap → (KK w.params).In s₁.heap → ∀ fa : Addr, mg "law" = some (.ref fa) → s₁.gens = #[] →
    ∀ (args : List WData) (vals : List Value) (as : List Addr), Challenge.rw_sx_r021_2.row.claim.pre args = true → WData.layableAll args = true → ReadsAllW Challenge.rw_sx_r021_2.row.records (classAt s₀.heap) s₁.heap vals args as → WellAll w.params s₁.heap vals args → (∀ a, a ∈ as → (a == sysModules) = false) →
      wpAny (model Challenge.rw_sx_r021_2.row.prog w) callerA ((fun f vs => call f vs) (Value.ref fa) vals) (fun v s' => GoodWG Challenge.rw_sx_r021_2.row.claim (classAt s₀.heap) (ExcName.means s₀.heap) args s₁ (Except.ok (Flow.ret v)) s') (fun e s' => GoodWG Challenge.rw_sx_r021_2.row.claim (classAt s₀.heap) (ExcName.means s₀.heap) args s₁ (Except.error e) s') s₁
structure Qd where
  w : World
  H : Heap
  mg : Str → Option Value
  mb : Str → Option Value
theorem qd_some : Nonempty Qd := ⟨⟨aWorld 1, default, fun _ => none, fun _ => none⟩⟩
noncomputable def q0 : Qd := @Classical.epsilon Qd qd_some fun q => ¬ Ask q.w q.H q.mg q.mb
theorem ask_all (h : Ask q0.w q0.H q0.mg q0.mb) (w : World) (H : Heap) (mg mb : Str → Option Value) : Ask w H mg mb :=
  Classical.byContradiction fun hn => Classical.epsilon_spec (p := fun q : Qd => ¬ Ask q.w q.H q.mg q.mb) ⟨⟨w, H, mg, mb⟩, hn⟩ h
noncomputable def ats : List Nat := [3, 4, 5, 6, 7, 8, 9, 10, 11]
noncomputable def cls0 : Addr := 104
noncomputable def G : GC := { prog := Challenge.pw_sx_r021_2, w := q0.w, K := KK q0.w.params, C := cls0, T := T, H₀ := q0.H, mg := q0.mg, mb := q0.mb, attrs := ats }
theorem nms_ok : nms.Nodup ∧ (nms.all fun x => decide (x.cps.size ≤ 50)) = true ∧ 51 < nms.length := by decide +kernel
theorem T_inj (i j : Nat) (h : T i = T j) : i = j := by
  obtain ⟨nd, sm, ln⟩ := nms_ok
  have key : ∀ i, (∃ x, nms[i]? = some x ∧ T i = x) ∨ (nms[i]? = none ∧ T i = ⟨Array.replicate (i + 1) 0⟩) := fun i => by
    unfold T
    cases e : nms[i]? with
    | some x => exact .inl ⟨x, rfl, rfl⟩
    | none => exact .inr ⟨rfl, rfl⟩
  have sz : ∀ (i : Nat) (x : Str), nms[i]? = some x → x.cps.size ≤ 50 := fun i x e => of_decide_eq_true (List.all_eq_true.mp sm x (List.mem_of_getElem? e))
  have far : ∀ (i j : Nat) (x : Str), nms[i]? = some x → nms[j]? = none → x = ⟨Array.replicate (j + 1) 0⟩ → False := fun i j x e1 e2 e3 => by
    have := sz i x e1
    rw [e3, Array.size_replicate] at this
    have := List.getElem?_eq_none_iff.mp e2
    omega
  rcases key i with ⟨x, e1, t1⟩ | ⟨e1, t1⟩ <;> rcases key j with ⟨y, e2, t2⟩ | ⟨e2, t2⟩ <;> rw [t1, t2] at h
  · subst h
    exact (List.getElem?_inj (List.getElem?_eq_some_iff.mp e1).1 nd).mp (e1.trans e2.symm)
  · exact (far i j x e1 e2 h).elim
  · exact (far j i y e2 e1 h.symm).elim
  · have := congrArg (fun s : Str => s.cps.size) h
    have : (Array.replicate (i + 1) 0 : Array Nat).size = (Array.replicate (j + 1) 0 : Array Nat).size := this
    rw [Array.size_replicate, Array.size_replicate] at this; omega
end Mine
end
section
set_option genInjectivity false
set_option backward.match.sparseCases false
namespace Mine
open PySem PySem.Calls PySem.Spec PyProof.Rows
section
abbrev lsO (vs : List Value) (n : Nat) : Obj := { cls := .type "list", data := .seq vs.toArray n }
abbrev tpO (vs : List Value) (n : Nat) : Obj := { cls := .type "tuple", data := .seq vs.toArray n }
mutual
inductive DI (h : Heap) (Z : Addr → Prop) : Value → D → Prop
  | none : DI h Z .none .none
  | bool (b : Bool) : DI h Z (.bool b) (.bool b)
  | int (i : Int) (t : Tok) : DI h Z (.int i t) (.int i)
  | str (x : Str) (t : Tok) : PyData.strOk x = true → DI h Z (.str x t) (.str x)
  | list {a : Addr} {vs : List Value} {n : Nat} {ds : List D} : h.get? a = some (lsO vs n) → ¬ Z a → vs.length ≤ big → DIs h Z vs ds → DI h Z (.ref a) (.list ds)
  | tuple {a : Addr} {vs : List Value} {n : Nat} {ds : List D} : h.get? a = some (tpO vs n) → ¬ Z a → vs.length ≤ big → DIs h Z vs ds → DI h Z (.ref a) (.tuple ds)
inductive DIs (h : Heap) (Z : Addr → Prop) : List Value → List D → Prop
  | nil : DIs h Z [] []
  | cons {v : Value} {vs : List Value} {d : D} {ds : List D} : DI h Z v d → DIs h Z vs ds → DIs h Z (v :: vs) (d :: ds)
end
noncomputable def Mv (h : Heap) (Z : Addr → Prop) (h' : Heap) (Z' : Addr → Prop) : Prop := ∀ b o, ¬ Z b → h.get? b = some o → h'.get? b = some o ∧ ¬ Z' b
section
variable {h h' : Heap} {Z Z' : Addr → Prop} {v : Value} {d : D} {vs ws : List Value} {ds es : List D}
mutual
theorem DI.mv (k : Mv h Z h' Z') : ∀ {v : Value} {d : D}, DI h Z v d → DI h' Z' v d
  | _, _, .none => .none
  | _, _, .bool b => .bool b
  | _, _, .int i t => .int i t
  | _, _, .str x t e => .str x t e
  | _, _, .list g z l r => .list (k _ _ z g).1 (k _ _ z g).2 l (DIs.mv k r)
  | _, _, .tuple g z l r => .tuple (k _ _ z g).1 (k _ _ z g).2 l (DIs.mv k r)
theorem DIs.mv (k : Mv h Z h' Z') : ∀ {vs : List Value} {ds : List D}, DIs h Z vs ds → DIs h' Z' vs ds
  | _, _, .nil => .nil
  | _, _, .cons a r => .cons (DI.mv k a) (DIs.mv k r)
end
theorem DIs.rec1 {P : List Value → List D → Prop} (h0 : P [] []) (h1 : ∀ v d vs ds, DI h Z v d → DIs h Z vs ds → P vs ds → P (v :: vs) (d :: ds)) : ∀ vs ds, DIs h Z vs ds → P vs ds
  | _, _, .nil => h0
  | _, _, .cons a r => h1 _ _ _ _ a r (DIs.rec1 h0 h1 _ _ r)
theorem DIs.length (x : DIs h Z vs ds) : vs.length = ds.length :=
  DIs.rec1 (P := fun vs ds => vs.length = ds.length) rfl (fun _ _ _ _ _ _ e => congrArg (· + 1) e) _ _ x
theorem DIs.append (x : DIs h Z vs ds) (y : DIs h Z ws es) : DIs h Z (vs ++ ws) (ds ++ es) :=
  DIs.rec1 (P := fun vs ds => DIs h Z (vs ++ ws) (ds ++ es)) y (fun _ _ _ _ a _ e => .cons a e) _ _ x
theorem DIs.one (a : DI h Z v d) : DIs h Z [v] [d] := .cons a .nil
theorem DIs.get (x : DIs h Z vs ds) : ∀ {k : Nat} {d : D}, ds[k]? = some d → ∃ v, vs[k]? = some v ∧ DI h Z v d :=
  DIs.rec1 (P := fun vs ds => ∀ {k : Nat} {d : D}, ds[k]? = some d → ∃ v, vs[k]? = some v ∧ DI h Z v d) (fun e => nomatch e) (fun v d vs ds a _ ih k d' e => match k, e with
    | 0, e => ⟨v, rfl, (Option.some.inj e) ▸ a⟩
    | k + 1, e => ih (k := k) e) _ _ x
theorem DIs.drop (x : DIs h Z vs ds) : ∀ k, DIs h Z (vs.drop k) (ds.drop k) :=
  DIs.rec1 (P := fun vs ds => ∀ k, DIs h Z (vs.drop k) (ds.drop k)) (fun k => match k with | 0 => .nil | _ + 1 => .nil) (fun _ _ _ _ a r ih k => match k with | 0 => .cons a r | k + 1 => ih k) _ _ x
theorem DIs.take (x : DIs h Z vs ds) : ∀ k, DIs h Z (vs.take k) (ds.take k) :=
  DIs.rec1 (P := fun vs ds => ∀ k, DIs h Z (vs.take k) (ds.take k)) (fun k => match k with | 0 => .nil | _ + 1 => .nil) (fun _ _ _ _ a r ih k => match k with | 0 => .nil | k + 1 => .cons a (ih k)) _ _ x
theorem DIs.set (x : DIs h Z vs ds) (p : DI h Z v d) : ∀ k, DIs h Z (vs.set k v) (ds.set k d) :=
  DIs.rec1 (P := fun vs ds => ∀ k, DIs h Z (vs.set k v) (ds.set k d)) (fun _ => .nil) (fun _ _ _ _ a r ih k => match k with | 0 => .cons p r | k + 1 => .cons a (ih k)) _ _ x
theorem DIs.eraseIdx (x : DIs h Z vs ds) : ∀ k, DIs h Z (vs.eraseIdx k) (ds.eraseIdx k) :=
  DIs.rec1 (P := fun vs ds => ∀ k, DIs h Z (vs.eraseIdx k) (ds.eraseIdx k)) (fun _ => .nil) (fun _ _ _ _ a r ih k => match k with | 0 => r | k + 1 => .cons a (ih k)) _ _ x
theorem DIs.repl (a : DIs h Z vs ds) : ∀ k, DIs h Z (List.replicate k vs).flatten (List.replicate k ds).flatten := by
  intro k
  induction k with
  | zero => exact .nil
  | succ k ih => exact a.append ih
theorem DIs.cut (x : DIs h Z vs ds) (lo hi : Option Nat) : DIs h Z (cutN lo hi vs) (cutN lo hi ds) := by
  unfold cutN; cases hi
  · exact x.drop _
  · exact (x.take _).drop _
theorem DIs.empty (x : DIs h Z vs ds) : vs.toArray.isEmpty = ds.isEmpty := by cases x <;> rfl
mutual
theorem DI.reads : ∀ {v : Value} {d : D}, DI h Z v d → (∃ as, Reads h v d as) ∧ d.canLay0 = true
  | _, _, .none => ⟨⟨_, .none⟩, rfl⟩
  | _, _, .bool b => ⟨⟨_, .bool b⟩, rfl⟩
  | _, _, .int i t => ⟨⟨_, .int i t⟩, rfl⟩
  | _, _, .str x t e => ⟨⟨_, .str x t⟩, e⟩
  | _, _, .list g _ _ r => by obtain ⟨⟨_, q⟩, e⟩ := r.reads; exact ⟨⟨_, .list g rfl rfl q⟩, e⟩
  | _, _, .tuple g _ _ r => by obtain ⟨⟨_, q⟩, e⟩ := r.reads; exact ⟨⟨_, .tuple g rfl rfl q⟩, e⟩
theorem DIs.reads : ∀ {vs : List Value} {ds : List D}, DIs h Z vs ds → (∃ as, ReadsAll h vs ds as) ∧ PyData.canLayAll0 ds = true
  | _, _, .nil => ⟨⟨_, .nil⟩, rfl⟩
  | _, _, .cons a r => by obtain ⟨⟨_, p⟩, e⟩ := a.reads; obtain ⟨⟨_, q⟩, f⟩ := r.reads; exact ⟨⟨_, .cons p q⟩, Bool.and_eq_true_iff.mpr ⟨e, f⟩⟩
end
end
noncomputable def Kp (L : Addr) (h h' : Heap) : Prop := ∀ b o, b ≠ L → h.get? b = some o → h'.get? b = some o
theorem Kp.refl (L : Addr) (h : Heap) : Kp L h h := fun _ _ _ e => e
theorem Kp.trans {L : Addr} {h₁ h₂ h₃ : Heap} (a : Kp L h₁ h₂) (b : Kp L h₂ h₃) : Kp L h₁ h₃ := fun x o n e => b x o n (a x o n e)
theorem Kp.push (L : Addr) (h : Heap) (o : Obj) : Kp L h (h.push o) := fun _ _ _ e => Heap.get?_push_of_some _ e
theorem Kp.mv {L : Addr} {h h' : Heap} {Z : Addr → Prop} (k : Kp L h h') (z : Z L) : Mv h Z h' Z := fun b o n e => ⟨k b o (fun q => n (q ▸ z)) e, n⟩
theorem big_size : big ≤ sizeLine := by decide
inductive DQ (h : Heap) (Z : Addr → Prop) (v : Value) (d : D) : Prop
  | dat : DI h Z v d → DQ h Z v d
  | own {a : Addr} {vs : List Value} {n : Nat} {ds : List D} : v = .ref a → d = .list ds → h.get? a = some (lsO vs n) → vs.length ≤ big → DIs h Z vs ds → DQ h Z v d
structure LsAt (h : Heap) (Z : Addr → Prop) (v : Value) (ds : List D) (a : Addr) (vs : List Value) (n : Nat) : Prop where
  ref : v = .ref a
  at_ : h.get? a = some (lsO vs n)
  len : vs.length ≤ big
  its : DIs h Z vs ds
structure TpAt (h : Heap) (Z : Addr → Prop) (v : Value) (ds : List D) (a : Addr) (vs : List Value) (n : Nat) : Prop where
  ref : v = .ref a
  at_ : h.get? a = some (tpO vs n)
  len : vs.length ≤ big
  its : DIs h Z vs ds
theorem LsAt.is {h : Heap} {Z : Addr → Prop} {v : Value} {ds : List D} {a : Addr} {vs : List Value} {n : Nat} (x : LsAt h Z v ds a vs n) : h.IsList a vs.toArray := ⟨_, x.at_, rfl, n, rfl⟩
theorem TpAt.is {h : Heap} {Z : Addr → Prop} {v : Value} {ds : List D} {a : Addr} {vs : List Value} {n : Nat} (x : TpAt h Z v ds a vs n) : IsTup h a vs.toArray := ⟨_, x.at_, rfl, n, rfl⟩
section
variable {h h' : Heap} {Z : Addr → Prop} {v : Value} {d : D} {ds : List D} {i : Int}
theorem DQ.list (q : DQ h Z v (.list ds)) : ∃ a vs n, LsAt h Z v ds a vs n := by
  cases q with
  | dat q => cases q with | list g _ l r => exact ⟨_, _, _, rfl, g, l, r⟩
  | own e1 e2 g l r => cases e2; exact ⟨_, _, _, e1, g, l, r⟩
theorem DQ.di (q : DQ h Z v d) (n : ∀ ds, d ≠ .list ds) : DI h Z v d := by
  cases q with
  | dat q => exact q
  | own _ e => exact absurd e (n _)
theorem DI.tuple' (q : DI h Z v (.tuple ds)) : ∃ a vs n, TpAt h Z v ds a vs n := by
  cases q with | tuple g _ l r => exact ⟨_, _, _, rfl, g, l, r⟩
theorem DQ.tuple (q : DQ h Z v (.tuple ds)) : ∃ a vs n, TpAt h Z v ds a vs n := (q.di fun _ h => PyData.noConfusion h).tuple'
theorem DI.int' (q : DI h Z v (.int i)) : ∃ t, v = .int i t := by cases q; exact ⟨_, rfl⟩
theorem DQ.int (q : DQ h Z v (.int i)) : ∃ t, v = .int i t := (q.di fun _ h => PyData.noConfusion h).int'
theorem DQ.reads (q : DQ h Z v d) : (∃ as, Reads h v d as) ∧ d.canLay0 = true := by
  cases q with
  | dat q => exact q.reads
  | own e1 e2 g l r => subst e1 e2; obtain ⟨⟨_, q⟩, e⟩ := r.reads; exact ⟨⟨_, .list g rfl rfl q⟩, e⟩
theorem DQ.shaped (a : DQ h Z v d) (k : d.depth ≤ 64) : SeqAt.shaped d = true := Bool.and_eq_true_iff.mpr ⟨a.reads.2, decide_eq_true k⟩
end
section
variable {d : D} {l : List D} {i : Int}
theorem asInt_s (e : asInt d = some i) : d = .int i := by cases d <;> cases e; rfl
theorem asList_s (e : asList d = some l) : d = .list l := by cases d <;> cases e; rfl
theorem asTup_s (e : asTup d = some l) : d = .tuple l := by cases d <;> cases e; rfl
theorem asSeq_s (e : asSeq d = some l) : d = .list l ∨ d = .tuple l := by
  cases d <;> cases e
  · exact .inl rfl
  · exact .inr rfl
theorem tupOnly_s {r : D} (e : tupOnly d = some r) : ∃ l, d = .tuple l ∧ r = .tuple l := by cases d <;> cases e; exact ⟨_, rfl, rfl⟩
theorem asPair_s {p : Int × Int} (e : asPair l = some p) : l = [.int p.1, .int p.2] := by
  match l, e with
  | [a, b], e =>
    refine bnd (show (asInt a).bind _ = _ from e) fun i ei e => ?_
    refine mpd e fun j ej e => ?_
    rw [asInt_s ei, asInt_s ej, ← e]
theorem fitI_s (h : fitI i = true) : -4611686018427387904 ≤ i ∧ i < 4611686018427387904 :=
  ⟨of_decide_eq_true (Bool.and_eq_true_iff.mp h).1, of_decide_eq_true (Bool.and_eq_true_iff.mp h).2⟩
end
noncomputable def allOf (h₀ : Heap) (L : Addr) (h : Heap) : List (Addr × Obj) := (List.range h.objs.size).filterMap fun b => (h.get? b).bind fun o => gd (decide (b ≠ L) && (h₀.get? b).isNone) (b, o)
theorem allOf_mem {h₀ h : Heap} {L b : Addr} {o : Obj} : (b, o) ∈ allOf h₀ L h ↔ h.get? b = some o ∧ b ≠ L ∧ h₀.get? b = none := by
  refine List.mem_filterMap.trans ⟨?_, ?_⟩
  · rintro ⟨x, _, e⟩
    refine bnd e fun o' g e => ?_
    refine gdd e fun c e => ?_
    cases e
    exact ⟨g, of_decide_eq_true (Bool.and_eq_true_iff.mp c).1, Option.isNone_iff_eq_none.mp (Bool.and_eq_true_iff.mp c).2⟩
  · rintro ⟨g, c, z⟩
    refine ⟨b, List.mem_range.mpr (Heap.lt_size g), Option.bind_eq_some_iff.mpr ⟨o, g, ?_⟩⟩
    unfold gd
    rw [if_pos (Bool.and_eq_true_iff.mpr ⟨decide_eq_true c, Option.isNone_iff_eq_none.mpr z⟩)]
theorem allOf_news (h₀ : Heap) (L : Addr) (h : Heap) : News h₀ L h (allOf h₀ L h) := fun _ hp => allOf_mem.mp hp
theorem kp_of {h₀ h h' : Heap} {L : Addr} {m m' : Str → Option Value} {more : List (Addr × Obj)} (F : Fr h₀ L h m) (F' : Fr h₀ L h' m') (N : News h₀ L h' (more ++ allOf h₀ L h)) : Kp L h h' := fun b o n g => by
  cases z : h₀.get? b with
  | some o' =>
    have := F.keep _ _ z
    cases Option.some.inj (Eq.trans (Eq.symm (g)) this)
    exact F'.keep _ _ z
  | none => exact (N (b, o) (List.mem_append_right _ (allOf_mem.mpr ⟨g, n, z⟩))).1
theorem Fr.notSeq {h₀ h : Heap} {L : Addr} {m : Str → Option Value} (F : Fr h₀ L h m) {vs : Array Value} {n : Nat} {o : Obj} (g : h.get? L = some o) (q : o.data = .seq vs n) : False := by
  obtain ⟨o', es, ep, g', e, _⟩ := F.ns
  cases Option.some.inj (Eq.trans (Eq.symm (g)) g')
  rw [e] at q; cases q
noncomputable def Rt (H₀ : Heap) (L : Addr) (m : Str → Option Value) (Z : Addr → Prop) (h : Heap) (s : Shared) (Q : Value → Shared → Prop) (r : D) : Prop :=
  ∀ v h' tk, Fr H₀ L h' m → Kp L h h' → DI h' Z v r → Q v { s with heap := h', toks := tk }
structure Fm (H₀ : Heap) (L : Addr) (m : Str → Option Value) (Z : Addr → Prop) (h : Heap) : Prop where
  fr : Fr H₀ L h m
  zL : Z L
  za : ∀ z, Z z → ∃ o, h.get? z = some o
  zH : ∀ z, Z z → H₀.get? z = none
theorem Fm.keep {H₀ : Heap} {L : Addr} {m : Str → Option Value} {Z : Addr → Prop} {h h' : Heap} (p : Fm H₀ L m Z h) (F : Fr H₀ L h' m) (k : Kp L h h') : Fm H₀ L m Z h' :=
  ⟨F, p.zL, fun z hz => by
    by_cases e : z = L
    · subst e; obtain ⟨o, _, _, g, _⟩ := F.ns; exact ⟨o, g⟩
    · obtain ⟨o, g⟩ := p.za z hz; exact ⟨o, k _ _ e g⟩, p.zH⟩
section
variable {A : Around} {E : Value → Shared → Prop} {s : Shared} {H₀ : Heap} {L : Addr} {m : Str → Option Value} {Z : Addr → Prop} {Q : Value → Shared → Prop} {h : Heap} {r : D} {v : Value} {vs : List Value} {ds : List D}
theorem Rt.here (k : Rt H₀ L m Z h s Q r) (F : Fm H₀ L m Z s.heap) (p : Kp L h s.heap) (d : DI s.heap Z v r) (tk : Nat) : Q v { s with toks := tk } := k v s.heap tk F.fr p d
theorem Fm.newZ (F : Fm H₀ L m Z s.heap) {a : Addr} (g : s.heap.get? a = none) : ¬ Z a := fun z => by
  obtain ⟨o, e⟩ := F.za a z; exact nso (g) e
theorem Fm.size (F : Fm H₀ L m Z s.heap) : ¬ Z s.heap.objs.size := fun z => by
  obtain ⟨o, g⟩ := F.za _ z
  exact absurd (Heap.lt_size g) (Nat.lt_irrefl _)
theorem newTuple_ok (F : Fm H₀ L m Z s.heap) (d : DIs s.heap Z vs ds) (hl : vs.length ≤ big) (k : Rt H₀ L m Z s.heap s Q (.tuple ds)) : wpAny (model G.prog G.w) A (newTuple vs) Q E s := by
  refine wpAny_newObj_type ?_ (by show vs.toArray.size ≤ sizeLine; exact Nat.le_trans hl big_size)
  exact k _ _ s.toks (F.fr.push _) (Kp.push _ _ _) (.tuple (Heap.get?_push_size _ rfl) F.size hl (d.mv ((Kp.push _ _ _).mv F.zL)))
theorem newList_ok (F : Fm H₀ L m Z s.heap) (d : DIs s.heap Z vs ds) (hl : vs.length ≤ big) (k : Rt H₀ L m Z s.heap s Q (.list ds)) : wpAny (model G.prog G.w) A (newList vs) Q E s := by
  refine wpAny_newObj_type ?_ (by show vs.toArray.size ≤ sizeLine; exact Nat.le_trans hl big_size)
  exact k _ _ s.toks (F.fr.push _) (Kp.push _ _ _) (.list (Heap.get?_push_size _ rfl) F.size hl (d.mv ((Kp.push _ _ _).mv F.zL)))
end
end
end Mine
end
section
set_option backward.match.sparseCases false
namespace Mine
open PySem PySem.Calls PySem.Spec PyProof.Rows
section
noncomputable def b1Val : B1 → Value
  | .len => .builtin "len" | .maxl => .builtin "max" | .sorted => .builtin "sorted" | .list => .type "list" | .tuple => .type "tuple"
noncomputable def b2Val : B2 → Value
  | .min => .builtin "min" | .max => .builtin "max"
theorem insI_perm (x : Int) : ∀ l : List Int, (insI x l).Perm (x :: l) := by
  intro l0
  induction l0 with
  | nil =>
    exact .refl _
  | cons y r ih =>
    unfold insI
    split
    · exact .refl _
    · exact ((ih).cons y).trans (.swap x y r)
theorem insI_sorted (x : Int) : ∀ l : List Int, l.Pairwise (· ≤ ·) → (insI x l).Pairwise (· ≤ ·) := by
  intro l0
  induction l0 with
  | nil =>
    intro _
    exact List.pairwise_singleton _ _
  | cons y r ih =>
    intro h
    unfold insI
    have hr := List.pairwise_cons.mp h
    split
    · rename_i c
      refine List.pairwise_cons.mpr ⟨fun a ha => ?_, h⟩
      rcases List.mem_cons.mp ha with rfl | ha
      · exact c
      · exact Int.le_trans c (hr.1 a ha)
    · rename_i c
      refine List.pairwise_cons.mpr ⟨fun a ha => ?_, ih hr.2⟩
      rcases List.mem_cons.mp ((insI_perm x r).mem_iff.mp ha) with rfl | ha
      · exact Int.le_of_lt (Int.not_le.mp c)
      · exact hr.1 a ha
theorem sortI_perm : ∀ l : List Int, (sortI l).Perm l := by
  intro l0
  induction l0 with
  | nil =>
    exact .refl _
  | cons x r ih =>
    exact (insI_perm x _).trans ((ih).cons x)
theorem sortI_sorted : ∀ l : List Int, (sortI l).Pairwise (· ≤ ·) := by
  intro l0
  induction l0 with
  | nil =>
    exact .nil
  | cons x r ih =>
    exact insI_sorted x _ (ih)
theorem maxI_spec : ∀ (l : List Int) (a : Int), (maxI a l = a ∨ maxI a l ∈ l) ∧ a ≤ maxI a l ∧ ∀ x ∈ l, x ≤ maxI a l := by
  intro l0
  induction l0 with
  | nil =>
    intro a
    exact ⟨.inl rfl, Int.le_refl _, nofun⟩
  | cons y r ih =>
    intro a
    obtain ⟨h1, h2, h3⟩ := ih (if y > a then y else a)
    show (maxI (if y > a then y else a) r = a ∨ _) ∧ a ≤ maxI (if y > a then y else a) r ∧ ∀ x ∈ y :: r, x ≤ maxI (if y > a then y else a) r
    have ha : a ≤ (if y > a then y else a) := by split; exact Int.le_of_lt ‹_›; exact Int.le_refl _
    have hy : y ≤ (if y > a then y else a) := by split; exact Int.le_refl _; exact Int.not_lt.mp ‹_›
    refine ⟨?_, Int.le_trans ha h2, fun x hx => ?_⟩
    · rcases h1 with h1 | h1
      · show _ ∨ maxI (if y > a then y else a) r ∈ _
        rw [h1]; split
        · exact .inr (.head _)
        · exact .inl rfl
      · exact .inr (.tail _ h1)
    · rcases List.mem_cons.mp hx with rfl | hx
      · exact Int.le_trans hy h2
      · exact h3 x hx
theorem ints_of {h : Heap} {Z : Addr → Prop} : ∀ {vs : List Value} {ds : List D} {is : List Int}, DIs h Z vs ds → asInts ds = some is → IntsAre vs is
  | _, _, is, .nil, e => by cases e; exact .nil
  | _, _, is, .cons a r, e => by
    refine bnd e fun i ei e => ?_
    refine mpd e fun l el e => ?_
    subst e
    rw [asInt_s ei] at a
    obtain ⟨t, rfl⟩ := a.int'
    exact .cons _ _ (ints_of r el)
theorem dis_of_ints {h : Heap} {Z : Addr → Prop} : ∀ {vs : List Value} {is : List Int}, IntsAre vs is → DIs h Z vs (is.map .int)
  | _, _, .nil => .nil
  | _, _, .cons n t r => .cons (.int n t) (dis_of_ints r)
theorem eqI {prog : Program} {w : World} {A : Around} {E : Value → Shared → Prop} {s : Shared} {a b : Int} {t u : Tok} {Q : Bool → Shared → Prop} {c : Bool} (e : (a == b) = c) (h : Q c s) : wpAny (model prog w) A (eqBool (.int a t) (.int b u)) Q E s :=
  SeqAt.EqAt.int_int a t b u prog w E Q (e ▸ h)
theorem geI {prog : Program} {w : World} {A : Around} {E : Value → Shared → Prop} {s : Shared} {a b : Int} {t u : Tok} {Q : Value → Shared → Prop} (h : Q (.bool (decide (b ≤ a))) s) : wpAny (model prog w) A (richCompare .GtE (.int a t) (.int b u)) Q E s :=
  PyProof.Rows.ge_int h
set_option maxHeartbeats 1000000 in
theorem tuple_ge2 (l b : Addr) (n n2 : Nat) (x y x' y' : Int) (t u t' u' : Tok) :
    Meets (Builtin.«tuple.__ge__» ⟨[.ref l, .ref b], []⟩)
      (fun A R s => s.heap.get? l = some (tpO [.int x t, .int y u] n) ∧ s.heap.get? b = some (tpO [.int x' t', .int y' u'] n2) ∧
        R (.ok (.ret (.bool (decide (x > x' ∨ (x = x' ∧ y ≥ y')))))) s) :=
  .of_wp fun prog w A R s h => by
    obtain ⟨hp, g, d, tk, os⟩ := s; obtain ⟨hl, hb, h⟩ := h
    have f2 := AutoSeq1.sub_tuple_tuple
    by_cases c1 : x = x'
    · subst c1
      have e0 : decide (x > x ∨ (x = x ∧ y ≥ y')) = decide (y' ≤ y) := decide_eq_decide.mpr ⟨fun h => h.elim (fun h => absurd h (Int.lt_irrefl _)) (·.2), fun h => .inr ⟨rfl, h⟩⟩
      rw [e0] at h
      have e1 : (x == x) = true := beq_self_eq_true x
      by_cases c2 : y = y'
      · subst c2
        have e2 : (y == y) = true := beq_self_eq_true y
        rw [decide_eq_true (Int.le_refl y)] at h
        wp_walk using wpAny_loadPart' hl, wpAny_loadPart' hb, eqI e1, eqI e2
        exact ⟨_, rfl, h⟩
      · have e2 : (y == y') = false := beq_eq_false_iff_ne.mpr c2
        wp_walk using wpAny_loadPart' hl, wpAny_loadPart' hb, eqI e1, eqI e2, geI
        exact ⟨_, rfl, h⟩
    · have e1 : (x == x') = false := beq_eq_false_iff_ne.mpr c1
      have e0 : decide (x > x' ∨ (x = x' ∧ y ≥ y')) = decide (x' ≤ x) := decide_eq_decide.mpr ⟨fun h => h.elim Int.le_of_lt fun h => absurd h.1 c1, fun h => .inl (Int.lt_iff_le_and_ne.mpr ⟨h, fun e => c1 e.symm⟩)⟩
      rw [e0] at h
      wp_walk using wpAny_loadPart' hl, wpAny_loadPart' hb, eqI e1, geI
      exact ⟨_, rfl, h⟩
section
variable {A : Around} {E : Value → Shared → Prop} {s : Shared} {Z : Addr → Prop} {Q : Value → Shared → Prop}
theorem ge_pair_ok {va vb : Value} {p q : Int × Int} (da : DI s.heap Z va (.tuple [.int p.1, .int p.2])) (db : DI s.heap Z vb (.tuple [.int q.1, .int q.2])) (hu : A.units < cLine)
    (h : Q (.bool (decide (p.1 > q.1 ∨ (p.1 = q.1 ∧ p.2 ≥ q.2)))) s) : wpAny (model G.prog G.w) A (compareOp .GtE va vb) Q E s := by
  obtain ⟨a, vs, n, rfl, g, _, r⟩ := da.tuple'
  obtain ⟨b, vs', n', rfl, g', _, r'⟩ := db.tuple'
  cases r with | cons r1 r => cases r with | cons r2 r => cases r with | nil =>
  cases r' with | cons r1' r' => cases r' with | cons r2' r' => cases r' with | nil =>
  obtain ⟨t, rfl⟩ := r1.int'
  obtain ⟨u, rfl⟩ := r2.int'
  obtain ⟨t', rfl⟩ := r1'.int'
  obtain ⟨u', rfl⟩ := r2'.int'
  show wpAny (model G.prog G.w) A (richCompare .GtE (.ref a) (.ref b)) Q E s
  exact richCompare_meets_room ⟨_, g, rfl⟩ ⟨_, g', rfl⟩ F.slot_tuple_ge F.entry_tuple_ge (F.args_tuple_ge_2 _ _) (tuple_ge2 a b n n' _ _ _ _ t u t' u') ⟨g, g', nofun, h⟩ hu
theorem cmp_ok {o : Cm} {x y : D} {c : Bool} {a b : Value} (hx : DQ s.heap Z a x) (hy : DQ s.heap Z b y) (e : doCm o x y = some c) (hu : A.units + 100 < cLine)
    (h : Q (.bool c) s) : wpAny (model G.prog G.w) A (compareOp (cmOf o) a b) Q E s := by
  obtain ⟨⟨as, ra⟩, la⟩ := hx.reads
  obtain ⟨⟨bs, rb⟩, lb⟩ := hy.reads
  have eqd : ∀ {c : Bool}, eqD x y = some c → (x.depth ≤ 64 ∧ y.depth ≤ 64) ∧ PyData.eqv x y = c := fun e => by
    refine gdd e fun c e => ?_
    exact ⟨⟨of_decide_eq_true (Bool.and_eq_true_iff.mp c).1, of_decide_eq_true (Bool.and_eq_true_iff.mp c).2⟩, e⟩
  have iii : ∀ {f : CmpOp} {n : Int → Int → Bool}, (∀ {i j t u}, Q (.bool (n i j)) s → wpAny (model G.prog G.w) A (compareOp f (.int i t) (.int j u)) Q E s) → twoI x y n = some c →
      wpAny (model G.prog G.w) A (compareOp f a b) Q E s := fun rule e => by
    refine bnd e fun i ei e => ?_
    refine mpd e fun j ej e => ?_
    rw [asInt_s ei] at hx
    rw [asInt_s ej] at hy
    obtain ⟨t, rfl⟩ := hx.int
    obtain ⟨u, rfl⟩ := hy.int
    exact rule (e ▸ h)
  have ins : ∀ {c : Bool}, ((asSeq y).bind fun l => inD x l) = some c → ∃ l, (y = .list l ∨ y = .tuple l) ∧ (l.any fun y => PyData.eqv y x) = c ∧ PyData.canLayAll0 l = true ∧ A.units + 1 + min (PyData.depthAll l) x.depth < cLine := fun e => by
    refine bnd e fun l el e => ?_
    refine gdd e fun c e => ?_
    refine ⟨l, asSeq_s el, e, ?_, ?_⟩
    · rcases asSeq_s el with rfl | rfl <;> exact lb
    · have h1 := Nat.min_le_right (PyData.depthAll l) x.depth
      have h2 := of_decide_eq_true c
      lia
  have hu2 : A.units + 64 < cLine := by lia
  cases o with
  | eq =>
    obtain ⟨⟨p, q⟩, r⟩ := eqd e
    exact eq_dataH ra rb (hx.shaped p) (hy.shaped q) hu2 (r ▸ h)
  | ne =>
    refine mpd e fun c' e' e₀ => ?_
    cases e₀
    obtain ⟨⟨p, q⟩, r⟩ := eqd e'
    exact ne_dataH ra rb (hx.shaped p) (hy.shaped q) hu2 (r ▸ h)
  | lt => exact iii (fun h => lt_int h) e
  | le => exact iii (fun h => le_int h) e
  | gt => exact iii (fun h => gt_int h) e
  | ge =>
    cases x with
    | tuple l =>
      refine bnd (show (asPair l).bind _ = some c from e) fun p ep e => ?_
      refine bnd e fun t et e => ?_
      refine mpd e fun q eq e => ?_
      have hx' := hx.di fun _ h => PyData.noConfusion h
      rw [asPair_s ep] at hx'
      rw [asTup_s et, asPair_s eq] at hy
      exact ge_pair_ok hx' (hy.di fun _ h => PyData.noConfusion h) (by lia) (by rw [e]; exact h)
    | _ => exact iii (fun h => ge_int h) e
  | isin =>
    obtain ⟨l, hl, r, cl, room⟩ := ins e
    rcases hl with rfl | rfl
    · exact SeqAt.in_list_reads rb ra cl la room (r ▸ h)
    · exact SeqAt.in_tuple_reads rb ra cl la room (r ▸ h)
  | notin =>
    refine mpd e fun c' e' e₀ => ?_
    cases e₀
    obtain ⟨l, hl, r, cl, room⟩ := ins e'
    rcases hl with rfl | rfl
    · exact SeqAt.notIn_list_reads rb ra cl la room (r ▸ h)
    · exact SeqAt.notIn_tuple_reads rb ra cl la room (r ▸ h)
theorem truthy_ok {v : Value} {d : D} {c : Bool} {Q : Bool → Shared → Prop} (hd : DQ s.heap Z v d) (e : truth d = some c) (h : ∀ tk, Q c { s with toks := tk }) : wpAny (model G.prog G.w) A (truthy v) Q E s := by
  have now : Q c s := h s.toks
  have small : ∀ {vs : List Value}, vs.length ≤ big → ((vs.toArray.size : Nat) : Int) < 2 ^ 63 := fun {vs} l => by
    show ((vs.length : Nat) : Int) < 2 ^ 63
    unfold big at l; lia
  cases d with
  | none => cases e; cases hd.di (fun _ h => PyData.noConfusion h); exact truthy_none now
  | bool b => cases e; cases hd.di (fun _ h => PyData.noConfusion h); exact wpAny_truthy_bool now
  | int i => cases e; obtain ⟨t, rfl⟩ := hd.int; exact P.truthy_int now
  | list l =>
    cases e
    obtain ⟨a, vs, n, x⟩ := hd.list
    cases x.ref
    exact wpAny_truthy_list x.is (small x.len) (by rw [x.its.empty]; exact h _)
  | tuple l =>
    cases e
    obtain ⟨a, vs, n, x⟩ := hd.tuple
    cases x.ref
    exact truthy_tuple x.is (small x.len) (by rw [x.its.empty]; exact h _)
  | _ => cases e
theorem type_ok {v : Value} {d : D} (hd : DI s.heap Z v d) (h : Q (.type (tyName d)) s) : wpAny (model G.prog G.w) A (call (.type "type") [v]) Q E s := by
  cases hd with
  | none => exact call_type_of (Tx := "NoneType") rfl (by decide) h
  | bool b => exact call_type_of (Tx := "bool") rfl (by decide) h
  | int i t => exact call_type_of (Tx := "int") rfl (by decide) h
  | str x t _ => exact call_type_of (Tx := "str") rfl (by decide) h
  | list g _ _ _ => exact call_type_of (Tx := "list") ⟨_, g, rfl⟩ (by decide) h
  | tuple g _ _ _ => exact call_type_of (Tx := "tuple") ⟨_, g, rfl⟩ (by decide) h
theorem subscripted_plain {slice : Expr} (h : ∀ a b c q, slice ≠ .Slice a b c q) (o i : Value) : subscripted slice false o i = operate [o, i] (getItem o i) := by
  cases slice <;> first | rfl | exact absurd rfl (h _ _ _ _)
theorem getElem?_lt {α : Type} {l : List α} {k : Nat} {x : α} (h : l[k]? = some x) : k < l.length := (List.getElem?_eq_some_iff.mp h).1
theorem atI_s {l : List D} {i : Int} {d : D} (e : atI l i = some d) : ∃ k, l[k]? = some d ∧ ((0 ≤ i ∧ k = i.toNat) ∨ (i < 0 ∧ -(l.length : Int) ≤ i ∧ k = (i + l.length).toNat)) := by
  unfold atI at e
  by_cases c : 0 ≤ i
  · rw [if_pos c] at e; exact ⟨_, e, .inl ⟨c, rfl⟩⟩
  · rw [if_neg c] at e
    by_cases c2 : -(l.length : Int) ≤ i
    · rw [if_pos c2] at e; exact ⟨_, e, .inr ⟨Int.not_le.mp c, c2, rfl⟩⟩
    · rw [if_neg c2] at e; cases e
theorem idx_ok {value slice : Expr} {x y r : D} {a b : Value} (hx : DQ s.heap Z a x) (hy : DI s.heap Z b y) (e : doIdx x y = some r) (hs : ∀ a b c q, slice ≠ .Slice a b c q)
    (h : ∀ v, DI s.heap Z v r → Q v s) : wpAny (model G.prog G.w) A (subscriptTail value slice a b) Q E s := by
  refine bnd e fun l el e => ?_
  refine bnd e fun i ei e => ?_
  rw [asInt_s ei] at hy
  obtain ⟨t, rfl⟩ := hy.int'
  obtain ⟨k, ek, hk⟩ := atI_s e
  rcases asSeq_s el with rfl | rfl
  · obtain ⟨p, vs, n, z⟩ := hx.list
    cases z.ref
    obtain ⟨v, ev, dv⟩ := z.its.get ek
    have len := z.its.length
    have lt := getElem?_lt ev
    have lb := z.len
    unfold big at lb
    refine tail_any z.is.typeIs slot_list_getitem.lookup ?_ (subscripted_plain hs _ _)
    rcases hk with ⟨h0, rfl⟩ | ⟨h0, h1, rfl⟩
    · exact wpAny_getItem_list z.is h0 (by lia) ((List.getElem?_toArray ..).trans ev) (h v dv)
    · rw [← len] at h1 ev
      exact wpAny_getItem_list_neg z.is h0 h1 (by lia) ((List.getElem?_toArray ..).trans ev) (h v dv)
  · obtain ⟨p, vs, n, z⟩ := hx.tuple
    cases z.ref
    obtain ⟨v, ev, dv⟩ := z.its.get ek
    have len := z.its.length
    have lt := getElem?_lt ev
    have lb := z.len
    unfold big at lb
    refine tail_any z.is.typeIs slot_tuple_getitem.lookup ?_ (subscripted_plain hs _ _)
    have sp : seqIndex? i vs.length = some k := by
      unfold seqIndex?
      rcases hk with ⟨h0, rfl⟩ | ⟨h0, h1, rfl⟩
      · rw [if_neg (Int.not_lt.mpr h0), if_pos (by rw [Bool.and_eq_true_iff]; exact ⟨decide_eq_true h0, decide_eq_true (by lia)⟩)]
      · rw [if_pos h0, len, if_pos (by rw [Bool.and_eq_true_iff]; exact ⟨decide_eq_true (by lia), decide_eq_true (by lia)⟩)]
    exact PyProof.Rows.getItem_tuple z.is (by rcases hk with ⟨h0, rfl⟩ | ⟨h0, h1, rfl⟩ <;> lia) (by rcases hk with ⟨h0, rfl⟩ | ⟨h0, h1, rfl⟩ <;> lia) sp ((List.getElem?_toArray ..).trans ev) (h v dv)
end
noncomputable def clN (k : Option Nat) (dflt n : Nat) : Nat := (k.map (min · n)).getD dflt
theorem cutN_eq (lo hi : Option Nat) (l : List α) : cutN lo hi l = (l.drop (clN lo 0 l.length)).take (clN hi l.length l.length - clN lo 0 l.length) := by
  have key : ∀ (a b : Nat), (l.drop (min a l.length)).take (min b l.length - min a l.length) = (l.take b).drop a := fun a b => by
    rw [List.drop_take]
    by_cases c : a ≤ l.length
    · rw [Nat.min_eq_left c, ← Nat.sub_min_sub_right, ← List.length_drop]; exact List.take_eq_take_min.symm
    · rw [List.drop_of_length_le (Nat.le_min.mpr ⟨Nat.le_of_not_le c, Nat.le_refl _⟩), List.drop_of_length_le (Nat.le_of_not_le c), List.take_nil, List.take_nil]
  have z : ∀ b, (l.drop 0).take (min b l.length - 0) = (l.take b).drop 0 := fun b => by have := key 0 b; rwa [Nat.zero_min] at this
  have f : ∀ a, (l.drop (min a l.length)).take (l.length - min a l.length) = l.drop a := fun a => by have := key a l.length; rwa [Nat.min_self, List.take_length] at this
  cases lo <;> cases hi
  · exact ((List.take_length).symm : l = _)
  · exact (z _).symm
  · exact (f _).symm
  · exact (key _ _).symm
theorem cutN_len (lo hi : Option Nat) (l : List α) : (cutN lo hi l).length ≤ l.length := by
  cases hi with
  | none => exact (List.drop_sublist _ _).length_le
  | some b => exact ((List.drop_sublist _ _).trans (List.take_sublist _ _)).length_le
noncomputable def PtV (h : Heap) (Z : Addr → Prop) (v : Value) : Option D → Prop
  | some d => DI h Z v d
  | none => v = .none
theorem PtV.mv {h h' : Heap} {Z Z' : Addr → Prop} {v : Value} {d : Option D} (k : Mv h Z h' Z') (p : PtV h Z v d) : PtV h' Z' v d := by
  cases d with
  | none => exact p
  | some d => exact DI.mv k p
theorem isPart_of {x : Option D} {k : Option Nat} (e : partI x = some k) {v : Value} {h : Heap} {Z : Addr → Prop} (hv : PtV h Z v x) : IsPart v (k.map fun n => (n : Int)) := by
  cases x with
  | none => cases e; cases (show v = .none from hv); exact .none
  | some d =>
    refine bnd e fun i ei e => ?_
    refine gdd e fun c e => ?_
    subst e
    have := of_decide_eq_true (Bool.and_eq_true_iff.mp c).1
    rw [asInt_s ei] at hv
    obtain ⟨t, rfl⟩ := DI.int' hv
    show IsPart _ (some ((i.toNat : Nat) : Int))
    rw [Int.toNat_of_nonneg this]; exact .int i t
theorem clip_of (k : Option Nat) (dflt n : Nat) : (k.map fun n => (n : Int)).elim dflt (clipAt n) = clN k dflt n := by
  cases k with
  | none => rfl
  | some k => exact clipAt_nat n k
theorem pick_cut (items : List Value) (lo hi : Option Nat) : slicePick items.toArray (lo.map fun n => (n : Int)) (hi.map fun n => (n : Int)) none = (cutN lo hi items).toArray := by
  rw [slicePick_plain, clip_of, clip_of, cutN_eq]; rfl
section
variable {A : Around} {E : Value → Shared → Prop} {s : Shared}
theorem slicePart_ok {v : Value} {k : Option Int} {Q : Option Int → Shared → Prop} (p : IsPart v k) (h : Q k s) : wpAny (model G.prog G.w) A (Builtin.Slice.slicePartIndex v) Q E s := by
  cases p with
  | none => exact slicePart_none h
  | int i t => exact slicePart_int h
theorem adjust_gen (lo hi : Option Nat) (n : Nat) : Builtin.Slice.sliceAdjust (lo.map fun n => (n : Int)) (hi.map fun n => (n : Int)) 1 (n : Int) = (((clN lo 0 n : Nat) : Int), ((clN hi n n : Nat) : Int)) := by
  have q : ∀ k : Nat, (if (k : Int) < 0 then max ((k : Int) + n) 0 else min (k : Int) n) = ((min k n : Nat) : Int) := fun k => by
    rw [if_neg (by lia)]; lia
  cases lo <;> cases hi
  · rfl
  · exact Prod.ext rfl (q _)
  · exact Prod.ext (q _) rfl
  · exact Prod.ext (q _) (q _)
theorem places_gen (a b : Nat) : Builtin.Slice.slicePlaces (a : Int) (b : Int) 1 = b - a := by
  unfold Builtin.Slice.slicePlaces
  rw [if_pos (by decide), Int.ediv_one]
  split <;> lia
theorem sliceApplied_gen {sl : Addr} {n : Nat} {vl vu : Value} {lo hi : Option Nat} {Q : Int × Int × Nat → Shared → Prop} (hs : s.heap.IsSliceOf sl vl vu .none) (pl : IsPart vl (lo.map fun n => (n : Int))) (pu : IsPart vu (hi.map fun n => (n : Int)))
    (h : Q (((clN lo 0 n : Nat) : Int), 1, clN hi n n - clN lo 0 n) s) : wpAny (model G.prog G.w) A (Builtin.Slice.sliceApplied (.ref sl) (pure (n : Int))) Q E s := by
  obtain ⟨os, hos, hcs, hds⟩ := id hs
  unfold Builtin.Slice.sliceApplied Builtin.Slice.sliceFields
  refine wpAny_bind (wpAny_bind (wpAny_field hos hds (x := vl) rfl (wpAny_bind (wpAny_field hos hds (x := vu) rfl (wpAny_bind (wpAny_field hos hds (x := .none) rfl (wpAny_pure ?_)))))))
  refine wpAny_bind (slicePart_none ?_)
  show wpAny _ _ (if ((1 : Int) == 0) = true then _ else _) _ _ s
  rw [if_neg (by decide)]
  refine wpAny_bind (slicePart_ok pl (wpAny_bind (slicePart_ok pu (wpAny_bind (wpAny_pure ?_)))))
  show wpAny _ _ (match Builtin.Slice.sliceAdjust _ _ 1 (n : Int) with | (lo, hi) => pure (lo, (1 : Int), Builtin.Slice.slicePlaces lo hi 1)) _ _ s
  rw [adjust_gen]
  show wpAny _ _ (pure (((clN lo 0 n : Nat) : Int), (1 : Int), Builtin.Slice.slicePlaces ((clN lo 0 n : Nat) : Int) ((clN hi n n : Nat) : Int) 1)) _ _ s
  rw [places_gen]
  exact wpAny_pure h
theorem getItem_tuple_cut {t sl : Addr} {items : List Value} {vl vu : Value} {lo hi : Option Nat} {Q : Value → Shared → Prop} (ht : IsTup s.heap t items.toArray) (hs : s.heap.IsSliceOf sl vl vu .none) (pl : IsPart vl (lo.map fun n => (n : Int))) (pu : IsPart vu (hi.map fun n => (n : Int)))
    (h1 : cutN lo hi items = items → Q (.ref t) s)
    (h : Q (.ref s.heap.objs.size) { s with heap := s.heap.push (tpO (cutN lo hi items) 0) })
    (hsz : items.length ≤ sizeLine) : wpAny (model G.prog G.w) A (getItem (.ref t) (.ref sl)) Q E s := by
  have hdrop : sizeOk (.seq (cutN lo hi items).toArray) := Nat.le_trans (cutN_len lo hi items) hsz
  obtain ⟨os, hos, hcs, hds⟩ := id hs
  have hTs : s.TypeIs (.ref sl) "slice" := ⟨os, hos, hcs⟩
  unfold getItem
  refine wpAny_holding (wpAny_bind (wpAny_sequenceKey ht.typeIs (by decide) ?_))
  refine wpAny_bind (wpAny_callSpecial?_slot (name := Str.ofString "__getitem__") ht.typeIs slot_tuple_getitem
    (wpAny_call_entry slot_tuple_getitem ht.typeIs entry_tuple_getitem ?_ (args_tuple_getitem _ _)))
  show wpAny _ _ (Builtin.Tuple.tupleItemsOf (.ref t) >>= _) _ _ s
  refine wpAny_bind (tupleItemsOf_ ht ?_)
  refine wpAny_bind (wpAny_typeOf hTs ?_)
  rw [if_pos (by decide)]
  refine wpAny_bind (sliceApplied_gen (n := items.length) hs pl pu ?_)
  have e : ((List.range (clN hi items.length items.length - clN lo 0 items.length)).filterMap fun (j : Nat) => items.toArray[(((clN lo 0 items.length : Nat) : Int) + (j : Int) * 1).toNat]?) = cutN lo hi items := by
    rw [cutN_eq, ← pick_run items.toArray, List.filterMap_map]
    congr 1
    funext j
    show items.toArray[(((clN lo 0 items.length : Nat) : Int) + (j : Int) * 1).toNat]? = items.toArray[clN lo 0 items.length + j]?
    congr 1; lia
  show wpAny _ _ (if (((clN lo 0 items.length : Nat) : Int) == 0 && (1 : Int) == 1 && (clN hi items.length items.length - clN lo 0 items.length) == items.length) = true then _ else _) _ _ s
  split
  · rename_i c
    simp only [Bool.and_eq_true, beq_iff_eq] at c
    refine wpAny_bind ?_
    unfold Builtin.Tuple.tupleIsExact
    refine wpAny_bind (wpAny_typeOf ht.typeIs (wpAny_pure ?_))
    rw [if_pos (by decide)]
    refine wpAny_bind (wpAny_rule (wpAny_pure ⟨_, rfl, wpAny_pure (h1 ?_)⟩))
    have z : clN lo 0 items.length = 0 := Int.ofNat.inj c.1.1
    rw [cutN_eq, c.2, z, List.drop_zero, List.take_length]
  · rw [e]
    exact wpAny_bind (m := Builtin.Tuple.tupleExact _) (wpAny_newObj_type (wpAny_pure ⟨_, rfl, wpAny_pure h⟩) hdrop)
variable {H₀ : Heap} {L : Addr} {m : Str → Option Value} {Z : Addr → Prop} {Q : Value → Shared → Prop} (F : Fm H₀ L m Z s.heap)
include F
theorem slc_ok {value : Expr} {lo hi : Option Expr} {qp : Pos} {x r : D} {a b : Option D} {v vl vu : Value} {sl : Addr} (hx : DQ s.heap Z v x) (hs : s.heap.IsSliceOf sl vl vu .none)
    (hl : PtV s.heap Z vl a) (hu : PtV s.heap Z vu b) (e : doSlc a b x = some r)
    (k : Rt H₀ L m Z s.heap s Q r) : wpAny (model G.prog G.w) A (subscriptTail value (.Slice lo hi none qp) v (.ref sl)) Q E s := by
  refine bnd e fun i ei e => ?_
  refine bnd e fun j ej e => ?_
  have pl := isPart_of ei hl
  have pu := isPart_of ej hu
  cases x with
  | list l =>
    cases e
    obtain ⟨t, vs, n, z⟩ := hx.list
    cases z.ref
    refine tail_any (ops := [.ref sl, .ref t]) z.is.typeIs slot_list_getitem.lookup ?_ rfl
    refine wpAny_getItem_list_slice z.is hs pl pu .none nofun ?_ (Nat.le_trans z.len big_size)
    rw [pick_cut]
    exact k _ _ s.toks (F.fr.push _) (Kp.push _ _ _) (.list (Heap.get?_push_size _ rfl) F.size (Nat.le_trans (cutN_len _ _ _) z.len) ((z.its.cut _ _).mv ((Kp.push _ _ _).mv F.zL)))
  | tuple l =>
    cases e
    have ix := hx.di (fun _ h => PyData.noConfusion h)
    cases ix with | @tuple t vs n _ g nz len its =>
    have ti : IsTup s.heap t vs.toArray := ⟨_, g, rfl, n, rfl⟩
    refine tail_any (ops := [.ref sl, .ref t]) ti.typeIs slot_tuple_getitem.lookup ?_ rfl
    refine getItem_tuple_cut ti hs pl pu (fun e => ?_) ?_ (Nat.le_trans len big_size)
    · have := its.cut i j
      rw [e] at this
      exact k.here F (Kp.refl _ _) (.tuple g nz len this) s.toks
    · exact k _ _ s.toks (F.fr.push _) (Kp.push _ _ _) (.tuple (Heap.get?_push_size _ rfl) F.size (Nat.le_trans (cutN_len _ _ _) len) ((its.cut _ _).mv ((Kp.push _ _ _).mv F.zL)))
  | _ => cases e
noncomputable def Rf (H₀ : Heap) (L : Addr) (m : Str → Option Value) (Z : Addr → Prop) (h : Heap) (s : Shared) (Q : Value → Shared → Prop) (ds : List D) : Prop :=
  ∀ q vs n h' tk, Fr H₀ L h' m → Kp L h h' → h.get? q = none → LsAt h' (fun b => Z b ∨ b = q) (.ref q) ds q vs n → Q (.ref q) { s with heap := h', toks := tk }
omit F in
theorem LsAt.di {h' : Heap} {q : Addr} {vs : List Value} {n : Nat} {ds : List D} (x : LsAt h' (fun b => Z b ∨ b = q) (.ref q) ds q vs n) (nz : ¬ Z q) : DI h' Z (.ref q) (.list ds) :=
  .list x.at_ nz x.len (x.its.mv fun b o nb e => ⟨e, fun z => nb (.inl z)⟩)
theorem Rt.rf {ds : List D} (k : Rt H₀ L m Z s.heap s Q (.list ds)) : Rf H₀ L m Z s.heap s Q ds := fun q vs n h' tk F' p e x => k _ h' tk F' p (x.di (F.newZ e))
omit F in
theorem Kp.mvNew {h h' : Heap} {q : Addr} (p : Kp L h h') (z : Z L) (e : h.get? q = none) : Mv h Z h' (fun b => Z b ∨ b = q) := fun b o nb g => ⟨(p.mv z b o nb g).1, fun c => by
  rcases c with c | rfl
  · exact nb c
  · rw [e] at g; cases g⟩
theorem newAtF {q : Addr} {vs : List Value} {c : Nat} {ds : List D} {h' : Heap} {tk : Nat} (F' : Fr H₀ L h' m) (N' : News H₀ L h' ((q, lsO vs c) :: allOf H₀ L s.heap)) (fresh : s.heap.get? q = none)
    (d : DIs s.heap Z vs ds) (hl : vs.length ≤ big) (k : Rf H₀ L m Z s.heap s Q ds) : Q (.ref q) { s with heap := h', toks := tk } := by
  have p := kp_of (more := [_]) F.fr F' N'
  exact k q vs c h' tk F' p fresh ⟨rfl, (N' _ (.head _)).1, hl, d.mv (p.mvNew F.zL fresh)⟩
theorem newList_fresh {vs : List Value} {ds : List D} (d : DIs s.heap Z vs ds) (hl : vs.length ≤ big) (k : Rf H₀ L m Z s.heap s Q ds) : wpAny (model G.prog G.w) A (newList vs) Q E s := by
  refine wpAny_newObj_type ?_ (by show vs.toArray.size ≤ sizeLine; exact Nat.le_trans hl big_size)
  have e : s.heap.get? s.heap.objs.size = none := by
    cases e : s.heap.get? s.heap.objs.size with
    | none => rfl
    | some o => exact absurd (Heap.lt_size e) (Nat.lt_irrefl _)
  exact k _ vs _ _ s.toks (F.fr.push _) (Kp.push _ _ _) e ⟨rfl, Heap.get?_push_size _ rfl, hl, d.mv ((Kp.push L s.heap _).mvNew F.zL e)⟩
theorem newAt {q : Addr} {vs : List Value} {c : Nat} {ds : List D} {h' : Heap} {tk : Nat} (F' : Fr H₀ L h' m) (N' : News H₀ L h' ((q, lsO vs c) :: allOf H₀ L s.heap)) (fresh : s.heap.get? q = none)
    (d : DIs s.heap Z vs ds) (hl : vs.length ≤ big) (k : Rt H₀ L m Z s.heap s Q (.list ds)) : Q (.ref q) { s with heap := h', toks := tk } := by
  have p := kp_of (more := [_]) F.fr F' N'
  exact k _ h' tk F' p (.list (N' _ (.head _)).1 (F.newZ fresh) hl (d.mv (p.mv F.zL)))
theorem size_none (h : Heap) (k : Nat) : h.get? (h.objs.size + k) = none := by
  cases e : h.get? (h.objs.size + k) with
  | none => rfl
  | some o => exact absurd (Heap.lt_size e) (Nat.not_lt.mpr (Nat.le_add_right _ _))
theorem add_fresh {x y : D} {ds : List D} {a b : Value} (hx : DQ s.heap Z a x) (hy : DQ s.heap Z b y) (e : addD x y = some (.list ds)) (k : Rf H₀ L m Z s.heap s Q ds) : wpAny (model G.prog G.w) A (binaryOp .Add a b) Q E s := by
  cases x with
  | list l =>
      refine bnd (show (asList y).bind _ = some _ from e) fun l' el e => ?_
      refine gdd e fun c e => ?_
      cases e
      rw [asList_s el] at hy
      obtain ⟨p, vs, n, z⟩ := hx.list
      obtain ⟨p', vs', n', z'⟩ := hy.list
      cases z.ref; cases z'.ref
      have c := of_decide_eq_true c
      have la := z.its.length
      have lb := z'.its.length
      have hb : vs.length + vs'.length ≤ big := by lia
      exact add_arrays F.fr (allOf_news H₀ L s.heap) z.is z'.is (fun h' F' N' => newAtF F F' N' (size_none F _ 0) (z.its.append z'.its) (by rw [List.length_append]; exact hb) k) (Nat.le_trans hb big_size)
  | int i => obtain ⟨j, ej, e⟩ := Option.map_eq_some_iff.mp (show (asInt y).map _ = some _ from e); cases e
  | tuple l =>
    refine bnd (show (asTup y).bind _ = some _ from e) fun l' el e => ?_
    refine gdd e fun c e => ?_
    cases e
  | _ => cases e
theorem mul_fresh {x y : D} {ds : List D} {a b : Value} (hx : DQ s.heap Z a x) (hy : DQ s.heap Z b y) (e : mulD x y = some (.list ds)) (k : Rf H₀ L m Z s.heap s Q ds) : wpAny (model G.prog G.w) A (binaryOp .Mult a b) Q E s := by
  cases x with
  | list l =>
      refine bnd (show (asInt y).bind _ = some _ from e) fun j ej e => ?_
      refine gdd e fun c e => ?_
      cases e
      rw [asInt_s ej] at hy
      obtain ⟨u, rfl⟩ := hy.int
      obtain ⟨p, vs, n, z⟩ := hx.list
      cases z.ref
      have len := z.its.length
      simp only [Bool.and_eq_true, decide_eq_true_eq] at c
      have hm : vs.length * j.toNat ≤ 16 * 16 := Nat.mul_le_mul (by lia) (by lia)
      have fl : (List.replicate j.toNat vs).flatten.length ≤ big := by
        rw [List.length_flatten, List.map_replicate, List.sum_replicate_nat, Nat.mul_comm]
        exact Nat.le_trans hm (by decide)
      refine mul_list F.fr (allOf_news _ _ _) z.at_ (by lia) (by lia) (Nat.le_trans hm (by decide)) fun h' F' N' => ?_
      rw [listMul_foldl_if] at N'
      exact newAtF F F' N' (size_none F _ 0) (z.its.repl _) fl k
  | int i =>
    refine bnd (show (asInt y).bind _ = some _ from e) fun j ej e => ?_
    refine gdd e fun c e => ?_
    cases e
  | _ => cases e
theorem list_fresh {x : D} {l : List D} {v : Value} (hx : DQ s.heap Z v x) (el : asSeq x = some l) (k : Rf H₀ L m Z s.heap s Q l) : wpAny (model G.prog G.w) A (call (.type "list") [v]) Q E s := by
  have cp : ∀ {a : Addr} {o : Obj} {T : String} {vs : List Value} {n : Nat} {l : List D}, (T = "list" ∨ T = "tuple") → s.heap.get? a = some o → o.cls = .type T → o.data = .seq vs.toArray n → vs.length ≤ big → DIs s.heap Z vs l → Rf H₀ L m Z s.heap s Q l →
      wpAny (model G.prog G.w) A (call (.type "list") [.ref a]) Q E s := fun {a o T vs n l} hT g c e len its k => by
    refine call_list_seq a hT g c e (fun h' c' hk hD => ?_) (Nat.le_trans len big_size)
    have p : Kp L s.heap h' := fun b o _ e => hk b o e
    exact k _ vs _ h' s.toks ⟨F.fr.ns.keeps hk, fun b o e => hk _ _ (F.fr.keep b o e), F.fr.above⟩ p (size_none F _ 0) ⟨rfl, hD, len, its.mv (p.mvNew F.zL (size_none F _ 0))⟩
  rcases asSeq_s el with rfl | rfl
  · obtain ⟨a, vs, n, z⟩ := hx.list
    cases z.ref
    exact cp (.inl rfl) z.at_ rfl rfl z.len z.its k
  · obtain ⟨a, vs, n, z⟩ := hx.tuple
    cases z.ref
    exact cp (.inr rfl) z.at_ rfl rfl z.len z.its k
theorem bin_ok {o : Op} {x y r : D} {a b : Value} (hx : DQ s.heap Z a x) (hy : DQ s.heap Z b y) (e : doBin o x y = some r)
    (k : Rt H₀ L m Z s.heap s Q r) : wpAny (model G.prog G.w) A (binaryOp (opOf o) a b) Q E s := by
  have iii : ∀ {i : Int} {t : Tok} (f : Operator) (j n : Int), a = .int i t → asInt y = some j → r = .int n → (∀ {u}, Q (.int n s.toks) { s with toks := s.toks + 1 } → wpAny (model G.prog G.w) A (binaryOp f (.int i t) (.int j u)) Q E s) →
      wpAny (model G.prog G.w) A (binaryOp f a b) Q E s := fun f j n ea ej er rule => by
    subst er ea
    rw [asInt_s ej] at hy
    obtain ⟨u, rfl⟩ := hy.int
    exact rule (k.here F (Kp.refl _ _) (.int _ _) _)
  have two : ∀ {α : Type} {f : Int → Option α} {z : α}, ((asInt x).bind f) = some z → ∃ i t, a = .int i t ∧ f i = some z := fun e => by
    refine bnd e fun i ei e => ?_
    rw [asInt_s ei] at hx
    obtain ⟨t, q⟩ := hx.int
    exact ⟨i, t, q, e⟩
  cases o with
  | add => cases x with
    | int i =>
      obtain ⟨t, ea⟩ := hx.int
      refine mpd (show (asInt y).map _ = some r from e) fun j ej e => ?_
      exact iii .Add _ _ ea ej e.symm fun h => add_int h
    | list l =>
      refine bnd (show (asList y).bind _ = some r from e) fun l' el e' => ?_
      refine gdd e' fun c e' => ?_
      subst e'
      exact add_fresh F hx hy e (Rt.rf F k)
    | tuple l =>
      refine bnd (show (asTup y).bind _ = some r from e) fun l' el e => ?_
      refine gdd e fun c e => ?_
      subst e
      rw [asTup_s el] at hy
      have ix := hx.di (fun _ h => PyData.noConfusion h)
      have iy := hy.di (fun _ h => PyData.noConfusion h)
      obtain ⟨p, vs, n, z⟩ := hx.tuple
      obtain ⟨p', vs', n', z'⟩ := hy.tuple
      cases z.ref; cases z'.ref
      have c := of_decide_eq_true c
      have la := z.its.length
      have lb := z'.its.length
      have hb : vs.length + vs'.length ≤ big := by lia
      refine add_tuples F.fr (allOf_news H₀ L s.heap) z.is z'.is (fun e => ?_) (fun _ e => ?_) (fun _ _ h' F' N' => ?_) (Nat.le_trans hb big_size)
      · subst e
        have : l = [] := List.eq_nil_of_length_eq_zero la.symm
        subst this
        exact k.here F (Kp.refl _ _) iy s.toks
      · subst e
        have : l' = [] := List.eq_nil_of_length_eq_zero lb.symm
        subst this
        rw [List.append_nil] at k
        exact k.here F (Kp.refl _ _) ix s.toks
      · have p := kp_of (more := [_]) F.fr F' N'
        exact k _ h' s.toks F' p (.tuple (N' _ (.head _)).1 F.size (by rw [List.length_append]; exact hb) ((z.its.append z'.its).mv (p.mv F.zL)))
    | _ => cases e
  | sub =>
    obtain ⟨i, t, ea, e⟩ := two e
    refine mpd e fun j ej e => ?_
    exact iii .Sub _ _ ea ej e.symm fun h => sub_int h
  | mul => cases x with
    | int i =>
      obtain ⟨t, ea⟩ := hx.int
      refine bnd (show (asInt y).bind _ = some r from e) fun j ej e => ?_
      refine gdd e fun c e => ?_
      have := fitI_s c
      exact iii .Mult _ _ ea ej e.symm fun h => mul_int h (IntMulOk.of_left (intBits_le_64 (by lia) (by lia)))
    | list l =>
      refine bnd (show (asInt y).bind _ = some r from e) fun j ej e' => ?_
      refine gdd e' fun c e' => ?_
      subst e'
      exact mul_fresh F hx hy e (Rt.rf F k)
    | _ => cases e
  | mod =>
    obtain ⟨i, t, ea, e⟩ := two e
    refine bnd e fun j ej e => ?_
    refine gdd e fun c e => ?_
    have := of_decide_eq_true c
    exact iii .Mod _ _ ea ej e.symm fun h => mod_int' (by lia) h
theorem b1_ok {f : B1} {x r : D} {v : Value} (hh : A.handled = none) (hx : DQ s.heap Z v x) (e : doB1 f x = some r) (k : Rt H₀ L m Z s.heap s Q r) :
    wpAny (model G.prog G.w) A (call (b1Val f) [v]) Q E s := by
  have small : ∀ {vs : List Value}, vs.length ≤ big → ((vs.toArray.size : Nat) : Int) < 2 ^ 63 := fun {vs} l => by
    show ((vs.length : Nat) : Int) < 2 ^ 63
    unfold big at l; lia
  cases f with
  | len =>
    refine mpd e fun l el e => ?_
    subst e
    rcases asSeq_s el with rfl | rfl
    · obtain ⟨a, vs, n, z⟩ := hx.list
      cases z.ref
      refine PyProof.Rows.len_list z.is (small z.len) ?_
      rw [show ((vs.toArray.size : Nat) : Int) = (l.length : Int) from congrArg _ z.its.length]
      exact k.here F (Kp.refl _ _) (.int _ _) _
    · obtain ⟨a, vs, n, z⟩ := hx.tuple
      cases z.ref
      refine PyProof.Rows.len_tuple z.is (small z.len) ?_
      rw [show ((vs.toArray.size : Nat) : Int) = (l.length : Int) from congrArg _ z.its.length]
      exact k.here F (Kp.refl _ _) (.int _ _) _
  | maxl =>
    refine bnd e fun l el e => ?_
    refine bnd e fun is ei e => ?_
    rw [asList_s el] at hx
    obtain ⟨a, vs, n, z⟩ := hx.list
    cases z.ref
    match is, ei, e with
    | i :: is, ei, e =>
      cases e
      refine max_list_N hh F.fr (allOf_news _ _ _) z.is (ints_of z.its ei) (Nat.succ_pos _) fun h' M t tk F' N' hm hle => ?_
      have e2 : M = maxI i is := by
        obtain ⟨h1, h2, h3⟩ := maxI_spec is i
        refine Int.le_antisymm ?_ (hle _ (by rcases h1 with h1 | h1; rw [h1]; exact .head _; exact .tail _ h1))
        rcases List.mem_cons.mp hm with rfl | hm
        · exact h2
        · exact h3 _ hm
      subst e2
      exact k _ h' tk F' (kp_of (more := []) F.fr F' N') (.int _ _)
  | sorted =>
    refine bnd e fun l el e => ?_
    refine bnd e fun is ei e => ?_
    refine gdd e fun c e => ?_
    subst e
    rw [asList_s el] at hx
    obtain ⟨a, vs, n, z⟩ := hx.list
    cases z.ref
    have hi := ints_of z.its ei
    have c := of_decide_eq_true c
    refine sorted_N F.fr (allOf_news _ _ _) z.is hi (hi.length ▸ c) fun h' vs' ns' c' F' N' hi' hp ho => ?_
    have e2 : ns' = sortI is := (hp.trans (sortI_perm is).symm).eq_of_pairwise (fun x y _ _ h1 h2 => Int.le_antisymm h1 h2) ho (sortI_sorted is)
    have l1 : vs'.length = ns'.length := hi'.length
    have l2 := hp.length_eq
    exact newAt F F' N' (size_none F _ 1) (e2 ▸ dis_of_ints hi') (by unfold big; lia) k
  | list =>
    refine mpd e fun l el e => ?_
    subst e
    exact list_fresh F hx el (Rt.rf F k)
  | tuple =>
    obtain ⟨l, rfl, rfl⟩ := tupOnly_s e
    have ix := hx.di (fun _ h => PyData.noConfusion h)
    obtain ⟨a, vs, n, z⟩ := hx.tuple
    cases z.ref
    exact call_tuple_tup z.is (k.here F (Kp.refl _ _) ix s.toks)
theorem b2_ok {f : B2} {x y r : D} {a b : Value} (hh : A.handled = none) (hx : DI s.heap Z a x) (hy : DI s.heap Z b y) (e : doB2 f x y = some r) (k : Rt H₀ L m Z s.heap s Q r) :
    wpAny (model G.prog G.w) A (call (b2Val f) [a, b]) Q E s := by
  refine bnd e fun i ei e => ?_
  refine mpd e fun j ej e => ?_
  subst e
  rw [asInt_s ei] at hx
  rw [asInt_s ej] at hy
  obtain ⟨t, rfl⟩ := hx.int'
  obtain ⟨u, rfl⟩ := hy.int'
  cases f with
  | min => exact min_two_N hh F.fr (allOf_news _ _ _) fun h' tk F' N' => k _ h' tk F' (kp_of (more := []) F.fr F' N') (.int _ _)
  | max => exact max_two_N hh F.fr (allOf_news _ _ _) fun h' tk F' N' => k _ h' tk F' (kp_of (more := []) F.fr F' N') (.int _ _)
end
end
end Mine
end
section
set_option genInjectivity false
set_option backward.match.sparseCases false
namespace Mine
open PySem PySem.Calls PySem.Spec PyProof.Rows PySem.W
section
noncomputable def attrOK (K : Frag) (C : Addr) (x : Str) : Bool := plainGet K C x && hasDictIn K C && findIn K (.ref C) x == some none && noGet K none && plainOver K C && takerIn K C x == some none &&
  findIn K (.ref C) "__setattr__" == some (some (.builtin "object.__setattr__"))
noncomputable def bltNames : List (Str × Value) := [("len", .builtin "len"), ("min", .builtin "min"), ("max", .builtin "max"), ("sorted", .builtin "sorted"), ("list", .type "list"), ("tuple", .type "tuple"), ("type", .type "type"), ("range", .type "range"), ("enumerate", .type "enumerate"), ("zip", .type "zip"), ("bool", .type "bool"), ("int", .type "int")]
class GOK : Prop where
  X : G.K.In G.H₀
  g : G.H₀.Ns mainGlobals G.mg
  b : G.H₀.Ns builtinsNs G.mb
  lim : G.H₀.NoLimit
  bb : ∀ x : Str, x ≠ "__name__" → G.mb x = bootBuiltins x
theorem G_inj (i j : Nat) (h : G.T i = G.T j) : i = j := T_inj i j h
theorem ats_ok (P : Params) : (ats.all fun a => attrOK (KK P) cls0 (T a)) = true := by kernel_rfl
theorem G_att (a : Nat) (h : a ∈ G.attrs) : attrOK G.K G.C (G.T a) = true := List.all_eq_true.mp (ats_ok q0.w.params) a h
theorem bltK (P : Params) : ∀ p ∈ bltNames, nsIn (KK P) mainGlobals p.1 = some none := by
  intro p hp
  simp only [bltNames, List.mem_cons, List.not_mem_nil, or_false] at hp
  rcases hp with rfl | rfl | rfl | rfl | rfl | rfl | rfl | rfl | rfl | rfl | rfl | rfl <;> kernel_rfl
theorem G_blt (p : Str × Value) (h : p ∈ bltNames) : nsIn G.K mainGlobals p.1 = some none := bltK q0.w.params p h
abbrev Nms := List (Str × NameKind)
noncomputable def kV (ns : Nms) (x : Str) : Bool := !(x == ("__debug__" : Str)) && !(x == ("__classdict__" : Str) || x == (".0" : Str)) && match ns.lookup x with
  | some .local | some .cell | some .free => true
  | _ => false
noncomputable def kG (ns : Nms) (x : Str) : Bool := !(x == ("__debug__" : Str)) && ns.lookup x == some .globalImplicit
noncomputable def VarV (env : Env) (L : Addr) (m : Str → Option Value) (h : Heap) (x : Str) (v : Value) : Prop :=
  (env.kindOf x = some .local ∧ env.locals = L ∧ m x = some v) ∨
  ((env.kindOf x = some .cell ∨ env.kindOf x = some .free) ∧ ∃ c, env.cells.lookup x = some c ∧ h.IsCell c (some v))
noncomputable def OwnI (h : Heap) (Z : Addr → Prop) (v : Value) (ds : List D) : Prop := ∃ a vs n, LsAt h Z v ds a vs n
noncomputable def AV1 (h : Heap) (Z : Addr → Prop) (v : Value) : AV → Prop
  | .fz d => DI h Z v d
  | .own ds => OwnI h Z v ds
  | .obj => False
structure AttI (h : Heap) (Z : Addr → Prop) (es : List DictEntry) (ob : Al) : Prop where
  len : es.length = ob.length
  keys : ∀ e ∈ es, ∃ x t, e.key = .str x t
  get : ∀ k av, look k ob = some av → k ∈ G.attrs ∧ ∃ v, W.getL (G.T k) es = some (some v) ∧ AV1 h Z v av
  non : ∀ y, (∀ k av, look k ob = some av → G.T k ≠ y) → W.getL y es = some none
noncomputable def OBI (L : Addr) (h : Heap) (Z : Addr → Prop) (a : Addr) (ob : Al) : Prop :=
  ∃ dx es n, h.get? a = some (instObj G.C dx) ∧ h.get? dx = some (dictOf es n) ∧ dx ≠ L ∧ AttI h Z es ob
noncomputable def AVI (L : Addr) (h : Heap) (Z : Addr → Prop) (ob : Al) (v : Value) : AV → Prop
  | .fz d => DI h Z v d
  | .own ds => OwnI h Z v ds
  | .obj => ∃ a, v = .ref a ∧ OBI L h Z a ob
structure Stt (env : Env) (L : Addr) (m : Str → Option Value) (Z : Addr → Prop) (S : PS) (h : Heap) : Prop where
  fm : Fm G.H₀ L m Z h
  rd : ∀ x av, look x S.loc = some av → kV env.scope.names (G.T x) = true → ∃ v, VarV env L m h (G.T x) v ∧ AVI L h Z S.ob v av
  cel : ∀ x, (env.kindOf x = some .cell ∨ env.kindOf x = some .free) → ∃ c v, env.cells.lookup x = some c ∧ h.IsCell c v ∧ Z c
  dis : ∀ x y c, (env.kindOf x = some .cell ∨ env.kindOf x = some .free) → (env.kindOf y = some .cell ∨ env.kindOf y = some .free) → env.cells.lookup x = some c → env.cells.lookup y = some c → x = y
noncomputable def Kt (t : Addr → Prop) (h h' : Heap) : Prop := ∀ b o, ¬ t b → h.get? b = some o → h'.get? b = some o
noncomputable def Tch (L : Addr) (h : Heap) (t : Addr → Prop) : Prop := ∀ b, t b → b = L ∨ ∃ v, h.IsCell b v
section
variable {H₀ h h' : Heap} {L : Addr} {m m' : Str → Option Value} {Z Z' t : Addr → Prop} {env : Env} {S : PS}
theorem Fr.ncell {c : Addr} (F : Fr H₀ L h m) {v : Option Value} (g : h.IsCell c v) : c ≠ L := fun e => by
  subst e
  obtain ⟨o, g, e⟩ := g
  obtain ⟨o', es, ep, g', e', _⟩ := F.ns
  rw [g] at g'; cases Option.some.inj g'
  rw [e] at e'; cases e'
theorem Fr.nplain {c C dx : Addr} (F : Fr H₀ L h m) (g : h.get? c = some (instObj C dx)) : c ≠ L := fun e => by
  subst e
  obtain ⟨o', es, ep, g', e', _⟩ := F.ns
  rw [g] at g'; cases Option.some.inj g'
  cases e'
theorem Tch.seq (T : Tch L h t) (F : Fr H₀ L h m) {a : Addr} {o : Obj} {vs : Array Value} {n : Nat} (g : h.get? a = some o) (q : o.data = .seq vs n) : ¬ t a := fun c => by
  rcases T a c with rfl | ⟨v, o', g', e⟩
  · exact Fr.notSeq F g q
  · rw [g] at g'; cases g'; rw [q] at e; cases e
theorem Tch.inst (T : Tch L h t) (F : Fr H₀ L h m) {a C dx : Addr} (g : h.get? a = some (instObj C dx)) : ¬ t a := fun c => by
  rcases T a c with rfl | ⟨v, o', g', e⟩
  · exact Fr.nplain F g rfl
  · rw [g] at g'; cases g'; cases e
theorem Tch.dict (T : Tch L h t) {a : Addr} {es : List DictEntry} {n : Nat} (g : h.get? a = some (dictOf es n)) (ne : a ≠ L) : ¬ t a := fun c => by
  rcases T a c with rfl | ⟨v, o', g', e⟩
  · exact ne rfl
  · rw [g] at g'; cases g'; cases e
theorem Kp.kt (k : Kp L h h') : Kt (· = L) h h' := fun b o n e => k b o n e
theorem Tch.self : Tch L h (· = L) := fun b e => .inl e
theorem VarV.keep {x : Str} {v : Value} (p : VarV env L m h x v) (F : Fr H₀ L h m) (k : Kp L h h') : VarV env L m h' x v := by
  rcases p with p | ⟨a, c, b, d⟩
  · exact .inl p
  · have := Fr.ncell F d
    obtain ⟨o, g, e⟩ := d
    exact .inr ⟨a, c, b, o, k _ _ this g, e⟩
theorem LsAt.mvt {v : Value} {ds : List D} {a : Addr} {vs : List Value} {n : Nat} (p : LsAt h Z v ds a vs n) (F : Fr H₀ L h m) (T : Tch L h t) (k : Kt t h h') (mv : Mv h Z h' Z') : LsAt h' Z' v ds a vs n :=
  ⟨p.ref, k _ _ (T.seq F p.at_ rfl) p.at_, p.len, p.its.mv mv⟩
theorem OwnI.mvt {v : Value} {ds : List D} (p : OwnI h Z v ds) (F : Fr H₀ L h m) (T : Tch L h t) (k : Kt t h h') (mv : Mv h Z h' Z') : OwnI h' Z' v ds := by obtain ⟨a, vs, n, q⟩ := p; exact ⟨a, vs, n, q.mvt F T k mv⟩
theorem AV1.mvt {v : Value} {av : AV} (p : AV1 h Z v av) (F : Fr H₀ L h m) (T : Tch L h t) (k : Kt t h h') (mv : Mv h Z h' Z') : AV1 h' Z' v av := by
  cases av with
  | fz d => exact DI.mv mv p
  | own ds => exact OwnI.mvt p F T k mv
  | obj => exact p
theorem AttI.mvt {es : List DictEntry} {ob : Al} (p : AttI h Z es ob) (F : Fr H₀ L h m) (T : Tch L h t) (k : Kt t h h') (mv : Mv h Z h' Z') : AttI h' Z' es ob :=
  ⟨p.len, p.keys, fun a av e => by obtain ⟨i, v, q, r⟩ := p.get a av e; exact ⟨i, v, q, r.mvt F T k mv⟩, p.non⟩
theorem OBI.mvt {a : Addr} {ob : Al} (p : OBI L h Z a ob) (F : Fr H₀ L h m) (T : Tch L h t) (k : Kt t h h') (mv : Mv h Z h' Z') : OBI L h' Z' a ob :=
  let ⟨dx, es, n, g, g', ne, at'⟩ := p
  ⟨dx, es, n, k _ _ (T.inst F g) g, k _ _ (T.dict g' ne) g', ne, at'.mvt F T k mv⟩
theorem AVI.mvt {ob : Al} {v : Value} {av : AV} (p : AVI L h Z ob v av) (F : Fr H₀ L h m) (T : Tch L h t) (k : Kt t h h') (mv : Mv h Z h' Z') : AVI L h' Z' ob v av := by
  cases av with
  | fz d => exact DI.mv mv p
  | own ds => exact OwnI.mvt p F T k mv
  | obj => obtain ⟨a, e, q⟩ := p; exact ⟨a, e, q.mvt F T k mv⟩
theorem OBI.keep {a : Addr} {ob : Al} (p : OBI L h Z a ob) (F : Fr H₀ L h m) (k : Kp L h h') (z : Z L) : OBI L h' Z a ob := p.mvt F Tch.self k.kt (k.mv z)
theorem AVI.keep {ob : Al} {v : Value} {av : AV} (p : AVI L h Z ob v av) (F : Fr H₀ L h m) (k : Kp L h h') (z : Z L) : AVI L h' Z ob v av := p.mvt F Tch.self k.kt (k.mv z)
theorem DQ.keep {v : Value} {d : D} (q : DQ h Z v d) (F : Fr H₀ L h m) (k : Kp L h h') (z : Z L) : DQ h' Z v d := by
  cases q with
  | dat q => exact .dat (q.mv (k.mv z))
  | own e1 e2 g l r => exact .own e1 e2 (k _ _ (fun q => Fr.notSeq F (q ▸ g) rfl) g) l (r.mv (k.mv z))
theorem Stt.keep (p : Stt env L m Z S h) (F : Fr G.H₀ L h' m) (k : Kp L h h') : Stt env L m Z S h' :=
  ⟨p.fm.keep F k, fun x av e c => let ⟨v, a, b⟩ := p.rd x av e c; ⟨v, a.keep p.fm.fr k, b.keep p.fm.fr k p.fm.zL⟩, fun x hx => let ⟨c, v, a, b, d⟩ := p.cel x hx; ⟨c, v, a, (let ⟨o, g, e⟩ := b; ⟨o, k _ _ (Fr.ncell p.fm.fr b) g, e⟩), d⟩, p.dis⟩
theorem OwnI.dq {v : Value} {ds : List D} (p : OwnI h Z v ds) : DQ h Z v (.list ds) := by obtain ⟨a, vs, n, q⟩ := p; exact .own q.ref rfl q.at_ q.len q.its
end
structure EnvOK (env : Env) : Prop where
  kind : env.scope.kind = .function
  glob : env.globals = mainGlobals
  blt : env.builtins = builtinsNs
noncomputable def Rm (A : Around) (k : Nat) : Prop := A.handled = none ∧ A.depth + k < recursionLimit ∧ A.units + 20 * k + 200 < cLine
theorem Rm.le {A : Around} {k j : Nat} (r : Rm A k) (h : j ≤ k) : Rm A j := ⟨r.1, by have := r.2.1; lia, by have := r.2.2; lia⟩
theorem Rm.units {A : Around} {k : Nat} (r : Rm A k) : A.units + 100 < cLine := by have := r.2.2; lia
noncomputable def Old (h : Heap) : Prop := (∀ b o, G.H₀.get? b = some o → h.get? b = some o) ∧ G.H₀.objs.size ≤ h.objs.size
theorem Fr.old {L : Addr} {h : Heap} {m : Str → Option Value} (F : Fr G.H₀ L h m) : Old h := ⟨F.keep, Nat.le_of_lt (Nat.lt_of_le_of_lt F.above F.ns.lt)⟩
noncomputable def Ks (h h' : Heap) : Prop := ∀ b o, h.get? b = some o → h'.get? b = some o
structure ZO (h : Heap) (Z : Addr → Prop) : Prop where
  za : ∀ z, Z z → ∃ o, h.get? z = some o
  zH : ∀ z, Z z → G.H₀.get? z = none
theorem Stt.zo {env : Env} {L : Addr} {m : Str → Option Value} {Z : Addr → Prop} {S : PS} {h : Heap} (p : Stt env L m Z S h) : ZO h Z := ⟨p.fm.za, p.fm.zH⟩
theorem Ks.kp {h h' : Heap} (k : Ks h h') (L : Addr) : Kp L h h' := fun b o _ e => k b o e
theorem Fr.ks {H₀ h h' : Heap} {L : Addr} {m : Str → Option Value} (F : Fr H₀ L h m) (k : Ks h h') : Fr H₀ L h' m := ⟨F.ns.keeps k, fun b o e => k _ _ (F.keep b o e), F.above⟩
noncomputable def GlOK (x : Nat) (d : D) : Prop := ∃ v, nsIn G.K mainGlobals (G.T x) = some (some v) ∧ DI G.H₀ (fun _ => False) v d
noncomputable def FnOK (k : Nat) (f : Nat) (F : List D → Option D) : Prop := ∀ ds d, F ds = some d → ∃ fa, nsIn G.K mainGlobals (G.T f) = some (some (.ref fa)) ∧ keepIn G.K (.ref fa) = true ∧
  ∀ (A : Around) (s : Shared) (vals : List Value) (Z : Addr → Prop) (R : Result → Shared → Prop), Rm A k → Old s.heap → ZO s.heap Z → DIs s.heap Z vals ds →
    (∀ v h' tk, Ks s.heap h' → DI h' Z v d → R (.ok (.ret v)) { s with heap := h', toks := tk }) → codeAny (model G.prog G.w) A (.call (.ref fa) ⟨vals, []⟩) R s
structure MethAt (f : Nat) (fa : Addr) : Prop where
  find : findIn G.K (.ref G.C) (G.T f) = some (some (.ref fa))
  fn : isFn G.K (.ref fa) = true
  keep : keepIn G.K (.ref fa) = true
  get : plainGet G.K G.C (G.T f) = true
  no : f ∉ G.attrs
noncomputable def PmOK (k : Nat) (f : Nat) (F : Al → List D → Option D) : Prop := ∀ ob ds d, F ob ds = some d → ∃ fa, MethAt f fa ∧
  ∀ (A : Around) (s : Shared) (o L : Addr) (vals : List Value) (Z : Addr → Prop) (R : Result → Shared → Prop), Rm A k → Old s.heap → ZO s.heap Z → OBI L s.heap Z o ob → DIs s.heap Z vals ds →
    (∀ v h' tk, Ks s.heap h' → DI h' Z v d → R (.ok (.ret v)) { s with heap := h', toks := tk }) → codeAny (model G.prog G.w) A (.call (.ref fa) ⟨.ref o :: vals, []⟩) R s
structure SndO (k : Nat) (O : Orc) : Prop where
  gl : ∀ x d, O.gl x = some d → GlOK x d
  fn : ∀ f, FnOK k f (O.fn f)
  pm : ∀ f, PmOK k f (O.pm f)
section
variable {A : Around} {E : Value → Shared → Prop} {s : Shared} {env : Env} {L : Addr} {m : Str → Option Value} {Z : Addr → Prop} {S : PS} {Q : Value → Shared → Prop}
theorem name_ok {x : Str} {pos : Pos} {v : Value} (F : Fr G.H₀ L s.heap m) (hE : EnvOK env) (c : kV env.scope.names x = true) (p : VarV env L m s.heap x v) (h : Q v s) : wpAny (model G.prog G.w) A (eval (.Name x pos) env) Q E s := by
  unfold kV at c
  simp only [Bool.and_eq_true, Bool.not_eq_true', Bool.or_eq_false_iff] at c
  refine wpAny_Name ?_ c.1.1
  rcases p with ⟨a, b, e⟩ | ⟨a | a, c', b, d⟩
  · subst b; exact wpAny_loadName_local hE.kind a F.ns e h
  · exact wpAny_loadName_cell hE.kind a b d h
  · exact wpAny_loadName_free hE.kind a b d h c.1.2.1
theorem blt_boot : ∀ p ∈ bltNames, bootBuiltins p.1 = some p.2 ∧ p.1 ≠ ("__name__" : Str) := by
  intro p hp
  simp only [bltNames, List.mem_cons, List.not_mem_nil, or_false] at hp
  rcases hp with rfl | rfl | rfl | rfl | rfl | rfl | rfl | rfl | rfl | rfl | rfl | rfl <;> exact ⟨by kernel_rfl, by decide⟩
theorem blt_ok [GOK] {p : Str × Value} {pos : Pos} (F : Fr G.H₀ L s.heap m) (hE : EnvOK env) (hp : p ∈ bltNames) (c : kG env.scope.names p.1 = true) (h : Q p.2 s) : wpAny (model G.prog G.w) A (eval (.Name p.1 pos) env) Q E s := by
  unfold kG at c
  simp only [Bool.and_eq_true, Bool.not_eq_true', beq_iff_eq] at c
  refine Name_function_global hE.kind c.2 ?_ c.1
  refine loadGlobal_builtin (mg := G.mg) (mb := G.mb) (by rw [hE.glob]; exact GOK.g.keeps F.keep) (mg_none_of GOK.X GOK.g (G_blt p hp)) (by rw [hE.blt]; exact GOK.b.keeps F.keep) ?_ h
  rw [GOK.bb _ (blt_boot p hp).2]; exact (blt_boot p hp).1
theorem glob_ok [GOK] {x : Str} {v : Value} {pos : Pos} (F : Fr G.H₀ L s.heap m) (hE : EnvOK env) (e : nsIn G.K mainGlobals x = some (some v)) (c : kG env.scope.names x = true) (h : Q v s) : wpAny (model G.prog G.w) A (eval (.Name x pos) env) Q E s := by
  unfold kG at c
  simp only [Bool.and_eq_true, Bool.not_eq_true', beq_iff_eq] at c
  refine Name_function_global hE.kind c.2 ?_ c.1
  exact loadGlobal_global (mg := G.mg) (by rw [hE.glob]; exact GOK.g.keeps F.keep) (mg_of GOK.X GOK.g e) h
theorem attr_ok [GOK] {x a : Nat} {p q : Pos} {av : AV} (st : Stt env L m Z S s.heap) (hE : EnvOK env) (c : kV env.scope.names (G.T x) = true) (ho : isObj x S.loc = true) (e : look a S.ob = some av)
    (h : ∀ v tk, AV1 s.heap Z v av → Q v { s with toks := tk }) : wpAny (model G.prog G.w) A (eval (.Attribute (.Name (G.T x) q) (G.T a) p) env) Q E s := by
  have hl : look x S.loc = some .obj := by
    unfold isObj at ho
    split at ho
    · assumption
    · cases ho
  obtain ⟨v, vv, o, rfl, dx, es, n, g, g', ne, at'⟩ := st.rd x _ hl c
  obtain ⟨ia, v, gl, a1⟩ := at'.get a av e
  have ok := G_att a ia
  unfold attrOK at ok
  simp only [Bool.and_eq_true, beq_iff_eq] at ok
  refine Attribute_name (name_ok st.fm.fr hE c vv ?_)
  have hv : handedIn v = true := by
    cases av with
    | fz d => cases (show DI _ _ _ _ from a1) <;> rfl
    | own ds => obtain ⟨_, _, _, z⟩ := (show OwnI _ _ _ _ from a1); cases z.ref; rfl
    | obj => exact absurd a1 id
  exact get_own st.fm.fr GOK.X ⟨g, rfl, rfl, g'⟩ ok.1.1.1.1.1.1 ok.1.1.1.1.1.2 ok.1.1.1.1.2 ok.1.1.1.2 gl hv (h v _ a1)
end
end
section
noncomputable def TE (env : Env) (A : Around) (L : Addr) (S : PS) (e : Expr) (d : D) : Prop :=
  ∀ m Z (s : Shared) (Q E : Value → Shared → Prop), Stt env L m Z S s.heap → Rt G.H₀ L m Z s.heap s Q d → wpAny (model G.prog G.w) A (eval e env) Q E s
noncomputable def TQ (env : Env) (A : Around) (L : Addr) (S : PS) (e : Expr) (d : D) : Prop :=
  ∀ m Z (s : Shared) (Q E : Value → Shared → Prop), Stt env L m Z S s.heap → (∀ v h' tk, Fr G.H₀ L h' m → Kp L s.heap h' → DQ h' Z v d → Q v { s with heap := h', toks := tk }) → wpAny (model G.prog G.w) A (eval e env) Q E s
noncomputable def TEs (env : Env) (A : Around) (L : Addr) (S : PS) (es : List Expr) (ds : List D) : Prop :=
  ∀ m Z (s : Shared) (Q : List Value → Shared → Prop) (E : Value → Shared → Prop), Stt env L m Z S s.heap → (∀ vs h' tk, Fr G.H₀ L h' m → Kp L s.heap h' → DIs h' Z vs ds → Q vs { s with heap := h', toks := tk }) →
    wpAny (model G.prog G.w) A (spliced (es.map fun e => (false, eval e env))) Q E s
noncomputable def TO (env : Env) (A : Around) (L : Addr) (S : PS) (e : Option Expr) (d : Option D) : Prop :=
  ∀ m Z (s : Shared) (Q E : Value → Shared → Prop), Stt env L m Z S s.heap → (∀ v h' tk, Fr G.H₀ L h' m → Kp L s.heap h' → PtV h' Z v d → Q v { s with heap := h', toks := tk }) → wpAny (model G.prog G.w) A (evalPart e env) Q E s
noncomputable def TT (env : Env) (A : Around) (L : Addr) (S : PS) (e : Expr) (c : Bool) : Prop :=
  ∀ m Z (s : Shared) (Q : Bool → Shared → Prop) (E : Value → Shared → Prop), Stt env L m Z S s.heap → (∀ h' tk, Fr G.H₀ L h' m → Kp L s.heap h' → Q c { s with heap := h', toks := tk }) → wpAny (model G.prog G.w) A (isTrue e env (eval e env)) Q E s
noncomputable def okE : Expr → Bool
  | .Starred .. | .Set .. | .Slice .. => false
  | _ => true
theorem okE_E (T : Nat → Str) (x : Ex) : okE (toE T x) = true := by cases x <;> rfl
theorem okE_Q (T : Nat → Str) (x : Qx) : okE (toQ T x) = true := by cases x <;> first | rfl | exact okE_E T _
theorem okE_Es (T : Nat → Str) : ∀ x : Exs, ∀ e ∈ toEs T x, okE e = true
  | .nil, _, h => nomatch h
  | .cons x r, e, h => by
    rcases List.mem_cons.mp h with rfl | h
    · exact okE_E T x
    · exact okE_Es T r e h
section
variable {A : Around} {E : Value → Shared → Prop} {s : Shared} {env : Env}
theorem args_trees {pos : Pos} : ∀ {es : List Expr}, (∀ e ∈ es, okE e = true) → backTo pos (starEach es env) = es.map fun e => (false, eval e env) := by
  intro es
  induction es with
  | nil => exact fun _ => rfl
  | cons e r ih =>
    intro h
    have h1 := h e (.head _)
    have ih := ih fun x hx => h x (.tail _ hx)
    have : starEach (e :: r) env = (false, eval e env) :: starEach r env := by
      cases e <;> first | rfl | cases h1
    rw [this]
    exact congrArg _ ih
theorem wpAny_isTrue_of1 {l r : Expr} {op : CmpOp} {pos : Pos} {whole : Sem Value} {Q : Bool → Shared → Prop}
    (h : wpAny (model G.prog G.w) A (eval (.Compare l [op] [r] pos) env) (fun c s' => wpAny (model G.prog G.w) A (truthy c) Q E s') E s) : wpAny (model G.prog G.w) A (isTrue (.Compare l [op] [r] pos) env whole) Q E s := fun Γ p hΓ => by
  have := h Γ p hΓ
  simp only [eval_Compare1, isTrue_Compare1, Sem.wp_bind', Sem.wp_holding, Sem.wp_cmd_standAt, Sem.wp_operate] at this ⊢
  exact Sem.wp_mono _ Γ _ (fun a p₁ s₁ h₁ => Sem.wp_mono _ Γ _ (fun b p₂ s₂ h₂ => Sem.wp_mono _ Γ _ (fun c p₃ s₃ h₃ => h₃ Γ p₃ hΓ)
    (fun _ _ _ h' => h') _ _ h₂) (fun _ _ _ h' => h') _ _ h₁) (fun _ _ _ h' => h') _ _ this
theorem marks_ok {op : CmpOp} {r : Expr} (h : okE r = true) : behindInMarks op r = false := by
  cases r <;> first | rfl | cases h
theorem any_args (es : List Expr) : (es.map fun e => (false, eval e env)).any (·.1) = false := by
  induction es with
  | nil => rfl
  | cons e r ih => exact ih
end
section
variable {k : Nat} {env : Env} {A : Around} {L : Addr} {S : PS} {m : Str → Option Value} {Z : Addr → Prop} {s : Shared} {E : Value → Shared → Prop}
theorem evalArgs_ok {f : Value} {es : List Expr} {ds : List D} {Q : Args → Shared → Prop} (h : TEs env A L S es ds) (h0 : es = [] → ds = []) (st : Stt env L m Z S s.heap)
    (k : ∀ vs h' tk, Fr G.H₀ L h' m → Kp L s.heap h' → DIs h' Z vs ds → Q ⟨vs, []⟩ { s with heap := h', toks := tk }) :
    wpAny (model G.prog G.w) A (evalArgs f true (es.map fun e => (false, eval e env)) []) Q E s := by
  cases es with
  | nil => cases h0 rfl; exact PyProof.Rows.evalArgs_none (k [] s.heap s.toks st.fm.fr (Kp.refl _ _) .nil)
  | cons e r => exact evalArgs_plain (h m Z s _ E st k)
theorem callW_ok [GOK] {f : Value} {es : List Expr} {ds : List D} {pos : Pos} {first : List Value} {Q : Value → Shared → Prop} (h : TEs env A L S es ds) (h0 : es = [] → ds = []) (hes : ∀ e ∈ es, okE e = true) (st : Stt env L m Z S s.heap) (hk : keepIn G.K f = true)
    (k : ∀ vs h' tk, Fr G.H₀ L h' m → Kp L s.heap h' → DIs h' Z vs ds → wpAny (model G.prog G.w) A (call f (first ++ vs)) Q E { s with heap := h', toks := tk }) :
    wpAny (model G.prog G.w) A (callWith pos f first (backTo pos (starEach es env)) []) Q E s := by
  rw [args_trees hes]
  refine callWith_of (P := G.K.In) ?_ (keeps_K hk) (evalArgs_ok h h0 st fun vs h' tk F p d => ⟨GOK.X.keeps F.keep, k vs h' tk F p d⟩)
  rw [any_args]; rfl
noncomputable def bt : Value → Bool
  | .builtin _ => true
  | .type _ => true
  | _ => false
theorem blt_two : (bltNames.all fun p => bt p.2) = true := by decide +kernel
theorem te_blt [GOK] {b : Str × Value} {es : List Expr} {d : D} {p q : Pos} (hE : EnvOK env) (hb : b ∈ bltNames) (c : kG env.scope.names b.1 = true) (hes : ∀ e ∈ es, okE e = true)
    (h : ∀ m Z (s : Shared) (Q E : Value → Shared → Prop), Stt env L m Z S s.heap → Rt G.H₀ L m Z s.heap s Q d → wpAny (model G.prog G.w) A (spliced (es.map fun e => (false, eval e env))) (fun vs s' => wpAny (model G.prog G.w) A (call b.2 vs) Q E s') E s)
    (hne : es ≠ []) : TE env A L S (.Call (.Name b.1 q) es [] p) d := fun m Z s Q E st kk => by
  refine Call_ (blt_ok st.fm.fr hE hb c ?_) rfl
  have tr := args_trees (env := env) (pos := p) hes
  have an := any_args (env := env) es
  have ev : ∀ (f : Value), wpAny (model G.prog G.w) A (spliced (es.map fun e => (false, eval e env))) (fun vs s' => wpAny (model G.prog G.w) A (call f vs) Q E s') E s →
      wpAny (model G.prog G.w) A (evalArgs f true (es.map fun e => (false, eval e env)) []) (fun a s' => wpAny (model G.prog G.w) A (call f ([] ++ a.pos) a.kw) Q E s') E s := fun f h => by
    cases es with
    | nil => exact absurd rfl hne
    | cons e r => exact evalArgs_plain h
  have r := ev b.2 (h m Z s Q E st kk)
  rw [tr]
  obtain ⟨x, v⟩ := b
  cases v with
  | builtin i => exact callWith_builtin an r
  | type t => exact PyProof.Rows.callWith_type an r
  | _ => exact absurd (List.all_eq_true.mp blt_two _ hb) Bool.false_ne_true
end
end
section
section
variable {k : Nat} {env : Env} {A : Around} {L : Addr} {S : PS}
theorem DI.dq {h : Heap} {Z : Addr → Prop} {v : Value} {d : D} (x : DI h Z v d) : DQ h Z v d := .dat x
theorem TE.q {e : Expr} {d : D} (h : TE env A L S e d) : TQ env A L S e d := fun m Z s Q E st k => h m Z s Q E st fun v h' tk F p x => k v h' tk F p x.dq
noncomputable def litOK : D → Bool
  | .none | .bool _ | .int _ => true
  | .str x => PyData.strOk x
  | _ => false
theorem te_lit {d : D} {p : Pos} (c : litOK d = true) : TE env A L S (.Constant (litOf d) 0 p) d := fun m Z s Q E st k => by
  cases d with
  | none => exact Constant_none (k.here st.fm (Kp.refl _ _) .none s.toks)
  | bool b => exact Constant_bool (k.here st.fm (Kp.refl _ _) (.bool b) s.toks)
  | int i => exact wpAny_Constant_int (k.here st.fm (Kp.refl _ _) (.int i _) _)
  | str x => exact wpAny_Constant_str (k.here st.fm (Kp.refl _ _) (.str x _ c) _)
  | _ => cases c
theorem te_neg {i : Int} {p q : Pos} : TE env A L S (.UnaryOp .USub (.Constant (.int i) 0 q) p) (.int (-i)) := fun m Z s Q E st k =>
  lit_neg Q fun v tk hv => by
    cases hv s.heap with
    | int t => exact k.here st.fm (Kp.refl _ _) (.int _ _) tk
theorem te_var {x : Nat} {p : Pos} {d : D} (hE : EnvOK env) (c : kV env.scope.names (G.T x) = true) (e : fzOf (look x S.loc) = some d) : TE env A L S (.Name (G.T x) p) d := fun m Z s Q E st k => by
  have e : look x S.loc = some (.fz d) := by
    cases q : look x S.loc with
    | none => rw [q] at e; cases e
    | some av => rw [q] at e; cases av <;> cases e; rfl
  obtain ⟨v, vv, a⟩ := st.rd x _ e c
  exact name_ok st.fm.fr hE c vv (k.here st.fm (Kp.refl _ _) a s.toks)
theorem ownOf_s {o : Option AV} {ds : List D} (e : ownOf o = some ds) : o = some (.own ds) := by
  cases o with
  | none => cases e
  | some av => cases av <;> cases e; rfl
theorem fzOf_s {o : Option AV} {d : D} (e : fzOf o = some d) : o = some (.fz d) := by
  cases o with
  | none => cases e
  | some av => cases av <;> cases e; rfl
theorem tq_ov {x : Nat} {p : Pos} {ds : List D} (hE : EnvOK env) (c : kV env.scope.names (G.T x) = true) (e : ownOf (look x S.loc) = some ds) : TQ env A L S (.Name (G.T x) p) (.list ds) := fun m Z s Q E st k => by
  obtain ⟨v, vv, a⟩ := st.rd x _ (ownOf_s e) c
  exact name_ok st.fm.fr hE c vv (k _ s.heap s.toks st.fm.fr (Kp.refl _ _) (OwnI.dq a))
theorem te_attr [GOK] {x a : Nat} {p q : Pos} {d : D} (hE : EnvOK env) (c : kV env.scope.names (G.T x) = true) (ho : isObj x S.loc = true) (e : fzOf (look a S.ob) = some d) :
    TE env A L S (.Attribute (.Name (G.T x) q) (G.T a) p) d := fun m Z s Q E st k =>
  attr_ok st hE c ho (fzOf_s e) fun v tk h => k.here st.fm (Kp.refl _ _) h tk
theorem tq_oa [GOK] {x a : Nat} {p q : Pos} {ds : List D} (hE : EnvOK env) (c : kV env.scope.names (G.T x) = true) (ho : isObj x S.loc = true) (e : ownOf (look a S.ob) = some ds) :
    TQ env A L S (.Attribute (.Name (G.T x) q) (G.T a) p) (.list ds) := fun m Z s Q E st k =>
  attr_ok st hE c ho (ownOf_s e) fun v tk h => k v s.heap tk st.fm.fr (Kp.refl _ _) (OwnI.dq h)
theorem te_glb [GOK] {x : Nat} {p : Pos} {d : D} (hE : EnvOK env) (c : kG env.scope.names (G.T x) = true) (g : GlOK x d) : TE env A L S (.Name (G.T x) p) d := fun m Z s Q E st k => by
  obtain ⟨v, e, i⟩ := g
  refine glob_ok st.fm.fr hE e c (k.here st.fm (Kp.refl _ _) (i.mv fun b o _ e => ⟨st.fm.fr.keep _ _ e, fun z => ?_⟩) s.toks)
  rw [st.fm.zH _ z] at e; cases e
theorem tes_nil : TEs env A L S [] [] := fun m Z s Q E st k => spliced_nil (k [] s.heap s.toks st.fm.fr (Kp.refl _ _) .nil)
theorem tes_cons {e : Expr} {es : List Expr} {d : D} {ds : List D} (h : TE env A L S e d) (hs : TEs env A L S es ds) : TEs env A L S (e :: es) (d :: ds) := fun m Z s Q E st k =>
  spliced_cons (h m Z s _ E st fun v h' tk F p x => hs m Z _ _ E (st.keep F p) fun vs h'' tk' F' p' xs =>
    k (v :: vs) h'' tk' F' (p.trans p') (.cons (x.mv (p'.mv st.fm.zL)) xs))
theorem te_tup {es : List Expr} {ds : List D} {p : Pos} (hes : ∀ e ∈ es, okE e = true) (h : TEs env A L S es ds) (hl : ds.length ≤ big) : TE env A L S (.Tuple es 0 p) (.tuple ds) := fun m Z s Q E st k => by
  refine Tuple_ ?_
  rw [args_trees hes]
  exact h m Z s _ E st fun vs h' tk F p x => newTuple_ok (st.keep F p).fm x (x.length ▸ hl) fun v h'' tk' F' p' y => k v h'' tk' F' (p.trans p') y
theorem te_bin {o : Op} {a b : Expr} {x y r : D} {p : Pos} (ha : TQ env A L S a x) (hb : TQ env A L S b y) (e : doBin o x y = some r) : TE env A L S (.BinOp a (opOf o) b p) r := fun m Z s Q E st k =>
  wpAny_BinOp (ha m Z s _ E st fun v h' tk F p q => hb m Z _ _ E (st.keep F p) fun v' h'' tk' F' p' q' =>
    bin_ok (s := { s with heap := h'', toks := tk' }) ((st.keep F p).keep F' p').fm (q.keep F p' st.fm.zL) q' e fun v h3 tk3 F3 p3 y => k v h3 tk3 F3 ((p.trans p').trans p3) y)
theorem te_cmp {o : Cm} {a b : Expr} {x y : D} {r : Bool} {p : Pos} (hu : A.units + 100 < cLine) (hm : okE b = true) (ha : TQ env A L S a x) (hb : TQ env A L S b y) (e : doCm o x y = some r) : TE env A L S (.Compare a [cmOf o] [b] p) (.bool r) := fun m Z s Q E st k =>
  wpAny_Compare1 (ha m Z s _ E st fun v h' tk F p q => hb m Z _ _ E (st.keep F p) fun v' h'' tk' F' p' q' =>
    cmp_ok (s := { s with heap := h'', toks := tk' }) (q.keep F p' st.fm.zL) q' e hu (k _ h'' tk' F' (p.trans p') (.bool r))) (marks_ok hm)
theorem te_ite {t a b : Expr} {c : Bool} {d : D} {p : Pos} (ht : TT env A L S t c) (ha : c = true → TE env A L S a d) (hb : c = false → TE env A L S b d) : TE env A L S (.IfExp t a b p) d := fun m Z s Q E st k =>
  IfExp_ (ht m Z s _ E st fun h' tk F p => by
    cases c with
    | true => exact ha rfl m Z _ Q E (st.keep F p) fun v h'' tk' F' p' y => k v h'' tk' F' (p.trans p') y
    | false => exact hb rfl m Z _ Q E (st.keep F p) fun v h'' tk' F' p' y => k v h'' tk' F' (p.trans p') y)
theorem te_idx {a b : Expr} {x y r : D} {p : Pos} (hs : ∀ a b' c q, b ≠ .Slice a b' c q) (ha : TQ env A L S a x) (hb : TE env A L S b y) (e : doIdx x y = some r) : TE env A L S (.Subscript a b p) r := fun m Z s Q E st k =>
  Subscript_ (ha m Z s _ E st fun v h' tk F p q => hb m Z _ _ E (st.keep F p) fun v' h'' tk' F' p' q' =>
    idx_ok (s := { s with heap := h'', toks := tk' }) (q.keep F p' st.fm.zL) q' e hs fun v i => k v h'' tk' F' (p.trans p') i)
theorem to_none : TO env A L S none none := fun m Z s Q E st k => wpAny_pure (k .none s.heap s.toks st.fm.fr (Kp.refl _ _) rfl)
theorem to_some {e : Expr} {d : D} (h : TE env A L S e d) : TO env A L S (some e) (some d) := fun m Z s Q E st k => h m Z s Q E st fun v h' tk F p x => k v h' tk F p x
theorem te_slc {a : Expr} {lo hi : Option Expr} {x r : D} {i j : Option D} {p q : Pos} (ha : TQ env A L S a x) (hl : TO env A L S lo i) (hh : TO env A L S hi j) (e : doSlc i j x = some r) :
    TE env A L S (.Subscript a (.Slice lo hi none q) p) r := fun m Z s Q E st k =>
  Subscript_ (ha m Z s _ E st fun v h1 t1 F1 p1 q1 => wpAny_Slice (hl m Z _ _ E (st.keep F1 p1) fun vl h2 t2 F2 p2 q2 => hh m Z _ _ E ((st.keep F1 p1).keep F2 p2) fun vu h3 t3 F3 p3 q3 =>
    wpAny_pure (by
      have st3 := ((st.keep F1 p1).keep F2 p2).keep F3 p3
      have pp : ∀ o, Kp L h3 (h3.push o) := fun o => Kp.push _ _ _
      refine slc_ok (s := { s with heap := h3.push _, toks := t3 }) (st3.keep (F3.push _) (pp _)).fm (((q1.keep F1 p2 st.fm.zL).keep F2 p3 st.fm.zL).keep F3 (pp _) st.fm.zL) ⟨_, Heap.get?_push_size _ rfl, rfl, rfl⟩
        ((q2.mv (p3.mv st.fm.zL)).mv ((pp _).mv st.fm.zL)) (q3.mv ((pp _).mv st.fm.zL)) e fun v h4 t4 F4 p4 y => k v h4 t4 F4 ((((p1.trans p2).trans p3).trans (pp _)).trans p4) y)))
theorem tt_q {e : Expr} {d : D} {c : Bool} (he : ∀ whole, isTrue e env whole = (do let v ← whole; standAt e.pos; holding [v] (truthy v))) (h : TQ env A L S e d) (t : truth d = some c) : TT env A L S e c := fun m Z s Q E st k =>
  isTrue_plain (h m Z s _ E st fun v h' tk F p x => truthy_ok (s := { s with heap := h', toks := tk }) x t fun tk' => k h' tk' F p) (he _)
theorem tt_one {l r : Expr} {op : CmpOp} {pos : Pos} {d : D} {c : Bool} (h : TE env A L S (.Compare l [op] [r] pos) d) (t : truth d = some c) : TT env A L S (.Compare l [op] [r] pos) c := fun m Z s Q E st k =>
  wpAny_isTrue_of1 (h m Z s _ E st fun v h' tk F p x => truthy_ok (s := { s with heap := h', toks := tk }) x.dq t fun tk' => k h' tk' F p)
theorem tt_not {e : Expr} {p : Pos} {c : Bool} (h : TT env A L S e c) : TT env A L S (.UnaryOp .Not e p) (!c) := fun m Z s Q E st k =>
  isTrue_not (h m Z s _ E st fun h' tk F p => k h' tk F p)
noncomputable def TB (env : Env) (A : Around) (L : Addr) (S : PS) (op : BoolOp) (es : List Expr) (p : Pos) (c : Bool) : Prop :=
  ∀ whole m Z (s : Shared) (Q : Bool → Shared → Prop) (E : Value → Shared → Prop), Stt env L m Z S s.heap → (∀ h' tk, Fr G.H₀ L h' m → Kp L s.heap h' → Q c { s with heap := h', toks := tk }) → wpAny (model G.prog G.w) A (isTrue (.BoolOp op es p) env whole) Q E s
theorem TB.tt {op : BoolOp} {es : List Expr} {p : Pos} {c : Bool} (h : TB env A L S op es p c) : TT env A L S (.BoolOp op es p) c := fun m Z s Q E st k => h _ m Z s Q E st k
theorem tb_all_nil {p : Pos} : TB env A L S .And [] p true := fun _ m Z s Q E st k => isTrue_and_nil (k s.heap s.toks st.fm.fr (Kp.refl _ _))
theorem tb_any_nil {p : Pos} : TB env A L S .Or [] p false := fun _ m Z s Q E st k => isTrue_or_nil (k s.heap s.toks st.fm.fr (Kp.refl _ _))
theorem tb_all {e : Expr} {es : List Expr} {p : Pos} {c r : Bool} (h : TT env A L S e c) (h1 : c = true → TB env A L S .And es p r) (h0 : c = false → r = false) : TB env A L S .And (e :: es) p r := fun wh m Z s Q E st k =>
  isTrue_and (h m Z s _ E st fun h' tk F p => by
    cases c with
    | true => exact h1 rfl wh m Z _ Q E (st.keep F p) fun h'' tk' F' p' => k h'' tk' F' (p.trans p')
    | false => cases h0 rfl; exact k h' tk F p)
theorem tb_any {e : Expr} {es : List Expr} {p : Pos} {c r : Bool} (h : TT env A L S e c) (h1 : c = false → TB env A L S .Or es p r) (h0 : c = true → r = true) : TB env A L S .Or (e :: es) p r := fun wh m Z s Q E st k =>
  isTrue_or (h m Z s _ E st fun h' tk F p => by
    cases c with
    | false => exact h1 rfl wh m Z _ Q E (st.keep F p) fun h'' tk' F' p' => k h'' tk' F' (p.trans p')
    | true => cases h0 rfl; exact k h' tk F p)
theorem tt_cmp2 {o o' : Cm} {a b c : Expr} {p : Pos} {x y : D} {t r : Bool} (hu : A.units + 100 < cLine) (hb' : okE b = true) (hc' : okE c = true) (ha : TE env A L S a x) (hb : TE env A L S b y) (e : doCm o x y = some t)
    (h1 : t = true → ∃ z, TE env A L S c z ∧ doCm o' y z = some r) (h0 : t = false → r = false) : TT env A L S (.Compare a [cmOf o, cmOf o'] [b, c] p) r := fun m Z s Q E st k => by
  refine isTrue_chain (ha m Z s _ E st fun va h1' t1 F1 p1 q1 => test_link (hb m Z _ _ E (st.keep F1 p1) fun vb h2 t2 F2 p2 q2 =>
    cmp_ok (s := { s with heap := h2, toks := t2 }) (q1.mv (p2.mv st.fm.zL)).dq q2.dq e hu (wpAny_truthy_bool ?_))) (by
      show behindInMarks (cmOf o') c = false
      exact marks_ok hc')
  cases t with
  | true =>
    obtain ⟨z, hc, e'⟩ := h1 rfl
    refine test_last (hc m Z _ _ E ((st.keep F1 p1).keep F2 p2) fun vc h3 t3 F3 p3 q3 => ?_)
    exact cmp_ok (s := { s with heap := h3, toks := t3 }) (q2.mv (p3.mv st.fm.zL)).dq q3.dq e' hu (wpAny_truthy_bool (k h3 t3 F3 ((p1.trans p2).trans p3)))
  | false => cases h0 rfl; exact k h2 t2 F2 (p1.trans p2)
theorem te_and {e e' : Expr} {es : List Expr} {p : Pos} {x d : D} {c : Bool} (h : TE env A L S e x) (t : truth x = some c) (h1 : c = true → TE env A L S (.BoolOp .And (e' :: es) p) d) (h0 : c = false → d = x) :
    TE env A L S (.BoolOp .And (e :: e' :: es) p) d := fun m Z s Q E st k =>
  BoolOp_and (h m Z s _ E st fun v h' tk F p q => truthy_ok (s := { s with heap := h', toks := tk }) q.dq t fun tk' => by
    cases c with
    | true => exact h1 rfl m Z _ Q E (st.keep F p) fun v h'' tk'' F' p' y => k v h'' tk'' F' (p.trans p') y
    | false => cases h0 rfl; exact k v h' tk' F p q)
theorem te_or {e e' : Expr} {es : List Expr} {p : Pos} {x d : D} {c : Bool} (h : TE env A L S e x) (t : truth x = some c) (h1 : c = false → TE env A L S (.BoolOp .Or (e' :: es) p) d) (h0 : c = true → d = x) :
    TE env A L S (.BoolOp .Or (e :: e' :: es) p) d := fun m Z s Q E st k =>
  BoolOp_or (h m Z s _ E st fun v h' tk F p q => truthy_ok (s := { s with heap := h', toks := tk }) q.dq t fun tk' => by
    cases c with
    | false => exact h1 rfl m Z _ Q E (st.keep F p) fun v h'' tk'' F' p' y => k v h'' tk'' F' (p.trans p') y
    | true => cases h0 rfl; exact k v h' tk' F p q)
theorem b1_mem (f : B1) : (b1Name f, b1Val f) ∈ bltNames := by
  cases f <;> decide +kernel
theorem b2_mem (f : B2) : (b2Name f, b2Val f) ∈ bltNames := by
  cases f <;> decide +kernel
theorem te_b1 [GOK] {f : B1} {e : Expr} {x d : D} {p q : Pos} (hE : EnvOK env) (hh : A.handled = none) (c : kG env.scope.names (b1Name f) = true) (ok : okE e = true) (h : TQ env A L S e x) (r : doB1 f x = some d) :
    TE env A L S (.Call (.Name (b1Name f) q) [e] [] p) d :=
  te_blt (b := (b1Name f, b1Val f)) hE (b1_mem f) c (fun e' he => by rw [List.mem_singleton.mp he]; exact ok) (fun m Z s Q E st k => spliced_cons (h m Z s _ E st fun v h' tk F p i => spliced_nil
    (b1_ok (s := { s with heap := h', toks := tk }) (st.keep F p).fm hh i r fun v h'' tk' F' p' y => k v h'' tk' F' (p.trans p') y))) (by simp)
theorem te_b2 [GOK] {f : B2} {a b : Expr} {x y d : D} {p q : Pos} (hE : EnvOK env) (hh : A.handled = none) (c : kG env.scope.names (b2Name f) = true) (oa : okE a = true) (ob : okE b = true) (ha : TE env A L S a x) (hb : TE env A L S b y) (r : doB2 f x y = some d) :
    TE env A L S (.Call (.Name (b2Name f) q) [a, b] [] p) d :=
  te_blt (b := (b2Name f, b2Val f)) hE (b2_mem f) c (fun e' he => by rcases List.mem_cons.mp he with rfl | he; exact oa; rw [List.mem_singleton.mp he]; exact ob) (fun m Z s Q E st k =>
    tes_cons ha (tes_cons hb tes_nil) m Z s _ E st fun vs h' tk F p i => by
      cases i with | cons i1 i => cases i with | cons i2 i => cases i with | nil =>
      exact b2_ok (s := { s with heap := h', toks := tk }) (st.keep F p).fm hh i1 i2 r fun v h'' tk' F' p' y => k v h'' tk' F' (p.trans p') y) (by simp)
theorem te_isNone {e : Expr} {x : D} {p q : Pos} (h : TE env A L S e x) : TE env A L S (.Compare e [.Is] [.Constant .none 0 q] p) (.bool (isNo x)) := fun m Z s Q E st k =>
  wpAny_Compare1 (h m Z s _ E st fun v h' tk F p i => Constant_none (is_none_gen (by
    have : (v == Value.none) = isNo x := by cases i <;> rfl
    rw [this]
    exact k _ h' tk F p (.bool _)))) rfl
theorem ty_mem (t : Ty) : ((Str.ofString (tyStr t), .type (tyStr t)) : Str × Value) ∈ bltNames := by
  cases t <;> decide +kernel
theorem type_eq (a b : String) : (Value.type a == Value.type b) = (a == b) := by
  by_cases h : a = b
  · subst h; simp
  · rw [beq_eq_false_iff_ne.mpr h]; exact beq_eq_false_iff_ne.mpr fun e => h (by cases e; rfl)
theorem te_isTy [GOK] {e : Expr} {x : D} {t : Ty} {p c f q : Pos} (hE : EnvOK env) (c1 : kG env.scope.names "type" = true) (c2 : kG env.scope.names (Str.ofString (tyStr t)) = true) (ok : okE e = true) (h : TE env A L S e x) :
    TE env A L S (.Compare (.Call (.Name "type" f) [e] [] c) [.Is] [.Name (Str.ofString (tyStr t)) q] p) (.bool (tyName x == tyStr t)) := fun m Z s Q E st k =>
  wpAny_Compare1 (by
    refine Call_ (blt_ok (p := (("type" : Str), .type "type")) st.fm.fr hE (by decide +kernel) c1 ?_) rfl
    rw [args_trees (es := [e]) (fun e' he => by rw [List.mem_singleton.mp he]; exact ok)]
    refine PyProof.Rows.callWith_type (any_args [e]) (evalArgs_plain (spliced_cons (h m Z s _ E st fun v h' tk F p i => spliced_nil (type_ok (s := { s with heap := h', toks := tk }) i ?_))))
    refine blt_ok (s := { s with heap := h', toks := tk }) (p := (Str.ofString (tyStr t), .type (tyStr t))) F hE (ty_mem t) c2 ?_
    refine wpAny_pure (a := Value.bool (Value.type (tyName x) == Value.type (tyStr t))) ?_
    rw [type_eq]
    exact k _ h' tk F p (.bool _)) rfl
theorem te_call [GOK] {f : Nat} {es : List Expr} {ds : List D} {d : D} {p q : Pos} {F : List D → Option D} (hE : EnvOK env) (c : kG env.scope.names (G.T f) = true) (hA : Rm A k) (hF : FnOK k f F) (hes : ∀ e ∈ es, okE e = true) (h0 : es = [] → ds = []) (h : TEs env A L S es ds) (e : F ds = some d) :
    TE env A L S (.Call (.Name (G.T f) q) es [] p) d := fun m Z s Q E st kk => by
  obtain ⟨fa, e1, e2, hc⟩ := hF ds d e
  refine Call_ (glob_ok st.fm.fr hE e1 c (callW_ok h h0 hes st e2 fun vs h' tk F p i => ?_)) rfl
  refine wpAny_call (hc A { s with heap := h', toks := tk } vs Z _ hA (Fr.old F) (st.keep F p).zo i fun v h'' tk' ks y => ?_)
  exact kk v h'' tk' (Fr.ks F ks) (p.trans (ks.kp L)) y
theorem methCall_gen {o : Expr} {name : Str} {apos pos : Pos} {es : List Expr} (ho : attributeBase o name env (eval o env) = eval o env) (hes : ∀ e ∈ es, okE e = true) (hl : es.length < 30) (hp : apos.endLine = pos.line) :
    eval (.Call (.Attribute o name apos) es [] pos) env = (do
      let ov ← eval o env
      standAt apos.atName
      let (f, first) ← holding [ov] (getMethod ov name (do return (← importBound o env).getD true))
      callWith pos f first (backTo pos (starEach es env)) []) := by
  have hf : methodCallForm (es.length + ([] : List Keyword).length) (backTo pos (starEach es env)) (backToKw pos (keywordEach [] env)) = true := by
    rw [args_trees hes]
    unfold methodCallForm
    simp only [Bool.and_eq_true]
    refine ⟨⟨?_, rfl⟩, decide_eq_true hl⟩
    clear hes hl
    induction es with
    | nil => rfl
    | cons e r ih => exact ih
  show (do
    let ov ← attributeBase o name env (eval o env)
    standAt apos.atName
    methodCall o name apos pos env ov (es.length + ([] : List Keyword).length) (backTo pos (starEach es env)) (backToKw pos (keywordEach [] env))) = _
  rw [ho]
  unfold methodCall
  rw [hf]
  have hq : methodCallPos true o env apos pos = pure pos := by
    unfold methodCallPos
    rw [hp]
    simp
  rw [hq]
  rfl
theorem te_meth [GOK] {x f : Nat} {es : List Expr} {ds : List D} {d : D} {p a q : Pos} {F : Al → List D → Option D} (hE : EnvOK env) (c : kV env.scope.names (G.T x) = true) (hA : Rm A k) (hF : PmOK k f F) (hes : ∀ e ∈ es, okE e = true) (h0 : es = [] → ds = []) (h : TEs env A L S es ds) (ho : isObj x S.loc = true)
    (hn : es.length < 30) (hp : a.endLine = p.line) (e : F S.ob ds = some d) : TE env A L S (.Call (.Attribute (.Name (G.T x) q) (G.T f) a) es [] p) d := fun m Z s Q E st kk => by
  obtain ⟨fa, M, hc⟩ := hF S.ob ds d e
  have hlx : look x S.loc = some .obj := by
    unfold isObj at ho
    split at ho
    · assumption
    · cases ho
  obtain ⟨v, vv, o, rfl, dx, os, n, g, g', ne, at'⟩ := st.rd x _ hlx c
  refine MethodCall_ (name_ok st.fm.fr hE c vv (method_inst st.fm.fr GOK.X ⟨g, rfl, rfl, g'⟩ M.get M.find M.fn (at'.non _ fun j av q q' => ?_) (callW_ok (first := [.ref o]) h h0 hes st M.keep fun vs h' tk F p i => ?_))) (methCall_gen rfl hes hn hp)
  · rw [G_inj _ _ q'] at q; exact M.no (at'.get f av q).1
  · refine wpAny_call (hc A { s with heap := h', toks := tk } o L vs Z _ hA (Fr.old F) (st.keep F p).zo (OBI.keep ⟨dx, os, n, g, g', ne, at'⟩ st.fm.fr p st.fm.zL) i fun v h'' tk' ks y => ?_)
    exact kk v h'' tk' (Fr.ks F ks) (p.trans (ks.kp L)) y
end
end
section
noncomputable def TF (env : Env) (A : Around) (L : Addr) (S : PS) (e : Expr) (ds : List D) : Prop :=
  ∀ m Z (s : Shared) (Q E : Value → Shared → Prop), Stt env L m Z S s.heap → Rf G.H₀ L m Z s.heap s Q ds → wpAny (model G.prog G.w) A (eval e env) Q E s
section
variable {k : Nat} {env : Env} {A : Around} {L : Addr} {S : PS}
theorem TF.te {e : Expr} {ds : List D} (h : TF env A L S e ds) : TE env A L S e (.list ds) := fun m Z s Q E st k => h m Z s Q E st (Rt.rf st.fm k)
theorem Rf.later {m : Str → Option Value} {Z : Addr → Prop} {s : Shared} {Q : Value → Shared → Prop} {ds : List D} {h' : Heap} {tk : Nat} (k : Rf G.H₀ L m Z s.heap s Q ds) (p : Kp L s.heap h') (hL : ∃ o, s.heap.get? L = some o) :
    Rf G.H₀ L m Z h' { s with heap := h', toks := tk } Q ds := fun q vs n h'' tk' F' p' e x => k q vs n h'' tk' F' (p.trans p') (by
  cases z : s.heap.get? q with
  | none => rfl
  | some o =>
    by_cases c : q = L
    · subst c
      exact absurd (x.at_) fun g => Fr.notSeq F' g rfl
    · rw [p q o c z] at e; cases e) x
theorem Stt.hasL {m : Str → Option Value} {Z : Addr → Prop} {h : Heap} (st : Stt env L m Z S h) : ∃ o, h.get? L = some o := st.fm.za L st.fm.zL
theorem tf_lst {es : List Expr} {ds : List D} {p : Pos} (hes : ∀ e ∈ es, okE e = true) (h : TEs env A L S es ds) (hl : ds.length ≤ big) : TF env A L S (.List es p) ds := fun m Z s Q E st k => by
  refine List_ ?_
  rw [args_trees hes]
  exact h m Z s _ E st fun vs h' tk F p x => newList_fresh (s := { s with heap := h', toks := tk }) (st.keep F p).fm x (x.length ▸ hl) (k.later p st.hasL)
theorem tf_bin {o : Op} {a b : Expr} {x y : D} {ds : List D} {p : Pos} (ha : TQ env A L S a x) (hb : TQ env A L S b y) (e : doBin o x y = some (.list ds)) : TF env A L S (.BinOp a (opOf o) b p) ds := fun m Z s Q E st k =>
  wpAny_BinOp (ha m Z s _ E st fun v h' tk F p q => hb m Z _ _ E (st.keep F p) fun v' h'' tk' F' p' q' => by
    have k' : Rf G.H₀ L m Z h'' { s with heap := h'', toks := tk' } Q ds := k.later (p.trans p') st.hasL
    cases o with
    | add => exact add_fresh (s := { s with heap := h'', toks := tk' }) ((st.keep F p).keep F' p').fm (q.keep F p' st.fm.zL) q' e k'
    | mul => exact mul_fresh (s := { s with heap := h'', toks := tk' }) ((st.keep F p).keep F' p').fm (q.keep F p' st.fm.zL) q' e k'
    | sub =>
      refine bnd e fun i _ e => ?_
      refine mpd e fun j _ e => ?_
      cases e
    | mod =>
      refine bnd e fun i _ e => ?_
      refine bnd e fun j _ e => ?_
      cases (gd_some e).2)
theorem tf_list [GOK] {e : Expr} {x : D} {l : List D} {p q : Pos} (hE : EnvOK env) (c : kG env.scope.names (b1Name .list) = true) (ok : okE e = true) (h : TQ env A L S e x) (r : asSeq x = some l) :
    TF env A L S (.Call (.Name (b1Name .list) q) [e] [] p) l := fun m Z s Q E st k => by
  refine Call_ (blt_ok (p := (b1Name .list, .type "list")) st.fm.fr hE (b1_mem .list) c ?_) rfl
  rw [args_trees (es := [e]) (fun e' he => by rw [List.mem_singleton.mp he]; exact ok)]
  exact PyProof.Rows.callWith_type (any_args [e]) (evalArgs_plain (spliced_cons (h m Z s _ E st fun v h' tk F p i => spliced_nil (list_fresh (s := { s with heap := h', toks := tk }) (st.keep F p).fm i r (k.later p st.hasL)))))
end
structure Itr (A : Around) (tg : Expr) (I : Addr) (B W : Addr → Prop) (St : (Addr → Prop) → List D → Heap → Prop) : Prop where
  frame : ∀ {Z Z' : Addr → Prop} {r : List D} {h h' : Heap}, St Z r h → Mv h Z h' Z' → (∀ b o, B b → h.get? b = some o → h'.get? b = some o) → St Z' r h'
  item : ∀ {Z : Addr → Prop} {d : D} {r : List D} (s : Shared) (Q : Value → Shared → Prop) (E E' : Value → Shared → Prop), St Z (d :: r) s.heap → (∀ z, Z z → ∃ o, s.heap.get? z = some o) → (∀ b, W b → Z b) →
    (∀ v h' tk, St Z r h' → DI h' Z v d → (∀ b o, ¬ W b → s.heap.get? b = some o → h'.get? b = some o) → Q v { s with heap := h', toks := tk }) →
    wpAny (model G.prog G.w) A (pyNext (.ref I)) (fun r s₁ => match r with | none => False | some v => wpAny (model G.prog G.w) A (letOwnedTupleGo tg (.ref I) v) (fun _ s₂ => Q v s₂) E' s₁) E s
  done : ∀ {Z : Addr → Prop} (s : Shared) (Q : Option Value → Shared → Prop) (E : Value → Shared → Prop), St Z [] s.heap →
    (∀ h' tk, (∀ b o, ¬ W b → s.heap.get? b = some o → h'.get? b = some o) → Q none { s with heap := h', toks := tk }) → wpAny (model G.prog G.w) A (pyNext (.ref I)) Q E s
  self : ∀ {Z : Addr → Prop} {r : List D} (s : Shared) (Q E : Value → Shared → Prop), St Z r s.heap → Q (.ref I) s → wpAny (model G.prog G.w) A (pyIter (.ref I)) Q E s
  live : ∀ {Z : Addr → Prop} {r : List D} {h : Heap}, St Z r h → ∀ b, W b → ∃ o, h.get? b = some o
section
variable {A : Around} {E : Value → Shared → Prop} {s : Shared}
set_option backward.match.sparseCases true in
theorem letGo_off {tg : Expr} {I : Addr} {o : Obj} {n : String} {v : Value} {Q : Unit → Shared → Prop} (g : s.heap.get? I = some o) (hc : o.cls = .type n)
    (hn : (["enumerate", "zip", "dict_itemiterator", "dict_reverseitemiterator", "odict_iterator", "itertools.zip_longest", "itertools.pairwise"].contains n) = false) (h : Q () s) : wpAny (model G.prog G.w) A (letOwnedTupleGo tg (.ref I) v) Q E s := by
  have tup : wpAny (model G.prog G.w) A (do
      let (.ref r, .ref a) := (Value.ref I, v) | return
      let o ← load r
      match o.cls, o.data with
      | .type n, .fields vs =>
        if ["enumerate", "zip", "dict_itemiterator", "dict_reverseitemiterator", "odict_iterator", "itertools.zip_longest", "itertools.pairwise"].contains n && vs[0]? == some (rawInt a) then
          rule "for.unpacks-the-owned-tuple"
          updateField r 0 .none
      | _, _ => pure ()) Q E s := by
    cases v with
    | ref a =>
      refine wpAny_bind (wpAny_load g ?_)
      rw [hc]
      split
      · rename_i n' vs e1 e2
        cases e1
        rw [hn, Bool.false_and, if_neg Bool.false_ne_true]
        exact wpAny_pure h
      · exact wpAny_pure h
    | _ => exact wpAny_pure h
  cases tg with
  | Tuple => exact tup
  | List => exact tup
  | _ => exact wpAny_pure h
end
section
variable {A : Around}
theorem not_mem1 {I b : Addr} (h : b ∉ [I]) : b ≠ I := fun e => h (e ▸ List.mem_singleton.mpr rfl)
theorem Itr.ofSeq {tg : Expr} {I ax : Addr} {vals : List Value} {St0 : Nat → Heap → Prop} (W : Walks G.prog G.w A I [I, ax] [I] vals.toArray.size (fun i v => vals.toArray[i]? = some v) St0) {n : String}
    (hcls : ∀ i h, St0 i h → ∃ o, h.get? I = some o ∧ o.cls = .type n)
    (hn : (["enumerate", "zip", "dict_itemiterator", "dict_reverseitemiterator", "odict_iterator", "itertools.zip_longest", "itertools.pairwise"].contains n) = false) :
    Itr A tg I (fun b => b = I ∨ b = ax) (fun b => b = I) (fun Z r h => ∃ i, St0 i h ∧ i ≤ vals.length ∧ DIs h Z (vals.drop i) r) where
  frame := fun st₀ k kb => by obtain ⟨i, a, l, d⟩ := st₀; exact ⟨i, W.frame _ _ _ a fun b hb o e => kb b o (by
    rcases List.mem_cons.mp hb with rfl | hb
    · exact .inl rfl
    · exact .inr (List.mem_singleton.mp hb)) e, l, d.mv k⟩
  item := fun {Z d r} s Q E E' st₀ za wz k => by
    obtain ⟨i, a, l, di⟩ := st₀
    have hi : i < vals.length := by
      rcases Nat.lt_or_ge i vals.length with h | h
      · exact h
      · rw [List.drop_eq_nil_of_le h] at di; cases di
    refine W.item i s _ E hi a fun v h' tk hv st' hk => ?_
    obtain ⟨o, g, c⟩ := hcls _ _ st'
    refine letGo_off (s := { s with heap := h', toks := tk }) g c hn ?_
    have kk : ∀ b o, ¬ b = I → s.heap.get? b = some o → h'.get? b = some o := fun b o nb e => hk b o (fun q => nb (List.mem_singleton.mp q)) e
    have mv : Mv s.heap Z h' Z := fun b o nz e => ⟨kk b o (fun q => nz (wz b q)) e, nz⟩
    rw [List.drop_eq_getElem_cons hi] at di
    have ev : v = vals[i] := by
      have : vals[i]? = some v := by simpa using hv
      rw [List.getElem?_eq_getElem hi] at this
      exact (Option.some.inj this).symm
    subst ev
    cases di with
    | cons d1 dr => exact k _ h' tk ⟨i + 1, st', hi, dr.mv mv⟩ (d1.mv mv) kk
  done := fun {Z} s Q E st₀ k => by
    obtain ⟨i, a, l, di⟩ := st₀
    have : i = vals.length := by
      rcases Nat.lt_or_ge i vals.length with h | h
      · rw [List.drop_eq_getElem_cons h] at di; cases di
      · exact Nat.le_antisymm l h
    subst this
    exact W.done s Q E a fun h' tk hk => k h' tk fun b o nb e => hk b o (fun q => nb (List.mem_singleton.mp q)) e
  self := fun s Q E st₀ k => by obtain ⟨i, a, _⟩ := st₀; exact W.self i s Q E a k
  live := fun st₀ b hb => by obtain ⟨i, a, _⟩ := st₀; obtain ⟨o, g, _⟩ := hcls i _ a; exact ⟨o, hb ▸ g⟩
theorem range_drop {n i : Nat} (h : i < n) : (List.range n).drop i = i :: (List.range n).drop (i + 1) := by
  rw [List.drop_eq_getElem_cons (by rw [List.length_range]; exact h), List.getElem_range]
theorem Itr.ofRange {tg : Expr} {I : Addr} {a c : Int} {n : Nat} (hh : A.handled = none) :
    Itr A tg I (fun b => b = I) (fun b => b = I) (fun Z r h => ∃ i, IsRangeIter h I (a + (i : Nat) * c) ((n : Int) - (i : Nat)) c ∧ i ≤ n ∧ r = ((List.range n).drop i).map fun j : Nat => .int (a + (j : Int) * c)) where
  frame := fun st₀ k kb => by obtain ⟨i, a, l, d⟩ := st₀; exact ⟨i, kb _ _ rfl a, l, d⟩
  item := fun {Z d r} s Q E E' st₀ za wz k => by
    obtain ⟨i, a, l, di⟩ := st₀
    have hi : i < n := by
      rcases Nat.lt_or_ge i n with h | h
      · exact h
      · rw [List.drop_eq_nil_of_le (by rw [List.length_range]; exact h)] at di; cases di
    rw [range_drop hi] at di
    cases di
    refine (Walks.range hh I _ c n).item i s _ E hi a fun v h' tk hv st' hk => ?_
    obtain ⟨t, rfl⟩ := hv
    refine letGo_off (s := { s with heap := h', toks := tk }) st' rfl (by decide) ?_
    exact k _ h' tk ⟨i + 1, st', hi, rfl⟩ (.int _ _) fun b o nb e => hk b o (fun q => nb (List.mem_singleton.mp q)) e
  done := fun {Z} s Q E st₀ k => by
    obtain ⟨i, a, l, di⟩ := st₀
    have : i = n := by
      rcases Nat.lt_or_ge i n with h | h
      · rw [range_drop h] at di; cases di
      · exact Nat.le_antisymm l h
    subst this
    exact (Walks.range hh I _ c i).done s Q E a fun h' tk hk => k h' tk fun b o nb e => hk b o (fun q => nb (List.mem_singleton.mp q)) e
  self := fun s Q E st₀ k => by obtain ⟨i, a, _⟩ := st₀; exact wpAny_pyIter_rangeiter a k
  live := fun st₀ b hb => by obtain ⟨i, a, _⟩ := st₀; exact ⟨_, hb ▸ a⟩
theorem Itr.ofEnum {elts : List Expr} {x1 : Nat} {pos : Pos} {e it ax : Addr} {vals : List Value} {St0 : Nat → Heap → Prop} (D : Draws G.prog G.w A.in1 it [it, ax] vals.toArray.size (fun i v => vals.toArray[i]? = some v) St0)
    (hei : e ≠ it) (hea : e ≠ ax) :
    Itr A (.Tuple elts x1 pos) e (fun b => b = e ∨ b = it ∨ b = ax) (fun b => b = e ∨ b = it) (fun Z r h => ∃ i, (∃ old, IsEnum h e it ((i : Nat) : Int) old) ∧ St0 i h ∧ i ≤ vals.length ∧ ∃ ds, DIs h Z (vals.drop i) ds ∧ r = enumL i ds) where
  frame := fun st₀ k kb => by obtain ⟨i, ⟨old, x⟩, a, l, ds, d, er⟩ := st₀; exact ⟨i, ⟨old, kb _ _ (.inl rfl) x⟩, D.frame _ _ _ a fun b hb o e => kb b o (by
    rcases List.mem_cons.mp hb with rfl | hb
    · exact .inr (.inl rfl)
    · exact .inr (.inr (List.mem_singleton.mp hb))) e, l, ds, d.mv k, er⟩
  item := fun {Z d r} s Q E E' st₀ za wz k => by
    obtain ⟨i, ⟨old, x⟩, a, l, ds, di, er⟩ := st₀
    have hi : i < vals.length := by
      rcases Nat.lt_or_ge i vals.length with h | h
      · exact h
      · rw [List.drop_eq_nil_of_le h] at di; cases di; cases er
    have hef : e ∉ [it, ax] := fun q => by
      rcases List.mem_cons.mp q with q | q
      · exact hei q
      · exact hea (List.mem_singleton.mp q)
    refine wpAny_pyNext_enum_itemD D x a hi hei hef fun v h' tk hv io st' hT hsz hk => ?_
    refine wpAny_letOwnedTupleGo_enum (s := { s with heap := h', toks := tk + 1 }) io fun h'' io' hs => ?_
    have k1 : ∀ b o, ¬ (b = e ∨ b = it) → s.heap.get? b = some o → h'.get? b = some o := fun b o nb g => hk b o (fun q => nb (.inl q)) (fun q => nb (.inr q)) g
    have k2 : ∀ b o, b ≠ e → h'.get? b = some o → h''.get? b = some o := fun b o nb g => (hs.2 b nb).trans g
    have kk : ∀ b o, ¬ (b = e ∨ b = it) → s.heap.get? b = some o → h''.get? b = some o := fun b o nb g => k2 b o (fun q => nb (.inl q)) (k1 b o nb g)
    have mv : Mv s.heap Z h'' Z := fun b o nz g => ⟨kk b o (fun q => nz (wz b q)) g, nz⟩
    have el : e < s.heap.objs.size := Heap.lt_size x
    rw [List.drop_eq_getElem_cons hi] at di
    have ev : v = vals[i] := by
      have : vals[i]? = some v := by simpa using hv
      rw [List.getElem?_eq_getElem hi] at this
      exact (Option.some.inj this).symm
    subst ev
    cases di with
    | @cons _ _ d1 ds' d1' dr =>
      cases er
      refine k _ h'' _ ⟨i + 1, ⟨_, io'⟩, D.frame _ _ _ st' fun b hb o g => k2 b o (fun q => hef (q ▸ hb)) g, hi, ds', dr.mv mv, rfl⟩ ?_ kk
      refine .tuple (vs := [.int i tk, vals[i]]) (k2 _ _ (Nat.ne_of_gt el) hT) (fun z => ?_) (show 2 ≤ big by decide) (.cons (.int _ _) (.cons (d1'.mv mv) .nil))
      obtain ⟨o, g⟩ := za _ z
      exact absurd (Heap.lt_size g) (Nat.lt_irrefl _)
  done := fun {Z} s Q E st₀ k => by
    obtain ⟨i, ⟨old, x⟩, a, l, ds, di, er⟩ := st₀
    have : i = vals.length := by
      rcases Nat.lt_or_ge i vals.length with h | h
      · rw [List.drop_eq_getElem_cons h] at di; cases di; cases er
      · exact Nat.le_antisymm l h
    subst this
    exact wpAny_pyNext_enum_endD D x a fun h' hx => k h' s.toks fun b o nb g => hx b o (fun q => nb (.inr q)) g
  self := fun s Q E st₀ k => by obtain ⟨i, ⟨old, x⟩, _⟩ := st₀; exact wpAny_pyIter_enum x k
  live := fun st₀ b hb => by
    obtain ⟨i, ⟨old, x⟩, a, _⟩ := st₀
    rcases hb with rfl | rfl
    · exact ⟨_, x⟩
    · exact D.live _ _ a
structure ZipSt (h : Heap) (z TI TO i1 i2 l1 l2 : Addr) (v1 v2 : List Value) (i : Nat) : Prop where
  hz : IsZip h z TI TO .none
  hTI : IsPair h TI (.ref i1) (.ref i2)
  hTO : ∃ a b, IsPair h TO a b
  h1 : h.IsListIter i1 l1 i
  h2 : h.IsListIter i2 l2 i
  hl1 : h.IsList l1 v1.toArray
  hl2 : h.IsList l2 v2.toArray
theorem Itr.ofZip {elts : List Expr} {x1 : Nat} {pos : Pos} {z TI TO i1 i2 l1 l2 : Addr} {v1 v2 : List Value} (hh : A.handled = none) (D : ZipApart z TI TO i1 i2 l1 l2) :
    Itr A (.Tuple elts x1 pos) z (fun b => b = z ∨ b = TI ∨ b = TO ∨ b = i1 ∨ b = i2 ∨ b = l1 ∨ b = l2) (fun b => b = z ∨ b = TO ∨ b = i1 ∨ b = i2)
      (fun Z r h => ∃ i, ZipSt h z TI TO i1 i2 l1 l2 v1 v2 i ∧
        ∃ d1 d2, DIs h Z (v1.drop i) d1 ∧ DIs h Z (v2.drop i) d2 ∧ r = zipL d1 d2) where
  frame := fun st₀ k kb => by obtain ⟨i, zs, d1, d2, x1, x2, er⟩ := st₀; exact ⟨i, ⟨kb _ _ (.inl rfl) zs.hz, kb _ _ (.inr (.inl rfl)) zs.hTI, (let ⟨a, b, hTO⟩ := zs.hTO; ⟨a, b, kb _ _ (.inr (.inr (.inl rfl))) hTO⟩),
    zs.h1.at fun o e => kb _ o (.inr (.inr (.inr (.inl rfl)))) e, zs.h2.at fun o e => kb _ o (.inr (.inr (.inr (.inr (.inl rfl))))) e, zs.hl1.at fun o e => kb _ o (.inr (.inr (.inr (.inr (.inr (.inl rfl)))))) e,
    zs.hl2.at fun o e => kb _ o (.inr (.inr (.inr (.inr (.inr (.inr rfl)))))) e⟩, d1, d2, x1.mv k, x2.mv k, er⟩
  item := fun {Z d r} s Q E E' st₀ za wz k => by
    obtain ⟨i, zs, d1, d2, e1, e2, er⟩ := st₀
    obtain ⟨a, b, hTO⟩ := zs.hTO
    have ha : i < v1.length := by
      rcases Nat.lt_or_ge i v1.length with h | h
      · exact h
      · rw [List.drop_eq_nil_of_le h] at e1; cases e1; cases er
    have hb : i < v2.length := by
      rcases Nat.lt_or_ge i v2.length with h | h
      · exact h
      · rw [List.drop_eq_nil_of_le h] at e2; cases e2; cases d1 <;> cases er
    rw [List.drop_eq_getElem_cons ha] at e1
    rw [List.drop_eq_getElem_cons hb] at e2
    cases e1 with | @cons _ _ x1 xs1 x1' dr1 =>
    cases e2 with | @cons _ _ x2 xs2 x2' dr2 =>
    cases er
    refine wpAny_pyNext_zip_item D zs.hz zs.hTI hTO zs.h1 zs.h2 zs.hl1 zs.hl2 (x := v1[i]) (y := v2[i]) (by simp [ha]) (by simp [hb]) fun h' a1 a2 a3 a4 a5 a6 hk => ?_
    refine wpAny_letOwnedTupleGo_zip (s := { s with heap := h' }) a1 fun h'' hz' hs => ?_
    have k1 : ∀ b o, ¬ (b = z ∨ b = TO ∨ b = i1 ∨ b = i2) → s.heap.get? b = some o → h'.get? b = some o := fun b o nb g => hk b o (fun q => nb (.inl q)) (fun q => nb (.inr (.inl q))) (fun q => nb (.inr (.inr (.inl q)))) (fun q => nb (.inr (.inr (.inr q)))) g
    have k2 : ∀ b o, b ≠ z → h'.get? b = some o → h''.get? b = some o := fun b o nb g => hs.extBut _ _ nb g
    have kk : ∀ b o, ¬ (b = z ∨ b = TO ∨ b = i1 ∨ b = i2) → s.heap.get? b = some o → h''.get? b = some o := fun b o nb g => k2 b o (fun q => nb (.inl q)) (k1 b o nb g)
    have mv : Mv s.heap Z h'' Z := fun b o nz g => ⟨kk b o (fun q => nz (wz b q)) g, nz⟩
    have zl : z < s.heap.objs.size := Heap.lt_size zs.hz
    refine k _ h'' s.toks ⟨i + 1, ⟨hz', k2 _ _ D.TIz (hk _ _ D.TIz D.TITO D.TIi1 D.TIi2 zs.hTI), ⟨_, _, k2 _ _ D.TOz a2⟩, a3.at fun o e => k2 _ o D.i1z e, a4.at fun o e => k2 _ o D.i2z e,
      zs.hl1.at fun o e => k2 _ o D.l1z (hk _ o D.l1z D.l1TO D.l1i1 D.l1i2 e), zs.hl2.at fun o e => k2 _ o D.l2z (hk _ o D.l2z D.l2TO D.l2i1 D.l2i2 e)⟩, xs1, xs2, dr1.mv mv, dr2.mv mv, rfl⟩ ?_ kk
    refine .tuple (vs := [v1[i], v2[i]]) (k2 _ _ (Nat.ne_of_gt zl) a5) (fun q => ?_) (show 2 ≤ big by decide) (.cons (x1'.mv mv) (.cons (x2'.mv mv) .nil))
    obtain ⟨o, g⟩ := za _ q
    exact absurd (Heap.lt_size g) (Nat.lt_irrefl _)
  done := fun {Z} s Q E st₀ k => by
    obtain ⟨i, zs, d1, d2, e1, e2, er⟩ := st₀
    obtain ⟨a, b, hTO⟩ := zs.hTO
    have hend : v1.toArray[i]? = none ∨ v2.toArray[i]? = none := by
      rcases Nat.lt_or_ge i v1.length with h | h
      · rcases Nat.lt_or_ge i v2.length with h' | h'
        · rw [List.drop_eq_getElem_cons h] at e1
          rw [List.drop_eq_getElem_cons h'] at e2
          cases e1; cases e2; cases er
        · exact .inr (by simp [h'])
      · exact .inl (by simp [h])
    exact wpAny_pyNext_zip_end hh D zs.hz zs.hTI hTO zs.h1 zs.h2 zs.hl1 zs.hl2 hend fun h' hk => k h' s.toks fun b o nb g => hk b o (fun q => nb (.inl q)) (fun q => nb (.inr (.inl q))) (fun q => nb (.inr (.inr (.inl q)))) (fun q => nb (.inr (.inr (.inr q)))) g
  self := fun s Q E x k => wpAny_pyIter_zip x.choose_spec.1.hz k
  live := fun st₀ b hb => by
    obtain ⟨i, zs, _⟩ := st₀
    have hz := zs.hz; have h1 := zs.h1; have h2 := zs.h2
    obtain ⟨a, b', hTO⟩ := zs.hTO
    rcases hb with rfl | rfl | rfl | rfl
    · exact ⟨_, hz⟩
    · exact ⟨_, hTO⟩
    · obtain ⟨o, g, _⟩ := h1; exact ⟨o, g⟩
    · obtain ⟨o, g, _⟩ := h2; exact ⟨o, g⟩
end
end
end Mine
end
section
set_option genInjectivity false
set_option maxRecDepth 100000
set_option backward.match.sparseCases false
namespace Mine
open PySem PySem.Calls PySem.Spec PyProof.Rows PySem.W
open AutoSeq1 (wpAny_loadPart')
section
section
variable {A : Around} {E : Value → Shared → Prop} {s : Shared}
theorem nextOf_tuple_item {it l : Addr} {i : Nat} {items} {x : Value} {Q : Value → Shared → Prop} (hit : s.heap.IsTupleIter it l i)
    (hl : s.heap.IsTuple l items) (hx : items[i]? = some x)
    (hQ : ∀ h', h'.IsTupleIter it l (i + 1) → Heap.SameBut it s.heap h' → Q x { s with heap := h' }) :
    wpAny (model G.prog G.w) A (Builtin.SmallTypes.nextOf (.ref it)) Q E s := by
  obtain ⟨o, ho, hc, hd⟩ := id hit
  obtain ⟨ol, hol, _, nl, hdl⟩ := hl
  unfold Builtin.SmallTypes.nextOf
  refine wpAny_bind (wpAny_callSpecial?_slot (name := Str.ofString "__next__") hit.typeIs slot_tupleiter_next
    (wpAny_call_entry slot_tupleiter_next hit.typeIs entry_tupleiter_next ?_ (args_tupleiter_next _)))
  show wpAny _ _ (field (.ref it) 0 >>= _) _ _ s
  refine wpAny_bind (wpAny_field ho hd (x := .ref l) rfl ?_)
  show wpAny _ _ (if (Value.ref l == Value.none) = true then _ else _) _ _ s
  rw [if_neg (show ¬ ((Value.ref l == Value.none) = true) from Bool.false_ne_true)]
  show wpAny _ _ (field (.ref it) 1 >>= _) _ _ s
  refine wpAny_bind (wpAny_field ho hd (x := .int i 0) rfl ?_)
  show wpAny _ _ (seqItems? (.ref l) >>= _) _ _ s
  refine wpAny_bind (wpAny_seqItems hol hdl ?_)
  simp only [Int.toNat_natCast, hx]
  refine wpAny_bind (wpAny_setField ho hd (by simp) (wpAny_pure ⟨x, rfl, wpAny_pure (hQ _ ?_ (Heap.SameBut.update ..))⟩))
  exact ⟨_, Heap.get?_update_self _ ho (Obj.isFreed_of_fields (Obj.data_mapFields hd _)), (Obj.cls_mapFields ..).trans hc, by
    rw [Obj.data_mapFields hd]; simp [rawInt]⟩
theorem nextOf_tuple_end {it l : Addr} {i : Nat} {items} {Q : Value → Shared → Prop} (hh : A.handled = none)
    (hit : s.heap.IsTupleIter it l i) (hl : s.heap.IsTuple l items) (hx : items[i]? = none)
    (hE : ∀ h' e, Heap.ExtBut it s.heap h' → (∃ o, h'.get? e = some o ∧ o.cls = .type "StopIteration") → E (.ref e) { s with heap := h' }) :
    wpAny (model G.prog G.w) A (Builtin.SmallTypes.nextOf (.ref it)) Q E s := by
  obtain ⟨o, ho, hc, hd⟩ := id hit
  obtain ⟨ol, hol, _, nl, hdl⟩ := hl
  unfold Builtin.SmallTypes.nextOf
  refine wpAny_bind (wpAny_callSpecial?_slot (name := Str.ofString "__next__") hit.typeIs slot_tupleiter_next
    (wpAny_call_entry slot_tupleiter_next hit.typeIs entry_tupleiter_next ?_ (args_tupleiter_next _)))
  show wpAny _ _ (field (.ref it) 0 >>= _) _ _ s
  refine wpAny_bind (wpAny_field ho hd (x := .ref l) rfl ?_)
  show wpAny _ _ (if (Value.ref l == Value.none) = true then _ else _) _ _ s
  rw [if_neg (show ¬ ((Value.ref l == Value.none) = true) from Bool.false_ne_true)]
  show wpAny _ _ (field (.ref it) 1 >>= _) _ _ s
  refine wpAny_bind (wpAny_field ho hd (x := .int i 0) rfl ?_)
  show wpAny _ _ (seqItems? (.ref l) >>= _) _ _ s
  refine wpAny_bind (wpAny_seqItems hol hdl ?_)
  simp only [Int.toNat_natCast, hx]
  refine wpAny_bind (wpAny_rule (wpAny_bind (wpAny_setField ho hd (by simp) ?_)))
  show wpAny _ _ (newExc (.type "StopIteration") [] >>= _) _ _ _
  refine wpAny_bind ?_
  simp only [newExc, newTuple]
  refine wpAny_bind (wpAny_newObj_type ?_ (by size_fits))
  refine wpAny_bind (m := firstArgMember _ _) (wpAny_of_eq (a := Value.none) (by first | rfl | (simp only [firstArgMember]; rfl)) ?_)
  refine wpAny_newObj_type ?_ (by size_fits)
  simp only [raiseNew]
  refine wpAny_bind (wpAny_handled ?_)
  first | rw [show A.in1.handled = none from hh] | rw [hh]
  refine wpAny_bind (wpAny_pure (wpAny_throw ?_))
  exact hE _ _ (((Heap.SameBut.update ..).extBut.push _).push _) ⟨_, Heap.get?_push_size _ rfl, rfl⟩
end
theorem draws_tuple {A : Around} (hh : A.handled = none) (it l : Addr) (hne : l ≠ it) (items : Array Value) :
    Draws G.prog G.w A it [it, l] items.size (fun i v => items[i]? = some v) (fun i h => h.IsTupleIter it l i ∧ h.IsTuple l items) where
  live := fun _ _ st => by obtain ⟨o, ho, _⟩ := st.1; exact ⟨o, ho⟩
  frame := fun _ _ _ st hk => ⟨st.1.at fun o e => hk it (by simp) o e, st.2.at fun o e => hk l (by simp) o e⟩
  item := fun i s Q E hi st hQ => by
    refine nextOf_tuple_item st.1 st.2 (x := items[i]) (by simp [hi]) fun h' hit' hs' => ?_
    exact hQ _ h' s.toks (by simp [hi]) ⟨hit', st.2.extBut hs'.extBut hne⟩ hs'
  done := fun s Q E st hE => nextOf_tuple_end hh st.1 st.2 (by simp) hE
theorem meets_enumT (l : Addr) (items : Array Value) (n : Nat) (dct : Option Addr) (sl : Array (Option Value)) :
    Meets (Builtin.«enumerate.__new__» ⟨[.type "enumerate", .ref l], []⟩) (fun _ R s => s.heap.get? l = some { cls := .type "tuple", dict := dct, data := .seq items n, slots := sl } ∧
      R (.ok (.ret (.ref (s.heap.push { cls := .type "tuple_iterator", data := .fields #[.ref l, .int 0 0] }).objs.size)))
        { s with heap := (s.heap.push { cls := .type "tuple_iterator", data := .fields #[.ref l, .int 0 0] }).push { cls := .type "enumerate", data := .fields #[.none, .bool false, .ref s.heap.objs.size, rawInt 0, .none, .none] } }) :=
  .of_wp fun prog w A R s h => by
    obtain ⟨hp, g, d, tk, os⟩ := s; obtain ⟨hl, h⟩ := h
    have hsub := sub_enumerate
    have hL : Heap.IsTuple (Shared.heap ⟨hp, g, d, tk, os⟩) l items := ⟨_, hl, rfl, n, rfl⟩
    wp_walk using wpAny_loadPart' hl
    refine wpAny_stack_any fun st => wpAny_pure ?_
    split
    · rename_i c _ _ _ _ _
      cases (c == Value.type "enumerate")
      · wp_walk using wpAny_loadPart' hl, wpAny_pyIter_tuple hL
        exact ⟨_, rfl, h⟩
      · wp_walk using wpAny_loadPart' hl, wpAny_pyIter_tuple hL
        exact ⟨_, rfl, h⟩
    · wp_walk using wpAny_loadPart' hl, wpAny_pyIter_tuple hL
      exact ⟨_, rfl, h⟩
section
variable {A : Around} {E : Value → Shared → Prop} {s : Shared}
theorem call_enumT {l : Addr} {items : Array Value} {Q : Value → Shared → Prop} (hL : s.heap.IsTuple l items)
    (h : ∀ h', IsEnum h' (s.heap.objs.size + 1) s.heap.objs.size 0 .none → h'.IsTupleIter s.heap.objs.size l 0 → h'.objs.size = s.heap.objs.size + 2 →
      (∀ b o, s.heap.get? b = some o → h'.get? b = some o) → Q (.ref (s.heap.objs.size + 1)) { s with heap := h' }) :
    wpAny (model G.prog G.w) A (call (.type "enumerate") [.ref l]) Q E s := by
  obtain ⟨⟨c, dct, dt, sl⟩, hl, hc, n, hd⟩ := hL
  replace hc : c = .type "tuple" := hc
  replace hd : dt = .seq items n := hd
  subst hc hd
  refine callType_new F.called_enumerate (by decide) (F.typeCall_enumerate_1 _) (F.newCall_enumerate_1 _) (fun obj => F.args_object_init_2 obj _) F.entry_enumerate_new
    (meets_enumT l items n dct sl) ⟨hl, ?_⟩
  have hz : (s.heap.push { cls := .type "tuple_iterator", data := .fields #[.ref l, .int 0 0] }).objs.size = s.heap.objs.size + 1 := Heap.size_push ..
  show _ ∧ _
  rw [hz]
  have he : IsEnum ((s.heap.push { cls := .type "tuple_iterator", data := .fields #[.ref l, .int 0 0] }).push
      { cls := .type "enumerate", data := .fields #[.none, .bool false, .ref s.heap.objs.size, rawInt 0, .none, .none] }) (s.heap.objs.size + 1) s.heap.objs.size 0 .none := by
    have := Heap.get?_push_size (s.heap.push { cls := .type "tuple_iterator", data := .fields #[.ref l, .int 0 0] })
      (o := { cls := .type "enumerate", data := .fields #[.none, .bool false, .ref s.heap.objs.size, rawInt 0, .none, .none] }) rfl
    rw [hz] at this; exact this
  refine ⟨⟨_, he, rfl⟩, h _ he ⟨_, Heap.get?_push_of_some _ (Heap.get?_push_size _ rfl), rfl, rfl⟩ (by rw [Heap.size_push, hz]) fun b o x => Heap.get?_push_of_some _ (Heap.get?_push_of_some _ x)⟩
end
noncomputable def Rs (A : Around) (L : Addr) (tg : Expr) (ow : Bool) (m : Str → Option Value) (Z : Addr → Prop) (h : Heap) (s : Shared) (Q : Value → Shared → Prop) (items : List D) : Prop :=
  ∀ I B W St h' tk, Fr G.H₀ L h' m → Kp L h h' → Itr A tg I B W St → St (fun b => Z b ∨ W b) items h' → (∀ b, W b → B b ∧ h.get? b = none) → (∀ b, B b → b ≠ L ∧ ∃ o, h'.get? b = some o) → (ow = false → ∀ b, B b → W b ∨ ¬ Z b) →
    Q (.ref I) { s with heap := h', toks := tk }
noncomputable def TS (env : Env) (A : Around) (L : Addr) (S : PS) (tg : Expr) (ow : Bool) (e : Expr) (items : List D) : Prop :=
  ∀ m Z (s : Shared) (Q E : Value → Shared → Prop), Stt env L m Z S s.heap → Rs A L tg ow m Z s.heap s Q items → wpAny (model G.prog G.w) A (eval e env) (fun x s₁ => wpAny (model G.prog G.w) A (pyIter x) Q E s₁) E s
section
variable {A : Around} {L : Addr} {tg : Expr} {ow : Bool} {m : Str → Option Value} {Z : Addr → Prop} {s : Shared} {Q E : Value → Shared → Prop} {env : Env} {S : PS}
theorem Rs.later {items : List D} {h' : Heap} {tk : Nat} (k : Rs A L tg ow m Z s.heap s Q items) (p : Kp L s.heap h') : Rs A L tg ow m Z h' { s with heap := h', toks := tk } Q items :=
  fun I B W St h'' tk' F' p' it st w b z => k I B W St h'' tk' F' (p.trans p') it st (fun c hc => ⟨(w c hc).1, by
    cases q : s.heap.get? c with
    | none => rfl
    | some o =>
      have := p c o (b c (w c hc).1).1 q
      exact nso ((w c hc).2) this⟩) b z
theorem Kp.mvW {h h' : Heap} {W : Addr → Prop} (p : Kp L h h') (z : Z L) (w : ∀ b, W b → h.get? b = none) : Mv h Z h' (fun b => Z b ∨ W b) := fun b o nb g => ⟨(p.mv z b o nb g).1, fun c => by
  rcases c with c | c
  · exact nb c
  · exact nso (w b c) g⟩
theorem fresh_ge (h : Heap) {a : Addr} (x : h.objs.size ≤ a) : h.get? a = none := by
  cases e : h.get? a with
  | none => rfl
  | some o => exact absurd (Heap.lt_size e) (Nat.not_lt.mpr x)
theorem iter_seq {v : Value} {x : D} {items : List D} (hh : A.handled = none) (F : Fm G.H₀ L m Z s.heap) (q : DQ s.heap Z v x) (hz : ow = false → DI s.heap Z v x) (e : asSeq x = some items) (k : Rs A L tg ow m Z s.heap s Q items) :
    wpAny (model G.prog G.w) A (pyIter v) Q E s := by
  have go : ∀ {a : Addr} {o o' : Obj} {vs : List Value} {St0 : Nat → Heap → Prop} {n : String}, s.heap.get? a = some o → (ow = false → ¬ Z a) → DIs s.heap Z vs items → o'.cls = .type n →
      (["enumerate", "zip", "dict_itemiterator", "dict_reverseitemiterator", "odict_iterator", "itertools.zip_longest", "itertools.pairwise"].contains n) = false →
      Walks G.prog G.w A s.heap.objs.size [s.heap.objs.size, a] [s.heap.objs.size] vs.toArray.size (fun i v => vs.toArray[i]? = some v) St0 → (∀ i h, St0 i h → ∃ o, h.get? s.heap.objs.size = some o ∧ o.cls = .type n) → a ≠ L → o'.isFreed = false →
      St0 0 (s.heap.push o') → Q (.ref s.heap.objs.size) { s with heap := s.heap.push o' } := fun {a o o' vs St0 n} g nz its hc hn W hcls naL fr st => by
    have p : Kp L s.heap (s.heap.push o') := Kp.push _ _ _
    refine k _ _ _ _ _ s.toks (F.fr.push _) p (Itr.ofSeq W hcls hn) ⟨0, st, Nat.zero_le _, its.mv (p.mvW (W := fun b => b = s.heap.objs.size) F.zL fun b hb => hb ▸ fresh_ge _ (Nat.le_refl _))⟩ (fun b hb => ⟨.inl hb, hb ▸ fresh_ge _ (Nat.le_refl _)⟩) (fun b hb => ?_) fun w b hb => ?_
    · rcases hb with rfl | rfl
      · refine ⟨fun e => ?_, _, Heap.get?_push_size _ fr⟩
        obtain ⟨o, _, _, g, _⟩ := F.fr.ns
        rw [← e] at g
        exact absurd (Heap.lt_size g) (Nat.lt_irrefl _)
      · exact ⟨naL, o, Heap.get?_push_of_some _ g⟩
    · rcases hb with rfl | rfl
      · exact .inl rfl
      · exact .inr (nz w)
  rcases asSeq_s e with rfl | rfl
  · obtain ⟨a, vs, n, z⟩ := q.list
    cases z.ref
    have lt : a < s.heap.objs.size := Heap.lt_size z.at_
    exact wpAny_pyIter_list z.is (go z.at_ (fun w => by cases hz w with | list _ nz _ _ => exact nz) z.its rfl (by decide) (Walks.list hh _ a (Nat.ne_of_lt lt) vs.toArray) (fun i h st => by obtain ⟨o, g, c, _⟩ := st.1; exact ⟨o, g, c⟩) (fun e => Fr.notSeq F.fr (e ▸ z.at_) rfl) rfl
      ⟨⟨_, Heap.get?_push_size _ rfl, rfl, rfl⟩, z.is.push _⟩)
  · obtain ⟨a, vs, n, z⟩ := q.tuple
    cases z.ref
    have lt : a < s.heap.objs.size := Heap.lt_size z.at_
    have ti : s.heap.IsTuple a vs.toArray := ⟨_, z.at_, rfl, n, rfl⟩
    exact wpAny_pyIter_tuple ti (go z.at_ (fun w => by cases hz w with | tuple _ nz _ _ => exact nz) z.its rfl (by decide) (Walks.tuple hh _ a (Nat.ne_of_lt lt) vs.toArray) (fun i h st => by obtain ⟨o, g, c, _⟩ := st.1; exact ⟨o, g, c⟩) (fun e => Fr.notSeq F.fr (e ▸ z.at_) rfl) rfl
      ⟨⟨_, Heap.get?_push_size _ rfl, rfl, rfl⟩, ti.push _⟩)
theorem ts_v {e : Expr} {x : D} {items : List D} (hh : A.handled = none) (h : TE env A L S e x) (q : asSeq x = some items) : TS env A L S tg ow e items := fun m Z s Q E st k =>
  h m Z s _ E st fun v h' tk F p y => iter_seq (s := { s with heap := h', toks := tk }) hh (st.keep F p).fm y.dq (fun _ => y) q (k.later p)
theorem ts_q {e : Expr} {x : D} {items : List D} (hh : A.handled = none) (h : TQ env A L S e x) (q : asSeq x = some items) : TS env A L S tg true e items := fun m Z s Q E st k =>
  h m Z s _ E st fun v h' tk F p y => iter_seq (ow := true) (s := { s with heap := h', toks := tk }) hh (st.keep F p).fm y (fun c => Bool.noConfusion c) q (k.later p)
theorem fits63 {i : Int} (h : fitI i = true) : Builtin.Range.rangeFitsLong i = true := by
  have := fitI_s h
  unfold Builtin.Range.rangeFitsLong
  simp only [Bool.and_eq_true, decide_eq_true_eq]
  lia
theorem range_facts {a b c : Int} {l : List D} (e : rangeL a b c = some l) : c ≠ 0 ∧ c.natAbs < 1073741824 ∧ Builtin.Range.small a b c = true ∧ ∃ n : Nat, Builtin.Range.rangeSize a b c = (n : Int) ∧ l = (List.range n).map fun j : Nat => .int (a + (j : Int) * c) := by
  have fit : ∀ {i : Int}, -9223372036854775808 ≤ i → i < 9223372036854775808 → Builtin.Range.rangeFitsLong i = true := fun h1 h2 => by
    unfold Builtin.Range.rangeFitsLong
    simp only [Bool.and_eq_true, decide_eq_true_eq]
    lia
  unfold rangeL at e
  by_cases c1 : c = 1
  · subst c1
    rw [if_pos rfl] at e
    refine gdd e fun h e => ?_
    simp only [Bool.and_eq_true, decide_eq_true_eq] at h
    have ha := fitI_s h.1.1
    have hb := fitI_s h.1.2
    have hs : Builtin.Range.rangeSize a b 1 = ((b - a).toNat : Int) := by rw [rangeSize_one]; split <;> lia
    refine ⟨by decide, by decide, ?_, (b - a).toNat, hs, ?_⟩
    · unfold Builtin.Range.small
      rw [hs, fits63 h.1.1, fits63 h.1.2, fit (i := 1) (by decide) (by decide), fit (i := ((b - a).toNat : Int)) (by (exact Int.natCast_nonneg _)) (by have := h.2; unfold big at this; lia), if_pos (by decide), fit (i := b + (1 - 1)) (by lia) (by lia)]
      simp
    · rw [← e]
      refine List.map_congr_left fun j _ => ?_
      rw [Int.mul_one]; rfl
  · rw [if_neg c1] at e
    by_cases c2 : c = -1
    · subst c2
      rw [if_pos rfl] at e
      refine gdd e fun h e => ?_
      simp only [Bool.and_eq_true, decide_eq_true_eq] at h
      have ha := fitI_s h.1.1
      have hb := fitI_s h.1.2
      have hs : Builtin.Range.rangeSize a b (-1) = ((a - b).toNat : Int) := by
        unfold Builtin.Range.rangeSize
        rw [if_neg (by decide)]
        show (if a > b then (a - b - 1) / 1 + 1 else 0) = _
        rw [Int.ediv_one]
        split <;> lia
      refine ⟨by decide, by decide, ?_, (a - b).toNat, hs, ?_⟩
      · unfold Builtin.Range.small
        rw [hs, fits63 h.1.1, fits63 h.1.2, fit (i := -1) (by decide) (by decide), fit (i := ((a - b).toNat : Int)) (by (exact Int.natCast_nonneg _)) (by have := h.2; unfold big at this; lia), if_neg (by decide), fit (i := b + (-1 + 1)) (by lia) (by lia)]
        simp
      · rw [← e]
        refine List.map_congr_left fun j _ => ?_
        congr 1
        show a - (j : Int) = a + (j : Int) * (-1)
        lia
    · exact nso (if_neg c2) e
theorem iter_range {r : Addr} {a b c : Int} {t u v : Tok} {l : List D} (hh : A.handled = none) (F : Fm G.H₀ L m Z s.heap) (hr : IsRange s.heap r a b c t u v) (e : rangeL a b c = some l) (k : Rs A L tg ow m Z s.heap s Q l) :
    wpAny (model G.prog G.w) A (pyIter (.ref r)) Q E s := by
  obtain ⟨_, _, sm, n, hn, rfl⟩ := range_facts e
  refine wpAny_pyIter_range hr sm ?_
  refine k _ _ _ _ _ s.toks (F.fr.push _) (Kp.push _ _ _) (Itr.ofRange (a := a) (c := c) (n := n) hh) ⟨0, ?_, Nat.zero_le _, rfl⟩ (fun b hb => ⟨hb, hb ▸ fresh_ge _ (Nat.le_refl _)⟩) (fun b hb => ?_) fun _ b hb => .inl hb
  · have := Heap.get?_push_size s.heap (o := { cls := .type "range_iterator", data := .fields #[rawInt a, rawInt (Builtin.Range.rangeSize a b c), rawInt c] }) rfl
    rw [hn] at this
    show IsRangeIter _ _ (a + ((0 : Nat) : Int) * c) ((n : Int) - ((0 : Nat) : Int)) c
    rw [show a + ((0 : Nat) : Int) * c = a by simp, show (n : Int) - ((0 : Nat) : Int) = n by simp, ← hn]
    rw [← hn] at this
    exact this
  · cases hb
    refine ⟨fun e => ?_, _, Heap.get?_push_size _ rfl⟩
    obtain ⟨o, _, _, g, _⟩ := F.fr.ns
    rw [← e] at g
    exact absurd (Heap.lt_size g) (Nat.lt_irrefl _)
theorem asInts_s : ∀ {ds : List D} {is : List Int}, asInts ds = some is → ds = is.map .int := by
  intro l0
  induction l0 with
  | nil =>
    intro _ e
    (cases Option.some.inj e; rfl)
  | cons d r ih =>
    intro is e
    refine bnd (show (asInt d).bind _ = _ from e) fun i ei e => ?_
    refine mpd e fun l el e => ?_
    subst e
    rw [asInt_s ei, ih el]; rfl
theorem ts_rng [GOK] {es : List Expr} {ds : List D} {is : List Int} {items : List D} {p q : Pos} (hE : EnvOK env) (hh : A.handled = none) (c : kG env.scope.names "range" = true) (hes : ∀ e ∈ es, okE e = true) (h : TEs env A L S es ds) (h0 : es = [] → ds = [])
    (e : asInts ds = some is) (e' : doRng is = some items) : TS env A L S tg ow (.Call (.Name "range" q) es [] p) items := fun m Z s Q E st k => by
  refine Call_ (blt_ok (p := (("range" : Str), .type "range")) st.fm.fr hE (by decide +kernel) c ?_) rfl
  rw [args_trees hes]
  refine PyProof.Rows.callWith_type (any_args es) ?_
  cases es with
  | nil => cases h0 rfl; cases e; cases e'
  | cons x r =>
    refine evalArgs_plain (h m Z s _ E st fun vs h' tk F p i => ?_)
    have st' := st.keep F p
    rw [asInts_s e] at i
    have go : ∀ {a b c : Int} {t u v : Tok} {tk' : Nat}, rangeL a b c = some items → wpAny (model G.prog G.w) A (pyIter (.ref h'.objs.size)) Q E { s with heap := h'.push { cls := .type "range", data := .fields #[.int a t, .int b u, .int c v] }, toks := tk' } := fun {a b c t u v tk'} e => by
      have p' := Kp.push L h' { cls := .type "range", data := .fields #[.int a t, .int b u, .int c v] }
      exact iter_range (s := { s with heap := h'.push _, toks := _ }) hh (st'.keep (F.push _) p').fm (Heap.get?_push_size _ rfl) e (k.later (p.trans p'))
    match is, i, e' with
    | [b], i, e' =>
      cases i with | cons i1 i => cases i with | nil =>
      obtain ⟨t, rfl⟩ := i1.int'
      exact call_range_1 (go e')
    | [a, b], i, e' =>
      cases i with | cons i1 i => cases i with | cons i2 i => cases i with | nil =>
      obtain ⟨t, rfl⟩ := i1.int'
      obtain ⟨u, rfl⟩ := i2.int'
      exact call_range_2 (go e')
    | [a, b, c], i, e' =>
      cases i with | cons i1 i => cases i with | cons i2 i => cases i with | cons i3 i => cases i with | nil =>
      obtain ⟨t, rfl⟩ := i1.int'
      obtain ⟨u, rfl⟩ := i2.int'
      obtain ⟨v, rfl⟩ := i3.int'
      have rf := range_facts (show rangeL a b c = some items from e')
      exact call_range_3 rf.1 (go e') (.inl (PyProof.noPylong_small rf.2.1))
theorem ts_enum [GOK] {e : Expr} {x : D} {l : List D} {p q : Pos} {elts : List Expr} {x1 : Nat} {pos : Pos} (hE : EnvOK env) (hh : A.handled = none) (c : kG env.scope.names "enumerate" = true) (ok : okE e = true) (h : TE env A L S e x) (r : asSeq x = some l) :
    TS env A L S (.Tuple elts x1 pos) ow (.Call (.Name "enumerate" q) [e] [] p) (enumL 0 l) := fun m Z s Q E st k => by
  refine Call_ (blt_ok (p := (("enumerate" : Str), .type "enumerate")) st.fm.fr hE (by decide +kernel) c ?_) rfl
  rw [args_trees (es := [e]) (fun e' he => by rw [List.mem_singleton.mp he]; exact ok)]
  refine PyProof.Rows.callWith_type (any_args [e]) (evalArgs_plain (spliced_cons (h m Z s _ E st fun v h' tk F p i => spliced_nil ?_)))
  have st' := st.keep F p
  have go : ∀ {a : Addr} {o : Obj} {vs : List Value} {St0 : Nat → Heap → Prop} {h'' : Heap} {tk' : Nat}, h'.get? a = some o → a ≠ L → ¬ Z a → DIs h' Z vs l → Draws G.prog G.w A.in1 h'.objs.size [h'.objs.size, a] vs.toArray.size (fun i v => vs.toArray[i]? = some v) St0 → St0 0 h'' →
      IsEnum h'' (h'.objs.size + 1) h'.objs.size 0 .none → h''.objs.size = h'.objs.size + 2 → (∀ b o, h'.get? b = some o → h''.get? b = some o) → wpAny (model G.prog G.w) A (pyIter (.ref (h'.objs.size + 1))) Q E { s with heap := h'', toks := tk' } :=
    fun {a o vs St0 h'' tk'} g naL nz its D st0 he hsz hk => by
    have lt : a < h'.objs.size := Heap.lt_size g
    have p' : Kp L h' h'' := fun b o _ e => hk b o e
    have F' : Fr G.H₀ L h'' m := Fr.ks F hk
    have Ll : L < h'.objs.size := by obtain ⟨o, _, _, g, _⟩ := F.ns; exact Heap.lt_size g
    obtain ⟨oi, gi⟩ := D.live 0 _ st0
    refine wpAny_pyIter_enum (s := { s with heap := h'', toks := tk' }) he ?_
    refine k _ _ _ _ h'' tk' F' (p.trans p') (Itr.ofEnum D (Nat.ne_of_gt (Nat.lt_succ_self _)) (Nat.ne_of_gt (Nat.lt_succ_of_lt lt))) ⟨0, ⟨_, he⟩, st0, Nat.zero_le _, l, its.mv (p'.mvW st.fm.zL fun b hb => by rcases hb with rfl | rfl <;> exact fresh_ge _ (by first | exact Nat.le_refl _ | exact Nat.le_succ _)), rfl⟩ (fun b hb => ?_) (fun b hb => ?_) fun _ b hb => ?_
    · have old : ∀ b, h'.objs.size ≤ b → s.heap.get? b = none := fun b hb => by
        cases q : s.heap.get? b with
        | none => rfl
        | some o =>
          by_cases c : b = L
          · subst c; exact absurd Ll (Nat.not_lt.mpr hb)
          · exact absurd (Heap.lt_size (p b o c q)) (Nat.not_lt.mpr hb)
      rcases hb with rfl | rfl
      · exact ⟨.inl rfl, old _ (Nat.le_succ _)⟩
      · exact ⟨.inr (.inl rfl), old _ (Nat.le_refl _)⟩
    · rcases hb with rfl | rfl | rfl
      · exact ⟨Nat.ne_of_gt (Nat.lt_succ_of_lt Ll), _, he⟩
      · exact ⟨Nat.ne_of_gt Ll, _, gi⟩
      · exact ⟨naL, _, hk _ _ g⟩
    · rcases hb with rfl | rfl | rfl
      · exact .inl (.inl rfl)
      · exact .inl (.inr rfl)
      · exact .inr nz
  rcases asSeq_s r with rfl | rfl
  · cases i with | @list a vs n _ g nz len its =>
    have lt : a < h'.objs.size := Heap.lt_size g
    have li : h'.IsList a vs.toArray := ⟨_, g, rfl, n, rfl⟩
    exact call_enumerate_list (s := { s with heap := h', toks := tk }) li fun h'' he hi hsz hk => go g (fun e => Fr.notSeq F (e ▸ g) rfl) nz its (Draws.list (A := A.in1) hh _ a (Nat.ne_of_lt lt) vs.toArray) ⟨hi, li.at fun o e => hk _ o e⟩ he hsz hk
  · cases i with | @tuple a vs n _ g nz len its =>
    have lt : a < h'.objs.size := Heap.lt_size g
    have li : h'.IsTuple a vs.toArray := ⟨_, g, rfl, n, rfl⟩
    exact call_enumT (s := { s with heap := h', toks := tk }) li fun h'' he hi hsz hk => go g (fun e => Fr.notSeq F (e ▸ g) rfl) nz its (draws_tuple (A := A.in1) hh _ a (Nat.ne_of_lt lt) vs.toArray) ⟨hi, li.at fun o e => hk _ o e⟩ he hsz hk
theorem ts_zip [GOK] {e1 e2 : Expr} {x1 x2 : D} {l1 l2 : List D} {p q : Pos} {elts : List Expr} {xx : Nat} {pos : Pos} (hE : EnvOK env) (hh : A.handled = none) (c : kG env.scope.names "zip" = true) (ok1 : okE e1 = true) (ok2 : okE e2 = true) (h1 : TE env A L S e1 x1) (h2 : TE env A L S e2 x2)
    (r1 : asList x1 = some l1) (r2 : asList x2 = some l2) : TS env A L S (.Tuple elts xx pos) ow (.Call (.Name "zip" q) [e1, e2] [] p) (zipL l1 l2) := fun m Z s Q E st k => by
  refine Call_ (blt_ok (p := (("zip" : Str), .type "zip")) st.fm.fr hE (by decide +kernel) c ?_) rfl
  rw [args_trees (es := [e1, e2]) (fun e' he => by rcases List.mem_cons.mp he with rfl | he; exact ok1; rw [List.mem_singleton.mp he]; exact ok2)]
  refine PyProof.Rows.callWith_type (any_args [e1, e2]) (evalArgs_plain (tes_cons h1 (tes_cons h2 tes_nil) m Z s _ E st fun vs h' tk F p i => ?_))
  have st' := st.keep F p
  rw [asList_s r1, asList_s r2] at i
  cases i with | cons i1 i => cases i with | cons i2 i => cases i with | nil =>
  cases i1 with | @list a va na _ ga nza lena itsa =>
  cases i2 with | @list b vb nb _ gb nzb lenb itsb =>
  have la : h'.IsList a va.toArray := ⟨_, ga, rfl, na, rfl⟩
  have lb : h'.IsList b vb.toArray := ⟨_, gb, rfl, nb, rfl⟩
  have lta : a < h'.objs.size := Heap.lt_size ga
  have ltb : b < h'.objs.size := Heap.lt_size gb
  have Ll : L < h'.objs.size := by obtain ⟨o, _, _, g, _⟩ := F.ns; exact Heap.lt_size g
  have old : ∀ b, h'.objs.size ≤ b → s.heap.get? b = none := fun b hb => by
    cases q : s.heap.get? b with
    | none => rfl
    | some o =>
      by_cases c : b = L
      · subst c; exact absurd Ll (Nat.not_lt.mpr hb)
      · exact absurd (Heap.lt_size (p b o c q)) (Nat.not_lt.mpr hb)
  have naL : a ≠ L := fun e => Fr.notSeq F (e ▸ ga) rfl
  have nbL : b ≠ L := fun e => Fr.notSeq F (e ▸ gb) rfl
  refine call_zip_2 (s := { s with heap := h', toks := tk }) la lb fun h'' hz hTI hTO hi1 hi2 hsz hk => ?_
  have p' : Kp L h' h'' := fun b o _ e => hk b o e
  refine wpAny_pyIter_zip (s := { s with heap := h'', toks := tk }) hz ?_
  have D : ZipApart (h'.objs.size + 4) (h'.objs.size + 2) (h'.objs.size + 3) h'.objs.size (h'.objs.size + 1) a b := by
    constructor <;> first | exact Nat.ne_of_lt (Nat.lt_of_lt_of_le lta (Nat.le_add_right _ _)) | exact Nat.ne_of_lt (Nat.lt_of_lt_of_le ltb (Nat.le_add_right _ _)) | exact Nat.ne_of_lt lta | exact Nat.ne_of_lt ltb | (intro e; exact absurd (congrArg (· - h'.objs.size) (show (_ : Nat) = _ from e)) (by simp))
  have mw : Mv h' Z h'' (fun c => Z c ∨ (c = h'.objs.size + 4 ∨ c = h'.objs.size + 3 ∨ c = h'.objs.size ∨ c = h'.objs.size + 1)) := p'.mvW st.fm.zL fun c hc => by
    rcases hc with rfl | rfl | rfl | rfl <;> exact fresh_ge _ (by first | exact Nat.le_refl _ | exact Nat.le_add_right _ _)
  obtain ⟨o1, g1, _⟩ := id hi1
  obtain ⟨o2, g2, _⟩ := id hi2
  refine k _ _ _ _ h'' tk (Fr.ks F hk) (p.trans p') (Itr.ofZip (v1 := va) (v2 := vb) hh D) ⟨0, ⟨hz, hTI, ⟨_, _, hTO⟩, hi1, hi2, la.at fun o e => hk _ o e, lb.at fun o e => hk _ o e⟩, l1, l2, itsa.mv mw, itsb.mv mw, rfl⟩ (fun b hb => ?_) (fun b hb => ?_) fun _ b hb => ?_
  · rcases hb with rfl | rfl | rfl | rfl
    · exact ⟨.inl rfl, old _ (Nat.le_add_right _ _)⟩
    · exact ⟨.inr (.inr (.inl rfl)), old _ (Nat.le_add_right _ _)⟩
    · exact ⟨.inr (.inr (.inr (.inl rfl))), old _ (Nat.le_refl _)⟩
    · exact ⟨.inr (.inr (.inr (.inr (.inl rfl)))), old _ (Nat.le_add_right _ _)⟩
  · rcases hb with rfl | rfl | rfl | rfl | rfl | rfl | rfl
    · exact ⟨Nat.ne_of_gt (Nat.lt_of_lt_of_le Ll (Nat.le_add_right _ _)), _, hz⟩
    · exact ⟨Nat.ne_of_gt (Nat.lt_of_lt_of_le Ll (Nat.le_add_right _ _)), _, hTI⟩
    · exact ⟨Nat.ne_of_gt (Nat.lt_of_lt_of_le Ll (Nat.le_add_right _ _)), _, hTO⟩
    · exact ⟨Nat.ne_of_gt Ll, _, g1⟩
    · exact ⟨Nat.ne_of_gt (Nat.lt_of_lt_of_le Ll (Nat.le_add_right _ _)), _, g2⟩
    · exact ⟨naL, _, hk _ _ ga⟩
    · exact ⟨nbL, _, hk _ _ gb⟩
  · rcases hb with rfl | rfl | rfl | rfl | rfl | rfl | rfl
    · exact .inl (.inl rfl)
    · exact .inr fun z => by obtain ⟨o, g⟩ := (st'.fm).za _ z; exact absurd (Heap.lt_size g) (Nat.not_lt.mpr (Nat.le_add_right _ _))
    · exact .inl (.inr (.inl rfl))
    · exact .inl (.inr (.inr (.inl rfl)))
    · exact .inl (.inr (.inr (.inr rfl)))
    · exact .inr nza
    · exact .inr nzb
end
end
end Mine
end
section
set_option genInjectivity false
set_option backward.match.sparseCases false
namespace Mine
open PySem PySem.Calls PySem.Spec PyProof.Rows PySem.W
section
theorem look_put (x y : Nat) (v : AV) : ∀ l : Al, look y (put x v l) = if y = x then some v else look y l := by
  intro l0
  induction l0 with
  | nil =>
    show (if x = y then some v else none) = _
    by_cases h : y = x
    · subst h; rw [if_pos rfl, if_pos rfl]
    · rw [if_neg h, if_neg (Ne.symm h)]; rfl
  | cons q0 r ih0 =>
    obtain ⟨z, u⟩ := q0
    have ih := ih0
    unfold put
    by_cases h : z = x
    · subst h
      rw [if_pos rfl]
      show (if z = y then some v else look y r) = if y = z then some v else (if z = y then some u else look y r)
      by_cases h' : y = z
      · subst h'; rw [if_pos rfl, if_pos rfl]
      · rw [if_neg h', if_neg (Ne.symm h'), if_neg (Ne.symm h')]
    · rw [if_neg h]
      show (if z = y then some u else look y (put x v r)) = if y = x then some v else (if z = y then some u else look y r)
      rw [ih]
      by_cases h' : y = x
      · subst h'; rw [if_pos rfl, if_pos rfl, if_neg h]
      · rw [if_neg h', if_neg h']
noncomputable def kS (ns : Nms) (x : Str) : Bool := match ns.lookup x with
  | some .local | some .cell => true
  | _ => false
noncomputable def Tn (env : Env) (L : Addr) (xs : List Nat) (b : Addr) : Prop := b = L ∨ ∃ x ∈ xs, env.kindOf (G.T x) = some .cell ∧ env.cells.lookup (G.T x) = some b
section
variable {env : Env} {A : Around} {L : Addr} {S : PS} {m : Str → Option Value} {Z : Addr → Prop} {s : Shared} {E : Value → Shared → Prop}
theorem Tn.tch {xs : List Nat} (st : Stt env L m Z S s.heap) : Tch L s.heap (Tn env L xs) := fun b hb => by
  rcases hb with rfl | ⟨x, _, k, e⟩
  · exact .inl rfl
  · obtain ⟨c, v, e', i, _⟩ := st.cel _ (.inl k)
    rw [e] at e'; cases Option.some.inj e'
    exact .inr ⟨v, i⟩
theorem Tn.z {xs : List Nat} {h : Heap} (st : Stt env L m Z S h) {b : Addr} (hb : Tn env L xs b) : Z b := by
  rcases hb with rfl | ⟨x, _, k, e⟩
  · exact st.fm.zL
  · obtain ⟨c, v, e', i, z⟩ := st.cel _ (.inl k)
    rw [e] at e'; cases Option.some.inj e'
    exact z
theorem Kt.mv {t : Addr → Prop} {h h' : Heap} (k : Kt t h h') (tz : ∀ b, t b → Z b) : Mv h Z h' Z := fun b o nz g => ⟨k b o (fun c => nz (tz b c)) g, nz⟩
theorem Fr.noL {H₀ h : Heap} (F : Fr H₀ L h m) : H₀.get? L = none := Heap.get?_none_of_le F.above
theorem store_ok {x : Nat} {v : Value} {av : AV} {Q : Unit → Shared → Prop} (hE : EnvOK env) (hl : env.locals = L) (st : Stt env L m Z S s.heap) (c : kS env.scope.names (G.T x) = true) (a : AVI L s.heap Z S.ob v av)
    (k : ∀ m' h' tk, Stt env L m' Z { S with loc := put x av S.loc } h' → Kt (Tn env L [x]) s.heap h' → (∀ y, y ≠ G.T x → m' y = m y) → VarV env L m' h' (G.T x) v → Q () { s with heap := h', toks := tk }) : wpAny (model G.prog G.w) A (storeName env (G.T x) v) Q E s := by
  have tz : ∀ b, Tn env L [x] b → Z b := fun b hb => Tn.z st hb
  have T : Tch L s.heap (Tn env L [x]) := Tn.tch st
  unfold kS at c
  split at c
  · rename_i kd
    have kd : env.kindOf (G.T x) = some .local := kd
    subst hl
    refine wpAny_storeName_local kd st.fm.fr.ns (fun h' hn hs => ?_) (by rw [hE.kind]; rfl)
    have kt : Kt (Tn env env.locals [x]) s.heap h' := fun b o nb g => hs.extBut b o (fun e => nb (.inl e)) g
    have F' : Fr G.H₀ env.locals h' (fun y => if y = G.T x then some v else m y) := ⟨hn, fun b o e => hs.extBut b o (fun q => by rw [q, Fr.noL st.fm.fr] at e; cases e) (st.fm.fr.keep b o e), st.fm.fr.above⟩
    have kp : Kp env.locals s.heap h' := fun b o nb g => hs.extBut b o nb g
    refine k _ h' _ ⟨⟨F', st.fm.zL, fun z hz => ?_, st.fm.zH⟩, fun y av' e cy => ?_, fun y hy => ?_, st.dis⟩ kt (fun y hy => if_neg hy) (.inl ⟨kd, rfl, if_pos rfl⟩)
    · by_cases e : z = env.locals
      · obtain ⟨o, _, _, g, _⟩ := hn; exact ⟨o, e ▸ g⟩
      · obtain ⟨o, g⟩ := st.fm.za z hz; exact ⟨o, hs.extBut _ _ e g⟩
    · rw [look_put] at e
      by_cases h : y = x
      · subst h
        rw [if_pos rfl] at e; cases Option.some.inj e
        exact ⟨v, .inl ⟨kd, rfl, if_pos rfl⟩, a.mvt st.fm.fr T kt (kt.mv tz)⟩
      · rw [if_neg h] at e
        obtain ⟨w, vv, aw⟩ := st.rd y av' e cy
        refine ⟨w, ?_, aw.mvt st.fm.fr T kt (kt.mv tz)⟩
        rcases vv with ⟨p, q, r⟩ | vv
        · exact .inl ⟨p, q, (if_neg fun e => h (G_inj _ _ e)).trans r⟩
        · rcases VarV.keep (L := env.locals) (m := m) (.inr vv) st.fm.fr kp with ⟨p, _⟩ | r
          · rcases vv.1 with q | q <;> (rw [p] at q; cases Option.some.inj q)
          · exact .inr r
    · obtain ⟨c, w, e, i, z⟩ := st.cel y hy
      have := Fr.ncell st.fm.fr i
      obtain ⟨o, g, q⟩ := i
      exact ⟨c, w, e, ⟨o, kp _ _ this g, q⟩, z⟩
  · rename_i kd
    have kd : env.kindOf (G.T x) = some .cell := kd
    obtain ⟨c0, w0, e0, i0, z0⟩ := st.cel _ (.inl kd)
    have nL : L ≠ c0 := Ne.symm (Fr.ncell st.fm.fr i0)
    refine wpAny_storeName_cell hE.kind kd e0 i0 fun h' hc hs => ?_
    have kt : Kt (Tn env L [x]) s.heap h' := fun b o nb g => hs.extBut b o (fun e => nb (.inr ⟨x, .head _, kd, e ▸ e0⟩)) g
    have n0 : G.H₀.get? c0 = none := st.fm.zH _ z0
    have F' : Fr G.H₀ L h' m := ⟨st.fm.fr.ns.sameBut hs nL, fun b o e => hs.extBut b o (fun q => by rw [q, n0] at e; cases e) (st.fm.fr.keep b o e), st.fm.fr.above⟩
    refine k m h' _ ⟨⟨F', st.fm.zL, fun z hz => ?_, st.fm.zH⟩, fun y av' e cy => ?_, fun y hy => ?_, st.dis⟩ kt (fun _ _ => rfl) (.inr ⟨.inl kd, c0, e0, hc⟩)
    · by_cases e : z = c0
      · obtain ⟨o, g, _⟩ := hc; exact ⟨o, e ▸ g⟩
      · obtain ⟨o, g⟩ := st.fm.za z hz; exact ⟨o, hs.extBut _ _ e g⟩
    · rw [look_put] at e
      by_cases h : y = x
      · subst h
        rw [if_pos rfl] at e; cases Option.some.inj e
        exact ⟨v, .inr ⟨.inl kd, c0, e0, hc⟩, a.mvt st.fm.fr T kt (kt.mv tz)⟩
      · rw [if_neg h] at e
        obtain ⟨w, vv, aw⟩ := st.rd y av' e cy
        refine ⟨w, ?_, aw.mvt st.fm.fr T kt (kt.mv tz)⟩
        rcases vv with ⟨p, q, r⟩ | ⟨p, c1, e1, i1⟩
        · exact .inl ⟨p, q, r⟩
        · exact .inr ⟨p, c1, e1, i1.sameBut hs fun q => h (G_inj _ _ (st.dis _ _ c0 p (.inl kd) (q ▸ e1) e0))⟩
    · obtain ⟨c, w, e, i, z⟩ := st.cel y hy
      by_cases q : c = c0
      · subst q; exact ⟨c, _, e, hc, z⟩
      · exact ⟨c, w, e, i.sameBut hs q, z⟩
  · cases c
theorem Kt.le {t t' : Addr → Prop} {h h' : Heap} (k : Kt t h h') (l : ∀ b, t b → t' b) : Kt t' h h' := fun b o n g => k b o (fun c => n (l b c)) g
theorem Kt.trans {t : Addr → Prop} {h h' h'' : Heap} (k : Kt t h h') (k' : Kt t h' h'') : Kt t h h'' := fun b o n g => k' b o n (k b o n g)
theorem Kt.refl (t : Addr → Prop) (h : Heap) : Kt t h h := fun _ _ _ g => g
theorem Ks.kt {h h' : Heap} (k : Ks h h') (t : Addr → Prop) : Kt t h h' := fun b o _ g => k b o g
noncomputable def wfXs (ns : Nms) (T : Nat → Str) (xs : List (Nat × Pos)) : Bool := xs.all fun x => kS ns (T x.1)
noncomputable def txNames : Tx → List Nat
  | .one x _ => [x]
  | .many xs _ => xs.map (·.1)
noncomputable def wfTx (ns : Nms) (T : Nat → Str) : Tx → Bool
  | .one x _ => kS ns (T x)
  | .many xs _ => wfXs ns T xs
theorem stores_ok (hE : EnvOK env) (hl : env.locals = L) : ∀ {xs : List (Nat × Pos)} {vs : List Value} {ds : List D} {l : Al} {S : PS} {m : Str → Option Value} {s : Shared} {Q : Unit → Shared → Prop}, Stt env L m Z S s.heap → wfXs env.scope.names G.T xs = true → DIs s.heap Z vs ds → putAll xs ds S.loc = some l →
    (∀ m' h' tk, Stt env L m' Z { S with loc := l } h' → Kt (Tn env L (xs.map (·.1))) s.heap h' → Q () { s with heap := h', toks := tk }) →
    wpAny (model G.prog G.w) A (assignInOrder ((assignEach (xs.map fun x => .Name (G.T x.1) x.2) env).map (·.2)) vs) Q E s := by
  intro l0
  induction l0 with
  | nil =>
    intro vs ds l S m s Q st c d e k
    cases ds with
    | nil => cases Option.some.inj e; exact assignInOrder_nil (k m s.heap s.toks st (Kt.refl _ _))
    | cons => cases e
  | cons x xs ih =>
    intro vs ds l S m s Q st c d e k
    have c := Bool.and_eq_true_iff.mp (show (kS env.scope.names (G.T x.1) && xs.all _) = true from c)
    cases d with
    | nil => cases e
    | @cons v vs d ds d1 dr =>
      refine bnd (show (putO x.1 (.fz d) S.loc).bind _ = some l from e) fun l1 e1 e => ?_
      refine gdd e1 fun _ e1 => ?_
      subst e1
      refine assignInOrder_cons (wpAny_assign_Name (store_ok (av := .fz d) hE hl st c.1 d1 fun m' h' tk st' kt _ _ => ?_))
      have tz : ∀ b, Tn env L [x.1] b → Z b := fun b hb => Tn.z st hb
      refine ih (s := { s with heap := h', toks := tk }) st' c.2 (dr.mv (kt.mv tz)) e fun m'' h'' tk' st'' kt' => k m'' h'' tk' st'' ?_
      refine (kt.le fun b hb => ?_).trans (kt'.le fun b hb => ?_)
      · rcases hb with rfl | ⟨y, hy, r⟩
        · exact .inl rfl
        · rw [List.mem_singleton.mp hy] at r; exact .inr ⟨_, .head _, r⟩
      · rcases hb with rfl | ⟨y, hy, r⟩
        · exact .inl rfl
        · exact .inr ⟨y, .tail _ hy, r⟩
theorem assignEach_len (xs : List (Nat × Pos)) : (assignEach (xs.map fun x => .Name (G.T x.1) x.2) env).length = xs.length := by
  induction xs with
  | nil => rfl
  | cons x xs ih => exact congrArg (· + 1) ih
theorem assignEach_star (xs : List (Nat × Pos)) : (assignEach (xs.map fun x => .Name (G.T x.1) x.2) env).findIdx? (·.1) = none := by
  induction xs with
  | nil => rfl
  | cons x xs ih =>
    show ((false, _) :: assignEach (xs.map fun x => Expr.Name (G.T x.1) x.2) env).findIdx? (·.1) = none
    rw [List.findIdx?_cons]
    rw [if_neg (by simp), ih]; rfl
theorem putAll_len : ∀ {xs : List (Nat × Pos)} {ds : List D} {l l' : Al}, putAll xs ds l = some l' → xs.length = ds.length := by
  intro xs
  induction xs with
  | nil => intro ds l l' e; cases ds; rfl; cases e
  | cons x xs ih =>
    intro ds l l' e
    cases ds with
    | nil => cases e
    | cons d ds =>
      refine bnd (show (putO x.1 (.fz d) l).bind _ = some l' from e) fun l1 _ e => ?_
      exact congrArg (· + 1) (ih e)
theorem Ks.push (h : Heap) (o : Obj) : Ks h (h.push o) := fun _ _ g => Heap.get?_push_of_some _ g
theorem bindT_ok {tg : Tx} {v : Value} {d : D} {l : Al} {Q : Unit → Shared → Prop} (hE : EnvOK env) (hl : env.locals = L) (hh : A.handled = none) (st : Stt env L m Z S s.heap) (c : wfTx env.scope.names G.T tg = true) (i : DI s.heap Z v d) (e : bindT tg d S.loc = some l)
    (k : ∀ m' h' tk, Stt env L m' Z { S with loc := l } h' → Kt (Tn env L (txNames tg)) s.heap h' → Q () { s with heap := h', toks := tk }) : wpAny (model G.prog G.w) A (assign (toTg G.T tg) env v) Q E s := by
  cases tg with
  | one x p =>
    refine gdd (show gd (!isObj x S.loc) (put x (.fz d) S.loc) = some l from e) fun _ e => ?_
    subst e
    exact wpAny_assign_Name (store_ok (av := .fz d) hE hl st c i fun m' h' tk st' kt _ _ => k m' h' tk st' kt)
  | many xs p =>
    refine bnd e fun ds e1 e2 => ?_
    rw [asTup_s e1] at i
    obtain ⟨a, vs, n, z⟩ := i.tuple'
    cases z.ref
    refine assign_Tuple_tuple hh z.is ((assignEach_len xs).trans ?_) (assignEach_star xs) fun h' he => ?_
    · show xs.length = vs.length
      rw [putAll_len e2, z.its.length]
    · have ks : Ks s.heap h' := fun b o g => he b o (Nat.ne_of_lt (Heap.lt_size g)) g
      exact stores_ok hE hl (s := { s with heap := h' }) (st.keep (Fr.ks st.fm.fr ks) (ks.kp L)) c (z.its.mv ((ks.kp L).mv st.fm.zL)) e2 fun m' h'' tk st' kt => k m' h'' tk st' ((ks.kt _).trans kt)
end
end
section
noncomputable def TC (env : Env) (A : Around) (L : Addr) (S : PS) (ifs : List Expr) (c : Bool) : Prop :=
  ∀ m Z (s : Shared) (Q : Bool → Shared → Prop) (E : Value → Shared → Prop), Stt env L m Z S s.heap → (∀ h' tk, Fr G.H₀ L h' m → Kp L s.heap h' → Q c { s with heap := h', toks := tk }) →
    wpAny (model G.prog G.w) A (forIn ifs true fun c r => if r = true then do let ok ← isTrue c env (eval c env); pure (ForInStep.yield ok) else pure (ForInStep.yield r)) Q E s
section
variable {env : Env} {A : Around} {L : Addr} {S : PS}
theorem tc_nil : TC env A L S [] true := fun m Z s Q E st k => wpAny_tests_nil (k s.heap s.toks st.fm.fr (Kp.refl _ _))
theorem tc_one {t : Expr} {c : Bool} (h : TT env A L S t c) : TC env A L S [t] c := fun m Z s Q E st k => by
  rw [List.forIn_cons]
  refine wpAny_bind ?_
  rw [if_pos rfl]
  exact wpAny_bind (h m Z s _ E st fun h' tk F p => wpAny_pure (wpAny_tests_nil' (k h' tk F p)))
where
  wpAny_tests_nil' {c : Bool} {s : Shared} {Q : Bool → Shared → Prop} {E : Value → Shared → Prop} (h : Q c s) :
      wpAny (model G.prog G.w) A (forIn ([] : List Expr) c fun c r => if r = true then do let ok ← isTrue c env (eval c env); pure (ForInStep.yield ok) else pure (ForInStep.yield r)) Q E s := by
    rw [List.forIn_nil]; exact wpAny_pure h
noncomputable def clOf (env : Env) : List (Str × NameKind) → List (Str × Addr) → List (Str × Addr)
  | [], cs => cs
  | (n, k) :: r, cs => clOf env r (if k == .free then (n, (env.cells.lookup n).getD 0) :: cs else cs)
theorem clos_eq {scope : Scope} (h : ∀ x ∈ scope.names, x.2 = .free → ∃ c, env.cells.lookup x.1 = some c) : closureFor scope env = pure (clOf env scope.names []) := by
  have go : ∀ (f : Str × NameKind → List (Str × Addr) → Sem (ForInStep (List (Str × Addr)))), (∀ n k r, f (n, k) r = if (k == NameKind.free) = true then (do let a ← cellOf env n; pure (ForInStep.yield ((n, a) :: r))) else pure (ForInStep.yield r)) →
      ∀ (names : List (Str × NameKind)) (cs : List (Str × Addr)), (∀ x ∈ names, x.2 = .free → ∃ c, env.cells.lookup x.1 = some c) → forIn names cs f = pure (clOf env names cs) := by
    intro f hf names
    induction names with
    | nil => intro cs _; rw [List.forIn_nil]; rfl
    | cons x r ih =>
      obtain ⟨n, k⟩ := x
      intro cs h
      rw [List.forIn_cons, hf]
      unfold clOf
      by_cases hk : (k == NameKind.free) = true
      · obtain ⟨c, e⟩ := h _ (.head _) (by simpa using hk)
        have e' : cellOf env n = pure c := by unfold cellOf; rw [e]
        rw [if_pos hk, if_pos hk, e', e]
        exact ih _ fun x hx => h x (.tail _ hx)
      · rw [if_neg hk, if_neg hk]
        exact ih _ fun x hx => h x (.tail _ hx)
  unfold closureFor
  dsimp only
  rw [go _ (fun n k r => by cases hkc : k == NameKind.free <;> rfl) scope.names [] h]
  rfl
theorem clOf_keep {n : Str} {c : Addr} : ∀ (names : List (Str × NameKind)) (cs : List (Str × Addr)), (∀ x ∈ cs, x.1 = n → x.2 = c) → ((env.cells.lookup n).getD 0 = c) → cs.lookup n = some c ∨ (n, NameKind.free) ∈ names → (clOf env names cs).lookup n = some c := by
  intro l0
  induction l0 with
  | nil =>
    intro cs hc e h
    rcases h with h | h
    · exact h
    · cases h
  | cons q0 r ih =>
    obtain ⟨x, k⟩ := q0
    intro cs hc e h
    unfold clOf
    by_cases hk : (k == NameKind.free) = true
    · rw [if_pos hk]
      have hc' : ∀ y ∈ (x, (env.cells.lookup x).getD 0) :: cs, y.1 = n → y.2 = c := fun y hy q => by
        rcases List.mem_cons.mp hy with rfl | hy
        · exact (show x = n from q) ▸ e
        · exact hc y hy q
      refine ih _ hc' e ?_
      by_cases q : n = x
      · subst q
        refine .inl ?_
        rw [List.lookup_cons, beq_self_eq_true]
        exact congrArg some e
      · rcases h with h | h
        · refine .inl ?_
          rw [List.lookup_cons, beq_eq_false_iff_ne.mpr q]; exact h
        · rcases List.mem_cons.mp h with h | h
          · cases h; exact absurd rfl q
          · exact .inr h
    · rw [if_neg hk]
      refine ih cs hc e ?_
      rcases h with h | h
      · exact .inl h
      · rcases List.mem_cons.mp h with h | h
        · cases h; exact absurd rfl hk
        · exact .inr h
theorem cellsFrom_app : ∀ (names : List (Str × NameKind)) (lo : Nat) (acc : List (Str × Addr)), cellsFrom lo names acc = cellsFrom lo names [] ++ acc := by
  intro l0
  induction l0 with
  | nil =>
    intro _ _
    exact rfl
  | cons q0 r ih =>
    obtain ⟨n, k⟩ := q0
    intro lo acc
    unfold cellsFrom
    split
    · rw [ih _ ((n, lo) :: acc), ih _ [(n, lo)], List.append_assoc]; rfl
    · exact ih lo acc
theorem cellsFrom_mem : ∀ (names : List (Str × NameKind)) (lo : Nat) (n : Str), (n, NameKind.cell) ∈ names ↔ ∃ c, (n, c) ∈ cellsFrom lo names [] := by
  intro l0
  induction l0 with
  | nil =>
    intro _ _
    exact ⟨(fun h => nomatch h), (by rintro ⟨_, h⟩; cases h)⟩
  | cons q0 r ih =>
    obtain ⟨x, k⟩ := q0
    intro lo n
    unfold cellsFrom
    by_cases hk : (k == NameKind.cell) = true
    · rw [if_pos hk, cellsFrom_app]
      have ek : k = .cell := by simpa using hk
      subst ek
      constructor
      · intro h
        rcases List.mem_cons.mp h with h | h
        · cases h; exact ⟨lo, List.mem_append_right _ (.head _)⟩
        · obtain ⟨c, h⟩ := (ih (lo + 1) n).mp h
          exact ⟨c, List.mem_append_left _ h⟩
      · rintro ⟨c, h⟩
        rcases List.mem_append.mp h with h | h
        · exact .tail _ ((ih (lo + 1) n).mpr ⟨c, h⟩)
        · rw [List.mem_singleton.mp h |> Prod.mk.inj |>.1]; exact .head _
    · rw [if_neg hk]
      constructor
      · intro h
        rcases List.mem_cons.mp h with h | h
        · cases h; exact absurd rfl hk
        · exact (ih lo n).mp h
      · intro h; exact .tail _ ((ih lo n).mpr h)
theorem newEnvC {scope : Scope} {cl : List (Str × Addr)} {s : Shared} {Q : Env → Shared → Prop} {E : Value → Shared → Prop}
    (h : Q (newEnv scope s.heap.objs.size env.globals (cellsFrom (s.heap.objs.size + 1) scope.names cl) env.qual none .none (some env) builtinsNs) { s with heap := pushCells (s.heap.push { cls := .type "dict", data := .dict #[] }) scope.names }) :
    wpAny (model G.prog G.w) A (newFunctionEnv scope env.globals cl [] env.qual none .none (some env)) Q E s := by
  simp only [newFunctionEnv, Option.isSome_some, if_true]
  refine wpAny_bind (wpAny_alloc ?_)
  refine wpAny_bind (wpAny_layCells _ (fun name kind cells => by cases hkc : kind == NameKind.cell <;> simp) _ _ _ _ ?_)
  rw [show ({ s with heap := s.heap.push { cls := .type "dict", data := .dict #[] } } : Shared).heap.objs.size = s.heap.objs.size + 1 from Heap.size_push ..]
  exact wpAny_bind (by rw [List.forIn_nil]; exact wpAny_pure (wpAny_pure h))
theorem compLoop_any {elt target iter : Expr} {ifs : List Expr} {scope : Scope} {pos : Pos} {I : Addr} {acc : Value} {cenv : Env} {s : Shared} {R : Result → Shared → Prop} (J : Nat → Shared → Prop)
    (turn : ∀ n s, J n s → ∀ E' : Value → Shared → Prop, wpAny (model G.prog G.w) A (pyNext (.ref I)) (fun r s₁ => match r with
      | none => R (.ok .next) s₁
      | some v => wpAny (model G.prog G.w) A (letOwnedTupleGo target (.ref I) v) (fun _ s₂ => wpAny (model G.prog G.w) A (assign target cenv v) (fun _ s₃ =>
          wpAny (model G.prog G.w) A (forIn ifs true fun c r => if r = true then do let ok ← isTrue c cenv (eval c cenv); pure (ForInStep.yield ok) else pure (ForInStep.yield r)) (fun ok s₄ =>
            if ok then wpAny (model G.prog G.w) A (eval elt cenv) (fun x s₅ => wpAny (model G.prog G.w) A (call (.builtin "list.append") [acc, x]) (fun _ s₆ => ∃ m, m < n ∧ J m s₆) E' s₅) E' s₄ else ∃ m, m < n ∧ J m s₄) E' s₃) E' s₂) E' s₁) E' s)
    (n : Nat) (h : J n s) : codeAny (model G.prog G.w) A (.compLoop (.ListComp elt [⟨target, iter, ifs, 0⟩] scope pos) 0 (.ref I) acc cenv) R s := by
  refine codeAny_loop rfl J (fun n s hI => ?_) n h
  show wpAny _ A ((compTurn (.ListComp elt [⟨target, iter, ifs, 0⟩] scope pos) 0 (.ref I) acc cenv).onRaise (fun x => do noteFrame x cenv; theTreesLotGoes x)) _ _ s
  refine wpAny_noted ?_
  rw [compTurn_list]
  refine wpAny_bind (wpAny_standAt (wpAny_bind (wpAny_mono (turn n s hI _) (fun r s₁ h₁ => ?_) fun _ _ h' => h')))
  cases r with
  | none => exact wpAny_pure h₁
  | some v =>
    refine wpAny_bind (wpAny_mono h₁ (fun _ s₂ h₂ => ?_) fun _ _ h' => h')
    refine wpAny_bind (wpAny_mono h₂ (fun _ s₃ h₃ => ?_) fun _ _ h' => h')
    refine wpAny_bind (wpAny_mono h₃ (fun ok s₄ h₄ => ?_) fun _ _ h' => h')
    cases ok with
    | false => exact wpAny_pure ⟨rfl, h₄⟩
    | true => exact wpAny_bind (wpAny_bind (wpAny_mono h₄ (fun x s₅ h₅ => wpAny_bind (wpAny_mono h₅ (fun _ s₆ h₆ => wpAny_pure (wpAny_pure ⟨rfl, h₆⟩)) fun _ _ h' => h')) fun _ _ h' => h'))
end
end
section
noncomputable def kC (ns : Nms) (x : Str) : Bool := match ns.lookup x with
  | some .cell | some .free => true
  | _ => false
noncomputable def nodupB : List Nat → Bool
  | [] => true
  | x :: r => !r.contains x && nodupB r
noncomputable def scOK (ns : Nms) (T : Nat → Str) (tg : Tx) (sc : List (Nat × NameKind)) : Bool := nodupB (sc.map (·.1)) && sc.all (fun x => match x.2 with
    | .local => (txNames tg).contains x.1 || T x.1 == (".0" : Str)
    | .cell => (txNames tg).contains x.1
    | .free => kC ns (T x.1)
    | .globalImplicit => true
    | _ => false) && wfTx (scOf T sc).names T tg
noncomputable def loc0 (tg : Tx) (l : Al) : Al := l.filter fun p => !(txNames tg).contains p.1
theorem look_loc0 {tg : Tx} (x : Nat) : ∀ l : Al, look x (loc0 tg l) = if (txNames tg).contains x then none else look x l := by
  intro l
  induction l with
  | nil =>
    show none = _
    split <;> rfl
  | cons q r ih =>
    obtain ⟨y, u⟩ := q
    unfold loc0 at ih ⊢
    rw [List.filter_cons]
    by_cases h : (txNames tg).contains y = true
    · rw [if_neg (by rw [h]; decide), ih]
      by_cases e : y = x
      · subst e; rw [if_pos h, if_pos h]
      · show _ = if _ then none else (if y = x then some u else look x r)
        rw [if_neg e]
    · rw [if_pos (by simpa using h)]
      show (if y = x then some u else look x (List.filter _ r)) = if _ then none else (if y = x then some u else look x r)
      by_cases e : y = x
      · subst e; rw [if_pos rfl, if_pos rfl, if_neg h]
      · rw [if_neg e, if_neg e, ih]
theorem lookup_map (g : Str → NameKind → NameKind) (y : Str) : ∀ l : Nms, (l.map fun x => (x.1, g x.1 x.2)).lookup y = (l.lookup y).map (g y) := by
  intro l0
  induction l0 with
  | nil =>
    exact rfl
  | cons q0 r ih =>
    obtain ⟨n, k⟩ := q0
    show List.lookup y ((n, g n k) :: (r.map fun x => (x.1, g x.1 x.2))) = (List.lookup y ((n, k) :: r)).map (g y)
    rw [List.lookup_cons, List.lookup_cons]
    cases h : y == n with
    | true => rw [beq_iff_eq.mp h]; rfl
    | false => exact ih
noncomputable def rl (env : Env) (n : Str) (k : NameKind) : NameKind := if (k == .free && env.scope.kind == .function && env.kindOf n == some .cell) then .cell else k
theorem relabel_lookup (scope : Scope) (env : Env) (y : Str) : (relabel scope env).names.lookup y = (scope.names.lookup y).map (rl env y) := by
  rw [← lookup_map]
  congr 1
  refine List.map_congr_left fun x _ => ?_
  obtain ⟨n, k⟩ := x
  show (if _ then (n, NameKind.cell) else (n, k)) = (n, rl env n k)
  unfold rl
  split <;> rfl
theorem lookup_sc {T : Nat → Str} (inj : ∀ i j, T i = T j → i = j) {x : Nat} {k : NameKind} : ∀ {sc : List (Nat × NameKind)}, nodupB (sc.map (·.1)) = true → (x, k) ∈ sc → (scOf T sc).names.lookup (T x) = some k := by
  intro l0
  induction l0 with
  | nil =>
    intro _ h
    exact nomatch h
  | cons q0 r ih =>
    obtain ⟨y, j⟩ := q0
    intro nd h
    have nd := Bool.and_eq_true_iff.mp (show (!(r.map (·.1)).contains y && nodupB (r.map (·.1))) = true from nd)
    show List.lookup (T x) ((T y, j) :: (scOf T r).names) = some k
    rw [List.lookup_cons]
    rcases List.mem_cons.mp h with h | h
    · cases h; rw [beq_self_eq_true]
    · have : y ≠ x := fun e => by
        subst e
        have : (r.map (·.1)).contains y = true := by
          rw [List.contains_iff_mem]; exact List.mem_map.mpr ⟨_, h, rfl⟩
        rw [this] at nd; exact absurd nd.1 (by decide)
      rw [beq_eq_false_iff_ne.mpr fun e => this (inj _ _ e).symm]
      exact ih nd.2 h
theorem sc_lookup {T : Nat → Str} {y : Str} {k : NameKind} {sc : List (Nat × NameKind)} (h : (scOf T sc).names.lookup y = some k) : ∃ x, T x = y ∧ (x, k) ∈ sc := by
  obtain ⟨p, hp, e⟩ := List.mem_map.mp (mem_of_lookup h)
  cases e
  exact ⟨p.1, rfl, hp⟩
section
variable {env : Env} {A : Around} {L : Addr} {S : PS} {m : Str → Option Value} {Z : Addr → Prop}
theorem lookup_app {α : Type} (y : Str) : ∀ (a b : List (Str × α)), (a ++ b).lookup y = (a.lookup y).or (b.lookup y) := by
  intro l0
  induction l0 with
  | nil =>
    intro b
    (cases h : b.lookup y <;> simp [h])
  | cons q0 r ih =>
    obtain ⟨n, v⟩ := q0
    intro b
    show List.lookup y ((n, v) :: (r ++ b)) = (List.lookup y ((n, v) :: r)).or _
    rw [List.lookup_cons, List.lookup_cons]
    cases y == n with
    | true => rfl
    | false => exact ih b
theorem lookup_of_mem {α : Type} {y : Str} {c : α} : ∀ {l : List (Str × α)}, (y, c) ∈ l → ∃ c', l.lookup y = some c' := by
  intro l
  induction l with
  | nil => exact fun h => absurd h List.not_mem_nil
  | cons q r ih =>
    obtain ⟨n, v⟩ := q
    intro h
    rw [List.lookup_cons]
    cases e : y == n with
    | true => exact ⟨v, rfl⟩
    | false =>
      rcases List.mem_cons.mp h with h | h
      · cases h; rw [beq_self_eq_true] at e; cases e
      · exact ih h
theorem inner_cells {sc : List (Nat × NameKind)} {tg : Tx} {lo : Nat} {h0 : Heap} (st : Stt env L m Z S h0) (ns : Nms) (hns : ∀ x, kC ns x = true → kC env.scope.names x = true) (ok : scOK ns G.T tg sc = true) {x : Nat} :
    ((x, NameKind.free) ∈ sc → ∃ c, env.cells.lookup (G.T x) = some c ∧ (env.kindOf (G.T x) = some .cell ∨ env.kindOf (G.T x) = some .free) ∧ (cellsFrom lo (scOf G.T sc).names (clOf env (scOf G.T sc).names [])).lookup (G.T x) = some c) ∧
    ((x, NameKind.cell) ∈ sc → ∃ c, (cellsFrom lo (scOf G.T sc).names []).lookup (G.T x) = some c ∧ (cellsFrom lo (scOf G.T sc).names (clOf env (scOf G.T sc).names [])).lookup (G.T x) = some c) := by
  have ok := Bool.and_eq_true_iff.mp ok
  have ok1 := Bool.and_eq_true_iff.mp ok.1
  constructor
  · intro hx
    have := List.all_eq_true.mp ok1.2 _ hx
    have kc : kC env.scope.names (G.T x) = true := hns _ this
    have kd : env.kindOf (G.T x) = some .cell ∨ env.kindOf (G.T x) = some .free := by
      unfold kC at kc
      split at kc
      · rename_i e; exact .inl e
      · rename_i e; exact .inr e
      · cases kc
    obtain ⟨c, v, e, i, z⟩ := st.cel _ kd
    refine ⟨c, e, kd, ?_⟩
    rw [cellsFrom_app, lookup_app]
    have n1 : (cellsFrom lo (scOf G.T sc).names []).lookup (G.T x) = none := by
      cases q : (cellsFrom lo (scOf G.T sc).names []).lookup (G.T x) with
      | none => rfl
      | some c' =>
        have := (cellsFrom_mem (scOf G.T sc).names lo (G.T x)).mpr ⟨c', mem_of_lookup q⟩
        obtain ⟨p, hp, ep⟩ := List.mem_map.mp this
        obtain ⟨i, k⟩ := p
        have e1 : i = x := G_inj _ _ (Prod.mk.inj ep).1
        have e2 : k = .cell := (Prod.mk.inj ep).2
        subst e1 e2
        have a := lookup_sc G_inj ok1.1 hp
        rw [lookup_sc G_inj ok1.1 hx] at a; cases Option.some.inj a
    rw [n1, Option.none_or]
    refine clOf_keep _ _ (fun _ h => nomatch h) (by rw [e]; rfl) (.inr (List.mem_map.mpr ⟨_, hx, rfl⟩))
  · intro hx
    obtain ⟨c, hc⟩ := (cellsFrom_mem (scOf G.T sc).names lo (G.T x)).mp (List.mem_map.mpr ⟨_, hx, rfl⟩)
    obtain ⟨c', e⟩ := lookup_of_mem hc
    refine ⟨c', e, ?_⟩
    rw [cellsFrom_app, lookup_app, e]; rfl
theorem inner_stt {sc : List (Nat × NameKind)} {tg : Tx} {lo : Nat} {h0 h : Heap} {C : Addr} {mC : Str → Option Value} {Z' : Addr → Prop} (st : Stt env L m Z S h0) (ns : Nms) (hns : ∀ x, kC ns x = true → kC env.scope.names x = true) (ok : scOK ns G.T tg sc = true)
    (F : Fr G.H₀ C h mC) (kp : Kp L h0 h) (hC : h0.get? C = none) (z1 : ∀ b, Z b → Z' b) (z2 : ∀ b, Z' b → Z b ∨ h0.get? b = none) (zC : Z' C) (za : ∀ z, Z' z → ∃ o, h.get? z = some o) (zH : ∀ z, Z' z → G.H₀.get? z = none)
    (cn : ∀ n c, (cellsFrom lo (scOf G.T sc).names []).lookup n = some c → (∃ v, h.IsCell c v) ∧ Z' c ∧ h0.get? c = none) (ap : (cellsFrom lo (scOf G.T sc).names []).Pairwise fun x y => x.2 ≠ y.2) :
    Stt (compEnvC (scOf G.T sc) (cellsFrom lo (scOf G.T sc).names (clOf env (scOf G.T sc).names [])) C env) C mC Z' { S with loc := loc0 tg S.loc } h := by
  have okk := Bool.and_eq_true_iff.mp ok
  have ok1 := Bool.and_eq_true_iff.mp okk.1
  have mv : Mv h0 Z h Z' := fun b o nz g => ⟨kp b o (fun e => nz (e ▸ st.fm.zL)) g, fun z => by
    rcases z2 b z with z | z
    · exact nz z
    · exact nso (z) g⟩
  have T0 : Tch L h0 (· = L) := Tch.self
  have kd : ∀ y k, (compEnvC (scOf G.T sc) (cellsFrom lo (scOf G.T sc).names (clOf env (scOf G.T sc).names [])) C env).kindOf y = some k → ∃ x j, G.T x = y ∧ (x, j) ∈ sc ∧ rl env y j = k := fun y k e => by
    have e : (relabel (scOf G.T sc) env).names.lookup y = some k := e
    rw [relabel_lookup] at e
    refine mpd e fun j ej e => ?_
    obtain ⟨x, ex, hx⟩ := sc_lookup ej
    exact ⟨x, j, ex, hx, e⟩
  have cl : ∀ y, ((compEnvC (scOf G.T sc) (cellsFrom lo (scOf G.T sc).names (clOf env (scOf G.T sc).names [])) C env).kindOf y = some .cell ∨ (compEnvC (scOf G.T sc) (cellsFrom lo (scOf G.T sc).names (clOf env (scOf G.T sc).names [])) C env).kindOf y = some .free) →
      (∃ x, G.T x = y ∧ (x, NameKind.free) ∈ sc) ∨ (∃ x, G.T x = y ∧ (x, NameKind.cell) ∈ sc) := fun y hy => by
    have go : ∀ k, (k = .cell ∨ k = .free) → (compEnvC (scOf G.T sc) (cellsFrom lo (scOf G.T sc).names (clOf env (scOf G.T sc).names [])) C env).kindOf y = some k → (∃ x, G.T x = y ∧ (x, NameKind.free) ∈ sc) ∨ (∃ x, G.T x = y ∧ (x, NameKind.cell) ∈ sc) := fun k hk e => by
      obtain ⟨x, j, ex, hx, e⟩ := kd y k e
      have : j = .free ∨ j = .cell := by
        unfold rl at e
        split at e
        · rename_i q; simp only [Bool.and_eq_true, beq_iff_eq] at q; exact .inl q.1.1
        · subst e; exact hk.symm
      rcases this with rfl | rfl
      · exact .inl ⟨x, ex, hx⟩
      · exact .inr ⟨x, ex, hx⟩
    rcases hy with hy | hy
    · exact go _ (.inl rfl) hy
    · exact go _ (.inr rfl) hy
  refine ⟨⟨F, zC, za, zH⟩, fun x av e c => ?_, fun y hy => ?_, fun y y' c hy hy' e e' => ?_⟩
  · -- a name that is read
    have e : look x (loc0 tg S.loc) = some av := e
    rw [look_loc0] at e
    by_cases nx : (txNames tg).contains x = true
    · exact nso (if_pos nx) e
    rw [if_neg nx] at e
    have fr : (x, NameKind.free) ∈ sc := by
      unfold kV at c
      simp only [Bool.and_eq_true, Bool.not_eq_true', Bool.or_eq_false_iff] at c
      obtain ⟨⟨c1, c2, c3⟩, c4⟩ := c
      have : ∃ k, (compEnvC (scOf G.T sc) (cellsFrom lo (scOf G.T sc).names (clOf env (scOf G.T sc).names [])) C env).kindOf (G.T x) = some k ∧ (k = .local ∨ k = .cell ∨ k = .free) := by
        split at c4
        · rename_i q; exact ⟨_, q, .inl rfl⟩
        · rename_i q; exact ⟨_, q, .inr (.inl rfl)⟩
        · rename_i q; exact ⟨_, q, .inr (.inr rfl)⟩
        · cases c4
      obtain ⟨k, ek, hk⟩ := this
      obtain ⟨x', j, ex, hx, er⟩ := kd _ _ ek
      have ex := G_inj _ _ ex
      subst ex
      have al := List.all_eq_true.mp ok1.2 _ hx
      cases j with
      | free => exact hx
      | «local» =>
        simp only [Bool.or_eq_true] at al
        rcases al with al | al
        · exact absurd al nx
        · rw [al] at c3; cases c3
      | cell => exact absurd al nx
      | globalImplicit =>
        have : k = .globalImplicit := er.symm
        subst this
        rcases hk with hk | hk | hk <;> cases hk
      | _ => cases al
    obtain ⟨c1, e1, k1, l1⟩ := (inner_cells (lo := lo) st ns hns ok (x := x)).1 fr
    have cV : kV env.scope.names (G.T x) = true := by
      unfold kV at c ⊢
      simp only [Bool.and_eq_true] at c ⊢
      refine ⟨c.1, ?_⟩
      rcases k1 with k1 | k1
      · have k1 : env.scope.names.lookup (G.T x) = some .cell := k1
        rw [k1]
      · have k1 : env.scope.names.lookup (G.T x) = some .free := k1
        rw [k1]
    obtain ⟨v, vv, a⟩ := st.rd x av e cV
    rcases vv with ⟨p, _⟩ | ⟨_, c2, e2, i2⟩
    · rcases k1 with k1 | k1 <;> (rw [p] at k1; cases Option.some.inj k1)
    rw [e1] at e2; cases Option.some.inj e2
    have kk : (compEnvC (scOf G.T sc) (cellsFrom lo (scOf G.T sc).names (clOf env (scOf G.T sc).names [])) C env).kindOf (G.T x) = some (rl env (G.T x) .free) := by
      show (relabel (scOf G.T sc) env).names.lookup (G.T x) = _
      rw [relabel_lookup, lookup_sc G_inj ok1.1 fr]; rfl
    refine ⟨v, .inr ⟨?_, c1, l1, ?_⟩, ?_⟩
    · rw [kk]; unfold rl; split
      · exact .inl rfl
      · exact .inr rfl
    · have := Fr.ncell st.fm.fr i2
      obtain ⟨o, g, q⟩ := i2
      exact ⟨o, kp _ _ this g, q⟩
    · have a' := a.mvt st.fm.fr T0 kp.kt mv
      cases av with
      | fz d => exact a'
      | own ds => exact a'
      | obj =>
        obtain ⟨o, eo, dx, es, n, g, g', ne, at'⟩ := a'
        obtain ⟨o', eo', dx', es', n', h1, h2, ne', _⟩ := a
        rw [eo] at eo'; cases eo'
        have := kp _ _ (Fr.nplain st.fm.fr h1) h1
        rw [g] at this
        have : dx = dx' := by
          have := congrArg (fun o => o.bind (·.dict)) this
          exact Option.some.inj this
        subst this
        exact ⟨o, eo, dx, es, n, g, g', (fun q => by rw [q, hC] at h2; cases h2), at'⟩
  · -- a cell stands
    rcases cl y hy with ⟨x, rfl, hx⟩ | ⟨x, rfl, hx⟩
    · obtain ⟨c1, e1, k1, l1⟩ := (inner_cells (lo := lo) st ns hns ok (x := x)).1 hx
      obtain ⟨c2, v, e2, i2, z⟩ := st.cel _ k1
      rw [e1] at e2; cases Option.some.inj e2
      have := Fr.ncell st.fm.fr i2
      obtain ⟨o, g, q⟩ := i2
      exact ⟨c1, v, l1, ⟨o, kp _ _ this g, q⟩, z1 _ z⟩
    · obtain ⟨c1, h1, l1⟩ := (inner_cells (lo := lo) st ns hns ok (x := x)).2 hx
      obtain ⟨⟨v, i⟩, z, _⟩ := cn _ _ h1
      exact ⟨c1, v, l1, i, z⟩
  · have e : (cellsFrom lo (scOf G.T sc).names (clOf env (scOf G.T sc).names [])).lookup y = some c := e
    have e' : (cellsFrom lo (scOf G.T sc).names (clOf env (scOf G.T sc).names [])).lookup y' = some c := e'
    have old : ∀ {x : Nat}, (x, NameKind.free) ∈ sc → (cellsFrom lo (scOf G.T sc).names (clOf env (scOf G.T sc).names [])).lookup (G.T x) = some c → env.cells.lookup (G.T x) = some c ∧ (env.kindOf (G.T x) = some .cell ∨ env.kindOf (G.T x) = some .free) ∧ h0.get? c ≠ none := fun hx e => by
      obtain ⟨c1, e1, k1, l1⟩ := (inner_cells (lo := lo) st ns hns ok).1 hx
      rw [e] at l1; cases Option.some.inj l1
      obtain ⟨c2, v, e2, i2, z⟩ := st.cel _ k1
      rw [e1] at e2; cases Option.some.inj e2
      obtain ⟨o, g, _⟩ := i2
      exact ⟨e1, k1, by rw [g]; nofun⟩
    have new : ∀ {x : Nat}, (x, NameKind.cell) ∈ sc → (cellsFrom lo (scOf G.T sc).names (clOf env (scOf G.T sc).names [])).lookup (G.T x) = some c → (cellsFrom lo (scOf G.T sc).names []).lookup (G.T x) = some c := fun hx e => by
      obtain ⟨c1, h1, l1⟩ := (inner_cells (lo := lo) st ns hns ok).2 hx
      rw [e] at l1; cases Option.some.inj l1
      exact h1
    rcases cl y hy with ⟨x, rfl, hx⟩ | ⟨x, rfl, hx⟩ <;> rcases cl y' hy' with ⟨x', rfl, hx'⟩ | ⟨x', rfl, hx'⟩
    · obtain ⟨a1, a2, _⟩ := old hx e
      obtain ⟨b1, b2, _⟩ := old hx' e'
      exact st.dis _ _ c a2 b2 a1 b1
    · exact absurd (cn _ _ (new hx' e')).2.2 (old hx e).2.2
    · exact absurd (cn _ _ (new hx e)).2.2 (old hx' e').2.2
    · exact name_of_addr ap (mem_of_lookup (new hx e)) (mem_of_lookup (new hx' e'))
theorem inner_names {ns : Nms} {tg : Tx} {sc : List (Nat × NameKind)} (ok : scOK ns G.T tg sc = true) : wfTx (relabel (scOf G.T sc) env).names G.T tg = true := by
  have ok := (Bool.and_eq_true_iff.mp ok).2
  have one : ∀ x, kS (scOf G.T sc).names (G.T x) = true → kS (relabel (scOf G.T sc) env).names (G.T x) = true := fun x h => by
    unfold kS at h ⊢
    rw [relabel_lookup]
    split at h
    · rename_i e; rw [e]; rfl
    · rename_i e; rw [e]; rfl
    · cases h
  cases tg with
  | one x p => exact one x ok
  | many xs p => exact List.all_eq_true.mpr fun x hx => one _ (List.all_eq_true.mp ok x hx)
theorem inner_touch {sc : List (Nat × NameKind)} {tg : Tx} {lo : Nat} {h0 : Heap} {C b : Addr} (st : Stt env L m Z S h0) (ns : Nms) (hns : ∀ x, kC ns x = true → kC env.scope.names x = true) (ok : scOK ns G.T tg sc = true)
    (hb : Tn (compEnvC (scOf G.T sc) (cellsFrom lo (scOf G.T sc).names (clOf env (scOf G.T sc).names [])) C env) C (txNames tg) b) : b = C ∨ ∃ n, (cellsFrom lo (scOf G.T sc).names []).lookup n = some b := by
  rcases hb with rfl | ⟨x, hx, k, e⟩
  · exact .inl rfl
  · have okk := Bool.and_eq_true_iff.mp ok
    have ok1 := Bool.and_eq_true_iff.mp okk.1
    have ks : kS (scOf G.T sc).names (G.T x) = true := by
      have := okk.2
      cases tg with
      | one y p => rw [List.mem_singleton.mp hx]; exact this
      | many xs p =>
        obtain ⟨y, hy, rfl⟩ := List.mem_map.mp hx
        exact List.all_eq_true.mp this y hy
    have k : (relabel (scOf G.T sc) env).names.lookup (G.T x) = some .cell := k
    rw [relabel_lookup] at k
    unfold kS at ks
    split at ks
    · rename_i q; rw [q] at k; cases Option.some.inj k
    · rename_i q
      obtain ⟨x', ex, hx'⟩ := sc_lookup q
      have ex := G_inj _ _ ex
      subst ex
      obtain ⟨c, e1, e2⟩ := (inner_cells (lo := lo) st ns hns ok (x := x')).2 hx'
      have e : (cellsFrom lo (scOf G.T sc).names (clOf env (scOf G.T sc).names [])).lookup (G.T x') = some b := e
      rw [e] at e2; cases Option.some.inj e2
      exact .inr ⟨_, e1⟩
    · cases ks
end
end
section
theorem isObj_look {x : Nat} {a b : Al} (h : look x a = look x b ∨ look x b = none) (e : isObj x a = false) : isObj x b = false := by
  unfold isObj at e ⊢
  rcases h with h | h
  · rw [← h]; exact e
  · rw [h]
theorem putO_weak {x : Nat} {v : AV} {a b l : Al} {q : Nat → Prop} (h : ∀ y, look y a = look y b ∨ ((q y ∨ y = x) ∧ look y b = none)) (e : putO x v a = some l) : ∃ l', putO x v b = some l' ∧ ∀ y, look y l = look y l' ∨ (q y ∧ look y l' = none) := by
  refine gdd e fun c e => ?_
  have c' : isObj x b = false := isObj_look ((h x).imp id And.right) (by simpa using c)
  refine ⟨put x v b, ?_, fun y => ?_⟩
  · unfold putO; rw [c']; rfl
  · rw [← e, look_put, look_put]
    by_cases z : y = x
    · rw [if_pos z, if_pos z]; exact .inl rfl
    · rw [if_neg z, if_neg z]
      rcases h y with h | ⟨h | h, h'⟩
      · exact .inl h
      · exact .inr ⟨h, h'⟩
      · exact absurd h z
theorem putAll_weak : ∀ {xs : List (Nat × Pos)} {ds : List D} {a b l : Al}, (∀ x, look x a = look x b ∨ (x ∈ xs.map (·.1) ∧ look x b = none)) → putAll xs ds a = some l → ∃ l', putAll xs ds b = some l' ∧ ∀ x, look x l = look x l' := by
  intro l0
  induction l0 with
  | nil =>
    intro l1
    cases l1 with
    | nil =>
      intro a b l h e
      (cases Option.some.inj e; exact ⟨b, rfl, fun x => (h x).elim id fun q => nomatch q.1⟩)
    | cons _ _ =>
      intro _ _ _ _ e
      (cases e)
  | cons x xs ih =>
    intro l1
    cases l1 with
    | nil =>
      intro _ _ _ _ e
      (cases e)
    | cons d ds =>
      intro a b l h e
      exact (by
    refine bnd (show (putO x.1 (.fz d) a).bind _ = some l from e) fun l1 e1 e => ?_
    obtain ⟨l1', e1', h1⟩ := putO_weak (q := fun y => y ∈ xs.map (·.1)) (fun y => (h y).imp id fun q => ⟨by
      rcases List.mem_cons.mp q.1 with z | z
      · exact .inr z
      · exact .inl z, q.2⟩) e1
    obtain ⟨l', e', h'⟩ := ih h1 e
    exact ⟨l', Option.bind_eq_some_iff.mpr ⟨l1', e1', e'⟩, h'⟩)
theorem bindT_weak {tg : Tx} {d : D} {a l : Al} (e : bindT tg d a = some l) : ∃ l', bindT tg d (loc0 tg a) = some l' ∧ ∀ x, look x l = look x l' := by
  have base : ∀ x, look x a = look x (loc0 tg a) ∨ (x ∈ txNames tg ∧ look x (loc0 tg a) = none) := fun x => by
    rw [look_loc0]
    by_cases h : (txNames tg).contains x = true
    · rw [if_pos h]; exact .inr ⟨List.contains_iff_mem.mp h, rfl⟩
    · rw [if_neg h]; exact .inl rfl
  cases tg with
  | one x p =>
    obtain ⟨l', e', h⟩ := putO_weak (q := fun _ => False) (fun y => (base y).imp id fun q => ⟨.inr (List.mem_singleton.mp q.1), q.2⟩) e
    exact ⟨l', e', fun y => (h y).elim id fun q => q.1.elim⟩
  | many xs p =>
    refine bnd e fun ds e1 e2 => ?_
    obtain ⟨l', e', h⟩ := putAll_weak base e2
    exact ⟨l', Option.bind_eq_some_iff.mpr ⟨ds, e1, e'⟩, h⟩
section
variable {env : Env} {A : Around} {L : Addr} {S : PS} {m : Str → Option Value} {Z : Addr → Prop}
theorem Stt.congr {h : Heap} {l : Al} (st : Stt env L m Z S h) (e : ∀ x, look x l = look x S.loc) : Stt env L m Z { S with loc := l } h :=
  ⟨st.fm, fun x av q c => st.rd x av ((e x).symm.trans q) c, st.cel, st.dis⟩
noncomputable def CBody (env : Env) (A : Around) (S : PS) (tg : Tx) (sc : List (Nat × NameKind)) (ifs : List Expr) (elt : Expr) (f : D → Option (Option D)) : Prop :=
  ∀ C cells d r, f d = some r → ∃ l c, bindT tg d S.loc = some l ∧ TC (compEnvC (scOf G.T sc) cells C env) A C { S with loc := l } ifs c ∧
    (c = true → ∃ y, r = some y ∧ TE (compEnvC (scOf G.T sc) cells C env) A C { S with loc := l } elt y) ∧ (c = false → r = none)
noncomputable def CEnd (L : Addr) (m : Str → Option Value) (Z : Addr → Prop) (s : Shared) (RR : Value → Addr → Result → Shared → Prop) (ds : List D) : Prop :=
  ∀ D C h tk ys n mC, s.heap.get? D = none → s.heap.get? C = none → D ≠ C → Fr G.H₀ L h m → Kp L s.heap h → h.Ns C mC → LsAt h (fun b => (Z b ∨ b = D) ∨ b = C) (.ref D) ds D ys n → RR (.ref D) C (.ok .next) { s with heap := h, toks := tk }
theorem comp_core {elt iter : Expr} {ifs : List Expr} {sc : List (Nat × NameKind)} {tg : Tx} {p : Pos} {items ds : List D} {f : D → Option (Option D)} (hE : EnvOK env) (hh : A.handled = none) (ns : Nms) (hns : ∀ x, kC ns x = true → kC env.scope.names x = true) (ok : scOK ns G.T tg sc = true)
    (hsrc : TS env A L S (toTg G.T tg) true iter items) (hf : compL f items = some ds) (hlen : ds.length ≤ big) (body : CBody env A S tg sc ifs elt f)
    {s : Shared} {RR : Value → Addr → Result → Shared → Prop} {E : Value → Shared → Prop} (st : Stt env L m Z S s.heap) (k : CEnd L m Z s RR ds) :
    wpAny (model G.prog G.w) A (eval iter env) (fun x s₁ => wpAny (model G.prog G.w) A (pyIter x) (fun it s₂ => wpAny (model G.prog G.w) A (newList []) (fun acc s₃ =>
      wpAny (model G.prog G.w) A (newFunctionEnv (scOf G.T sc) env.globals (clOf env (scOf G.T sc).names []) [] env.qual none .none (some env)) (fun cenv s₄ =>
        codeAny (model G.prog G.w) A (.compStart (.ListComp elt [⟨toTg G.T tg, iter, ifs, 0⟩] (scOf G.T sc) p) 0 it acc { cenv with scope := relabel (scOf G.T sc) env }) (RR acc cenv.locals) s₄) E s₃) E s₂) E s₁) E s := by
  refine hsrc m Z s _ E st fun I B W St h2 tk2 F2 p2 it st2 hW hB _ => ?_
  have L2 : L < h2.objs.size := by obtain ⟨o, _, _, g, _⟩ := F2.ns; exact Heap.lt_size g
  refine wpAny_newObj_type (newEnvC ?_) (by show (0 : Nat) ≤ sizeLine; exact Nat.zero_le _)
  generalize hD : ({ s with heap := h2, toks := tk2 } : Shared).heap.objs.size = Dd
  have hD' : h2.objs.size = Dd := hD
  generalize hH3 : ({ s with heap := h2, toks := tk2 } : Shared).heap.push { cls := .type "list", data := .seq ([] : List Value).toArray } = h3
  have hH3' : h2.push { cls := .type "list", data := .seq ([] : List Value).toArray } = h3 := hH3
  dsimp only
  have s3 : h3.objs.size = Dd + 1 := by rw [← hH3', Heap.size_push, hD']
  generalize hC : h3.objs.size = C
  have s3 : C = Dd + 1 := hC.symm.trans s3
  generalize hH4 : pushCells (h3.push { cls := .type "dict", data := .dict #[] }) (scOf G.T sc).names = h4
  have k23 : Ks h2 h3 := fun b o g => hH3' ▸ Heap.get?_push_of_some _ g
  have k34 : Ks h3 h4 := fun b o g => hH4 ▸ pushCells_keeps _ _ b o (Heap.get?_push_of_some _ g)
  have k24 : Ks h2 h4 := fun b o g => k34 b o (k23 b o g)
  have gD : h4.get? Dd = some (lsO [] 0) := k34 _ _ (by rw [← hH3', ← hD']; exact Heap.get?_push_size _ rfl)
  have nC : h4.Ns C (fun _ => none) := by
    rw [← hH4, ← hC]
    exact (Heap.Ns.new h3 (.type "dict")).keeps (pushCells_keeps _ _)
  have okC : CellsOk h4 (C + 1) (cellsFrom (C + 1) (scOf G.T sc).names []) := by
    have := cellsFrom_ok (scOf G.T sc).names (h3.push { cls := .type "dict", data := .dict #[] }) (C + 1) [] ⟨fun _ _ hm => (nomatch hm), List.Pairwise.nil⟩ (by rw [Heap.size_push, hC]; exact Nat.le_refl _)
    rw [Heap.size_push, hC, hH4] at this
    exact this
  have kp24 : Kp L s.heap h4 := p2.trans (k24.kp L)
  have old2 : ∀ b, Dd ≤ b → s.heap.get? b = none := fun b hb => by
    cases q : s.heap.get? b with
    | none => rfl
    | some o =>
      by_cases c : b = L
      · rw [c] at hb; exact absurd L2 (Nat.not_lt.mpr (hD' ▸ hb))
      · exact absurd (Heap.lt_size (p2 b o c q)) (Nat.not_lt.mpr (hD' ▸ hb))
  have B2 : ∀ b, B b → b < Dd := fun b hb => by obtain ⟨_, o, g⟩ := hB b hb; exact hD' ▸ Heap.lt_size g
  have W2 : ∀ b, W b → b < Dd := fun b hb => B2 b (hW b hb).1
  have hX : ∀ n c, (cellsFrom (C + 1) (scOf G.T sc).names []).lookup n = some c → C + 1 ≤ c := fun n c hm => (okC.empty n c (mem_of_lookup hm)).2
  let Z' : Addr → Prop := fun b => Z b ∨ b = Dd ∨ b = C ∨ W b ∨ ∃ n, (cellsFrom (C + 1) (scOf G.T sc).names []).lookup n = some b
  have z2 : ∀ b, Z' b → Z b ∨ s.heap.get? b = none := fun b hb => by
    rcases hb with z | rfl | rfl | z | ⟨n, z⟩
    · exact .inl z
    · exact .inr (old2 _ (Nat.le_refl _))
    · exact .inr (old2 _ (by lia))
    · exact .inr (hW b z).2
    · exact .inr (old2 _ (by have := hX n b z; lia))
  have H0 : ∀ b, s.heap.get? b = none → G.H₀.get? b = none := fun b hb => by
    cases q : G.H₀.get? b with
    | none => rfl
    | some o => have := st.fm.fr.keep b o q; exact nso (hb) this
  have zH : ∀ b, Z' b → G.H₀.get? b = none := fun b hb => by
    rcases z2 b hb with z | z
    · exact st.fm.zH b z
    · exact H0 b z
  have L2' : Nat.lt L Dd := hD' ▸ L2
  have LCl : Nat.lt L C := Nat.lt_trans L2' (s3 ▸ Nat.lt_succ_self _)
  have LC : L ≠ C := Nat.ne_of_lt LCl
  have LD : L ≠ Dd := Nat.ne_of_lt L2'
  have DC : Dd ≠ C := by rw [s3]; exact Nat.ne_of_lt (Nat.lt_succ_self _)
  have Cab : G.H₀.objs.size ≤ C := Nat.le_of_lt (Nat.lt_of_le_of_lt st.fm.fr.above LCl)
  let cells := cellsFrom (C + 1) (scOf G.T sc).names (clOf env (scOf G.T sc).names [])
  let J : Nat → Shared → Prop := fun j s' => ∃ h tk mC rest ys n acc rd, s' = { s with heap := h, toks := tk } ∧ j = rest.length + 1 ∧ compL f rest = some rd ∧ acc ++ rd = ds ∧ St Z' rest h ∧ h.get? Dd = some (lsO ys n) ∧ DIs h Z' ys acc ∧ h.Ns C mC ∧
    Fr G.H₀ L h m ∧ Kp L s.heap h ∧ (∀ n c, (cellsFrom (C + 1) (scOf G.T sc).names []).lookup n = some c → ∃ v, h.IsCell c v)
  have zaOf : ∀ {h : Heap} {mC : Str → Option Value} {ys : List Value} {n : Nat}, h.get? Dd = some (lsO ys n) → h.Ns C mC → Fr G.H₀ L h m → Kp L s.heap h → (∀ n c, (cellsFrom (C + 1) (scOf G.T sc).names []).lookup n = some c → ∃ v, h.IsCell c v) → (∀ b, W b → ∃ o, h.get? b = some o) → ∀ z, Z' z → ∃ o, h.get? z = some o :=
    fun g nc F kp ic ib z hz => by
    rcases hz with z | rfl | rfl | z | ⟨n, z⟩
    · exact ((st.keep F kp).fm).za _ z
    · exact ⟨_, g⟩
    · obtain ⟨o, _, _, g, _⟩ := nc; exact ⟨o, g⟩
    · exact ib _ z
    · obtain ⟨v, o, g, _⟩ := ic n _ z; exact ⟨o, g⟩
  have hst4 : St Z' items h4 := by
    refine it.frame st2 ?_ fun b o _ g => k24 b o g
    exact fun b o nz g => ⟨k24 b o g, fun z => by
        rcases z with z | rfl | rfl | z | ⟨n, z⟩
        · exact nz (.inl z)
        · exact nso (fresh_ge h2 (Nat.le_of_eq hD')) g
        · exact nso (fresh_ge h2 (by lia)) g
        · exact nz (.inr z)
        · exact nso (fresh_ge h2 (by have := hX n b z; lia)) g⟩
  have start : J (items.length + 1) { s with heap := h4, toks := tk2 } := by
    refine ⟨h4, tk2, _, items, [], 0, [], ds, rfl, rfl, hf, rfl, hst4, gD, .nil, nC, Fr.ks F2 k24, kp24, fun n c hm => ⟨_, (okC.empty n c (mem_of_lookup hm)).1⟩⟩
  have loop : ∀ {s' : Shared}, J (items.length + 1) s' → codeAny (model G.prog G.w) A (.compLoop (.ListComp elt [⟨toTg G.T tg, iter, ifs, 0⟩] (scOf G.T sc) p) 0 (.ref I) (.ref Dd) (compEnvC (scOf G.T sc) cells C env)) (RR (.ref Dd) C) s' := fun hJ => by
    refine compLoop_any J (fun j s' hj E' => ?_) _ hJ
    obtain ⟨h, tk, mC, rest, ys, n, acc, rd, rfl, rfl, er, ea, hst, gDd, dys, nCc, FL, kp, ic⟩ := hj
    have nD : ¬ W Dd := fun w => Nat.lt_irrefl _ (W2 _ w)
    have nCW : ¬ W C := fun w => Nat.lt_irrefl _ (Nat.lt_trans (W2 _ w) (s3 ▸ Nat.lt_succ_self _))
    have nL : ¬ W L := fun w => (hB _ (hW _ w).1).1 rfl
    have n0 : ∀ b, W b → s.heap.get? b = none := fun b w => (hW b w).2
    cases rest with
    | nil =>
      refine it.done _ _ _ hst fun h' tk' hk => ?_
      cases Option.some.inj er
      rw [List.append_nil] at ea
      subst ea
      have kW : ∀ b o, ¬ W b → h.get? b = some o → h'.get? b = some o := hk
      refine k Dd C h' tk' ys n mC (old2 _ (Nat.le_refl _)) (old2 _ (by lia)) DC ⟨FL.ns.at' fun o e => kW _ o nL e, fun b o g => kW b o (fun w => by exact nso (H0 _ (n0 b w)) g) (FL.keep b o g), FL.above⟩
        (fun b o nb g => kW b o (fun w => by exact nso (n0 b w) g) (kp b o nb g)) (nCc.at' fun o e => kW _ o nCW e) ⟨rfl, kW _ _ nD gDd, ?_, dys.mv fun b o nz g => ⟨kW b o (fun w => nz (.inr (.inr (.inr (.inl w))))) g, fun z => nz ?_⟩⟩
      · rw [dys.length]; exact hlen
      · rcases z with (z | z) | z
        · exact .inl z
        · exact .inr (.inl z)
        · exact .inr (.inr (.inl z))
    | cons d rest =>
      refine bnd (show (f d).bind _ = some rd from er) fun r er1 er => ?_
      refine mpd er fun rl' er2 er => ?_
      obtain ⟨l, c, eb, hTC, hT, hF⟩ := body C cells d r er1
      obtain ⟨l', eb', lk⟩ := bindT_weak eb
      have za0 := zaOf gDd nCc FL kp ic (it.live hst)
      refine wpAny_mono (it.item _ (fun v s₂ => wpAny (model G.prog G.w) A (assign (toTg G.T tg) (compEnvC (scOf G.T sc) cells C env) v) _ E' s₂) E' E' hst za0 (fun b w => .inr (.inr (.inr (.inl w)))) fun v h1 tk1 st1 dv hk => ?_)
        (fun r s₁ h => by cases r with | none => exact h.elim | some v => exact h) fun _ _ e => e
      have kW : ∀ b o, ¬ W b → h.get? b = some o → h1.get? b = some o := hk
      have FL1 : Fr G.H₀ L h1 m := ⟨FL.ns.at' fun o e => kW _ o nL e, fun b o g => kW b o (fun w => by exact nso (H0 _ (n0 b w)) g) (FL.keep b o g), FL.above⟩
      have kp1 : Kp L s.heap h1 := fun b o nb g => kW b o (fun w => by exact nso (n0 b w) g) (kp b o nb g)
      have nC1 : h1.Ns C mC := nCc.at' fun o e => kW _ o nCW e
      have gD1 := kW _ _ nD gDd
      have dy1 : DIs h1 Z' ys acc := dys.mv fun b o nz g => ⟨kW b o (fun w => nz (.inr (.inr (.inr (.inl w))))) g, nz⟩
      have nX : ∀ n c, (cellsFrom (C + 1) (scOf G.T sc).names []).lookup n = some c → ¬ W c := fun n c hc w => by
        have := hX n c hc
        exact Nat.lt_irrefl _ (Nat.lt_of_lt_of_le (Nat.lt_trans (W2 _ w) (s3 ▸ Nat.lt_succ_self _)) (Nat.le_of_succ_le this))
      have ic1 : ∀ n c, (cellsFrom (C + 1) (scOf G.T sc).names []).lookup n = some c → ∃ v, h1.IsCell c v := fun n c hc => by
        obtain ⟨v, o, g, q⟩ := ic n c hc
        exact ⟨v, o, kW _ _ (nX n c hc) g, q⟩
      have F1 : Fr G.H₀ C h1 mC := ⟨nC1, FL1.keep, Cab⟩
      have st1' := inner_stt (lo := C + 1) st ns hns ok F1 kp1 (old2 _ (by lia)) (fun b z => (.inl z : Z' b)) z2 (.inr (.inr (.inl rfl))) (zaOf gD1 nC1 FL1 kp1 ic1 (it.live st1)) zH (fun n c hc => ⟨ic1 n c hc, .inr (.inr (.inr (.inr ⟨n, hc⟩))), old2 _ (by have := hX n c hc; lia)⟩) okC.apart
      have hE' : EnvOK (compEnvC (scOf G.T sc) cells C env) := ⟨rfl, hE.glob, hE.blt⟩
      refine bindT_ok (s := { s with heap := h1, toks := tk1 }) hE' rfl hh st1' (inner_names ok) dv eb' fun m2 h2' tk2' st2' kt => ?_
      have st2'' : Stt (compEnvC (scOf G.T sc) cells C env) C m2 Z' { S with loc := l } h2' := st2'.congr lk
      have DCl : Nat.lt Dd C := s3 ▸ Nat.lt_succ_self _
      have tz : ∀ b, Tn (compEnvC (scOf G.T sc) cells C env) C (txNames tg) b → Z' b ∧ Nat.le C b := fun b hb => by
        rcases inner_touch st ns hns ok hb with rfl | ⟨n, hn⟩
        · exact ⟨.inr (.inr (.inl rfl)), Nat.le_refl _⟩
        · exact ⟨.inr (.inr (.inr (.inr ⟨n, hn⟩))), Nat.le_of_succ_le (hX n b hn)⟩
      have k12 : ∀ b o, Nat.lt b C → h1.get? b = some o → h2'.get? b = some o := fun b o lt g => kt b o (fun hb => Nat.lt_irrefl _ (Nat.lt_of_lt_of_le lt (tz b hb).2)) g
      have m12 : Mv h1 Z' h2' Z' := kt.mv fun b hb => (tz b hb).1
      have ic2 : ∀ n c, (cellsFrom (C + 1) (scOf G.T sc).names []).lookup n = some c → ∃ v, h2'.IsCell c v := fun n c hc => by
        obtain ⟨p, hp, ep⟩ := List.mem_map.mp ((cellsFrom_mem (scOf G.T sc).names (C + 1) n).mpr ⟨c, mem_of_lookup hc⟩)
        obtain ⟨x, kx⟩ := p
        cases ep
        have nd := (Bool.and_eq_true_iff.mp (Bool.and_eq_true_iff.mp ok).1).1
        have kd : (compEnvC (scOf G.T sc) cells C env).kindOf (G.T x) = some .cell := by
          show (relabel (scOf G.T sc) env).names.lookup (G.T x) = _
          rw [relabel_lookup, lookup_sc G_inj nd hp]; rfl
        obtain ⟨c', v, e', i, _⟩ := st2'.cel _ (.inl kd)
        have e' : cells.lookup (G.T x) = some c' := e'
        have : cells.lookup (G.T x) = some c := by
          show (cellsFrom (C + 1) (scOf G.T sc).names (clOf env (scOf G.T sc).names [])).lookup _ = _
          rw [cellsFrom_app, lookup_app, hc]; rfl
        rw [this] at e'; cases Option.some.inj e'
        exact ⟨v, i⟩
      have next : ∀ {h5 : Heap} {tk5 : Nat} {mC' : Str → Option Value} {ys' : List Value} {n' : Nat} {acc' : List D}, (∀ b o, Nat.lt b C → b ≠ Dd → h2'.get? b = some o → h5.get? b = some o) → Mv h2' Z' h5 Z' → h5.get? Dd = some (lsO ys' n') → DIs h5 Z' ys' acc' → h5.Ns C mC' →
          (∀ n c v, (cellsFrom (C + 1) (scOf G.T sc).names []).lookup n = some c → h2'.IsCell c v → h5.IsCell c v) → acc' ++ rl' = ds → ∃ mm, mm < (d :: rest).length + 1 ∧ J mm { s with heap := h5, toks := tk5 } := fun {h5 tk5 mC' ys' n' acc'} k25 mv25 g5 d5 nc5 i5 ea5 => by
        have k15 : ∀ b o, Nat.lt b C → b ≠ Dd → h1.get? b = some o → h5.get? b = some o := fun b o lt nd g => k25 b o lt nd (k12 b o lt g)
        refine ⟨rest.length + 1, Nat.lt_succ_self _, _, _, mC', rest, _, _, _, rl', rfl, rfl, er2, ea5, it.frame st1 (fun b o nz g => ?_) (fun b o hb g => k15 b o (Nat.lt_trans (B2 b hb) DCl) (Nat.ne_of_lt (B2 b hb)) g), g5, d5, nc5, ⟨FL1.ns.at' fun o e => k15 _ o LCl LD e, fun b o g => ?_, FL1.above⟩, fun b o nb g => ?_, fun n c hc => ?_⟩
        · exact mv25 b o (m12 b o nz g).2 (m12 b o nz g).1
        · have lt : Nat.lt b Dd := by
            rcases Nat.lt_or_ge b Dd with q | q
            · exact q
            · exact nso (H0 _ (old2 _ q)) g
          exact k15 b o (Nat.lt_trans lt DCl) (Nat.ne_of_lt lt) (FL1.keep b o g)
        · have lt : Nat.lt b Dd := by
            rcases Nat.lt_or_ge b Dd with q | q
            · exact q
            · exact nso (old2 _ q) g
          exact k15 b o (Nat.lt_trans lt DCl) (Nat.ne_of_lt lt) (kp1 b o nb g)
        · obtain ⟨v, i⟩ := ic2 n c hc
          exact ⟨v, i5 n c v hc i⟩
      have gD2 : h2'.get? Dd = some (lsO ys n) := k12 _ _ DCl gD1
      have dy2 : DIs h2' Z' ys acc := dy1.mv m12
      have cC : ∀ n c, (cellsFrom (C + 1) (scOf G.T sc).names []).lookup n = some c → c ≠ C ∧ c ≠ Dd := fun n c hc => ⟨Nat.ne_of_gt (hX n c hc), Nat.ne_of_gt (Nat.lt_trans DCl (hX n c hc))⟩
      refine hTC m2 Z' _ _ E' st2'' fun h3' tk3 F3 kp3 => ?_
      have zC' : Z' C := .inr (.inr (.inl rfl))
      cases c with
      | false =>
        cases hF rfl
        exact next (fun b o lt _ g => kp3 b o (Nat.ne_of_lt lt) g) (kp3.mv zC') (kp3 _ _ DC gD2) (dy2.mv (kp3.mv zC')) F3.ns (by rintro n c v hc ⟨o, g, q⟩; exact ⟨o, kp3 _ _ (cC n c hc).1 g, q⟩) (by rw [← ea, ← er]; rfl)
      | true =>
        obtain ⟨y, rfl, hTE⟩ := hT rfl
        refine hTE m2 Z' _ _ E' (st2''.keep F3 kp3) fun yv h4' tk4 F4 kp4 dyv => ?_
        have kp34 := kp3.trans kp4
        have gD4 : h4'.get? Dd = some (lsO ys n) := kp34 _ _ DC gD2
        have len : ys.length + 1 ≤ big := by
          have h1 := dys.length
          have h2 : acc.length + rd.length = ds.length := by rw [← ea, List.length_append]
          have h3 : rd.length = rl'.length + 1 := by rw [← er]; rfl
          lia
        refine append_at (s := { s with heap := h4', toks := tk4 }) gD4 (fun h5 hs5 hD5 => ?_) (by show ys.length ≤ sizeLine; exact Nat.le_trans (Nat.le_of_succ_le len) big_size)
        have z5 : ∀ b, ¬ Z' b → b ≠ Dd := fun b nz e => nz (.inr (.inl e))
        have m45 : Mv h4' Z' h5 Z' := fun b o nz g => ⟨hs5.extBut b o (z5 b nz) g, nz⟩
        have g5 : h5.get? Dd = some (lsO (ys ++ [yv]) (n + 1)) := by
          rw [hD5]
          simp only [List.push_toArray]
        exact next (fun b o lt nd g => hs5.extBut b o nd (kp34 b o (Nat.ne_of_lt lt) g)) (fun b o nz g => m45 b o nz ((kp34.mv zC') b o nz g).1) g5 (((dy2.mv (kp34.mv zC')).mv m45).append (DIs.one (dyv.mv m45))) (F4.ns.sameBut hs5 (Ne.symm DC))
          (by rintro n c v hc ⟨o, g, q⟩; exact ⟨o, hs5.extBut _ _ (cC n c hc).2 (kp34 _ _ (cC n c hc).1 g), q⟩) (by rw [← ea, ← er, List.append_assoc]; rfl)
  exact codeAny_compStart_list (loop start) (it.self _ _ _ hst4 (loop start))
theorem tf_comp {elt iter : Expr} {ifs : List Expr} {sc : List (Nat × NameKind)} {tg : Tx} {p : Pos} {items ds : List D} {f : D → Option (Option D)} (hE : EnvOK env) (hh : A.handled = none) (ns : Nms) (hns : ∀ x, kC ns x = true → kC env.scope.names x = true) (ok : scOK ns G.T tg sc = true)
    (hsrc : TS env A L S (toTg G.T tg) true iter items) (hf : compL f items = some ds) (hlen : ds.length ≤ big) (body : CBody env A S tg sc ifs elt f) (hi : okE iter = true) :
    TF env A L S (.ListComp elt [⟨toTg G.T tg, iter, ifs, 0⟩] (scOf G.T sc) p) ds := fun m Z s Q E st k => by
  have nd := (Bool.and_eq_true_iff.mp (Bool.and_eq_true_iff.mp ok).1).1
  rw [eval_ListComp]
  refine wpAny_comprehension_free (use := none) rfl (fun x => by cases iter <;> first | rfl | cases hi) (clos_eq fun x hx e => ?_) rfl (fun x hx e => ?_) (comp_core hE hh ns hns ok hsrc hf hlen body st fun Dd C h tk ys n mC eD eC DC F kp nC ls => ?_)
  · obtain ⟨q, hq, rfl⟩ := List.mem_map.mp hx
    obtain ⟨x, j⟩ := q
    cases e
    obtain ⟨c, e, _⟩ := (inner_cells (lo := 0) st ns hns ok).1 hq
    exact ⟨c, e⟩
  · obtain ⟨q, hq, rfl⟩ := List.mem_map.mp hx
    obtain ⟨x, j⟩ := q
    cases e
    exact lookup_sc G_inj nd hq
  · refine ⟨mC, nC, fun h' hs => ?_⟩
    have CL : C ≠ L := fun e => by
      obtain ⟨o, g⟩ := st.hasL
      rw [← e, eC] at g; cases g
    have F' : Fr G.H₀ L h' m := ⟨F.ns.sameBut hs (Ne.symm CL), fun b o g => hs.extBut b o (fun e => by
      have := st.fm.fr.keep b o g
      rw [e, eC] at this; cases this) (F.keep b o g), F.above⟩
    refine k Dd ys n h' tk F' (fun b o nb g => hs.extBut b o (fun e => by rw [e, eC] at g; cases g) (kp b o nb g)) eD ⟨rfl, hs.extBut _ _ DC ls.at_, ls.len, ls.its.mv fun b o nz g => ⟨hs.extBut b o (fun e => nz (.inr e)) g, fun z => nz (.inl z)⟩⟩
end
end
section
noncomputable def lenEs : Exs → Nat
  | .nil => 0
  | .cons _ r => lenEs r + 1
noncomputable def plainT : Ex → Bool
  | .and .. | .or .. | .ite .. => false
  | _ => true
noncomputable def isMany : Tx → Bool
  | .many .. => true
  | _ => false
mutual
noncomputable def wfE (T : Nat → Str) (ns : Nms) : Ex → Bool
  | .lit d _ => litOK d
  | .neg .. => true
  | .var x _ => kV ns (T x)
  | .glb x _ => kG ns (T x)
  | .tup es _ => wfEs T ns es && decide (lenEs es ≤ 64)
  | .lst es _ => wfEs T ns es && decide (lenEs es ≤ 64)
  | .bin _ a b _ => wfQ T ns a && wfQ T ns b
  | .and es _ => wfEs T ns es
  | .or es _ => wfEs T ns es
  | .cmp _ a b _ => wfQ T ns a && wfQ T ns b
  | .ite t a b _ => wfT T ns t && wfE T ns a && wfE T ns b
  | .idx e i _ => wfQ T ns e && wfE T ns i
  | .slc e lo hi _ _ => wfQ T ns e && wfO T ns lo && wfO T ns hi
  | .attr x _ _ _ => kV ns (T x)
  | .b1 f e _ _ => kG ns (b1Name f) && wfQ T ns e
  | .b2 f a b _ _ => kG ns (b2Name f) && wfE T ns a && wfE T ns b
  | .isTy e t _ _ _ _ => kG ns "type" && kG ns (Str.ofString (tyStr t)) && wfE T ns e
  | .isNone e _ _ => wfE T ns e
  | .call f es _ _ => kG ns (T f) && wfEs T ns es
  | .meth x _ es p a _ => kV ns (T x) && wfEs T ns es && decide (lenEs es < 30) && decide (a.endLine = p.line)
  | .comp elt tg src cond sc _ => wfS T ns (isMany tg) src && scOK ns T tg sc && wfC T (scOf T sc).names cond && wfE T (scOf T sc).names elt
noncomputable def wfEs (T : Nat → Str) (ns : Nms) : Exs → Bool
  | .nil => true
  | .cons e r => wfE T ns e && wfEs T ns r
noncomputable def wfO (T : Nat → Str) (ns : Nms) : Ox → Bool
  | .none => true
  | .some e => wfE T ns e
noncomputable def wfQ (T : Nat → Str) (ns : Nms) : Qx → Bool
  | .v e => wfE T ns e
  | .ov x _ => kV ns (T x)
  | .oa x _ _ _ => kV ns (T x)
noncomputable def wfV (T : Nat → Str) (ns : Nms) : Qx → Bool
  | .v e => wfE T ns e
  | _ => false
noncomputable def wfT (T : Nat → Str) (ns : Nms) : Te → Bool
  | .v e => plainT e && wfE T ns e
  | .q e => wfO' T ns e
  | .cmp2 _ _ a b c _ => wfE T ns a && wfE T ns b && wfE T ns c
  | .not t _ => wfT T ns t
  | .all ts _ => wfTs T ns ts
  | .any ts _ => wfTs T ns ts
noncomputable def wfO' (T : Nat → Str) (ns : Nms) : Qx → Bool
  | .v _ => false
  | .ov x _ => kV ns (T x)
  | .oa x _ _ _ => kV ns (T x)
noncomputable def wfTs (T : Nat → Str) (ns : Nms) : Tes → Bool
  | .nil => true
  | .cons t r => wfT T ns t && wfTs T ns r
noncomputable def wfC (T : Nat → Str) (ns : Nms) : Cx → Bool
  | .none => true
  | .some t => wfT T ns t
noncomputable def wfS (T : Nat → Str) (ns : Nms) (many : Bool) : Sr → Bool
  | .seq e => wfQ T ns e
  | .rng es _ _ => kG ns "range" && wfEs T ns es
  | .enum e _ _ => kG ns "enumerate" && wfV T ns e && many
  | .zip a b _ _ => kG ns "zip" && wfV T ns a && wfV T ns b && many
end
structure NmOK (env : Env) (ns : Nms) : Prop where
  v : ∀ x, kV ns x = true → kV env.scope.names x = true
  g : ∀ x, kG ns x = true → kG env.scope.names x = true
  c : ∀ x, kC ns x = true → kC env.scope.names x = true
theorem inner_nm {env : Env} {sc : List (Nat × NameKind)} {cells : List (Str × Addr)} {C : Addr} : NmOK (compEnvC (scOf G.T sc) cells C env) (scOf G.T sc).names := by
  have lk : ∀ x, (compEnvC (scOf G.T sc) cells C env).scope.names.lookup x = ((scOf G.T sc).names.lookup x).map (rl env x) := fun x => relabel_lookup _ _ x
  have fr : ∀ x, rl env x .free = .cell ∨ rl env x .free = .free := fun x => by unfold rl; split; exact .inl rfl; exact .inr rfl
  refine ⟨fun x h => ?_, fun x h => ?_, fun x h => ?_⟩
  · unfold kV at h ⊢
    rw [Bool.and_eq_true] at h ⊢
    refine ⟨h.1, ?_⟩
    rw [lk]
    have h := h.2
    split at h
    · rename_i e; rw [e]; rfl
    · rename_i e; rw [e]; rfl
    · rename_i e
      rw [e]
      show (match some (rl env x .free) with | some .local | some .cell | some .free => true | _ => false) = true
      rcases fr x with q | q <;> rw [q]
    · cases h
  · unfold kG at h ⊢
    rw [Bool.and_eq_true] at h ⊢
    refine ⟨h.1, ?_⟩
    rw [lk, beq_iff_eq.mp h.2]; rfl
  · unfold kC at h ⊢
    rw [lk]
    split at h
    · rename_i e; rw [e]; rfl
    · rename_i e
      rw [e]
      show (match some (rl env x .free) with | some .cell | some .free => true | _ => false) = true
      rcases fr x with q | q <;> rw [q]
    · cases h
theorem evs_len {O : Orc} : ∀ {es : Exs} {S : PS} {ds : List D}, evs O es S = some ds → ds.length = lenEs es
  | .nil, S, ds, e => by cases Option.some.inj e; rfl
  | .cons x r, S, ds, e => by
    refine bnd (show (ev O x S).bind _ = some ds from e) fun d _ e => ?_
    refine mpd e fun l el e => ?_
    subst e
    exact congrArg (· + 1) (evs_len el)
theorem evs_nil {O : Orc} {T : Nat → Str} {es : Exs} {S : PS} {ds : List D} (e : evs O es S = some ds) : toEs T es = [] → ds = [] := by
  cases es with
  | nil => cases Option.some.inj e; exact fun _ => rfl
  | cons => exact nofun
theorem toEs_len (T : Nat → Str) : ∀ es, (toEs T es).length = lenEs es
  | .nil => rfl
  | .cons _ r => congrArg (· + 1) (toEs_len T r)
theorem noSlice_E (T : Nat → Str) (x : Ex) : ∀ a b c q, toE T x ≠ .Slice a b c q := by cases x <;> exact fun _ _ _ _ h => Expr.noConfusion h
theorem okE_S {T : Nat → Str} (x : Sr) : okE (toS T x) = true := by cases x <;> first | rfl | exact okE_Q T _
theorem plain_isTrue (T : Nat → Str) {x : Ex} {env : Env} (h : plainT x = true) : (∃ l o r p, toE T x = .Compare l [o] [r] p) ∨ ∀ whole, isTrue (toE T x) env whole = (do let v ← whole; standAt (toE T x).pos; holding [v] (truthy v)) := by
  cases x <;> first | exact .inl ⟨_, _, _, _, rfl⟩ | exact .inr fun _ => rfl | cases h
section
variable {k : Nat} {O : Orc} (hO : SndO k O)
include hO
mutual
theorem sndE [GOK] : ∀ (e : Ex) {env : Env} {A : Around} {L : Addr} {S : PS} {d : D} {ns : Nms}, EnvOK env → NmOK env ns → Rm A k → wfE G.T ns e = true → ev O e S = some d → TE env A L S (toE G.T e) d
  | .lit d p, env, A, L, S, r, ns, hE, hN, hA, w, e => by cases Option.some.inj e; exact te_lit w
  | .neg i p q, env, A, L, S, r, ns, hE, hN, hA, w, e => by cases Option.some.inj e; exact te_neg
  | .var x p, env, A, L, S, r, ns, hE, hN, hA, w, e => te_var hE (hN.v _ w) e
  | .glb x p, env, A, L, S, r, ns, hE, hN, hA, w, e => te_glb hE (hN.g _ w) (hO.gl x r e)
  | .tup es p, env, A, L, S, r, ns, hE, hN, hA, w, e => by
    refine mpd (show (evs O es S).map _ = some r from e) fun ds ed e₀ => ?_
    cases e₀
    have w := Bool.and_eq_true_iff.mp w
    exact te_tup (okE_Es _ es) (sndEs es hE hN hA w.1 ed) (by rw [evs_len ed]; exact Nat.le_trans (of_decide_eq_true w.2) (by decide))
  | .lst es p, env, A, L, S, r, ns, hE, hN, hA, w, e => by
    refine mpd (show (evs O es S).map _ = some r from e) fun ds ed e₀ => ?_
    cases e₀
    have w := Bool.and_eq_true_iff.mp w
    exact (tf_lst (okE_Es _ es) (sndEs es hE hN hA w.1 ed) (by rw [evs_len ed]; exact Nat.le_trans (of_decide_eq_true w.2) (by decide))).te
  | .bin o a b p, env, A, L, S, r, ns, hE, hN, hA, w, e => by
    refine bnd (show (evQ O a S).bind _ = some r from e) fun x ex e => ?_
    refine bnd e fun y ey e => ?_
    have w := Bool.and_eq_true_iff.mp w
    exact te_bin (sndQ a hE hN hA w.1 ex) (sndQ b hE hN hA w.2 ey) e
  | .and es p, env, A, L, S, r, ns, hE, hN, hA, w, e => sndAnd es hE hN hA w e
  | .or es p, env, A, L, S, r, ns, hE, hN, hA, w, e => sndOr es hE hN hA w e
  | .cmp o a b p, env, A, L, S, r, ns, hE, hN, hA, w, e => by
    refine bnd (show (evQ O a S).bind _ = some r from e) fun x ex e => ?_
    refine bnd e fun y ey e => ?_
    refine mpd e fun c ec e₀ => ?_
    cases e₀
    have w := Bool.and_eq_true_iff.mp w
    exact te_cmp hA.units (okE_Q _ b) (sndQ a hE hN hA w.1 ex) (sndQ b hE hN hA w.2 ey) ec
  | .ite t a b p, env, A, L, S, r, ns, hE, hN, hA, w, e => by
    refine bnd (show (evT O t S).bind _ = some r from e) fun c ec e => ?_
    have w := Bool.and_eq_true_iff.mp w
    have w1 := Bool.and_eq_true_iff.mp w.1
    refine te_ite (sndT t hE hN hA w1.1 ec) (fun q => ?_) (fun q => ?_)
    · subst q; exact sndE a hE hN hA w1.2 e
    · subst q; exact sndE b hE hN hA w.2 e
  | .idx a i p, env, A, L, S, r, ns, hE, hN, hA, w, e => by
    refine bnd (show (evQ O a S).bind _ = some r from e) fun x ex e => ?_
    refine bnd e fun y ey e => ?_
    have w := Bool.and_eq_true_iff.mp w
    exact te_idx (noSlice_E _ i) (sndQ a hE hN hA w.1 ex) (sndE i hE hN hA w.2 ey) e
  | .slc a lo hi p q, env, A, L, S, r, ns, hE, hN, hA, w, e => by
    refine bnd (show (evQ O a S).bind _ = some r from e) fun x ex e => ?_
    refine bnd e fun i ei e => ?_
    refine bnd e fun j ej e => ?_
    have w := Bool.and_eq_true_iff.mp w
    have w1 := Bool.and_eq_true_iff.mp w.1
    exact te_slc (sndQ a hE hN hA w1.1 ex) (sndOx lo hE hN hA w1.2 ei) (sndOx hi hE hN hA w.2 ej) e
  | .attr x a p q, env, A, L, S, r, ns, hE, hN, hA, w, e => by
    have e : (if isObj x S.loc then fzOf (look a S.ob) else none) = some r := e
    cases h : isObj x S.loc with
    | true => rw [h] at e; exact te_attr hE (hN.v _ w) h e
    | false => rw [h] at e; cases e
  | .b1 f a p q, env, A, L, S, r, ns, hE, hN, hA, w, e => by
    refine bnd (show (evQ O a S).bind _ = some r from e) fun x ex e => ?_
    have w := Bool.and_eq_true_iff.mp w
    exact te_b1 hE hA.1 (hN.g _ w.1) (okE_Q _ a) (sndQ a hE hN hA w.2 ex) e
  | .b2 f a b p q, env, A, L, S, r, ns, hE, hN, hA, w, e => by
    refine bnd (show (ev O a S).bind _ = some r from e) fun x ex e => ?_
    refine bnd e fun y ey e => ?_
    have w := Bool.and_eq_true_iff.mp w
    have w1 := Bool.and_eq_true_iff.mp w.1
    exact te_b2 hE hA.1 (hN.g _ w1.1) (okE_E _ a) (okE_E _ b) (sndE a hE hN hA w1.2 ex) (sndE b hE hN hA w.2 ey) e
  | .isTy a t p c f q, env, A, L, S, r, ns, hE, hN, hA, w, e => by
    refine mpd (show (ev O a S).map _ = some r from e) fun x ex e₀ => ?_
    cases e₀
    have w := Bool.and_eq_true_iff.mp w
    have w1 := Bool.and_eq_true_iff.mp w.1
    exact te_isTy hE (hN.g _ w1.1) (hN.g _ w1.2) (okE_E _ a) (sndE a hE hN hA w.2 ex)
  | .isNone a p q, env, A, L, S, r, ns, hE, hN, hA, w, e => by
    refine mpd (show (ev O a S).map _ = some r from e) fun x ex e₀ => ?_
    cases e₀
    exact te_isNone (sndE a hE hN hA w ex)
  | .call f es p q, env, A, L, S, r, ns, hE, hN, hA, w, e => by
    refine bnd (show (evs O es S).bind _ = some r from e) fun ds ed e => ?_
    have w := Bool.and_eq_true_iff.mp w
    exact te_call hE (hN.g _ w.1) hA (hO.fn f) (okE_Es _ es) (evs_nil ed) (sndEs es hE hN hA w.2 ed) e
  | .meth x f es p a q, env, A, L, S, r, ns, hE, hN, hA, w, e => by
    have e : (if isObj x S.loc then (evs O es S).bind fun ds => O.pm f S.ob ds else none) = some r := e
    cases h : isObj x S.loc with
    | false => rw [h] at e; cases e
    | true =>
      rw [h] at e
      refine bnd (show (evs O es S).bind _ = some r from e) fun ds ed e => ?_
      have w := Bool.and_eq_true_iff.mp w
      have w1 := Bool.and_eq_true_iff.mp w.1
      have w2 := Bool.and_eq_true_iff.mp w1.1
      exact te_meth hE (hN.v _ w2.1) hA (hO.pm f) (okE_Es _ es) (evs_nil ed) (sndEs es hE hN hA w2.2 ed) h (by rw [toEs_len]; exact of_decide_eq_true w1.2) (of_decide_eq_true w.2) e
  | .comp elt tg src cond sc p, env, A, L, S, r, ns, hE, hN, hA, w, e => by
    refine bnd (show (evSr O src S).bind _ = some r from e) fun items ei e => ?_
    refine bnd e fun ds ed e => ?_
    refine gdd e fun hl e₀ => ?_
    cases e₀
    have w := Bool.and_eq_true_iff.mp w
    have w1 := Bool.and_eq_true_iff.mp w.1
    have w2 := Bool.and_eq_true_iff.mp w1.1
    refine (tf_comp (ifs := toC G.T cond) hE hA.1 ns hN.c w2.2 (sndS src tg hE hN hA w2.1 ei) ed (of_decide_eq_true hl) (fun C cells d r er => ?_) (okE_S src)).te
    refine bnd er fun l el er => ?_
    refine bnd er fun c ec er => ?_
    refine ⟨l, c, el, sndC cond ⟨rfl, hE.glob, hE.blt⟩ inner_nm hA w1.2 ec, fun q => ?_, fun q => ?_⟩
    · subst q
      refine mpd (show (ev O elt { S with loc := l }).map some = some r from er) fun y ey q => ?_
      exact ⟨y, q.symm, sndE elt ⟨rfl, hE.glob, hE.blt⟩ inner_nm hA w.2 ey⟩
    · subst q; cases Option.some.inj er; rfl
theorem sndEs [GOK] : ∀ (es : Exs) {env : Env} {A : Around} {L : Addr} {S : PS} {ds : List D} {ns : Nms}, EnvOK env → NmOK env ns → Rm A k → wfEs G.T ns es = true → evs O es S = some ds → TEs env A L S (toEs G.T es) ds
  | .nil, env, A, L, S, ds, ns, hE, hN, hA, w, e => by cases Option.some.inj e; exact tes_nil
  | .cons x r, env, A, L, S, ds, ns, hE, hN, hA, w, e => by
    refine bnd (show (ev O x S).bind _ = some ds from e) fun d ed e => ?_
    refine mpd e fun l el e₀ => ?_
    cases e₀
    have w := Bool.and_eq_true_iff.mp w
    exact tes_cons (sndE x hE hN hA w.1 ed) (sndEs r hE hN hA w.2 el)
theorem sndAnd [GOK] : ∀ (es : Exs) {env : Env} {A : Around} {L : Addr} {S : PS} {d : D} {ns : Nms} {p : Pos}, EnvOK env → NmOK env ns → Rm A k → wfEs G.T ns es = true → evAnd O es S = some d → TE env A L S (.BoolOp .And (toEs G.T es) p) d
  | .nil, env, A, L, S, d, ns, p, hE, hN, hA, w, e => by cases e
  | .cons x .nil, env, A, L, S, d, ns, p, hE, hN, hA, w, e => by
    have w := Bool.and_eq_true_iff.mp w
    exact fun m Z s Q E st kk => BoolOp_one (sndE x hE hN hA w.1 e m Z s Q E st kk)
  | .cons x (.cons y r), env, A, L, S, d, ns, p, hE, hN, hA, w, e => by
    refine bnd (show (ev O x S).bind _ = some d from e) fun a ea e => ?_
    refine bnd e fun c ec e => ?_
    have w := Bool.and_eq_true_iff.mp w
    refine te_and (sndE x hE hN hA w.1 ea) ec (fun q => ?_) (fun q => ?_)
    · subst q; exact sndAnd (.cons y r) hE hN hA w.2 e
    · subst q; exact (Option.some.inj e).symm
theorem sndOr [GOK] : ∀ (es : Exs) {env : Env} {A : Around} {L : Addr} {S : PS} {d : D} {ns : Nms} {p : Pos}, EnvOK env → NmOK env ns → Rm A k → wfEs G.T ns es = true → evOr O es S = some d → TE env A L S (.BoolOp .Or (toEs G.T es) p) d
  | .nil, env, A, L, S, d, ns, p, hE, hN, hA, w, e => by cases e
  | .cons x .nil, env, A, L, S, d, ns, p, hE, hN, hA, w, e => by
    have w := Bool.and_eq_true_iff.mp w
    exact fun m Z s Q E st kk => BoolOp_one (sndE x hE hN hA w.1 e m Z s Q E st kk)
  | .cons x (.cons y r), env, A, L, S, d, ns, p, hE, hN, hA, w, e => by
    refine bnd (show (ev O x S).bind _ = some d from e) fun a ea e => ?_
    refine bnd e fun c ec e => ?_
    have w := Bool.and_eq_true_iff.mp w
    refine te_or (sndE x hE hN hA w.1 ea) ec (fun q => ?_) (fun q => ?_)
    · subst q; exact sndOr (.cons y r) hE hN hA w.2 e
    · subst q; exact (Option.some.inj e).symm
theorem sndOx [GOK] : ∀ (o : Ox) {env : Env} {A : Around} {L : Addr} {S : PS} {d : Option D} {ns : Nms}, EnvOK env → NmOK env ns → Rm A k → wfO G.T ns o = true → evO O o S = some d → TO env A L S (toO G.T o) d
  | .none, env, A, L, S, d, ns, hE, hN, hA, w, e => by cases Option.some.inj e; exact to_none
  | .some x, env, A, L, S, d, ns, hE, hN, hA, w, e => by
    refine mpd (show (ev O x S).map _ = some d from e) fun y ey e₀ => ?_
    cases e₀
    exact to_some (sndE x hE hN hA w ey)
theorem sndQ [GOK] : ∀ (q : Qx) {env : Env} {A : Around} {L : Addr} {S : PS} {d : D} {ns : Nms}, EnvOK env → NmOK env ns → Rm A k → wfQ G.T ns q = true → evQ O q S = some d → TQ env A L S (toQ G.T q) d
  | .v x, env, A, L, S, d, ns, hE, hN, hA, w, e => (sndE x hE hN hA w e).q
  | .ov x p, env, A, L, S, d, ns, hE, hN, hA, w, e => by
    refine mpd (show (ownOf (look x S.loc)).map _ = some d from e) fun y ey e₀ => ?_
    cases e₀
    exact tq_ov hE (hN.v _ w) ey
  | .oa x a p q, env, A, L, S, d, ns, hE, hN, hA, w, e => by
    have e : (if isObj x S.loc then (ownOf (look a S.ob)).map .list else none) = some d := e
    cases h : isObj x S.loc with
    | false => rw [h] at e; cases e
    | true =>
      rw [h] at e
      refine mpd (show (ownOf (look a S.ob)).map _ = some d from e) fun y ey e₀ => ?_
      cases e₀
      exact tq_oa hE (hN.v _ w) h ey
theorem sndT [GOK] : ∀ (t : Te) {env : Env} {A : Around} {L : Addr} {S : PS} {c : Bool} {ns : Nms}, EnvOK env → NmOK env ns → Rm A k → wfT G.T ns t = true → evT O t S = some c → TT env A L S (toT G.T t) c
  | .v x, env, A, L, S, c, ns, hE, hN, hA, w, e => by
    refine bnd (show (ev O x S).bind _ = some c from e) fun y ey e => ?_
    have w := Bool.and_eq_true_iff.mp w
    have h := sndE x (L := L) hE hN hA w.2 ey
    rcases plain_isTrue G.T (env := env) w.1 with ⟨l, o, r, p, q⟩ | q
    · show TT env A L S (toE G.T x) c
      rw [q] at h ⊢
      exact tt_one h e
    · exact tt_q q h.q e
  | .q q, env, A, L, S, c, ns, hE, hN, hA, w, e => by
    refine bnd (show (evQ O q S).bind _ = some c from e) fun y ey e2 => ?_
    cases q with
    | v => cases w
    | ov x p => exact tt_q (fun _ => rfl) (sndQ (.ov x p) hE hN hA w ey) e2
    | oa x a p q => exact tt_q (fun _ => rfl) (sndQ (.oa x a p q) hE hN hA w ey) e2
  | .cmp2 o o' a b c' p, env, A, L, S, c, ns, hE, hN, hA, w, e => by
    refine bnd (show (ev O a S).bind _ = some c from e) fun x ex e => ?_
    refine bnd e fun y ey e => ?_
    refine bnd e fun t et e => ?_
    have w := Bool.and_eq_true_iff.mp w
    have w1 := Bool.and_eq_true_iff.mp w.1
    refine tt_cmp2 hA.units (okE_E _ b) (okE_E _ c') (sndE a hE hN hA w1.1 ex) (sndE b hE hN hA w1.2 ey) et (fun q => ?_) (fun q => ?_)
    · subst q
      refine bnd (show (ev O c' S).bind _ = some c from e) fun z ez e => ?_
      exact ⟨z, sndE c' hE hN hA w.2 ez, e⟩
    · subst q; exact (Option.some.inj e).symm
  | .not t p, env, A, L, S, c, ns, hE, hN, hA, w, e => by
    refine mpd (show (evT O t S).map _ = some c from e) fun y ey e₀ => ?_
    cases e₀
    exact tt_not (sndT t hE hN hA w ey)
  | .all ts p, env, A, L, S, c, ns, hE, hN, hA, w, e => (sndAll ts hE hN hA w e).tt
  | .any ts p, env, A, L, S, c, ns, hE, hN, hA, w, e => (sndAny ts hE hN hA w e).tt
theorem sndAll [GOK] : ∀ (ts : Tes) {env : Env} {A : Around} {L : Addr} {S : PS} {c : Bool} {ns : Nms} {p : Pos}, EnvOK env → NmOK env ns → Rm A k → wfTs G.T ns ts = true → evAll O ts S = some c → TB env A L S .And (toTs G.T ts) p c
  | .nil, env, A, L, S, c, ns, p, hE, hN, hA, w, e => by cases Option.some.inj e; exact tb_all_nil
  | .cons t r, env, A, L, S, c, ns, p, hE, hN, hA, w, e => by
    refine bnd (show (evT O t S).bind _ = some c from e) fun b eb e => ?_
    have w := Bool.and_eq_true_iff.mp w
    refine tb_all (sndT t hE hN hA w.1 eb) (fun q => ?_) (fun q => ?_)
    · subst q; exact sndAll r hE hN hA w.2 e
    · subst q; exact (Option.some.inj e).symm
theorem sndAny [GOK] : ∀ (ts : Tes) {env : Env} {A : Around} {L : Addr} {S : PS} {c : Bool} {ns : Nms} {p : Pos}, EnvOK env → NmOK env ns → Rm A k → wfTs G.T ns ts = true → evAny O ts S = some c → TB env A L S .Or (toTs G.T ts) p c
  | .nil, env, A, L, S, c, ns, p, hE, hN, hA, w, e => by cases Option.some.inj e; exact tb_any_nil
  | .cons t r, env, A, L, S, c, ns, p, hE, hN, hA, w, e => by
    refine bnd (show (evT O t S).bind _ = some c from e) fun b eb e => ?_
    have w := Bool.and_eq_true_iff.mp w
    refine tb_any (sndT t hE hN hA w.1 eb) (fun q => ?_) (fun q => ?_)
    · subst q; exact sndAny r hE hN hA w.2 e
    · subst q; exact (Option.some.inj e).symm
theorem sndC [GOK] : ∀ (x : Cx) {env : Env} {A : Around} {L : Addr} {S : PS} {c : Bool} {ns : Nms}, EnvOK env → NmOK env ns → Rm A k → wfC G.T ns x = true → evC O x S = some c → TC env A L S (toC G.T x) c
  | .none, env, A, L, S, c, ns, hE, hN, hA, w, e => by cases Option.some.inj e; exact tc_nil
  | .some t, env, A, L, S, c, ns, hE, hN, hA, w, e => tc_one (sndT t hE hN hA w e)
theorem sndS [GOK] : ∀ (x : Sr) (tg : Tx) {env : Env} {A : Around} {L : Addr} {S : PS} {items : List D} {ns : Nms}, EnvOK env → NmOK env ns → Rm A k → wfS G.T ns (isMany tg) x = true → evSr O x S = some items → TS env A L S (toTg G.T tg) true (toS G.T x) items
  | .seq q, tg, env, A, L, S, items, ns, hE, hN, hA, w, e => by
    refine bnd (show (evQ O q S).bind _ = some items from e) fun x ex e => ?_
    exact ts_q hA.1 (sndQ q hE hN hA w ex) e
  | .rng es p q, tg, env, A, L, S, items, ns, hE, hN, hA, w, e => by
    refine bnd (show (evs O es S).bind _ = some items from e) fun ds ed e => ?_
    refine bnd e fun is ei e => ?_
    have w := Bool.and_eq_true_iff.mp w
    exact ts_rng hE hA.1 (hN.g _ w.1) (okE_Es _ es) (sndEs es hE hN hA w.2 ed) (evs_nil ed) ei e
  | .enum q p p', tg, env, A, L, S, items, ns, hE, hN, hA, w, e => by
    refine bnd (show (evQ O q S).bind _ = some items from e) fun x ex e => ?_
    refine mpd e fun l el e₀ => ?_
    cases e₀
    have w := Bool.and_eq_true_iff.mp w
    have w1 := Bool.and_eq_true_iff.mp w.1
    cases tg with
    | one => cases w.2
    | many xs tp =>
      cases q with
      | v a => exact ts_enum hE hA.1 (hN.g _ w1.1) (okE_E _ a) (sndE a hE hN hA w1.2 ex) el
      | ov => cases w1.2
      | oa => cases w1.2
  | .zip a b p p', tg, env, A, L, S, items, ns, hE, hN, hA, w, e => by
    refine bnd (show (evQ O a S).bind _ = some items from e) fun x ex e => ?_
    refine bnd e fun y ey e => ?_
    refine bnd e fun l el e => ?_
    refine mpd e fun t et e₀ => ?_
    cases e₀
    have w := Bool.and_eq_true_iff.mp w
    have w1 := Bool.and_eq_true_iff.mp w.1
    have w2 := Bool.and_eq_true_iff.mp w1.1
    cases tg with
    | one => cases w.2
    | many xs tp =>
      cases a with
      | v a =>
        cases b with
        | v b => exact ts_zip hE hA.1 (hN.g _ w2.1) (okE_E _ a) (okE_E _ b) (sndE a hE hN hA w2.2 ex) (sndE b hE hN hA w1.2 ey) el et
        | ov => cases w1.2
        | oa => cases w1.2
      | ov => cases w2.2
      | oa => cases w2.2
end
end
end
section
structure Lg where
  α : Nat → Addr
  β : Nat → Addr
  o : Addr
  dx : Addr
noncomputable def ownL (S : PS) (x : Nat) : Prop := ∃ ds, look x S.loc = some (.own ds)
noncomputable def ownA (S : PS) (k : Nat) : Prop := ∃ ds, look k S.ob = some (.own ds)
noncomputable def hasO (S : PS) : Prop := ∃ x, look x S.loc = some .obj
structure StX (env : Env) (L : Addr) (m : Str → Option Value) (Z Y : Addr → Prop) (S : PS) (h : Heap) (g : Lg) : Prop where
  stt : Stt env L m Z S h
  loc : env.locals = L
  nf : ∀ x, env.kindOf x ≠ some .free
  nm : ∀ x av, look x S.loc = some av → kV env.scope.names (G.T x) = true
  yz : ∀ b, Y b → Z b
  yL : Y L
  yC : ∀ x c, env.kindOf x = some .cell → env.cells.lookup x = some c → Y c
  al : ∀ x ds, look x S.loc = some (.own ds) → VarV env L m h (G.T x) (.ref (g.α x)) ∧ Y (g.α x)
  ob : ∀ x, look x S.loc = some .obj → VarV env L m h (G.T x) (.ref g.o)
  od : hasO S → ∃ es n, h.get? g.o = some (instObj G.C g.dx) ∧ h.get? g.dx = some (dictOf es n) ∧ g.dx ≠ L ∧ (Y g.o ∧ Y g.dx) ∧ AttI h Z es S.ob ∧ ∀ k ds, look k S.ob = some (.own ds) → W.getL (G.T k) es = some (some (.ref (g.β k))) ∧ Y (g.β k)
  oe : ¬ hasO S → S.ob = []
  ia : ∀ x y, ownL S x → ownL S y → g.α x = g.α y → x = y
  ib : ∀ x y, ownA S x → ownA S y → g.β x = g.β y → x = y
  ic : ∀ x y, ownL S x → ownA S y → g.α x ≠ g.β y
structure Pres (h : Heap) (Z Y : Addr → Prop) (h' : Heap) (Z' Y' : Addr → Prop) : Prop where
  kept : ∀ b o, ¬ Y b → h.get? b = some o → h'.get? b = some o
  ys : ∀ b, Y' b → Y b ∨ h.get? b = none
  zs : ∀ b o, ¬ Y b → h.get? b = some o → (Z' b ↔ Z b)
theorem Pres.refl (h : Heap) (Z Y : Addr → Prop) : Pres h Z Y h Z Y := ⟨fun _ _ _ g => g, fun _ y => .inl y, fun _ _ _ _ => Iff.rfl⟩
theorem Pres.trans {h h' h'' : Heap} {Z Y Z' Y' Z'' Y'' : Addr → Prop} (p : Pres h Z Y h' Z' Y') (q : Pres h' Z' Y' h'' Z'' Y'') : Pres h Z Y h'' Z'' Y'' := by
  have ny : ∀ b o, ¬ Y b → h.get? b = some o → ¬ Y' b := fun b o n g y => by
    rcases p.ys b y with y | y
    · exact n y
    · exact nso (y) g
  refine ⟨fun b o n g => q.kept b o (ny b o n g) (p.kept b o n g), fun b y => ?_, fun b o n g => (q.zs b o (ny b o n g) (p.kept b o n g)).trans (p.zs b o n g)⟩
  rcases q.ys b y with y | y
  · exact p.ys b y
  · by_cases c : Y b
    · exact .inl c
    · cases e : h.get? b with
      | none => exact .inr rfl
      | some o => rw [p.kept b o c e] at y; cases y
theorem Pres.mv {h h' : Heap} {Z Y Z' Y' : Addr → Prop} (p : Pres h Z Y h' Z' Y') (yz : ∀ b, Y b → Z b) : Mv h Z h' Z' := fun b o n g =>
  ⟨p.kept b o (fun y => n (yz b y)) g, fun z => n ((p.zs b o (fun y => n (yz b y)) g).mp z)⟩
theorem VarV.uniq {env : Env} {L : Addr} {m : Str → Option Value} {h : Heap} {x : Str} {v w : Value} (a : VarV env L m h x v) (b : VarV env L m h x w) : v = w := by
  rcases a with ⟨p, _, e⟩ | ⟨p, c, e, o, g, q⟩ <;> rcases b with ⟨p', _, e'⟩ | ⟨p', c', e', o', g', q'⟩
  · rw [e] at e'; exact Option.some.inj e'
  · rcases p' with p' | p' <;> (rw [p] at p'; cases Option.some.inj p')
  · rcases p with p | p <;> (rw [p'] at p; cases Option.some.inj p)
  · rw [e] at e'; cases Option.some.inj e'
    rw [g] at g'; cases Option.some.inj g'
    rw [q] at q'
    cases q'
    rfl
section
variable {env : Env} {A : Around} {L : Addr} {S : PS} {m m' : Str → Option Value} {Z Y Z' Y' t : Addr → Prop} {h h' : Heap} {g : Lg}
theorem StX.cells (p : StX env L m Z Y S h g) {b : Addr} {xs : List Nat} (hb : Tn env L xs b) : Y b := by
  rcases hb with rfl | ⟨x, _, k, e⟩
  · exact p.yL
  · exact p.yC _ _ k e
theorem StX.grow (p : StX env L m Z Y S h g) (F : Fr G.H₀ L h' m) (k : Kp L h h') (mv : Mv h Z h' Z') (zz : ∀ b, Z b → Z' b) (za : ∀ z, Z' z → ∃ o, h'.get? z = some o) (zH : ∀ z, Z' z → G.H₀.get? z = none) (yy : ∀ b, Y b → Y' b) (yz : ∀ b, Y' b → Z' b) :
    StX env L m Z' Y' S h' g := by
  have T : Tch L h (· = L) := Tch.self
  refine ⟨⟨⟨F, zz _ p.stt.fm.zL, za, zH⟩, fun x av e c => ?_, fun x hx => ?_, p.stt.dis⟩, p.loc, p.nf, p.nm, yz, yy _ p.yL, fun x c a b => yy _ (p.yC x c a b), fun x ds e => ?_, fun x e => (p.ob x e).keep p.stt.fm.fr k, fun o => ?_, p.oe, p.ia, p.ib, p.ic⟩
  · obtain ⟨v, a, b⟩ := p.stt.rd x av e c
    exact ⟨v, a.keep p.stt.fm.fr k, b.mvt p.stt.fm.fr T k.kt mv⟩
  · obtain ⟨c, v, a, b, d⟩ := p.stt.cel x hx
    have := Fr.ncell p.stt.fm.fr b
    obtain ⟨o, g, e⟩ := b
    exact ⟨c, v, a, ⟨o, k _ _ this g, e⟩, zz _ d⟩
  · obtain ⟨a, b⟩ := p.al x ds e
    exact ⟨a.keep p.stt.fm.fr k, yy _ b⟩
  · obtain ⟨es, n, g1, g2, ne, y, at', ow⟩ := p.od o
    exact ⟨es, n, k _ _ (Fr.nplain p.stt.fm.fr g1) g1, k _ _ ne g2, ne, ⟨yy _ y.1, yy _ y.2⟩, at'.mvt p.stt.fm.fr T k.kt mv, fun j ds e => ⟨(ow j ds e).1, yy _ (ow j ds e).2⟩⟩
theorem StX.keep (p : StX env L m Z Y S h g) (F : Fr G.H₀ L h' m) (k : Kp L h h') : StX env L m Z Y S h' g :=
  p.grow F k (k.mv p.stt.fm.zL) (fun _ z => z) (p.stt.keep F k).fm.za p.stt.fm.zH (fun _ y => y) p.yz
theorem Pres.ofKp (p : StX env L m Z Y S h g) (k : Kp L h h') : Pres h Z Y h' Z Y := ⟨fun b o n g => k b o (fun e => n (e ▸ p.yL)) g, fun _ y => .inl y, fun _ _ _ _ => Iff.rfl⟩
theorem StX.addQ {q : Addr} (p : StX env L m Z Y S h g) (F : Fr G.H₀ L h' m) (k : Kp L h h') (e : h.get? q = none) (e' : ∃ o, h'.get? q = some o) : StX env L m (fun b => Z b ∨ b = q) (fun b => Y b ∨ b = q) S h' g :=
  p.grow F k (k.mvNew p.stt.fm.zL e) (fun _ z => .inl z) (fun z hz => by
    rcases hz with hz | rfl
    · exact (p.stt.keep F k).fm.za z hz
    · exact e') (fun z hz => by
    rcases hz with hz | rfl
    · exact p.stt.fm.zH z hz
    · cases q' : G.H₀.get? z with
      | none => rfl
      | some o => have := p.stt.fm.fr.keep _ _ q'; exact nso (e) this) (fun _ y => .inl y) (fun b y => y.imp (p.yz b) id)
theorem Pres.addQ {q : Addr} (p : StX env L m Z Y S h g) (k : Kp L h h') (e : h.get? q = none) : Pres h Z Y h' (fun b => Z b ∨ b = q) (fun b => Y b ∨ b = q) :=
  ⟨fun b o n g => k b o (fun e => n (e ▸ p.yL)) g, fun b y => by
    rcases y with y | rfl
    · exact .inl y
    · exact .inr e, fun b o n g => Iff.intro (fun z => by
    rcases z with z | rfl
    · exact z
    · exact nso (e) g) (fun z => .inl z)⟩
noncomputable def FlowOK (fl : Fl) (f : Flow) (h : Heap) (Z : Addr → Prop) : Prop := match fl with
  | .next => f = .next
  | .brk => f = .brk
  | .ret d => ∃ v, f = .ret v ∧ DI h Z v d
noncomputable def OSame (S : PS) (g : Lg) (S' : PS) (g' : Lg) : Prop := hasO S → hasO S' ∧ g'.o = g.o ∧ g'.dx = g.dx
theorem OSame.refl (S : PS) (g : Lg) : OSame S g S g := fun o => ⟨o, rfl, rfl⟩
theorem OSame.trans {S S' S'' : PS} {g g' g'' : Lg} (a : OSame S g S' g') (b : OSame S' g' S'' g'') : OSame S g S'' g'' := fun o => by obtain ⟨p, q, r⟩ := a o; obtain ⟨p', q', r'⟩ := b p; exact ⟨p', q'.trans q, r'.trans r⟩
theorem OSame.put {S : PS} {g g' : Lg} {x : Nat} {av : AV} (no : isObj x S.loc = false) (e1 : g'.o = g.o) (e2 : g'.dx = g.dx) : OSame S g { S with loc := put x av S.loc } g' := by rintro ⟨y, e⟩; exact ⟨⟨y, by
  show look y (Mine.put x av S.loc) = _
  rw [look_put]
  by_cases c : y = x
  · subst c; unfold isObj at no; rw [e] at no; cases no
  · rw [if_neg c]; exact e⟩, e1, e2⟩
noncomputable def TM (env : Env) (A : Around) (L : Addr) (S : PS) (ms : List Stmt) (fl : Fl) (S' : PS) : Prop :=
  ∀ m Z Y g (s : Shared) (Q : Flow → Shared → Prop) (E : Value → Shared → Prop), StX env L m Z Y S s.heap g →
    (∀ m' Z' Y' g' h' tk f, StX env L m' Z' Y' S' h' g' → Pres s.heap Z Y h' Z' Y' → OSame S g S' g' → FlowOK fl f h' Z' → Q f { s with heap := h', toks := tk }) → wpAny (model G.prog G.w) A (execs ms env) Q E s
theorem tm_nil : TM env A L S [] .next S := fun m Z Y g s Q E st k => wpAny_execs_nil (k m Z Y g s.heap s.toks .next st (Pres.refl _ _ _) (OSame.refl _ _) rfl)
noncomputable def TX (env : Env) (A : Around) (L : Addr) (S : PS) (st : Stmt) (fl : Fl) (S' : PS) : Prop :=
  ∀ m Z Y g (s : Shared) (Q : Flow → Shared → Prop) (E : Value → Shared → Prop), StX env L m Z Y S s.heap g →
    (∀ m' Z' Y' g' h' tk f, StX env L m' Z' Y' S' h' g' → Pres s.heap Z Y h' Z' Y' → OSame S g S' g' → FlowOK fl f h' Z' → Q f { s with heap := h', toks := tk }) → wpAny (model G.prog G.w) A (exec st env) Q E s
theorem tm_cons {st : Stmt} {ms : List Stmt} {S₁ S₂ : PS} {fl : Fl} (h1 : TX env A L S st .next S₁) (h2 : TM env A L S₁ ms fl S₂) : TM env A L S (st :: ms) fl S₂ := fun m Z Y g s Q E x k =>
  wpAny_execs_cons (h1 m Z Y g s _ E x fun m' Z' Y' g' h' tk f x' p o fo => by
    cases fo
    exact h2 m' Z' Y' g' _ Q E x' fun m2 Z2 Y2 g2 h2 tk2 f2 x2 p2 o2 fo2 => k m2 Z2 Y2 g2 h2 tk2 f2 x2 (p.trans p2) (o.trans o2) fo2)
theorem tm_stop {st : Stmt} {ms : List Stmt} {S₁ : PS} {fl : Fl} (h1 : TX env A L S st fl S₁) (ne : fl ≠ .next) : TM env A L S (st :: ms) fl S₁ := fun m Z Y g s Q E x k =>
  wpAny_execs_cons (h1 m Z Y g s _ E x fun m' Z' Y' g' h' tk f x' p o fo => by
    have := k m' Z' Y' g' h' tk f x' p o fo
    cases fl with
    | next => exact absurd rfl ne
    | brk => cases fo; exact this
    | ret d => obtain ⟨v, rfl, _⟩ := fo; exact this)
theorem tx_if {t : Expr} {a b : List Stmt} {p : Pos} {c : Bool} {fl : Fl} {S₁ : PS} (ht : TT env A L S t c) (h1 : c = true → TM env A L S a fl S₁) (h0 : c = false → TM env A L S b fl S₁) : TX env A L S (.If t a b p) fl S₁ := fun m Z Y g s Q E x k =>
  wpAny_If (ht m Z s _ E x.stt fun h' tk F kp => by
    have go : ∀ {ms : List Stmt}, TM env A L S ms fl S₁ → wpAny (model G.prog G.w) A (execs ms env) Q E { s with heap := h', toks := tk } := fun hm =>
      hm m Z Y g _ Q E (x.keep F kp) fun m2 Z2 Y2 g2 h2 tk2 f2 x2 p2 o2 fo2 => k m2 Z2 Y2 g2 h2 tk2 f2 x2 ((Pres.ofKp x kp).trans p2) o2 fo2
    cases c with
    | true => exact go (h1 rfl)
    | false => exact go (h0 rfl))
theorem tx_ret {e : Expr} {d : D} {p : Pos} (h : TE env A L S e d) : TX env A L S (.Return (some e) p) (.ret d) S := fun m Z Y g s Q E x k =>
  wpAny_Return_some (h m Z s _ E x.stt fun v h' tk F kp i => k m Z Y g h' tk _ (x.keep F kp) (Pres.ofKp x kp) (OSame.refl _ _) ⟨v, rfl, i⟩)
theorem tx_retN {p : Pos} : TX env A L S (.Return none p) (.ret .none) S := fun m Z Y g s Q E x k =>
  wpAny_Return_none (k m Z Y g s.heap s.toks _ x (Pres.refl _ _ _) (OSame.refl _ _) ⟨.none, rfl, .none⟩)
theorem tx_brk {p : Pos} : TX env A L S (.Break p) .brk S := fun m Z Y g s Q E x k =>
  wpAny_Break (k m Z Y g s.heap s.toks _ x (Pres.refl _ _ _) (OSame.refl _ _) rfl)
structure Plc (L : Addr) (h : Heap) (Z Y : Addr → Prop) (S : PS) (g : Lg) (ex : Nat → Prop) (v : Value) (av : AV) : Prop where
  it : AV1 h Z v av
  free : ∀ ds, av = .own ds → ∃ q, v = .ref q ∧ Y q ∧ (∀ x, ¬ ex x → ownL S x → g.α x ≠ q) ∧ (∀ k, ownA S k → g.β k ≠ q)
theorem Plc.dat {v : Value} {d : D} {ex : Nat → Prop} (i : DI h Z v d) : Plc L h Z Y S g ex v (.fz d) := ⟨i, nofun⟩
theorem AV1.avi {v : Value} {av : AV} {ob : Al} (i : AV1 h Z v av) : AVI L h Z ob v av := by
  cases av with
  | fz => exact i
  | own => exact i
  | obj => exact i.elim
noncomputable def refOr (v : Value) (d : Addr) : Addr := match v with
  | .ref q => q
  | _ => d
theorem stx_store {x : Nat} {v : Value} {av : AV} {s : Shared} {Q : Unit → Shared → Prop} {E : Value → Shared → Prop} (hE : EnvOK env) (p : StX env L m Z Y S s.heap g) (c : kS env.scope.names (G.T x) = true) (cv : kV env.scope.names (G.T x) = true) (no : isObj x S.loc = false) (a : Plc L s.heap Z Y S g (· = x) v av)
    (k : ∀ m' h' tk g', StX env L m' Z Y { S with loc := put x av S.loc } h' g' → Kt (Tn env L [x]) s.heap h' → g'.o = g.o → g'.dx = g.dx → g'.β = g.β → (∀ y, y ≠ x → g'.α y = g.α y) → (∀ q, v = .ref q → g'.α x = q) → Q () { s with heap := h', toks := tk }) :
    wpAny (model G.prog G.w) A (storeName env (G.T x) v) Q E s := by
  refine store_ok hE p.loc p.stt c a.it.avi fun m' h' tk st' kt hm vx => ?_
  have T : Tch L s.heap (Tn env L [x]) := Tn.tch p.stt
  have mv : Mv s.heap Z h' Z := kt.mv fun b hb => Tn.z p.stt hb
  have oth : ∀ y w, y ≠ x → VarV env L m s.heap (G.T y) w → VarV env L m' h' (G.T y) w := fun y w ny vv => by
    rcases vv with ⟨a1, a2, a3⟩ | ⟨a1, c1, e1, i1⟩
    · exact .inl ⟨a1, a2, (hm _ fun e => ny (G_inj _ _ e)).trans a3⟩
    · refine .inr ⟨a1, c1, e1, ?_⟩
      obtain ⟨o, gg, q⟩ := i1
      refine ⟨o, kt _ _ (fun hb => ?_) gg, q⟩
      rcases hb with rfl | ⟨z, hz, k1, e2⟩
      · exact Fr.ncell p.stt.fm.fr ⟨o, gg, q⟩ rfl
      · rw [List.mem_singleton.mp hz] at k1 e2
        exact ny (G_inj _ _ (p.stt.dis _ _ c1 a1 (.inl k1) e1 e2))
  let q0 : Addr := refOr v (g.α x)
  let g' : Lg := { g with α := fun y => if y = x then q0 else g.α y }
  have lp : ∀ y, look y ({ S with loc := put x av S.loc } : PS).loc = if y = x then some av else look y S.loc := fun y => look_put x y av S.loc
  have ga : ∀ y, y ≠ x → g'.α y = g.α y := fun y ny => if_neg ny
  have gx : ∀ q, v = .ref q → g'.α x = q := fun q e => by
    show (if x = x then q0 else g.α x) = q
    rw [if_pos rfl]
    show refOr v (g.α x) = q
    rw [e]; rfl
  refine k m' h' tk g' ⟨st', p.loc, p.nf, fun y av' e => ?_, p.yz, p.yL, p.yC, fun y ds e => ?_, fun y e => ?_, fun o => ?_, fun no' => ?_, fun y z oy oz e => ?_, p.ib, fun y z oy oz => ?_⟩ kt rfl rfl rfl ga gx
  · rw [lp] at e
    by_cases ny : y = x
    · subst ny; exact cv
    · rw [if_neg ny] at e; exact p.nm y av' e
  · rw [lp] at e
    by_cases ny : y = x
    · subst ny
      rw [if_pos rfl] at e; cases Option.some.inj e
      obtain ⟨q, eq, yq, _⟩ := a.free ds rfl
      rw [gx q eq]
      exact ⟨eq ▸ vx, yq⟩
    · rw [if_neg ny] at e
      rw [ga y ny]
      exact ⟨oth y _ ny (p.al y ds e).1, (p.al y ds e).2⟩
  · rw [lp] at e
    by_cases ny : y = x
    · subst ny
      rw [if_pos rfl] at e; cases Option.some.inj e
      exact a.it.elim
    · rw [if_neg ny] at e
      exact oth y _ ny (p.ob y e)
  · have o' : hasO S := by
      obtain ⟨y, e⟩ := o
      rw [lp] at e
      by_cases ny : y = x
      · subst ny; rw [if_pos rfl] at e; cases Option.some.inj e; exact a.it.elim
      · rw [if_neg ny] at e; exact ⟨y, e⟩
    obtain ⟨es, n, g1, g2, ne, y, at', ow⟩ := p.od o'
    exact ⟨es, n, kt _ _ (T.inst p.stt.fm.fr g1) g1, kt _ _ (T.dict g2 ne) g2, ne, y, at'.mvt p.stt.fm.fr T kt mv, ow⟩
  · exact p.oe fun o => no' (OSame.put (g := g) (g' := g) no rfl rfl o).1
  · have old : ∀ y, y ≠ x → ownL ({ S with loc := put x av S.loc } : PS) y → ownL S y := by
      rintro y ny ⟨ds, e⟩
      rw [lp, if_neg ny] at e; exact ⟨ds, e⟩
    have new : ownL ({ S with loc := put x av S.loc } : PS) x → ∃ q, v = .ref q ∧ ∀ y, ¬ y = x → ownL S y → g.α y ≠ q := by
      rintro ⟨ds, e⟩
      rw [lp, if_pos rfl] at e
      obtain ⟨q, eq, _, f, _⟩ := a.free ds (Option.some.inj e)
      exact ⟨q, eq, f⟩
    by_cases ny : y = x <;> by_cases nz : z = x
    · rw [ny, nz]
    · subst ny
      obtain ⟨q, eq, f⟩ := new oy
      rw [gx q eq, ga z nz] at e
      exact absurd e.symm (f z nz (old z nz oz))
    · subst nz
      obtain ⟨q, eq, f⟩ := new oz
      rw [gx q eq, ga y ny] at e
      exact absurd e (f y ny (old y ny oy))
    · rw [ga y ny, ga z nz] at e
      exact p.ia y z (old y ny oy) (old z nz oz) e
  · by_cases ny : y = x
    · subst ny
      obtain ⟨ds, e⟩ := oy
      rw [lp, if_pos rfl] at e
      obtain ⟨q, eq, _, _, f⟩ := a.free ds (Option.some.inj e)
      rw [gx q eq]
      exact Ne.symm (f z oz)
    · obtain ⟨ds, e⟩ := oy
      rw [lp, if_neg ny] at e
      rw [ga y ny]
      exact p.ic y z ⟨ds, e⟩ oz
theorem Pres.ofKt {xs : List Nat} (p : StX env L m Z Y S h g) (kt : Kt (Tn env L xs) h h') : Pres h Z Y h' Z Y := ⟨fun b o n g => kt b o (fun hb => n (p.cells hb)) g, fun _ y => .inl y, fun _ _ _ _ => Iff.rfl⟩
theorem StX.off (p : StX env L m Z Y S h g) (k : Kt t h h') (ty : ∀ b, t b → ¬ Y b) (mv : Mv h Z h' Z') (yz : ∀ b, Y b → Z' b) (za : ∀ z, Z' z → ∃ o, h'.get? z = some o) (zH : ∀ z, Z' z → G.H₀.get? z = none) (F : Fr G.H₀ L h' m) : StX env L m Z' Y S h' g := by
  have ky : ∀ b o, Y b → h.get? b = some o → h'.get? b = some o := fun b o y e => k b o (fun c => ty b c y) e
  have vv : ∀ x v, VarV env L m h x v → VarV env L m h' x v := fun x v a => by
    rcases a with a | ⟨a, c, e, o, gg, q⟩
    · exact .inl a
    · refine .inr ⟨a, c, e, o, ky _ _ ?_ gg, q⟩
      rcases a with a | a
      · exact p.yC _ _ a e
      · exact absurd a (p.nf x)
  have od : hasO S → ∃ es n, h'.get? g.o = some (instObj G.C g.dx) ∧ h'.get? g.dx = some (dictOf es n) ∧ g.dx ≠ L ∧ (Y g.o ∧ Y g.dx) ∧ AttI h' Z' es S.ob ∧ ∀ k ds, look k S.ob = some (.own ds) → W.getL (G.T k) es = some (some (.ref (g.β k))) ∧ Y (g.β k) := fun o => by
    obtain ⟨es, n, g1, g2, ne, y, at', ow⟩ := p.od o
    refine ⟨es, n, ky _ _ y.1 g1, ky _ _ y.2 g2, ne, y, ⟨at'.len, at'.keys, fun j av e => ?_, at'.non⟩, ow⟩
    obtain ⟨i, v, q, a⟩ := at'.get j av e
    refine ⟨i, v, q, ?_⟩
    cases av with
    | fz d => exact DI.mv mv a
    | obj => exact a
    | own ds =>
      obtain ⟨e1, y1⟩ := ow j ds e
      rw [q] at e1
      obtain ⟨aa, vs, n, l⟩ := a
      have e2 : v = .ref (g.β j) := Option.some.inj (Option.some.inj e1)
      have e3 : aa = g.β j := by rw [l.ref] at e2; cases e2; rfl
      exact ⟨aa, vs, n, l.ref, ky _ _ (e3 ▸ y1) l.at_, l.len, l.its.mv mv⟩
  refine ⟨⟨⟨F, yz _ p.yL, za, zH⟩, fun x av e c => ?_, fun x hx => ?_, p.stt.dis⟩, p.loc, p.nf, p.nm, yz, p.yL, p.yC, fun x ds e => ⟨vv _ _ (p.al x ds e).1, (p.al x ds e).2⟩, fun x e => vv _ _ (p.ob x e), od, p.oe, p.ia, p.ib, p.ic⟩
  · obtain ⟨v, a, b⟩ := p.stt.rd x av e c
    refine ⟨v, vv _ _ a, ?_⟩
    cases av with
    | fz d => exact DI.mv mv b
    | own ds =>
      obtain ⟨e1, y1⟩ := p.al x ds e
      have e2 := a.uniq e1
      obtain ⟨aa, vs, n, l⟩ := b
      have e3 : aa = g.α x := by rw [l.ref] at e2; cases e2; rfl
      exact ⟨aa, vs, n, l.ref, ky _ _ (e3 ▸ y1) l.at_, l.len, l.its.mv mv⟩
    | obj =>
      have e2 := a.uniq (p.ob x e)
      obtain ⟨es, n, g1, g2, ne, y, at', ow⟩ := od ⟨x, e⟩
      exact ⟨g.o, e2, g.dx, es, n, g1, g2, ne, at'⟩
  · obtain ⟨c, v, e, ⟨o, gg, q⟩, z⟩ := p.stt.cel x hx
    have y : Y c := by
      rcases hx with hx | hx
      · exact p.yC _ _ hx e
      · exact absurd hx (p.nf x)
    exact ⟨c, v, e, ⟨o, ky _ _ y gg, q⟩, yz _ y⟩
end
end
section
noncomputable def CompT (env : Env) (A : Around) (L : Addr) (S : PS) (elt iter : Expr) (tg : Tx) (ifs : List Expr) (sc : List (Nat × NameKind)) (ds : List D) : Prop :=
  ∃ items f ns, (∀ x, kC ns x = true → kC env.scope.names x = true) ∧ scOK ns G.T tg sc = true ∧ TS env A L S (toTg G.T tg) true iter items ∧ compL f items = some ds ∧ ds.length ≤ big ∧ CBody env A S tg sc ifs elt f ∧ okE iter = true
section
variable {k : Nat} {O : Orc} (hO : SndO k O) {env : Env} {A : Around} {L : Addr} {S : PS} {ns : Nms}
include hO
theorem sndComp [GOK] {elt : Ex} {tg : Tx} {src : Sr} {cond : Cx} {sc : List (Nat × NameKind)} {p : Pos} {r : D} (hE : EnvOK env) (hN : NmOK env ns) (hA : Rm A k) (w : wfE G.T ns (.comp elt tg src cond sc p) = true) (e : ev O (.comp elt tg src cond sc p) S = some r) :
    ∃ ds, r = .list ds ∧ CompT env A L S (toE G.T elt) (toS G.T src) tg (toC G.T cond) sc ds := by
  refine bnd (show (evSr O src S).bind _ = some r from e) fun items ei e => ?_
  refine bnd e fun ds ed e => ?_
  refine gdd e fun hl e₀ => ?_
  cases e₀
  have w := Bool.and_eq_true_iff.mp w
  have w1 := Bool.and_eq_true_iff.mp w.1
  have w2 := Bool.and_eq_true_iff.mp w1.1
  refine ⟨ds, rfl, items, _, ns, hN.c, w2.2, sndS hO src tg hE hN hA w2.1 ei, ed, of_decide_eq_true hl, (fun C cells d r er => ?_), okE_S src⟩
  refine bnd er fun l el er => ?_
  refine bnd er fun c ec er => ?_
  refine ⟨l, c, el, sndC hO cond ⟨rfl, hE.glob, hE.blt⟩ inner_nm hA w1.2 ec, fun q => ?_, fun q => ?_⟩
  · subst q
    refine mpd (show (ev O elt { S with loc := l }).map some = some r from er) fun y ey q => ?_
    exact ⟨y, q.symm, sndE hO elt ⟨rfl, hE.glob, hE.blt⟩ inner_nm hA w.2 ey⟩
  · subst q; cases Option.some.inj er; rfl
theorem sndF [GOK] {e : Ex} {ds : List D} (hE : EnvOK env) (hN : NmOK env ns) (hA : Rm A k) (f : freshE e = true) (w : wfE G.T ns e = true) (h : ev O e S = some (.list ds)) : TF env A L S (toE G.T e) ds := by
  cases e with
  | lst es p =>
    refine mpd (show (evs O es S).map _ = some (.list ds : D) from h) fun ds' ed q => ?_
    cases q
    have w := Bool.and_eq_true_iff.mp w
    exact tf_lst (okE_Es _ es) (sndEs hO es hE hN hA w.1 ed) (by rw [evs_len ed]; exact Nat.le_trans (of_decide_eq_true w.2) (by decide))
  | bin o a b p =>
    refine bnd (show (evQ O a S).bind _ = some (.list ds : D) from h) fun x ex h => ?_
    refine bnd h fun y ey h => ?_
    have w := Bool.and_eq_true_iff.mp w
    exact tf_bin (sndQ hO a hE hN hA w.1 ex) (sndQ hO b hE hN hA w.2 ey) h
  | b1 f' a p q =>
    cases f' with
    | list =>
      refine bnd (show (evQ O a S).bind _ = some (.list ds : D) from h) fun x ex h => ?_
      refine mpd (show (asSeq x).map _ = some (.list ds : D) from h) fun l el h => ?_
      cases h
      have w := Bool.and_eq_true_iff.mp w
      exact tf_list hE (hN.g _ w.1) (okE_Q _ a) (sndQ hO a hE hN hA w.2 ex) el
    | _ => cases f
  | comp elt tg src cond sc p =>
    obtain ⟨ds', q, items, f, ns', h1, h2, h3, h4, h5, h6, h7⟩ := sndComp hO (L := L) hE hN hA w h
    cases q
    exact tf_comp hE hA.1 ns' h1 h2 h3 h4 h5 h6 h7
  | _ => cases f
end
section
variable {env : Env} {A : Around} {L : Addr} {S : PS}
noncomputable def kW (ns : Nms) (x : Str) : Bool := kS ns x && kV ns x
theorem notComp {e : Ex} (h : ∀ a b c d f p, e ≠ .comp a b c d f p) (T : Nat → Str) (t : Option Expr) (n : Nat) : swapsWith (toE T e) t n env = pure false := by
  cases e <;> first | rfl | exact absurd rfl (h _ _ _ _ _ _)
theorem tx_asg {x : Nat} {e : Expr} {d : D} {l : Al} {p q : Pos} (hE : EnvOK env) (w : kW env.scope.names (G.T x) = true) (sw : swapsWith e (some (.Name (G.T x) q)) p.line env = pure false) (h : TE env A L S e d) (el : putO x (.fz d) S.loc = some l) :
    TX env A L S (.Assign [.Name (G.T x) q] e p) .next { S with loc := l } := fun m Z Y g s Q E st k => by
  refine gdd el fun no e₀ => ?_
  cases e₀
  have w := Bool.and_eq_true_iff.mp w
  refine wpAny_Assign_Name (h m Z s _ E st.stt fun v h' tk F kp i => ?_) sw
  exact stx_store (s := { s with heap := h', toks := tk }) hE (st.keep F kp) w.1 w.2 (by simpa using no) (Plc.dat i) fun m' h'' tk' g' st' kt e1 e2 _ _ _ => k m' Z Y g' h'' tk' .next st' ((Pres.ofKp st kp).trans (Pres.ofKt (st.keep F kp) kt)) (OSame.put (by simpa using no) e1 e2) rfl
theorem StX.beta {m : Str → Option Value} {Z Y : Addr → Prop} {h : Heap} {g : Lg} (st : StX env L m Z Y S h g) {k : Nat} (o : ownA S k) : Y (g.β k) := by
  obtain ⟨ds, e⟩ := o
  by_cases c : hasO S
  · obtain ⟨es, n, g1, g2, ne, y, at', ow⟩ := st.od c
    exact (ow k ds e).2
  · rw [st.oe c] at e; cases e
theorem Plc.new {ex : Nat → Prop} {m : Str → Option Value} {Z Y : Addr → Prop} {h h' : Heap} {g : Lg} {q : Addr} {ds : List D} {vs : List Value} {n : Nat} (st : StX env L m Z Y S h g) (e : h.get? q = none) (ls : LsAt h' (fun b => Z b ∨ b = q) (.ref q) ds q vs n) :
    Plc L h' (fun b => Z b ∨ b = q) (fun b => Y b ∨ b = q) S g ex (.ref q) (.own ds) := by
  have un : ∀ b, Y b → b ≠ q := fun b y c => by
    obtain ⟨o, g⟩ := st.stt.fm.za b (st.yz b y)
    rw [c, e] at g; cases g
  exact ⟨⟨q, vs, n, ls⟩, fun ds' _ => ⟨q, rfl, .inr rfl, by rintro x _ ⟨d, ex⟩; exact un _ (st.al x d ex).2, fun k o => un _ (st.beta o)⟩⟩
theorem tx_asgO {x : Nat} {e : Expr} {ds : List D} {l : Al} {p q : Pos} (hE : EnvOK env) (w : kW env.scope.names (G.T x) = true) (sw : swapsWith e (some (.Name (G.T x) q)) p.line env = pure false) (h : TF env A L S e ds) (el : putO x (.own ds) S.loc = some l) :
    TX env A L S (.Assign [.Name (G.T x) q] e p) .next { S with loc := l } := fun m Z Y g s Q E st k => by
  refine gdd el fun no e₀ => ?_
  cases e₀
  have w := Bool.and_eq_true_iff.mp w
  refine wpAny_Assign_Name (h m Z s _ E st.stt fun q vs n h' tk F kp e ls => ?_) sw
  have st' := st.addQ F kp e ⟨_, ls.at_⟩
  exact stx_store (s := { s with heap := h', toks := tk }) hE st' w.1 w.2 (by simpa using no) (Plc.new st e ls) fun m' h'' tk' g' st'' kt e1 e2 _ _ _ => k m' _ _ g' h'' tk' .next st'' ((Pres.addQ st kp e).trans (Pres.ofKt st' kt)) (OSame.put (by simpa using no) e1 e2) rfl
theorem tx_comp {x : Nat} {own : Bool} {elt iter : Expr} {tg : Tx} {ifs : List Expr} {sc : List (Nat × NameKind)} {ds : List D} {av : AV} {l : Al} {p q pc : Pos} (hE : EnvOK env) (hh : A.handled = none) (w : kW env.scope.names (G.T x) = true) (c : CompT env A L S elt iter tg ifs sc ds) (ea : avOf own (.list ds) = some av) (el : putO x av S.loc = some l) :
    TX env A L S (.Assign [.Name (G.T x) q] (.ListComp elt [⟨toTg G.T tg, iter, ifs, 0⟩] (scOf G.T sc) pc) p) .next { S with loc := l } := by
  obtain ⟨items, f, ns', h1, h2, h3, h4, h5, h6, h7⟩ := c
  have tf : TF env A L S (.ListComp elt [⟨toTg G.T tg, iter, ifs, 0⟩] (scOf G.T sc) pc) ds := tf_comp hE hh ns' h1 h2 h3 h4 h5 h6 h7
  have sw : swapsWith (.ListComp elt [⟨toTg G.T tg, iter, ifs, 0⟩] (scOf G.T sc) pc) (some (.Name (G.T x) q)) p.line env = pure (env.blockKind == .function && env.kindOf (G.T x) == some .local && q.line == pc.line && !((scOf G.T sc).names.any fun (n, k) => n == G.T x && (k == .local || k == .cell))) := rfl
  have plain : (env.blockKind == .function && env.kindOf (G.T x) == some .local && q.line == pc.line && !((scOf G.T sc).names.any fun (n, k) => n == G.T x && (k == .local || k == .cell))) = false →
      TX env A L S (.Assign [.Name (G.T x) q] (.ListComp elt [⟨toTg G.T tg, iter, ifs, 0⟩] (scOf G.T sc) pc) p) .next { S with loc := l } := fun b => by
    rw [b] at sw
    cases own with
    | true => cases Option.some.inj ea; exact tx_asgO hE w sw tf el
    | false => cases ea; exact tx_asg hE w sw tf.te el
  cases b : (env.blockKind == .function && env.kindOf (G.T x) == some .local && q.line == pc.line && !((scOf G.T sc).names.any fun (n, k) => n == G.T x && (k == .local || k == .cell))) with
  | false => exact plain b
  | true =>
    rw [b] at sw
    intro m Z Y g s Q E st k
    refine gdd el fun no e₀ => ?_
    cases e₀
    have no : isObj x S.loc = false := by simpa using no
    have w := Bool.and_eq_true_iff.mp w
    have nd := (Bool.and_eq_true_iff.mp (Bool.and_eq_true_iff.mp h2).1).1
    rw [exec_Assign_Name_used _ _ _ _ sw]
    refine wpAny_bind (wpAny_standAt (wpAny_bind ?_))
    show wpAny _ A (do let _ ← comprehension (.ListComp elt [⟨toTg G.T tg, iter, ifs, 0⟩] (scOf G.T sc) pc) (scOf G.T sc) env _ (newList []) false (eval iter env) (some (assign (.Name (G.T x) q) env))) _ _ s
    refine wpAny_bind (wpAny_mono (wpAny_comprehension_free (use := some (assign (.Name (G.T x) q) env)) (Q := fun _ s' => Q .next s') rfl (fun x => by cases iter <;> first | rfl | cases h7) (clos_eq fun x hx e => ?_) rfl (fun x hx e => ?_)
      (comp_core hE hh ns' h1 h2 h3 h4 h5 h6 st.stt fun Dd C h tk ys n mC eD eC DC F kp nC ls => ?_)) (fun _ s' hq => wpAny_pure (wpAny_pure hq)) fun _ _ e => e)
    · obtain ⟨q, hq, rfl⟩ := List.mem_map.mp hx
      obtain ⟨x, j⟩ := q
      cases e
      obtain ⟨c, e, _⟩ := (inner_cells (lo := 0) st.stt ns' h1 h2).1 hq
      exact ⟨c, e⟩
    · obtain ⟨q, hq, rfl⟩ := List.mem_map.mp hx
      obtain ⟨x, j⟩ := q
      cases e
      exact lookup_sc G_inj nd hq
    · obtain ⟨oC, gC⟩ : ∃ o, h.get? C = some o := by obtain ⟨o, _, _, g, _⟩ := nC; exact ⟨o, g⟩
      have H0 : ∀ b, s.heap.get? b = none → G.H₀.get? b = none := fun b hb => by
        cases q : G.H₀.get? b with
        | none => rfl
        | some o => have := st.stt.fm.fr.keep b o q; exact nso (hb) this
      have un : ∀ b, Y b → b ≠ C ∧ b ≠ Dd := fun b y => by
        obtain ⟨o, g⟩ := st.stt.fm.za b (st.yz b y)
        exact ⟨fun c => (by rw [c, eC] at g; cases g), fun c => (by rw [c, eD] at g; cases g)⟩
      have fin : ∀ {Z' Y' : Addr → Prop}, StX env L m Z' Y' S h g → Pres s.heap Z Y h Z' Y' → Plc L h Z' Y' S g (· = x) (.ref Dd) av → Z' C → ¬ Y' C → (∀ b, Y' b → b ≠ C) →
          wpAny (model G.prog G.w) A (assign (.Name (G.T x) q) env (.ref Dd)) (fun _ s'' => ∃ m, s''.heap.Ns C m ∧ ∀ h', Heap.SameBut C s''.heap h' → Q .next { s'' with heap := h' }) E { s with heap := h, toks := tk } := fun {Z' Y'} st' pr pl zC nyC yC => by
        refine wpAny_assign_Name (stx_store (s := { s with heap := h, toks := tk }) hE st' w.1 w.2 no pl fun m' h'' tk' g' st'' kt e1 e2 _ _ _ => ?_)
        have nT : ¬ Tn env L [x] C := fun hb => nyC (st'.cells hb)
        refine ⟨mC, nC.at' fun o e => kt _ o nT e, fun h3 hs => ?_⟩
        have kC : Kt (· = C) h'' h3 := fun b o nb g => hs.extBut b o nb g
        have CL : L ≠ C := yC _ st'.yL
        have F3 : Fr G.H₀ L h3 m' := ⟨st''.stt.fm.fr.ns.sameBut hs CL, fun b o g => hs.extBut b o (fun e => by
          rw [e, H0 _ eC] at g; cases g) (st''.stt.fm.fr.keep b o g), st''.stt.fm.fr.above⟩
        have zsh : ∀ z, (Z' z ∧ z ≠ C) → ∃ o, h3.get? z = some o := fun z hz => by
          obtain ⟨o, g⟩ := st''.stt.fm.za z hz.1; exact ⟨o, hs.extBut _ _ hz.2 g⟩
        have st3 : StX env L m' (fun b => Z' b ∧ b ≠ C) Y' { S with loc := put x av S.loc } h3 g' := st''.off kC (fun b e => e ▸ nyC) (fun b o nz g => ⟨hs.extBut b o (fun e => nz (e ▸ zC)) g, fun z => nz z.1⟩) (fun b y => ⟨st''.yz b y, yC b y⟩) zsh (fun z hz => st''.stt.fm.zH z hz.1) F3
        have p12 := pr.trans (Pres.ofKt st' kt)
        have nC' : ∀ b o, s.heap.get? b = some o → b ≠ C := fun b o g e => by rw [e, eC] at g; cases g
        refine k m' _ Y' g' h3 tk' .next st3 ⟨fun b o n g => hs.extBut b o (nC' b o g) (p12.kept b o n g), p12.ys, fun b o n g => ⟨fun z => (p12.zs b o n g).mp z.1, fun z => ⟨(p12.zs b o n g).mpr z, nC' b o g⟩⟩⟩ (OSame.put no e1 e2) rfl
      have mvC : ∀ {Z1 : Addr → Prop}, (∀ b, Z1 b → (Z b ∨ b = Dd) ∨ b = C) → Mv s.heap Z h Z1 := fun hz b o nz g => ⟨kp b o (fun e => nz (e ▸ st.stt.fm.zL)) g, fun z => by
        rcases hz b z with (z | rfl) | rfl
        · exact nz z
        · exact nso (eD) g
        · exact nso (eC) g⟩
      have za1 : ∀ {Z1 : Addr → Prop}, (∀ b, Z1 b → (Z b ∨ b = Dd) ∨ b = C) → ∀ z, Z1 z → ∃ o, h.get? z = some o := fun hz b z => by
        rcases hz b z with (z | rfl) | rfl
        · exact (st.stt.keep F kp).fm.za b z
        · exact ⟨_, ls.at_⟩
        · exact ⟨_, gC⟩
      have zH1 : ∀ {Z1 : Addr → Prop}, (∀ b, Z1 b → (Z b ∨ b = Dd) ∨ b = C) → ∀ z, Z1 z → G.H₀.get? z = none := fun hz b z => by
        rcases hz b z with (z | rfl) | rfl
        · exact st.stt.fm.zH b z
        · exact H0 _ eD
        · exact H0 _ eC
      cases own with
      | true =>
        cases Option.some.inj ea
        have st' : StX env L m (fun b => (Z b ∨ b = Dd) ∨ b = C) (fun b => Y b ∨ b = Dd) S h g := st.grow F kp (mvC fun _ z => z) (fun _ z => .inl (.inl z)) (za1 fun _ z => z) (zH1 fun _ z => z) (fun _ y => .inl y) (fun b y => by
          rcases y with y | y
          · exact .inl (.inl (st.yz b y))
          · exact .inl (.inr y))
        refine fin st' ⟨fun b o n g => kp b o (fun e => n (e ▸ st.yL)) g, fun b (y : Y b ∨ b = Dd) => y.imp id fun (e : b = Dd) => e ▸ eD, fun b o n g => ⟨fun z => ?_, fun z => .inl (.inl z)⟩⟩ ⟨⟨_, ys, n, ls⟩, fun ds' _ => ⟨Dd, rfl, .inr rfl, by rintro y _ ⟨d, ey⟩; exact (un _ (st.al y d ey).2).2, fun j o => (un _ (st.beta o)).2⟩⟩ (.inr rfl) ?_ ?_
        · rcases z with (z | rfl) | rfl
          · exact z
          · exact nso (eD) g
          · exact nso (eC) g
        · rintro (y | y)
          · exact (un _ y).1 rfl
          · exact DC y.symm
        · rintro b (y | rfl)
          · exact (un _ y).1
          · exact DC
      | false =>
        cases Option.some.inj ea
        have hz : ∀ b, (Z b ∨ b = C) → (Z b ∨ b = Dd) ∨ b = C := fun b z => by
          rcases z with z | z
          · exact .inl (.inl z)
          · exact .inr z
        have st' : StX env L m (fun b => Z b ∨ b = C) Y S h g := st.grow F kp (mvC hz) (fun _ z => .inl z) (za1 hz) (zH1 hz) (fun _ y => y) (fun b y => .inl (st.yz b y))
        refine fin st' ⟨fun b o n g => kp b o (fun e => n (e ▸ st.yL)) g, fun b y => .inl y, fun b o n g => ⟨fun z => ?_, fun z => .inl z⟩⟩ (Plc.dat (.list ls.at_ ?_ ls.len (ls.its.mv fun b o nz g => ⟨g, fun z => nz (hz b z)⟩))) (.inr rfl) (fun y => (un _ y).1 rfl) (fun b y => (un _ y).1)
        · rcases z with z | rfl
          · exact z
          · exact nso (eC) g
        · rintro (z | z)
          · obtain ⟨o, g⟩ := st.stt.fm.za _ z
            exact nso (eD) g
          · exact DC z
end
end
section
noncomputable def AlSame (S : PS) (g : Lg) (S' : PS) (g' : Lg) : Prop := (∀ y, ownL S' y → ownL S y ∧ g'.α y = g.α y) ∧ g'.β = g.β
theorem AlSame.refl (S : PS) (g : Lg) : AlSame S g S g := ⟨fun _ o => ⟨o, rfl⟩, rfl⟩
theorem AlSame.trans {S S' S'' : PS} {g g' g'' : Lg} (a : AlSame S g S' g') (b : AlSame S' g' S'' g'') : AlSame S g S'' g'' := ⟨fun y o => by obtain ⟨p, q⟩ := b.1 y o; obtain ⟨p', q'⟩ := a.1 y p; exact ⟨p', q.trans q'⟩, b.2.trans a.2⟩
theorem AlSame.put {S : PS} {g g' : Lg} {x : Nat} {d : D} (e3 : g'.β = g.β) (e4 : ∀ y, y ≠ x → g'.α y = g.α y) : AlSame S g { S with loc := put x (.fz d) S.loc } g' := ⟨by
  rintro y ⟨ds, e⟩
  have e : look y (Mine.put x (.fz d) S.loc) = some (.own ds) := e
  rw [look_put] at e
  by_cases c : y = x
  · rw [if_pos c] at e; cases Option.some.inj e
  · rw [if_neg c] at e; exact ⟨⟨ds, e⟩, e4 y c⟩, e3⟩
noncomputable def wfYs (ns : Nms) (T : Nat → Str) (xs : List Nat) : Bool := xs.all fun x => kW ns (T x)
section
variable {env : Env} {A : Around} {L : Addr} {E : Value → Shared → Prop}
theorem stx_stores (hE : EnvOK env) : ∀ {xs : List (Nat × Pos)} {vs : List Value} {ds : List D} {l : Al} {S : PS} {m : Str → Option Value} {Z Y : Addr → Prop} {g : Lg} {s : Shared} {Q : Unit → Shared → Prop}, StX env L m Z Y S s.heap g → wfYs env.scope.names G.T (xs.map (·.1)) = true → DIs s.heap Z vs ds → putAll xs ds S.loc = some l →
    (∀ m' h' tk g', StX env L m' Z Y { S with loc := l } h' g' → Kt (Tn env L (xs.map (·.1))) s.heap h' → OSame S g { S with loc := l } g' → AlSame S g { S with loc := l } g' → Q () { s with heap := h', toks := tk }) →
    wpAny (model G.prog G.w) A (assignInOrder ((assignEach (xs.map fun x => .Name (G.T x.1) x.2) env).map (·.2)) vs) Q E s := by
  intro l0
  induction l0 with
  | nil =>
    intro vs ds l S m Z Y g s Q st c d e k
    cases ds with
    | nil => cases Option.some.inj e; exact assignInOrder_nil (k m s.heap s.toks g st (Kt.refl _ _) (OSame.refl _ _) (AlSame.refl _ _))
    | cons => cases e
  | cons x xs ih =>
    intro vs ds l S m Z Y g s Q st c d e k
    have c := Bool.and_eq_true_iff.mp (show (kW env.scope.names (G.T x.1) && (xs.map (·.1)).all _) = true from c)
    have c1 := Bool.and_eq_true_iff.mp c.1
    cases d with
    | nil => cases e
    | @cons v vs d ds d1 dr =>
      refine bnd (show (putO x.1 (.fz d) S.loc).bind _ = some l from e) fun l1 e1 e => ?_
      refine gdd e1 fun no e1 => ?_
      subst e1
      have no : isObj x.1 S.loc = false := by simpa using no
      refine assignInOrder_cons (wpAny_assign_Name (stx_store (av := .fz d) hE st c1.1 c1.2 no (Plc.dat d1) fun m' h' tk g' st' kt q1 q2 q3 q4 _ => ?_))
      have tz : ∀ b, Tn env L [x.1] b → Z b := fun b hb => Tn.z st.stt hb
      refine ih (s := { s with heap := h', toks := tk }) st' c.2 (dr.mv (kt.mv tz)) e fun m'' h'' tk' g'' st'' kt' os as => k m'' h'' tk' g'' st'' ?_ ((OSame.put no q1 q2).trans os) ((AlSame.put q3 q4).trans as)
      refine (kt.le fun b hb => ?_).trans (kt'.le fun b hb => ?_)
      · rcases hb with rfl | ⟨y, hy, r⟩
        · exact .inl rfl
        · rw [List.mem_singleton.mp hy] at r; exact .inr ⟨_, .head _, r⟩
      · rcases hb with rfl | ⟨y, hy, r⟩
        · exact .inl rfl
        · exact .inr ⟨y, .tail _ hy, r⟩
theorem stx_bindT {tg : Tx} {v : Value} {d : D} {l : Al} {S : PS} {m : Str → Option Value} {Z Y : Addr → Prop} {g : Lg} {s : Shared} {Q : Unit → Shared → Prop} (hE : EnvOK env) (hh : A.handled = none) (st : StX env L m Z Y S s.heap g) (c : wfYs env.scope.names G.T (txNames tg) = true) (i : DI s.heap Z v d) (e : bindT tg d S.loc = some l)
    (k : ∀ m' h' tk g', StX env L m' Z Y { S with loc := l } h' g' → Kt (Tn env L (txNames tg)) s.heap h' → OSame S g { S with loc := l } g' → AlSame S g { S with loc := l } g' → Q () { s with heap := h', toks := tk }) : wpAny (model G.prog G.w) A (assign (toTg G.T tg) env v) Q E s := by
  cases tg with
  | one x p =>
    refine gdd (show gd (!isObj x S.loc) (put x (.fz d) S.loc) = some l from e) fun no e => ?_
    subst e
    have no : isObj x S.loc = false := by simpa using no
    have c := Bool.and_eq_true_iff.mp (show (kW env.scope.names (G.T x) && true) = true from c)
    have c1 := Bool.and_eq_true_iff.mp c.1
    exact wpAny_assign_Name (stx_store (av := .fz d) hE st c1.1 c1.2 no (Plc.dat i) fun m' h' tk g' st' kt q1 q2 q3 q4 _ => k m' h' tk g' st' kt (OSame.put no q1 q2) (AlSame.put q3 q4))
  | many xs p =>
    refine bnd e fun ds e1 e2 => ?_
    rw [asTup_s e1] at i
    obtain ⟨a, vs, n, z⟩ := i.tuple'
    cases z.ref
    refine assign_Tuple_tuple hh z.is ((assignEach_len xs).trans ?_) (assignEach_star xs) fun h' he => ?_
    · show xs.length = vs.length
      rw [putAll_len e2, z.its.length]
    · have ks : Ks s.heap h' := fun b o g => he b o (Nat.ne_of_lt (Heap.lt_size g)) g
      exact stx_stores hE (s := { s with heap := h' }) (st.keep (Fr.ks st.stt.fm.fr ks) (ks.kp L)) c (z.its.mv ((ks.kp L).mv st.stt.fm.zL)) e2 fun m' h'' tk g' st' kt os as => k m' h'' tk g' st' ((ks.kt _).trans kt) os as
theorem tx_for {S S' : PS} {tg : Tx} {iter : Expr} {body : List Stmt} {p : Pos} {items : List D} {fl : Fl} {f : D → PS → Option (Fl × PS)} (hE : EnvOK env) (hh : A.handled = none) (wt : wfYs env.scope.names G.T (txNames tg) = true) (hi : okE iter = true) (hsrc : TS env A L S (toTg G.T tg) false iter items)
    (hf : forL f items S = some (fl, S')) (hb : ∀ d S₁ r, f d S₁ = some r → ∃ l, bindT tg d S₁.loc = some l ∧ TM env A L { S₁ with loc := l } body r.1 r.2) : TX env A L S (.For (toTg G.T tg) iter body [] p) fl S' := fun m Z Y g s Q E st k => by
  refine wpAny_For ?_ (fun x => by cases iter <;> first | rfl | cases hi)
  refine hsrc m Z s _ E st.stt fun I B W St h1 tk1 F1 kp1 it st1 hW hB hnz => ?_
  have nWY : ∀ b, W b → ¬ Y b := fun b w y => by
    obtain ⟨o, g⟩ := st.stt.fm.za b (st.yz b y)
    exact nso ((hW b w).2) g
  have H0 : ∀ b, s.heap.get? b = none → G.H₀.get? b = none := fun b hb => by
    cases q : G.H₀.get? b with
    | none => rfl
    | some o => have := st.stt.fm.fr.keep b o q; exact nso (hb) this
  let J : Nat → Shared → Prop := fun n s' => ∃ h tk m' Z' Y' g' rest S₁, s' = { s with heap := h, toks := tk } ∧ n = rest.length + 1 ∧ forL f rest S₁ = some (fl, S') ∧ StX env L m' Z' Y' S₁ h g' ∧ Pres s.heap Z Y h Z' Y' ∧ OSame S g S₁ g' ∧ St Z' rest h ∧
    (∀ b, W b → Z' b ∧ ¬ Y' b) ∧ (∀ b, B b → (∃ o, h.get? b = some o) ∧ ¬ Y' b)
  have start : J (items.length + 1) { s with heap := h1, toks := tk1 } := by
    refine ⟨h1, tk1, m, _, Y, g, items, S, rfl, rfl, hf, st.grow F1 kp1 (kp1.mvW st.stt.fm.zL fun b w => (hW b w).2) (fun _ z => .inl z) (fun z hz => ?_) (fun z hz => ?_) (fun _ y => y) (fun b y => .inl (st.yz b y)), ⟨fun b o n g => kp1 b o (fun e => n (e ▸ st.yL)) g, fun b y => .inl y, fun b o n g => ⟨fun z => ?_, fun z => .inl z⟩⟩, OSame.refl _ _, st1, fun b w => ⟨.inr w, nWY b w⟩, fun b hb => ⟨(hB b hb).2, fun y => ?_⟩⟩
    · rcases hz with hz | hz
      · exact (st.stt.keep F1 kp1).fm.za z hz
      · exact (hB z (hW z hz).1).2
    · rcases hz with hz | hz
      · exact st.stt.fm.zH z hz
      · exact H0 _ (hW z hz).2
    · rcases z with z | z
      · exact z
      · exact nso ((hW b z).2) g
    · rcases hnz rfl b hb with w | nz
      · exact nWY b w y
      · exact nz (st.yz b y)
  refine codeAny_forLoop_any J (fun n s' hj => ?_) _ start
  obtain ⟨h, tk, m', Z', Y', g', rest, S₁, rfl, rfl, er, sx, pr, os, hst, hw, hbb⟩ := hj
  have wk : ∀ {h2 : Heap}, (∀ b o, ¬ W b → h.get? b = some o → h2.get? b = some o) → Fr G.H₀ L h2 m' := fun hk => ⟨sx.stt.fm.fr.ns.at' fun o e => hk _ o (fun w => (hB _ (hW _ w).1).1 rfl) e, fun b o g => hk b o (fun w => by exact nso (H0 _ (hW b w).2) g) (sx.stt.fm.fr.keep b o g), sx.stt.fm.fr.above⟩
  cases rest with
  | nil =>
    refine it.done _ _ _ hst fun h2 tk2 hk => ?_
    obtain ⟨e1, e2⟩ := Prod.mk.inj (Option.some.inj (show some (Fl.next, S₁) = some (fl, S') from er))
    subst e1 e2
    refine wpAny_execs_nil ?_
    have sx' : StX env L m' (fun b => Z' b ∧ ¬ W b) Y' S₁ h2 g' := sx.off (t := W) hk (fun b w => (hw b w).2) (fun b o nz e => ⟨hk b o (fun w => nz (hw b w).1) e, fun z => nz z.1⟩) (fun b y => ⟨sx.yz b y, fun w => (hw b w).2 y⟩)
      (fun z hz => by obtain ⟨o, e⟩ := sx.stt.fm.za z hz.1; exact ⟨o, hk _ _ hz.2 e⟩) (fun z hz => sx.stt.fm.zH z hz.1) (wk hk)
    have nW : ∀ b o, s.heap.get? b = some o → ¬ W b := fun b o e w => by exact nso ((hW b w).2) e
    exact k m' _ Y' g' h2 tk2 .next sx' ⟨fun b o n e => hk b o (nW b o e) (pr.kept b o n e), pr.ys, fun b o n e => ⟨fun z => (pr.zs b o n e).mp z.1, fun z => ⟨(pr.zs b o n e).mpr z, nW b o e⟩⟩⟩ os rfl
  | cons d rest =>
    refine bnd (show (f d S₁).bind _ = some (fl, S') from er) fun r er1 er => ?_
    obtain ⟨l, el, hm⟩ := hb d S₁ r er1
    refine wpAny_mono (it.item _ (fun v s₂ => wpAny (model G.prog G.w) A (assign (toTg G.T tg) env v) _ _ s₂) _ _ hst sx.stt.fm.za (fun b w => (hw b w).1) fun v h2 tk2 st2 dv hk => ?_)
      (fun r s₁ h => by cases r with | none => exact h.elim | some v => exact h) fun _ _ e => e
    have sx2 : StX env L m' Z' Y' S₁ h2 g' := sx.off (t := W) hk (fun b w => (hw b w).2) (fun b o nz e => ⟨hk b o (fun w => nz (hw b w).1) e, nz⟩) sx.yz
      (fun z hz => by
        by_cases w : W z
        · exact it.live st2 z w
        · obtain ⟨o, e⟩ := sx.stt.fm.za z hz; exact ⟨o, hk _ _ w e⟩) sx.stt.fm.zH (wk hk)
    have nW : ∀ b o, s.heap.get? b = some o → ¬ W b := fun b o e w => by exact nso ((hW b w).2) e
    have pr2 : Pres s.heap Z Y h2 Z' Y' := ⟨fun b o n e => hk b o (nW b o e) (pr.kept b o n e), pr.ys, pr.zs⟩
    have hb2 : ∀ b, B b → ∃ o, h2.get? b = some o := fun b hb => by
      by_cases w : W b
      · exact it.live st2 b w
      · obtain ⟨o, e⟩ := (hbb b hb).1; exact ⟨o, hk _ _ w e⟩
    refine stx_bindT (s := { s with heap := h2, toks := tk2 }) hE hh sx2 wt dv el fun m3 h3 tk3 g3 sx3 kt3 os3 _ => ?_
    refine hm m3 Z' Y' g3 { s with heap := h3, toks := tk3 } _ _ sx3 fun m4 Z4 Y4 g4 h4 tk4 fw sx4 pr4 os4 fo => ?_
    have pr24 : Pres h2 Z' Y' h4 Z4 Y4 := (Pres.ofKt sx2 kt3).trans pr4
    have prA : Pres s.heap Z Y h4 Z4 Y4 := pr2.trans pr24
    have osA : OSame S g r.2 g4 := (os.trans os3).trans os4
    obtain ⟨r1, r2⟩ := r
    cases r1 with
    | next =>
      cases fo
      refine ⟨rest.length + 1, Nat.lt_succ_self _, h4, tk4, m4, Z4, Y4, g4, rest, r2, rfl, rfl, er, sx4, prA, osA, it.frame st2 (pr24.mv sx2.yz) (fun b o hb e => pr24.kept b o (hbb b hb).2 e), fun b w => ?_, fun b hb => ?_⟩
      · obtain ⟨o, e⟩ := it.live st2 b w
        refine ⟨(pr24.zs b o (hw b w).2 e).mpr (hw b w).1, fun y => ?_⟩
        rcases pr24.ys b y with y | y
        · exact (hw b w).2 y
        · rw [e] at y; cases y
      · obtain ⟨o, e⟩ := hb2 b hb
        refine ⟨⟨o, pr24.kept b o (hbb b hb).2 e⟩, fun y => ?_⟩
        rcases pr24.ys b y with y | y
        · exact (hbb b hb).2 y
        · rw [e] at y; cases y
    | brk =>
      cases fo
      cases er
      exact k m4 Z4 Y4 g4 h4 tk4 .next sx4 prA osA rfl
    | ret v =>
      cases Option.some.inj er
      obtain ⟨w, rfl, i⟩ := fo
      exact k m4 Z4 Y4 g4 h4 tk4 (.ret w) sx4 prA osA ⟨w, rfl, i⟩
end
end
section
section
variable {env : Env} {A : Around} {L : Addr} {S S' : PS} {m : Str → Option Value} {Z Y : Addr → Prop} {h h' : Heap} {g : Lg}
theorem StX.mut {q : Addr} {ds' : List D} {vs vs' : List Value} {n n' : Nat} (p : StX env L m Z Y S h g) (yq : Y q) (at0 : h.get? q = some (lsO vs n)) (at1 : h'.get? q = some (lsO vs' n')) (kk : ∀ b o, b ≠ q → h.get? b = some o → h'.get? b = some o) (di : DIs h Z vs' ds') (len : vs'.length ≤ big)
    (hl : ∀ y, look y S'.loc = look y S.loc ∨ (ownL S y ∧ look y S'.loc = some (.own ds'))) (ha : ∀ k, look k S'.ob = look k S.ob ∨ (ownA S k ∧ look k S'.ob = some (.own ds'))) (hn : S'.ob.length = S.ob.length)
    (ul : ∀ y, ownL S y → g.α y = q → look y S'.loc = some (.own ds')) (ua : ∀ k, ownA S k → g.β k = q → look k S'.ob = some (.own ds'))
    (vl : ∀ y, look y S'.loc ≠ look y S.loc → g.α y = q) (va : ∀ k, look k S'.ob ≠ look k S.ob → g.β k = q) :
    StX env L m Z Y S' h' g ∧ Pres h Z Y h' Z Y ∧ OSame S g S' g := by
  have zq : Z q := p.yz q yq
  have mv : Mv h Z h' Z := fun b o nz e => ⟨kk b o (fun c => nz (c ▸ zq)) e, nz⟩
  have Lq : L ≠ q := fun e => Fr.notSeq p.stt.fm.fr (e ▸ at0) rfl
  have cq : ∀ {c : Addr} {v : Option Value}, h.IsCell c v → c ≠ q := fun st₀ c => by
    obtain ⟨o, gg, e⟩ := st₀
    rw [c, at0] at gg; cases gg; cases e
  have F' : Fr G.H₀ L h' m := ⟨p.stt.fm.fr.ns.at' fun o e => kk _ o Lq e, fun b o e => kk b o (fun c => by rw [c, p.stt.fm.zH q zq] at e; cases e) (p.stt.fm.fr.keep b o e), p.stt.fm.fr.above⟩
  have vv : ∀ x v, VarV env L m h x v → VarV env L m h' x v := fun x v a => by
    rcases a with a | ⟨a, c, e, i⟩
    · exact .inl a
    · have := cq i
      obtain ⟨o, gg, r⟩ := i
      exact .inr ⟨a, c, e, o, kk _ _ this gg, r⟩
  have oL : ∀ y, ownL S' y → ownL S y := fun y st₀ => by
    obtain ⟨d, e⟩ := st₀
    rcases hl y with q | q
    · exact ⟨d, q ▸ e⟩
    · exact q.1
  have oA : ∀ y, ownA S' y → ownA S y := fun y st₀ => by
    obtain ⟨d, e⟩ := st₀
    rcases ha y with q | q
    · exact ⟨d, q ▸ e⟩
    · exact q.1
  have oO : ∀ y, look y S'.loc = some .obj ↔ look y S.loc = some .obj := fun y => by
    rcases hl y with q | ⟨⟨d, e⟩, e'⟩
    · rw [q]
    · rw [e, e']; exact ⟨nofun, nofun⟩
  have hO : hasO S' ↔ hasO S := ⟨fun st₀ => by obtain ⟨y, e⟩ := st₀; exact ⟨y, (oO y).mp e⟩, fun st₀ => by obtain ⟨y, e⟩ := st₀; exact ⟨y, (oO y).mpr e⟩⟩
  have own' : OwnI h' Z (.ref q) ds' := ⟨q, vs', n', rfl, at1, len, di.mv mv⟩
  have ksome : ∀ k, (∃ av, look k S'.ob = some av) ↔ ∃ av, look k S.ob = some av := fun k => by
    rcases ha k with q | ⟨⟨d, e⟩, e'⟩
    · rw [q]
    · exact ⟨fun _ => ⟨_, e⟩, fun _ => ⟨_, e'⟩⟩
  have od : hasO S → ∃ es n, h'.get? g.o = some (instObj G.C g.dx) ∧ h'.get? g.dx = some (dictOf es n) ∧ g.dx ≠ L ∧ (Y g.o ∧ Y g.dx) ∧ AttI h' Z es S'.ob ∧ ∀ k ds, look k S'.ob = some (.own ds) → W.getL (G.T k) es = some (some (.ref (g.β k))) ∧ Y (g.β k) := fun o => by
    obtain ⟨es, n, g1, g2, ne, y, at', ow⟩ := p.od o
    have n1 : g.o ≠ q := fun c => by rw [c, at0] at g1; cases Option.some.inj g1
    have n2 : g.dx ≠ q := fun c => by
      rw [c, at0] at g2
      have := congrArg (fun o => o.map (·.data)) g2
      cases Option.some.inj this
    refine ⟨es, n, kk _ _ n1 g1, kk _ _ n2 g2, ne, y, ⟨at'.len.trans hn.symm, at'.keys, fun j av e => ?_, fun y hy => at'.non y fun k av e => ?_⟩, fun k ds e => ?_⟩
    · by_cases c : look j S'.ob = look j S.ob
      · rw [c] at e
        obtain ⟨i, v, r, a⟩ := at'.get j av e
        refine ⟨i, v, r, ?_⟩
        cases av with
        | fz d => exact DI.mv mv a
        | obj => exact a
        | own ds0 =>
          obtain ⟨e1, y1⟩ := ow j ds0 e
          rw [r] at e1
          have e2 : v = .ref (g.β j) := Option.some.inj (Option.some.inj e1)
          by_cases c2 : g.β j = q
          · have := ua j ⟨ds0, e⟩ c2
            rw [c, e] at this
            cases Option.some.inj this
            rw [e2, c2]; exact own'
          · obtain ⟨aa, ws, n0, l⟩ := a
            have e3 : aa = g.β j := by rw [l.ref] at e2; cases e2; rfl
            exact ⟨aa, ws, n0, l.ref, kk _ _ (e3 ▸ c2) l.at_, l.len, l.its.mv mv⟩
      · rcases ha j with q' | ⟨⟨d, e'⟩, e''⟩
        · exact absurd q' c
        · rw [e''] at e; cases Option.some.inj e
          obtain ⟨i, v, r, a⟩ := at'.get j _ e'
          obtain ⟨e1, y1⟩ := ow j d e'
          rw [r] at e1
          have e2 : v = .ref (g.β j) := Option.some.inj (Option.some.inj e1)
          exact ⟨i, v, r, by rw [e2, va j c]; exact own'⟩
    · obtain ⟨av', e'⟩ := (ksome k).mpr ⟨av, e⟩
      exact hy k av' e'
    · obtain ⟨d0, e0⟩ := oA k ⟨ds, e⟩
      exact ow k d0 e0
  refine ⟨⟨⟨⟨F', p.stt.fm.zL, fun z hz => ?_, p.stt.fm.zH⟩, fun x av e c => ?_, fun x hx => ?_, p.stt.dis⟩, p.loc, p.nf, fun x av e => ?_, p.yz, p.yL, p.yC, fun x ds e => ?_, fun x e => vv _ _ (p.ob x ((oO x).mp e)), fun o => od (hO.mp o), fun no => ?_,
    fun x y a b e => p.ia x y (oL x a) (oL y b) e, fun x y a b e => p.ib x y (oA x a) (oA y b) e, fun x y a b => p.ic x y (oL x a) (oA y b)⟩,
    ⟨fun b o n e => kk b o (fun c => n (c ▸ yq)) e, fun _ y => .inl y, fun _ _ _ _ => Iff.rfl⟩, fun o => ⟨hO.mpr o, rfl, rfl⟩⟩
  · by_cases c : z = q
    · exact ⟨_, c ▸ at1⟩
    · obtain ⟨o, e⟩ := p.stt.fm.za z hz; exact ⟨o, kk _ _ c e⟩
  · by_cases c2 : look x S'.loc = look x S.loc
    · rw [c2] at e
      obtain ⟨v, a, b⟩ := p.stt.rd x av e c
      refine ⟨v, vv _ _ a, ?_⟩
      cases av with
      | fz d => exact DI.mv mv b
      | own ds0 =>
        obtain ⟨e1, y1⟩ := p.al x ds0 e
        have e2 := a.uniq e1
        by_cases c3 : g.α x = q
        · have := ul x ⟨ds0, e⟩ c3
          rw [c2, e] at this
          cases Option.some.inj this
          rw [e2, c3]; exact own'
        · obtain ⟨aa, ws, n0, l⟩ := b
          have e3 : aa = g.α x := by rw [l.ref] at e2; cases e2; rfl
          exact ⟨aa, ws, n0, l.ref, kk _ _ (e3 ▸ c3) l.at_, l.len, l.its.mv mv⟩
      | obj =>
        have e2 := a.uniq (p.ob x e)
        obtain ⟨es, n, g1, g2, ne, y, at', ow⟩ := od ⟨x, e⟩
        exact ⟨g.o, e2, g.dx, es, n, g1, g2, ne, at'⟩
    · rcases hl x with q' | ⟨⟨d, e'⟩, e''⟩
      · exact absurd q' c2
      · rw [e''] at e; cases Option.some.inj e
        obtain ⟨e1, y1⟩ := p.al x d e'
        exact ⟨.ref (g.α x), vv _ _ e1, by rw [vl x c2]; exact own'⟩
  · obtain ⟨c, v, e, i, z⟩ := p.stt.cel x hx
    have := cq i
    obtain ⟨o, gg, r⟩ := i
    exact ⟨c, v, e, ⟨o, kk _ _ this gg, r⟩, z⟩
  · rcases hl x with q' | ⟨⟨d, e'⟩, e''⟩
    · exact p.nm x av (q' ▸ e)
    · exact p.nm x _ e'
  · obtain ⟨d0, e0⟩ := oL x ⟨ds, e⟩
    exact ⟨vv _ _ (p.al x d0 e0).1, (p.al x d0 e0).2⟩
  · have := p.oe fun o => no (hO.mpr o)
    rw [this] at hn
    exact List.eq_nil_of_length_eq_zero hn
theorem put_len {x : Nat} {v u : AV} : ∀ {l : Al}, look x l = some u → (put x v l).length = l.length := by
  intro l
  induction l with
  | nil => exact fun e => ns e
  | cons q r ih =>
    obtain ⟨y, w⟩ := q
    intro e
    show (if y = x then (x, v) :: r else (y, w) :: put x v r).length = _
    by_cases c : y = x
    · rw [if_pos c]; rfl
    · rw [if_neg c]
      have e : look x r = some u := by
        have : (if y = x then some w else look x r) = some u := e
        rw [if_neg c] at this; exact this
      exact congrArg (· + 1) (ih e)
noncomputable def adr (g : Lg) : Lc → Addr
  | .v x _ => g.α x
  | .a _ a _ _ => g.β a
theorem getL_own {l : Lc} {ds : List D} (p : StX env L m Z Y S h g) (e : getL l S = some ds) : Y (adr g l) ∧ ∃ vs n, LsAt h Z (.ref (adr g l)) ds (adr g l) vs n := by
  cases l with
  | v x q =>
    have e := ownOf_s (show ownOf (look x S.loc) = some ds from e)
    obtain ⟨a, y⟩ := p.al x ds e
    obtain ⟨v, b, aa, vs, n, l⟩ := p.stt.rd x _ e (p.nm x _ e)
    have := b.uniq a
    have e3 : aa = g.α x := by rw [l.ref] at this; cases this; rfl
    subst e3
    exact ⟨y, vs, n, rfl, l.at_, l.len, l.its⟩
  | a x k q r =>
    have e : (if isObj x S.loc then ownOf (look k S.ob) else none) = some ds := e
    cases ho : isObj x S.loc with
    | false => rw [ho] at e; cases e
    | true =>
      rw [ho] at e
      have e := ownOf_s (show ownOf (look k S.ob) = some ds from e)
      have hx : look x S.loc = some .obj := by
        unfold isObj at ho
        split at ho
        · assumption
        · cases ho
      obtain ⟨es, n, g1, g2, ne, y, at', ow⟩ := p.od ⟨x, hx⟩
      obtain ⟨_, v, r1, aa, vs, n, l⟩ := at'.get k _ e
      obtain ⟨e1, y1⟩ := ow k ds e
      rw [r1] at e1
      have e2 : v = .ref (g.β k) := Option.some.inj (Option.some.inj e1)
      have e3 : aa = g.β k := by rw [l.ref] at e2; cases e2; rfl
      subst e3
      exact ⟨y1, vs, n, rfl, l.at_, l.len, l.its⟩
noncomputable def wfL (T : Nat → Str) (ns : Nms) : Lc → Bool
  | .v x _ => kV ns (T x)
  | .a x _ _ _ => kV ns (T x)
theorem lc_eval [GOK] {l : Lc} {ds : List D} {s : Shared} {Q E : Value → Shared → Prop} (hE : EnvOK env) (p : StX env L m Z Y S s.heap g) (e : getL l S = some ds) (k : ∀ tk, Q (.ref (adr g l)) { s with toks := tk }) : wpAny (model G.prog G.w) A (eval (toL G.T l) env) Q E s := by
  cases l with
  | v x q =>
    have e := ownOf_s (show ownOf (look x S.loc) = some ds from e)
    exact name_ok p.stt.fm.fr hE (p.nm x _ e) (p.al x ds e).1 (k s.toks)
  | a x j q r =>
    have e : (if isObj x S.loc then ownOf (look j S.ob) else none) = some ds := e
    cases ho : isObj x S.loc with
    | false => rw [ho] at e; cases e
    | true =>
      rw [ho] at e
      have e := ownOf_s (show ownOf (look j S.ob) = some ds from e)
      have hx : look x S.loc = some .obj := by
        unfold isObj at ho
        split at ho
        · assumption
        · cases ho
      obtain ⟨es, n, g1, g2, ne, y, at', ow⟩ := p.od ⟨x, hx⟩
      obtain ⟨ia, v, gl, a1⟩ := at'.get j _ e
      obtain ⟨e1, y1⟩ := ow j ds e
      rw [gl] at e1
      have e2 : v = .ref (g.β j) := Option.some.inj (Option.some.inj e1)
      have ok := G_att j ia
      unfold attrOK at ok
      simp only [Bool.and_eq_true, beq_iff_eq] at ok
      refine Attribute_name (name_ok p.stt.fm.fr hE (p.nm x _ hx) (p.ob x hx) ?_)
      subst e2
      exact get_own p.stt.fm.fr GOK.X ⟨g1, rfl, rfl, g2⟩ ok.1.1.1.1.1.1 ok.1.1.1.1.1.2 ok.1.1.1.1.2 ok.1.1.1.2 gl rfl (k _)
theorem StX.mutL {l : Lc} {ds ds' : List D} {vs' : List Value} {n' : Nat} (p : StX env L m Z Y S h g) (e : getL l S = some ds) (at1 : h'.get? (adr g l) = some (lsO vs' n')) (kk : ∀ b o, b ≠ adr g l → h.get? b = some o → h'.get? b = some o) (di : DIs h Z vs' ds') (len : vs'.length ≤ big) :
    StX env L m Z Y (putL l ds' S) h' g ∧ Pres h Z Y h' Z Y ∧ OSame S g (putL l ds' S) g := by
  obtain ⟨yq, vs, n, ls⟩ := getL_own p e
  cases l with
  | v x q =>
    have e := ownOf_s (show ownOf (look x S.loc) = some ds from e)
    have lp : ∀ y, look y (putL (.v x q) ds' S).loc = if y = x then some (.own ds') else look y S.loc := fun y => look_put x y _ S.loc
    refine p.mut yq ls.at_ at1 kk di len (fun y => ?_) (fun k => .inl rfl) rfl (fun y oy ey => ?_) (fun k ok ek => absurd ek.symm (p.ic x k ⟨ds, e⟩ ok)) (fun y ny => ?_) (fun k nk => absurd rfl nk)
    · by_cases c : y = x
      · exact .inr ⟨c ▸ ⟨ds, e⟩, by rw [lp, if_pos c]⟩
      · exact .inl (by rw [lp, if_neg c])
    · have := p.ia y x oy ⟨ds, e⟩ ey
      rw [lp, if_pos this]
    · by_cases c : y = x
      · rw [c]; rfl
      · exact absurd (by rw [lp, if_neg c]) ny
  | a x j q r =>
    have e : (if isObj x S.loc then ownOf (look j S.ob) else none) = some ds := e
    cases ho : isObj x S.loc with
    | false => rw [ho] at e; cases e
    | true =>
      rw [ho] at e
      have e := ownOf_s (show ownOf (look j S.ob) = some ds from e)
      have lp : ∀ y, look y (putL (.a x j q r) ds' S).ob = if y = j then some (.own ds') else look y S.ob := fun y => look_put j y _ S.ob
      refine p.mut yq ls.at_ at1 kk di len (fun y => .inl rfl) (fun y => ?_) (put_len e) (fun y oy ey => absurd ey (p.ic y j oy ⟨ds, e⟩)) (fun y oy ey => ?_) (fun y ny => absurd rfl ny) (fun y ny => ?_)
      · by_cases c : y = j
        · exact .inr ⟨c ▸ ⟨ds, e⟩, by rw [lp, if_pos c]⟩
        · exact .inl (by rw [lp, if_neg c])
      · have := p.ib y j oy ⟨ds, e⟩ ey
        rw [lp, if_pos this]
      · by_cases c : y = j
        · rw [c]; rfl
        · exact absurd (by rw [lp, if_neg c]) ny
end
end
end Mine
end
section
set_option genInjectivity false
set_option maxRecDepth 100000
set_option backward.match.sparseCases false
namespace Mine
open PySem PySem.Calls PySem.Spec PyProof.Rows PySem.W
open AutoSeq1 (wpAny_loadPart')
section
section
variable {A : Around} {E : Value → Shared → Prop} {s : Shared} {env : Env}
theorem toL_base (T : Nat → Str) (l : Lc) (name : Str) : attributeBase (toL T l) name env (eval (toL T l) env) = eval (toL T l) env := by cases l <;> rfl
theorem setItem_at {l : Addr} {vs : List Value} {n : Nat} {k : Int} {t : Tok} {v : Value} {Q : Unit → Shared → Prop} (ho : s.heap.get? l = some (lsO vs n)) (h0 : 0 ≤ k) (hn : k < vs.length) (hfit : k < 2 ^ 63)
    (hQ : ∀ h' n', h'.get? l = some (lsO (vs.set k.toNat v) n') → Heap.SameBut l s.heap h' → Q () { s with heap := h' }) :
    wpAny (model G.prog G.w) A (setItem (.ref l) (.int k t) v) Q E s := by
  have hl : s.heap.IsList l vs.toArray := ⟨_, ho, rfl, n, rfl⟩
  unfold setItem
  try with_reducible refine wpAny_holding ?_
  first | refine wpAny_bind (wpAny_pure ?_) | skip
  refine wpAny_bind (wpAny_sequenceKey hl.typeIs (by decide) ?_)
  refine wpAny_bind (wpAny_callSpecial?_slot (name := Str.ofString "__setitem__") hl.typeIs slot_list_setitem
    (wpAny_call_entry slot_list_setitem hl.typeIs entry_list_setitem ?_ (args_list_setitem _ _ _)))
  show wpAny _ _ (Builtin.List.listSubscript? (.int k t) >>= _) _ _ s
  refine wpAny_bind (wpAny_listSubscript_int (fitsIndex_of h0 hfit) ?_)
  clear hfit
  obtain ⟨j, rfl⟩ := Int.eq_ofNat_of_zero_le h0
  have hj : j < vs.length := by lia
  have hx' : vs.toArray[j]? = some vs[j] := by simp [hj]
  show wpAny _ _ ((seqItemAt l j >>= fun r => pure (r.map (j, ·))) >>= _) _ _ s
  refine wpAny_bind (wpAny_bind (wpAny_seqItemAt ho rfl (wpAny_pure ?_)))
  rw [hx']
  show wpAny _ _ (setSeqItemAt l j v >>= _) _ _ s
  have hfin := IsL.update (h := s.heap) (l := l) (items := vs.toArray) (n := n) ho (·.setIfInBounds j v)
  refine wpAny_bind (wpAny_setSeqItemAt ho rfl ?_)
  have hfin' : (s.heap.update l (Obj.mapSeq (·.setIfInBounds j v))).get? l = some (lsO (vs.set j v) (if (vs.toArray.setIfInBounds j v).size == vs.toArray.size then n else n + 1)) := by
    have e : vs.toArray.setIfInBounds j v = (vs.set j v).toArray := by simp
    exact hfin.trans (by rw [e])
  first
    | exact wpAny_bind (wpAny_pure (wpAny_pure ⟨.none, rfl, wpAny_pure (hQ _ _ hfin' (Heap.SameBut.update ..))⟩))
    | exact wpAny_pure ⟨.none, rfl, wpAny_pure (hQ _ _ hfin' (Heap.SameBut.update ..))⟩
theorem pop_at {l : Addr} {vs : List Value} {n j : Nat} {k : Int} {t : Tok} {y : Value} {Q : Value → Shared → Prop} (ho : s.heap.get? l = some (lsO vs n)) (hk : seqIndex? k vs.toArray.size = some j) (hfit : Builtin.List.listFitsIndex k = true) (hy : vs.toArray[j]? = some y) (len : vs.length ≤ big)
    (hQ : ∀ h' n', h'.get? l = some (lsO (vs.eraseIdx j) n') → Heap.SameBut l s.heap h' → Q y { s with heap := h' }) :
    wpAny (model G.prog G.w) A (call (.builtin "list.pop") [.ref l, .int k t]) Q E s := by
  have hM := MeetsSeq.list_pop_at l vs.toArray n k t j y hfit hk hy (Nat.le_trans len big_size)
  have fin := IsL.update (h := s.heap) (l := l) (items := vs.toArray) (n := n) ho (·.eraseIdxIfInBounds j)
  have e : vs.toArray.eraseIdxIfInBounds j = (vs.eraseIdx j).toArray := by simp
  have fin' : (s.heap.update l (Obj.mapSeq fun xs => xs.eraseIdxIfInBounds j)).get? l = some (lsO (vs.eraseIdx j) (if (vs.toArray.eraseIdxIfInBounds j).size == vs.toArray.size then n else n + 1)) := fin.trans (by rw [e])
  exact call_meets F.slot_list_pop ⟨_, ho, rfl⟩ F.entry_list_pop (F.args_list_pop_2 _ _) hM ⟨ho, hQ _ _ fin' (Heap.SameBut.update ..)⟩
end
section
variable {env : Env} {A : Around} {L : Addr} {S : PS}
theorem notInteractive (hE : EnvOK env) : interactive env = false := by
  unfold interactive; rw [hE.kind]; rfl
theorem tx_app [GOK] {l : Lc} {e : Expr} {ds : List D} {d : D} {p c a : Pos} (hE : EnvOK env) (ok : okE e = true) (hp : a.endLine = c.line) (el : getL l S = some ds) (h : TE env A L S e d) (hlen : ds.length < big) :
    TX env A L S (.Expr (.Call (.Attribute (toL G.T l) "append" a) [e] [] c) p) .next (putL l (ds ++ [d]) S) := fun m Z Y g s Q E st k => by
  have hes : ∀ e' ∈ [e], okE e' = true := fun e' he => by rw [List.mem_singleton.mp he]; exact ok
  refine wpAny_Expr (MethodCall_ (lc_eval hE st el fun tk => ?_) (methCall_gen (toL_base _ l _) hes (show 1 < 30 by decide) hp)) (notInteractive hE) rfl
  obtain ⟨_, vs0, n0, ls0⟩ := getL_own st el
  refine getMethod_list_append (s := { s with toks := tk }) ls0.at_ rfl rfl ?_
  rw [args_trees hes]
  refine callWith_builtin (any_args [e]) (evalArgs_plain (spliced_cons (h m Z { s with toks := tk } _ E st.stt fun v h' tk' F kp i => spliced_nil ?_)))
  have st' := st.keep F kp
  obtain ⟨_, vs, n, ls⟩ := getL_own st' el
  refine append_at (s := { s with heap := h', toks := tk' }) ls.at_ (fun h'' hs hD => ?_) (by show vs.length ≤ sizeLine; exact Nat.le_trans ls.len big_size)
  have hD' : h''.get? (adr g l) = some (lsO (vs ++ [v]) (n + 1)) := by rw [hD]; simp only [List.push_toArray]
  have len : (vs ++ [v]).length ≤ big := by
    have := ls.its.length
    rw [List.length_append, List.length_singleton]; lia
  obtain ⟨x1, x2, x3⟩ := st'.mutL el hD' (fun b o nb e => hs.extBut b o nb e) (ls.its.append (DIs.one i)) len
  exact k m Z Y g h'' tk' .next x1 ((Pres.ofKp st kp).trans x2) x3 rfl
theorem placeOf_s {n k : Nat} {j : D} (e : placeOf n j = some k) : j = .int (k : Int) ∧ k < n := by
  refine bnd e fun i ei e => ?_
  refine gdd e fun c e => ?_
  have c := Bool.and_eq_true_iff.mp c
  have c1 := of_decide_eq_true c.1
  have c2 := of_decide_eq_true c.2
  rw [asInt_s ei]
  subst e
  exact ⟨by rw [Int.toNat_of_nonneg c1], c2⟩
theorem tx_setI [GOK] {l : Lc} {i e : Expr} {ds : List D} {d j : D} {kk : Nat} {p t : Pos} (hE : EnvOK env) (sw : swapsWith e (some (.Subscript (toL G.T l) i t)) p.line env = pure false) (h : TE env A L S e d) (el : getL l S = some ds) (hi : TE env A L S i j) (ej : placeOf ds.length j = some kk) :
    TX env A L S (.Assign [.Subscript (toL G.T l) i t] e p) .next (putL l (ds.set kk d) S) := fun m Z Y g s Q E st k => by
  obtain ⟨rfl, hk⟩ := placeOf_s ej
  refine wpAny_Assign_Subscript (h m Z s _ E st.stt fun v h1 tk1 F1 kp1 dv => ?_) sw
  have st1 := st.keep F1 kp1
  refine lc_eval (s := { s with heap := h1, toks := tk1 }) hE st1 el fun tk2 => ?_
  refine hi m Z { s with heap := h1, toks := tk2 } _ E st1.stt fun vi h3 tk3 F3 kp3 di => ?_
  have st3 := st1.keep F3 kp3
  obtain ⟨_, vs, n, ls⟩ := getL_own st3 el
  obtain ⟨t', rfl⟩ := di.int'
  have lv := ls.its.length
  refine setItem_at (s := { s with heap := h3, toks := tk3 }) ls.at_ (Int.natCast_nonneg _) (by lia) (by have := ls.len; unfold big at this; lia) fun h4 n4 hD hs => ?_
  rw [Int.toNat_natCast] at hD
  obtain ⟨x1, x2, x3⟩ := st3.mutL el hD (fun b o nb e => hs.extBut b o nb e) (ls.its.set (dv.mv (kp3.mv st.stt.fm.zL)) kk) (by rw [List.length_set]; exact ls.len)
  exact k m Z Y g h4 tk3 .next x1 (((Pres.ofKp st kp1).trans (Pres.ofKp st1 kp3)).trans x2) x3 rfl
end
end
end Mine
end
section
set_option genInjectivity false
set_option maxRecDepth 100000
set_option backward.match.sparseCases false
namespace Mine
open PySem PySem.Calls PySem.Spec PyProof.Rows PySem.W
section
section
variable {A : Around} {E : Value → Shared → Prop} {s : Shared}
theorem iadd_lists {l b : Addr} {vs ws : List Value} {n n2 : Nat} {Q : Value → Shared → Prop} (ho : s.heap.get? l = some (lsO vs n)) (hb : s.heap.get? b = some (lsO ws n2)) (len : vs.length + ws.length ≤ big)
    (hQ : ∀ h' n', h'.get? l = some (lsO (vs ++ ws) n') → Heap.SameBut l s.heap h' → Q (.ref l) { s with heap := h' }) :
    wpAny (model G.prog G.w) A (inplaceOp .Add (.ref l) (.ref b)) Q E s := by
  have lk : typeLookup (.type "list") (dunderI "add") = pure (some (.builtin "list.__iadd__")) := F.slot_list_iadd.lookup
  have sq : isSeqSlot (some (.builtin "list.__iadd__")) = true := by decide +kernel
  have ha : s.TypeIs (.ref l) "list" := ⟨_, ho, rfl⟩
  have hb' : s.TypeIs (.ref b) "list" := ⟨_, hb, rfl⟩
  unfold inplaceOp
  refine wpAny_holding ?_
  have hfi : fillsInplaceSlot (.type "list") "add" (Operator.Add == .Add) = pure false := by
    unfold fillsInplaceSlot
    show (typeLookup (.type "list") (dunderI "add") >>= fun fi => pure (fi.isSome && !isSeqSlot fi)) = pure false
    rw [lk]
    show (pure ((some (Value.builtin "list.__iadd__")).isSome && !isSeqSlot (some (.builtin "list.__iadd__"))) : Sem Bool) = pure false
    rw [sq]; rfl
  have hsi : seqSlot? (.type "list") (dunderI "add") = pure (some (.builtin "list.__iadd__")) := PySem.seqSlot_of lk sq
  refine wpAny_bind (wpAny_typeOf ha (wpAny_bind (wpAny_of_eq hfi ?_)))
  show wpAny _ A (if false = true then _ else _) Q E s
  rw [if_neg Bool.false_ne_true]
  refine wpAny_bind (binaryOp1_none (nm := "add") ha hb' noFill_list_add ?_)
  refine wpAny_bind (wpAny_of_eq hsi ?_)
  refine wpAny_bind (wpAny_rule ?_)
  have big' : vs.toArray.size + ws.toArray.size ≤ sizeLine := Nat.le_trans len big_size
  have hM := AutoSeq1.list___iadd___list_list_0 l vs.toArray n b ws.toArray n2 (by
    intro h
    have h2 := (Bool.and_eq_true_iff.mp h).2
    unfold Builtin.List.listTooLong at h2
    have h3 := of_decide_eq_true h2
    have e1 : vs.toArray.size = vs.length := rfl
    have e2 : ws.toArray.size = ws.length := rfl
    rw [e1, e2] at h3
    unfold big at len
    lia) (Nat.le_trans (Nat.le_add_right _ _) big') (Nat.le_succ_of_le big')
  have fin := IsL.update (h := s.heap) (l := l) (items := vs.toArray) (n := n) ho (· ++ ws.toArray)
  have e : vs.toArray ++ ws.toArray = (vs ++ ws).toArray := by simp
  have fin' : (s.heap.update l (Obj.mapSeq fun x => x ++ ws.toArray)).get? l = some (lsO (vs ++ ws) (if (vs.toArray ++ ws.toArray).size == vs.toArray.size then n else n + 1)) := fin.trans (by rw [e])
  exact call_meets F.slot_list_iadd ha F.entry_list_iadd (F.args_list_iadd_2 _ _) hM ⟨ho, hb, hQ _ _ fin' (Heap.SameBut.update ..)⟩
end
section
variable {env : Env} {A : Around} {L : Addr} {S : PS}
theorem StX.congr {m : Str → Option Value} {Z Y : Addr → Prop} {h : Heap} {g : Lg} {S : PS} {l : Al} (p : StX env L m Z Y S h g) (e : ∀ x, look x l = look x S.loc) : StX env L m Z Y { S with loc := l } h g := by
  have hO : hasO { S with loc := l } ↔ hasO S := ⟨by rintro ⟨x, q⟩; exact ⟨x, (e x) ▸ q⟩, by rintro ⟨x, q⟩; exact ⟨x, (e x).trans q⟩⟩
  have oL : ∀ x, ownL { S with loc := l } x → ownL S x := by rintro x ⟨d, q⟩; exact ⟨d, (e x) ▸ q⟩
  exact ⟨p.stt.congr e, p.loc, p.nf, fun x av q => p.nm x av ((e x) ▸ q), p.yz, p.yL, p.yC, fun x ds q => p.al x ds ((e x) ▸ q), fun x q => p.ob x ((e x) ▸ q), fun o => p.od (hO.mp o), fun o => p.oe fun o' => o (hO.mpr o'), fun x y a b q => p.ia x y (oL x a) (oL y b) q, p.ib, fun x y a b => p.ic x y (oL x a) b⟩
theorem load_ok {x : Nat} {v : Value} {m : Str → Option Value} {s : Shared} {Q E : Value → Shared → Prop} (F : Fr G.H₀ L s.heap m) (hE : EnvOK env) (c : kV env.scope.names (G.T x) = true) (p : VarV env L m s.heap (G.T x) v) (h : Q v s) : wpAny (model G.prog G.w) A (loadName env (G.T x)) Q E s := by
  unfold kV at c
  simp only [Bool.and_eq_true, Bool.not_eq_true', Bool.or_eq_false_iff] at c
  rcases p with ⟨a, b, e⟩ | ⟨a | a, c', b, d⟩
  · subst b; exact wpAny_loadName_local hE.kind a F.ns e h
  · exact wpAny_loadName_cell hE.kind a b d h
  · exact wpAny_loadName_free hE.kind a b d h c.1.2.1
theorem tx_ext {x : Nat} {e : Expr} {ds l : List D} {p q : Pos} (hE : EnvOK env) (w : kW env.scope.names (G.T x) = true) (el : ownOf (look x S.loc) = some ds) (h : TE env A L S e (.list l)) (hlen : ds.length + l.length ≤ big) :
    TX env A L S (.AugAssign (.Name (G.T x) q) .Add e p) .next { S with loc := put x (.own (ds ++ l)) S.loc } := fun m Z Y g s Q E st k => by
  have ek := ownOf_s el
  have el' : getL (.v x q) S = some ds := el
  have w := Bool.and_eq_true_iff.mp w
  have no : isObj x S.loc = false := by unfold isObj; rw [ek]
  refine wpAny_AugAssign_Name (load_ok st.stt.fm.fr hE (st.nm x _ ek) (st.al x ds ek).1 (h m Z s _ E st.stt fun v h1 tk1 F1 kp1 dv => ?_))
  have st1 := st.keep F1 kp1
  obtain ⟨yq, vs, n, ls⟩ := getL_own st1 el'
  cases dv with | @list b ws n2 _ gb nz lenb itsb =>
  have la := ls.its.length
  have lb := itsb.length
  refine iadd_lists (s := { s with heap := h1, toks := tk1 }) ls.at_ gb (by lia) fun h2 n2' hD hs => ?_
  obtain ⟨x1, x2, x3⟩ := st1.mutL el' hD (fun b o nb e => hs.extBut b o nb e) (ls.its.append itsb) (by rw [List.length_append]; lia)
  have no2 : isObj x (putL (.v x q) (ds ++ l) S).loc = false := by
    unfold isObj
    show (match look x (put x (.own (ds ++ l)) S.loc) with | some .obj => true | _ => false) = false
    rw [look_put, if_pos rfl]
  have own2 : look x (putL (.v x q) (ds ++ l) S).loc = some (.own (ds ++ l)) := by
    show look x (put x (.own (ds ++ l)) S.loc) = _
    rw [look_put, if_pos rfl]
  obtain ⟨_, vs2, n3, ls2⟩ := getL_own (l := .v x q) (ds := ds ++ l) x1 (by show ownOf (look x (putL (.v x q) (ds ++ l) S).loc) = _; rw [own2]; rfl)
  refine stx_store (s := { s with heap := h2, toks := tk1 }) (av := .own (ds ++ l)) hE x1 w.1 w.2 no2 ⟨⟨_, vs2, n3, ls2⟩, fun _ _ => ⟨g.α x, rfl, yq, fun y ny oy e => ny (x1.ia y x oy ⟨_, own2⟩ e), fun j oj e => x1.ic x j ⟨_, own2⟩ oj e.symm⟩⟩ fun m' h3 tk3 g' st3 kt e1 e2 _ _ _ => ?_
  have lk : ∀ y, look y (put x (.own (ds ++ l)) S.loc) = look y (put x (.own (ds ++ l)) (put x (.own (ds ++ l)) S.loc)) := fun y => by
    rw [look_put, look_put, look_put]
    by_cases c : y = x
    · rw [if_pos c, if_pos c]
    · rw [if_neg c, if_neg c]
  have fin : StX env L m' Z Y { S with loc := put x (.own (ds ++ l)) S.loc } h3 g' := st3.congr lk
  exact k m' Z Y g' h3 tk3 .next fin (((Pres.ofKp st kp1).trans x2).trans (Pres.ofKt x1 kt)) ((OSame.put no rfl rfl).trans fun o => ⟨o, e1, e2⟩) rfl
theorem tx_pop [GOK] {y x : Nat} {i : Expr} {ds : List D} {d j : D} {kk : Nat} {l : Al} {p q c a r : Pos} (hE : EnvOK env) (w : kW env.scope.names (G.T y) = true) (ok : okE i = true) (hp : a.endLine = c.line) (el : ownOf (look x S.loc) = some ds) (hi : TE env A L S i j) (ej : placeOf ds.length j = some kk) (ed : ds[kk]? = some d)
    (ep : putO y (.fz d) (put x (.own (ds.eraseIdx kk)) S.loc) = some l) :
    TX env A L S (.Assign [.Name (G.T y) q] (.Call (.Attribute (.Name (G.T x) r) "pop" a) [i] [] c) p) .next { S with loc := l } := fun m Z Y g s Q E st k => by
  obtain ⟨rfl, hk⟩ := placeOf_s ej
  refine gdd ep fun no e₀ => ?_
  cases e₀
  have no : isObj y (put x (.own (ds.eraseIdx kk)) S.loc) = false := by simpa using no
  have w := Bool.and_eq_true_iff.mp w
  have el' : getL (.v x r) S = some ds := el
  have ek := ownOf_s el
  have nox : isObj x S.loc = false := by unfold isObj; rw [ek]
  have hes : ∀ e' ∈ [i], okE e' = true := fun e' he => by rw [List.mem_singleton.mp he]; exact ok
  refine wpAny_Assign_Name (MethodCall_ (lc_eval (l := .v x r) hE st el' fun tk => ?_) (methCall_gen rfl hes (show 1 < 30 by decide) hp)) rfl
  obtain ⟨_, vs0, n0, ls0⟩ := getL_own st el'
  refine getMethod_list_of (s := { s with toks := tk }) F.slot_list_pop rfl ls0.is ⟨_, ls0.at_, rfl⟩ ?_
  rw [args_trees hes]
  refine callWith_builtin (any_args [i]) (evalArgs_plain (spliced_cons (hi m Z { s with toks := tk } _ E st.stt fun v h1 tk1 F1 kp1 dv => spliced_nil ?_)))
  have st1 := st.keep F1 kp1
  obtain ⟨yq, vs, n, ls⟩ := getL_own st1 el'
  obtain ⟨t', rfl⟩ := dv.int'
  have lv := ls.its.length
  obtain ⟨yv, hy, dy⟩ := ls.its.get ed
  have hlen := ls.len
  refine pop_at (s := { s with heap := h1, toks := tk1 }) (j := kk) ls.at_ ?_ (fitsIndex_of (Int.natCast_nonneg _) (by unfold big at hlen; lia)) (by simpa using hy) ls.len fun h2 n2 hD hs => ?_
  · rw [seqIndex_of (Int.natCast_nonneg _) (by show (kk : Int) < (vs.length : Int); lia), Int.toNat_natCast]
  obtain ⟨x1, x2, x3⟩ := st1.mutL el' hD (fun b o nb e => hs.extBut b o nb e) (ls.its.eraseIdx kk) (Nat.le_trans (List.length_eraseIdx_le _ _) ls.len)
  have zq := st1.yz _ yq
  refine stx_store (s := { s with heap := h2, toks := tk1 }) (av := .fz d) hE x1 w.1 w.2 no (Plc.dat (dy.mv fun b o nz e => ⟨hs.extBut b o (fun c => nz (c ▸ zq)) e, nz⟩)) fun m' h3 tk3 g' st3 kt e1 e2 _ _ _ => ?_
  exact k m' Z Y g' h3 tk3 .next st3 (((Pres.ofKp st kp1).trans x2).trans (Pres.ofKt x1 kt)) ((OSame.put nox rfl rfl).trans (OSame.put no e1 e2)) rfl
theorem tx_aug {x : Nat} {o : Op} {e : Expr} {d d' r : D} {i j : Int} {p q : Pos} (hE : EnvOK env) (w : kW env.scope.names (G.T x) = true) (ho : o = .add ∨ o = .sub) (el : fzOf (look x S.loc) = some d) (h : TE env A L S e d') (ei : asInt d = some i) (ej : asInt d' = some j) (er : doBin o (.int i) (.int j) = some r) :
    TX env A L S (.AugAssign (.Name (G.T x) q) (opOf o) e p) .next { S with loc := put x (.fz r) S.loc } := fun m Z Y g s Q E st k => by
  have ek := fzOf_s el
  have w := Bool.and_eq_true_iff.mp w
  have no : isObj x S.loc = false := by unfold isObj; rw [ek]
  obtain ⟨v0, vv, a0⟩ := st.stt.rd x _ ek (st.nm x _ ek)
  have a0 : DI s.heap Z v0 d := a0
  rw [asInt_s ei] at a0
  obtain ⟨t0, rfl⟩ := a0.int'
  refine wpAny_AugAssign_Name (load_ok st.stt.fm.fr hE (st.nm x _ ek) vv (h m Z s _ E st.stt fun v h1 tk1 F1 kp1 dv => ?_))
  have st1 := st.keep F1 kp1
  rw [asInt_s ej] at dv
  obtain ⟨t1, rfl⟩ := dv.int'
  have fin : ∀ {n : Int} {tt : Tok} {tk2 : Nat}, r = .int n → wpAny (model G.prog G.w) A (storeName env (G.T x) (.int n tt)) (fun _ => Q .next) E { s with heap := h1, toks := tk2 } := fun {n tt tk2} er => by
    subst er
    exact stx_store (s := { s with heap := h1, toks := tk2 }) (av := .fz (.int n)) hE st1 w.1 w.2 no (Plc.dat (.int n tt)) fun m' h3 tk3 g' st3 kt e1 e2 _ _ _ =>
      k m' Z Y g' h3 tk3 .next st3 ((Pres.ofKp st kp1).trans (Pres.ofKt st1 kt)) (OSame.put no e1 e2) rfl
  rcases ho with rfl | rfl
  · exact PySem.wpAny_iadd_int (s := { s with heap := h1, toks := tk1 }) (fin (Option.some.inj er).symm)
  · exact isub_int (s := { s with heap := h1, toks := tk1 }) (fin (Option.some.inj er).symm)
end
end
section
noncomputable def KStr (es : List DictEntry) : Prop := ∀ e ∈ es, ∃ x t, e.key = .str x t
theorem noRef {es : List DictEntry} (ks : KStr es) : es.any (·.refKey) = false := by
  rw [List.any_eq_false]
  intro e he
  obtain ⟨x, t, q⟩ := ks e he
  unfold DictEntry.refKey
  rw [q]
  exact Bool.false_ne_true
theorem getL_eq {es : List DictEntry} (ks : KStr es) (y : Str) : W.getL y es = some ((es.find? (·.key.isStr y)).map (·.val)) := by
  unfold W.getL
  rw [noRef ks]
  cases es.find? (·.key.isStr y) <;> rfl
theorem putL_keys {name : Str} {hsh : Int} {tk : Tok} {v : Value} : ∀ {es : List DictEntry}, KStr es → KStr (W.putL name hsh (.str name tk) v es) := by
  intro l0
  induction l0 with
  | nil =>
    intro _ e he
    have he : e ∈ [DictEntry.mk hsh (.str name tk) v] := he
    rw [List.mem_singleton.mp he]; exact ⟨_, _, rfl⟩
  | cons d r ih =>
    intro ks e he
    have he : e ∈ (if d.key.isStr name then (⟨d.hash, d.key, v⟩ : DictEntry) :: r else d :: W.putL name hsh (.str name tk) v r) := he
    split at he
    · rcases List.mem_cons.mp he with rfl | he
      · exact ks d (.head _)
      · exact ks e (.tail _ he)
    · rcases List.mem_cons.mp he with rfl | he
      · exact ks _ (.head _)
      · exact ih (fun x hx => ks x (.tail _ hx)) e he
theorem find_putL {name y : Str} {hsh : Int} {tk : Tok} {v : Value} : ∀ {es : List DictEntry}, KStr es → ((W.putL name hsh (.str name tk) v es).find? (·.key.isStr y)).map (·.val) = if y = name then some v else (es.find? (·.key.isStr y)).map (·.val) := by
  intro es
  induction es with
  | nil =>
    intro _
    show (List.find? (·.key.isStr y) [DictEntry.mk hsh (.str name tk) v]).map (·.val) = _
    rw [List.find?_cons]
    show Option.map _ (match (name == y) with | true => _ | false => _) = _
    by_cases c : y = name
    · subst c; rw [beq_self_eq_true, if_pos rfl]; rfl
    · rw [beq_eq_false_iff_ne.mpr (Ne.symm c), if_neg c]
  | cons d r ih =>
    intro ks
    obtain ⟨x, t, q⟩ := ks d (.head _)
    have ih := ih fun x hx => ks x (.tail _ hx)
    have dk : ∀ z, d.key.isStr z = (x == z) := fun z => by rw [q]; rfl
    show ((if d.key.isStr name then (⟨d.hash, d.key, v⟩ : DictEntry) :: r else d :: W.putL name hsh (.str name tk) v r).find? (·.key.isStr y)).map (·.val) = _
    by_cases c : x = name
    · subst c
      rw [if_pos (by rw [dk, beq_self_eq_true]), List.find?_cons, List.find?_cons]
      show Option.map _ (match d.key.isStr y with | true => _ | false => _) = if _ then _ else Option.map _ (match d.key.isStr y with | true => _ | false => _)
      rw [dk]
      by_cases c2 : y = x
      · subst c2; rw [beq_self_eq_true, if_pos rfl]; rfl
      · rw [beq_eq_false_iff_ne.mpr (Ne.symm c2), if_neg c2]
    · rw [if_neg (by rw [dk, beq_eq_false_iff_ne.mpr c]; decide), List.find?_cons, List.find?_cons, dk]
      by_cases c2 : x = y
      · subst c2
        rw [beq_self_eq_true, if_neg c]
      · rw [beq_eq_false_iff_ne.mpr c2]
        exact ih
theorem getL_put {es : List DictEntry} {name y : Str} {hsh : Int} {tk : Tok} {v : Value} (ks : KStr es) : W.getL y (W.putL name hsh (.str name tk) v es) = if y = name then some (some v) else W.getL y es := by
  rw [getL_eq (putL_keys ks), getL_eq ks, find_putL ks]
  split <;> rfl
theorem putL_len {es : List DictEntry} {name : Str} {hsh : Int} {tk : Tok} {v : Value} (ks : KStr es) : (W.putL name hsh (.str name tk) v es).length = if W.getL name es = some none then es.length + 1 else es.length := by
  induction es with
  | nil => rfl
  | cons d r ih =>
    obtain ⟨x, t, q⟩ := ks d (.head _)
    have ks' : KStr r := fun x hx => ks x (.tail _ hx)
    have dk : ∀ z, d.key.isStr z = (x == z) := fun z => by rw [q]; rfl
    show (if d.key.isStr name then (⟨d.hash, d.key, v⟩ : DictEntry) :: r else d :: W.putL name hsh (.str name tk) v r).length = _
    rw [getL_eq ks, List.find?_cons, dk]
    by_cases c : x = name
    · subst c
      rw [beq_self_eq_true, if_pos rfl, if_neg nofun]; rfl
    · rw [beq_eq_false_iff_ne.mpr c, if_neg (by decide)]
      have := ih ks'
      rw [getL_eq ks'] at this
      rw [List.length_cons, this]
      split <;> rfl
theorem put_len' {x : Nat} {v : AV} : ∀ {l : Al}, look x l = none → (put x v l).length = l.length + 1 := by
  intro l
  induction l with
  | nil => exact fun _ => rfl
  | cons q r ih =>
    obtain ⟨y, w⟩ := q
    intro e
    have e : (if y = x then some w else look x r) = none := e
    show (if y = x then (x, v) :: r else (y, w) :: put x v r).length = _
    by_cases c : y = x
    · rw [if_pos c] at e; cases e
    · rw [if_neg c] at e ⊢
      exact congrArg (· + 1) (ih e)
section
variable {env : Env} {A : Around} {L : Addr} {S : PS} {m : Str → Option Value} {Z Y : Addr → Prop} {g : Lg}
theorem stx_setA [GOK] {a : Nat} {v : Value} {av : AV} {ob' : Al} {s : Shared} {Q : Unit → Shared → Prop} {E : Value → Shared → Prop} (p : StX env L m Z Y S s.heap g) (ho : hasO S) (ia : a ∈ G.attrs) (pl : Plc L s.heap Z Y S g (fun _ => False) v av) (eo : putA a av S.ob = some ob')
    (k : ∀ h' tk g', StX env L m Z Y { S with ob := ob' } h' g' → (∀ b o, b ≠ L → b ≠ g.dx → s.heap.get? b = some o → h'.get? b = some o) → g'.o = g.o → g'.dx = g.dx → g'.α = g.α → (∀ j, j ≠ a → g'.β j = g.β j) → (∀ q, v = .ref q → g'.β a = q) → Q () { s with heap := h', toks := tk }) :
    wpAny (model G.prog G.w) A (setAttr (.ref g.o) (G.T a) v) Q E s := by
  refine gdd eo fun hlen e₀ => ?_
  cases e₀
  have hlen := of_decide_eq_true hlen
  obtain ⟨es, n, g1, g2, ne, y, at', ow⟩ := p.od ho
  have ks : KStr es := at'.keys
  have ok := G_att a ia
  unfold attrOK at ok
  simp only [Bool.and_eq_true, beq_iff_eq] at ok
  have zdx := p.yz _ y.2
  let rest := (allOf G.H₀ L s.heap).filter fun q => decide (q.1 ≠ g.dx)
  have N : News G.H₀ L s.heap ((g.dx, dictOf es n) :: rest) := fun q hq => by
    rcases List.mem_cons.mp hq with rfl | hq
    · exact ⟨g2, ne, p.stt.fm.zH _ zdx⟩
    · exact allOf_news _ _ _ q (List.mem_filter.mp hq).1
  have U : Upd g.dx (dictOf es n) (dictOf (W.putL (G.T a) (PyData.keyHash G.w.params (G.T a)) (.str (G.T a) (s.toks + 1)) v es) (putN (G.T a) es n)) ((g.dx, dictOf es n) :: rest) ((g.dx, dictOf (W.putL (G.T a) (PyData.keyHash G.w.params (G.T a)) (.str (G.T a) (s.toks + 1)) v es) (putN (G.T a) es n)) :: rest) :=
    .head fun q hq => of_decide_eq_true (List.mem_filter.mp hq).2
  refine set_dict p.stt.fm.fr GOK.X N ⟨g1, rfl, rfl, g2⟩ rfl ok.2 ok.1.1.2 ok.1.2 ok.1.1.1.1.1.2 (by rw [getL_eq ks]; rfl) rfl U ?_ fun h' F' N' => ?_
  · rw [putL_len ks, at'.len]; split <;> lia
  have kk : ∀ b o, b ≠ L → b ≠ g.dx → s.heap.get? b = some o → h'.get? b = some o := fun b o nb nd e => by
    cases z : G.H₀.get? b with
    | some o' =>
      have := p.stt.fm.fr.keep _ _ z
      rw [e] at this; cases Option.some.inj this
      exact F'.keep _ _ z
    | none => exact (N' (b, o) (List.mem_cons_of_mem _ (List.mem_filter.mpr ⟨allOf_mem.mpr ⟨e, nb, z⟩, decide_eq_true nd⟩))).1
  have gd' := (N' _ (.head _)).1
  generalize hes' : W.putL (G.T a) (PyData.keyHash G.w.params (G.T a)) (.str (G.T a) (s.toks + 1)) v es = es' at gd'
  have mv : Mv s.heap Z h' Z := fun b o nz e => ⟨kk b o (fun c => nz (c ▸ p.stt.fm.zL)) (fun c => nz (c ▸ zdx)) e, nz⟩
  have gl : ∀ y, W.getL y es' = if y = G.T a then some (some v) else W.getL y es := fun y => by rw [← hes']; exact getL_put ks
  have lsq : ∀ {q : Addr} {vs : List Value} {n : Nat}, s.heap.get? q = some (lsO vs n) → h'.get? q = some (lsO vs n) := fun {q vs n'} e => kk _ _ (fun c => Fr.notSeq p.stt.fm.fr (c ▸ e) rfl) (fun c => by
    rw [c, g2] at e
    have := congrArg (fun o => o.map (·.data)) e
    cases this) e
  have av1 : ∀ {w : Value} {u : AV}, AV1 s.heap Z w u → AV1 h' Z w u := fun {w u} i => by
    cases u with
    | fz d => exact DI.mv mv i
    | obj => exact i
    | own ds => obtain ⟨q, vs, n, l⟩ := i; exact ⟨q, vs, n, l.ref, lsq l.at_, l.len, l.its.mv mv⟩
  have cl : ∀ {c : Addr} {w : Option Value}, s.heap.IsCell c w → h'.IsCell c w := fun {c w} i => by
    have := Fr.ncell p.stt.fm.fr i
    obtain ⟨o, e, q⟩ := i
    refine ⟨o, kk _ _ this (fun c => ?_) e, q⟩
    rw [c, g2] at e; cases e; cases q
  have vv : ∀ x w, VarV env L m s.heap x w → VarV env L m h' x w := fun x w i => by
    rcases i with i | ⟨i, c, e, j⟩
    · exact .inl i
    · exact .inr ⟨i, c, e, cl j⟩
  have lp : ∀ j, look j (put a av S.ob) = if j = a then some av else look j S.ob := fun j => look_put a j av S.ob
  have noO : av ≠ .obj := fun e => by have := pl.it; rw [e] at this; exact this
  let g' : Lg := { g with β := fun j => if j = a then refOr v (g.β a) else g.β j }
  have gx : ∀ q, v = .ref q → g'.β a = q := fun q e => by
    show (if a = a then refOr v (g.β a) else g.β a) = q
    rw [if_pos rfl, e]; rfl
  have gb : ∀ j, j ≠ a → g'.β j = g.β j := fun j nj => if_neg nj
  have n1 : g.o ≠ g.dx := fun c => by rw [c, g2] at g1; cases g1
  have at'' : AttI h' Z es' (put a av S.ob) := by
    refine ⟨?_, ?_, fun j u e => ?_, fun y hy => ?_⟩
    · rw [← hes', putL_len ks]
      cases e : look a S.ob with
      | none =>
        rw [put_len' e, if_pos (at'.non _ fun j u q c => ?_), at'.len]
        rw [G_inj _ _ c, e] at q; cases q
      | some u =>
        obtain ⟨_, w, q, _⟩ := at'.get a u e
        rw [put_len e, if_neg (by rw [q]; nofun), at'.len]
    · rw [← hes']; exact putL_keys ks
    · rw [lp] at e
      by_cases c : j = a
      · subst c
        rw [if_pos rfl] at e; cases Option.some.inj e
        exact ⟨ia, v, by rw [gl, if_pos rfl], av1 pl.it⟩
      · rw [if_neg c] at e
        obtain ⟨i, w, q, r⟩ := at'.get j u e
        exact ⟨i, w, by rw [gl, if_neg fun z => c (G_inj _ _ z)]; exact q, av1 r⟩
    · have : y ≠ G.T a := fun c => hy a av (by rw [lp, if_pos rfl]) c.symm
      rw [gl, if_neg this]
      exact at'.non y fun j u e c => by
        by_cases cj : j = a
        · exact this (cj ▸ c.symm)
        · exact hy j u (by rw [lp, if_neg cj]; exact e) c
  have oA : ∀ j, j ≠ a → ownA { S with ob := put a av S.ob } j → ownA S j := by rintro j nj ⟨ds, e⟩; exact ⟨ds, by
    have e : look j (put a av S.ob) = some (.own ds) := e
    rw [lp, if_neg nj] at e; exact e⟩
  have nA : ownA { S with ob := put a av S.ob } a → ∃ q, v = .ref q ∧ Y q ∧ (∀ x, ownL S x → g.α x ≠ q) ∧ (∀ k, ownA S k → g.β k ≠ q) := by
    rintro ⟨ds, e⟩
    have e : look a (put a av S.ob) = some (.own ds) := e
    rw [lp, if_pos rfl] at e
    obtain ⟨q, e1, e2, e3, e4⟩ := pl.free ds (Option.some.inj e)
    exact ⟨q, e1, e2, fun x => e3 x id, e4⟩
  have od' : ∃ es n, h'.get? g.o = some (instObj G.C g.dx) ∧ h'.get? g.dx = some (dictOf es n) ∧ g.dx ≠ L ∧ (Y g.o ∧ Y g.dx) ∧ AttI h' Z es (put a av S.ob) ∧ ∀ k ds, look k (put a av S.ob) = some (.own ds) → W.getL (G.T k) es = some (some (.ref (g'.β k))) ∧ Y (g'.β k) := by
    refine ⟨es', _, kk _ _ (Fr.nplain p.stt.fm.fr g1) n1 g1, gd', ne, y, at'', fun j ds e => ?_⟩
    by_cases c : j = a
    · subst c
      obtain ⟨q, e1, e2, _⟩ := nA ⟨ds, e⟩
      rw [gx q e1, gl, if_pos rfl, e1]
      exact ⟨rfl, e2⟩
    · rw [lp, if_neg c] at e
      rw [gb j c, gl, if_neg fun z => c (G_inj _ _ z)]
      exact ow j ds e
  refine k h' _ g' ⟨⟨⟨F', p.stt.fm.zL, fun z hz => ?_, p.stt.fm.zH⟩, fun x u e c => ?_, fun x hx => ?_, p.stt.dis⟩, p.loc, p.nf, p.nm, p.yz, p.yL, p.yC, fun x ds e => ⟨vv _ _ (p.al x ds e).1, (p.al x ds e).2⟩, fun x e => vv _ _ (p.ob x e), fun _ => od', fun no => absurd ho no, p.ia, fun i j oi oj e => ?_, fun x j ox oj => ?_⟩ kk rfl rfl rfl gb gx
  · by_cases c1 : z = L
    · obtain ⟨o, _, _, g, _⟩ := F'.ns; exact ⟨o, c1 ▸ g⟩
    · by_cases c2 : z = g.dx
      · exact ⟨_, c2 ▸ gd'⟩
      · obtain ⟨o, e⟩ := p.stt.fm.za z hz; exact ⟨o, kk _ _ c1 c2 e⟩
  · obtain ⟨w, i, j⟩ := p.stt.rd x u e c
    refine ⟨w, vv _ _ i, ?_⟩
    cases u with
    | fz d => exact DI.mv mv j
    | own ds => obtain ⟨q, vs, n, l⟩ := j; exact ⟨q, vs, n, l.ref, lsq l.at_, l.len, l.its.mv mv⟩
    | obj =>
      have e2 := i.uniq (p.ob x e)
      obtain ⟨es, n, g1, g2, ne, y, at', ow⟩ := od'
      exact ⟨g.o, e2, g.dx, es, n, g1, g2, ne, at'⟩
  · obtain ⟨c, w, e, i, z⟩ := p.stt.cel x hx
    exact ⟨c, w, e, cl i, z⟩
  · by_cases ci : i = a <;> by_cases cj : j = a
    · rw [ci, cj]
    · subst ci
      obtain ⟨q, e1, _, _, f⟩ := nA oi
      rw [gx q e1, gb j cj] at e
      exact absurd e.symm (f j (oA j cj oj))
    · subst cj
      obtain ⟨q, e1, _, _, f⟩ := nA oj
      rw [gx q e1, gb i ci] at e
      exact absurd e (f i (oA i ci oi))
    · rw [gb i ci, gb j cj] at e
      exact p.ib i j (oA i ci oi) (oA j cj oj) e
  · by_cases cj : j = a
    · subst cj
      obtain ⟨q, e1, _, f, _⟩ := nA oj
      show g.α x ≠ g'.β j
      rw [gx q e1]
      exact f x ox
    · show g.α x ≠ g'.β j
      rw [gb j cj]
      exact p.ic x j ox (oA j cj oj)
theorem Pres.ofA {h h' : Heap} (p : StX env L m Z Y S h g) (ho : hasO S) (kk : ∀ b o, b ≠ L → b ≠ g.dx → h.get? b = some o → h'.get? b = some o) : Pres h Z Y h' Z Y := by
  obtain ⟨es, n, g1, g2, ne, y, at', ow⟩ := p.od ho
  exact ⟨fun b o n e => kk b o (fun c => n (c ▸ p.yL)) (fun c => n (c ▸ y.2)) e, fun _ y => .inl y, fun _ _ _ _ => Iff.rfl⟩
end
end
section
section
variable {env : Env} {A : Around} {L : Addr} {S : PS} {m : Str → Option Value} {Z Y : Addr → Prop} {g : Lg}
theorem isObj_s {x : Nat} {l : Al} (h : isObj x l = true) : look x l = some .obj := by
  unfold isObj at h
  split at h
  · assumption
  · cases h
theorem assign_att {x a : Nat} {t q : Pos} {v : Value} {s : Shared} {Q : Unit → Shared → Prop} {E : Value → Shared → Prop} (hE : EnvOK env) (p : StX env L m Z Y S s.heap g) (hx : isObj x S.loc = true) (h : wpAny (model G.prog G.w) A (setAttr (.ref g.o) (G.T a) v) Q E s) :
    wpAny (model G.prog G.w) A (assign (.Attribute (.Name (G.T x) q) (G.T a) t) env v) Q E s := by
  rw [arm_assign_Attribute]
  have hx := isObj_s hx
  exact wpAny_bind (wpAny_holding (name_ok p.stt.fm.fr hE (p.nm x _ hx) (p.ob x hx) (wpAny_bind (wpAny_standAt (wpAny_bind (wpAny_holding (wpAny_mono h (fun _ _ hq => wpAny_release hq) fun _ _ e => e)))))))
theorem tx_asgA [GOK] {x a : Nat} {e : Expr} {d : D} {ob' : Al} {p t q : Pos} (hE : EnvOK env) (ia : a ∈ G.attrs) (sw : swapsWith e (some (.Attribute (.Name (G.T x) q) (G.T a) t)) p.line env = pure false) (ho : isObj x S.loc = true) (h : TE env A L S e d) (eo : putA a (.fz d) S.ob = some ob') :
    TX env A L S (.Assign [.Attribute (.Name (G.T x) q) (G.T a) t] e p) .next { S with ob := ob' } := fun m Z Y g s Q E st k => by
  have hO : hasO S := ⟨x, isObj_s ho⟩
  refine wpAny_Assign_stores (h m Z s _ E st.stt fun v h' tk F kp i => ?_) sw rfl
  have st' := st.keep F kp
  show wpAny _ A (assign (.Attribute (.Name (G.T x) q) (G.T a) t) env v) _ _ _
  refine assign_att (s := { s with heap := h', toks := tk }) hE st' ho (stx_setA (s := { s with heap := h', toks := tk }) st' hO ia (Plc.dat i) eo fun h2 tk2 g2 st2 kk e1 e2 _ _ _ => ?_)
  exact k m Z Y g2 h2 tk2 .next st2 ((Pres.ofKp st kp).trans (Pres.ofA st' hO kk)) (fun o => ⟨o, e1, e2⟩) rfl
theorem tx_asgAO [GOK] {x a : Nat} {e : Expr} {ds : List D} {ob' : Al} {p t q : Pos} (hE : EnvOK env) (ia : a ∈ G.attrs) (sw : swapsWith e (some (.Attribute (.Name (G.T x) q) (G.T a) t)) p.line env = pure false) (ho : isObj x S.loc = true) (h : TF env A L S e ds) (eo : putA a (.own ds) S.ob = some ob') :
    TX env A L S (.Assign [.Attribute (.Name (G.T x) q) (G.T a) t] e p) .next { S with ob := ob' } := fun m Z Y g s Q E st k => by
  have hO : hasO S := ⟨x, isObj_s ho⟩
  refine wpAny_Assign_stores (h m Z s _ E st.stt fun q vs n h' tk F kp e ls => ?_) sw rfl
  have st' := st.addQ F kp e ⟨_, ls.at_⟩
  show wpAny _ A (assign (.Attribute (.Name (G.T x) _) (G.T a) t) env (.ref q)) _ _ _
  refine assign_att (s := { s with heap := h', toks := tk }) hE st' ho (stx_setA (s := { s with heap := h', toks := tk }) st' hO ia (Plc.new st e ls) eo fun h2 tk2 g2 st2 kk e1 e2 _ _ _ => ?_)
  exact k m _ _ g2 h2 tk2 .next st2 ((Pres.addQ st kp e).trans (Pres.ofA st' hO kk)) (fun o => ⟨o, e1, e2⟩) rfl
theorem tx_augA [GOK] {x a : Nat} {o : Op} {e : Expr} {d d' r : D} {i j : Int} {ob' : Al} {p t q : Pos} (hE : EnvOK env) (hop : o = .add ∨ o = .sub) (ho : isObj x S.loc = true) (el : fzOf (look a S.ob) = some d) (h : TE env A L S e d') (ei : asInt d = some i) (ej : asInt d' = some j) (er : doBin o (.int i) (.int j) = some r) (eo : putA a (.fz r) S.ob = some ob') :
    TX env A L S (.AugAssign (.Attribute (.Name (G.T x) q) (G.T a) t) (opOf o) e p) .next { S with ob := ob' } := fun m Z Y g s Q E st k => by
  have hx := isObj_s ho
  have hO : hasO S := ⟨x, hx⟩
  have ek := fzOf_s el
  obtain ⟨es, n, g1, g2, ne, y, at', ow⟩ := st.od hO
  obtain ⟨ia, v0, gl, a0⟩ := at'.get a _ ek
  have a0 : DI s.heap Z v0 d := a0
  rw [asInt_s ei] at a0
  obtain ⟨t0, rfl⟩ := a0.int'
  have ok := G_att a ia
  unfold attrOK at ok
  simp only [Bool.and_eq_true, beq_iff_eq] at ok
  refine wpAny_AugAssign_AttributeAny (name_ok st.stt.fm.fr hE (st.nm x _ hx) (st.ob x hx) (get_own st.stt.fm.fr GOK.X ⟨g1, rfl, rfl, g2⟩ ok.1.1.1.1.1.1 ok.1.1.1.1.1.2 ok.1.1.1.1.2 ok.1.1.1.2 gl rfl ?_))
  refine h m Z { s with toks := s.toks + 1 } _ E st.stt fun v h1 tk1 F1 kp1 dv => ?_
  have st1 := st.keep F1 kp1
  rw [asInt_s ej] at dv
  obtain ⟨t1, rfl⟩ := dv.int'
  have fin : ∀ {n : Int} {tt : Tok} {tk2 : Nat}, r = .int n → wpAny (model G.prog G.w) A (setAttr (.ref g.o) (G.T a) (.int n tt)) (fun _ => Q .next) E { s with heap := h1, toks := tk2 } := fun {n tt tk2} er => by
    subst er
    exact stx_setA (s := { s with heap := h1, toks := tk2 }) st1 hO ia (Plc.dat (.int n tt)) eo fun h3 tk3 g' st3 kk e1 e2 _ _ _ =>
      k m Z Y g' h3 tk3 .next st3 ((Pres.ofKp st kp1).trans (Pres.ofA st1 hO kk)) (fun o => ⟨o, e1, e2⟩) rfl
  rcases hop with rfl | rfl
  · exact PySem.wpAny_iadd_int (s := { s with heap := h1, toks := tk1 }) (fin (Option.some.inj er).symm)
  · exact isub_int (s := { s with heap := h1, toks := tk1 }) (fin (Option.some.inj er).symm)
noncomputable def PlcAll (L : Addr) (h : Heap) (Z Y : Addr → Prop) (S : PS) (g : Lg) : List Value → List AV → Prop
  | [], [] => True
  | v :: vs, av :: avs => Plc L h Z Y S g (fun _ => False) v av ∧ ((∃ ds, av = .own ds) → ∀ w u, (w, u) ∈ vs.zip avs → (∃ ds, u = .own ds) → w ≠ v) ∧ PlcAll L h Z Y S g vs avs
  | _, _ => False
theorem PlcAll.step {h h' : Heap} {S' : PS} {g' : Lg} {v : Value} {av : AV} (mvA : ∀ {w : Value} {u : AV}, AV1 h Z w u → AV1 h' Z w u) (nL : ∀ x, ownL S' x → (ownL S x ∧ g'.α x = g.α x) ∨ ((∃ ds, av = .own ds) ∧ v = .ref (g'.α x))) (nA : ∀ x, ownA S' x → (ownA S x ∧ g'.β x = g.β x) ∨ ((∃ ds, av = .own ds) ∧ v = .ref (g'.β x))) :
    ∀ {vs : List Value} {avs : List AV}, ((∃ ds, av = .own ds) → ∀ w u, (w, u) ∈ vs.zip avs → (∃ ds, u = .own ds) → w ≠ v) → PlcAll L h Z Y S g vs avs → PlcAll L h' Z Y S' g' vs avs := by
  intro l0
  induction l0 with
  | nil =>
    intro l1
    cases l1 with
    | nil =>
      intro _ _
      exact trivial
    | cons _ _ =>
      intro _ p
      exact p.elim
  | cons w vs ih =>
    intro l1
    cases l1 with
    | nil =>
      intro _ p
      exact p.elim
    | cons u avs =>
      rintro hd ⟨p1, p2, p3⟩
      exact (by
    refine ⟨⟨mvA p1.it, fun ds e => ?_⟩, p2, ih (fun o w' u' hm => hd o w' u' (.tail _ hm)) p3⟩
    obtain ⟨q, e1, e2, e3, e4⟩ := p1.free ds e
    refine ⟨q, e1, e2, fun x _ ox c => ?_, fun x ox c => ?_⟩
    · rcases nL x ox with ⟨o, c'⟩ | ⟨o, c'⟩
      · exact e3 x id o (c'.symm.trans c)
      · exact hd o w u (.head _) ⟨ds, e⟩ (by rw [e1, c', c])
    · rcases nA x ox with ⟨o, c'⟩ | ⟨o, c'⟩
      · exact e4 x o (c'.symm.trans c)
      · exact hd o w u (.head _) ⟨ds, e⟩ (by rw [e1, c', c]))
theorem PlcAll.fz {h : Heap} : ∀ {vs : List Value} {ds : List D}, DIs h Z vs ds → PlcAll L h Z Y S g vs (ds.map .fz) := fun x =>
  DIs.rec1 (P := fun vs ds => PlcAll L h Z Y S g vs (ds.map .fz)) trivial (fun v d vs ds i _ ih => ⟨Plc.dat i, (by rintro ⟨_, e⟩; cases e), ih⟩) _ _ x
noncomputable def wfG (T : Nat → Str) (ns : Nms) (at_ : List Nat) : Tg → Bool
  | .nm x _ => kW ns (T x)
  | .att _ a _ _ => at_.contains a
  | .tu xs _ => wfYs ns T (xs.map (·.1))
theorem noStar (ts : List Tg) : (assignEach (ts.map (toG G.T)) env).findIdx? (·.1) = none ∧ (assignEach (ts.map (toG G.T)) env).length = ts.length ∧ (assignEach (ts.map (toG G.T)) env).map (·.2) = ts.map fun t => assign (toG G.T t) env := by
  induction ts with
  | nil => exact ⟨rfl, rfl, rfl⟩
  | cons t ts ih =>
    have : assignEach (toG G.T t :: ts.map (toG G.T)) env = (false, assign (toG G.T t) env) :: assignEach (ts.map (toG G.T)) env := by cases t <;> rfl
    show (assignEach (toG G.T t :: ts.map (toG G.T)) env).findIdx? (·.1) = none ∧ (assignEach (toG G.T t :: ts.map (toG G.T)) env).length = _ ∧ (assignEach (toG G.T t :: ts.map (toG G.T)) env).map (·.2) = _
    rw [this]
    refine ⟨?_, congrArg (· + 1) ih.2.1, congrArg (_ :: ·) ih.2.2⟩
    rw [List.findIdx?_cons, if_neg (by simp), ih.1]; rfl
theorem stx_setNm {x : Nat} {v : Value} {av : AV} {q : Pos} {S' : PS} {s : Shared} {vs : List Value} {avs : List AV} {Q : Unit → Shared → Prop} {E : Value → Shared → Prop} (hE : EnvOK env) (p : StX env L m Z Y S s.heap g) (w : kW env.scope.names (G.T x) = true) (pl : PlcAll L s.heap Z Y S g (v :: vs) (av :: avs)) (e : setT (.nm x q) av S = some S')
    (k : ∀ m' h' tk g', StX env L m' Z Y S' h' g' → Pres s.heap Z Y h' Z Y → OSame S g S' g' → PlcAll L h' Z Y S' g' vs avs → Q () { s with heap := h', toks := tk }) :
    wpAny (model G.prog G.w) A (storeName env (G.T x) v) Q E s := by
  obtain ⟨p1, p2, p3⟩ := pl
  refine mpd (show (putO x av S.loc).map _ = some S' from e) fun l el e₀ => ?_
  cases e₀
  refine gdd el fun no e₀ => ?_
  cases e₀
  have no : isObj x S.loc = false := by simpa using no
  have w := Bool.and_eq_true_iff.mp (show (kS env.scope.names (G.T x) && kV env.scope.names (G.T x)) = true from w)
  refine stx_store hE p w.1 w.2 no ⟨p1.it, fun ds e => by obtain ⟨q, a, b, c, d⟩ := p1.free ds e; exact ⟨q, a, b, fun x _ => c x id, d⟩⟩ fun m' h' tk g' st' kt e1 e2 e3 e4 e5 => ?_
  have T : Tch L s.heap (Tn env L [x]) := Tn.tch p.stt
  refine k m' h' tk g' st' (Pres.ofKt p kt) (OSame.put no e1 e2) (PlcAll.step (S := S) (g := g) (h := s.heap) (Z := Z) (S' := { S with loc := put x av S.loc }) (g' := g') (v := v) (av := av) (fun i => i.mvt p.stt.fm.fr T kt (kt.mv fun b hb => Tn.z p.stt hb)) (fun y oy => ?_) (fun y oy => .inl ⟨oy, by rw [e3]⟩) p2 p3)
  obtain ⟨ds, ey⟩ := oy
  have ey : look y (put x av S.loc) = some (.own ds) := ey
  rw [look_put] at ey
  by_cases c : y = x
  · subst c
    rw [if_pos rfl] at ey
    obtain ⟨q, eq, _⟩ := p1.free ds (Option.some.inj ey)
    exact .inr ⟨⟨ds, Option.some.inj ey⟩, by rw [e5 q eq, eq]⟩
  · rw [if_neg c] at ey
    exact .inl ⟨⟨ds, ey⟩, e4 y c⟩
theorem stx_setT [GOK] {t : Tg} {v : Value} {av : AV} {S' : PS} {s : Shared} {vs : List Value} {avs : List AV} {Q : Unit → Shared → Prop} {E : Value → Shared → Prop} (hE : EnvOK env) (hh : A.handled = none) (p : StX env L m Z Y S s.heap g) (w : wfG G.T env.scope.names G.attrs t = true) (pl : PlcAll L s.heap Z Y S g (v :: vs) (av :: avs)) (e : setT t av S = some S')
    (k : ∀ m' h' tk g', StX env L m' Z Y S' h' g' → Pres s.heap Z Y h' Z Y → OSame S g S' g' → PlcAll L h' Z Y S' g' vs avs → Q () { s with heap := h', toks := tk }) :
    wpAny (model G.prog G.w) A (assign (toG G.T t) env v) Q E s := by
  obtain ⟨p1, p2, p3⟩ := pl
  cases t with
  | nm x q => exact wpAny_assign_Name (stx_setNm hE p w ⟨p1, p2, p3⟩ e k)
  | att x a q r =>
    have e : (if isObj x S.loc then (putA a av S.ob).map fun o => ({ S with ob := o } : PS) else none) = some S' := e
    cases ho : isObj x S.loc with
    | false => rw [ho] at e; cases e
    | true =>
      rw [ho] at e
      refine mpd (show (putA a av S.ob).map _ = some S' from e) fun ob' eo e₀ => ?_
      cases e₀
      have hO : hasO S := ⟨x, isObj_s ho⟩
      obtain ⟨es, n, g1, g2, ne, y, at', ow⟩ := p.od hO
      refine assign_att hE p ho (stx_setA p hO (List.contains_iff_mem.mp w) p1 eo fun h' tk g' st' kk e1 e2 e3 e4 e5 => ?_)
      have zdx := p.yz _ y.2
      refine k m h' tk g' st' (Pres.ofA p hO kk) (fun o => ⟨o, e1, e2⟩) (PlcAll.step (S := S) (g := g) (h := s.heap) (Z := Z) (h' := h') (S' := { S with ob := ob' }) (g' := g') (v := v) (av := av) (fun {w u} i => ?_) (fun y oy => .inl ⟨oy, by rw [e3]⟩) (fun y oy => ?_) p2 p3)
      · have mv : Mv s.heap Z h' Z := fun b o nz e => ⟨kk b o (fun c => nz (c ▸ p.stt.fm.zL)) (fun c => nz (c ▸ zdx)) e, nz⟩
        cases u with
        | fz d => exact DI.mv mv i
        | obj => exact i
        | own ds =>
          obtain ⟨q, vs, n, l⟩ := i
          refine ⟨q, vs, n, l.ref, kk _ _ (fun c => Fr.notSeq p.stt.fm.fr (c ▸ l.at_) rfl) (fun c => ?_) l.at_, l.len, l.its.mv mv⟩
          have e := l.at_
          rw [c, g2] at e
          have := congrArg (fun o => o.map (·.data)) e
          cases Option.some.inj this
      · obtain ⟨ds, ey⟩ := oy
        refine gdd eo fun _ eo' => ?_
        have ey : look y ob' = some (.own ds) := ey
        rw [← eo', look_put] at ey
        by_cases c : y = a
        · subst c
          rw [if_pos rfl] at ey
          obtain ⟨q, eq, _⟩ := p1.free ds (Option.some.inj ey)
          exact .inr ⟨⟨ds, Option.some.inj ey⟩, by rw [e5 q eq, eq]⟩
        · rw [if_neg c] at ey
          exact .inl ⟨⟨ds, ey⟩, e4 y c⟩
  | tu xs q =>
    refine bnd (show (fzOf (some av)).bind _ = some S' from e) fun d ed e => ?_
    refine bnd e fun ds es e => ?_
    refine mpd e fun l el e₀ => ?_
    cases e₀
    cases av with
    | fz d' =>
      cases ed
      refine stx_bindT (tg := .many xs q) hE hh p w p1.it (show (asTup d).bind _ = some l from Option.bind_eq_some_iff.mpr ⟨ds, es, el⟩) fun m' h' tk g' st' kt os as => ?_
      have T : Tch L s.heap (Tn env L (txNames (.many xs q))) := Tn.tch p.stt
      exact k m' h' tk g' st' (Pres.ofKt p kt) os (PlcAll.step (S := S) (g := g) (h := s.heap) (Z := Z) (S' := { S with loc := l }) (g' := g') (v := v) (av := .fz d) (fun i => i.mvt p.stt.fm.fr T kt (kt.mv fun b hb => Tn.z p.stt hb)) (fun y oy => .inl (as.1 y oy)) (fun y oy => .inl ⟨oy, by rw [as.2]⟩) p2 p3)
    | _ => cases ed
end
end
section
section
variable {env : Env} {A : Around} {L : Addr}
theorem stx_setTs [GOK] (hE : EnvOK env) (hh : A.handled = none) : ∀ {ts : List Tg} {vs : List Value} {avs : List AV} {S S' : PS} {m : Str → Option Value} {Z Y : Addr → Prop} {g : Lg} {s : Shared} {Q : Unit → Shared → Prop} {E : Value → Shared → Prop}, StX env L m Z Y S s.heap g → ts.all (wfG G.T env.scope.names G.attrs) = true → PlcAll L s.heap Z Y S g vs avs → setTs ts avs S = some S' →
    (∀ m' h' tk g', StX env L m' Z Y S' h' g' → Pres s.heap Z Y h' Z Y → OSame S g S' g' → Q () { s with heap := h', toks := tk }) → wpAny (model G.prog G.w) A (assignInOrder (ts.map fun t => assign (toG G.T t) env) vs) Q E s := by
  intro l0
  induction l0 with
  | nil =>
    intro vs avs S S' m Z Y g s Q E p w pl e k
    cases avs with
    | nil => cases Option.some.inj e; exact assignInOrder_nil (k m s.heap s.toks g p (Pres.refl _ _ _) (OSame.refl _ _))
    | cons => cases e
  | cons t ts ih =>
    intro vs avs S S' m Z Y g s Q E p w pl e k
    cases avs with
    | nil => cases e
    | cons av avs =>
      cases vs with
      | nil => exact pl.elim
      | cons v vs =>
        refine bnd (show (setT t av S).bind _ = some S' from e) fun S₁ e1 e => ?_
        have w := Bool.and_eq_true_iff.mp (show (wfG G.T env.scope.names G.attrs t && ts.all _) = true from w)
        refine assignInOrder_cons (stx_setT hE hh p w.1 pl e1 fun m' h' tk g' st' pr os pl' => ?_)
        exact ih (s := { s with heap := h', toks := tk }) st' w.2 pl' e fun m2 h2 tk2 g2 st2 pr2 os2 => k m2 h2 tk2 g2 st2 (pr.trans pr2) (os.trans os2)
theorem setTs_len : ∀ {ts : List Tg} {avs : List AV} {S S' : PS}, setTs ts avs S = some S' → ts.length = avs.length := by
  intro ts
  induction ts with
  | nil => intro avs S S' e; cases avs; rfl; cases e
  | cons t ts ih =>
    intro avs S S' e
    cases avs with
    | nil => cases e
    | cons av avs =>
      refine bnd (show (setT t av S).bind _ = some S' from e) fun S₁ _ e => ?_
      exact congrArg (· + 1) (ih e)
theorem swSole (T : Nat → Str) (e : Ex) (ts : List Expr) (k : Nat) (t : Pos) (n : Nat) : swapsWithSole [.Tuple ts k t] (toE T e) n env = pure false := by cases e <;> rfl
noncomputable def notTup : Ex → Bool
  | .tup .. => false
  | _ => true
set_option backward.match.sparseCases true in
theorem swNone (T : Nat → Str) {e : Ex} (h : notTup e = true) (ts : List Expr) (k : Nat) (t : Pos) : swappedStores [.Tuple ts k t] (toE T e) env = pure none := by cases e <;> first | rfl | cases h
theorem tx_unp [GOK] {S S' : PS} {ts : List Tg} {e : Ex} {ds : List D} {p t : Pos} (hE : EnvOK env) (hh : A.handled = none) (w : ts.all (wfG G.T env.scope.names G.attrs) = true) (nt : notTup e = true) (h : TE env A L S (toE G.T e) (.tuple ds)) (es : setTs ts (ds.map .fz) S = some S') :
    TX env A L S (.Assign [.Tuple (ts.map (toG G.T)) 0 t] (toE G.T e) p) .next S' := fun m Z Y g s Q E st k => by
  refine Assign_Tuple (h m Z s _ E st.stt fun v h' tk F kp i => ?_) (swSole _ _ _ _ _ _) (swNone _ nt _ _ _)
  obtain ⟨a, vs, n, z⟩ := i.tuple'
  cases z.ref
  obtain ⟨n1, n2, n3⟩ := noStar (env := env) ts
  refine assign_Tuple_tuple (s := { s with heap := h', toks := tk }) hh z.is (n2.trans ?_) n1 fun h2 he => ?_
  · show ts.length = vs.length
    rw [setTs_len es, List.length_map, z.its.length]
  · have ks : Ks h' h2 := fun b o g => he b o (Nat.ne_of_lt (Heap.lt_size g)) g
    have st' := st.keep F kp
    have st2 := st'.keep (Fr.ks F ks) (ks.kp L)
    rw [n3]
    exact stx_setTs hE hh (s := { s with heap := h2, toks := tk }) st2 w (PlcAll.fz (z.its.mv ((ks.kp L).mv st.stt.fm.zL))) es fun m3 h3 tk3 g3 st3 pr os => k m3 Z Y g3 h3 tk3 .next st3 (((Pres.ofKp st kp).trans (Pres.ofKp st' (ks.kp L))).trans pr) os rfl
noncomputable def TEo (env : Env) (A : Around) (L : Addr) (S : PS) (es : List Expr) (avs : List AV) : Prop :=
  ∀ m Z Y g (s : Shared) (Q : List Value → Shared → Prop) (E : Value → Shared → Prop), StX env L m Z Y S s.heap g →
    (∀ vs h' tk Z' Y', StX env L m Z' Y' S h' g → Pres s.heap Z Y h' Z' Y' → Kp L s.heap h' → PlcAll L h' Z' Y' S g vs avs → (∀ v u, (v, u) ∈ vs.zip avs → ∀ ds, u = .own ds → ∀ q, v = .ref q → s.heap.get? q = none) → (∀ b, Z b → Z' b) → (∀ b, Y b → Y' b) → Q vs { s with heap := h', toks := tk }) →
    wpAny (model G.prog G.w) A (spliced (es.map fun e => (false, eval e env))) Q E s
theorem teo_nil {S : PS} : TEo env A L S [] [] := fun m Z Y g s Q E st k => spliced_nil (k [] s.heap s.toks Z Y st (Pres.refl _ _ _) (Kp.refl _ _) trivial (fun _ _ h => nomatch h) (fun _ z => z) (fun _ y => y))
theorem Plc.mv {S : PS} {h h' : Heap} {Z Y Z' Y' : Addr → Prop} {g : Lg} {v : Value} {av : AV} {ex : Nat → Prop} {m : Str → Option Value} (p : Plc L h Z Y S g ex v av) (F : Fr G.H₀ L h m) (kp : Kp L h h') (mv : Mv h Z h' Z') (yy : ∀ b, Y b → Y' b) : Plc L h' Z' Y' S g ex v av :=
  ⟨p.it.mvt F Tch.self kp.kt mv, fun ds e => by obtain ⟨q, a, b, c, d⟩ := p.free ds e; exact ⟨q, a, yy q b, c, d⟩⟩
theorem teo_cons {S : PS} {e : Expr} {es : List Expr} {d : D} {avs : List AV} (h : TE env A L S e d) (hs : TEo env A L S es avs) : TEo env A L S (e :: es) (.fz d :: avs) := fun m Z Y g s Q E st k =>
  spliced_cons (h m Z s _ E st.stt fun v h1 tk1 F1 kp1 i => hs m Z Y g _ _ E (st.keep F1 kp1) fun vs h2 tk2 Z2 Y2 st2 pr2 kp2 pl2 fr2 zz2 yy2 =>
    k (v :: vs) h2 tk2 Z2 Y2 st2 ((Pres.ofKp st kp1).trans pr2) (kp1.trans kp2) ⟨Plc.dat (i.mv (pr2.mv (st.keep F1 kp1).yz)), (by rintro ⟨_, q⟩; cases q), pl2⟩ (fun w u hm ds eu q eq => by
      rcases List.mem_cons.mp hm with hm | hm
      · cases hm; cases eu
      · have := fr2 w u hm ds eu q eq
        cases z : s.heap.get? q with
        | none => rfl
        | some o =>
          by_cases c : q = L
          · rw [c] at this
            obtain ⟨o', _, _, g', _⟩ := F1.ns
            have this : h1.get? L = none := this
            rw [g'] at this; cases this
          · have e := kp1 q o c z
            have this : h1.get? q = none := this
            rw [e] at this; cases this) zz2 yy2)
theorem teo_own {S : PS} {e : Expr} {es : List Expr} {l : List D} {avs : List AV} (h : TF env A L S e l) (hs : TEo env A L S es avs) : TEo env A L S (e :: es) (.own l :: avs) := fun m Z Y g s Q E st k =>
  spliced_cons (h m Z s _ E st.stt fun q vq n h1 tk1 F1 kp1 eq ls => by
    have st1 := st.addQ F1 kp1 eq ⟨_, ls.at_⟩
    refine hs m _ _ g { s with heap := h1, toks := tk1 } _ E st1 fun vs h2 tk2 Z2 Y2 st2 pr2 kp2 pl2 fr2 zz2 yy2 => ?_
    refine k (.ref q :: vs) h2 tk2 Z2 Y2 st2 ((Pres.addQ st kp1 eq).trans pr2) (kp1.trans kp2) ⟨(Plc.new st eq ls).mv F1 kp2 (pr2.mv st1.yz) yy2, fun _ w u hm ⟨ds, eu⟩ ew => ?_, pl2⟩ (fun w u hm ds eu q' eq' => ?_) (fun b z => zz2 b (.inl z)) (fun b y => yy2 b (.inl y))
    · have : h1.get? q = none := fr2 w u hm ds eu q ew
      rw [ls.at_] at this; cases this
    · rcases List.mem_cons.mp hm with hm | hm
      · cases hm; cases eq'; exact eq
      · have this : h1.get? q' = none := fr2 w u hm ds eu q' eq'
        cases z : s.heap.get? q' with
        | none => rfl
        | some o =>
          by_cases c : q' = L
          · rw [c] at this
            obtain ⟨o', _, _, g', _⟩ := F1.ns
            rw [g'] at this; cases this
          · rw [kp1 q' o c z] at this; cases this)
set_option backward.match.sparseCases true in
noncomputable def swN (ns : Nms) (ts : List Expr) : List Str := ts.filterMap fun
    | .Name id pos => if ns.lookup id == some .local && pos.line == (ts.head?.map (·.pos.line)).getD 0 then some id else none
    | _ => none
noncomputable def swC1 (ts vs : List Expr) : Bool := !(ts.length == 2 || ts.length == 3) || vs.length != ts.length
set_option backward.match.sparseCases true in
noncomputable def swC2 (vs : List Expr) : Bool := vs.any fun | .Starred .. => true | _ => false
noncomputable def swC3 (ns : Nms) (ts : List Expr) : Bool := (swN ns ts).length != ts.length || (swN ns ts).eraseDups.length != (swN ns ts).length
noncomputable def swP (ns : Nms) (ts vs : List Expr) : Option (Option (List Str)) :=
  if swC1 ts vs = true then some none else
  if swC2 vs = true then some none else
  if swC3 ns ts = true then some none else
  if vs.all (foldedForSure 8) = true then some none else
  if vs.all (constantsAlone 8) = true then none else some (some (swN ns ts))
set_option backward.match.sparseCases true in
theorem swS_eq {ts vs : List Expr} {k k' : Nat} {p p' : Pos} : swappedStores [.Tuple ts k p] (.Tuple vs k' p') env = (if (swC1 ts vs || env.blockKind != .function) = true then pure none else
  if swC2 vs = true then pure none else
  if swC3 env.scope.names ts = true then pure none else
  if vs.all (foldedForSure 8) = true then pure none else
  if vs.all (constantsAlone 8) = true then (unsupported "assign.tuple-of-constant-expressions:order-of-the-stores" : Sem PUnit) >>= fun _ => pure (some (swN env.scope.names ts)) else pure (some (swN env.scope.names ts))) := rfl
theorem swP_ok {ts vs : List Expr} {r : Option (List Str)} {k k' : Nat} {p p' : Pos} (hE : EnvOK env) (h : swP env.scope.names ts vs = some r) : swappedStores [.Tuple ts k p] (.Tuple vs k' p') env = pure r := by
  have bk : (env.blockKind != .function) = false := by unfold Env.blockKind; rw [hE.kind]; rfl
  rw [swS_eq, bk, Bool.or_false]
  unfold swP at h
  cases c1 : swC1 ts vs with
  | true => rw [c1] at h; cases Option.some.inj h; rfl
  | false =>
    cases c2 : swC2 vs with
    | true => rw [c1, c2] at h; cases Option.some.inj h; rfl
    | false =>
      cases c3 : swC3 env.scope.names ts with
      | true => rw [c1, c2, c3] at h; cases Option.some.inj h; rfl
      | false =>
        cases c4 : vs.all (foldedForSure 8) with
        | true => rw [c1, c2, c3, c4] at h; cases Option.some.inj h; rfl
        | false =>
          cases c5 : vs.all (constantsAlone 8) with
          | true => rw [c1, c2, c3, c4, c5] at h; cases h
          | false => rw [c1, c2, c3, c4, c5] at h; cases Option.some.inj h; rfl
end
end
section
noncomputable def notO (v : AV) : Prop := v ≠ .obj
theorem isObj_put {x y : Nat} {u : AV} {l : Al} (nu : notO u) : isObj y (put x u l) = if y = x then false else isObj y l := by
  unfold isObj
  rw [look_put]
  by_cases c : y = x
  · rw [if_pos c, if_pos c]
    cases u with
    | obj => exact absurd rfl nu
    | _ => rfl
  · rw [if_neg c, if_neg c]
theorem putO_ok {x : Nat} {u : AV} {l : Al} (h : isObj x l = false) : putO x u l = some (put x u l) := by unfold putO; rw [h]; rfl
theorem putO_s {x : Nat} {u : AV} {l l' : Al} (h : putO x u l = some l') : isObj x l = false ∧ l' = put x u l := by
  refine gdd h fun c e => ?_
  exact ⟨by simpa using c, e.symm⟩
theorem put_swap {x y : Nat} {u v : AV} (l : Al) (ne : x ≠ y) (z : Nat) : look z (put x u (put y v l)) = look z (put y v (put x u l)) := by
  rw [look_put, look_put, look_put, look_put]
  by_cases c1 : z = x
  · subst c1; rw [if_pos rfl, if_neg ne, if_pos rfl]
  · rw [if_neg c1, if_neg c1]
theorem put_cong {x : Nat} {u : AV} {l l' : Al} (h : ∀ z, look z l = look z l') (z : Nat) : look z (put x u l) = look z (put x u l') := by
  rw [look_put, look_put, h]
theorem rev2 {a b : Nat × Pos} {u v : AV} {S S' : PS} (ne : a.1 ≠ b.1) (nu : notO u) (nv : notO v) (e : setTs [.nm a.1 a.2, .nm b.1 b.2] [u, v] S = some S') :
    ∃ l, setTs [.nm b.1 b.2, .nm a.1 a.2] [v, u] S = some { S with loc := l } ∧ S'.ob = S.ob ∧ ∀ y, look y S'.loc = look y l := by
  refine bnd (show (setT (.nm a.1 a.2) u S).bind _ = some S' from e) fun S₁ e1 e => ?_
  refine mpd (show (putO a.1 u S.loc).map _ = some S₁ from e1) fun l1 f1 q1 => ?_
  refine bnd (show (setT (.nm b.1 b.2) v S₁).bind _ = some S' from e) fun S₂ e2 e => ?_
  refine mpd (show (putO b.1 v S₁.loc).map _ = some S₂ from e2) fun l2 f2 q2 => ?_
  cases Option.some.inj e
  subst q1 q2
  obtain ⟨n1, rfl⟩ := putO_s f1
  obtain ⟨n2, rfl⟩ := putO_s f2
  have n2 : isObj b.1 (put a.1 u S.loc) = false := n2
  rw [isObj_put nu, if_neg (Ne.symm ne)] at n2
  refine ⟨put a.1 u (put b.1 v S.loc), ?_, rfl, fun y => put_swap S.loc (Ne.symm ne) y⟩
  show (((putO b.1 v S.loc).map fun l => ({ S with loc := l } : PS)).bind fun S' => ((putO a.1 u S'.loc).map fun l => ({ S' with loc := l } : PS)).bind fun S' => some S') = _
  rw [putO_ok n2]
  show (((putO a.1 u (put b.1 v S.loc)).map fun l => ({ S with loc := l } : PS)).bind fun S' => some S') = _
  rw [putO_ok (by rw [isObj_put nv, if_neg ne]; exact n1)]
  rfl
theorem rev3 {a b c : Nat × Pos} {u v w : AV} {S S' : PS} (ab : a.1 ≠ b.1) (ac : a.1 ≠ c.1) (bc : b.1 ≠ c.1) (nu : notO u) (nv : notO v) (nw : notO w) (e : setTs [.nm a.1 a.2, .nm b.1 b.2, .nm c.1 c.2] [u, v, w] S = some S') :
    ∃ l, setTs [.nm c.1 c.2, .nm b.1 b.2, .nm a.1 a.2] [w, v, u] S = some { S with loc := l } ∧ S'.ob = S.ob ∧ ∀ y, look y S'.loc = look y l := by
  refine bnd (show (setT (.nm a.1 a.2) u S).bind _ = some S' from e) fun S₁ e1 e => ?_
  refine mpd (show (putO a.1 u S.loc).map _ = some S₁ from e1) fun l1 f1 q1 => ?_
  refine bnd (show (setT (.nm b.1 b.2) v S₁).bind _ = some S' from e) fun S₂ e2 e => ?_
  refine mpd (show (putO b.1 v S₁.loc).map _ = some S₂ from e2) fun l2 f2 q2 => ?_
  refine bnd (show (setT (.nm c.1 c.2) w S₂).bind _ = some S' from e) fun S₃ e3 e => ?_
  refine mpd (show (putO c.1 w S₂.loc).map _ = some S₃ from e3) fun l3 f3 q3 => ?_
  cases Option.some.inj e
  subst q1 q2 q3
  obtain ⟨n1, rfl⟩ := putO_s f1
  obtain ⟨n2, rfl⟩ := putO_s f2
  obtain ⟨n3, rfl⟩ := putO_s f3
  have n2 : isObj b.1 (put a.1 u S.loc) = false := n2
  have n3 : isObj c.1 (put b.1 v (put a.1 u S.loc)) = false := n3
  rw [isObj_put nu, if_neg (Ne.symm ab)] at n2
  rw [isObj_put nv, if_neg (Ne.symm bc), isObj_put nu, if_neg (Ne.symm ac)] at n3
  refine ⟨put a.1 u (put b.1 v (put c.1 w S.loc)), ?_, rfl, fun y => ?_⟩
  · show (((putO c.1 w S.loc).map fun l => ({ S with loc := l } : PS)).bind fun S' => ((putO b.1 v S'.loc).map fun l => ({ S' with loc := l } : PS)).bind fun S' => ((putO a.1 u S'.loc).map fun l => ({ S' with loc := l } : PS)).bind fun S' => some S') = _
    rw [putO_ok n3]
    show (((putO b.1 v (put c.1 w S.loc)).map fun l => ({ S with loc := l } : PS)).bind fun S' => ((putO a.1 u S'.loc).map fun l => ({ S' with loc := l } : PS)).bind fun S' => some S') = _
    rw [putO_ok (by rw [isObj_put nw, if_neg bc]; exact n2)]
    show (((putO a.1 u (put b.1 v (put c.1 w S.loc))).map fun l => ({ S with loc := l } : PS)).bind fun S' => some S') = _
    rw [putO_ok (by rw [isObj_put nv, if_neg ab, isObj_put nw, if_neg ac]; exact n1)]
    rfl
  · show look y (put c.1 w (put b.1 v (put a.1 u S.loc))) = _
    rw [put_cong (put_swap S.loc (Ne.symm ab)) y, put_swap _ (Ne.symm ac) y]
    exact put_cong (put_swap S.loc (Ne.symm bc)) y
section
variable {env : Env} {A : Around} {L : Addr} {S S' : PS}
theorem PlcAll.mv {h h' : Heap} {Z Y : Addr → Prop} {g : Lg} {m : Str → Option Value} (F : Fr G.H₀ L h m) (kp : Kp L h h') (z : Z L) : ∀ {vs : List Value} {avs : List AV}, PlcAll L h Z Y S g vs avs → PlcAll L h' Z Y S g vs avs := by
  intro l0
  induction l0 with
  | nil =>
    intro l1
    cases l1 with
    | nil =>
      intro _
      exact trivial
    | cons _ _ =>
      intro p
      exact p.elim
  | cons v vs ih =>
    intro l1
    cases l1 with
    | nil =>
      intro p
      exact p.elim
    | cons av avs =>
      rintro ⟨p1, p2, p3⟩
      exact ⟨p1.mv F kp (kp.mv z) (fun _ y => y), p2, ih p3⟩
theorem PlcAll.len {h : Heap} {Z Y : Addr → Prop} {g : Lg} : ∀ {vs : List Value} {avs : List AV}, PlcAll L h Z Y S g vs avs → vs.length = avs.length := by
  intro l0
  induction l0 with
  | nil =>
    intro l1
    cases l1 with
    | nil =>
      intro _
      exact rfl
    | cons _ _ =>
      intro p
      exact p.elim
  | cons v vs ih =>
    intro l1
    cases l1 with
    | nil =>
      intro p
      exact p.elim
    | cons av avs =>
      rintro ⟨_, _, p3⟩
      exact congrArg (· + 1) (ih p3)
theorem PlcAll.notO {h : Heap} {Z Y : Addr → Prop} {g : Lg} : ∀ {vs : List Value} {avs : List AV}, PlcAll L h Z Y S g vs avs → ∀ u ∈ avs, Mine.notO u := by
  intro l0
  induction l0 with
  | nil =>
    intro l1
    cases l1 with
    | nil =>
      intro _ _ hu
      exact nomatch hu
    | cons _ _ =>
      intro p _ _
      exact p.elim
  | cons v vs ih =>
    intro l1
    cases l1 with
    | nil =>
      intro p _ _
      exact p.elim
    | cons av avs =>
      rintro ⟨p1, _, p3⟩ u hu
      exact (by
    rcases List.mem_cons.mp hu with rfl | hu
    · intro e; have := p1.it; rw [e] at this; exact this
    · exact ih p3 u hu)
theorem tx_asgT [GOK] {ts : List Tg} {es : List Expr} {avs : List AV} {p t v : Pos} (hE : EnvOK env) (hh : A.handled = none) (hes : ∀ e ∈ es, okE e = true) (w : ts.all (wfG G.T env.scope.names G.attrs) = true) (sw : swP env.scope.names (ts.map (toG G.T)) es = some none) (h : TEo env A L S es avs) (hl : avs.length ≤ big) (e : setTs ts avs S = some S') :
    TX env A L S (.Assign [.Tuple (ts.map (toG G.T)) 0 t] (.Tuple es 0 v) p) .next S' := fun m Z Y g s Q E st k => by
  refine Assign_Tuple (Tuple_ ?_) rfl (swP_ok hE sw)
  rw [args_trees hes]
  refine h m Z Y g s _ E st fun vs h' tk Z' Y' st1 pr kp pl fr zz yy => ?_
  have len := pl.len
  refine wpAny_newObj_type ?_ (by show vs.length ≤ sizeLine; rw [len]; exact Nat.le_trans hl big_size)
  obtain ⟨n1, n2, n3⟩ := noStar (env := env) ts
  have p1 := Kp.push L h' { cls := .type "tuple", data := .seq vs.toArray }
  have st2 := st1.keep (st1.stt.fm.fr.push { cls := .type "tuple", data := .seq vs.toArray }) p1
  refine assign_Tuple_tuple (s := { s with heap := h'.push _, toks := tk }) hh ⟨_, Heap.get?_push_size _ rfl, rfl, _, rfl⟩ (n2.trans ?_) n1 fun h2 he => ?_
  · show ts.length = vs.length
    rw [setTs_len e, len]
  · have ks : Ks (h'.push { cls := .type "tuple", data := .seq vs.toArray }) h2 := fun b o g => he b o (Nat.ne_of_lt (Heap.lt_size g)) g
    have st3 := st2.keep (Fr.ks st2.stt.fm.fr ks) (ks.kp L)
    rw [n3]
    exact stx_setTs hE hh (s := { s with heap := h2, toks := tk }) st3 w ((pl.mv st1.stt.fm.fr p1 st1.stt.fm.zL).mv st2.stt.fm.fr (ks.kp L) st2.stt.fm.zL) e fun m3 h3 tk3 g3 st4 pr4 os => k m3 Z' Y' g3 h3 tk3 .next st4 (((pr.trans (Pres.ofKp st1 p1)).trans (Pres.ofKp st2 (ks.kp L))).trans pr4) os rfl
noncomputable def nmOf : List Tg → Option (List (Nat × Pos))
  | [] => some []
  | .nm x p :: r => (nmOf r).map fun l => (x, p) :: l
  | _ :: _ => none
theorem nmOf_s : ∀ {ts : List Tg} {xs : List (Nat × Pos)}, nmOf ts = some xs → ts = xs.map fun x => .nm x.1 x.2 := by
  intro ts
  induction ts with
  | nil => intro xs e; cases Option.some.inj e; rfl
  | cons t r ih =>
    intro xs e
    cases t with
    | nm x p =>
      refine mpd (show (nmOf r).map _ = some xs from e) fun l el e₀ => ?_
      cases e₀
      rw [ih el]; rfl
    | att => cases e
    | tu => cases e
theorem stx_setNms (hE : EnvOK env) : ∀ {xs : List (Nat × Pos)} {vs : List Value} {avs : List AV} {S S' : PS} {m : Str → Option Value} {Z Y : Addr → Prop} {g : Lg} {s : Shared} {Q : Unit → Shared → Prop} {E : Value → Shared → Prop}, StX env L m Z Y S s.heap g → xs.all (fun x => kW env.scope.names (G.T x.1)) = true → PlcAll L s.heap Z Y S g vs avs → setTs (xs.map fun x => .nm x.1 x.2) avs S = some S' →
    (∀ m' h' tk g', StX env L m' Z Y S' h' g' → Pres s.heap Z Y h' Z Y → OSame S g S' g' → Q () { s with heap := h', toks := tk }) → wpAny (model G.prog G.w) A (assignInOrder ((xs.map fun x => G.T x.1).map fun n => bindName env n) vs) Q E s := by
  intro l0
  induction l0 with
  | nil =>
    intro vs avs S S' m Z Y g s Q E p w pl e k
    cases avs with
    | nil => cases Option.some.inj e; exact assignInOrder_nil (k m s.heap s.toks g p (Pres.refl _ _ _) (OSame.refl _ _))
    | cons => cases e
  | cons x xs ih =>
    intro vs avs S S' m Z Y g s Q E p w pl e k
    cases avs with
    | nil => cases e
    | cons av avs =>
      cases vs with
      | nil => exact pl.elim
      | cons v vs =>
        refine bnd (show (setT (.nm x.1 x.2) av S).bind _ = some S' from e) fun S₁ e1 e => ?_
        have w := Bool.and_eq_true_iff.mp (show (kW env.scope.names (G.T x.1) && xs.all _) = true from w)
        refine assignInOrder_cons (bindName_ (stx_setNm hE p w.1 pl e1 fun m' h' tk g' st' pr os pl' => ?_))
        exact ih (s := { s with heap := h', toks := tk }) st' w.2 pl' e fun m2 h2 tk2 g2 st2 pr2 os2 => k m2 h2 tk2 g2 st2 (pr.trans pr2) (os.trans os2)
theorem PlcAll.two {h : Heap} {Z Y : Addr → Prop} {g : Lg} {v w : Value} {a b : AV} (p : PlcAll L h Z Y S g [v, w] [a, b]) : PlcAll L h Z Y S g [w, v] [b, a] :=
  ⟨p.2.2.1, fun ob w' u hm ou e => by
    cases List.mem_singleton.mp hm
    exact p.2.1 ou w b (.head _) ob e.symm, p.1, (fun _ _ _ hm => nomatch hm), trivial⟩
theorem PlcAll.three {h : Heap} {Z Y : Addr → Prop} {g : Lg} {v w x : Value} {a b c : AV} (p : PlcAll L h Z Y S g [v, w, x] [a, b, c]) : PlcAll L h Z Y S g [x, w, v] [c, b, a] := by
  obtain ⟨p1, q1, p2, q2, p3, _, _⟩ := p
  refine ⟨p3, fun oc w' u hm ou e => ?_, p2, fun ob w' u hm ou e => ?_, p1, (fun _ _ _ hm => nomatch hm), trivial⟩
  · rcases List.mem_cons.mp hm with hm | hm
    · cases hm; exact q2 ou x c (.head _) oc e.symm
    · cases List.mem_singleton.mp hm; exact q1 ou x c (.tail _ (.head _)) oc e.symm
  · cases List.mem_singleton.mp hm; exact q1 ou w b (.head _) ob e.symm
theorem two_of {α : Type} {l : List α} (h : l.length = 2) : ∃ a b, l = [a, b] := by
  obtain ⟨a, r, rfl⟩ := List.exists_cons_of_length_eq_add_one h
  obtain ⟨b, r, rfl⟩ := List.exists_cons_of_length_eq_add_one (Nat.succ.inj h)
  exact ⟨a, b, by rw [List.length_eq_zero_iff.mp (Nat.succ.inj (Nat.succ.inj h))]⟩
theorem three_of {α : Type} {l : List α} (h : l.length = 3) : ∃ a b c, l = [a, b, c] := by
  obtain ⟨a, r, rfl⟩ := List.exists_cons_of_length_eq_add_one h
  obtain ⟨b, c, rfl⟩ := two_of (Nat.succ.inj h)
  exact ⟨a, b, c, rfl⟩
theorem rev_all {xs : List (Nat × Pos)} {avs : List AV} {vs : List Value} {h : Heap} {Z Y : Addr → Prop} {g : Lg} (hx : xs.length = 2 ∨ xs.length = 3) (lx : xs.length = avs.length) (len : vs.length = avs.length) (pl : PlcAll L h Z Y S g vs avs) (no : ∀ u ∈ avs, notO u) (nd : nodupB (xs.map (·.1)) = true) (e : setTs (xs.map fun x => .nm x.1 x.2) avs S = some S') :
    ∃ l, PlcAll L h Z Y S g vs.reverse avs.reverse ∧ setTs (xs.reverse.map fun x => .nm x.1 x.2) avs.reverse S = some { S with loc := l } ∧ S'.ob = S.ob ∧ ∀ y, look y S'.loc = look y l := by
  rcases hx with hx | hx
  · obtain ⟨u, u', rfl⟩ := two_of (lx.symm.trans hx)
    obtain ⟨v1, v2, rfl⟩ := two_of len
    obtain ⟨a, b, rfl⟩ := two_of hx
    have ne : a.1 ≠ b.1 := fun c => by
      rw [show nodupB ([a, b].map (·.1)) = (!([b.1].contains a.1) && nodupB [b.1]) from rfl, c] at nd
      simp at nd
    obtain ⟨l, e', eo, el⟩ := rev2 ne (no u (.head _)) (no u' (.tail _ (.head _))) e
    exact ⟨l, pl.two, e', eo, el⟩
  · obtain ⟨u, u', u'', rfl⟩ := three_of (lx.symm.trans hx)
    obtain ⟨v1, v2, v3, rfl⟩ := three_of len
    obtain ⟨a, b, c, rfl⟩ := three_of hx
    have nd' : a.1 ≠ b.1 ∧ a.1 ≠ c.1 ∧ b.1 ≠ c.1 := by
      rw [show nodupB ([a, b, c].map (·.1)) = (!([b.1, c.1].contains a.1) && (!([c.1].contains b.1) && (!(([] : List Nat).contains c.1) && true))) from rfl] at nd
      simp only [Bool.and_eq_true, Bool.not_eq_true', List.contains_cons, Bool.or_eq_false_iff, beq_eq_false_iff_ne] at nd
      exact ⟨nd.1.1, nd.1.2.1, nd.2.1.1⟩
    obtain ⟨l, e', eo, el⟩ := rev3 nd'.1 nd'.2.1 nd'.2.2 (no u (.head _)) (no u' (.tail _ (.head _))) (no u'' (.tail _ (.tail _ (.head _)))) e
    exact ⟨l, pl.three, e', eo, el⟩
theorem tx_asgTs {xs : List (Nat × Pos)} {es : List Expr} {avs : List AV} {p t v : Pos} (hE : EnvOK env) (hh : A.handled = none) (hes : ∀ e ∈ es, okE e = true) (w : xs.all (fun x => kW env.scope.names (G.T x.1)) = true) (nd : nodupB (xs.map (·.1)) = true) (hx : xs.length = 2 ∨ xs.length = 3) (sw : swP env.scope.names ((xs.map fun x => Tg.nm x.1 x.2).map (toG G.T)) es = some (some (xs.map fun x => G.T x.1)))
    (h : TEo env A L S es avs) (hl : avs.length ≤ big) (e : setTs (xs.map fun x => .nm x.1 x.2) avs S = some S') :
    TX env A L S (.Assign [.Tuple ((xs.map fun x => Tg.nm x.1 x.2).map (toG G.T)) 0 t] (.Tuple es 0 v) p) .next S' := fun m Z Y g s Q E st k => by
  refine Assign_Tuple_swapped (Tuple_ ?_) rfl (swP_ok hE sw)
  rw [args_trees hes]
  refine h m Z Y g s _ E st fun vs h' tk Z' Y' st1 pr kp pl fr zz yy => ?_
  have len := pl.len
  have lx := setTs_len e
  rw [List.length_map] at lx
  refine wpAny_newObj_type ?_ (by show vs.length ≤ sizeLine; rw [len]; exact Nat.le_trans hl big_size)
  have p1 := Kp.push L h' { cls := .type "tuple", data := .seq vs.toArray }
  have st2 := st1.keep (st1.stt.fm.fr.push { cls := .type "tuple", data := .seq vs.toArray }) p1
  have tp : IsTup (h'.push { cls := .type "tuple", data := .seq vs.toArray }) h'.objs.size vs.toArray := ⟨_, Heap.get?_push_size _ rfl, rfl, _, rfl⟩
  have hlen : (xs.map fun x => G.T x.1).length = vs.toArray.size := by
    show _ = vs.length
    rw [List.length_map, lx, len]
  rw [hlen]
  refine unpackItems_tuple (s := { s with heap := h'.push _, toks := tk }) hh tp fun h2 he => ?_
  have ks : Ks (h'.push { cls := .type "tuple", data := .seq vs.toArray }) h2 := fun b o g => he b o (Nat.ne_of_lt (Heap.lt_size g)) g
  have st3 := st2.keep (Fr.ks st2.stt.fm.fr ks) (ks.kp L)
  have pl3 := (pl.mv st1.stt.fm.fr p1 st1.stt.fm.zL).mv st2.stt.fm.fr (ks.kp L) st2.stt.fm.zL
  have no := pl3.notO
  have fin : ∀ {xs' : List (Nat × Pos)} {vs' : List Value} {avs' : List AV} {l : Al}, xs'.all (fun x => kW env.scope.names (G.T x.1)) = true → PlcAll L h2 Z' Y' S g vs' avs' → setTs (xs'.map fun x => .nm x.1 x.2) avs' S = some { S with loc := l } → S'.ob = S.ob → (∀ y, look y S'.loc = look y l) →
      wpAny (model G.prog G.w) A (assignInOrder ((xs'.map fun x => G.T x.1).map fun n => bindName env n) vs') (fun _ => Q .next) E { s with heap := h2, toks := tk } := fun {xs' vs' avs' l} w' pl' e' eo el => by
    refine stx_setNms hE (s := { s with heap := h2, toks := tk }) st3 w' pl' e' fun m3 h3 tk3 g3 st4 pr4 os => ?_
    have st5 : StX env L m3 Z' Y' S' h3 g3 := by
      have := st4.congr (l := S'.loc) el
      have e2 : ({ S with loc := S'.loc } : PS) = S' := by cases S'; cases eo; rfl
      exact e2 ▸ this
    have os5 : OSame S g S' g3 := fun o => by obtain ⟨⟨y, q⟩, r⟩ := os o; exact ⟨⟨y, (el y).trans q⟩, r⟩
    exact k m3 Z' Y' g3 h3 tk3 .next st5 (((pr.trans (Pres.ofKp st1 p1)).trans (Pres.ofKp st2 (ks.kp L))).trans pr4) os5 rfl
  obtain ⟨l, q1, q2, q3, q4⟩ := rev_all hx lx len pl3 no nd e
  rw [← List.map_reverse]
  exact fin (xs' := xs.reverse) (List.all_reverse.trans w) q1 q2 q3 q4
end
end
section
section
variable {env : Env} {A : Around} {L : Addr} {S S' : PS} {m : Str → Option Value} {Z Y : Addr → Prop} {h : Heap} {g : Lg}
theorem StX.freeze {q : Addr} {ds : List D} {vs : List Value} {n : Nat} (p : StX env L m Z Y S h g) (yq : Y q) (ls : LsAt h Z (.ref q) ds q vs n)
    (hl : ∀ y, look y S'.loc = look y S.loc ∨ (g.α y = q ∧ ownL S y ∧ look y S'.loc = some (.fz (.list ds)))) (ha : ∀ k, look k S'.ob = look k S.ob ∨ (g.β k = q ∧ ownA S k ∧ look k S'.ob = some (.fz (.list ds)))) (hn : S'.ob.length = S.ob.length)
    (ul : ∀ y, ownL S' y → g.α y ≠ q) (ua : ∀ k, ownA S' k → g.β k ≠ q) :
    StX env L m (fun b => Z b ∧ b ≠ q) (fun b => Y b ∧ b ≠ q) S' h g ∧ Pres h Z Y h (fun b => Z b ∧ b ≠ q) (fun b => Y b ∧ b ≠ q) ∧ OSame S g S' g := by
  have mv : Mv h Z h (fun b => Z b ∧ b ≠ q) := fun b o nz e => ⟨e, fun z => nz z.1⟩
  have Lq : L ≠ q := fun e => Fr.notSeq p.stt.fm.fr (e ▸ ls.at_) rfl
  have cq : ∀ {c : Addr} {v : Option Value}, h.IsCell c v → c ≠ q := fun st₀ c => by
    obtain ⟨o, gg, e⟩ := st₀
    rw [c, ls.at_] at gg; cases gg; cases e
  have dq : DI h (fun b => Z b ∧ b ≠ q) (.ref q) (.list ds) := .list ls.at_ (fun z => z.2 rfl) ls.len (ls.its.mv mv)
  have av1 : ∀ {w : Value} {u : AV}, AV1 h Z w u → AV1 h (fun b => Z b ∧ b ≠ q) w u := fun {w u} i => by
    cases u with
    | fz d => exact DI.mv mv i
    | obj => exact i
    | own ds => obtain ⟨a, vs, n, l⟩ := i; exact ⟨a, vs, n, l.ref, l.at_, l.len, l.its.mv mv⟩
  have oL : ∀ y, ownL S' y → ownL S y := fun y st₀ => by
    obtain ⟨d, e⟩ := st₀
    rcases hl y with c | c
    · exact ⟨d, c ▸ e⟩
    · rw [c.2.2] at e; cases Option.some.inj e
  have oA : ∀ y, ownA S' y → ownA S y := fun y st₀ => by
    obtain ⟨d, e⟩ := st₀
    rcases ha y with c | c
    · exact ⟨d, c ▸ e⟩
    · rw [c.2.2] at e; cases Option.some.inj e
  have oO : ∀ y, look y S'.loc = some .obj ↔ look y S.loc = some .obj := fun y => by
    rcases hl y with c | ⟨_, ⟨d, e⟩, e'⟩
    · rw [c]
    · rw [e, e']; exact ⟨nofun, nofun⟩
  have hO : hasO S' ↔ hasO S := ⟨fun st₀ => by obtain ⟨y, e⟩ := st₀; exact ⟨y, (oO y).mp e⟩, fun st₀ => by obtain ⟨y, e⟩ := st₀; exact ⟨y, (oO y).mpr e⟩⟩
  have ksome : ∀ k, (∃ av, look k S'.ob = some av) ↔ ∃ av, look k S.ob = some av := fun k => by
    rcases ha k with c | ⟨_, ⟨d, e⟩, e'⟩
    · rw [c]
    · exact ⟨fun _ => ⟨_, e⟩, fun _ => ⟨_, e'⟩⟩
  have od : hasO S → ∃ es n, h.get? g.o = some (instObj G.C g.dx) ∧ h.get? g.dx = some (dictOf es n) ∧ g.dx ≠ L ∧ ((Y g.o ∧ g.o ≠ q) ∧ (Y g.dx ∧ g.dx ≠ q)) ∧ AttI h (fun b => Z b ∧ b ≠ q) es S'.ob ∧ ∀ k ds, look k S'.ob = some (.own ds) → W.getL (G.T k) es = some (some (.ref (g.β k))) ∧ (Y (g.β k) ∧ g.β k ≠ q) := fun o => by
    obtain ⟨es, n, g1, g2, ne, y, at', ow⟩ := p.od o
    have n1 : g.o ≠ q := fun c => by rw [c, ls.at_] at g1; cases Option.some.inj g1
    have n2 : g.dx ≠ q := fun c => by
      rw [c, ls.at_] at g2
      have := congrArg (fun o => o.map (·.data)) g2
      cases Option.some.inj this
    refine ⟨es, n, g1, g2, ne, ⟨⟨y.1, n1⟩, ⟨y.2, n2⟩⟩, ⟨at'.len.trans hn.symm, at'.keys, fun j av e => ?_, fun y hy => at'.non y fun k av e => ?_⟩, fun k ds e => ?_⟩
    · rcases ha j with c | ⟨c, ⟨d, e0⟩, e'⟩
      · rw [c] at e
        obtain ⟨i, v, r, a⟩ := at'.get j av e
        exact ⟨i, v, r, av1 a⟩
      · rw [e'] at e; cases Option.some.inj e
        obtain ⟨i, v, r, a⟩ := at'.get j _ e0
        obtain ⟨e1, y1⟩ := ow j d e0
        rw [r] at e1
        have e2 : v = .ref (g.β j) := Option.some.inj (Option.some.inj e1)
        exact ⟨i, v, r, by rw [e2, c]; exact dq⟩
    · obtain ⟨av', e'⟩ := (ksome k).mpr ⟨av, e⟩
      exact hy k av' e'
    · obtain ⟨d0, e0⟩ := oA k ⟨ds, e⟩
      exact ⟨(ow k d0 e0).1, (ow k d0 e0).2, ua k ⟨ds, e⟩⟩
  refine ⟨⟨⟨⟨p.stt.fm.fr, ⟨p.stt.fm.zL, Lq⟩, fun z hz => p.stt.fm.za z hz.1, fun z hz => p.stt.fm.zH z hz.1⟩, fun x av e c => ?_, fun x hx => ?_, p.stt.dis⟩, p.loc, p.nf, fun x av e => ?_, fun b y => ⟨p.yz b y.1, y.2⟩, ⟨p.yL, Lq⟩, fun x c k e => ⟨p.yC x c k e, ?_⟩, fun x ds e => ?_, fun x e => p.ob x ((oO x).mp e), fun o => od (hO.mp o), fun no => ?_,
    fun x y a b e => p.ia x y (oL x a) (oL y b) e, fun x y a b e => p.ib x y (oA x a) (oA y b) e, fun x y a b => p.ic x y (oL x a) (oA y b)⟩,
    ⟨fun _ _ _ e => e, fun _ y => .inl y.1, fun b o n e => ⟨fun z => z.1, fun z => ⟨z, fun c => n (c ▸ yq)⟩⟩⟩, fun o => ⟨hO.mpr o, rfl, rfl⟩⟩
  · rcases hl x with c2 | ⟨c2, ⟨d, e0⟩, e'⟩
    · rw [c2] at e
      obtain ⟨v, a, b⟩ := p.stt.rd x av e c
      refine ⟨v, a, ?_⟩
      cases av with
      | fz d => exact DI.mv mv b
      | own ds0 => obtain ⟨aa, vs, n, l⟩ := b; exact ⟨aa, vs, n, l.ref, l.at_, l.len, l.its.mv mv⟩
      | obj =>
        have e2 := a.uniq (p.ob x e)
        obtain ⟨es, n, g1, g2, ne, y, at', ow⟩ := od ⟨x, e⟩
        exact ⟨g.o, e2, g.dx, es, n, g1, g2, ne, at'⟩
    · rw [e'] at e; cases Option.some.inj e
      obtain ⟨e1, y1⟩ := p.al x d e0
      exact ⟨.ref (g.α x), e1, by rw [c2]; exact dq⟩
  · obtain ⟨c, v, e, i, z⟩ := p.stt.cel x hx
    exact ⟨c, v, e, i, z, cq i⟩
  · rcases hl x with c2 | ⟨_, ⟨d, e0⟩, _⟩
    · exact p.nm x av (c2 ▸ e)
    · exact p.nm x _ e0
  · obtain ⟨c', v, e', i, z⟩ := p.stt.cel x (.inl k)
    rw [e] at e'; cases Option.some.inj e'
    exact cq i
  · obtain ⟨d0, e0⟩ := oL x ⟨ds, e⟩
    exact ⟨(p.al x d0 e0).1, (p.al x d0 e0).2, ul x ⟨ds, e⟩⟩
  · have := p.oe fun o => no (hO.mpr o)
    rw [this] at hn
    exact List.eq_nil_of_length_eq_zero hn
noncomputable def TZ (env : Env) (L : Addr) (S S' : PS) : Prop := ∀ m Z Y g h, StX env L m Z Y S h g → ∃ Z' Y', StX env L m Z' Y' S' h g ∧ Pres h Z Y h Z' Y' ∧ OSame S g S' g
theorem tm_frz {x : Nat} {ds : List D} (e : ownOf (look x S.loc) = some ds) : TZ env L S { S with loc := put x (.fz (.list ds)) S.loc } := fun m Z Y g h st => by
  have ek := ownOf_s e
  obtain ⟨yq, vs, n, ls⟩ := getL_own (l := .v x ⟨0, 0, 0, 0⟩) st e
  have lp : ∀ y, look y (put x (.fz (.list ds)) S.loc) = if y = x then some (.fz (.list ds)) else look y S.loc := fun y => look_put x y _ S.loc
  obtain ⟨x1, x2, x3⟩ := st.freeze (S' := { S with loc := put x (.fz (.list ds)) S.loc }) yq ls (fun y => by
      by_cases c : y = x
      · exact .inr ⟨by rw [c]; rfl, c ▸ ⟨ds, ek⟩, by rw [lp, if_pos c]⟩
      · exact .inl (by rw [lp, if_neg c])) (fun k => .inl rfl) rfl (by
      rintro y ⟨d, ey⟩ c
      have ey : look y (put x (.fz (.list ds)) S.loc) = some (.own d) := ey
      rw [lp] at ey
      by_cases cy : y = x
      · rw [if_pos cy] at ey; cases Option.some.inj ey
      · rw [if_neg cy] at ey
        exact cy (st.ia y x ⟨d, ey⟩ ⟨ds, ek⟩ c)) (fun k ok c => st.ic x k ⟨ds, ek⟩ ok c.symm)
  exact ⟨_, _, x1, x2, x3⟩
theorem tm_frzA {a : Nat} {ds : List D} (e : ownOf (look a S.ob) = some ds) : TZ env L S { S with ob := put a (.fz (.list ds)) S.ob } := fun m Z Y g h st => by
  have ek := ownOf_s e
  have hO : hasO S := by
    by_cases c : hasO S
    · exact c
    · rw [st.oe c] at ek; cases ek
  obtain ⟨es, n, g1, g2, ne, y, at', ow⟩ := st.od hO
  obtain ⟨_, v, r1, aa, vs, n, l⟩ := at'.get a _ ek
  obtain ⟨e1, y1⟩ := ow a ds ek
  rw [r1] at e1
  have e2 : v = .ref (g.β a) := Option.some.inj (Option.some.inj e1)
  have e3 : aa = g.β a := by rw [l.ref] at e2; cases e2; rfl
  subst e3
  have lp : ∀ y, look y (put a (.fz (.list ds)) S.ob) = if y = a then some (.fz (.list ds)) else look y S.ob := fun y => look_put a y _ S.ob
  obtain ⟨x1, x2, x3⟩ := st.freeze (S' := { S with ob := put a (.fz (.list ds)) S.ob }) y1 ⟨rfl, l.at_, l.len, l.its⟩ (fun y => .inl rfl) (fun y => by
      by_cases c : y = a
      · exact .inr ⟨by rw [c], c ▸ ⟨ds, ek⟩, by rw [lp, if_pos c]⟩
      · exact .inl (by rw [lp, if_neg c])) (put_len ek) (fun x ox c => st.ic x a ox ⟨ds, ek⟩ c) (by
      rintro y ⟨d, ey⟩ c
      have ey : look y (put a (.fz (.list ds)) S.ob) = some (.own d) := ey
      rw [lp] at ey
      by_cases cy : y = a
      · rw [if_pos cy] at ey; cases Option.some.inj ey
      · rw [if_neg cy] at ey
        exact cy (st.ib y a ⟨d, ey⟩ ⟨ds, ek⟩ c))
  exact ⟨_, _, x1, x2, x3⟩
end
section
variable {k : Nat} {O : Orc} (hO : SndO k O) {env : Env} {A : Around} {L : Addr} {S : PS} {ns : Nms}
include hO
theorem sndEo [GOK] (hE : EnvOK env) (hN : NmOK env ns) (hA : Rm A k) : ∀ {es : Exs} {bs : List Bool} {ds : List D} {avs : List AV}, evs O es S = some ds → freshAt bs es = true → avsOf bs ds = some avs → wfEs G.T ns es = true → TEo env A L S (toEs G.T es) avs
  | .nil, [], ds, avs, e, f, ea, w => by cases Option.some.inj e; cases Option.some.inj ea; exact teo_nil
  | .nil, _ :: _, ds, avs, e, f, ea, w => by cases f
  | .cons x r, [], ds, avs, e, f, ea, w => by cases f
  | .cons x r, b :: bs, ds, avs, e, f, ea, w => by
    refine bnd (show (ev O x S).bind _ = some ds from e) fun d ed e => ?_
    refine mpd e fun l el e₀ => ?_
    cases e₀
    refine bnd (show (avOf b d).bind _ = some avs from ea) fun u eu ea => ?_
    refine mpd ea fun us es' e₀ => ?_
    cases e₀
    have f := Bool.and_eq_true_iff.mp (show ((!b || freshE x) && freshAt bs r) = true from f)
    have w := Bool.and_eq_true_iff.mp w
    have ih := sndEo hE hN hA el f.2 es' w.2
    cases b with
    | false => cases eu; exact teo_cons (sndE hO x hE hN hA w.1 ed) ih
    | true =>
      refine mpd (show (asList d).map AV.own = some u from eu) fun l' el' e₀ => ?_
      cases e₀
      rw [asList_s el'] at ed
      exact teo_own (sndF hO hE hN hA (by simpa using f.1) w.1 ed) ih
end
end
section
theorem zip_take {α : Type} (c : Nat → Bool) (k : Nat) : ∀ (l : List α) (off : Nat), (∀ i, i < l.length → c (off + i) = decide (k ≤ off + i)) → ((l.zipIdx off).filterMap fun p => if c p.2 then none else some p.1) = l.take (k - off) := by
  intro l0
  induction l0 with
  | nil =>
    intro _ _
    (simp)
  | cons x r ih0 =>
    intro off h
    rw [List.zipIdx_cons, List.filterMap_cons]
    have h0 := h 0 (Nat.succ_pos _)
    have ih := ih0 (off + 1) fun i hi => by
      have := h (i + 1) (Nat.succ_lt_succ hi)
      rw [show off + (i + 1) = off + 1 + i from (Nat.add_right_comm off 1 i).symm] at this
      exact this
    rw [Nat.add_zero] at h0
    show (match (if c off then none else some x) with | none => _ | some b => b :: _) = _
    rw [h0]
    by_cases q : k ≤ off
    · rw [decide_eq_true q, if_pos rfl]
      show List.filterMap _ _ = _
      rw [ih, Nat.sub_eq_zero_of_le (Nat.le_succ_of_le q), Nat.sub_eq_zero_of_le q]; rfl
    · rw [decide_eq_false q, if_neg (by decide)]
      show x :: List.filterMap _ _ = _
      rw [ih, show k - off = (k - (off + 1)) + 1 by rw [Nat.sub_add_eq, Nat.sub_add_cancel (Nat.sub_pos_of_lt (Nat.lt_of_not_le q))], List.take_succ_cons]
section
variable {A : Around} {E : Value → Shared → Prop} {s : Shared}
theorem delItem_cut {l sl : Addr} {vs : List Value} {n k : Nat} {vl : Value} {Q : Unit → Shared → Prop} (ho : s.heap.get? l = some (lsO vs n)) (hs : s.heap.IsSliceOf sl vl .none .none) (pl : IsPart vl (some (k : Int))) (len : vs.length ≤ big)
    (hQ : ∀ h' n', h'.get? l = some (lsO (vs.take k) n') → Heap.SameBut l s.heap h' → Q () { s with heap := h' }) : wpAny (model G.prog G.w) A (delItem (.ref l) (.ref sl)) Q E s := by
  obtain ⟨os, hos, hcs, hds⟩ := id hs
  have hTs : s.TypeIs (.ref sl) "slice" := ⟨os, hos, hcs⟩
  have hTl : s.TypeIs (.ref l) "list" := ⟨_, ho, rfl⟩
  refine wpAny_delItem_slot hTl (by decide) F.slot_list_delitem (wpAny_call_entry F.slot_list_delitem hTl F.entry_list_delitem ?_ (F.args_list_delitem_2 _ _))
  show wpAny _ _ (Builtin.List.listSubscript? (.ref sl) >>= _) _ _ s
  refine wpAny_bind ?_
  unfold Builtin.List.listSubscript?
  refine wpAny_bind (wpAny_specialOf hTs slice_no_index ?_)
  simp only [Option.isNone_none, if_true]
  refine wpAny_pure ?_
  show wpAny _ _ (typeOf (.ref sl) >>= _) _ _ s
  refine wpAny_bind (wpAny_typeOf hTs ?_)
  rw [if_neg (by decide)]
  rw [listSliceParts_eq]
  refine wpAny_bind (wpAny_bind (wpAny_field hos hds (x := .none) rfl (wpAny_bind (wpAny_listPart .none ?_))))
  rw [if_neg (show ¬ ((rawPart none == rawInt 0) = true) from Bool.false_ne_true)]
  refine wpAny_bind (wpAny_field hos hds (x := vl) rfl (wpAny_bind (wpAny_listPart pl ?_)))
  refine wpAny_bind (wpAny_field hos hds (x := .none) rfl (wpAny_bind (wpAny_listPart .none (wpAny_pure ?_))))
  refine wpAny_bind (m := Builtin.List.listItems (.ref l)) ?_
  unfold Builtin.List.listItems
  refine wpAny_bind (wpAny_seqItems ho rfl (wpAny_pure ?_))
  refine wpAny_bind (wpAny_of_eq (sliceIndices_raw (some (k : Int)) none none vs.toArray.size nofun) ?_)
  refine wpAny_bind (wpAny_rule ?_)
  have hb : sliceBounds (some (k : Int)) none none vs.toArray.size = (((min k vs.length : Nat) : Int), (vs.length : Int), 1) := by
    unfold sliceBounds
    have e : vs.toArray.size = vs.length := rfl
    simp only [Option.getD_none, e]
    rw [if_pos (by decide), if_neg (show ¬ ((k : Int) < 0) by lia)]
    refine Prod.ext ?_ rfl
    show max 0 (min (k : Int) (vs.length : Int)) = _
    lia
  rw [hb]
  have cut : ((vs.toArray.toList.zipIdx).filterMap fun p => if (decide (((min k vs.length : Nat) : Int) ≤ (p.2 : Int)) && decide ((p.2 : Int) < (vs.length : Int)) && (((p.2 : Int) - ((min k vs.length : Nat) : Int)) % 1 == 0)) then none else some p.1) = vs.take k := by
    have := zip_take (fun i => decide (((min k vs.length : Nat) : Int) ≤ (i : Int)) && decide ((i : Int) < (vs.length : Int)) && (((i : Int) - ((min k vs.length : Nat) : Int)) % 1 == 0)) k vs 0 fun i hi => by
      have e1 : (((0 + i : Nat) : Int) - ((min k vs.length : Nat) : Int)) % 1 = 0 := Int.emod_one _
      show (decide (((min k vs.length : Nat) : Int) ≤ ((0 + i : Nat) : Int)) && decide (((0 + i : Nat) : Int) < (vs.length : Int)) && ((((0 + i : Nat) : Int) - ((min k vs.length : Nat) : Int)) % 1 == 0)) = decide (k ≤ 0 + i)
      rw [e1, decide_eq_true (show ((0 + i : Nat) : Int) < (vs.length : Int) by lia)]
      by_cases c : k ≤ 0 + i
      · rw [decide_eq_true c, decide_eq_true (show ((min k vs.length : Nat) : Int) ≤ ((0 + i : Nat) : Int) by lia)]; rfl
      · rw [decide_eq_false c, decide_eq_false (show ¬ ((min k vs.length : Nat) : Int) ≤ ((0 + i : Nat) : Int) by lia)]; rfl
    exact this
  refine wpAny_bind (m := Builtin.List.listUpdate (.ref l) _) ?_
  show wpAny _ _ (updateSeq l _) _ _ s
  refine wpAny_updateSeq ho rfl ?_ (Nat.le_trans len big_size) ?_
  · refine wpAny_bind (wpAny_letGo (wpAny_pure ⟨_, rfl, hQ _ (if ((vs.take k).toArray).size == vs.toArray.size then n else n + 1) ?_ (Heap.SameBut.update ..)⟩))
    · refine (IsL.update (h := s.heap) (l := l) (items := vs.toArray) (n := n) ho _).trans ?_
      have e : ∀ x : Array Value, x = (vs.take k).toArray → some (({ cls := .type "list", dict := none, data := .seq x (if x.size == vs.toArray.size then n else n + 1), slots := #[] }) : Obj) = some (lsO (vs.take k) (if ((vs.take k).toArray).size == vs.toArray.size then n else n + 1)) := fun x hx => by rw [hx]
      exact e _ (congrArg List.toArray cut)
  · have e : ∀ x : Array Value, x = (vs.take k).toArray → x.size ≤ sizeLine + 1 := fun x hx => by
      rw [hx]
      exact Nat.le_succ_of_le (Nat.le_trans (List.length_take_le' _ _) (Nat.le_trans len big_size))
    exact e _ (congrArg List.toArray cut)
end
section
variable {env : Env} {A : Around} {L : Addr} {S : PS}
theorem tx_del [GOK] {l : Lc} {lo : Expr} {ds : List D} {j : D} {i : Int} {p t q : Pos} (hE : EnvOK env) (el : getL l S = some ds) (h : TE env A L S lo j) (ei : asInt j = some i) (hi : (decide (0 ≤ i) && fitI i) = true) :
    TX env A L S (.Delete [.Subscript (toL G.T l) (.Slice (some lo) none none q) t] p) .next (putL l (ds.take i.toNat) S) := fun m Z Y g s Q E st k => by
  rw [arm_exec_Delete]
  refine wpAny_bind (wpAny_standAt (wpAny_bind ?_))
  show wpAny _ A (do delete (.Subscript (toL G.T l) (.Slice (some lo) none none q) t) env; deleteEach [] env) _ _ s
  refine wpAny_bind (delete_Subscript (lc_eval hE st el fun tk => wpAny_Slice ?_))
  refine h m Z { s with toks := tk } _ E st.stt fun v h1 tk1 F1 kp1 dv => wpAny_pure (wpAny_pure ?_)
  have st1 := st.keep F1 kp1
  have p2 := Kp.push L h1 { cls := .type "slice", data := .fields #[v, .none, .none] }
  have st2 := st1.keep (F1.push { cls := .type "slice", data := .fields #[v, .none, .none] }) p2
  obtain ⟨yq, vs, n, ls⟩ := getL_own st2 el
  have h0 := of_decide_eq_true (Bool.and_eq_true_iff.mp hi).1
  rw [asInt_s ei] at dv
  obtain ⟨t', rfl⟩ := dv.int'
  have pt : IsPart (.int i t') (some ((i.toNat : Nat) : Int)) := by rw [Int.toNat_of_nonneg h0]; exact .int i t'
  refine delItem_cut (s := { s with heap := h1.push _, toks := tk1 }) ls.at_ ⟨_, Heap.get?_push_size _ rfl, rfl, rfl⟩ pt ls.len fun h3 n3 hD hs => ?_
  obtain ⟨x1, x2, x3⟩ := st2.mutL el hD (fun b o nb e => hs.extBut b o nb e) (ls.its.take _) (Nat.le_trans (List.length_take_le' _ _) ls.len)
  exact wpAny_pure (wpAny_pure (k m Z Y g h3 tk1 .next x1 (((Pres.ofKp st kp1).trans (Pres.ofKp st1 p2)).trans x2) x3 rfl))
theorem tx_unpSet [GOK] {x y : Nat} {i : Expr} {e : Ex} {ds : List D} {d1 d2 j : D} {kk : Nat} {l : Al} {p t u q r : Pos} (hE : EnvOK env) (hh : A.handled = none) (w : kW env.scope.names (G.T y) = true) (nt : notTup e = true) (h : TE env A L S (toE G.T e) (.tuple [d1, d2])) (el : ownOf (look x S.loc) = some ds) (hi : TE env A L S i j) (ej : placeOf ds.length j = some kk)
    (ep : putO y (.fz d2) (put x (.own (ds.set kk d1)) S.loc) = some l) :
    TX env A L S (.Assign [.Tuple [.Subscript (.Name (G.T x) q) i u, .Name (G.T y) r] 0 t] (toE G.T e) p) .next { S with loc := l } := fun m Z Y g s Q E st k => by
  obtain ⟨rfl, hk⟩ := placeOf_s ej
  refine gdd ep fun no e₀ => ?_
  cases e₀
  have no : isObj y (put x (.own (ds.set kk d1)) S.loc) = false := by simpa using no
  have w := Bool.and_eq_true_iff.mp w
  have el' : getL (.v x q) S = some ds := el
  have nox : isObj x S.loc = false := by unfold isObj; rw [ownOf_s el]
  refine Assign_Tuple (h m Z s _ E st.stt fun v h1 tk1 F1 kp1 dv => ?_) (swSole _ _ _ _ _ _) (swNone _ nt _ _ _)
  have st1 := st.keep F1 kp1
  obtain ⟨a, vs, n, z⟩ := dv.tuple'
  cases z.ref
  have zi := z.its
  cases zi with | @cons v1 _ _ _ i1 zi => cases zi with | @cons v2 _ _ _ i2 zi => cases zi with | nil =>
  refine assign_Tuple_tuple (s := { s with heap := h1, toks := tk1 }) hh z.is rfl rfl fun h2 he => ?_
  have ks : Ks h1 h2 := fun b o g => he b o (Nat.ne_of_lt (Heap.lt_size g)) g
  have st2 := st1.keep (Fr.ks F1 ks) (ks.kp L)
  have zL := st.stt.fm.zL
  show wpAny _ A (assignInOrder [assign (.Subscript (.Name (G.T x) q) i u) env, assign (.Name (G.T y) r) env] [v1, v2]) _ _ _
  refine assignInOrder_cons ?_
  rw [arm_assign_Subscript]
  refine wpAny_bind (wpAny_holding (lc_eval (l := .v x q) (s := { s with heap := h2, toks := tk1 }) hE st2 el' fun tk2 => ?_))
  refine wpAny_bind (wpAny_holding (hi m Z { s with heap := h2, toks := tk2 } _ E st2.stt fun vi h3 tk3 F3 kp3 di => ?_))
  have st3 := st2.keep F3 kp3
  obtain ⟨yq, ws, n3, ls⟩ := getL_own st3 el'
  obtain ⟨t', rfl⟩ := di.int'
  have lv := ls.its.length
  have i1' := (i1.mv ((ks.kp L).mv zL)).mv (kp3.mv zL)
  have i2' := (i2.mv ((ks.kp L).mv zL)).mv (kp3.mv zL)
  refine wpAny_bind (wpAny_standAt (wpAny_bind (wpAny_holding (setItem_at (s := { s with heap := h3, toks := tk3 }) ls.at_ (Int.natCast_nonneg _) (by lia) (by have := ls.len; unfold big at this; lia) fun h4 n4 hD hs => ?_))))
  rw [Int.toNat_natCast] at hD
  obtain ⟨x1, x2, x3⟩ := st3.mutL el' hD (fun b o nb e => hs.extBut b o nb e) (ls.its.set i1' kk) (by rw [List.length_set]; exact ls.len)
  have zq := st3.yz _ yq
  refine wpAny_release (assignInOrder_cons (wpAny_assign_Name (stx_store (s := { s with heap := h4, toks := tk3 }) (av := .fz d2) hE x1 w.1 w.2 no (Plc.dat (i2'.mv fun b o nz e => ⟨hs.extBut b o (fun c => nz (c ▸ zq)) e, nz⟩)) fun m' h5 tk5 g' st5 kt e1 e2 _ _ _ => assignInOrder_nil ?_)))
  exact k m' Z Y g' h5 tk5 .next st5 (((((Pres.ofKp st kp1).trans (Pres.ofKp st1 (ks.kp L))).trans (Pres.ofKp st2 kp3)).trans x2).trans (Pres.ofKt x1 kt)) ((OSame.put nox rfl rfl).trans (OSame.put no e1 e2)) rfl
end
end
section
structure ObjX (h : Heap) (Z Y : Addr → Prop) (o dx : Addr) (β : Nat → Addr) (ob : Al) : Prop where
  at_ : ∃ es n, h.get? o = some (instObj G.C dx) ∧ h.get? dx = some (dictOf es n) ∧ AttI h Z es ob ∧ ∀ k ds, look k ob = some (.own ds) → W.getL (G.T k) es = some (some (.ref (β k))) ∧ Y (β k)
  yo : Y o
  yd : Y dx
  yz : ∀ b, Y b → Z b
  ib : ∀ j k, (∃ ds, look j ob = some (.own ds)) → (∃ ds, look k ob = some (.own ds)) → β j = β k → j = k
noncomputable def MmOK (k : Nat) (f : Nat) (F : Al → List D → Option (D × Al)) : Prop := ∀ ob ds r, F ob ds = some r → ∃ fa, MethAt f fa ∧
  ∀ (A : Around) (s : Shared) (o dx : Addr) (β : Nat → Addr) (vals : List Value) (Z Y : Addr → Prop) (R : Result → Shared → Prop), Rm A k → Old s.heap → ZO s.heap Z → ObjX s.heap Z Y o dx β ob → DIs s.heap Z vals ds →
    (∀ v h' tk Z' Y' β', ObjX h' Z' Y' o dx β' r.2 → Pres s.heap Z Y h' Z' Y' → ZO h' Z' → DI h' Z' v r.1 → R (.ok (.ret v)) { s with heap := h', toks := tk }) → codeAny (model G.prog G.w) A (.call (.ref fa) ⟨.ref o :: vals, []⟩) R s
structure SndM (k : Nat) (O : Orc) : Prop extends SndO k O where
  mm : ∀ f, MmOK k f (O.mm f)
section
variable {k : Nat} {env : Env} {A : Around} {L : Addr} {S : PS} {m : Str → Option Value} {Z Y Z' Yc' : Addr → Prop} {h h' : Heap} {g : Lg}
noncomputable def Yob (g : Lg) (S : PS) (b : Addr) : Prop := b = g.o ∨ b = g.dx ∨ ∃ k, ownA S k ∧ b = g.β k
theorem StX.objX (p : StX env L m Z Y S h g) (hO : hasO S) : ObjX h Z (Yob g S) g.o g.dx g.β S.ob := by
  obtain ⟨es, n, g1, g2, ne, y, at', ow⟩ := p.od hO
  refine ⟨⟨es, n, g1, g2, at', fun k ds e => ⟨(ow k ds e).1, .inr (.inr ⟨k, ⟨ds, e⟩, rfl⟩)⟩⟩, .inl rfl, .inr (.inl rfl), fun b hb => ?_, fun j k a b e => p.ib j k a b e⟩
  rcases hb with rfl | rfl | ⟨k, ⟨ds, e⟩, rfl⟩
  · exact p.yz _ y.1
  · exact p.yz _ y.2
  · exact p.yz _ (ow k ds e).2
theorem StX.nobL (p : StX env L m Z Y S h g) (hO : hasO S) : ¬ Yob g S L := fun hb => by
  obtain ⟨es, n, g1, g2, ne, y, at', ow⟩ := p.od hO
  rcases hb with e | e | ⟨k, ⟨ds, ek⟩, e⟩
  · exact Fr.nplain p.stt.fm.fr g1 e.symm
  · exact ne e.symm
  · obtain ⟨_, v, r1, aa, vs, n, l⟩ := at'.get k _ ek
    obtain ⟨e1, y1⟩ := ow k ds ek
    rw [r1] at e1
    have e2 : v = .ref (g.β k) := Option.some.inj (Option.some.inj e1)
    have e3 : aa = g.β k := by rw [l.ref] at e2; cases e2; rfl
    exact Fr.notSeq p.stt.fm.fr (e3.trans e.symm ▸ l.at_) rfl
theorem StX.called {ob' : Al} {β' : Nat → Addr} (p : StX env L m Z Y S h g) (hO : hasO S) (X : ObjX h' Z' Yc' g.o g.dx β' ob') (pr : Pres h Z (Yob g S) h' Z' Yc') (zo : ZO h' Z') (F' : Fr G.H₀ L h' m) :
    StX env L m Z' (fun b => (Y b ∧ ¬ Yob g S b) ∨ Yc' b) { S with ob := ob' } h' { g with β := β' } ∧ Pres h Z Y h' Z' (fun b => (Y b ∧ ¬ Yob g S b) ∨ Yc' b) := by
  obtain ⟨es, n, g1, g2, ne, y, at', ow⟩ := p.od hO
  have yob : ∀ b, Yob g S b → Y b := fun b hb => by
    rcases hb with rfl | rfl | ⟨k, ⟨ds, e⟩, rfl⟩
    · exact y.1
    · exact y.2
    · exact (ow k ds e).2
  have kd : ∀ b, Yob g S b → ∃ o, h.get? b = some o ∧ (o = instObj G.C g.dx ∨ (∃ es n, o = dictOf es n) ∨ ∃ vs n, o = lsO vs n) := fun b hb => by
    rcases hb with rfl | rfl | ⟨k, ⟨ds, e⟩, rfl⟩
    · exact ⟨_, g1, .inl rfl⟩
    · exact ⟨_, g2, .inr (.inl ⟨_, _, rfl⟩)⟩
    · obtain ⟨_, v, r1, aa, vs, n, l⟩ := at'.get k _ e
      obtain ⟨e1, y1⟩ := ow k ds e
      rw [r1] at e1
      have e2 : v = .ref (g.β k) := Option.some.inj (Option.some.inj e1)
      have e3 : aa = g.β k := by rw [l.ref] at e2; cases e2; rfl
      exact ⟨_, e3 ▸ l.at_, .inr (.inr ⟨_, _, rfl⟩)⟩
  have nL := p.nobL hO
  have nC : ∀ {c : Addr} {v : Option Value}, h.IsCell c v → ¬ Yob g S c := fun {c v} ⟨o, gg, e⟩ hb => by
    obtain ⟨o', go, q⟩ := kd c hb
    rw [gg] at go; cases Option.some.inj go
    rcases q with rfl | ⟨_, _, rfl⟩ | ⟨_, _, rfl⟩ <;> cases e
  have nA : ∀ x, ownL S x → ¬ Yob g S (g.α x) := by
    rintro x ⟨ds, e⟩ hb
    obtain ⟨yq, vs, n', ls⟩ := getL_own (l := .v x ⟨0, 0, 0, 0⟩) p (show ownOf (look x S.loc) = some ds by rw [e]; rfl)
    have ls_at : h.get? (g.α x) = some (lsO vs n') := ls.at_
    rcases hb with q | q | ⟨k, ok, q⟩
    · rw [q, g1] at ls_at; cases Option.some.inj ls_at
    · rw [q, g2] at ls_at
      have := congrArg (fun o => o.map (·.data)) ls_at
      cases Option.some.inj this
    · exact p.ic x k ⟨ds, e⟩ ok q
  have mv : Mv h Z h' Z' := pr.mv fun b hb => p.yz b (yob b hb)
  have cl : ∀ {c : Addr} {v : Option Value}, h.IsCell c v → h'.IsCell c v := fun i => by
    have := nC i
    obtain ⟨o, gg, e⟩ := i
    exact ⟨o, pr.kept _ _ this gg, e⟩
  have vv : ∀ x v, VarV env L m h x v → VarV env L m h' x v := fun x v a => by
    rcases a with a | ⟨a, c, e, i⟩
    · exact .inl a
    · exact .inr ⟨a, c, e, cl i⟩
  have zz : ∀ b, Y b → ¬ Yob g S b → Z' b := fun b yb nb => by
    obtain ⟨o, e⟩ := p.stt.fm.za b (p.yz b yb)
    exact (pr.zs b o nb e).mpr (p.yz b yb)
  obtain ⟨⟨es', n', g1', g2', at'', ow'⟩, yo', yd', yz', ib'⟩ := X
  have od' : ∃ es n, h'.get? g.o = some (instObj G.C g.dx) ∧ h'.get? g.dx = some (dictOf es n) ∧ g.dx ≠ L ∧ (((Y g.o ∧ ¬ Yob g S g.o) ∨ Yc' g.o) ∧ ((Y g.dx ∧ ¬ Yob g S g.dx) ∨ Yc' g.dx)) ∧ AttI h' Z' es ob' ∧ ∀ k ds, look k ob' = some (.own ds) → W.getL (G.T k) es = some (some (.ref (β' k))) ∧ ((Y (β' k) ∧ ¬ Yob g S (β' k)) ∨ Yc' (β' k)) :=
    ⟨es', n', g1', g2', ne, ⟨.inr yo', .inr yd'⟩, at'', fun k ds e => ⟨(ow' k ds e).1, .inr (ow' k ds e).2⟩⟩
  refine ⟨⟨⟨⟨F', zz _ p.yL nL, zo.za, zo.zH⟩, fun x av e c => ?_, fun x hx => ?_, p.stt.dis⟩, p.loc, p.nf, p.nm, fun b hb => ?_, .inl ⟨p.yL, nL⟩, fun x c kx e => ?_, fun x ds e => ?_, fun x e => vv _ _ (p.ob x e), fun _ => od', fun no => absurd hO no, p.ia, fun i j a b e => ib' i j a b e, fun x j a b e => ?_⟩, ⟨fun b o n e => pr.kept b o (fun hb => n (yob b hb)) e, fun b hb => ?_, fun b o n e => pr.zs b o (fun hb => n (yob b hb)) e⟩⟩
  · obtain ⟨v, a, b⟩ := p.stt.rd x av e c
    refine ⟨v, vv _ _ a, ?_⟩
    cases av with
    | fz d => exact DI.mv mv b
    | own ds =>
      obtain ⟨e1, y1⟩ := p.al x ds e
      have e2 := a.uniq e1
      obtain ⟨aa, vs, n, l⟩ := b
      have e3 : aa = g.α x := by rw [l.ref] at e2; cases e2; rfl
      exact ⟨aa, vs, n, l.ref, pr.kept _ _ (e3 ▸ nA x ⟨ds, e⟩) l.at_, l.len, l.its.mv mv⟩
    | obj =>
      have e2 := a.uniq (p.ob x e)
      exact ⟨g.o, e2, g.dx, es', n', g1', g2', ne, at''⟩
  · obtain ⟨c, v, e, i, z⟩ := p.stt.cel x hx
    have yc : Y c := by
      rcases hx with hx | hx
      · exact p.yC _ _ hx e
      · exact absurd hx (p.nf x)
    exact ⟨c, v, e, cl i, zz c yc (nC i)⟩
  · rcases hb with hb | hb
    · exact zz b hb.1 hb.2
    · exact yz' b hb
  · obtain ⟨c', v, e', i, z⟩ := p.stt.cel x (.inl kx)
    rw [e] at e'; cases Option.some.inj e'
    exact .inl ⟨p.yC _ _ kx e, nC i⟩
  · obtain ⟨e1, y1⟩ := p.al x ds e
    exact ⟨vv _ _ e1, .inl ⟨y1, nA x ⟨ds, e⟩⟩⟩
  · obtain ⟨ds, ej⟩ := b
    obtain ⟨dsx, ex⟩ := a
    have e : g.α x = β' j := e
    have yj := (ow' j ds ej).2
    rw [← e] at yj
    obtain ⟨o, go⟩ := p.stt.fm.za _ (p.yz _ (p.al x dsx ex).2)
    rcases pr.ys _ yj with q | q
    · exact nA x ⟨dsx, ex⟩ q
    · rw [go] at q; cases q
  · rcases hb with hb | hb
    · exact .inl hb.1
    · rcases pr.ys b hb with q | q
      · exact .inl (yob b q)
      · exact .inr q
theorem Fr.called (p : StX env L m Z Y S h g) (hO : hasO S) (pr : Pres h Z (Yob g S) h' Z' Yc') : Fr G.H₀ L h' m :=
  ⟨p.stt.fm.fr.ns.at' fun o e => pr.kept _ o (p.nobL hO) e, fun b o e => pr.kept b o (fun hb => by
    have : Z b := by
      obtain ⟨es, n, g1, g2, ne, y, at', ow⟩ := p.od hO
      rcases hb with rfl | rfl | ⟨k, ⟨ds, ek⟩, rfl⟩
      · exact p.yz _ y.1
      · exact p.yz _ y.2
      · exact p.yz _ (ow k ds ek).2
    exact nso (p.stt.fm.zH b this) e) (p.stt.fm.fr.keep b o e), p.stt.fm.fr.above⟩
theorem tx_mcall [GOK] {x f : Nat} {es : List Expr} {ds : List D} {r : D × Al} {p c a q : Pos} {F : Al → List D → Option (D × Al)} (hE : EnvOK env) (hA : Rm A k) (hF : MmOK k f F) (hes : ∀ e ∈ es, okE e = true) (h0 : es = [] → ds = []) (h : TEs env A L S es ds) (ho : isObj x S.loc = true)
    (hn : es.length < 30) (hp : a.endLine = c.line) (e : F S.ob ds = some r) (hr : isNo r.1 = true) : TX env A L S (.Expr (.Call (.Attribute (.Name (G.T x) q) (G.T f) a) es [] c) p) .next { S with ob := r.2 } := fun m Z Y g s Q E st kk => by
  obtain ⟨fa, M, hc⟩ := hF S.ob ds r e
  have hx := isObj_s ho
  have hO : hasO S := ⟨x, hx⟩
  obtain ⟨es', n, g1, g2, ne, y, at', ow⟩ := st.od hO
  refine wpAny_Expr (MethodCall_ (name_ok st.stt.fm.fr hE (st.nm x _ hx) (st.ob x hx) (method_inst st.stt.fm.fr GOK.X ⟨g1, rfl, rfl, g2⟩ M.get M.find M.fn (at'.non _ fun j av q q' => ?_) (callW_ok (first := [.ref g.o]) h h0 hes st.stt M.keep fun vs h1 tk1 F1 kp1 i => ?_))) (methCall_gen rfl hes hn hp)) (notInteractive hE) rfl
  · rw [G_inj _ _ q'] at q; exact M.no (at'.get f av q).1
  · have st1 := st.keep F1 kp1
    refine wpAny_call (hc A { s with heap := h1, toks := tk1 } g.o g.dx g.β vs Z (Yob g S) _ hA (Fr.old F1) st1.stt.zo (st1.objX hO) i fun v h2 tk2 Z2 Y2 β2 X pr zo dv => ?_)
    have hv : v = .none := by
      generalize r.1 = r1 at dv hr
      cases dv with
      | none => rfl
      | _ => cases hr
    subst hv
    obtain ⟨x1, x2⟩ := st1.called hO X pr zo (Fr.called st1 hO pr)
    exact kk m _ _ _ h2 tk2 .next x1 ((Pres.ofKp st kp1).trans x2) (fun o => ⟨o, rfl, rfl⟩) rfl
end
end
section
theorem noObj_s : ∀ {l : Al}, noObj l = true → ∀ x, look x l ≠ some .obj := by
  intro l
  induction l with
  | nil => intro _ x e; cases e
  | cons q r ih =>
    obtain ⟨y, v⟩ := q
    intro h x e
    have e : (if y = x then some v else look x r) = some .obj := e
    cases v with
    | obj => cases h
    | _ =>
      by_cases c : y = x
      · rw [if_pos c] at e; cases Option.some.inj e
      · rw [if_neg c] at e; exact ih h x e
section
variable {k : Nat} {env : Env} {A : Around} {L : Addr} {S : PS} {m : Str → Option Value} {Z Y Yc : Addr → Prop} {g : Lg}
theorem stx_storeO {x o dx : Addr} {y : Nat} {β : Nat → Addr} {ob' : Al} {s : Shared} {Q : Unit → Shared → Prop} {E : Value → Shared → Prop} (hE : EnvOK env) (p : StX env L m Z Y S s.heap g) (c : kS env.scope.names (G.T y) = true) (cv : kV env.scope.names (G.T y) = true) (no : ¬ hasO S)
    (X : ObjX s.heap Z Yc o dx β ob') (yy : ∀ b, Yc b → Y b) (nL : dx ≠ L) (na : ∀ x, ownL S x → ¬ Yc (g.α x))
    (k : ∀ m' h' tk g', StX env L m' Z Y { loc := put y .obj S.loc, ob := ob' } h' g' → Kt (Tn env L [y]) s.heap h' → Q () { s with heap := h', toks := tk }) :
    wpAny (model G.prog G.w) A (storeName env (G.T y) (.ref o)) Q E s := by
  obtain ⟨⟨es, n, g1, g2, at', ow⟩, yo, yd, yz, ib⟩ := X
  have st1 : Stt env L m Z { S with ob := ob' } s.heap := ⟨p.stt.fm, fun x av e c => by
    obtain ⟨v, a, b⟩ := p.stt.rd x av e c
    refine ⟨v, a, ?_⟩
    cases av with
    | fz d => exact b
    | own ds => exact b
    | obj => exact absurd ⟨x, e⟩ no, p.stt.cel, p.stt.dis⟩
  refine store_ok (av := .obj) hE p.loc st1 c ⟨o, rfl, dx, es, n, g1, g2, nL, at'⟩ fun m' h' tk st' kt hm vx => ?_
  have T : Tch L s.heap (Tn env L [y]) := Tn.tch p.stt
  have mv : Mv s.heap Z h' Z := kt.mv fun b hb => Tn.z p.stt hb
  have oth : ∀ z w, z ≠ y → VarV env L m s.heap (G.T z) w → VarV env L m' h' (G.T z) w := fun z w ny vv => by
    rcases vv with ⟨a1, a2, a3⟩ | ⟨a1, c1, e1, i1⟩
    · exact .inl ⟨a1, a2, (hm _ fun e => ny (G_inj _ _ e)).trans a3⟩
    · refine .inr ⟨a1, c1, e1, ?_⟩
      obtain ⟨o, gg, q⟩ := i1
      refine ⟨o, kt _ _ (fun hb => ?_) gg, q⟩
      rcases hb with rfl | ⟨z', hz, k1, e2⟩
      · exact Fr.ncell p.stt.fm.fr ⟨o, gg, q⟩ rfl
      · rw [List.mem_singleton.mp hz] at k1 e2
        exact ny (G_inj _ _ (p.stt.dis _ _ c1 a1 (.inl k1) e1 e2))
  have lp : ∀ z, look z (put y .obj S.loc) = if z = y then some .obj else look z S.loc := fun z => look_put y z .obj S.loc
  have oL : ∀ z, ownL { loc := put y .obj S.loc, ob := ob' } z → z ≠ y ∧ ownL S z := by
    rintro z ⟨ds, e⟩
    have e : look z (put y .obj S.loc) = some (.own ds) := e
    rw [lp] at e
    by_cases c : z = y
    · rw [if_pos c] at e; cases Option.some.inj e
    · rw [if_neg c] at e; exact ⟨c, ds, e⟩
  refine k m' h' tk { α := g.α, β := β, o := o, dx := dx } ⟨st', p.loc, p.nf, fun z av e => ?_, p.yz, p.yL, p.yC, fun z ds e => ?_, fun z e => ?_, fun _ => ⟨es, n, kt _ _ (T.inst p.stt.fm.fr g1) g1, kt _ _ (T.dict g2 nL) g2, nL, ⟨yy _ yo, yy _ yd⟩, at'.mvt p.stt.fm.fr T kt mv, fun k ds e => ⟨(ow k ds e).1, yy _ (ow k ds e).2⟩⟩, fun no' => absurd ⟨y, by show look y (put y .obj S.loc) = _; rw [lp, if_pos rfl]⟩ no', fun a b oa ob e => p.ia a b (oL a oa).2 (oL b ob).2 e, ib, fun a b oa ob e => ?_⟩ kt
  · have e : look z (put y .obj S.loc) = some av := e
    rw [lp] at e
    by_cases c : z = y
    · exact c ▸ cv
    · rw [if_neg c] at e; exact p.nm z av e
  · obtain ⟨nz, ds', e'⟩ := oL z ⟨ds, e⟩
    exact ⟨oth z _ nz (p.al z ds' e').1, (p.al z ds' e').2⟩
  · have e : look z (put y .obj S.loc) = some .obj := e
    rw [lp] at e
    by_cases c : z = y
    · subst c; exact vx
    · rw [if_neg c] at e; exact absurd ⟨z, e⟩ no
  · obtain ⟨ds, eb⟩ := ob
    have e : g.α a = β b := e
    exact na a (oL a oa).2 (e ▸ (ow b ds eb).2)
theorem tc_weight (C : Addr) (rest : List Value) (kw : List (Str × Value)) : Code.weight (.builtin "type.__call__" ⟨.ref C :: rest, kw⟩) = 1 := by
  have g : Code.isGuard (.builtin "type.__call__" ⟨.ref C :: rest, kw⟩) = false := by
    show guardIds.contains "type.__call__" = false
    decide +kernel
  unfold Code.weight
  rw [g]
  rfl
theorem tc_units (C : Addr) (rest : List Value) (kw : List (Str × Value)) : Code.cUnits (.builtin "type.__call__" ⟨.ref C :: rest, kw⟩) = 1 := rfl
theorem Rm.under {A : Around} {k : Nat} {C : Addr} {rest : List Value} {kw : List (Str × Value)} (h : Rm A (k + 1)) : Rm (A.under (.builtin "type.__call__" ⟨.ref C :: rest, kw⟩)) k := by
  have h3 := h.2.1
  have h4 := h.2.2
  refine ⟨h.1, ?_, ?_⟩
  · show A.depth + Code.weight (.builtin "type.__call__" ⟨.ref C :: rest, kw⟩) + k < recursionLimit
    rw [tc_weight]; lia
  · show A.units + Code.cUnits (.builtin "type.__call__" ⟨.ref C :: rest, kw⟩) + 20 * k + 200 < cLine
    rw [tc_units]; lia
theorem attI_nil {h : Heap} {Z : Addr → Prop} : AttI h Z [] [] := ⟨rfl, (fun _ h => nomatch h), (fun _ _ e => nomatch e), fun _ _ => rfl⟩
theorem tx_new [GOK] {x f : Nat} {es : List Expr} {ds : List D} {r : D × Al} {p q c cr : Pos} {F : Al → List D → Option (D × Al)} (hE : EnvOK env) (hA : Rm A (k + 1)) (w : kW env.scope.names (G.T x) = true) (cg : kG env.scope.names (G.T f) = true) (hC : nsIn G.K mainGlobals (G.T f) = some (some (.ref G.C))) (hk : keepIn G.K (.ref G.C) = true) (hm : makesIn G.K G.C = true) (h0' : G.T 0 = "__init__")
    (hF : MmOK k 0 F) (hes : ∀ e ∈ es, okE e = true) (h0 : es = [] → ds = []) (h : TEs env A L S es ds) (e : F [] ds = some r) (hr : (isNo r.1 && noObj S.loc && S.ob.isEmpty) = true) :
    TX env A L S (.Assign [.Name (G.T x) q] (.Call (.Name (G.T f) cr) es [] c) p) .next { loc := put x .obj S.loc, ob := r.2 } := fun m Z Y g s Q E st kk => by
  obtain ⟨fa, M, hc⟩ := hF [] ds r e
  have hr1 := Bool.and_eq_true_iff.mp hr
  have hr2 := Bool.and_eq_true_iff.mp hr1.1
  have no : ¬ hasO S := by rintro ⟨y, q⟩; exact noObj_s hr2.2 y q
  have w := Bool.and_eq_true_iff.mp w
  have find : findIn G.K (.ref G.C) "__init__" = some (some (.ref fa)) := h0' ▸ M.find
  refine wpAny_Assign_Name (Call_ (glob_ok st.stt.fm.fr hE hC cg (callW_ok h h0 hes st.stt hk fun vs h1 tk1 F1 kp1 i => ?_)) rfl) rfl
  have st1 := st.keep F1 kp1
  refine wpAny_call (make_K (s := { s with heap := h1, toks := tk1 }) F1 (allOf_news _ _ _) (GOK.X.keeps F1.keep) hm find (beq_iff_eq.mp M.fn) fun o dx h2 F2 N2 above lt => ?_)
  have kp2 : Kp L h1 h2 := kp_of (more := [_, _]) F1 F2 N2
  have go := N2 (o, instObj G.C dx) (.head _)
  have gdx := N2 (dx, emptyDict) (.tail _ (.head _))
  have fresh : ∀ b, b ≠ L → G.H₀.get? b = none → Nat.le dx b → h1.get? b = none := fun b nb hb le => by
    cases z : h1.get? b with
    | none => rfl
    | some ob => exact absurd (above (b, ob) (allOf_mem.mpr ⟨z, nb, hb⟩)) (Nat.not_lt.mpr le)
  have fo := fresh o go.2.1 go.2.2 (Nat.le_of_lt lt)
  have fd := fresh dx gdx.2.1 gdx.2.2 (Nat.le_refl _)
  let Z1 : Addr → Prop := fun b => Z b ∨ (b = o ∨ b = dx)
  have mv1 : Mv h1 Z h2 Z1 := kp2.mvW st.stt.fm.zL fun b hb => by
    rcases hb with rfl | rfl
    · exact fo
    · exact fd
  have za1 : ∀ z, Z1 z → ∃ ob, h2.get? z = some ob := fun z hz => by
    rcases hz with hz | rfl | rfl
    · exact (st1.stt.keep F2 kp2).fm.za z hz
    · exact ⟨_, go.1⟩
    · exact ⟨_, gdx.1⟩
  have zH1 : ∀ z, Z1 z → G.H₀.get? z = none := fun z hz => by
    rcases hz with hz | rfl | rfl
    · exact st.stt.fm.zH z hz
    · exact go.2.2
    · exact gdx.2.2
  have st2 : StX env L m Z1 (fun b => Y b ∨ (b = o ∨ b = dx)) S h2 g := st1.grow F2 kp2 mv1 (fun _ z => .inl z) za1 zH1 (fun _ y => .inl y) (fun b y => y.imp (st.yz b) id)
  have X0 : ObjX h2 Z1 (fun b => b = o ∨ b = dx) o dx g.β [] := ⟨⟨[], 0, go.1, gdx.1, attI_nil, fun _ _ e => nomatch e⟩, .inl rfl, .inr rfl, fun _ hb => .inr hb, by rintro _ _ ⟨_, e⟩; cases e⟩
  refine hc _ { s with heap := h2, toks := tk1 } o dx g.β vs Z1 (fun b => b = o ∨ b = dx) _ (Rm.under hA) (Fr.old F2) ⟨za1, zH1⟩ X0 (i.mv mv1) fun v h3 tk3 Z3 Y3 β3 X3 pr zo dv => ?_
  have hv : v = .none := by
    have hr0 := hr2.1
    generalize r.1 = r1 at dv hr0
    cases dv with
    | none => rfl
    | _ => cases hr0
  refine ⟨hv, ?_⟩
  have nb : ∀ b, Y b → ¬ (b = o ∨ b = dx) := fun b y hb => by
    obtain ⟨ob, e⟩ := st1.stt.fm.za b (st.yz b y)
    rcases hb with rfl | rfl
    · exact nso (fo) e
    · exact nso (fd) e
  have keptY : ∀ b ob, Y b → h2.get? b = some ob → h3.get? b = some ob := fun b ob y e => pr.kept b ob (nb b y) e
  have mv3 : Mv h2 Z1 h3 Z3 := pr.mv fun b hb => .inr hb
  have F3 : Fr G.H₀ L h3 m := ⟨F2.ns.at' fun ob e => keptY _ ob st.yL e, fun b ob e => pr.kept b ob (fun hb => by
    rcases hb with rfl | rfl
    · exact nso (go.2.2) e
    · exact nso (gdx.2.2) e) (F2.keep b ob e), F2.above⟩
  have y3 : ∀ b, Y b → ¬ Y3 b := fun b y hb => by
    rcases pr.ys b hb with q | q
    · exact nb b y q
    · obtain ⟨ob, e⟩ := st2.stt.fm.za b (.inl (st.yz b y))
      rw [e] at q; cases q
  have z3 : ∀ b, Y b → Z3 b := fun b y => by
    obtain ⟨ob, e⟩ := st2.stt.fm.za b (.inl (st.yz b y))
    exact (pr.zs b ob (nb b y) e).mpr (.inl (st.yz b y))
  have st2' : StX env L m Z1 Y S h2 g := st1.grow F2 kp2 mv1 (fun _ z => .inl z) za1 zH1 (fun _ y => y) (fun b y => .inl (st.yz b y))
  have st3 : StX env L m Z3 Y S h3 g := st2'.off (t := fun b => b = o ∨ b = dx) (fun b ob n e => pr.kept b ob n e) (fun b hb y => nb b y hb) mv3 z3 zo.za zo.zH F3
  have st4 : StX env L m Z3 (fun b => Y b ∨ Y3 b) S h3 g := st3.grow F3 (Kp.refl _ _) (fun b ob nz e => ⟨e, nz⟩) (fun _ z => z) zo.za zo.zH (fun _ y => .inl y) (fun b y => y.elim (z3 b) (X3.yz b))
  have old : ∀ b ob, b ≠ L → s.heap.get? b = some ob → ¬ (b = o ∨ b = dx) := fun b ob nL e hb => by
    have e1 := kp1 b ob nL e
    rcases hb with rfl | rfl
    · exact nso (fo) e1
    · exact nso (fd) e1
  have pr4 : Pres s.heap Z Y h3 Z3 (fun b => Y b ∨ Y3 b) := by
    refine ⟨fun b ob n e => ?_, fun b hb => ?_, fun b ob n e => ?_⟩
    · have nL : b ≠ L := fun c => n (c ▸ st.yL)
      exact pr.kept b ob (old b ob nL e) (kp2 b ob nL (kp1 b ob nL e))
    · rcases hb with hb | hb
      · exact .inl hb
      · by_cases c : b = L
        · exact .inl (c ▸ st.yL)
        · cases z : s.heap.get? b with
          | none => exact .inr rfl
          | some ob =>
            rcases pr.ys b hb with q | q
            · exact absurd q (old b ob c z)
            · rw [kp2 b ob c (kp1 b ob c z)] at q; cases q
    · have nL : b ≠ L := fun c => n (c ▸ st.yL)
      have no' := old b ob nL e
      refine (pr.zs b ob no' (kp2 b ob nL (kp1 b ob nL e))).trans ⟨fun z => z.elim id fun q => absurd q no', fun z => .inl z⟩
  show wpAny _ A (storeName env (G.T x) (.ref o)) _ _ _
  refine stx_storeO (s := { s with heap := h3, toks := tk3 }) (x := o) hE st4 w.1 w.2 no X3 (fun b hb => .inr hb) gdx.2.1 (by rintro a ⟨d, ea⟩ hb; exact y3 _ (st.al a d ea).2 hb) fun m5 h5 tk5 g5 st5 kt => ?_
  exact kk m5 Z3 _ g5 h5 tk5 .next st5 (pr4.trans (Pres.ofKt st4 kt)) (fun oo => absurd oo no) rfl
end
end
section
noncomputable def opOK : Op → Bool
  | .add | .sub => true
  | _ => false
theorem opOK_s {o : Op} (h : opOK o = true) : o = .add ∨ o = .sub := by
  cases o <;> first | exact .inl rfl | exact .inr rfl | cases h
noncomputable def wfF (T : Nat → Str) (ns : Nms) (many : Bool) : Sr → Bool
  | .seq e => wfV T ns e
  | s => wfS T ns many s
noncomputable def swOK (T : Nat → Str) (ns : Nms) (ts : List Tg) (es : Exs) : Bool := match swP ns (ts.map (toG T)) (toEs T es) with
  | some none => true
  | some (some names) => match nmOf ts with
    | some xs => names == xs.map (fun x => T x.1) && nodupB (xs.map (·.1)) && (xs.length == 2 || xs.length == 3)
    | none => false
  | none => false
mutual
noncomputable def wfM (T : Nat → Str) (ns : Nms) (ats : List Nat) (cls : Nat) : Sm → Bool
  | .app _ e _ c a => wfE T ns e && decide (a.endLine = c.line)
  | .asg x _ e _ _ => kW ns (T x) && wfE T ns e
  | .asgT ts es _ _ _ => (ts.map (·.1)).all (wfG T ns ats) && wfEs T ns es && decide (lenEs es ≤ 64) && swOK T ns (ts.map (·.1)) es
  | .unp ts e _ _ => ts.all (wfG T ns ats) && notTup e && wfE T ns e
  | .asgA _ a _ e _ _ _ => ats.contains a && wfE T ns e
  | .aug x o e _ _ => kW ns (T x) && opOK o && wfE T ns e
  | .augA _ _ o e _ _ _ => opOK o && wfE T ns e
  | .ext x e _ _ => kW ns (T x) && wfE T ns e
  | .setI _ i e _ _ => wfE T ns i && wfE T ns e
  | .unpSet _ i y e _ _ _ _ _ => kW ns (T y) && notTup e && wfE T ns i && wfE T ns e
  | .del _ lo _ _ _ => wfE T ns lo
  | .pop y _ i _ _ c a _ => kW ns (T y) && wfE T ns i && decide (a.endLine = c.line)
  | .mcall _ _ es _ c a _ => wfEs T ns es && decide (lenEs es < 30) && decide (a.endLine = c.line)
  | .new x f es _ _ _ _ => kW ns (T x) && kG ns (T f) && decide (f = cls) && wfEs T ns es
  | .ite t a b _ => wfT T ns t && wfMs T ns ats cls a && wfMs T ns ats cls b
  | .for_ tg src b _ => wfYs ns T (txNames tg) && wfF T ns (isMany tg) src && wfMs T ns ats cls b
  | .ret e _ => wfE T ns e
  | .retN _ | .brk _ | .frz _ | .frzA _ => true
noncomputable def wfMs (T : Nat → Str) (ns : Nms) (ats : List Nat) (cls : Nat) : Sms → Bool
  | .nil => true
  | .cons s r => wfM T ns ats cls s && wfMs T ns ats cls r
end
structure ClsOK (cls : Nat) : Prop where
  at_ : nsIn G.K mainGlobals (G.T cls) = some (some (.ref G.C))
  keep : keepIn G.K (.ref G.C) = true
  makes : makesIn G.K G.C = true
  init : G.T 0 = "__init__"
section
variable {env : Env} {A : Around} {L : Addr} {S S' : PS}
theorem swA (T : Nat → Str) (e : Ex) (o : Expr) (a : Str) (t : Pos) (n : Nat) : swapsWith (toE T e) (some (.Attribute o a t)) n env = pure false := by cases e <;> rfl
theorem swS (T : Nat → Str) (e : Ex) (o i : Expr) (t : Pos) (n : Nat) : swapsWith (toE T e) (some (.Subscript o i t)) n env = pure false := by cases e <;> rfl
theorem nm_refl : NmOK env env.scope.names := ⟨fun _ h => h, fun _ h => h, fun _ h => h⟩
noncomputable def MS (env : Env) (A : Around) (L : Addr) (S : PS) (ms : List Stmt) (fl : Fl) (S' : PS) : Prop := (ms = [] ∧ fl = .next ∧ TZ env L S S') ∨ ∃ st, ms = [st] ∧ TX env A L S st fl S'
theorem MS.one {st : Stmt} {fl : Fl} (h : TX env A L S st fl S') : MS env A L S [st] fl S' := .inr ⟨st, rfl, h⟩
theorem MS.seq {ms rest : List Stmt} {S₁ S₂ : PS} {fl : Fl} (a : MS env A L S ms .next S₁) (b : TM env A L S₁ rest fl S₂) : TM env A L S (ms ++ rest) fl S₂ := by
  rcases a with ⟨rfl, _, z⟩ | ⟨st, rfl, h⟩
  · intro m Z Y g s Q E x k
    obtain ⟨Z1, Y1, x1, p1, o1⟩ := z m Z Y g s.heap x
    exact b m Z1 Y1 g s Q E x1 fun m2 Z2 Y2 g2 h2 tk2 f2 x2 p2 o2 fo => k m2 Z2 Y2 g2 h2 tk2 f2 x2 (p1.trans p2) (o1.trans o2) fo
  · exact tm_cons h b
theorem MS.stop {ms rest : List Stmt} {S₁ : PS} {fl : Fl} (a : MS env A L S ms fl S₁) (ne : fl ≠ .next) : TM env A L S (ms ++ rest) fl S₁ := by
  rcases a with ⟨_, e, _⟩ | ⟨st, rfl, h⟩
  · exact absurd e ne
  · exact tm_stop h ne
end
section
variable {k : Nat} {O : Orc} (hO : SndM k O) {cls : Nat} (hC : ClsOK cls)
include hO
theorem sndSf [GOK] {src : Sr} {tg : Tx} {env : Env} {A : Around} {L : Addr} {S : PS} {items : List D} {ns : Nms} (hE : EnvOK env) (hN : NmOK env ns) (hA : Rm A k) (w : wfF G.T ns (isMany tg) src = true) (e : evSr O src S = some items) : TS env A L S (toTg G.T tg) false (toS G.T src) items := by
  cases src with
  | seq q =>
    refine bnd (show (evQ O q S).bind _ = some items from e) fun x ex e2 => ?_
    cases q with
    | v a => exact ts_v hA.1 (sndE hO.toSndO a hE hN hA w ex) e2
    | ov => cases w
    | oa => cases w
  | rng es p q =>
    refine bnd (show (evs O es S).bind _ = some items from e) fun ds ed e => ?_
    refine bnd e fun is ei e => ?_
    have w := Bool.and_eq_true_iff.mp w
    exact ts_rng hE hA.1 (hN.g _ w.1) (okE_Es _ es) (sndEs hO.toSndO es hE hN hA w.2 ed) (evs_nil ed) ei e
  | enum q p p' =>
    refine bnd (show (evQ O q S).bind _ = some items from e) fun x ex e => ?_
    refine mpd e fun l el e₀ => ?_
    cases e₀
    have w := Bool.and_eq_true_iff.mp w
    have w1 := Bool.and_eq_true_iff.mp w.1
    cases tg with
    | one => cases w.2
    | many xs tp =>
      cases q with
      | v a => exact ts_enum hE hA.1 (hN.g _ w1.1) (okE_E _ a) (sndE hO.toSndO a hE hN hA w1.2 ex) el
      | ov => cases w1.2
      | oa => cases w1.2
  | zip a b p p' =>
    refine bnd (show (evQ O a S).bind _ = some items from e) fun x ex e => ?_
    refine bnd e fun y ey e => ?_
    refine bnd e fun l el e => ?_
    refine mpd e fun t et e₀ => ?_
    cases e₀
    have w := Bool.and_eq_true_iff.mp w
    have w1 := Bool.and_eq_true_iff.mp w.1
    have w2 := Bool.and_eq_true_iff.mp w1.1
    cases tg with
    | one => cases w.2
    | many xs tp =>
      cases a with
      | v a =>
        cases b with
        | v b => exact ts_zip hE hA.1 (hN.g _ w2.1) (okE_E _ a) (okE_E _ b) (sndE hO.toSndO a hE hN hA w2.2 ex) (sndE hO.toSndO b hE hN hA w1.2 ey) el et
        | ov => cases w1.2
        | oa => cases w1.2
      | ov => cases w2.2
      | oa => cases w2.2
omit hO in
theorem avOf_s {b : Bool} {d : D} {v : AV} (e : avOf b d = some v) : (b = false ∧ v = .fz d) ∨ ∃ l, b = true ∧ d = .list l ∧ v = .own l := by
  cases b with
  | false => cases Option.some.inj e; exact .inl ⟨rfl, rfl⟩
  | true =>
    refine mpd (show (asList d).map AV.own = some v from e) fun l el e₀ => ?_
    cases e₀
    exact .inr ⟨l, rfl, asList_s el, rfl⟩
include hC
mutual
theorem sndM [GOK] : ∀ (x : Sm) {env : Env} {A : Around} {L : Addr} {S : PS} {r : Fl × PS}, EnvOK env → Rm A (k + 1) → wfM G.T env.scope.names G.attrs cls x = true → ex O x S = some r → MS env A L S (toM G.T x) r.1 r.2
  | .app l e p c a, env, A, L, S, r, hE, hA, w, h => by
    refine bnd (show (getL l S).bind _ = some r from h) fun ds ed h => ?_
    refine bnd h fun d ee h => ?_
    refine gdd h fun hl e₀ => ?_
    cases e₀
    have w := Bool.and_eq_true_iff.mp w
    exact .one (tx_app hE (okE_E _ e) (of_decide_eq_true w.2) ed (sndE hO.toSndO e hE nm_refl (hA.le (Nat.le_succ _)) w.1 ee) (of_decide_eq_true hl))
  | .asg x own e p q, env, A, L, S, r, hE, hA, w, h => by
    refine bnd (show (ev O e S).bind _ = some r from h) fun d ed h => ?_
    refine bnd h fun _ hf h => ?_
    refine gdd hf fun hf _ => ?_
    refine bnd h fun v ev' h => ?_
    refine mpd h fun l el e₀ => ?_
    cases e₀
    have ww := Bool.and_eq_true_iff.mp w
    have hA' := hA.le (Nat.le_succ k)
    by_cases cmp : ∃ a b c d f p, e = .comp a b c d f p
    · obtain ⟨elt, tg, src, cond, sc, pc, rfl⟩ := cmp
      obtain ⟨ds, rfl, ct⟩ := sndComp hO.toSndO (L := L) hE nm_refl hA' ww.2 ed
      exact .one (tx_comp hE hA.1 ww.1 ct ev' el)
    · have sw := notComp (env := env) (e := e) (fun a b c d f p q => cmp ⟨a, b, c, d, f, p, q⟩) G.T (some (.Name (G.T x) q)) p.line
      rcases avOf_s ev' with ⟨rfl, rfl⟩ | ⟨ds, rfl, rfl, rfl⟩
      · exact .one (tx_asg hE ww.1 sw (sndE hO.toSndO e hE nm_refl hA' ww.2 ed) el)
      · exact .one (tx_asgO hE ww.1 sw (sndF hO.toSndO hE nm_refl hA' hf ww.2 ed) el)
  | .asgT ts es p t v, env, A, L, S, r, hE, hA, w, h => by
    refine bnd (show (evs O es S).bind _ = some r from h) fun ds ed h => ?_
    refine bnd h fun _ hf h => ?_
    refine gdd hf fun hf _ => ?_
    refine bnd h fun avs ea h => ?_
    refine mpd h fun S' es' e₀ => ?_
    cases e₀
    have w := Bool.and_eq_true_iff.mp w
    have w1 := Bool.and_eq_true_iff.mp w.1
    have w2 := Bool.and_eq_true_iff.mp w1.1
    have teo := sndEo hO.toSndO (L := L) hE nm_refl (hA.le (Nat.le_succ k)) ed hf ea w2.2
    have hl : avs.length ≤ big := by
      have : ∀ {bs : List Bool} {ds : List D} {avs : List AV}, avsOf bs ds = some avs → avs.length = ds.length := by
        intro bs
        induction bs with
        | nil => intro ds avs e; cases ds with | nil => cases e; rfl | cons => cases e
        | cons b bs ih =>
          intro ds avs e
          cases ds with
          | nil => cases e
          | cons d ds =>
            refine bnd (show (avOf b d).bind _ = some avs from e) fun u _ e => ?_
            refine mpd e fun us e' e₀ => ?_
            cases e₀
            exact congrArg (· + 1) (ih e')
      rw [this ea, evs_len ed]
      exact Nat.le_trans (of_decide_eq_true w1.2) (by decide)
    have mm : (ts.map fun g => toG G.T g.1) = (ts.map (·.1)).map (toG G.T) := by rw [List.map_map]; rfl
    show MS env A L S [.Assign [.Tuple (ts.map fun g => toG G.T g.1) 0 t] (.Tuple (toEs G.T es) 0 v) p] .next S'
    rw [mm]
    have sw : swOK G.T env.scope.names (ts.map (·.1)) es = true := w.2
    unfold swOK at sw
    split at sw
    · rename_i q
      exact .one (tx_asgT hE hA.1 (okE_Es _ es) w2.1 q teo hl es')
    · rename_i names q
      split at sw
      · rename_i xs hx
        have sw := Bool.and_eq_true_iff.mp sw
        have sw1 := Bool.and_eq_true_iff.mp sw.1
        have e1 := nmOf_s hx
        have wx : xs.all (fun x => kW env.scope.names (G.T x.1)) = true := by
          have := w2.1
          rw [e1] at this
          rw [List.all_map] at this
          exact this
        rw [e1] at q es' ⊢
        rw [beq_iff_eq.mp sw1.1] at q
        exact .one (tx_asgTs hE hA.1 (okE_Es _ es) wx sw1.2 (by simpa using sw.2) q teo hl es')
      · cases sw
    · cases sw
  | .unp ts e p t, env, A, L, S, r, hE, hA, w, h => by
    refine bnd (show (ev O e S).bind _ = some r from h) fun d ed h => ?_
    refine bnd h fun ds es h => ?_
    refine mpd h fun S' es' e₀ => ?_
    cases e₀
    have w := Bool.and_eq_true_iff.mp w
    have w1 := Bool.and_eq_true_iff.mp w.1
    rw [asTup_s es] at ed
    exact .one (tx_unp hE hA.1 w1.1 w1.2 (sndE hO.toSndO e hE nm_refl (hA.le (Nat.le_succ k)) w.2 ed) es')
  | .asgA x a own e p t q, env, A, L, S, r, hE, hA, w, h => by
    have h : (if isObj x S.loc then _ else none) = some r := h
    cases ho : isObj x S.loc with
    | false => rw [ho] at h; cases h
    | true =>
      rw [ho] at h
      refine bnd (show (ev O e S).bind _ = some r from h) fun d ed h => ?_
      refine bnd h fun _ hf h => ?_
      refine gdd hf fun hf _ => ?_
      refine bnd h fun v ev' h => ?_
      refine mpd h fun l el e₀ => ?_
      cases e₀
      have ww := Bool.and_eq_true_iff.mp w
      have hA' := hA.le (Nat.le_succ k)
      have ia := List.contains_iff_mem.mp ww.1
      rcases avOf_s ev' with ⟨rfl, rfl⟩ | ⟨ds, rfl, rfl, rfl⟩
      · exact .one (tx_asgA hE ia (swA _ _ _ _ _ _) ho (sndE hO.toSndO e hE nm_refl hA' ww.2 ed) el)
      · exact .one (tx_asgAO hE ia (swA _ _ _ _ _ _) ho (sndF hO.toSndO hE nm_refl hA' hf ww.2 ed) el)
  | .aug x o e p q, env, A, L, S, r, hE, hA, w, h => by
    refine bnd (show (fzOf (look x S.loc)).bind _ = some r from h) fun d ed h => ?_
    refine bnd h fun d' ed' h => ?_
    refine bnd h fun i ei h => ?_
    refine bnd h fun j ej h => ?_
    refine mpd h fun z ez e₀ => ?_
    cases e₀
    have w := Bool.and_eq_true_iff.mp w
    have w1 := Bool.and_eq_true_iff.mp w.1
    exact .one (tx_aug hE w1.1 (opOK_s w1.2) ed (sndE hO.toSndO e hE nm_refl (hA.le (Nat.le_succ k)) w.2 ed') ei ej ez)
  | .augA x a o e p t q, env, A, L, S, r, hE, hA, w, h => by
    have h : (if isObj x S.loc then _ else none) = some r := h
    cases ho : isObj x S.loc with
    | false => rw [ho] at h; cases h
    | true =>
      rw [ho] at h
      refine bnd (show (fzOf (look a S.ob)).bind _ = some r from h) fun d ed h => ?_
      refine bnd h fun d' ed' h => ?_
      refine bnd h fun i ei h => ?_
      refine bnd h fun j ej h => ?_
      refine bnd h fun z ez h => ?_
      refine mpd h fun l el e₀ => ?_
      cases e₀
      have w := Bool.and_eq_true_iff.mp w
      exact .one (tx_augA hE (opOK_s w.1) ho ed (sndE hO.toSndO e hE nm_refl (hA.le (Nat.le_succ k)) w.2 ed') ei ej ez el)
  | .ext x e p q, env, A, L, S, r, hE, hA, w, h => by
    refine bnd (show (ownOf (look x S.loc)).bind _ = some r from h) fun ds ed h => ?_
    refine bnd h fun d ee h => ?_
    refine bnd h fun l el h => ?_
    refine gdd h fun hl e₀ => ?_
    cases e₀
    have w := Bool.and_eq_true_iff.mp w
    rw [asList_s el] at ee
    exact .one (tx_ext hE w.1 ed (sndE hO.toSndO e hE nm_refl (hA.le (Nat.le_succ k)) w.2 ee) (of_decide_eq_true hl))
  | .setI l i e p t, env, A, L, S, r, hE, hA, w, h => by
    refine bnd (show (ev O e S).bind _ = some r from h) fun d ed h => ?_
    refine bnd h fun ds el h => ?_
    refine bnd h fun j ej h => ?_
    refine mpd h fun kk ek e₀ => ?_
    cases e₀
    have w := Bool.and_eq_true_iff.mp w
    have hA' := hA.le (Nat.le_succ k)
    exact .one (tx_setI hE (swS _ _ _ _ _ _) (sndE hO.toSndO e hE nm_refl hA' w.2 ed) el (sndE hO.toSndO i hE nm_refl hA' w.1 ej) ek)
  | .unpSet x i y e p t u q r', env, A, L, S, r, hE, hA, w, h => by
    refine bnd (show (ev O e S).bind _ = some r from h) fun d ed h => ?_
    refine bnd h fun l el h => ?_
    refine bnd h fun pp ep h => ?_
    refine bnd h fun ds eo h => ?_
    refine bnd h fun j ej h => ?_
    refine bnd h fun kk ek h => ?_
    refine mpd h fun l' el' e₀ => ?_
    cases e₀
    have w := Bool.and_eq_true_iff.mp w
    have w1 := Bool.and_eq_true_iff.mp w.1
    have w2 := Bool.and_eq_true_iff.mp w1.1
    have hA' := hA.le (Nat.le_succ k)
    have e2 : l = [pp.1, pp.2] := by
      match l, ep with
      | [a, b], ep => cases ep; rfl
    rw [asTup_s el, e2] at ed
    exact .one (tx_unpSet hE hA.1 w2.1 w2.2 (sndE hO.toSndO e hE nm_refl hA' w.2 ed) eo (sndE hO.toSndO i hE nm_refl hA' w1.2 ej) ek el')
  | .del l lo p t q, env, A, L, S, r, hE, hA, w, h => by
    refine bnd (show (getL l S).bind _ = some r from h) fun ds el h => ?_
    refine bnd h fun j ej h => ?_
    refine bnd h fun i ei h => ?_
    refine gdd h fun hi e₀ => ?_
    cases e₀
    exact .one (tx_del hE el (sndE hO.toSndO lo hE nm_refl (hA.le (Nat.le_succ k)) w ej) ei hi)
  | .pop y x i p q c a r', env, A, L, S, r, hE, hA, w, h => by
    refine bnd (show (ownOf (look x S.loc)).bind _ = some r from h) fun ds el h => ?_
    refine bnd h fun j ej h => ?_
    refine bnd h fun kk ek h => ?_
    refine bnd h fun d ed h => ?_
    refine mpd h fun l' el' e₀ => ?_
    cases e₀
    have w := Bool.and_eq_true_iff.mp w
    have w1 := Bool.and_eq_true_iff.mp w.1
    exact .one (tx_pop hE w1.1 (okE_E _ i) (of_decide_eq_true w.2) el (sndE hO.toSndO i hE nm_refl (hA.le (Nat.le_succ k)) w1.2 ej) ek ed el')
  | .mcall x f es p c a q, env, A, L, S, r, hE, hA, w, h => by
    have h : (if isObj x S.loc then _ else none) = some r := h
    cases ho : isObj x S.loc with
    | false => rw [ho] at h; cases h
    | true =>
      rw [ho] at h
      refine bnd (show (evs O es S).bind _ = some r from h) fun ds ed h => ?_
      refine bnd h fun z ez h => ?_
      refine gdd h fun hn e₀ => ?_
      cases e₀
      have w := Bool.and_eq_true_iff.mp w
      have w1 := Bool.and_eq_true_iff.mp w.1
      have hA' := hA.le (Nat.le_succ k)
      exact .one (tx_mcall hE hA' (hO.mm f) (okE_Es _ es) (evs_nil ed) (sndEs hO.toSndO es hE nm_refl hA' w1.1 ed) ho (by rw [toEs_len]; exact of_decide_eq_true w1.2) (of_decide_eq_true w.2) ez hn)
  | .new x f es p q c cr, env, A, L, S, r, hE, hA, w, h => by
    refine bnd (show (evs O es S).bind _ = some r from h) fun ds ed h => ?_
    refine bnd h fun z ez h => ?_
    refine gdd h fun hn e₀ => ?_
    cases e₀
    have w := Bool.and_eq_true_iff.mp w
    have w1 := Bool.and_eq_true_iff.mp w.1
    have w2 := Bool.and_eq_true_iff.mp w1.1
    have ec := of_decide_eq_true w1.2
    subst ec
    exact .one (tx_new hE hA w2.1 w2.2 hC.at_ hC.keep hC.makes hC.init (hO.mm 0) (okE_Es _ es) (evs_nil ed) (sndEs hO.toSndO es hE nm_refl (hA.le (Nat.le_succ k)) w.2 ed) ez hn)
  | .ite t a b p, env, A, L, S, r, hE, hA, w, h => by
    refine bnd (show (evT O t S).bind _ = some r from h) fun c ec h => ?_
    have w := Bool.and_eq_true_iff.mp w
    have w1 := Bool.and_eq_true_iff.mp w.1
    refine .one (tx_if (sndT hO.toSndO t hE nm_refl (hA.le (Nat.le_succ k)) w1.1 ec) (fun q => ?_) (fun q => ?_))
    · subst q; exact sndMs a hE hA w1.2 h
    · subst q; exact sndMs b hE hA w.2 h
  | .for_ tg src b p, env, A, L, S, r, hE, hA, w, h => by
    refine bnd (show (evSr O src S).bind _ = some r from h) fun items ei h => ?_
    have w := Bool.and_eq_true_iff.mp w
    have w1 := Bool.and_eq_true_iff.mp w.1
    refine .one (tx_for hE hA.1 w1.1 (okE_S src) (sndSf hO hE nm_refl (hA.le (Nat.le_succ k)) w1.2 ei) h fun d S₁ r' er => ?_)
    refine bnd er fun l el er => ?_
    exact ⟨l, el, sndMs b hE hA w.2 er⟩
  | .ret e p, env, A, L, S, r, hE, hA, w, h => by
    refine mpd (show (ev O e S).map _ = some r from h) fun d ed e₀ => ?_
    cases e₀
    exact .one (tx_ret (sndE hO.toSndO e hE nm_refl (hA.le (Nat.le_succ k)) w ed))
  | .retN p, env, A, L, S, r, hE, hA, w, h => by cases Option.some.inj h; exact .one tx_retN
  | .brk p, env, A, L, S, r, hE, hA, w, h => by cases Option.some.inj h; exact .one tx_brk
  | .frz x, env, A, L, S, r, hE, hA, w, h => by
    refine mpd (show (ownOf (look x S.loc)).map _ = some r from h) fun ds ed e₀ => ?_
    cases e₀
    exact .inl ⟨rfl, rfl, tm_frz ed⟩
  | .frzA a, env, A, L, S, r, hE, hA, w, h => by
    refine mpd (show (ownOf (look a S.ob)).map _ = some r from h) fun ds ed e₀ => ?_
    cases e₀
    exact .inl ⟨rfl, rfl, tm_frzA ed⟩
theorem sndMs [GOK] : ∀ (x : Sms) {env : Env} {A : Around} {L : Addr} {S : PS} {r : Fl × PS}, EnvOK env → Rm A (k + 1) → wfMs G.T env.scope.names G.attrs cls x = true → exs O x S = some r → TM env A L S (toMs G.T x) r.1 r.2
  | .nil, env, A, L, S, r, hE, hA, w, h => by cases Option.some.inj h; exact tm_nil
  | .cons s t, env, A, L, S, r, hE, hA, w, h => by
    refine bnd (show (ex O s S).bind _ = some r from h) fun q eq h => ?_
    have w := Bool.and_eq_true_iff.mp w
    have h1 := sndM s (L := L) hE hA w.1 eq
    obtain ⟨f, S₁⟩ := q
    cases f with
    | next => exact h1.seq (sndMs t hE hA w.2 h)
    | brk => cases Option.some.inj h; exact h1.stop nofun
    | ret d => cases Option.some.inj h; exact h1.stop nofun
end
end
end
section
noncomputable def zipB (T : Nat → Str) : List Nat → List Value → List (Str × Value)
  | x :: xs, v :: vs => (T x, v) :: zipB T xs vs
  | _, _ => []
theorem zipB_name {T : Nat → Str} : ∀ {xs : List Nat} {vs : List Value} {p : Str × Value}, p ∈ zipB T xs vs → ∃ x ∈ xs, T x = p.1 := by
  intro l0
  induction l0 with
  | nil =>
    intro _ _ h
    exact nomatch h
  | cons x xs ih =>
    intro l1
    cases l1 with
    | cons v vs =>
      intro p h
      exact (by
    rcases List.mem_cons.mp h with rfl | h
    · exact ⟨x, .head _, rfl⟩
    · obtain ⟨y, hy, e⟩ := ih h
      exact ⟨y, .tail _ hy, e⟩)
    | nil =>
      intro _ h
      exact nomatch h
theorem bindL_off {kd : Str → Option NameKind} {y : Str} : ∀ {bs : List (Str × Value)} {m : Str → Option Value}, (∀ p ∈ bs, p.1 ≠ y) → bindL kd bs m y = m y := by
  intro l0
  induction l0 with
  | nil =>
    intro _ _
    exact rfl
  | cons q0 r ih =>
    obtain ⟨n, v⟩ := q0
    intro m h
    unfold bindL
    rw [ih fun p hp => h p (.tail _ hp)]
    split
    · exact if_neg fun e => h (n, v) (.head _) e.symm
    · rfl
theorem bindC_off {kd : Str → Option NameKind} {y : Str} : ∀ {bs : List (Str × Value)} {m : Str → Option Value}, (∀ p ∈ bs, p.1 ≠ y) → bindC kd bs m y = m y := by
  intro l0
  induction l0 with
  | nil =>
    intro _ _
    exact rfl
  | cons q0 r ih =>
    obtain ⟨n, v⟩ := q0
    intro m h
    unfold bindC
    rw [ih fun p hp => h p (.tail _ hp)]
    split
    · rfl
    · exact if_neg fun e => h (n, v) (.head _) e.symm
theorem zipA_look {T : Nat → Str} (inj : ∀ i j, T i = T j → i = j) {kd : Str → Option NameKind} : ∀ {xs : List Nat} {vs : List Value} {avs : List AV} {l : Al} {x : Nat} {av : AV} {m cm : Str → Option Value}, nodupB xs = true → zipA xs avs = some l → vs.length = xs.length → look x l = some av →
    ∃ v, (v, av) ∈ vs.zip avs ∧ x ∈ xs ∧ (kd (T x) = some .local → bindL kd (zipB T xs vs) m (T x) = some v) ∧ (kd (T x) ≠ some .local → bindC kd (zipB T xs vs) cm (T x) = some v) := by
  intro xs
  induction xs with
  | nil =>
    intro vs avs l x av m cm nd e len h
    cases avs with
    | nil => cases e; cases h
    | cons => cases e
  | cons y xs ih =>
    intro vs avs l x av m cm nd e len h
    cases avs with
    | nil => cases e
    | cons u avs =>
      cases vs with
      | nil => cases len
      | cons v vs =>
        refine mpd (show (zipA xs avs).map _ = some l from e) fun l' el e₀ => ?_
        cases e₀
        have nd := Bool.and_eq_true_iff.mp (show (!xs.contains y && nodupB xs) = true from nd)
        have h : (if y = x then some u else look x l') = some av := h
        by_cases c : y = x
        · subst c
          rw [if_pos rfl] at h; cases Option.some.inj h
          have off : ∀ p ∈ zipB T xs vs, p.1 ≠ T y := fun p hp e => by
            obtain ⟨z, hz, ez⟩ := zipB_name hp
            rw [inj _ _ (ez.trans e)] at hz
            rw [List.contains_iff_mem.mpr hz] at nd
            exact absurd nd.1 (by decide)
          refine ⟨v, .head _, .head _, fun k => ?_, fun k => ?_⟩
          · show bindL kd ((T y, v) :: zipB T xs vs) m (T y) = _
            unfold bindL
            rw [bindL_off off, if_pos k]
            exact if_pos rfl
          · show bindC kd ((T y, v) :: zipB T xs vs) cm (T y) = _
            unfold bindC
            rw [bindC_off off, if_neg k]
            exact if_pos rfl
        · rw [if_neg c] at h
          obtain ⟨w, hw, hx, h1, h2⟩ := ih (m := (if kd (T y) = some .local then fun z => if z = T y then some v else m z else m)) (cm := (if kd (T y) = some .local then cm else fun z => if z = T y then some v else cm z)) nd.2 el (Nat.succ.inj len) h
          exact ⟨w, .tail _ hw, .tail _ hx, h1, h2⟩
structure FD (fd : FuncData) (ps : List Nat) (body : Sms) : Prop where
  body : fd.body = .stmts (toMs G.T body)
  clo : fd.closure = []
  glob : fd.globals = mainGlobals
  blt : fd.builtins = builtinsNs
  kind : fd.scope.kind = .function
  co : fd.scope.isCoroutine = false
  gen : fd.scope.isGenerator = false
  code : codeIn G.K fd.code fd.qualname = true
  bind : ∀ vals : List Value, vals.length = ps.length → bindArgs fd ⟨vals, []⟩ = pure (zipB G.T ps vals)
  nd : nodupB ps = true
  pk : ps.all (fun x => kW fd.scope.names (G.T x)) = true
  nf : ∀ x, fd.scope.names.lookup x ≠ some .free
structure DefAt (fa : Addr) (ps : List Nat) (body : Sms) (fd : FuncData) : Prop where
  obj : ∃ oc od sl, G.K.lookup fa = some ⟨oc, od, .func fd, sl⟩
  fd : FD fd ps body
section
variable {fd : FuncData} {ps : List Nat} {body : Sms} {fa : Addr}
theorem FD.env (D : FD fd ps body) (L : Addr) : EnvOK (callEnvC fd L fa) := ⟨D.kind, D.glob, D.blt⟩
noncomputable def Zin (fd : FuncData) (L : Addr) (b : Addr) : Prop := b = L ∨ ∃ n, (cellsFrom (L + 1) fd.scope.names []).lookup n = some b
theorem cells_some {x : Str} : ∀ {names : List (Str × NameKind)} {n : Nat}, names.lookup x = some .cell → ∃ c, (cellsFrom n names []).lookup x = some c := fun {names n} h => by
  obtain ⟨c, hc⟩ := (cellsFrom_mem names n x).mp (mem_of_lookup h)
  exact lookup_of_mem hc
theorem enter_stt (D : FD fd ps body) {s s₁ : Shared} {vals : List Value} {avs : List AV} {l ob : Al} {Z : Addr → Prop} (hold : Old s.heap) (zo : ZO s.heap Z) (ez : zipA ps avs = some l) (len : vals.length = ps.length)
    (X : InCallC s (callEnvC fd s.heap.objs.size fa).locals (bindL (callEnvC fd s.heap.objs.size fa).kindOf (zipB G.T ps vals) fun _ => none) (callEnvC fd s.heap.objs.size fa).cells (bindC (callEnvC fd s.heap.objs.size fa).kindOf (zipB G.T ps vals) fun _ => none) s₁)
    (hv : ∀ v av, (v, av) ∈ vals.zip avs → AVI s.heap.objs.size s₁.heap (fun b => Z b ∨ Zin fd s.heap.objs.size b) ob v av) :
    Stt (callEnvC fd s.heap.objs.size fa) s.heap.objs.size (bindL (callEnvC fd s.heap.objs.size fa).kindOf (zipB G.T ps vals) fun _ => none) (fun b => Z b ∨ Zin fd s.heap.objs.size b) { loc := l, ob := ob } s₁.heap := by
  have zin : ∀ b, Zin fd s.heap.objs.size b → s.heap.get? b = none := fun b hb => by
    rcases hb with rfl | ⟨n, hn⟩
    · exact fresh_ge _ (Nat.le_refl _)
    · exact fresh_ge _ (Nat.le_of_lt (X.above n b (mem_of_lookup hn)))
  have H0 : ∀ b, s.heap.get? b = none → G.H₀.get? b = none := fun b hb => by
    cases q : G.H₀.get? b with
    | none => rfl
    | some o => have := hold.1 b o q; exact nso (hb) this
  have kin : ∀ x, (callEnvC fd s.heap.objs.size fa).kindOf x ≠ some .free := D.nf
  refine ⟨⟨⟨X.toInCall.ns, fun b o e => X.toInCall.keep b o (hold.1 b o e), hold.2⟩, .inr (.inl rfl), fun z hz => ?_, fun z hz => ?_⟩, fun x av e c => ?_, fun x hx => ?_, fun x y c hx hy e e' => name_of_addr X.apart (mem_of_lookup e) (mem_of_lookup e')⟩
  · rcases hz with hz | rfl | ⟨n, hn⟩
    · obtain ⟨o, e⟩ := zo.za z hz; exact ⟨o, X.toInCall.keep _ _ e⟩
    · obtain ⟨o, _, _, g, _⟩ := X.toInCall.ns; exact ⟨o, g⟩
    · obtain ⟨o, g, _⟩ := X.cell n z hn; exact ⟨o, g⟩
  · rcases hz with hz | hz
    · exact zo.zH z hz
    · exact H0 _ (zin z hz)
  · obtain ⟨v, hm, hx, h1, h2⟩ := zipA_look G_inj (kd := (callEnvC fd s.heap.objs.size fa).kindOf) (m := fun _ => none) (cm := fun _ => none) D.nd ez len e
    refine ⟨v, ?_, hv v av hm⟩
    have kw := List.all_eq_true.mp D.pk x hx
    have ks := (Bool.and_eq_true_iff.mp kw).1
    unfold kS at ks
    split at ks
    · rename_i q
      exact .inl ⟨q, rfl, h1 q⟩
    · rename_i q
      obtain ⟨c1, e1⟩ := cells_some (n := s.heap.objs.size + 1) q
      refine .inr ⟨.inl q, c1, e1, ?_⟩
      have := X.cell (G.T x) c1 e1
      rw [h2 (by rw [show (callEnvC fd s.heap.objs.size fa).kindOf (G.T x) = some .cell from q]; nofun)] at this
      exact this
    · cases ks
  · rcases hx with hx | hx
    · obtain ⟨c1, e1⟩ := cells_some (n := s.heap.objs.size + 1) hx
      exact ⟨c1, _, e1, X.cell x c1 e1, .inr (.inr ⟨x, e1⟩)⟩
    · exact absurd hx (kin x)
end
end
section
theorem Rm.deeper {A : Around} {k : Nat} {env : Env} (h : Rm A (k + 1)) : Rm (A.deeper env) k := by
  have h3 := h.2.1
  have h4 := h.2.2
  refine ⟨h.1, ?_, ?_⟩
  · show A.depth + 1 + k < recursionLimit
    lia
  · show A.units + 3 + 20 * k + 200 < cLine
    lia
theorem zipA_fz : ∀ {ps : List Nat} {ds : List D} {l : Al}, zipA ps (ds.map .fz) = some l → (∀ x av, look x l = some av → (∃ d, av = .fz d) ∧ x ∈ ps) ∧ ps.length = ds.length := by
  intro l0
  induction l0 with
  | nil =>
    intro l1
    cases l1 with
    | nil =>
      intro l e
      (cases Option.some.inj e; exact ⟨(fun _ _ h => nomatch h), rfl⟩)
    | cons _ _ =>
      intro _ e
      (cases e)
  | cons p ps ih =>
    intro l1
    cases l1 with
    | nil =>
      intro _ e
      (cases e)
    | cons d ds =>
      intro l e
      exact (by
    refine mpd (show (zipA ps (ds.map .fz)).map _ = some l from e) fun l' el e₀ => ?_
    cases e₀
    obtain ⟨h1, h2⟩ := ih el
    refine ⟨fun x av h => ?_, congrArg (· + 1) h2⟩
    have h : (if p = x then some (.fz d) else look x l') = some av := h
    by_cases c : p = x
    · rw [if_pos c] at h; cases Option.some.inj h; exact ⟨⟨d, rfl⟩, c ▸ .head _⟩
    · rw [if_neg c] at h; exact ⟨(h1 x av h).1, .tail _ (h1 x av h).2⟩)
section
variable {k : Nat} {O : Orc} {cls : Nat} {fd : FuncData} {ps : List Nat} {body : Sms} {fa : Addr}
theorem zin_new {s s₁ : Shared} {m cm : Str → Option Value} (X : InCallC s s.heap.objs.size m (cellsFrom (s.heap.objs.size + 1) fd.scope.names []) cm s₁) : ∀ b, Zin fd s.heap.objs.size b → s.heap.get? b = none := fun b hb => by
  rcases hb with rfl | ⟨n, hn⟩
  · exact fresh_ge _ (Nat.le_refl _)
  · exact fresh_ge _ (Nat.le_of_lt (X.above n b (mem_of_lookup hn)))
theorem dis_zip {h : Heap} {Z : Addr → Prop} {vs : List Value} {ds : List D} (x : DIs h Z vs ds) : ∀ v av, (v, av) ∈ vs.zip (ds.map AV.fz) → ∃ d, av = .fz d ∧ DI h Z v d :=
  DIs.rec1 (P := fun vs ds => ∀ v av, (v, av) ∈ vs.zip (ds.map AV.fz) → ∃ d, av = .fz d ∧ DI h Z v d) (fun _ _ h => nomatch h) (fun w d vs ds i _ ih v av hm => by
    rcases List.mem_cons.mp hm with hm | hm
    · cases hm; exact ⟨d, rfl, i⟩
    · exact ih v av hm) _ _ x
theorem fn_ok [GOK] {f : Nat} (hO : SndM k O) (hC : ClsOK cls) (D : DefAt fa ps body fd) (hn : nsIn G.K mainGlobals (G.T f) = some (some (.ref fa))) (hk : keepIn G.K (.ref fa) = true) (w : wfMs G.T fd.scope.names G.attrs cls body = true) : FnOK (k + 2) f (runFn O ps body) := fun ds d e => by
  refine bnd e fun l el e => ?_
  refine bnd e fun r er e => ?_
  refine ⟨fa, hn, hk, fun A s vals Z R hA hold zo di kR => ?_⟩
  obtain ⟨oc, od, sl, ho⟩ := D.obj
  have K : G.K.In s.heap := GOK.X.keeps hold.1
  obtain ⟨lf, lenp⟩ := zipA_fz el
  have len : vals.length = ps.length := di.length.trans lenp.symm
  have kk := D.fd.pk
  refine codeAny_call_cells (binds := zipB G.T ps vals) (by have := hA.2.1; lia) (K _ _ ho) rfl (GOK.lim.keeps hold.1) (codeRec_of K D.fd.code) D.fd.body (D.fd.bind vals len) D.fd.clo (fun p hp => ?_) (fun s₁ X => ?_) D.fd.co D.fd.gen D.fd.kind
  · obtain ⟨x, hx, ex⟩ := zipB_name hp
    have ks := (Bool.and_eq_true_iff.mp (List.all_eq_true.mp kk x hx)).1
    rw [← ex]
    unfold kS at ks
    split at ks
    · rename_i q; exact .inl q
    · rename_i q
      obtain ⟨c1, e1⟩ := cells_some (n := s.heap.objs.size + 1) q
      exact .inr ⟨q, by rw [e1]; rfl⟩
    · cases ks
  · have zn := zin_new (fd := fd) X
    have mv0 : Mv s.heap Z s₁.heap (fun b => Z b ∨ Zin fd s.heap.objs.size b) := fun b o nz g => ⟨X.toInCall.keep b o g, fun z => by
      rcases z with z | z
      · exact nz z
      · exact nso (zn b z) g⟩
    have st := enter_stt (ob := []) D.fd hold zo el len X fun v av hm => by
      obtain ⟨d', rfl, i⟩ := dis_zip di v av hm
      exact DI.mv mv0 i
    have nown : ∀ x ds, look x l ≠ some (.own ds) := fun x ds h => by obtain ⟨⟨_, q⟩, _⟩ := lf x _ h; cases q
    have nobj : ∀ x, look x l ≠ some .obj := fun x h => by obtain ⟨⟨_, q⟩, _⟩ := lf x _ h; cases q
    have sx : StX (callEnvC fd s.heap.objs.size fa) s.heap.objs.size _ (fun b => Z b ∨ Zin fd s.heap.objs.size b) (Zin fd s.heap.objs.size) { loc := l, ob := [] } s₁.heap ⟨fun _ => 0, fun _ => 0, 0, 0⟩ :=
      ⟨st, rfl, D.fd.nf, fun x av h => (Bool.and_eq_true_iff.mp (List.all_eq_true.mp kk x (lf x av h).2)).2, fun b y => .inr y, .inl rfl, fun x c _ ec => .inr ⟨x, ec⟩, fun x ds h => absurd h (nown x ds), fun x h => absurd h (nobj x),
        by rintro ⟨x, h⟩; exact absurd h (nobj x), fun _ => rfl, by rintro x y ⟨ds, h⟩; exact absurd h (nown x ds), (by rintro _ _ ⟨_, h⟩; cases h), (by rintro _ _ _ ⟨_, h⟩; cases h)⟩
    obtain ⟨h1, tk1, rfl⟩ := X.toInCall.same
    refine sndMs hO hC body (D.fd.env _) (Rm.deeper hA) w er _ _ _ _ _ _ _ sx fun m' Z' Y' g' h' tk f' sx' pr _ fo => ?_
    have ks : Ks s.heap h' := fun b o g => pr.kept b o (fun z => by exact nso (zn b z) g) (X.toInCall.keep b o g)
    have mvE : Mv h' Z' h' Z := fun b o nz g => ⟨g, fun z => nz (by
      obtain ⟨o', g'⟩ := zo.za b z
      exact (pr.zs b o' (fun q => by exact nso (zn b q) g') (X.toInCall.keep b o' g')).mpr (.inl z))⟩
    obtain ⟨r1, r2⟩ := r
    cases r1 with
    | next => cases fo; cases e; exact kR _ h' tk ks .none
    | brk => cases e
    | ret d' =>
      cases Option.some.inj e
      obtain ⟨v, rfl, i⟩ := fo
      exact kR v h' tk ks (i.mv mvE)
end
end
section
theorem zipA_obj {ps : List Nat} {ds : List D} {l : Al} (e : zipA ps (.obj :: ds.map .fz) = some l) : ∃ s r, ps = s :: r ∧ r.length = ds.length ∧ look s l = some .obj ∧ ∀ x av, look x l = some av → x ∈ ps ∧ ((x = s ∧ av = .obj) ∨ ∃ d, av = .fz d) := by
  cases ps with
  | nil => cases e
  | cons s r =>
    refine mpd (show (zipA r (ds.map .fz)).map _ = some l from e) fun l' el e₀ => ?_
    cases e₀
    obtain ⟨h1, h2⟩ := zipA_fz el
    refine ⟨s, r, rfl, h2, by show (if s = s then some AV.obj else look s l') = _; rw [if_pos rfl], fun x av h => ?_⟩
    have h : (if s = x then some .obj else look x l') = some av := h
    by_cases c : s = x
    · rw [if_pos c] at h; cases Option.some.inj h; exact ⟨c ▸ .head _, .inl ⟨c.symm, rfl⟩⟩
    · rw [if_neg c] at h; exact ⟨.tail _ (h1 x av h).2, .inr (h1 x av h).1⟩
section
variable {k : Nat} {O : Orc} {cls : Nat} {fd : FuncData} {ps : List Nat} {body : Sms} {fa : Addr}
theorem enter_var (D : FD fd ps body) {s s₁ : Shared} {vals : List Value} {avs : List AV} {l : Al} (ez : zipA ps avs = some l) (len : vals.length = ps.length)
    (X : InCallC s (callEnvC fd s.heap.objs.size fa).locals (bindL (callEnvC fd s.heap.objs.size fa).kindOf (zipB G.T ps vals) fun _ => none) (callEnvC fd s.heap.objs.size fa).cells (bindC (callEnvC fd s.heap.objs.size fa).kindOf (zipB G.T ps vals) fun _ => none) s₁) {x : Nat} {av : AV} (e : look x l = some av) :
    ∃ v, (v, av) ∈ vals.zip avs ∧ VarV (callEnvC fd s.heap.objs.size fa) s.heap.objs.size (bindL (callEnvC fd s.heap.objs.size fa).kindOf (zipB G.T ps vals) fun _ => none) s₁.heap (G.T x) v := by
  obtain ⟨v, hm, hx, h1, h2⟩ := zipA_look G_inj (kd := (callEnvC fd s.heap.objs.size fa).kindOf) (m := fun _ => none) (cm := fun _ => none) D.nd ez len e
  refine ⟨v, hm, ?_⟩
  have kw := List.all_eq_true.mp D.pk x hx
  have ks := (Bool.and_eq_true_iff.mp kw).1
  unfold kS at ks
  split at ks
  · rename_i q
    exact .inl ⟨q, rfl, h1 q⟩
  · rename_i q
    obtain ⟨c1, e1⟩ := cells_some (n := s.heap.objs.size + 1) q
    refine .inr ⟨.inl q, c1, e1, ?_⟩
    have := X.cell (G.T x) c1 e1
    rw [h2 (by rw [show (callEnvC fd s.heap.objs.size fa).kindOf (G.T x) = some .cell from q]; nofun)] at this
    exact this
  · cases ks
theorem mm_ok [GOK] {f : Nat} (hO : SndM k O) (hC : ClsOK cls) (D : DefAt fa ps body fd) (M : MethAt f fa) (w : wfMs G.T fd.scope.names G.attrs cls body = true) : MmOK (k + 2) f (runMm O ps body) := fun ob ds r e => by
  refine bnd e fun l el e => ?_
  refine bnd e fun q er e => ?_
  refine mpd e fun d ed e₀ => ?_
  cases e₀
  refine ⟨fa, M, fun A s o dx β vals Z Y R hA hold zo X0 di kR => ?_⟩
  obtain ⟨oc, od, sl, ho⟩ := D.obj
  have K : G.K.In s.heap := GOK.X.keeps hold.1
  obtain ⟨sf, rest, rfl, lenp, lself, lf⟩ := zipA_obj el
  have len : (Value.ref o :: vals).length = (sf :: rest).length := congrArg (· + 1) (di.length.trans lenp.symm)
  have kk := D.fd.pk
  refine codeAny_call_cells (binds := zipB G.T (sf :: rest) (.ref o :: vals)) (by have := hA.2.1; lia) (K _ _ ho) rfl (GOK.lim.keeps hold.1) (codeRec_of K D.fd.code) D.fd.body (D.fd.bind _ len) D.fd.clo (fun p hp => ?_) (fun s₁ X => ?_) D.fd.co D.fd.gen D.fd.kind
  · obtain ⟨x, hx, ex⟩ := zipB_name hp
    have ks := (Bool.and_eq_true_iff.mp (List.all_eq_true.mp kk x hx)).1
    rw [← ex]
    unfold kS at ks
    split at ks
    · rename_i q; exact .inl q
    · rename_i q
      obtain ⟨c1, e1⟩ := cells_some (n := s.heap.objs.size + 1) q
      exact .inr ⟨q, by rw [e1]; rfl⟩
    · cases ks
  · have zn := zin_new (fd := fd) X
    have mv0 : Mv s.heap Z s₁.heap (fun b => Z b ∨ Zin fd s.heap.objs.size b) := fun b o nz g => ⟨X.toInCall.keep b o g, fun z => by
      rcases z with z | z
      · exact nz z
      · exact nso (zn b z) g⟩
    obtain ⟨⟨es, n, g1, g2, at0, ow⟩, yo, yd, yz, ib⟩ := X0
    have nL : dx ≠ s.heap.objs.size := fun c => by
      have := Heap.lt_size g2
      rw [c] at this
      exact Nat.lt_irrefl _ this
    have av1 : ∀ {v : Value} {u : AV}, AV1 s.heap Z v u → AV1 s₁.heap (fun b => Z b ∨ Zin fd s.heap.objs.size b) v u := fun {v u} i => by
      cases u with
      | fz d => exact DI.mv mv0 i
      | obj => exact i
      | own ds => obtain ⟨a, vs, n, l⟩ := i; exact ⟨a, vs, n, l.ref, X.toInCall.keep _ _ l.at_, l.len, l.its.mv mv0⟩
    have at1 : AttI s₁.heap (fun b => Z b ∨ Zin fd s.heap.objs.size b) es ob := ⟨at0.len, at0.keys, fun j av e => by obtain ⟨i, v, r, a⟩ := at0.get j av e; exact ⟨i, v, r, av1 a⟩, at0.non⟩
    have st := enter_stt (ob := ob) D.fd hold zo el len X fun v av hm => by
      rcases List.mem_cons.mp hm with hm | hm
      · cases hm
        exact ⟨o, rfl, dx, es, n, X.toInCall.keep _ _ g1, X.toInCall.keep _ _ g2, nL, at1⟩
      · obtain ⟨d', rfl, i⟩ := dis_zip di v av hm
        exact DI.mv mv0 i
    have nown : ∀ x ds, look x l ≠ some (.own ds) := fun x ds h => by
      rcases (lf x _ h).2 with ⟨_, q⟩ | ⟨_, q⟩ <;> cases q
    have sx : StX (callEnvC fd s.heap.objs.size fa) s.heap.objs.size (bindL (callEnvC fd s.heap.objs.size fa).kindOf (zipB G.T (sf :: rest) (.ref o :: vals)) fun _ => none) (fun b => Z b ∨ Zin fd s.heap.objs.size b) (fun b => Y b ∨ Zin fd s.heap.objs.size b) { loc := l, ob := ob } s₁.heap ⟨fun _ => 0, β, o, dx⟩ := by
      refine ⟨st, rfl, D.fd.nf, fun x av h => (Bool.and_eq_true_iff.mp (List.all_eq_true.mp kk x (lf x av h).1)).2, fun b y => y.imp (yz b) id, .inr (.inl rfl), fun x c _ ec => .inr (.inr ⟨x, ec⟩), fun x ds h => absurd h (nown x ds), fun x h => ?_,
        fun _ => ⟨es, n, X.toInCall.keep _ _ g1, X.toInCall.keep _ _ g2, nL, ⟨.inl yo, .inl yd⟩, at1, fun k ds e => ⟨(ow k ds e).1, .inl (ow k ds e).2⟩⟩, fun no => absurd ⟨sf, lself⟩ no, by rintro x y ⟨ds, h⟩; exact absurd h (nown x ds), ib, by rintro x y ⟨ds, h⟩; exact absurd h (nown x ds)⟩
      obtain ⟨v, hm, vv⟩ := enter_var D.fd el len X (show look x l = some .obj from h)
      rcases List.mem_cons.mp hm with hm | hm
      · cases hm; exact vv
      · obtain ⟨d', q, _⟩ := dis_zip di v _ hm
        cases q
    obtain ⟨h1, tk1, rfl⟩ := X.toInCall.same
    refine sndMs hO hC body (D.fd.env _) (Rm.deeper hA) w er _ _ _ _ _ _ _ sx fun m' Z' Y' g' h' tk f' sx' pr os fo => ?_
    obtain ⟨hO', eo, ed'⟩ := os ⟨sf, lself⟩
    have eo : g'.o = o := eo
    have ed' : g'.dx = dx := ed'
    obtain ⟨es2, n2, a1, a2, a3, a4, a5, a6⟩ := sx'.od hO'
    rw [eo, ed'] at a1
    rw [ed'] at a2
    have X' : ObjX h' Z' Y' o dx g'.β q.2.ob := ⟨⟨es2, n2, a1, a2, a5, a6⟩, eo ▸ a4.1, ed' ▸ a4.2, sx'.yz, sx'.ib⟩
    have pr' : Pres s.heap Z Y h' Z' Y' := by
      have nz : ∀ b o, s.heap.get? b = some o → ¬ Zin fd s.heap.objs.size b := fun b o e z => by exact nso (zn b z) e
      refine ⟨fun b o n e => pr.kept b o (fun y => y.elim n (nz b o e)) (X.toInCall.keep b o e), fun b y => ?_, fun b o n e => (pr.zs b o (fun y => y.elim n (nz b o e)) (X.toInCall.keep b o e)).trans ⟨fun z => z.elim id fun z => absurd z (nz b o e), fun z => .inl z⟩⟩
      rcases pr.ys b y with (y | y) | y
      · exact .inl y
      · exact .inr (zn b y)
      · refine .inr ?_
        cases z : s.heap.get? b with
        | none => rfl
        | some o => have := X.toInCall.keep b o z; rw [this] at y; cases y
    obtain ⟨r1, r2⟩ := q
    cases r1 with
    | next => cases fo; cases ed; exact kR _ h' tk Z' Y' g'.β X' pr' sx'.stt.zo .none
    | brk => cases ed
    | ret d' =>
      cases Option.some.inj ed
      obtain ⟨v, rfl, i⟩ := fo
      exact kR v h' tk Z' Y' g'.β X' pr' sx'.stt.zo i
end
end
section
noncomputable def Tf (env : Env) (L : Addr) (b : Addr) : Prop := b = L ∨ ∃ x, env.kindOf x = some .cell ∧ env.cells.lookup x = some b
noncomputable def TP (env : Env) (A : Around) (L : Addr) (S : PS) (ms : List Stmt) (fl : Fl) (S' : PS) : Prop :=
  ∀ m Z (s : Shared) (Q : Flow → Shared → Prop) (E : Value → Shared → Prop), Stt env L m Z S s.heap →
    (∀ m' h' tk f, Stt env L m' Z S' h' → Kt (Tf env L) s.heap h' → FlowOK fl f h' Z → Q f { s with heap := h', toks := tk }) → wpAny (model G.prog G.w) A (execs ms env) Q E s
noncomputable def TPx (env : Env) (A : Around) (L : Addr) (S : PS) (st : Stmt) (fl : Fl) (S' : PS) : Prop :=
  ∀ m Z (s : Shared) (Q : Flow → Shared → Prop) (E : Value → Shared → Prop), Stt env L m Z S s.heap →
    (∀ m' h' tk f, Stt env L m' Z S' h' → Kt (Tf env L) s.heap h' → FlowOK fl f h' Z → Q f { s with heap := h', toks := tk }) → wpAny (model G.prog G.w) A (exec st env) Q E s
section
variable {k : Nat} {O : Orc} (hO : SndO k O) {ats : List Nat} {cls : Nat}
theorem Kp.tf {env : Env} {L : Addr} {h h' : Heap} (k : Kp L h h') : Kt (Tf env L) h h' := fun b o n g => k b o (fun e => n (.inl e)) g
include hO
mutual
theorem sndP [GOK] : ∀ (x : Sm) {env : Env} {A : Around} {L : Addr} {S : PS} {r : Fl × PS}, EnvOK env → env.locals = L → Rm A k → pureS x = true → wfM G.T env.scope.names ats cls x = true → ex O x S = some r → ∃ st, toM G.T x = [st] ∧ TPx env A L S st r.1 r.2
  | .asg x own e p q, env, A, L, S, r, hE, hl, hA, pu, w, h => by
    have pu := Bool.and_eq_true_iff.mp (show (!own && !isComp e) = true from pu)
    have own0 : own = false := by simpa using pu.1
    subst own0
    refine bnd (show (ev O e S).bind _ = some r from h) fun d ed h => ?_
    refine bnd h fun _ hf h => ?_
    refine bnd h fun v ev' h => ?_
    refine mpd h fun l el e₀ => ?_
    cases e₀
    cases Option.some.inj ev'
    refine gdd el fun no e₀ => ?_
    cases e₀
    have w := Bool.and_eq_true_iff.mp w
    have w1 := Bool.and_eq_true_iff.mp w.1
    have sw := notComp (env := env) (e := e) (fun a b c d f p q => by rw [q] at pu; cases pu.2) G.T (some (.Name (G.T x) q)) p.line
    refine ⟨_, rfl, fun m Z s Q E st kk => wpAny_Assign_Name (sndE hO e hE nm_refl hA w.2 ed m Z s _ E st fun v h' tk F kp i => ?_) sw⟩
    refine store_ok (av := .fz d) (s := { s with heap := h', toks := tk }) hE hl (st.keep F kp) w1.1 i fun m' h'' tk' st' kt _ _ => kk m' h'' tk' .next st' ((Kp.tf kp).trans (kt.le fun b hb => ?_)) rfl
    rcases hb with rfl | ⟨y, _, q⟩
    · exact .inl rfl
    · exact .inr ⟨_, q⟩
  | .ret e p, env, A, L, S, r, hE, hl, hA, pu, w, h => by
    refine mpd (show (ev O e S).map _ = some r from h) fun d ed e₀ => ?_
    cases e₀
    exact ⟨_, rfl, fun m Z s Q E st kk => wpAny_Return_some (sndE hO e hE nm_refl hA w ed m Z s _ E st fun v h' tk F kp i => kk m h' tk _ (st.keep F kp) (Kp.tf kp) ⟨v, rfl, i⟩)⟩
  | .retN p, env, A, L, S, r, hE, hl, hA, pu, w, h => by
    cases Option.some.inj h
    exact ⟨_, rfl, fun m Z s Q E st kk => wpAny_Return_none (kk m s.heap s.toks _ st (Kt.refl _ _) ⟨.none, rfl, .none⟩)⟩
  | .brk p, env, A, L, S, r, hE, hl, hA, pu, w, h => by
    cases Option.some.inj h
    exact ⟨_, rfl, fun m Z s Q E st kk => wpAny_Break (kk m s.heap s.toks _ st (Kt.refl _ _) rfl)⟩
  | .ite t a b p, env, A, L, S, r, hE, hl, hA, pu, w, h => by
    have pu := Bool.and_eq_true_iff.mp (show (pureSs a && pureSs b) = true from pu)
    refine bnd (show (evT O t S).bind _ = some r from h) fun c ec h => ?_
    have w := Bool.and_eq_true_iff.mp w
    have w1 := Bool.and_eq_true_iff.mp w.1
    refine ⟨_, rfl, fun m Z s Q E st kk => wpAny_If (sndT hO t hE nm_refl hA w1.1 ec m Z s _ E st fun h' tk F kp => ?_)⟩
    have go : ∀ {ms : List Stmt}, TP env A L S ms r.1 r.2 → wpAny (model G.prog G.w) A (execs ms env) Q E { s with heap := h', toks := tk } := fun hm => hm m Z _ Q E (st.keep F kp) fun m2 h2 tk2 f2 x2 p2 fo => kk m2 h2 tk2 f2 x2 ((Kp.tf kp).trans p2) fo
    cases c with
    | true => exact go (sndPs a hE hl hA pu.1 w1.2 h)
    | false => exact go (sndPs b hE hl hA pu.2 w.2 h)
  | .app .., env, A, L, S, r, hE, hl, hA, pu, w, h => by cases pu
  | .asgT .., env, A, L, S, r, hE, hl, hA, pu, w, h => by cases pu
  | .unp .., env, A, L, S, r, hE, hl, hA, pu, w, h => by cases pu
  | .asgA .., env, A, L, S, r, hE, hl, hA, pu, w, h => by cases pu
  | .aug .., env, A, L, S, r, hE, hl, hA, pu, w, h => by cases pu
  | .augA .., env, A, L, S, r, hE, hl, hA, pu, w, h => by cases pu
  | .ext .., env, A, L, S, r, hE, hl, hA, pu, w, h => by cases pu
  | .setI .., env, A, L, S, r, hE, hl, hA, pu, w, h => by cases pu
  | .unpSet .., env, A, L, S, r, hE, hl, hA, pu, w, h => by cases pu
  | .del .., env, A, L, S, r, hE, hl, hA, pu, w, h => by cases pu
  | .pop .., env, A, L, S, r, hE, hl, hA, pu, w, h => by cases pu
  | .mcall .., env, A, L, S, r, hE, hl, hA, pu, w, h => by cases pu
  | .new .., env, A, L, S, r, hE, hl, hA, pu, w, h => by cases pu
  | .for_ .., env, A, L, S, r, hE, hl, hA, pu, w, h => by cases pu
  | .frz .., env, A, L, S, r, hE, hl, hA, pu, w, h => by cases pu
  | .frzA .., env, A, L, S, r, hE, hl, hA, pu, w, h => by cases pu
theorem sndPs [GOK] : ∀ (x : Sms) {env : Env} {A : Around} {L : Addr} {S : PS} {r : Fl × PS}, EnvOK env → env.locals = L → Rm A k → pureSs x = true → wfMs G.T env.scope.names ats cls x = true → exs O x S = some r → TP env A L S (toMs G.T x) r.1 r.2
  | .nil, env, A, L, S, r, hE, hl, hA, pu, w, h => by cases Option.some.inj h; exact fun m Z s Q E st kk => wpAny_execs_nil (kk m s.heap s.toks .next st (Kt.refl _ _) rfl)
  | .cons s t, env, A, L, S, r, hE, hl, hA, pu, w, h => by
    have pu := Bool.and_eq_true_iff.mp (show (pureS s && pureSs t) = true from pu)
    refine bnd (show (ex O s S).bind _ = some r from h) fun q eq h => ?_
    have w := Bool.and_eq_true_iff.mp w
    obtain ⟨st, es, hx⟩ := sndP s (L := L) hE hl hA pu.1 w.1 eq
    show TP env A L S (toM G.T s ++ toMs G.T t) r.1 r.2
    rw [es]
    obtain ⟨f, S₁⟩ := q
    intro m Z s' Q E st' kk
    refine wpAny_execs_cons (hx m Z s' _ E st' fun m' h' tk f' x' p' fo => ?_)
    cases f with
    | next =>
      cases fo
      exact sndPs t hE hl hA pu.2 w.2 h m' Z _ Q E x' fun m2 h2 tk2 f2 x2 p2 fo2 => kk m2 h2 tk2 f2 x2 (p'.trans p2) fo2
    | brk => cases h; cases fo; exact kk m' h' tk .brk x' p' rfl
    | ret d => cases Option.some.inj h; obtain ⟨v, rfl, i⟩ := fo; exact kk m' h' tk (.ret v) x' p' ⟨v, rfl, i⟩
end
end
end
section
section
variable {k : Nat} {O : Orc} {ats : List Nat} {cls : Nat} {fd : FuncData} {ps : List Nat} {body : Sms} {fa : Addr}
theorem pm_ok [GOK] {f : Nat} (hO : SndO k O) (D : DefAt fa ps body fd) (M : MethAt f fa) (w : wfMs G.T fd.scope.names ats cls body = true) : PmOK (k + 1) f (runPm O ps body) := fun ob ds d e => by
  refine bnd e fun _ pu e => ?_
  refine gdd pu fun pu _ => ?_
  refine mpd e fun r e1 e₀ => ?_
  cases e₀
  refine bnd (show (zipA ps (.obj :: ds.map .fz)).bind _ = some r from e1) fun l el e2 => ?_
  refine bnd e2 fun q er e3 => ?_
  refine mpd e3 fun d ed e₀ => ?_
  cases e₀
  refine ⟨fa, M, fun A s o L0 vals Z R hA hold zo X0 di kR => ?_⟩
  obtain ⟨oc, od, sl, ho⟩ := D.obj
  have K : G.K.In s.heap := GOK.X.keeps hold.1
  obtain ⟨sf, rest, rfl, lenp, lself, lf⟩ := zipA_obj el
  have len : (Value.ref o :: vals).length = (sf :: rest).length := congrArg (· + 1) (di.length.trans lenp.symm)
  have kk := D.fd.pk
  refine codeAny_call_cells (binds := zipB G.T (sf :: rest) (.ref o :: vals)) (by have := hA.2.1; lia) (K _ _ ho) rfl (GOK.lim.keeps hold.1) (codeRec_of K D.fd.code) D.fd.body (D.fd.bind _ len) D.fd.clo (fun p hp => ?_) (fun s₁ X => ?_) D.fd.co D.fd.gen D.fd.kind
  · obtain ⟨x, hx, ex⟩ := zipB_name hp
    have ks := (Bool.and_eq_true_iff.mp (List.all_eq_true.mp kk x hx)).1
    rw [← ex]
    unfold kS at ks
    split at ks
    · rename_i q; exact .inl q
    · rename_i q
      obtain ⟨c1, e1⟩ := cells_some (n := s.heap.objs.size + 1) q
      exact .inr ⟨q, by rw [e1]; rfl⟩
    · cases ks
  · have zn := zin_new (fd := fd) X
    have mv0 : Mv s.heap Z s₁.heap (fun b => Z b ∨ Zin fd s.heap.objs.size b) := fun b o nz g => ⟨X.toInCall.keep b o g, fun z => by
      rcases z with z | z
      · exact nz z
      · exact nso (zn b z) g⟩
    obtain ⟨dx, es, n, g1, g2, _, at0⟩ := X0
    have nL : dx ≠ s.heap.objs.size := fun c => by
      have := Heap.lt_size g2
      rw [c] at this
      exact Nat.lt_irrefl _ this
    have av1 : ∀ {v : Value} {u : AV}, AV1 s.heap Z v u → AV1 s₁.heap (fun b => Z b ∨ Zin fd s.heap.objs.size b) v u := fun {v u} i => by
      cases u with
      | fz d => exact DI.mv mv0 i
      | obj => exact i
      | own ds => obtain ⟨a, vs, n, l⟩ := i; exact ⟨a, vs, n, l.ref, X.toInCall.keep _ _ l.at_, l.len, l.its.mv mv0⟩
    have at1 : AttI s₁.heap (fun b => Z b ∨ Zin fd s.heap.objs.size b) es ob := ⟨at0.len, at0.keys, fun j av e => by obtain ⟨i, v, r, a⟩ := at0.get j av e; exact ⟨i, v, r, av1 a⟩, at0.non⟩
    have st := enter_stt (ob := ob) D.fd hold zo el len X fun v av hm => by
      rcases List.mem_cons.mp hm with hm | hm
      · cases hm
        exact ⟨o, rfl, dx, es, n, X.toInCall.keep _ _ g1, X.toInCall.keep _ _ g2, nL, at1⟩
      · obtain ⟨d', rfl, i⟩ := dis_zip di v av hm
        exact DI.mv mv0 i
    obtain ⟨h1, tk1, rfl⟩ := X.toInCall.same
    refine sndPs hO body (D.fd.env _) rfl (Rm.deeper hA) pu w er _ _ _ _ _ st fun m' h' tk f' st' kt fo => ?_
    have tz : ∀ b, Tf (callEnvC fd s.heap.objs.size fa) s.heap.objs.size b → Zin fd s.heap.objs.size b := fun b hb => by
      rcases hb with rfl | ⟨x, _, e⟩
      · exact .inl rfl
      · exact .inr ⟨x, e⟩
    have ks : Ks s.heap h' := fun b o g => kt b o (fun z => by exact nso (zn b (tz b z)) g) (X.toInCall.keep b o g)
    have mvE : Mv h' (fun b => Z b ∨ Zin fd s.heap.objs.size b) h' Z := fun b o nz g => ⟨g, fun z => nz (.inl z)⟩
    obtain ⟨r1, r2⟩ := q
    cases r1 with
    | next => cases fo; cases ed; exact kR _ h' tk ks .none
    | brk => cases ed
    | ret d' =>
      cases Option.some.inj ed
      obtain ⟨v, rfl, i⟩ := fo
      exact kR v h' tk ks (i.mv mvE)
end
end
end Mine
end
section
set_option backward.match.sparseCases false
namespace Mine
open PySem PySem.Calls PySem.Spec PyProof.Rows PySem.W
section
section
variable {k j : Nat} {O : Orc} {f : Nat}
theorem FnOK.up {F : List D → Option D} (h : FnOK k f F) (l : k ≤ j) : FnOK j f F := fun ds d e => by obtain ⟨fa, a, b, c⟩ := h ds d e; exact ⟨fa, a, b, fun A s vals Z R r => c A s vals Z R (r.le l)⟩
theorem PmOK.up {F : Al → List D → Option D} (h : PmOK k f F) (l : k ≤ j) : PmOK j f F := fun ob ds d e => by obtain ⟨fa, a, c⟩ := h ob ds d e; exact ⟨fa, a, fun A s o L vals Z R r => c A s o L vals Z R (r.le l)⟩
theorem MmOK.up {F : Al → List D → Option (D × Al)} (h : MmOK k f F) (l : k ≤ j) : MmOK j f F := fun ob ds d e => by obtain ⟨fa, a, c⟩ := h ob ds d e; exact ⟨fa, a, fun A s o dx β vals Z Y R r => c A s o dx β vals Z Y R (r.le l)⟩
theorem SndM.up (h : SndM k O) (l : k ≤ j) : SndM j O := { gl := h.gl, fn := fun f => (h.fn f).up l, pm := fun f => (h.pm f).up l, mm := fun f => (h.mm f).up l }
theorem SndM.addF {F : List D → Option D} (h : SndM k O) (a : FnOK k f F) : SndM k { O with fn := fun g ds => if g = f then F ds else O.fn g ds } := { gl := h.gl, pm := h.pm, mm := h.mm, fn := fun g ds d e => (by
    by_cases c : g = f
    · subst c
      have e : (if g = g then F ds else O.fn g ds) = some d := e
      rw [if_pos rfl] at e; exact a ds d e
    · have e : (if g = f then F ds else O.fn g ds) = some d := e
      rw [if_neg c] at e; exact h.fn g ds d e) }
theorem SndM.addP {F : Al → List D → Option D} (h : SndM k O) (a : PmOK k f F) : SndM k { O with pm := fun g ob ds => if g = f then F ob ds else O.pm g ob ds } := { gl := h.gl, fn := h.fn, mm := h.mm, pm := fun g ob ds d e => (by
    by_cases c : g = f
    · subst c
      have e : (if g = g then F ob ds else O.pm g ob ds) = some d := e
      rw [if_pos rfl] at e; exact a ob ds d e
    · have e : (if g = f then F ob ds else O.pm g ob ds) = some d := e
      rw [if_neg c] at e; exact h.pm g ob ds d e) }
theorem SndM.addM {F : Al → List D → Option (D × Al)} (h : SndM k O) (a : MmOK k f F) : SndM k { O with mm := fun g ob ds => if g = f then F ob ds else O.mm g ob ds } := { gl := h.gl, fn := h.fn, pm := h.pm, mm := fun g ob ds d e => (by
    by_cases c : g = f
    · subst c
      have e : (if g = g then F ob ds else O.mm g ob ds) = some d := e
      rw [if_pos rfl] at e; exact a ob ds d e
    · have e : (if g = f then F ob ds else O.mm g ob ds) = some d := e
      rw [if_neg c] at e; exact h.mm g ob ds d e) }
end
end
end Mine
end
section
set_option maxRecDepth 100000
set_option genInjectivity false
set_option genSizeOf false
set_option genSizeOfSpec false
set_option backward.match.sparseCases false
namespace Mine
open PySem
section
abbrev Ent := Nat × Int
set_option genCtorIdx false in
set_option backward.linearNoConfusionType false in
inductive Rl
  | fol
  | can (vs : List Nat)
  | led (ps : List (Nat × Nat))
structure Nd where
  me : Nat
  size : Nat
  term : Nat
  voted : Option Nat
  log : List Ent
  commit : Nat
  rl : Rl
set_option genCtorIdx false in
set_option backward.linearNoConfusionType false in
inductive Ms
  | ask (t f j : Nat) (l : Nat × Nat)
  | vote (t f j : Nat) (ok : Bool)
  | app (t f j : Nat) (p : Nat × Nat) (es : List Ent) (c : Nat)
  | done (t f j : Nat) (ok : Bool) (e : Nat)
set_option genCtorIdx false in
set_option backward.linearNoConfusionType false in
inductive Evt
  | timeout
  | beat
  | propose (c : Int)
  | msg (m : Ms)
noncomputable def nD (n : Nat) : D := .int (n : Int)
noncomputable def sD (s : String) : D := .str (Str.ofString s)
noncomputable def entD (e : Ent) : D := .tuple [nD e.1, .int e.2]
noncomputable def nnD (e : Nat × Nat) : D := .tuple [nD e.1, nD e.2]
noncomputable def psD (e : Nat × Nat) : D := .tuple [.int ((e.1 : Int) + 1), nD e.2]
noncomputable def votD : Option Nat → D
  | none => .none
  | some i => nD i
noncomputable def roleD : Rl → D
  | .fol => sD "follower"
  | .can _ => sD "candidate"
  | .led _ => sD "leader"
noncomputable def exD : Rl → List D
  | .fol => []
  | .can vs => vs.map nD
  | .led ps => ps.map psD
noncomputable def ndD (n : Nd) : D := .tuple [nD n.me, nD n.size, roleD n.rl, nD n.term, votD n.voted, .list (n.log.map entD), nD n.commit, .list (exD n.rl)]
noncomputable def msD : Ms → D
  | .ask t f j l => .tuple [sD "ask", nD t, nD f, nD j, nnD l]
  | .vote t f j ok => .tuple [sD "vote", nD t, nD f, nD j, .bool ok]
  | .app t f j p es c => .tuple [sD "append", nD t, nD f, nD j, nnD p, .list (es.map entD), nD c]
  | .done t f j ok e => .tuple [sD "done", nD t, nD f, nD j, .bool ok, nD e]
noncomputable def evD : Evt → D
  | .timeout => .tuple [sD "timeout"]
  | .beat => .tuple [sD "beat"]
  | .propose c => .tuple [sD "propose", .int c]
  | .msg m => .tuple [sD "message", msD m]
noncomputable def obD (n : Nd) (out : List Ms) : Al :=
  [(3, .fz (nD n.me)), (4, .fz (nD n.size)), (5, .fz (roleD n.rl)), (6, .fz (nD n.term)), (7, .fz (votD n.voted)), (9, .fz (nD n.commit)), (8, .own (n.log.map entD)), (10, .own (exD n.rl)), (11, .own (out.map msD))]
noncomputable def tmAt (l : List Ent) : Nat → Nat
  | 0 => 0
  | i + 1 => match l[i]? with
    | some e => e.1
    | none => 0
theorem init_ok (n : Nd) : F_init [] [ndD n] = some (.none, obD n []) := by
  cases n; rfl
theorem follow_ok (n : Nd) (out : List Ms) : F_follow (obD n out) [] = some (.none, obD { n with rl := .fol } out) := by
  cases n; rfl
end
end Mine
end
section
set_option maxRecDepth 100000
set_option backward.match.sparseCases false
namespace Mine
open PySem
section
section
variable {O : Orc} {S S1 : PS}
theorem x_next {s : Sm} {r : Sms} {X} (h1 : ex O s S = some (.next, S1)) (h2 : exs O r S1 = X) : exs O (.cons s r) S = X := by
  show (ex O s S).bind _ = _; rw [h1]; exact h2
theorem x_ret {s : Sm} {r : Sms} {d} (h1 : ex O s S = some (.ret d, S1)) : exs O (.cons s r) S = some (.ret d, S1) := by
  show (ex O s S).bind _ = _; rw [h1]; rfl
theorem x_brk {s : Sm} {r : Sms} (h1 : ex O s S = some (.brk, S1)) : exs O (.cons s r) S = some (.brk, S1) := by
  show (ex O s S).bind _ = _; rw [h1]; rfl
theorem x_ifT {t : Te} {a b : Sms} {p : Pos} {X} (h1 : evT O t S = some true) (h2 : exs O a S = X) : ex O (.ite t a b p) S = X := by
  show (evT O t S).bind _ = _; rw [h1]; exact h2
theorem x_ifF {t : Te} {a b : Sms} {p : Pos} {X} (h1 : evT O t S = some false) (h2 : exs O b S = X) : ex O (.ite t a b p) S = X := by
  show (evT O t S).bind _ = _; rw [h1]; exact h2
theorem e_ifT {t : Te} {a b : Ex} {p : Pos} {X} (h1 : evT O t S = some true) (h2 : ev O a S = X) : ev O (.ite t a b p) S = X := by
  show (evT O t S).bind _ = _; rw [h1]; exact h2
theorem e_ifF {t : Te} {a b : Ex} {p : Pos} {X} (h1 : evT O t S = some false) (h2 : ev O b S = X) : ev O (.ite t a b p) S = X := by
  show (evT O t S).bind _ = _; rw [h1]; exact h2
theorem q_v {e : Ex} {X} (h : ev O e S = X) : evQ O (.v e) S = X := h
theorem t_v {e : Ex} {d : D} {X} (h : ev O e S = some d) (h2 : truth d = X) : evT O (.v e) S = X := by
  show (ev O e S).bind _ = _; rw [h]; exact h2
theorem e_ret {e : Ex} {p : Pos} {d} (h1 : ev O e S = some d) : ex O (.ret e p) S = some (.ret d, S) := by
  show (ev O e S).map _ = _; rw [h1]; rfl
theorem r_pm {ps : List Nat} {b : Sms} {ob : Al} {ds : List D} {l : Al} {f : Fl} {d : D} (h0 : pureSs b = true) (h1 : zipA ps (.obj :: ds.map .fz) = some l) (h2 : exs O b ⟨l, ob⟩ = some (f, S)) (h3 : valOf f = some d) : runPm O ps b ob ds = some d := by
  show ((gd (pureSs b) ()).bind fun _ => ((zipA ps (.obj :: ds.map .fz)).bind _).map _) = _
  rw [h0, h1]
  show (((exs O b ⟨l, ob⟩).bind fun p => (valOf p.1).map fun d => (d, p.2.ob))).map (·.1) = _
  rw [h2]; show ((valOf f).map _).map _ = _; rw [h3]; rfl
theorem r_mm {ps : List Nat} {b : Sms} {ob o : Al} {ds : List D} {l l' : Al} {f : Fl} {d : D} (h1 : zipA ps (.obj :: ds.map .fz) = some l) (h2 : exs O b ⟨l, ob⟩ = some (f, ⟨l', o⟩)) (h3 : valOf f = some d) : runMm O ps b ob ds = some (d, o) := by
  show (zipA ps (.obj :: ds.map .fz)).bind _ = _
  rw [h1]; show (exs O b ⟨l, ob⟩).bind _ = _; rw [h2]; show (valOf f).map _ = _; rw [h3]; rfl
theorem r_fn {ps : List Nat} {b : Sms} {ds : List D} {l : Al} {f : Fl} {d : D} (h1 : zipA ps (ds.map .fz) = some l) (h2 : exs O b ⟨l, []⟩ = some (f, S)) (h3 : valOf f = some d) : runFn O ps b ds = some d := by
  show (zipA ps (ds.map .fz)).bind _ = _
  rw [h1]; show (exs O b ⟨l, []⟩).bind _ = _; rw [h2]; exact h3
theorem e_bin {o : Op} {a b : Qx} {p : Pos} {x y : D} {X} (ha : evQ O a S = some x) (hb : evQ O b S = some y) (h : doBin o x y = X) : ev O (.bin o a b p) S = X := by
  show (evQ O a S).bind _ = _; rw [ha]; show (evQ O b S).bind _ = _; rw [hb]; exact h
theorem e_cmp {o : Cm} {a b : Qx} {p : Pos} {x y : D} {c : Bool} (ha : evQ O a S = some x) (hb : evQ O b S = some y) (h : doCm o x y = some c) : ev O (.cmp o a b p) S = some (.bool c) := by
  show (evQ O a S).bind _ = _; rw [ha]; show (evQ O b S).bind _ = _; rw [hb]; show (doCm o x y).map _ = _; rw [h]; rfl
theorem t_cmp {o : Cm} {a b : Qx} {p : Pos} {x y : D} {c : Bool} (ha : evQ O a S = some x) (hb : evQ O b S = some y) (h : doCm o x y = some c) : evT O (.v (.cmp o a b p)) S = some c := by
  show (ev O (.cmp o a b p) S).bind _ = _; rw [e_cmp ha hb h]; rfl
theorem e_idx {a : Qx} {b : Ex} {p : Pos} {x y : D} {X} (ha : evQ O a S = some x) (hb : ev O b S = some y) (h : doIdx x y = X) : ev O (.idx a b p) S = X := by
  show (evQ O a S).bind _ = _; rw [ha]; show (ev O b S).bind _ = _; rw [hb]; exact h
theorem e_b1 {f : B1} {a : Qx} {p q : Pos} {x : D} {X} (ha : evQ O a S = some x) (h : doB1 f x = X) : ev O (.b1 f a p q) S = X := by
  show (evQ O a S).bind _ = _; rw [ha]; exact h
theorem e_b2 {f : B2} {a b : Ex} {p q : Pos} {x y : D} {X} (ha : ev O a S = some x) (hb : ev O b S = some y) (h : doB2 f x y = X) : ev O (.b2 f a b p q) S = X := by
  show (ev O a S).bind _ = _; rw [ha]; show (ev O b S).bind _ = _; rw [hb]; exact h
theorem e_slc {e : Qx} {lo hi : Ox} {p q : Pos} {x : D} {a b} {X} (he : evQ O e S = some x) (ha : evO O lo S = some a) (hb : evO O hi S = some b) (h : doSlc a b x = X) : ev O (.slc e lo hi p q) S = X := by
  show (evQ O e S).bind _ = _; rw [he]; show (evO O lo S).bind _ = _; rw [ha]; show (evO O hi S).bind _ = _; rw [hb]; exact h
theorem o_some {e : Ex} {d : D} (h : ev O e S = some d) : evO O (.some e) S = some (some d) := by
  show (ev O e S).map _ = _; rw [h]; rfl
theorem e_call {f : Nat} {es : Exs} {p q : Pos} {ds} {X} {F : List D → Option D} (hF : O.fn f = F) (h : evs O es S = some ds) (h2 : F ds = X) : ev O (.call f es p q) S = X := by
  subst hF
  show (evs O es S).bind _ = _; rw [h]; exact h2
theorem e_meth {x m : Nat} {es : Exs} {p a q : Pos} {ds} {X} {F : Al → List D → Option D} (hF : O.pm m = F) (h0 : isObj x S.loc = true) (h : evs O es S = some ds) (h2 : F S.ob ds = X) : ev O (.meth x m es p a q) S = X := by
  subst hF
  show (if isObj x S.loc = true then (evs O es S).bind _ else none) = _; rw [if_pos h0, h]; exact h2
theorem es_cons {e : Ex} {r : Exs} {d : D} {ds} (h : ev O e S = some d) (hr : evs O r S = some ds) : evs O (.cons e r) S = some (d :: ds) := by
  show (ev O e S).bind _ = _; rw [h]; show (evs O r S).map _ = _; rw [hr]; rfl
theorem e_tup {es : Exs} {p : Pos} {ds} (h : evs O es S = some ds) : ev O (.tup es p) S = some (.tuple ds) := by
  show (evs O es S).map _ = _; rw [h]; rfl
theorem e_lst {es : Exs} {p : Pos} {ds} (h : evs O es S = some ds) : ev O (.lst es p) S = some (.list ds) := by
  show (evs O es S).map _ = _; rw [h]; rfl
theorem al_t {t : Te} {r : Tes} {X} (h : evT O t S = some true) (hr : evAll O r S = X) : evAll O (.cons t r) S = X := by
  show (evT O t S).bind _ = _; rw [h]; exact hr
theorem al_f {t : Te} {r : Tes} (h : evT O t S = some false) : evAll O (.cons t r) S = some false := by
  show (evT O t S).bind _ = _; rw [h]; rfl
theorem al_c {t : Te} {r : Tes} {c d : Bool} (h : evT O t S = some c) (hr : evAll O r S = some d) : evAll O (.cons t r) S = some (c && d) := by
  cases c
  · exact al_f h
  · exact al_t h hr
theorem x_app {l : Lc} {e : Ex} {p c a : Pos} {ds : List D} {d : D} (hl : getL l S = some ds) (he : ev O e S = some d) (hb : ds.length < big) : ex O (.app l e p c a) S = some (.next, putL l (ds ++ [d]) S) := by
  show (getL l S).bind _ = _; rw [hl]; show (ev O e S).bind _ = _; rw [he]; show gd _ _ = _; rw [decide_eq_true hb]; rfl
theorem x_asg {x : Nat} {e : Ex} {p q : Pos} {d : D} {l : Al} (he : ev O e S = some d) (hl : putO x (.fz d) S.loc = some l) : ex O (.asg x false e p q) S = some (.next, { S with loc := l }) := by
  show (ev O e S).bind _ = _; rw [he]; show (putO x (.fz d) S.loc).map _ = _; rw [hl]; rfl
theorem x_asgO {x : Nat} {e : Ex} {p q : Pos} {ds : List D} {l : Al} (he : ev O e S = some (.list ds)) (hf : freshE e = true) (hl : putO x (.own ds) S.loc = some l) : ex O (.asg x true e p q) S = some (.next, { S with loc := l }) := by
  show (ev O e S).bind _ = _; rw [he]; show ((gd (!true || freshE e) ()).bind fun _ => _) = _; rw [hf]; show (putO x (.own ds) S.loc).map _ = _; rw [hl]; rfl
theorem x_asgA {x a : Nat} {e : Ex} {p t q : Pos} {d : D} {o : Al} (h0 : isObj x S.loc = true) (he : ev O e S = some d) (hl : putA a (.fz d) S.ob = some o) : ex O (.asgA x a false e p t q) S = some (.next, { S with ob := o }) := by
  show (if isObj x S.loc = true then (ev O e S).bind _ else none) = _; rw [if_pos h0, he]; show (putA a (.fz d) S.ob).map _ = _; rw [hl]; rfl
theorem x_asgAO {x a : Nat} {e : Ex} {p t q : Pos} {ds : List D} {o : Al} (h0 : isObj x S.loc = true) (he : ev O e S = some (.list ds)) (hf : freshE e = true) (hl : putA a (.own ds) S.ob = some o) : ex O (.asgA x a true e p t q) S = some (.next, { S with ob := o }) := by
  show (if isObj x S.loc = true then (ev O e S).bind _ else none) = _; rw [if_pos h0, he]; show ((gd (!true || freshE e) ()).bind fun _ => _) = _; rw [hf]; show (putA a (.own ds) S.ob).map _ = _; rw [hl]; rfl
theorem x_setI {l : Lc} {i e : Ex} {p t : Pos} {ds : List D} {d : D} {k : Nat} (he : ev O e S = some d) (hl : getL l S = some ds) (hi : ev O i S = some (nD k)) (hk : k < ds.length) : ex O (.setI l i e p t) S = some (.next, putL l (ds.set k d) S) := by
  show (ev O e S).bind _ = _; rw [he]; show (getL l S).bind _ = _; rw [hl]; show (ev O i S).bind _ = _; rw [hi]
  show (placeOf ds.length (nD k)).map _ = _
  have : placeOf ds.length (nD k) = some k := by
    show gd (decide ((0 : Int) ≤ (k : Int)) && decide ((k : Int).toNat < ds.length)) (k : Int).toNat = _
    rw [Int.toNat_natCast, decide_eq_true (Int.natCast_nonneg k), decide_eq_true hk]; rfl
  rw [this]; rfl
theorem x_mcall {x m : Nat} {es : Exs} {p c a q : Pos} {ds} {o : Al} {F : Al → List D → Option (D × Al)} (hF : O.mm m = F) (h0 : isObj x S.loc = true) (h : evs O es S = some ds) (h2 : F S.ob ds = some (.none, o)) : ex O (.mcall x m es p c a q) S = some (.next, { S with ob := o }) := by
  subst hF
  show (if isObj x S.loc = true then (evs O es S).bind _ else none) = _; rw [if_pos h0, h]; show (O.mm m S.ob ds).bind _ = _; rw [h2]; rfl
theorem x_for {tg : Tx} {src : Sr} {b : Sms} {p : Pos} {items} {X} (h : evSr O src S = some items) (hf : forL (fun d S => (bindT tg d S.loc).bind fun l => exs O b { S with loc := l }) items S = X) : ex O (.for_ tg src b p) S = X := by
  show (evSr O src S).bind _ = _; rw [h]; exact hf
theorem s_seq {e : Qx} {x : D} {X} (h : evQ O e S = some x) (h2 : asSeq x = X) : evSr O (.seq e) S = X := by
  show (evQ O e S).bind _ = _; rw [h]; exact h2
theorem s_rng {es : Exs} {p q : Pos} {ds} {is} {X} (h : evs O es S = some ds) (h2 : asInts ds = some is) (h3 : doRng is = X) : evSr O (.rng es p q) S = X := by
  show (evs O es S).bind _ = _; rw [h]; show (asInts ds).bind _ = _; rw [h2]; exact h3
theorem e_comp {elt : Ex} {tg : Tx} {src : Sr} {cond : Cx} {sc} {p : Pos} {items l} (h : evSr O src S = some items)
    (hc : compL (fun d => (bindT tg d S.loc).bind fun l => (evC O cond { S with loc := l }).bind fun c => if c then (ev O elt { S with loc := l }).map some else some none) items = some l) (hl : l.length ≤ big) : ev O (.comp elt tg src cond sc p) S = some (.list l) := by
  show (evSr O src S).bind _ = _; rw [h]; show (compL _ items).bind _ = _; rw [hc]; show gd _ _ = _; rw [decide_eq_true hl]; rfl
end
theorem compL_map {α : Type} (e : α → D) (p : α → Bool) (g : α → D) {f : D → Option (Option D)} {l : List α} (h : ∀ x ∈ l, f (e x) = some (if p x then some (g x) else none)) : compL f (l.map e) = some ((l.filter p).map g) := by
  induction l with
  | nil => rfl
  | cons x r ih =>
    show (f (e x)).bind (fun y => (compL f (r.map e)).map fun l => y.toList ++ l) = _
    rw [h x (List.mem_cons_self ..), ih fun y hy => h y (List.mem_cons_of_mem _ hy)]
    cases hp : p x
    · rw [List.filter_cons_of_neg (by rw [hp]; exact Bool.false_ne_true)]; rfl
    · rw [List.filter_cons_of_pos hp]; rfl
theorem atI_nat {l : List D} {i : Nat} {d : D} (h : l[i]? = some d) : atI l (i : Int) = some d := by
  unfold atI; rw [if_pos (Int.natCast_nonneg i), Int.toNat_natCast]; exact h
theorem idx_l {α : Type} {f : α → D} {l : List α} {i : Nat} {x : α} (h : l[i]? = some x) : doIdx (.list (l.map f)) (nD i) = some (f x) :=
  atI_nat (by rw [List.getElem?_map, h]; rfl)
theorem len_l {α : Type} {f : α → D} {l : List α} : doB1 .len (.list (l.map f)) = some (nD l.length) := by
  show some (PyData.int ((l.map f).length : Int)) = _; rw [List.length_map]; rfl
theorem c_lt {a b : Nat} : doCm .lt (nD a) (nD b) = some (decide (a < b)) := by
  show some (decide ((a : Int) < (b : Int))) = _; simp only [Int.ofNat_lt]
theorem c_le {a b : Nat} : doCm .le (nD a) (nD b) = some (decide (a ≤ b)) := by
  show some (decide ((a : Int) ≤ (b : Int))) = _; simp only [Int.ofNat_le]
theorem c_gt {a b : Nat} : doCm .gt (nD a) (nD b) = some (decide (b < a)) := by
  show some (decide ((b : Int) < (a : Int))) = _; simp only [Int.ofNat_lt]
theorem c_ge {a b : Nat} : doCm .ge (nD a) (nD b) = some (decide (b ≤ a)) := by
  show some (decide ((b : Int) ≤ (a : Int))) = _; simp only [Int.ofNat_le]
theorem eqv_n {a b : Nat} : PyData.eqv (nD a) (nD b) = decide (a = b) := by
  show ((a : Int) == (b : Int)) = _
  by_cases h : a = b
  · subst h; rw [decide_eq_true rfl]; exact beq_self_eq_true _
  · rw [decide_eq_false h]; exact beq_eq_false_iff_ne.mpr fun e => h (Int.ofNat.inj e)
theorem c_eq {a b : Nat} : doCm .eq (nD a) (nD b) = some (decide (a = b)) := congrArg some eqv_n
theorem c_ne {a b : Nat} : doCm .ne (nD a) (nD b) = some (!decide (a = b)) := congrArg (fun c => some (!c)) eqv_n
theorem fit_n {i : Nat} (h : i ≤ 1000000) : fitI (i : Int) = true := by
  unfold fitI; rw [decide_eq_true (by (exact Int.natCast_nonneg _)), decide_eq_true (by lia)]; rfl
theorem rng_n {n : Nat} (h : n ≤ 60000) : doRng [(n : Int)] = some ((List.range n).map nD) := by
  show rangeL 0 (n : Int) 1 = _
  have e : (fun i : Nat => PyData.int (0 + Int.ofNat i)) = nD := by funext i; rw [Int.zero_add]; rfl
  have f0 : fitI 0 = true := by decide +kernel
  unfold rangeL
  rw [if_pos rfl, f0, fit_n (by (exact Nat.le_trans (by assumption) (by decide))), Int.sub_zero, Int.toNat_natCast, decide_eq_true (by unfold big; (exact Nat.le_trans (by assumption) (by decide))), e]; rfl
noncomputable def isLed : Rl → Bool
  | .led _ => true
  | _ => false
noncomputable def isCan : Rl → Bool
  | .can _ => true
  | _ => false
theorem c_led (r : Rl) : doCm .eq (roleD r) (.str (Str.ofString "leader")) = some (isLed r) := by
  cases r
  · exact (by decide +kernel : doCm .eq (.str (Str.ofString "follower")) (.str (Str.ofString "leader")) = some false)
  · exact (by decide +kernel : doCm .eq (.str (Str.ofString "candidate")) (.str (Str.ofString "leader")) = some false)
  · exact (by decide +kernel : doCm .eq (.str (Str.ofString "leader")) (.str (Str.ofString "leader")) = some true)
theorem c_can (r : Rl) : doCm .eq (roleD r) (.str (Str.ofString "candidate")) = some (isCan r) := by
  cases r
  · exact (by decide +kernel : doCm .eq (.str (Str.ofString "follower")) (.str (Str.ofString "candidate")) = some false)
  · exact (by decide +kernel : doCm .eq (.str (Str.ofString "candidate")) (.str (Str.ofString "candidate")) = some true)
  · exact (by decide +kernel : doCm .eq (.str (Str.ofString "leader")) (.str (Str.ofString "candidate")) = some false)
theorem c_nled (r : Rl) : doCm .ne (roleD r) (.str (Str.ofString "leader")) = some (!isLed r) := by
  show (doCm .eq (roleD r) (.str (Str.ofString "leader"))).map (!·) = _; rw [c_led]; rfl
theorem term_at_ok (n : Nd) (out : List Ms) (i : Nat) : F_term_at (obD n out) [nD i] = some (nD (tmAt n.log i)) := by
  cases i with
  | zero => rfl
  | succ i =>
    by_cases h : i + 1 ≤ n.log.length
    · have hi : i < n.log.length := h
      have e0 : n.log[i]? = some n.log[i] := List.getElem?_eq_getElem hi
      have e1 : tmAt n.log (i + 1) = n.log[i].1 := by rw [tmAt, e0]
      have e2 : atI (n.log.map entD) (((i + 1 : Nat) : Int) - 1) = some (entD n.log[i]) := by
        have : (((i + 1 : Nat) : Int) - 1) = (i : Int) := by lia
        rw [this]; exact atI_nat (by rw [List.getElem?_map, e0]; rfl)
      rw [e1]
      refine r_pm rfl rfl (x_ret (e_ret (e_ifT ?_ ?_))) rfl
      · have a : (0 : Int) < ((i + 1 : Nat) : Int) := by lia
        have b : ((i + 1 : Nat) : Int) ≤ ((n.log.map entD).length : Int) := by rw [List.length_map]; (exact Int.ofNat_lt.mpr (by assumption))
        show (if decide ((0 : Int) < ((i + 1 : Nat) : Int)) then some (decide (((i + 1 : Nat) : Int) ≤ ((n.log.map entD).length : Int))) else some false) = _
        rw [decide_eq_true a, decide_eq_true b]; rfl
      · show (atI (n.log.map entD) (((i + 1 : Nat) : Int) - 1)).bind (fun x => doIdx x (.int 0)) = _
        rw [e2]; rfl
    · have e1 : tmAt n.log (i + 1) = 0 := by rw [tmAt, List.getElem?_eq_none (by (exact Nat.le_of_not_lt (by assumption)))]
      rw [e1]
      refine r_pm rfl rfl (x_ret (e_ret (e_ifF ?_ rfl))) rfl
      have a : (0 : Int) < ((i + 1 : Nat) : Int) := by lia
      have b : ¬ ((i + 1 : Nat) : Int) ≤ ((n.log.map entD).length : Int) := by rw [List.length_map]; lia
      show (if decide ((0 : Int) < ((i + 1 : Nat) : Int)) then some (decide (((i + 1 : Nat) : Int) ≤ ((n.log.map entD).length : Int))) else some false) = _
      rw [decide_eq_true a, decide_eq_false b]; rfl
noncomputable def lastN (l : List Ent) : Nat × Nat := (tmAt l l.length, l.length)
theorem last_ok (n : Nd) (out : List Ms) : F_last (obD n out) [] = some (nnD (lastN n.log)) := by
  obtain ⟨me, size, term, voted, log, commit, rl⟩ := n
  cases log with
  | nil => rfl
  | cons e r =>
    have hi : r.length < (e :: r).length := Nat.lt_succ_self _
    have e0 : (e :: r)[r.length]? = some (e :: r)[r.length] := List.getElem?_eq_getElem hi
    have e1 : lastN (e :: r) = ((e :: r)[r.length].1, r.length + 1) := by show (tmAt (e :: r) (r.length + 1), r.length + 1) = _; rw [tmAt, e0]
    show F_last _ _ = some (nnD (lastN (e :: r)))
    rw [e1]
    refine r_pm rfl rfl (x_ret (e_ret (e_ifT rfl (e_tup (es_cons (e_idx (x := entD (e :: r)[r.length]) (q_v (e_idx rfl rfl ?_)) rfl rfl) (es_cons (e_b1 rfl len_l) rfl)))))) rfl
    show atI ((e :: r).map entD) (-1) = _
    have : (((e :: r).map entD).length : Int) = (r.length : Int) + 1 := by rw [List.length_map]; rfl
    unfold atI
    rw [if_neg (by decide), if_pos (by rw [this]; lia), this, show ((-1 : Int) + ((r.length : Int) + 1)).toNat = r.length by lia, List.getElem?_map, e0]; rfl
noncomputable def othN (me size : Nat) : List Nat := (List.range size).filter fun j => !decide (j = me)
theorem others_ok (n : Nd) (out : List Ms) (h : n.size ≤ 60000) : F_others (obD n out) [] = some (.list ((othN n.me n.size).map nD)) := by
  refine r_pm rfl rfl (x_ret (e_ret (e_comp (s_rng rfl rfl (rng_n h)) (compL_map nD (fun j => !decide (j = n.me)) nD fun j _ => ?_) ?_))) rfl
  · show ((doCm .ne (nD j) (nD n.me)).map PyData.bool |>.bind truth).bind (fun c => if c then (some (some (nD j))) else some none) = _
    rw [c_ne]; cases decide (j = n.me) <;> rfl
  · rw [List.length_map]
    have := List.length_filter_le (fun j => !decide (j = n.me)) (List.range n.size)
    rw [List.length_range] at this; unfold big; lia
end
theorem forL_pre {α : Type} (e : α → D) {f : D → PS → Option (Fl × PS)} {L : List α} (I : List α → PS → Prop) (hs : ∀ d x r S, L = d ++ x :: r → I d S → ∃ S', f (e x) S = some (.next, S') ∧ I (d ++ [x]) S') :
    ∀ (r d : List α) (S : PS), L = d ++ r → I d S → ∃ S', forL f (r.map e) S = some (.next, S') ∧ I L S' := by
  intro l0
  induction l0 with
  | nil =>
    intro d S h hi
    (rw [List.append_nil] at h; subst h; exact ⟨S, rfl, hi⟩)
  | cons x r ih =>
    intro d S h hi
    obtain ⟨S1, e1, h1⟩ := hs d x r S h hi
    obtain ⟨S2, e2, h2⟩ := ih (d ++ [x]) S1 (by rw [h, List.append_assoc]; rfl) h1
    refine ⟨S2, ?_, h2⟩
    show (f (e x) S).bind _ = _; rw [e1]; exact e2
theorem forL_find {α : Type} (e : α → D) (p : α → Bool) {f : D → PS → Option (Fl × PS)} (I : PS → Prop) (J : α → PS → Prop)
    (hp : ∀ x S, I S → p x = true → ∃ S', f (e x) S = some (.ret .none, S') ∧ J x S') (hn : ∀ x S, I S → p x = false → ∃ S', f (e x) S = some (.next, S') ∧ I S') :
    ∀ (l : List α) (S : PS), I S → ∃ S' fl, forL f (l.map e) S = some (fl, S') ∧ ((l.find? p = none ∧ fl = .next ∧ I S') ∨ ∃ x, l.find? p = some x ∧ fl = .ret .none ∧ J x S') := by
  intro l0
  induction l0 with
  | nil =>
    intro S h
    exact ⟨S, .next, rfl, .inl ⟨rfl, rfl, h⟩⟩
  | cons x r ih =>
    intro S h
    cases hx : p x with
    | true =>
      obtain ⟨S1, e1, h1⟩ := hp x S h hx
      refine ⟨S1, .ret .none, ?_, .inr ⟨x, by rw [List.find?_cons, hx], rfl, h1⟩⟩
      show (f (e x) S).bind _ = _; rw [e1]; rfl
    | false =>
      obtain ⟨S1, e1, h1⟩ := hn x S h hx
      obtain ⟨S2, fl, e2, h2⟩ := ih S1 h1
      refine ⟨S2, fl, ?_, by rw [List.find?_cons, hx]; exact h2⟩
      show (f (e x) S).bind _ = _; rw [e1]; exact e2
theorem b_sub1 {p : Nat} : doBin .sub (.int ((p : Int) + 1)) (.int 1) = some (nD p) := by
  show some (PyData.int ((p : Int) + 1 - 1)) = _; rw [Int.add_sub_cancel]; rfl
theorem mul_int (i j : Int) : doBin .mul (.int i) (.int j) = gd (fitI i) (.int (i * j)) := rfl
theorem b_mul2 {k : Nat} : doBin .mul (.int 2) (nD k) = some (nD (2 * k)) := by
  refine (mul_int 2 (k : Int)).trans ?_
  rw [show fitI 2 = true by decide +kernel]
  show some (PyData.int (2 * (k : Int))) = some (PyData.int ((2 * k : Nat) : Int)); rw [Int.natCast_mul]; rfl
theorem b_addn {a b : Nat} : doBin .add (nD a) (nD b) = some (nD (a + b)) := by
  show some (PyData.int ((a : Int) + (b : Int))) = some (PyData.int ((a + b : Nat) : Int)); rw [Int.natCast_add]
theorem part_int (i : Int) : partI (some (.int i)) = gd (decide (0 ≤ i) && fitI i) (some i.toNat) := rfl
theorem part_n {p : Nat} (h : p ≤ 1000000) : partI (some (nD p)) = some (some p) := by
  refine (part_int (p : Int)).trans ?_
  rw [decide_eq_true (Int.natCast_nonneg p), fit_n h, Int.toNat_natCast]; rfl
theorem slc_from {α : Type} {f : α → D} {l : List α} {p : Nat} (h : p ≤ 1000000) : doSlc (some (nD p)) none (.list (l.map f)) = some (.list ((l.drop p).map f)) := by
  show (partI (some (nD p))).bind _ = _
  rw [part_n h]
  show some (PyData.list ((l.map f).drop p)) = _
  rw [List.map_drop]
theorem obD_out (n : Nd) (out ms : List Ms) : obD n (out ++ ms) = put 11 (.own (out.map msD ++ ms.map msD)) (obD n out) := by
  unfold obD; rw [List.map_append]; rfl
noncomputable def sendN (n : Nd) (p j : Nat) : Ms := .app n.term n.me j (tmAt n.log p, p) (n.log.drop p) n.commit
theorem send_ok (n : Nd) (out : List Ms) (j p m : Nat) (ps : List (Nat × Nat)) (hr : n.rl = .led ps) (hj : ps[j]? = some (p, m)) (hp : p ≤ 60000) (ho : out.length < big) :
    F_send_append (obD n out) [nD j] = some (.none, obD n (out ++ [sendN n p j])) := by
  obtain ⟨me, size, term, voted, log, commit, rl⟩ := n
  cases hr
  rw [obD_out]
  exact r_mm (l := [(1, .obj), (18, .fz (nD j))]) (f := .next) rfl (x_next (x_asg (l := [(1, .obj), (18, .fz (nD j)), (21, .fz (.int ((p : Int) + 1)))]) (e_idx (q_v (e_idx rfl rfl (idx_l (f := psD) hj))) rfl rfl) rfl)
    (x_next (x_asg (l := [(1, .obj), (18, .fz (nD j)), (21, .fz (.int ((p : Int) + 1))), (22, .fz (nD p))]) (e_bin rfl rfl b_sub1) rfl)
    (x_next (x_app (ds := out.map msD) (d := msD (sendN ⟨me, size, term, voted, log, commit, .led ps⟩ p j)) rfl (e_tup (es_cons rfl (es_cons rfl (es_cons rfl (es_cons rfl (es_cons (e_tup (es_cons (e_meth (F := F_term_at) rfl rfl rfl (term_at_ok _ _ p)) (es_cons rfl rfl))) (es_cons (e_slc rfl (o_some rfl) rfl (slc_from (by (exact Nat.le_trans (by assumption) (by decide))))) (es_cons rfl rfl)))))))) (by rw [List.length_map]; exact ho)) rfl))) rfl
noncomputable def prevAt (ps : List (Nat × Nat)) (j : Nat) : Nat := match ps[j]? with
  | some p => p.1
  | none => 0
noncomputable def appsN (n : Nd) (ps : List (Nat × Nat)) (to : List Nat) : List Ms := to.map fun j => sendN n (prevAt ps j) j
theorem oth_lt {me size j : Nat} (h : j ∈ othN me size) : j < size ∧ j ≠ me := by
  unfold othN at h; rw [List.mem_filter] at h
  exact ⟨List.mem_range.mp h.1, by intro e; rw [decide_eq_true e] at h; exact Bool.noConfusion h.2⟩
theorem oth_len (me size : Nat) : (othN me size).length ≤ size := by
  have := List.length_filter_le (fun j => !decide (j = me)) (List.range size)
  rw [List.length_range] at this; exact this
structure LedOK (n : Nd) (ps : List (Nat × Nat)) : Prop where
  rl : n.rl = .led ps
  len : ps.length = n.size
  le : ∀ p ∈ ps, p.1 ≤ 60000
theorem beat_no (n : Nd) (out : List Ms) (h : isLed n.rl = false) : F_beat (obD n out) [] = some (.none, obD n out) :=
  r_mm (l := [(1, .obj)]) (f := .next) rfl (x_next (x_ifF (t_cmp rfl rfl ((c_led _).trans (congrArg some h))) rfl) rfl) rfl
theorem beat_ok (n : Nd) (out : List Ms) (ps : List (Nat × Nat)) (h : LedOK n ps) (hs : n.size ≤ 60000) (ho : out.length + n.size ≤ big) :
    F_beat (obD n out) [] = some (.none, obD n (out ++ appsN n ps (othN n.me n.size))) := by
  obtain ⟨S', e, hl, ho'⟩ := forL_pre (α := Nat) nD (f := fun d S => (bindT (.one 18 ⟨30,16,30,17⟩) d S.loc).bind fun l => exs O4 (.cons (.mcall 1 20 (.cons (.var 18 ⟨31,33,31,34⟩) .nil) ⟨31,16,31,35⟩ ⟨31,16,31,35⟩ ⟨31,16,31,32⟩ ⟨31,16,31,20⟩) .nil) { S with loc := l }) (L := othN n.me n.size)
    (fun d S => (S.loc = [(1, .obj)] ∨ ∃ v, S.loc = [(1, .obj), (18, .fz v)]) ∧ S.ob = obD n (out ++ appsN n ps d)) (fun d j r S hL hi => by
      obtain ⟨loc, ob⟩ := S
      obtain ⟨hl, rfl⟩ := hi
      have hj := oth_lt (me := n.me) (size := n.size) (j := j) (by rw [hL]; exact List.mem_append_right _ (List.mem_cons_self ..))
      obtain ⟨⟨p, m⟩, hj'⟩ : ∃ q, ps[j]? = some q := ⟨_, List.getElem?_eq_getElem (by rw [h.len]; exact hj.1)⟩
      have hlen : (out ++ appsN n ps d).length < big := by
        have h1 := oth_len n.me n.size
        rw [hL, List.length_append, List.length_cons] at h1
        rw [List.length_append, appsN, List.length_map]; lia
      refine ⟨⟨[(1, .obj), (18, .fz (nD j))], obD n (out ++ appsN n ps (d ++ [j]))⟩, ?_, .inr ⟨_, rfl⟩, rfl⟩
      have e1 : bindT (.one 18 ⟨30,16,30,17⟩) (nD j) loc = some [(1, .obj), (18, .fz (nD j))] := by
        rcases hl with hl | ⟨v, hl⟩ <;> (have hl : loc = _ := hl; subst hl; rfl)
      show (bindT (.one 18 ⟨30,16,30,17⟩) (nD j) loc).bind _ = _
      rw [e1]
      have e2 := send_ok n (out ++ appsN n ps d) j p m ps h.rl hj' (h.le _ (List.mem_of_getElem? hj')) hlen
      have e3 : out ++ appsN n ps (d ++ [j]) = (out ++ appsN n ps d) ++ [sendN n p j] := by
        unfold appsN; rw [List.map_append, List.append_assoc]; simp only [List.map_cons, List.map_nil, prevAt, hj']
      rw [e3]
      exact x_next (x_mcall (F := F_send_append) rfl rfl rfl e2) rfl) (othN n.me n.size) [] ⟨[(1, .obj)], obD n out⟩ rfl ⟨.inl rfl, by show obD n out = obD n (out ++ []); rw [List.append_nil]⟩
  obtain ⟨loc, ob⟩ := S'
  have ho' : ob = _ := ho'
  subst ho'
  exact r_mm (l := [(1, .obj)]) (f := .next) rfl (x_next (x_ifT (t_cmp rfl rfl ((c_led _).trans (by rw [h.rl]; rfl))) (x_next (x_for (s_seq (q_v (e_meth (F := F_others) rfl rfl rfl (others_ok n out hs))) rfl) e) rfl)) rfl) rfl
theorem mul_list (l : List D) (j : Int) : doBin .mul (.list l) (.int j) = gd (decide (0 ≤ j) && decide (j ≤ 16) && decide (l.length ≤ 16)) (.list (List.replicate j.toNat l).flatten) := rfl
theorem rep_one {α : Type} (x : α) : ∀ k, (List.replicate k [x]).flatten = List.replicate k x := by
  intro l0
  induction l0 with
  | zero =>
    exact rfl
  | succ k ih =>
    (rw [List.replicate_succ, List.flatten_cons, ih]; rfl)
theorem mul_rep {α : Type} {f : α → D} {x : α} {k : Nat} (h : k ≤ 16) : doBin .mul (.list [f x]) (nD k) = some (.list ((List.replicate k x).map f)) := by
  refine (mul_list _ (k : Int)).trans ?_
  rw [decide_eq_true (Int.natCast_nonneg k), decide_eq_true (show (k : Int) ≤ 16 by (exact Int.ofNat_le.mpr (by assumption))), Int.toNat_natCast, rep_one, List.map_replicate]; rfl
noncomputable def leadPs (n : Nd) : List (Nat × Nat) := (List.replicate n.size (n.log.length, 0)).set n.me (n.log.length, n.log.length)
noncomputable def leadN (n : Nd) : Nd × List Ms :=
  ({ n with rl := .led (leadPs n) }, appsN { n with rl := .led (leadPs n) } (leadPs n) (othN n.me n.size))
theorem lead_led (n : Nd) (hl : n.log.length ≤ 60000) : LedOK (leadN n).1 (leadPs n) where
  rl := rfl
  len := by show (leadPs n).length = n.size; rw [leadPs, List.length_set, List.length_replicate]
  le p hp := by
    rw [leadPs] at hp
    rcases List.mem_or_eq_of_mem_set hp with h | h
    · rw [(List.mem_replicate.mp h).2]; exact hl
    · rw [h]; exact hl
theorem t_all {O : Orc} {S : PS} {ts : Tes} {p : Pos} {X} (h : evAll O ts S = X) : evT O (.all ts p) S = X := h
theorem maybe_no (n : Nd) (out : List Ms) (h : isCan n.rl = false) : F_maybe_lead (obD n out) [] = some (.none, obD n out) :=
  r_mm (l := [(1, .obj)]) (l' := [(1, .obj)]) (f := .next) rfl (x_next (x_ifF (t_all (al_f (t_cmp rfl rfl ((c_can _).trans (congrArg some h))))) rfl) rfl) rfl
theorem maybe_few (n : Nd) (out : List Ms) (vs : List Nat) (hr : n.rl = .can vs) (h : ¬ n.size < 2 * vs.length) : F_maybe_lead (obD n out) [] = some (.none, obD n out) := by
  obtain ⟨me, size, term, voted, log, commit, rl⟩ := n
  cases hr
  exact r_mm (l := [(1, .obj)]) (l' := [(1, .obj)]) (f := .next) rfl (x_next (x_ifF (t_all (al_t (t_cmp rfl rfl (c_can _)) (al_f (t_cmp (q_v (e_bin rfl (q_v (e_b1 rfl len_l)) b_mul2)) rfl (c_gt.trans (congrArg some (decide_eq_false h))))))) rfl) rfl) rfl
theorem maybe_ok (n : Nd) (out : List Ms) (vs : List Nat) (hr : n.rl = .can vs) (h : n.size < 2 * vs.length) (hm : n.me < n.size) (hs : n.size ≤ 16) (hl : n.log.length ≤ 60000) (ho : out.length + n.size ≤ big) :
    F_maybe_lead (obD n out) [] = some (.none, obD (leadN n).1 (out ++ (leadN n).2)) := by
  have hb := beat_ok (leadN n).1 out (leadPs n) (lead_led n hl) (show n.size ≤ 60000 by (exact Nat.le_trans (by assumption) (by decide))) ho
  obtain ⟨me, size, term, voted, log, commit, rl⟩ := n
  cases hr
  refine r_mm (l := [(1, .obj)]) (l' := [(1, .obj)]) (f := .next) rfl (x_next (x_ifT (t_all (al_t (t_cmp rfl rfl (c_can _)) (al_t (t_cmp (q_v (e_bin rfl (q_v (e_b1 rfl len_l)) b_mul2)) rfl (c_gt.trans (congrArg some (decide_eq_true h)))) rfl)))
    (x_next (x_asgA rfl rfl rfl) (x_next (x_asgAO rfl (e_bin (q_v (e_lst (es_cons (e_tup (ds := [.int ((log.length : Int) + 1), .int 0]) (es_cons (e_bin (q_v (e_b1 rfl len_l)) rfl rfl) rfl)) rfl))) rfl (mul_rep (f := psD) (x := (log.length, 0)) hs)) rfl rfl)
    (x_next (x_setI (d := psD (log.length, log.length)) (k := me) (e_tup (es_cons (e_bin (q_v (e_b1 rfl len_l)) rfl rfl) (es_cons (e_b1 rfl len_l) rfl))) rfl rfl (by rw [List.length_map, List.length_replicate]; exact hm))
    (x_next (x_mcall (F := F_beat) (o := obD (leadN ⟨me, size, term, voted, log, commit, .can vs⟩).1 (out ++ (leadN ⟨me, size, term, voted, log, commit, .can vs⟩).2)) rfl rfl rfl ?_) rfl))))) rfl) rfl
  refine Eq.trans (congrArg (fun o => F_beat o []) ?_) hb
  show _ = obD ⟨me, size, term, voted, log, commit, .led ((List.replicate size (log.length, 0)).set me (log.length, log.length))⟩ out
  unfold obD
  show _ = [(3, AV.fz (nD me)), (4, .fz (nD size)), _, _, _, _, _, (10, .own (((List.replicate size (log.length, 0)).set me (log.length, log.length)).map psD)), _]
  rw [List.map_set]; rfl
noncomputable def downN (a b : Nat) : List Nat := (List.range (a - b)).map fun i => a - i
theorem rng_down {a b : Nat} (ha : a ≤ 60000) (hb : b ≤ 60000) : doRng [(a : Int), (b : Int), -1] = some ((downN a b).map nD) := by
  show rangeL (a : Int) (b : Int) (-1) = _
  unfold rangeL
  rw [if_neg (by decide), if_pos rfl, fit_n (Nat.le_trans ha (by decide)), fit_n (Nat.le_trans hb (by decide)), show ((a : Int) - (b : Int)).toNat = a - b from Int.toNat_sub a b, decide_eq_true (show a - b ≤ big from Nat.le_trans (Nat.sub_le _ _) (Nat.le_trans ha (by decide))), downN, List.map_map]
  show some _ = some _
  congr 1
  refine List.map_congr_left fun i hi => ?_
  have := List.mem_range.mp hi
  show PyData.int ((a : Int) - (i : Int)) = PyData.int ((a - i : Nat) : Int)
  congr 1; exact (Int.ofNat_sub (Nat.le_trans (Nat.le_of_lt this) (Nat.sub_le _ _))).symm
noncomputable def okN (n : Nd) (ps : List (Nat × Nat)) (i : Nat) : Bool := decide (tmAt n.log i = n.term) && decide (n.size < 2 * (ps.filter fun q => decide (i ≤ q.2)).length)
noncomputable def lookN (n : Nd) (ps : List (Nat × Nat)) : Nat := ((downN n.log.length n.commit).find? (okN n ps)).getD n.commit
theorem evAll_nil {O : Orc} {S : PS} : evAll O .nil S = some true := rfl
noncomputable def sNth : Nat → Sms → Sm
  | 0, .cons s _ => s
  | k + 1, .cons _ r => sNth k r
  | _, .nil => .brk ⟨0, 0, 0, 0⟩
noncomputable def sDrop : Nat → Sms → Sms
  | 0, r => r
  | k + 1, .cons _ r => sDrop k r
  | _, .nil => .nil
noncomputable def bodyS : Sm → Sms
  | .for_ _ _ b _ => b
  | _ => .nil
noncomputable def tgS : Sm → Tx
  | .for_ t _ _ _ => t
  | _ => .one 0 ⟨0, 0, 0, 0⟩
noncomputable def srS : Sm → Sr
  | .for_ _ s _ _ => s
  | _ => .rng .nil ⟨0, 0, 0, 0⟩ ⟨0, 0, 0, 0⟩
noncomputable def thenS : Sm → Sms
  | .ite _ a _ _ => a
  | _ => .nil
noncomputable def elseS : Sm → Sms
  | .ite _ _ b _ => b
  | _ => .nil
noncomputable def testS : Sm → Te
  | .ite t _ _ _ => t
  | _ => .v (.lit .none ⟨0, 0, 0, 0⟩)
noncomputable def loopF (O : Orc) (s : Sm) (d : D) (S : PS) : Option (Fl × PS) := (bindT (tgS s) d S.loc).bind fun l => exs O (bodyS s) ⟨l, S.ob⟩
theorem x_loop {O : Orc} {s : Sm} {d : D} {S : PS} {l : Al} {X} (h : bindT (tgS s) d S.loc = some l) (h2 : exs O (bodyS s) ⟨l, S.ob⟩ = X) : loopF O s d S = X := by
  show (bindT (tgS s) d S.loc).bind _ = _; rw [h]; exact h2
theorem look_test (n : Nd) (out : List Ms) (i : Nat) (ps : List (Nat × Nat)) (hr : n.rl = .led ps) (hp : ps.length ≤ 60000) :
    evT O8 (testS (sNth 0 (bodyS (sNth 0 ir_look)))) ⟨[(1, .obj), (26, .fz (nD i))], obD n out⟩ = some (okN n ps i) := by
  obtain ⟨me, size, term, voted, log, commit, rl⟩ := n
  cases hr
  have e : okN ⟨me, size, term, voted, log, commit, .led ps⟩ ps i = (decide (tmAt log i = term) && (decide (size < 2 * (ps.filter fun q => decide (i ≤ q.2)).length) && true)) := by rw [Bool.and_true]; rfl
  rw [e]
  refine t_all (al_c (t_cmp (q_v (e_meth (F := F_term_at) rfl rfl rfl (term_at_ok _ _ i))) rfl c_eq) (al_c (t_cmp (q_v (e_bin rfl (q_v (e_b1 (q_v (e_comp (s_seq rfl rfl) (compL_map psD (fun q => decide (i ≤ q.2)) psD fun q _ => ?_) ?_)) len_l)) b_mul2)) rfl c_gt) evAll_nil))
  · show ((doCm .ge (nD q.2) (nD i)).map PyData.bool |>.bind truth).bind (fun c => if c then (some (some (psD q))) else some none) = _
    rw [c_ge]; cases decide (i ≤ q.2) <;> rfl
  · rw [List.length_map]
    have := List.length_filter_le (fun q : Nat × Nat => decide (i ≤ q.2)) ps
    unfold big; lia
theorem look_ok (n : Nd) (out : List Ms) (ps : List (Nat × Nat)) (hr : n.rl = .led ps) (hl : n.log.length ≤ 60000) (hc : n.commit ≤ 60000) (hq : ps.length ≤ 60000) :
    F_look (obD n out) [] = some (.none, obD { n with commit := lookN n ps } out) := by
  obtain ⟨me, size, term, voted, log, commit, rl⟩ := n
  cases hr
  obtain ⟨⟨l', o'⟩, fl, e, h⟩ := forL_find (f := loopF O8 (sNth 0 ir_look)) nD (okN ⟨me, size, term, voted, log, commit, .led ps⟩ ps)
    (fun S => (S.loc = [(1, .obj)] ∨ ∃ v, S.loc = [(1, .obj), (26, .fz v)]) ∧ S.ob = obD ⟨me, size, term, voted, log, commit, .led ps⟩ out)
    (fun i S => S.ob = obD ⟨me, size, term, voted, log, i, .led ps⟩ out)
    (fun i S hi hp => by
      obtain ⟨loc, ob⟩ := S
      obtain ⟨hl, rfl⟩ := hi
      refine ⟨⟨[(1, .obj), (26, .fz (nD i))], obD ⟨me, size, term, voted, log, i, .led ps⟩ out⟩, x_loop (l := [(1, .obj), (26, .fz (nD i))]) ?_ (x_ret (S1 := ⟨[(1, .obj), (26, .fz (nD i))], obD ⟨me, size, term, voted, log, i, .led ps⟩ out⟩) (x_ifT ((look_test _ out i ps rfl hq).trans (congrArg some hp)) (x_next (x_asgA rfl rfl rfl) (x_ret rfl)))), rfl⟩
      rcases hl with hl | ⟨v, hl⟩ <;> (have hl : loc = _ := hl; subst hl; rfl))
    (fun i S hi hp => by
      obtain ⟨loc, ob⟩ := S
      obtain ⟨hl, rfl⟩ := hi
      refine ⟨⟨[(1, .obj), (26, .fz (nD i))], obD ⟨me, size, term, voted, log, commit, .led ps⟩ out⟩, x_loop (l := [(1, .obj), (26, .fz (nD i))]) ?_ (x_next (x_ifF ((look_test _ out i ps rfl hq).trans (congrArg some hp)) rfl) rfl), .inr ⟨_, rfl⟩, rfl⟩
      rcases hl with hl | ⟨v, hl⟩ <;> (have hl : loc = _ := hl; subst hl; rfl))
    (downN log.length commit) ⟨[(1, .obj)], obD ⟨me, size, term, voted, log, commit, .led ps⟩ out⟩ ⟨.inl rfl, rfl⟩
  have hx : evSr O8 (srS (sNth 0 ir_look)) ⟨[(1, .obj)], obD ⟨me, size, term, voted, log, commit, .led ps⟩ out⟩ = some ((downN log.length commit).map nD) :=
    s_rng (es_cons (e_b1 rfl len_l) (es_cons rfl rfl)) rfl (rng_down hl hc)
  rcases h with ⟨hf, rfl, -, ho⟩ | ⟨i, hf, rfl, ho⟩
  · have ho : o' = _ := ho
    subst ho
    rw [lookN, hf]
    exact r_mm (l := [(1, .obj)]) (f := .next) rfl (x_next (x_for hx e) rfl) rfl
  · have ho : o' = _ := ho
    subst ho
    rw [lookN, hf]
    exact r_mm (l := [(1, .obj)]) (f := .ret .none) rfl (x_ret (x_for hx e)) rfl
noncomputable def upN (n : Nd) (t : Nat) : Nd := if n.term < t then { n with term := t, voted := none, rl := .fol } else n
noncomputable def geP (a b : Nat × Nat) : Bool := decide (b.1 < a.1 ∨ (a.1 = b.1 ∧ b.2 ≤ a.2))
noncomputable def askOk (n : Nd) (t f : Nat) (l : Nat × Nat) : Bool := decide (t = n.term) && ((decide (n.voted = none) || decide (n.voted = some f)) && geP l (lastN n.log))
noncomputable def askN (n : Nd) (t f : Nat) (l : Nat × Nat) : Nd × List Ms :=
  ({ n with voted := if askOk n t f l then some f else n.voted }, [.vote n.term n.me f (askOk n t f l)])
noncomputable def addV (f : Nat) (vs : List Nat) : List Nat := if f ∈ vs then vs else vs ++ [f]
noncomputable def canN (n : Nd) (vs : List Nat) : Nd × List Ms := if n.size < 2 * vs.length then leadN { n with rl := .can vs } else ({ n with rl := .can vs }, [])
noncomputable def voteN (n : Nd) (t f : Nat) (ok : Bool) : Nd × List Ms := match n.rl with
  | .can vs => if ok = true ∧ t = n.term then canN n (addV f vs) else (n, [])
  | _ => (n, [])
noncomputable def putEs : Nat → List Ent → List Ent → List Ent
  | _, l, [] => l
  | i, l, e :: es =>
    let l1 := if i < l.length ∧ tmAt l (i + 1) ≠ e.1 then l.take i else l
    putEs (i + 1) (if l1.length ≤ i then l1 ++ [e] else l1) es
noncomputable def appOk (n : Nd) (p : Nat × Nat) : Bool := decide (p.2 = 0) || (decide (p.2 ≤ n.log.length) && decide (tmAt n.log p.2 = p.1))
noncomputable def appN (n : Nd) (t f : Nat) (p : Nat × Nat) (es : List Ent) (c : Nat) : Nd × List Ms :=
  if t = n.term then
    if appOk n p then ({ n with rl := .fol, log := putEs p.2 n.log es, commit := if n.commit < min c (p.2 + es.length) then min c (p.2 + es.length) else n.commit }, [.done n.term n.me f true (p.2 + es.length)])
    else ({ n with rl := .fol }, [.done n.term n.me f false 0])
  else (n, [.done n.term n.me f false 0])
noncomputable def doneN (n : Nd) (t f : Nat) (ok : Bool) (e : Nat) : Nd × List Ms := match n.rl with
  | .led ps => if t = n.term then match ps[f]? with
      | some q => if ok then
          ({ n with rl := .led (ps.set f (max q.2 e, max q.2 e)), commit := lookN n (ps.set f (max q.2 e, max q.2 e)) }, [])
        else ({ n with rl := .led (ps.set f (q.1 - 1, q.2)) }, [sendN n (q.1 - 1) f])
      | none => (n, [])
    else (n, [])
  | _ => (n, [])
theorem and_c {O : Orc} {S : PS} {e e' : Ex} {r : Exs} {c d : Bool} (h : ev O e S = some (.bool c)) (hr : evAnd O (.cons e' r) S = some (.bool d)) : evAnd O (.cons e (.cons e' r)) S = some (.bool (c && d)) := by
  show (ev O e S).bind _ = _; rw [h]
  cases c
  · rfl
  · exact hr
theorem or_c {O : Orc} {S : PS} {e e' : Ex} {r : Exs} {c d : Bool} (h : ev O e S = some (.bool c)) (hr : evOr O (.cons e' r) S = some (.bool d)) : evOr O (.cons e (.cons e' r)) S = some (.bool (c || d)) := by
  show (ev O e S).bind _ = _; rw [h]
  cases c
  · exact hr
  · rfl
theorem an_1 {O : Orc} {S : PS} {e : Ex} {X} (h : ev O e S = X) : evAnd O (.cons e .nil) S = X := h
theorem or_1 {O : Orc} {S : PS} {e : Ex} {X} (h : ev O e S = X) : evOr O (.cons e .nil) S = X := h
theorem e_and {O : Orc} {S : PS} {es : Exs} {p : Pos} {X} (h : evAnd O es S = X) : ev O (.and es p) S = X := h
theorem e_or {O : Orc} {S : PS} {es : Exs} {p : Pos} {X} (h : evOr O es S = X) : ev O (.or es p) S = X := h
theorem c_vin {v : Option Nat} {f : Nat} : doCm .isin (votD v) (.tuple [.none, nD f]) = some (decide (v = none) || decide (v = some f)) := by
  cases v with
  | none => rfl
  | some i =>
    show some (PyData.eqv .none (nD i) || (PyData.eqv (nD f) (nD i) || false)) = _
    rw [eqv_n, show PyData.eqv .none (nD i) = false from rfl, Bool.false_or, Bool.or_false, decide_eq_false (show ¬ some i = none by intro h; cases h), Bool.false_or]
    by_cases h : f = i
    · rw [decide_eq_true h, decide_eq_true (congrArg some h.symm)]
    · rw [decide_eq_false h, decide_eq_false fun e => h (Option.some.inj e).symm]
theorem c_ge2 {a b : Nat × Nat} : doCm .ge (nnD a) (nnD b) = some (geP a b) := by
  show some (decide (((a.1 : Int)) > (b.1 : Int) ∨ ((a.1 : Int) = (b.1 : Int) ∧ (a.2 : Int) ≥ (b.2 : Int)))) = _
  unfold geP; congr 1; exact decide_eq_decide.mpr (or_congr Int.ofNat_lt (and_congr Int.ofNat_inj Int.ofNat_le))
theorem any_n {f : Nat} : ∀ {vs : List Nat}, ((vs.map nD).any fun y => PyData.eqv y (nD f)) = decide (f ∈ vs) := by
  intro l0
  induction l0 with
  | nil =>
    exact rfl
  | cons v vs ih =>
    rw [List.map_cons, List.any_cons, ih, eqv_n]
    by_cases h : v = f
    · subst h; rw [decide_eq_true rfl, decide_eq_true (List.mem_cons_self ..)]; rfl
    · rw [decide_eq_false h, Bool.false_or]; exact decide_eq_decide.mpr ⟨List.mem_cons_of_mem _, fun h' => (List.mem_cons.mp h').resolve_left fun e => h e.symm⟩
theorem c_notin {f : Nat} {vs : List Nat} : doCm .notin (nD f) (.list (vs.map nD)) = some (!decide (f ∈ vs)) := by
  show some (!((vs.map nD).any fun y => PyData.eqv y (nD f))) = _; rw [any_n]
theorem x_asgT {O : Orc} {S S1 : PS} {ts : List (Tg × Bool)} {es : Exs} {p t v : Pos} {ds : List D} {vs : List AV} (h : evs O es S = some ds) (hf : freshAt (ts.map (·.2)) es = true) (hv : avsOf (ts.map (·.2)) ds = some vs) (hs : setTs (ts.map (·.1)) vs S = some S1) : ex O (.asgT ts es p t v) S = some (.next, S1) := by
  show (evs O es S).bind (fun ds => (gd (freshAt (ts.map (·.2)) es) ()).bind fun _ => (avsOf (ts.map (·.2)) ds).bind fun vs => (setTs (ts.map (·.1)) vs S).map fun S' => (Fl.next, S')) = _
  rw [h, hf]; show (avsOf (ts.map (·.2)) ds).bind _ = _; rw [hv]; show (setTs (ts.map (·.1)) vs S).map _ = _; rw [hs]; rfl
theorem x_unp {O : Orc} {S S1 : PS} {ts : List Tg} {e : Ex} {p t : Pos} {d : D} {ds : List D} (h : ev O e S = some d) (hd : asTup d = some ds) (hs : setTs ts (ds.map .fz) S = some S1) : ex O (.unp ts e p t) S = some (.next, S1) := by
  show (ev O e S).bind _ = _; rw [h]; show (asTup d).bind _ = _; rw [hd]; show (setTs ts (ds.map .fz) S).map _ = _; rw [hs]; rfl
noncomputable def rl6 (d k : D) (t f : Nat) (rest : List D) : Al := [(1, .obj), (32, .fz d), (33, .fz k), (6, .fz (nD t)), (34, .fz (nD f)), (35, .fz (.tuple rest))]
theorem recv_pre {n : Nd} {out : List Ms} {k : D} {t f : Nat} {j : D} {rest : List D} {o : Al} {fl : Fl} {l' : Al} (hf : valOf fl = some .none)
    (h : exs O9 (sDrop 2 ir_receive) ⟨rl6 (.tuple (k :: nD t :: nD f :: j :: rest)) k t f rest, obD (upN n t) out⟩ = some (fl, ⟨l', o⟩)) :
    F_receive (obD n out) [.tuple (k :: nD t :: nD f :: j :: rest)] = some (.none, o) := by
  have e4 : doSlc (some (.int 4)) none (.tuple (k :: nD t :: nD f :: j :: rest)) = some (.tuple rest) := by
    show (partI (some (nD 4))).bind _ = _
    rw [part_n (by lia)]; rfl
  have a : ex O9 (sNth 0 ir_receive) ⟨[(1, .obj), (32, .fz (.tuple (k :: nD t :: nD f :: j :: rest)))], obD n out⟩ = some (.next, ⟨rl6 (.tuple (k :: nD t :: nD f :: j :: rest)) k t f rest, obD n out⟩) := by
    exact x_asgT (ds := [k, nD t, nD f, .tuple rest]) (es_cons rfl (es_cons rfl (es_cons rfl (es_cons (e_slc rfl (o_some rfl) rfl e4) rfl)))) rfl rfl rfl
  refine r_mm (l := [(1, .obj), (32, .fz (.tuple (k :: nD t :: nD f :: j :: rest)))]) rfl (x_next a (x_next (S1 := ⟨_, obD (upN n t) out⟩) ?_ h)) hf
  by_cases hu : n.term < t
  · rw [upN, if_pos hu]
    exact x_ifT (t_cmp rfl rfl (c_gt.trans (congrArg some (decide_eq_true hu)))) (x_next rfl (x_next (x_mcall (F := F_follow) rfl rfl rfl (follow_ok { n with term := t, voted := none } out)) rfl))
  · rw [upN, if_neg hu]
    exact x_ifF (t_cmp rfl rfl (c_gt.trans (congrArg some (decide_eq_false hu)))) rfl
theorem recv_ask {n : Nd} {out : List Ms} {t f j : Nat} {l : Nat × Nat} (ho : out.length < big) :
    F_receive (obD n out) [msD (.ask t f j l)] = some (.none, obD (askN (upN n t) t f l).1 (out ++ (askN (upN n t) t f l).2)) := by
  rw [obD_out]
  refine recv_pre (fl := .next) (l' := rl6 (msD (.ask t f j l)) (sD "ask") t f [nnD l] ++ [(36, .fz (.bool (askOk (upN n t) t f l)))]) rfl ?_
  generalize upN n t = n
  have ea : ∀ S : PS, S.loc = rl6 (msD (.ask t f j l)) (sD "ask") t f [nnD l] → S.ob = obD n out → ev O9 (match sNth 0 (thenS (sNth 0 (sDrop 2 ir_receive))) with | .asg _ _ e _ _ => e | _ => .lit .none ⟨0,0,0,0⟩) S = some (.bool (askOk n t f l)) := by
    rintro ⟨loc, ob⟩ rfl rfl
    exact e_and (and_c (e_cmp rfl rfl c_eq) (and_c (e_cmp rfl (q_v (e_tup rfl)) c_vin) (an_1 (e_cmp (q_v (e_b1 (q_v (e_idx rfl rfl rfl)) rfl)) (q_v (e_meth (F := F_last) rfl rfl rfl (last_ok _ _))) c_ge2))))
  refine x_next (x_ifT (by kernel_rfl) (x_next (x_asg (ea _ rfl rfl) rfl) (x_next (S1 := ⟨rl6 (msD (.ask t f j l)) (sD "ask") t f [nnD l] ++ [(36, .fz (.bool (askOk n t f l)))], obD (askN n t f l).1 out⟩) ?_ (x_next (x_app (ds := out.map msD) rfl rfl (by rw [List.length_map]; exact ho)) rfl)))) rfl
  cases hk : askOk n t f l
  · refine x_ifF rfl ?_
    show some _ = some _
    unfold askN; rw [hk]; rfl
  · refine x_ifT rfl ?_
    unfold askN; rw [hk]; rfl
structure NdOK (n : Nd) : Prop where
  me : n.me < n.size
  size : n.size ≤ 16
  log : n.log.length ≤ 30000
  com : n.commit ≤ 60000
  can : ∀ vs, n.rl = .can vs → vs.length ≤ 60
  led : ∀ ps, n.rl = .led ps → ps.length = n.size ∧ ∀ p ∈ ps, p.1 ≤ 50000
theorem up_ok {n : Nd} (h : NdOK n) (t : Nat) : NdOK (upN n t) := by
  unfold upN
  by_cases hu : n.term < t
  · rw [if_pos hu]; exact ⟨h.me, h.size, h.log, h.com, (fun _ e => Rl.noConfusion e), (fun _ e => Rl.noConfusion e)⟩
  · rw [if_neg hu]; exact h
theorem recv_vote {n : Nd} (hn : NdOK n) {out : List Ms} {t f j : Nat} {ok : Bool} (ho : out.length + 16 < big) :
    F_receive (obD n out) [msD (.vote t f j ok)] = some (.none, obD (voteN (upN n t) t f ok).1 (out ++ (voteN (upN n t) t f ok).2)) := by
  have hn := up_ok hn t
  refine recv_pre (fl := .next) (l' := rl6 (msD (.vote t f j ok)) (sD "vote") t f [.bool ok]) rfl ?_
  revert hn
  generalize upN n t = n
  intro hn
  refine x_next (x_ifF (by kernel_rfl) (x_next (x_ifT (by kernel_rfl) (x_next (S1 := ⟨_, obD (voteN n t f ok).1 (out ++ (voteN n t f ok).2)⟩) ?_ rfl)) rfl)) rfl
  obtain ⟨me, size, term, voted, log, commit, rl⟩ := n
  cases ok with
  | false =>
    refine x_ifF (t_all (al_f (t_v (e_idx rfl rfl rfl) rfl))) ?_
    have : voteN ⟨me, size, term, voted, log, commit, rl⟩ t f false = (⟨me, size, term, voted, log, commit, rl⟩, []) := by
      unfold voteN; cases rl with
      | can vs => exact if_neg fun h => Bool.noConfusion h.1
      | _ => rfl
    rw [this, List.append_nil]; rfl
  | true =>
    by_cases ht : t = term
    · subst ht
      cases rl with
      | fol => rw [voteN, List.append_nil]; exact x_ifF (t_all (al_t (t_v (e_idx rfl rfl rfl) rfl) (al_t (t_cmp rfl rfl (c_eq.trans (congrArg some (decide_eq_true rfl)))) (al_f (t_cmp rfl rfl (c_can _)))))) rfl
      | led ps => rw [voteN, List.append_nil]; exact x_ifF (t_all (al_t (t_v (e_idx rfl rfl rfl) rfl) (al_t (t_cmp rfl rfl (c_eq.trans (congrArg some (decide_eq_true rfl)))) (al_f (t_cmp rfl rfl (c_can _)))))) rfl
      | can vs =>
        have e : voteN ⟨me, size, t, voted, log, commit, .can vs⟩ t f true = canN ⟨me, size, t, voted, log, commit, .can (addV f vs)⟩ (addV f vs) := if_pos ⟨rfl, rfl⟩
        rw [e]
        have h1 : ex O9 (sNth 0 (thenS (sNth 0 (thenS (sNth 0 (elseS (sNth 0 (sDrop 2 ir_receive)))))))) ⟨rl6 (msD (.vote t f j true)) (sD "vote") t f [.bool true], obD ⟨me, size, t, voted, log, commit, .can vs⟩ out⟩ = some (.next, ⟨rl6 (msD (.vote t f j true)) (sD "vote") t f [.bool true], obD ⟨me, size, t, voted, log, commit, .can (addV f vs)⟩ out⟩) := by
          unfold addV
          by_cases hf : f ∈ vs
          · rw [if_pos hf]; exact x_ifF (t_cmp rfl rfl (c_notin.trans (by rw [decide_eq_true hf]; rfl))) rfl
          · rw [if_neg hf]
            refine x_ifT (t_cmp rfl rfl (c_notin.trans (by rw [decide_eq_false hf]; rfl))) (x_next (x_app (ds := vs.map nD) rfl rfl (by rw [List.length_map]; have := hn.can _ rfl; unfold big; (exact Nat.lt_of_le_of_lt (by assumption) (by decide)))) ?_)
            show some _ = some _
            unfold obD
            show _ = some (Fl.next, (⟨_, [_, _, _, _, _, _, _, (10, .own ((vs ++ [f]).map nD)), _]⟩ : PS))
            rw [List.map_append]; rfl
        have h2 : F_maybe_lead (obD ⟨me, size, t, voted, log, commit, .can (addV f vs)⟩ out) [] = some (.none, obD (canN ⟨me, size, t, voted, log, commit, .can (addV f vs)⟩ (addV f vs)).1 (out ++ (canN ⟨me, size, t, voted, log, commit, .can (addV f vs)⟩ (addV f vs)).2)) := by
          unfold canN
          by_cases hs : size < 2 * (addV f vs).length
          · rw [if_pos hs]; exact maybe_ok _ out (addV f vs) rfl hs hn.me hn.size (Nat.le_trans hn.log (by decide)) (by show out.length + size ≤ big; have : size ≤ 16 := hn.size; lia)
          · rw [if_neg hs, List.append_nil]; exact maybe_few _ out (addV f vs) rfl hs
        exact x_ifT (t_all (al_t (t_v (e_idx rfl rfl rfl) rfl) (al_t (t_cmp rfl rfl (c_eq.trans (congrArg some (decide_eq_true rfl)))) (al_t (t_cmp rfl rfl (c_can _)) rfl)))) (x_next h1 (x_next (x_mcall (F := F_maybe_lead) rfl rfl rfl h2) rfl))
    · have : voteN ⟨me, size, term, voted, log, commit, rl⟩ t f true = (⟨me, size, term, voted, log, commit, rl⟩, []) := by
        unfold voteN; cases rl with
        | can vs => exact if_neg fun h => ht h.2
        | _ => rfl
      rw [this, List.append_nil]
      exact x_ifF (t_all (al_t (t_v (e_idx rfl rfl rfl) rfl) (al_f (t_cmp rfl rfl (c_eq.trans (congrArg some (decide_eq_false ht))))))) rfl
theorem lc_len {n : Nd} {out : List Ms} {l : Al} {i a : Pos} {O : Orc} {p q : Pos} (h : isObj 1 l = true) : ev O (.b1 .len (.oa 1 8 i a) p q) ⟨l, obD n out⟩ = some (nD n.log.length) :=
  e_b1 (x := .list (n.log.map entD)) (by show (if isObj 1 l = true then _ else none) = _; rw [if_pos h]; rfl) len_l
theorem recv_done {n : Nd} (hn : NdOK n) {out : List Ms} {t f j e : Nat} {ok : Bool} (hf : f < n.size) (he : e ≤ 50000) (ho : out.length < big) :
    F_receive (obD n out) [msD (.done t f j ok e)] = some (.none, obD (doneN (upN n t) t f ok e).1 (out ++ (doneN (upN n t) t f ok e).2)) := by
  have hn := up_ok hn t
  have hf : f < (upN n t).size := by unfold upN; by_cases hu : n.term < t <;> simp only [hu, if_true, if_false] <;> exact hf
  revert hn hf
  suffices ∀ n : Nd, NdOK n → f < n.size → ∃ fl l', valOf fl = some .none ∧ exs O9 (sDrop 2 ir_receive) ⟨rl6 (msD (.done t f j ok e)) (sD "done") t f [.bool ok, nD e], obD n out⟩ = some (fl, ⟨l', obD (doneN n t f ok e).1 (out ++ (doneN n t f ok e).2)⟩) by
    intro hn hf
    obtain ⟨fl, l', h1, h2⟩ := this _ hn hf
    exact recv_pre h1 h2
  intro n hn hf
  suffices h : ∃ l', exs O9 (elseS (sNth 0 (elseS (sNth 0 (elseS (sNth 0 (sDrop 2 ir_receive))))))) ⟨rl6 (msD (.done t f j ok e)) (sD "done") t f [.bool ok, nD e], obD n out⟩ = some (.next, ⟨l', obD (doneN n t f ok e).1 (out ++ (doneN n t f ok e).2)⟩) by
    obtain ⟨l', h⟩ := h
    exact ⟨.next, l', rfl, x_next (x_ifF (by kernel_rfl) (x_next (x_ifF (by kernel_rfl) (x_next (x_ifF (by kernel_rfl) h) rfl)) rfl)) rfl⟩
  obtain ⟨me, size, term, voted, log, commit, rl⟩ := n
  by_cases ht : t = term
  · subst ht
    cases rl with
    | fol => rw [doneN, List.append_nil]; exact ⟨_, x_next (x_ifF (t_all (al_t (by kernel_rfl) (al_t (t_cmp rfl rfl (c_eq.trans (congrArg some (decide_eq_true rfl)))) (al_f (t_cmp rfl rfl (c_led _)))))) rfl) rfl⟩
    | can vs => rw [doneN, List.append_nil]; exact ⟨_, x_next (x_ifF (t_all (al_t (by kernel_rfl) (al_t (t_cmp rfl rfl (c_eq.trans (congrArg some (decide_eq_true rfl)))) (al_f (t_cmp rfl rfl (c_led _)))))) rfl) rfl⟩
    | led ps =>
      have hl := hn.led ps rfl
      obtain ⟨⟨p, m⟩, hq⟩ : ∃ q, ps[f]? = some q := ⟨_, List.getElem?_eq_getElem (by rw [hl.1]; exact hf)⟩
      have hpm : p ≤ 50000 := hl.2 _ (List.mem_of_getElem? hq)
      have hset : ∀ q : Nat × Nat, (ps.map psD).set f (psD q) = (ps.set f q).map psD := fun q => (List.map_set ..).symm
      cases ok with
      | true =>
        have e0 : doneN ⟨me, size, t, voted, log, commit, .led ps⟩ t f true e = (⟨me, size, t, voted, log, lookN ⟨me, size, t, voted, log, commit, .led (ps.set f (max m e, max m e))⟩ (ps.set f (max m e, max m e)), .led (ps.set f (max m e, max m e))⟩, []) := by
          simp only [doneN, hq, if_true]; rfl
        rw [e0, List.append_nil]
        have e1 : doB2 .max (nD m) (nD e) = some (nD (max m e)) := by
          show some (PyData.int (if (e : Int) > (m : Int) then (e : Int) else (m : Int))) = some (PyData.int ((max m e : Nat) : Int))
          congr 2; split <;> lia
        have e2 := look_ok ⟨me, size, t, voted, log, commit, .led (ps.set f (max m e, max m e))⟩ out _ rfl (Nat.le_trans hn.log (by decide)) hn.com (by rw [List.length_set]; have : ps.length = size := hl.1; have : size ≤ 16 := hn.size; lia)
        refine ⟨_, x_next (x_ifT (t_all (al_t (by kernel_rfl) (al_t (t_cmp rfl rfl (c_eq.trans (congrArg some (decide_eq_true rfl)))) (al_t (t_cmp rfl rfl (c_led _)) rfl)))) (x_next (S1 := ⟨rl6 (msD (.done t f j true e)) (sD "done") t f [.bool true, nD e] ++ [(21, .fz (.int ((p : Int) + 1))), (43, .fz (nD m))], obD ⟨me, size, t, voted, log, commit, .led ps⟩ out⟩) ?_
          (x_next (x_ifT (t_v (e_idx rfl rfl rfl) rfl) (x_next (x_asg (e_b2 rfl (e_idx rfl rfl rfl) e1) rfl) (x_next (S1 := ⟨rl6 (msD (.done t f j true e)) (sD "done") t f [.bool true, nD e] ++ [(21, .fz (.int ((p : Int) + 1))), (43, .fz (nD (max m e)))], obD ⟨me, size, t, voted, log, commit, .led (ps.set f (max m e, max m e))⟩ out⟩) ?_ (x_next (x_mcall (F := F_look) rfl rfl rfl e2) rfl)))) rfl))) rfl⟩
        · exact x_unp (d := psD (p, m)) (ds := [.int ((p : Int) + 1), nD m]) (e_idx rfl rfl (idx_l (f := psD) hq)) rfl rfl
        · refine (x_setI (ds := ps.map psD) (k := f) (d := psD (max m e, max m e)) (e_tup (es_cons (e_bin rfl rfl rfl) rfl)) rfl rfl (by rw [List.length_map, hl.1]; exact hf)).trans ?_
          rw [hset]; rfl
      | false =>
        have e0 : doneN ⟨me, size, t, voted, log, commit, .led ps⟩ t f false e = (⟨me, size, t, voted, log, commit, .led (ps.set f (p - 1, m))⟩, [sendN ⟨me, size, t, voted, log, commit, .led (ps.set f (p - 1, m))⟩ (p - 1) f]) := by
          simp only [doneN, hq, if_true]; rfl
        rw [e0]
        have e1 : doB2 .max (.int 1) (nD p) = some (.int (((p - 1 : Nat) : Int) + 1)) := by
          show some (PyData.int (if (p : Int) > (1 : Int) then (p : Int) else (1 : Int))) = _
          congr 2; split <;> lia
        have e2 := send_ok ⟨me, size, t, voted, log, commit, .led (ps.set f (p - 1, m))⟩ out f (p - 1) m _ rfl (by rw [List.getElem?_set_self (by rw [hl.1]; exact hf)]) (by (exact Nat.le_trans (Nat.sub_le _ _) (Nat.le_trans (by assumption) (by decide)))) ho
        refine ⟨_, x_next (x_ifT (t_all (al_t (by kernel_rfl) (al_t (t_cmp rfl rfl (c_eq.trans (congrArg some (decide_eq_true rfl)))) (al_t (t_cmp rfl rfl (c_led _)) rfl)))) (x_next (S1 := ⟨rl6 (msD (.done t f j false e)) (sD "done") t f [.bool false, nD e] ++ [(21, .fz (.int ((p : Int) + 1))), (43, .fz (nD m))], obD ⟨me, size, t, voted, log, commit, .led ps⟩ out⟩) ?_
          (x_next (x_ifF (t_v (e_idx rfl rfl rfl) rfl) (x_next (S1 := ⟨rl6 (msD (.done t f j false e)) (sD "done") t f [.bool false, nD e] ++ [(21, .fz (.int ((p : Int) + 1))), (43, .fz (nD m))], obD ⟨me, size, t, voted, log, commit, .led (ps.set f (p - 1, m))⟩ out⟩) ?_ (x_next (x_mcall (F := F_send_append) rfl rfl rfl e2) rfl))) rfl))) rfl⟩
        · exact x_unp (d := psD (p, m)) (ds := [.int ((p : Int) + 1), nD m]) (e_idx rfl rfl (idx_l (f := psD) hq)) rfl rfl
        · refine (x_setI (ds := ps.map psD) (k := f) (d := psD (p - 1, m)) (e_tup (es_cons (e_b2 rfl (e_bin rfl rfl b_sub1) e1) rfl)) rfl rfl (by rw [List.length_map, hl.1]; exact hf)).trans ?_
          rw [hset]; rfl
  · have : doneN ⟨me, size, term, voted, log, commit, rl⟩ t f ok e = (⟨me, size, term, voted, log, commit, rl⟩, []) := by
      unfold doneN; cases rl with
      | led ps => exact if_neg ht
      | _ => rfl
    rw [this, List.append_nil]
    exact ⟨_, x_next (x_ifF (t_all (al_t (by kernel_rfl) (al_f (t_cmp rfl rfl (c_eq.trans (congrArg some (decide_eq_false ht))))))) rfl) rfl⟩
theorem b_subn {p : Nat} : doBin .sub (nD (p + 1)) (.int 1) = some (nD p) := by
  show some (PyData.int (((p + 1 : Nat) : Int) - 1)) = some (PyData.int (p : Int)); congr 2; lia
theorem b_min {a b : Nat} : doB2 .min (nD a) (nD b) = some (nD (min a b)) := by
  show some (PyData.int (if (b : Int) < (a : Int) then (b : Int) else (a : Int))) = some (PyData.int ((min a b : Nat) : Int))
  congr 2; split <;> lia
theorem del_eq {O : Orc} {S : PS} {l : Lc} {lo : Ex} {p t q : Pos} : ex O (.del l lo p t q) S = ((getL l S).bind fun ds => (ev O lo S).bind fun j => (asInt j).bind fun i => gd (decide (0 ≤ i) && fitI i) (Fl.next, putL l (ds.take i.toNat) S)) := rfl
theorem x_del {O : Orc} {S : PS} {l : Lc} {lo : Ex} {p t q : Pos} {ds : List D} {j : Nat} (hl : getL l S = some ds) (he : ev O lo S = some (nD j)) (hj : j ≤ 1000000) : ex O (.del l lo p t q) S = some (.next, putL l (ds.take j) S) := by
  rw [del_eq, hl, Option.bind_some, he, Option.bind_some, show asInt (nD j) = some (j : Int) from rfl, Option.bind_some, decide_eq_true (Int.natCast_nonneg j), fit_n hj, Int.toNat_natCast]; rfl
noncomputable def ir_app : Sms := thenS (sNth 0 (elseS (sNth 0 (elseS (sNth 0 (sDrop 2 ir_receive))))))
noncomputable def ra (t f j : Nat) (p : Nat × Nat) (es : List Ent) (c : Nat) (ok : Bool) : Al :=
  rl6 (msD (.app t f j p es c)) (sD "append") t f [nnD p, .list (es.map entD), nD c] ++ [(37, .fz (nD p.1)), (38, .fz (nD p.2)), (39, .fz (.list (es.map entD))), (9, .fz (nD c)), (36, .fz (.bool ok))]
theorem app_loop {t f j : Nat} {p : Nat × Nat} {es0 : List Ent} {c : Nat} {out : List Ms} (hp : p.2 ≤ 100000) : ∀ (es : List Ent) (k : Nat) (n : Nd) (loc : Al),
    (loc = ra t f j p es0 c true ∨ ∃ x y z, loc = ra t f j p es0 c true ++ [(40, .fz x), (41, .fz y), (16, .fz z)]) → n.log.length + es.length ≤ 60000 → k + es.length ≤ 60000 →
    ∃ loc', forL (loopF O9 (sNth 4 ir_app)) (enumL k (es.map entD)) ⟨loc, obD n out⟩ = some (.next, ⟨loc', obD { n with log := putEs (p.2 + k) n.log es } out⟩) ∧
      (loc' = ra t f j p es0 c true ∨ ∃ x y z, loc' = ra t f j p es0 c true ++ [(40, .fz x), (41, .fz y), (16, .fz z)]) := by
  intro es
  induction es with
  | nil => exact fun _ _ loc hl _ _ => ⟨loc, rfl, hl⟩
  | cons e es ih =>
    intro k n loc hl hn hk
    rw [List.length_cons] at hn hk
    have h0 : loopF O9 (sNth 4 ir_app) (.tuple [nD k, entD e]) ⟨loc, obD n out⟩ = some (.next, ⟨ra t f j p es0 c true ++ [(40, .fz (nD k)), (41, .fz (entD e)), (16, .fz (nD (p.2 + k + 1)))],
        obD { n with log := let l1 := if p.2 + k < n.log.length ∧ tmAt n.log (p.2 + k + 1) ≠ e.1 then n.log.take (p.2 + k) else n.log; if l1.length ≤ p.2 + k then l1 ++ [e] else l1 } out⟩) := by
      have hb : ∃ z, bindT (tgS (sNth 4 ir_app)) (.tuple [nD k, entD e]) loc = some (ra t f j p es0 c true ++ [(40, .fz (nD k)), (41, .fz (entD e))] ++ z) ∧ (z = [] ∨ ∃ d, z = [(16, .fz d)]) := by
        rcases hl with rfl | ⟨x, y, z, rfl⟩
        · exact ⟨[], rfl, .inl rfl⟩
        · exact ⟨[(16, .fz z)], rfl, .inr ⟨_, rfl⟩⟩
      obtain ⟨z, hb, hz⟩ := hb
      refine x_loop hb ?_
      refine x_next (S1 := ⟨ra t f j p es0 c true ++ [(40, .fz (nD k)), (41, .fz (entD e)), (16, .fz (nD (p.2 + k + 1)))], obD n out⟩) (x_asg (d := nD (p.2 + k + 1)) (e_bin (q_v (e_bin rfl rfl b_addn)) rfl (b_addn (b := 1))) (by rcases hz with rfl | ⟨d, rfl⟩ <;> rfl)) ?_
      have ht : evT O9 (testS (sNth 1 (bodyS (sNth 4 ir_app)))) ⟨ra t f j p es0 c true ++ [(40, .fz (nD k)), (41, .fz (entD e)), (16, .fz (nD (p.2 + k + 1)))], obD n out⟩ = some (decide (p.2 + k + 1 ≤ n.log.length) && (!decide (tmAt n.log (p.2 + k + 1) = e.1) && true)) :=
        t_all (al_c (t_cmp rfl (q_v (lc_len rfl)) c_le) (al_c (t_cmp (q_v (e_meth (F := F_term_at) rfl rfl rfl (term_at_ok _ _ _))) (q_v (e_idx rfl rfl rfl)) c_ne) evAll_nil))
      have last : ∀ n : Nd, n.log.length ≤ 60000 → exs O9 (sDrop 2 (bodyS (sNth 4 ir_app))) ⟨ra t f j p es0 c true ++ [(40, .fz (nD k)), (41, .fz (entD e)), (16, .fz (nD (p.2 + k + 1)))], obD n out⟩ = some (.next, ⟨ra t f j p es0 c true ++ [(40, .fz (nD k)), (41, .fz (entD e)), (16, .fz (nD (p.2 + k + 1)))], obD { n with log := if n.log.length ≤ p.2 + k then n.log ++ [e] else n.log } out⟩) := by
        intro n hn
        by_cases h : n.log.length ≤ p.2 + k
        · rw [if_pos h]
          refine x_next (x_ifT (t_cmp rfl (q_v (lc_len rfl)) (c_gt.trans (congrArg some (decide_eq_true (by lia))))) (x_next (x_app (ds := n.log.map entD) rfl rfl (by rw [List.length_map]; unfold big; lia)) rfl)) ?_
          show some (Fl.next, (⟨_, put 8 (.own (n.log.map entD ++ [entD e])) (obD n out)⟩ : PS)) = _
          unfold obD
          show _ = some (Fl.next, (⟨_, [_, _, _, _, _, _, (8, .own ((n.log ++ [e]).map entD)), _, _]⟩ : PS))
          rw [List.map_append]; rfl
        · rw [if_neg h]
          exact x_next (x_ifF (t_cmp rfl (q_v (lc_len rfl)) (c_gt.trans (congrArg some (decide_eq_false (by lia))))) rfl) rfl
      by_cases hd : p.2 + k < n.log.length ∧ tmAt n.log (p.2 + k + 1) ≠ e.1
      · simp only [if_pos hd]
        refine x_next (S1 := ⟨_, obD { n with log := n.log.take (p.2 + k) } out⟩) (x_ifT (ht.trans (by rw [decide_eq_true (show p.2 + k + 1 ≤ n.log.length from hd.1), decide_eq_false hd.2]; rfl)) (x_next (x_del (ds := n.log.map entD) (j := p.2 + k) rfl (e_bin rfl rfl b_subn) (by lia)) ?_)) (last _ (by show (n.log.take (p.2 + k)).length ≤ _; rw [List.length_take]; lia))
        show some (Fl.next, (⟨_, put 8 (.own ((n.log.map entD).take (p.2 + k))) (obD n out)⟩ : PS)) = _
        unfold obD
        show _ = some (Fl.next, (⟨_, [_, _, _, _, _, _, (8, .own ((n.log.take (p.2 + k)).map entD)), _, _]⟩ : PS))
        rw [List.map_take]; rfl
      · simp only [if_neg hd]
        refine x_next (x_ifF (ht.trans ?_) rfl) (last n (by lia))
        by_cases h1 : p.2 + k + 1 ≤ n.log.length
        · rw [decide_eq_true h1, decide_eq_true (Decidable.byContradiction fun h2 => hd ⟨h1, h2⟩)]; rfl
        · rw [decide_eq_false h1]; rfl
    obtain ⟨loc', h1, h2⟩ := ih (k + 1) { n with log := let l1 := if p.2 + k < n.log.length ∧ tmAt n.log (p.2 + k + 1) ≠ e.1 then n.log.take (p.2 + k) else n.log; if l1.length ≤ p.2 + k then l1 ++ [e] else l1 } _ (.inr ⟨nD k, entD e, nD (p.2 + k + 1), rfl⟩) (by
      show (if (if p.2 + k < n.log.length ∧ tmAt n.log (p.2 + k + 1) ≠ e.1 then n.log.take (p.2 + k) else n.log).length ≤ p.2 + k then _ else _ : List Ent).length + es.length ≤ 60000
      have : (if p.2 + k < n.log.length ∧ tmAt n.log (p.2 + k + 1) ≠ e.1 then n.log.take (p.2 + k) else n.log).length ≤ n.log.length := by split <;> (try rw [List.length_take]) <;> lia
      generalize (if p.2 + k < n.log.length ∧ tmAt n.log (p.2 + k + 1) ≠ e.1 then n.log.take (p.2 + k) else n.log) = l1 at this ⊢
      split <;> (try rw [List.length_append, List.length_cons, List.length_nil]) <;> lia) (by lia)
    refine ⟨loc', ?_, h2⟩
    show (loopF O9 (sNth 4 ir_app) (.tuple [nD k, entD e]) ⟨loc, obD n out⟩).bind _ = _
    rw [h0]; exact h1
theorem recv_app {n : Nd} (hn : NdOK n) {out : List Ms} {t f j c : Nat} {p : Nat × Nat} {es : List Ent} (hp : p.2 ≤ 100000) (he : es.length ≤ 30000) (ho : out.length < big) :
    F_receive (obD n out) [msD (.app t f j p es c)] = some (.none, obD (appN (upN n t) t f p es c).1 (out ++ (appN (upN n t) t f p es c).2)) := by
  have hn := up_ok hn t
  revert hn
  suffices ∀ n : Nd, NdOK n → ∃ fl l', valOf fl = some .none ∧ exs O9 ir_app ⟨rl6 (msD (.app t f j p es c)) (sD "append") t f [nnD p, .list (es.map entD), nD c], obD n out⟩ = some (fl, ⟨l', obD (appN n t f p es c).1 (out ++ (appN n t f p es c).2)⟩) by
    intro hn
    obtain ⟨fl, l', h1, h2⟩ := this _ hn
    refine recv_pre (l' := l') h1 ?_
    cases fl with
    | next => exact x_next (x_ifF (by kernel_rfl) (x_next (x_ifF (by kernel_rfl) (x_next (x_ifT (by kernel_rfl) h2) rfl)) rfl)) rfl
    | ret d => exact x_ret (x_ifF (by kernel_rfl) (x_ret (x_ifF (by kernel_rfl) (x_ret (x_ifT (by kernel_rfl) h2)))))
    | brk => cases h1
  intro n hn
  have no : ∀ n : Nd, exs O9 (sDrop 3 ir_app) ⟨ra t f j p es c false, obD n out⟩ = some (.ret .none, ⟨ra t f j p es c false, obD n (out ++ [.done n.term n.me f false 0])⟩) := fun n => by
    rw [obD_out]
    exact x_ret (x_ifT rfl (x_next (x_app (ds := out.map msD) rfl rfl (by rw [List.length_map]; exact ho)) (x_ret rfl)))
  by_cases ht : t = n.term
  · have e2 : exs O9 (sDrop 3 ir_app) ⟨ra t f j p es c (appOk n p), obD { n with rl := .fol } out⟩ = exs O9 ir_app ⟨rl6 (msD (.app t f j p es c)) (sD "append") t f [nnD p, .list (es.map entD), nD c], obD n out⟩ := by
      refine Eq.symm (x_next (S1 := ⟨rl6 (msD (.app t f j p es c)) (sD "append") t f [nnD p, .list (es.map entD), nD c] ++ [(37, .fz (nD p.1)), (38, .fz (nD p.2)), (39, .fz (.list (es.map entD))), (9, .fz (nD c))], obD n out⟩) (x_unp rfl rfl rfl) (x_next (S1 := ⟨ra t f j p es c true, obD n out⟩) (x_asg (e_cmp rfl rfl (c_eq.trans (congrArg some (decide_eq_true ht)))) rfl)
        (x_next (x_ifT rfl (x_next (x_mcall (F := F_follow) rfl rfl rfl (follow_ok n out)) (x_next (x_asg (d := .bool (appOk n p)) (e_or (or_c (e_cmp rfl rfl (c_eq (b := 0))) (or_1 (e_and (and_c (e_cmp rfl (q_v (lc_len rfl)) c_le) (an_1 (e_cmp (q_v (e_meth (F := F_term_at) rfl rfl rfl (term_at_ok _ _ _))) rfl c_eq))))))) rfl) rfl))) rfl)))
    rw [← e2]
    cases hk : appOk n p with
    | false =>
      refine ⟨.ret .none, ra t f j p es c false, rfl, ?_⟩
      rw [no]
      rw [appN, if_pos ht, hk]; rfl
    | true =>
      obtain ⟨loc', h1, h2⟩ := app_loop (t := t) (f := f) (j := j) (es0 := es) (c := c) (out := out) hp es 0 { n with rl := .fol } _ (.inl rfl) (by have := hn.log; show n.log.length + es.length ≤ 60000; lia) (by lia)
      refine ⟨.next, loc' ++ [(42, .fz (nD (p.2 + es.length)))], rfl, ?_⟩
      rw [appN, if_pos ht, if_pos hk, obD_out]
      refine x_next (x_ifF rfl rfl) (x_next (x_for (items := enumL 0 (es.map entD)) rfl h1) (x_next (S1 := ⟨loc' ++ [(42, .fz (nD (p.2 + es.length)))], obD { n with rl := .fol, log := putEs (p.2 + 0) n.log es } out⟩) (x_asg (d := nD (p.2 + es.length)) ?_ ?_) (x_next (S1 := ⟨loc' ++ [(42, .fz (nD (p.2 + es.length)))], obD { n with rl := .fol, log := putEs p.2 n.log es, commit := if n.commit < min c (p.2 + es.length) then min c (p.2 + es.length) else n.commit } out⟩) ?_ (x_next (S1 := ⟨loc' ++ [(42, .fz (nD (p.2 + es.length)))], put 11 (.own (out.map msD ++ [msD (.done n.term n.me f true (p.2 + es.length))])) (obD { n with rl := .fol, log := putEs p.2 n.log es, commit := if n.commit < min c (p.2 + es.length) then min c (p.2 + es.length) else n.commit } out)⟩) ?_ rfl))))
      · rcases h2 with rfl | ⟨x, y, z, rfl⟩ <;> exact e_bin rfl (q_v (e_b1 rfl len_l)) b_addn
      · rcases h2 with rfl | ⟨x, y, z, rfl⟩ <;> rfl
      · have : ∀ loc : Al, isObj 1 loc = true → look 9 loc = some (.fz (nD c)) → look 42 loc = some (.fz (nD (p.2 + es.length))) → ex O9 (sNth 6 ir_app) ⟨loc, obD { n with rl := .fol, log := putEs p.2 n.log es } out⟩ = some (.next, ⟨loc, obD { n with rl := .fol, log := putEs p.2 n.log es, commit := if n.commit < min c (p.2 + es.length) then min c (p.2 + es.length) else n.commit } out⟩) := by
          intro loc h1 h9 h42
          have v9 : ∀ (S : PS) q, S.loc = loc → ev O9 (.var 9 q) S = some (nD c) := by rintro ⟨l, o⟩ q rfl; show fzOf (look 9 l) = _; rw [h9]; rfl
          have v42 : ∀ (S : PS) q, S.loc = loc → ev O9 (.var 42 q) S = some (nD (p.2 + es.length)) := by rintro ⟨l, o⟩ q rfl; show fzOf (look 42 l) = _; rw [h42]; rfl
          have at9 : ∀ q r, evQ O9 (.v (.attr 1 9 q r)) ⟨loc, obD { n with rl := .fol, log := putEs p.2 n.log es } out⟩ = some (nD n.commit) := by
            intro q r; show (if isObj 1 loc = true then _ else none) = _; rw [if_pos h1]; rfl
          by_cases hc : n.commit < min c (p.2 + es.length)
          · rw [if_pos hc]
            exact x_ifT (t_cmp (q_v (e_b2 (v9 _ _ rfl) (v42 _ _ rfl) b_min)) (at9 _ _) (c_gt.trans (congrArg some (decide_eq_true hc)))) (x_next (x_asgA h1 (e_b2 (v9 _ _ rfl) (v42 _ _ rfl) b_min) rfl) rfl)
          · rw [if_neg hc]
            exact x_ifF (t_cmp (q_v (e_b2 (v9 _ _ rfl) (v42 _ _ rfl) b_min)) (at9 _ _) (c_gt.trans (congrArg some (decide_eq_false hc)))) rfl
        rcases h2 with rfl | ⟨x, y, z, rfl⟩ <;> exact this _ rfl rfl rfl
      · rcases h2 with rfl | ⟨x, y, z, rfl⟩ <;> exact x_app (ds := out.map msD) rfl rfl (by rw [List.length_map]; exact ho)
  · refine ⟨.ret .none, ra t f j p es c false, rfl, ?_⟩
    rw [appN, if_neg ht]
    exact x_next (S1 := ⟨rl6 (msD (.app t f j p es c)) (sD "append") t f [nnD p, .list (es.map entD), nD c] ++ [(37, .fz (nD p.1)), (38, .fz (nD p.2)), (39, .fz (.list (es.map entD))), (9, .fz (nD c))], obD n out⟩) (x_unp rfl rfl rfl) (x_next (S1 := ⟨ra t f j p es c false, obD n out⟩) (x_asg (e_cmp rfl rfl (c_eq.trans (congrArg some (decide_eq_false ht)))) rfl) (x_next (x_ifF rfl rfl) (no n)))
noncomputable def recvN (n : Nd) : Ms → Nd × List Ms
  | .ask t f _ l => askN (upN n t) t f l
  | .vote t f _ ok => voteN (upN n t) t f ok
  | .app t f _ p es c => appN (upN n t) t f p es c
  | .done t f _ ok e => doneN (upN n t) t f ok e
noncomputable def MsOK (n : Nd) : Ms → Prop
  | .app _ _ _ p es _ => p.2 ≤ 100000 ∧ es.length ≤ 30000
  | .done _ f _ _ e => f < n.size ∧ e ≤ 50000
  | _ => True
theorem recv_ok {n : Nd} (hn : NdOK n) {m : Ms} (hm : MsOK n m) {out : List Ms} (ho : out.length + 16 < big) :
    F_receive (obD n out) [msD m] = some (.none, obD (recvN n m).1 (out ++ (recvN n m).2)) := by
  cases m with
  | ask t f j l => exact recv_ask (by lia)
  | vote t f j ok => exact recv_vote hn ho
  | app t f j p es c => exact recv_app hn hm.1 hm.2 (by lia)
  | done t f j ok e => exact recv_done hn hm.1 hm.2 (by lia)
noncomputable def asksN (n : Nd) : List Ms := (othN n.me n.size).map fun j => .ask n.term n.me j (lastN n.log)
noncomputable def startN (n : Nd) : Nd := { n with term := n.term + 1, voted := some n.me, rl := .can [n.me] }
noncomputable def timeN (n : Nd) : Nd × List Ms := match n.rl with
  | .led _ => (n, [])
  | _ => ((canN (startN n) [n.me]).1, asksN (startN n) ++ (canN (startN n) [n.me]).2)
noncomputable def beatN (n : Nd) : Nd × List Ms := match n.rl with
  | .led ps => (n, appsN n ps (othN n.me n.size))
  | _ => (n, [])
noncomputable def propPs (n : Nd) (ps : List (Nat × Nat)) : List (Nat × Nat) := ps.set n.me (prevAt ps n.me, n.log.length + 1)
noncomputable def moreN (n : Nd) (ps : List (Nat × Nat)) (c : Int) : Nd := { n with log := n.log ++ [(n.term, c)], rl := .led (propPs n ps) }
noncomputable def propN (n : Nd) (c : Int) : Nd × List Ms := match n.rl with
  | .led ps => beatN { moreN n ps c with commit := lookN (moreN n ps c) (propPs n ps) }
  | _ => (n, [])
noncomputable def handN (n : Nd) : Evt → Nd × List Ms
  | .timeout => timeN n
  | .beat => beatN n
  | .propose c => propN n c
  | .msg m => recvN n m
theorem beat_all {n : Nd} (hn : NdOK n) {out : List Ms} (ho : out.length + 16 < big) : F_beat (obD n out) [] = some (.none, obD (beatN n).1 (out ++ (beatN n).2)) := by
  have hs := hn.size
  cases h : n.rl with
  | led ps =>
    have hl := hn.led ps h
    simp only [beatN, h]
    exact beat_ok n out ps ⟨h, hl.1, fun p hp => Nat.le_trans (hl.2 p hp) (by decide)⟩ (by (exact Nat.le_trans (by assumption) (by decide))) (by lia)
  | fol => simp only [beatN, h, List.append_nil]; exact beat_no n out (by rw [h]; rfl)
  | can vs => simp only [beatN, h, List.append_nil]; exact beat_no n out (by rw [h]; rfl)
theorem can_ok {n : Nd} (hn : NdOK n) {vs : List Nat} (h : n.rl = .can vs) {out : List Ms} (ho : out.length + 16 < big) : F_maybe_lead (obD n out) [] = some (.none, obD (canN n vs).1 (out ++ (canN n vs).2)) := by
  have hs := hn.size
  have e : { n with rl := .can vs } = n := by rw [← h]
  unfold canN
  rw [e]
  by_cases hc : n.size < 2 * vs.length
  · rw [if_pos hc]; exact maybe_ok n out vs h hc hn.me hs (Nat.le_trans hn.log (by decide)) (by lia)
  · rw [if_neg hc, List.append_nil]; exact maybe_few n out vs h hc
theorem start_ok {n : Nd} (hn : NdOK n) : NdOK (startN n) := ⟨hn.me, hn.size, hn.log, hn.com, (fun vs e => by cases e; exact (by decide : 1 ≤ 60)), (fun _ e => Rl.noConfusion e)⟩
theorem hand_time {n : Nd} (hn : NdOK n) {out : List Ms} (ho : out.length + 32 < big) :
    F_handle (obD n out) [evD .timeout] = some (.none, obD (timeN n).1 (out ++ (timeN n).2)) := by
  have hs := hn.size
  suffices h : ∃ l', exs O10 (thenS (sNth 0 ir_handle)) ⟨[(1, .obj), (30, .fz (evD .timeout))], obD n out⟩ = some (.next, ⟨l', obD (timeN n).1 (out ++ (timeN n).2)⟩) by
    obtain ⟨l', h⟩ := h
    exact r_mm (l := [(1, .obj), (30, .fz (evD .timeout))]) (f := .next) rfl (x_next (x_ifT (by kernel_rfl) h) rfl) rfl
  have hrest : isLed n.rl = false → ∃ l', exs O10 (thenS (sNth 0 ir_handle)) ⟨[(1, .obj), (30, .fz (evD .timeout))], obD n out⟩ = some (.next, ⟨l', obD (canN (startN n) [n.me]).1 (out ++ (asksN (startN n) ++ (canN (startN n) [n.me]).2))⟩) := by
    intro hr
    obtain ⟨⟨l', o'⟩, e, h1, ho'⟩ := forL_pre (α := Nat) nD (f := loopF O10 (sNth 2 (thenS (sNth 0 (thenS (sNth 0 ir_handle)))))) (L := othN n.me n.size)
      (fun d S => (S.loc = [(1, .obj), (30, .fz (evD .timeout))] ∨ ∃ v, S.loc = [(1, .obj), (30, .fz (evD .timeout)), (18, .fz v)]) ∧ S.ob = obD (startN n) (out ++ d.map fun j => .ask (startN n).term (startN n).me j (lastN (startN n).log))) (fun d j r S hL hi => by
        obtain ⟨loc, ob⟩ := S
        obtain ⟨hl, rfl⟩ := hi
        have hlen : (out ++ d.map fun j => Ms.ask (startN n).term (startN n).me j (lastN (startN n).log)).length < big := by
          have h1 := oth_len n.me n.size
          rw [hL, List.length_append, List.length_cons] at h1
          rw [List.length_append, List.length_map]; lia
        refine ⟨⟨[(1, .obj), (30, .fz (evD .timeout)), (18, .fz (nD j))], _⟩, x_loop (l := [(1, .obj), (30, .fz (evD .timeout)), (18, .fz (nD j))]) (by rcases hl with hl | ⟨v, hl⟩ <;> (have hl : loc = _ := hl; subst hl; rfl)) (x_next (x_app (ds := (out ++ d.map fun j => Ms.ask (startN n).term (startN n).me j (lastN (startN n).log)).map msD) (d := msD (.ask (startN n).term (startN n).me j (lastN (startN n).log))) rfl (e_tup (es_cons rfl (es_cons rfl (es_cons rfl (es_cons rfl (es_cons (e_meth (F := F_last) rfl rfl rfl (last_ok _ _)) rfl)))))) (by rw [List.length_map]; exact hlen)) rfl), .inr ⟨_, rfl⟩, ?_⟩
        have e3 : out ++ (d ++ [j]).map (fun j => Ms.ask (startN n).term (startN n).me j (lastN (startN n).log)) = (out ++ d.map fun j => Ms.ask (startN n).term (startN n).me j (lastN (startN n).log)) ++ [.ask (startN n).term (startN n).me j (lastN (startN n).log)] := by
          rw [List.map_append, List.append_assoc]; rfl
        rw [e3]; exact (obD_out (startN n) _ [_]).symm) (othN n.me n.size) [] ⟨[(1, .obj), (30, .fz (evD .timeout))], obD (startN n) out⟩ rfl ⟨.inl rfl, by show obD _ out = obD _ (out ++ []); rw [List.append_nil]⟩
    have ho' : o' = obD (startN n) (out ++ asksN (startN n)) := ho'
    subst ho'
    have hc := can_ok (start_ok hn) (vs := [n.me]) rfl (out := out ++ asksN (startN n)) (by
      rw [List.length_append, asksN, List.length_map]; have := oth_len (startN n).me (startN n).size; have : (startN n).size ≤ 16 := hs; lia)
    rw [List.append_assoc] at hc
    obtain ⟨me, size, term, voted, log, commit, rl⟩ := n
    refine ⟨l', x_next (x_ifT (t_cmp rfl rfl ((c_nled _).trans (by rw [show isLed rl = false from hr]; rfl))) (x_next (S1 := ⟨[(1, .obj), (30, .fz (evD .timeout))], obD ⟨me, size, term + 1, voted, log, commit, rl⟩ out⟩) rfl (x_next (S1 := ⟨[(1, .obj), (30, .fz (evD .timeout))], obD (startN ⟨me, size, term, voted, log, commit, rl⟩) out⟩) (x_asgT rfl rfl rfl rfl) (x_next (x_for (items := (othN me size).map nD) (s_seq (q_v (e_meth (F := F_others) rfl rfl rfl (others_ok _ _ (Nat.le_trans hs (by decide))))) rfl) e) (x_next (x_mcall (F := F_maybe_lead) rfl ?_ rfl hc) rfl))))) rfl⟩
    rcases h1 with h1 | ⟨v, h1⟩ <;> (have h1 : l' = _ := h1; subst h1; rfl)
  obtain ⟨me, size, term, voted, log, commit, rl⟩ := n
  cases rl with
  | led ps => rw [timeN, List.append_nil]; exact ⟨_, x_next (x_ifF (t_cmp rfl rfl (c_nled _)) rfl) rfl⟩
  | fol => exact hrest rfl
  | can vs => exact hrest rfl
theorem hand_beat {n : Nd} (hn : NdOK n) {out : List Ms} (ho : out.length + 32 < big) :
    F_handle (obD n out) [evD .beat] = some (.none, obD (beatN n).1 (out ++ (beatN n).2)) :=
  r_mm (l := [(1, .obj), (30, .fz (evD .beat))]) (f := .next) rfl (x_next (x_ifF (by kernel_rfl) (x_next (x_ifT (by kernel_rfl) (x_next (x_mcall (F := F_beat) rfl rfl rfl (beat_all hn (by lia))) rfl)) rfl)) rfl) rfl
theorem hand_msg {n : Nd} (hn : NdOK n) {m : Ms} (hm : MsOK n m) {out : List Ms} (ho : out.length + 32 < big) :
    F_handle (obD n out) [evD (.msg m)] = some (.none, obD (recvN n m).1 (out ++ (recvN n m).2)) :=
  r_mm (l := [(1, .obj), (30, .fz (evD (.msg m)))]) (f := .next) rfl (x_next (x_ifF (by kernel_rfl) (x_next (x_ifF (by kernel_rfl) (x_next (x_ifF (by kernel_rfl)
    (x_next (x_mcall (F := F_receive) rfl rfl (es_cons (e_idx rfl rfl rfl) rfl) (recv_ok hn hm (by lia))) rfl)) rfl)) rfl)) rfl) rfl
theorem look_le {n : Nd} {ps : List (Nat × Nat)} {b : Nat} (h1 : n.log.length ≤ b) (h2 : n.commit ≤ b) : lookN n ps ≤ b := by
  unfold lookN
  cases h : (downN n.log.length n.commit).find? (okN n ps) with
  | none => exact h2
  | some x =>
    have := List.mem_of_find?_eq_some h
    rw [downN, List.mem_map] at this
    obtain ⟨i, -, rfl⟩ := this
    exact Nat.le_trans (Nat.sub_le ..) h1
theorem hand_prop {n : Nd} (hn : NdOK n) (hl : n.log.length < 30000) {c : Int} {out : List Ms} (ho : out.length + 32 < big) :
    F_handle (obD n out) [evD (.propose c)] = some (.none, obD (propN n c).1 (out ++ (propN n c).2)) := by
  suffices h : exs O10 (thenS (sNth 0 (elseS (sNth 0 (elseS (sNth 0 ir_handle)))))) ⟨[(1, .obj), (30, .fz (evD (.propose c)))], obD n out⟩ = some (.next, ⟨[(1, .obj), (30, .fz (evD (.propose c)))], obD (propN n c).1 (out ++ (propN n c).2)⟩) by
    exact r_mm (l := [(1, .obj), (30, .fz (evD (.propose c)))]) (f := .next) rfl (x_next (x_ifF (by kernel_rfl) (x_next (x_ifF (by kernel_rfl) (x_next (x_ifT (by kernel_rfl) h) rfl)) rfl)) rfl) rfl
  obtain ⟨me, size, term, voted, log, commit, rl⟩ := n
  cases rl with
  | fol => rw [propN, List.append_nil]; exact x_next (x_ifF (t_cmp rfl rfl (c_led _)) rfl) rfl
  | can vs => rw [propN, List.append_nil]; exact x_next (x_ifF (t_cmp rfl rfl (c_led _)) rfl) rfl
  | led ps =>
    have hq := hn.led ps rfl
    have hs : size ≤ 16 := hn.size
    have hm : me < ps.length := by rw [hq.1]; exact hn.me
    obtain ⟨⟨p, m⟩, he⟩ : ∃ q, ps[me]? = some q := ⟨_, List.getElem?_eq_getElem hm⟩
    have hl' : log.length < 30000 := hl
    have hc : commit ≤ 60000 := hn.com
    have ep : prevAt ps me = p := by unfold prevAt; rw [he]
    have e1 := look_ok (moreN ⟨me, size, term, voted, log, commit, .led ps⟩ ps c) out (propPs ⟨me, size, term, voted, log, commit, .led ps⟩ ps) rfl (by show (log ++ [(term, c)]).length ≤ 60000; rw [List.length_append, List.length_cons, List.length_nil]; (exact Nat.le_trans (by assumption) (by decide))) hn.com (by rw [propPs, List.length_set, hq.1]; show size ≤ 60000; (exact Nat.le_trans (by assumption) (by decide)))
    have e2 := beat_all (n := { moreN ⟨me, size, term, voted, log, commit, .led ps⟩ ps c with commit := lookN (moreN ⟨me, size, term, voted, log, commit, .led ps⟩ ps c) (propPs ⟨me, size, term, voted, log, commit, .led ps⟩ ps) }) (out := out) ⟨hn.me, hn.size, by show (log ++ [(term, c)]).length ≤ 30000; rw [List.length_append, List.length_cons, List.length_nil]; assumption, look_le (by show (log ++ [(term, c)]).length ≤ 60000; rw [List.length_append, List.length_cons, List.length_nil]; (exact Nat.le_trans (by assumption) (by decide))) hc, (fun _ e => Rl.noConfusion e), (fun qs e => by
        cases e
        refine ⟨by rw [propPs, List.length_set]; exact hq.1, fun q h => ?_⟩
        rw [propPs] at h
        rcases List.mem_or_eq_of_mem_set h with h | h
        · exact hq.2 q h
        · rw [h]; show prevAt ps me ≤ 50000; rw [ep]; exact hq.2 _ (List.mem_of_getElem? he))⟩ (by lia)
    have m0 : obD ⟨me, size, term, voted, log ++ [(term, c)], commit, .led ps⟩ out = put 8 (.own (log.map entD ++ [entD (term, c)])) (obD ⟨me, size, term, voted, log, commit, .led ps⟩ out) := by
      unfold obD
      show [_, _, _, _, _, _, (8, AV.own ((log ++ [(term, c)]).map entD)), _, _] = _
      rw [List.map_append]; rfl
    refine x_next (x_ifT (t_cmp rfl rfl (c_led _)) (x_next (S1 := ⟨[(1, .obj), (30, .fz (evD (.propose c)))], obD ⟨me, size, term, voted, log ++ [(term, c)], commit, .led ps⟩ out⟩) ?_ (x_next (S1 := ⟨[(1, .obj), (30, .fz (evD (.propose c)))], obD (moreN ⟨me, size, term, voted, log, commit, .led ps⟩ ps c) out⟩) ?_ (x_next (x_mcall (F := F_look) rfl rfl rfl e1) (x_next (x_mcall (F := F_beat) rfl rfl rfl e2) rfl))))) rfl
    · rw [m0]
      exact x_app (ds := log.map entD) (d := entD (term, c)) rfl (e_tup (es_cons rfl (es_cons (e_idx rfl rfl rfl) rfl))) (by rw [List.length_map]; unfold big; (exact Nat.le_trans (by assumption) (by decide)))
    · have el : (log ++ [(term, c)]).length = log.length + 1 := by rw [List.length_append]; rfl
      refine (x_setI (ds := ps.map psD) (k := me) (d := psD (p, log.length + 1)) (e_tup (es_cons (e_idx (x := psD (p, m)) (q_v (e_idx rfl rfl (idx_l (f := psD) he))) rfl rfl) (es_cons (e_b1 rfl (len_l.trans (by rw [el]))) rfl))) rfl rfl (by rw [List.length_map]; exact hm)).trans ?_
      show _ = some (Fl.next, (⟨_, obD ⟨me, size, term, voted, log ++ [(term, c)], commit, .led (ps.set me (prevAt ps me, log.length + 1))⟩ out⟩ : PS))
      rw [ep]
      unfold obD
      show _ = some (Fl.next, (⟨_, [_, _, _, _, _, _, _, (10, .own ((ps.set me (p, log.length + 1)).map psD)), _]⟩ : PS))
      rw [List.map_set]; rfl
noncomputable def EvOK (n : Nd) : Evt → Prop
  | .msg m => MsOK n m
  | .propose _ => n.log.length < 30000
  | _ => True
theorem hand_ok {n : Nd} (hn : NdOK n) {e : Evt} (he : EvOK n e) {out : List Ms} (ho : out.length + 32 < big) :
    F_handle (obD n out) [evD e] = some (.none, obD (handN n e).1 (out ++ (handN n e).2)) := by
  cases e with
  | timeout => exact hand_time hn ho
  | beat => exact hand_beat hn ho
  | propose c => exact hand_prop hn he ho
  | msg m => exact hand_msg hn he ho
noncomputable def insN (x : Nat) : List Nat → List Nat
  | [] => [x]
  | y :: r => if x ≤ y then x :: y :: r else y :: insN x r
noncomputable def sortN : List Nat → List Nat
  | [] => []
  | x :: r => insN x (sortN r)
theorem ins_map (x : Nat) : ∀ l : List Nat, insI (x : Int) (l.map fun n : Nat => (n : Int)) = (insN x l).map fun n : Nat => (n : Int) := by
  intro l0
  induction l0 with
  | nil =>
    exact rfl
  | cons y r ih =>
    show (if (x : Int) ≤ (y : Int) then _ else (y : Int) :: insI (x : Int) (r.map fun n : Nat => (n : Int))) = (if x ≤ y then _ else _ : List Nat).map _
    rw [ih]
    by_cases h : x ≤ y
    · rw [if_pos (Int.ofNat_le.mpr h), if_pos h]; rfl
    · rw [if_neg fun h' => h (Int.ofNat_le.mp h'), if_neg h]; rfl
theorem sort_map : ∀ l : List Nat, sortI (l.map fun n : Nat => (n : Int)) = (sortN l).map fun n : Nat => (n : Int) := by
  intro l0
  induction l0 with
  | nil =>
    exact rfl
  | cons x r ih =>
    (show insI (x : Int) (sortI (r.map fun n : Nat => (n : Int))) = _; rw [ih, ins_map]; rfl)
theorem ints_n : ∀ l : List Nat, asInts (l.map nD) = some (l.map fun n : Nat => (n : Int)) := by
  intro l0
  induction l0 with
  | nil =>
    exact rfl
  | cons x r ih =>
    (show (asInts (r.map nD)).map _ = _; rw [ih]; rfl)
theorem b_sort {vs : List Nat} (h : vs.length < 64) : doB1 .sorted (.list (vs.map nD)) = some (.list ((sortN vs).map nD)) := by
  show ((asInts (vs.map nD)).bind fun is => gd (decide (is.length < 64)) (PyData.list ((sortI is).map .int))) = _
  rw [ints_n, Option.bind_some, List.length_map, decide_eq_true h, sort_map, List.map_map]; rfl
noncomputable def tupRl : Rl → Rl
  | .can vs => .can (sortN vs)
  | r => r
noncomputable def tupN (n : Nd) : Nd := { n with rl := tupRl n.rl }
noncomputable def obF (n : Nd) (out : List Ms) : Al :=
  [(3, .fz (nD n.me)), (4, .fz (nD n.size)), (5, .fz (roleD n.rl)), (6, .fz (nD n.term)), (7, .fz (votD n.voted)), (9, .fz (nD n.commit)), (8, .fz (.list (n.log.map entD))), (10, .fz (.list (exD n.rl))), (11, .fz (.list (out.map msD)))]
theorem tup_ok (n : Nd) (out : List Ms) (h : ∀ vs, n.rl = .can vs → vs.length < 64) : F_tup (obF n out) [] = some (ndD (tupN n)) := by
  obtain ⟨me, size, term, voted, log, commit, rl⟩ := n
  refine r_pm (f := .ret (ndD (tupN ⟨me, size, term, voted, log, commit, rl⟩))) (S := ⟨[(1, .obj), (13, .fz (.list (exD (tupRl rl))))], obF ⟨me, size, term, voted, log, commit, rl⟩ out⟩) rfl rfl (x_next (x_asg (d := .list (exD (tupRl rl))) (l := [(1, .obj), (13, .fz (.list (exD (tupRl rl))))]) ?_ rfl) (x_ret ?_)) rfl
  · cases rl with
    | fol => exact e_ifF (t_cmp rfl rfl (c_can _)) rfl
    | led ps => exact e_ifF (t_cmp rfl rfl (c_can _)) rfl
    | can vs => exact e_ifT (t_cmp rfl rfl (c_can _)) (e_b1 rfl (b_sort (h vs rfl)))
  · cases rl <;> rfl
theorem x_new {O : Orc} {S : PS} {x f : Nat} {es : Exs} {p q c r : Pos} {ds : List D} {o : Al} {F : Al → List D → Option (D × Al)} (hF : O.mm 0 = F) (h : evs O es S = some ds) (h2 : F [] ds = some (.none, o)) (h3 : noObj S.loc = true) (h4 : S.ob.isEmpty = true) :
    ex O (.new x f es p q c r) S = some (.next, ⟨put x .obj S.loc, o⟩) := by
  subst hF
  show (evs O es S).bind _ = _; rw [h]; show (O.mm 0 [] ds).bind _ = _; rw [h2]
  show gd (isNo .none && noObj S.loc && S.ob.isEmpty) _ = _
  rw [h3, h4]; rfl
noncomputable def stepN (n : Nd) (e : Evt) : Nd × List Ms := (tupN (handN n e).1, (handN n e).2)
noncomputable def stD (r : Nd × List Ms) : D := .tuple [ndD r.1, .list (r.2.map msD)]
theorem step_ok {n : Nd} (hn : NdOK n) {e : Evt} (he : EvOK n e) (hc : ∀ vs, (handN n e).1.rl = .can vs → vs.length < 64) : F_step [ndD n, evD e] = some (stD (stepN n e)) := by
  have h1 := hand_ok hn he (out := []) (by unfold big; decide)
  rw [List.nil_append] at h1
  revert h1 hc
  unfold stepN
  generalize handN n e = r
  intro hc h1
  exact r_fn (l := [(45, .fz (ndD n)), (46, .fz (evD e))]) (f := .ret (stD (tupN r.1, r.2))) (S := ⟨[(45, .fz (ndD n)), (46, .fz (evD e)), (26, .obj)], obF r.1 r.2⟩) rfl
    (x_next (S1 := ⟨[(45, .fz (ndD n)), (46, .fz (evD e)), (26, .obj)], obD n []⟩) (x_new (F := F_init) rfl rfl (init_ok n) rfl rfl)
    (x_next (S1 := ⟨[(45, .fz (ndD n)), (46, .fz (evD e)), (26, .obj)], obD r.1 r.2⟩) (x_mcall (F := F_handle) rfl rfl rfl h1)
    (x_next rfl (x_next rfl (x_next (S1 := ⟨[(45, .fz (ndD n)), (46, .fz (evD e)), (26, .obj)], obF r.1 r.2⟩) rfl
    (x_ret (e_ret (e_tup (es_cons (e_meth (F := F_tup) rfl rfl rfl (tup_ok r.1 r.2 hc)) rfl))))))))) rfl
theorem idx_pre {l : List Ent} {i : Nat} (h : i < l.length) : ∃ e, l[i]? = some e ∧ tmAt l (i + 1) = e.1 := ⟨l[i], List.getElem?_eq_getElem h, by rw [tmAt, List.getElem?_eq_getElem h]⟩
theorem c_eq0 {a : Nat} : doCm .eq (nD a) (.int 0) = some (decide (a = 0)) := c_eq (b := 0)
theorem entry_ok {l : List Ent} {i : Nat} (h : i ≤ l.length) : F_law_entry [.list (l.map entD), nD i] = some (nnD (tmAt l i, i)) := by
  cases i with
  | zero => exact r_fn (l := [(8, .fz (.list (l.map entD))), (57, .fz (nD 0))]) (f := .ret (nnD (0, 0))) rfl (x_ret (x_ifT (t_cmp rfl rfl (c_eq0 (a := 0))) (x_ret (e_ret (e_tup rfl))))) rfl
  | succ i =>
    obtain ⟨e, h1, h2⟩ := idx_pre h
    rw [h2]
    exact r_fn (l := [(8, .fz (.list (l.map entD))), (57, .fz (nD (i + 1)))]) (f := .ret (nnD (e.1, i + 1))) rfl (x_next (x_ifF (t_cmp rfl rfl (c_eq0 (a := i + 1))) rfl) (x_ret (e_ret (e_tup (es_cons (e_idx (x := entD e) (q_v (e_idx rfl (e_bin rfl rfl b_subn) (idx_l (f := entD) h1))) rfl rfl) rfl))))) rfl
theorem appends_ok (n : Nd) (ps : List (Nat × Nat)) (js : List Nat) (hj : ∀ j ∈ js, j < ps.length ∧ prevAt ps j ≤ n.log.length) (hl : n.log.length ≤ 60000) (hb : js.length ≤ 60000) :
    F_law_appends [nD n.me, nD n.term, .list (n.log.map entD), nD n.commit, .list (ps.map psD), .list (js.map nD)] = some (.list ((appsN n ps js).map msD)) := by
  let B : Al := [(3, .fz (nD n.me)), (6, .fz (nD n.term)), (8, .fz (.list (n.log.map entD))), (9, .fz (nD n.commit)), (10, .fz (.list (ps.map psD))), (65, .fz (.list (js.map nD)))]
  obtain ⟨⟨l', o'⟩, e, h1, h2⟩ := forL_pre (α := Nat) nD (f := loopF O17 (sNth 1 ir_law_appends)) (L := js)
    (fun d S => (∃ z, S.loc = B ++ (11, .own ((appsN n ps d).map msD)) :: z ∧ (z = [] ∨ ∃ x y, z = [(18, .fz x), (66, .fz y)])) ∧ S.ob = []) (fun d j r S hL hi => by
      obtain ⟨loc, ob⟩ := S
      obtain ⟨⟨z, hz, hz'⟩, hob⟩ := hi
      have hz : loc = _ := hz
      have hob : ob = _ := hob
      subst hz hob
      have hj := hj j (by rw [hL]; exact List.mem_append_right _ (List.mem_cons_self ..))
      obtain ⟨⟨p, m⟩, hp⟩ : ∃ q, ps[j]? = some q := ⟨_, List.getElem?_eq_getElem hj.1⟩
      have hpp : prevAt ps j = p := by unfold prevAt; rw [hp]
      have hple : p ≤ n.log.length := hpp ▸ hj.2
      have hlen : (appsN n ps d).length < big := by
        rw [hL, List.length_append, List.length_cons] at hb
        rw [appsN, List.length_map]; unfold big; lia
      have e3 : (appsN n ps (d ++ [j])).map msD = (appsN n ps d).map msD ++ [msD (sendN n p j)] := by
        unfold appsN; rw [List.map_append, List.map_append]; simp only [List.map_cons, List.map_nil, hpp]
      have hb1 : ∃ z', bindT (tgS (sNth 1 ir_law_appends)) (nD j) (B ++ (11, .own ((appsN n ps d).map msD)) :: z) = some (B ++ (11, .own ((appsN n ps d).map msD)) :: (18, .fz (nD j)) :: z') ∧ (z' = [] ∨ ∃ y, z' = [(66, .fz y)]) := by
        rcases hz' with rfl | ⟨x, y, rfl⟩
        · exact ⟨[], rfl, .inl rfl⟩
        · exact ⟨[(66, .fz y)], rfl, .inr ⟨_, rfl⟩⟩
      obtain ⟨z', hb1, hz1⟩ := hb1
      refine ⟨⟨B ++ (11, .own ((appsN n ps (d ++ [j])).map msD)) :: [(18, .fz (nD j)), (66, .fz (nD p))], []⟩, x_loop hb1 ?_, ⟨_, rfl, .inr ⟨_, _, rfl⟩⟩, rfl⟩
      rw [e3]
      refine x_next (S1 := ⟨B ++ (11, .own ((appsN n ps d).map msD)) :: [(18, .fz (nD j)), (66, .fz (nD p))], []⟩) (x_asg (d := nD p) (e_bin (q_v (e_idx (x := psD (p, m)) (q_v (e_idx rfl rfl (idx_l (f := psD) hp))) rfl rfl)) rfl b_sub1) (by rcases hz1 with rfl | ⟨y, rfl⟩ <;> rfl))
        (x_next (x_app (ds := (appsN n ps d).map msD) (d := msD (sendN n p j)) rfl (e_tup (es_cons rfl (es_cons rfl (es_cons rfl (es_cons rfl (es_cons (e_call (F := F_law_entry) rfl rfl (entry_ok hple)) (es_cons (e_slc rfl (o_some rfl) rfl (slc_from (by lia))) rfl))))))) (by rw [List.length_map]; exact hlen)) rfl)) js [] ⟨B ++ [(11, .own [])], []⟩ rfl ⟨⟨[], rfl, .inl rfl⟩, rfl⟩
  obtain ⟨z, hz, hz'⟩ := h1
  have hz : l' = _ := hz
  have h2 : o' = _ := h2
  subst hz h2
  exact r_fn (l := B) (f := .ret (.list ((appsN n ps js).map msD))) (S := ⟨B ++ (11, .fz (.list ((appsN n ps js).map msD))) :: z, []⟩) rfl (x_next (S1 := ⟨B ++ [(11, AV.own [])], []⟩) (x_asgO (ds := []) rfl rfl rfl) (x_next (S1 := ⟨B ++ (11, .own ((appsN n ps js).map msD)) :: z, []⟩) (x_for (items := js.map nD) (s_seq rfl rfl) e) (x_next (S1 := ⟨B ++ (11, .fz (.list ((appsN n ps js).map msD))) :: z, []⟩) rfl (x_ret rfl)))) rfl
theorem max_c {a b : Nat} : doB2 .max (nD a) (nD b) = some (nD (max a b)) := by
  show some (PyData.int (if (b : Int) > (a : Int) then (b : Int) else (a : Int))) = some (PyData.int ((max a b : Nat) : Int))
  congr 2; split <;> lia
noncomputable def maxN : Nat → List Nat → Nat
  | a, [] => a
  | a, x :: r => maxN (if a < x then x else a) r
theorem max_map : ∀ (l : List Nat) (a : Nat), maxI (a : Int) (l.map fun n : Nat => (n : Int)) = ((maxN a l : Nat) : Int) := by
  intro l0
  induction l0 with
  | nil =>
    intro a
    exact rfl
  | cons x r ih =>
    intro a
    show maxI (if (x : Int) > (a : Int) then (x : Int) else (a : Int)) (r.map fun n : Nat => (n : Int)) = ((maxN (if a < x then x else a) r : Nat) : Int)
    rw [show (if (x : Int) > (a : Int) then (x : Int) else (a : Int)) = ((if a < x then x else a : Nat) : Int) by split <;> split <;> lia]
    exact ih _
theorem b_max {a : Nat} {l : List Nat} : doB1 .maxl (.list ((a :: l).map nD)) = some (nD (maxN a l)) := by
  show (asInts ((a :: l).map nD)).bind maxIs = _
  rw [ints_n]; show some (PyData.int (maxI (a : Int) (l.map fun n : Nat => (n : Int)))) = _; rw [max_map]; rfl
theorem max_none {p : Nat → Bool} : ∀ {l : List Nat} {a : Nat}, (∀ x ∈ l, p x = true → x ≤ a) → maxN a (l.filter p) = a := by
  intro l0
  induction l0 with
  | nil =>
    intro _ _
    exact rfl
  | cons x r ih =>
    intro a h
    cases hp : p x with
    | false => rw [List.filter_cons_of_neg (by rw [hp]; exact Bool.false_ne_true)]; exact ih fun y hy => h y (List.mem_cons_of_mem _ hy)
    | true =>
      rw [List.filter_cons_of_pos hp]
      have := h x (List.mem_cons_self ..) hp
      show maxN (if a < x then x else a) (r.filter p) = a
      rw [if_neg (by lia)]; exact ih fun y hy => h y (List.mem_cons_of_mem _ hy)
theorem max_app : ∀ (l : List Nat) (a x : Nat), maxN a (l ++ [x]) = if maxN a l < x then x else maxN a l := by
  intro l0
  induction l0 with
  | nil =>
    intro _ _
    exact rfl
  | cons y r ih =>
    intro a x
    exact ih (if a < y then y else a) x
theorem max_le : ∀ (l : List Nat) (a b : Nat), a ≤ b → (∀ x ∈ l, x ≤ b) → maxN a l ≤ b := by
  intro l0
  induction l0 with
  | nil =>
    intro _ _ h _
    exact h
  | cons y r ih =>
    intro a b h hl
    exact ih _ b (by split; exact hl y (List.mem_cons_self ..); exact h) fun x hx => hl x (List.mem_cons_of_mem _ hx)
noncomputable def upTo (n : Nat) : List Nat := (List.range n).map (· + 1)
theorem upTo_succ (n : Nat) : upTo (n + 1) = upTo n ++ [n + 1] := by unfold upTo; rw [List.range_succ, List.map_append]; rfl
theorem down_succ {n c : Nat} (h : c ≤ n) : downN (n + 1) c = (n + 1) :: downN n c := by
  unfold downN
  rw [show n + 1 - c = (n - c) + 1 by lia, List.range_succ_eq_map, List.map_cons, List.map_map]
  congr 1
  refine List.map_congr_left fun i _ => ?_
  show n + 1 - (i + 1) = n - i; lia
theorem look_max (ok : Nat → Bool) (c : Nat) : ∀ n, ((downN n c).find? ok).getD c = maxN c ((upTo n).filter ok) := by
  intro l0
  induction l0 with
  | zero =>
    (unfold downN; rw [Nat.zero_sub]; rfl)
  | succ n ih =>
    by_cases h : c ≤ n
    · rw [down_succ h, upTo_succ, List.filter_append, List.find?_cons]
      have hle : maxN c ((upTo n).filter ok) ≤ n := max_le _ _ _ h fun x hx => by
        obtain ⟨i, hi, rfl⟩ := List.mem_map.mp (List.mem_filter.mp hx).1
        have := List.mem_range.mp hi; assumption
      cases hk : ok (n + 1) with
      | true => rw [List.filter_cons_of_pos hk, List.filter_nil, max_app, if_pos (by lia)]; rfl
      | false => rw [List.filter_cons_of_neg (by rw [hk]; exact Bool.false_ne_true), List.filter_nil, List.append_nil]; exact ih
    · have e : downN (n + 1) c = [] := by unfold downN; rw [show n + 1 - c = 0 by lia]; rfl
      rw [e]; show c = _
      refine (max_none fun x hx _ => ?_).symm
      obtain ⟨i, hi, rfl⟩ := List.mem_map.mp hx
      have := List.mem_range.mp hi; lia
theorem rng_up {n : Nat} (h : n ≤ 60000) : doRng [1, ((n + 1 : Nat) : Int)] = some ((upTo n).map nD) := by
  show rangeL 1 ((n + 1 : Nat) : Int) 1 = _
  have f1 : fitI 1 = true := by decide +kernel
  unfold rangeL
  rw [if_pos rfl, f1, fit_n (by (exact Nat.lt_of_le_of_lt (by assumption) (by decide))), show (((n + 1 : Nat) : Int) - 1).toNat = n by lia, decide_eq_true (show n ≤ big by unfold big; (exact Nat.le_trans (by assumption) (by decide))), upTo, List.map_map]
  show some _ = some _
  congr 1
  refine List.map_congr_left fun i _ => ?_
  show PyData.int (1 + (i : Int)) = PyData.int ((i + 1 : Nat) : Int)
  congr 1; lia
theorem b_add1 {a : Nat} : doBin .add (nD a) (.int 1) = some (nD (a + 1)) := b_addn (b := 1)
theorem b_addl {α : Type} {f : α → D} {a b : List α} (h : a.length + b.length ≤ big) : doBin .add (.list (a.map f)) (.list (b.map f)) = some (.list ((a ++ b).map f)) := by
  show gd (decide ((a.map f).length + (b.map f).length ≤ big)) (PyData.list (a.map f ++ b.map f)) = _
  rw [List.length_map, List.length_map, decide_eq_true h, List.map_append]; rfl
theorem reached_ok (n : Nd) (ps : List (Nat × Nat)) (hs : ps.length = n.size) (hl : n.log.length ≤ 30000) (hp : ps.length ≤ 30000) :
    F_law_reached [nD n.term, .list (n.log.map entD), nD n.commit, .list (ps.map psD)] = some (nD (lookN n ps)) := by
  unfold lookN
  rw [look_max]
  have hlen : ((upTo n.log.length).filter (okN n ps)).length ≤ 30000 := by
    have := List.length_filter_le (okN n ps) (upTo n.log.length)
    rw [upTo, List.length_map, List.length_range] at this; rw [upTo]; (exact Nat.le_trans (by assumption) (by assumption))
  refine r_fn (l := [(6, .fz (nD n.term)), (8, .fz (.list (n.log.map entD))), (9, .fz (nD n.commit)), (10, .fz (.list (ps.map psD)))]) (f := .ret (nD (maxN n.commit ((upTo n.log.length).filter (okN n ps))))) (S := ⟨[(6, .fz (nD n.term)), (8, .fz (.list (n.log.map entD))), (9, .fz (nD n.commit)), (10, .fz (.list (ps.map psD))), (70, .fz (.list (((upTo n.log.length).filter (okN n ps)).map nD)))], []⟩) rfl
    (x_next (x_asg (e_comp (s_rng (es_cons rfl (es_cons (e_bin (q_v (e_b1 rfl len_l)) rfl b_add1) rfl)) rfl (rng_up (by (exact Nat.le_trans (by assumption) (by decide))))) (compL_map nD (okN n ps) nD fun i hi => ?_) (by rw [List.length_map]; unfold big; (exact Nat.le_trans (by assumption) (by decide)))) rfl) (x_ret (e_ret (e_b1 (q_v (e_bin (x := .list ([n.commit].map nD)) rfl rfl (b_addl (by rw [List.length_cons, List.length_nil]; unfold big; lia)))) b_max)))) rfl
  obtain ⟨i, hk, rfl⟩ := List.mem_map.mp hi
  have hi := List.mem_range.mp hk
  obtain ⟨e, he1, he2⟩ := idx_pre hi
  have ht : ∀ o, evT O19 (match sNth 0 ir_law_reached with | .asg _ _ (.comp _ _ _ (.some t) _ _) _ _ => t | _ => .v (.lit .none ⟨0,0,0,0⟩)) ⟨[(6, .fz (nD n.term)), (8, .fz (.list (n.log.map entD))), (9, .fz (nD n.commit)), (10, .fz (.list (ps.map psD))), (26, .fz (nD (i + 1)))], o⟩ = some (decide (e.1 = n.term) && (decide (ps.length < 2 * (ps.filter fun q => decide (i + 1 ≤ q.2)).length) && true)) := by
    intro o
    refine t_all (al_c (t_cmp (q_v (e_idx (x := entD e) (q_v (e_idx rfl (e_bin rfl rfl b_subn) (idx_l (f := entD) he1))) rfl rfl)) rfl c_eq) (al_c (t_cmp (q_v (e_bin rfl (q_v (e_b1 (q_v (e_comp (s_seq rfl rfl) (compL_map psD (fun q => decide (i + 1 ≤ q.2)) psD fun q _ => ?_) ?_)) len_l)) b_mul2)) (q_v (e_b1 rfl len_l)) c_gt) evAll_nil))
    · show ((doCm .ge (nD q.2) (nD (i + 1))).map PyData.bool |>.bind truth).bind (fun c => if c then (some (some (psD q))) else some none) = _
      rw [c_ge]; cases decide (i + 1 ≤ q.2) <;> rfl
    · rw [List.length_map]
      have := List.length_filter_le (fun q : Nat × Nat => decide (i + 1 ≤ q.2)) ps
      unfold big; lia
  show (evT O19 (match sNth 0 ir_law_reached with | .asg _ _ (.comp _ _ _ (.some t) _ _) _ _ => t | _ => .v (.lit .none ⟨0,0,0,0⟩)) ⟨[(6, .fz (nD n.term)), (8, .fz (.list (n.log.map entD))), (9, .fz (nD n.commit)), (10, .fz (.list (ps.map psD))), (26, .fz (nD (i + 1)))], []⟩).bind (fun c => if c then (some (some (nD (i + 1)))) else some none) = _
  rw [ht, okN, he2, hs, Bool.and_true]
  cases (decide (e.1 = n.term) && decide (n.size < 2 * (ps.filter fun q => decide (i + 1 ≤ q.2)).length)) <;> rfl
theorem leadPs_eq {α : Type} {a b : α} : ∀ {size me : Nat}, me < size → (List.replicate size a).set me b = List.replicate me a ++ [b] ++ List.replicate (size - me - 1) a := by
  intro l0
  induction l0 with
  | zero =>
    intro _ h
    exact absurd h (Nat.not_lt_zero _)
  | succ s ih =>
    intro l1
    cases l1 with
    | zero =>
      intro _
      exact rfl
    | succ m =>
      intro h
      exact (by
    rw [List.replicate_succ, List.set_cons_succ, ih (by (exact Nat.le_of_lt_succ (by assumption)) : m < s), List.replicate_succ, show s + 1 - (m + 1) - 1 = s - m - 1 by lia]; rfl)
noncomputable def wonD (r : Nd × List Ms) : D := .tuple [roleD r.1.rl, .list (exD r.1.rl), .list (r.2.map msD)]
theorem lead_prev {n : Nd} {j : Nat} : prevAt (leadPs n) j ≤ n.log.length := by
  unfold prevAt
  cases h : (leadPs n)[j]? with
  | none => exact Nat.zero_le _
  | some p =>
    have hp := List.mem_of_getElem? h
    rw [leadPs] at hp
    rcases List.mem_or_eq_of_mem_set hp with h | h
    · rw [(List.mem_replicate.mp h).2]; exact Nat.le_refl _
    · rw [h]; exact Nat.le_refl _
theorem won_ok (n : Nd) (vs : List Nat) (hm : n.me < n.size) (hs : n.size ≤ 16) (hl : n.log.length ≤ 60000) :
    F_law_won [nD n.me, nD n.size, nD n.term, .list (n.log.map entD), nD n.commit, .list (vs.map nD)] = some (wonD (canN n vs)) := by
  obtain ⟨me, size, term, voted, log, commit, rl⟩ := n
  by_cases h : size < 2 * vs.length
  · have e : canN ⟨me, size, term, voted, log, commit, rl⟩ vs = leadN ⟨me, size, term, voted, log, commit, .can vs⟩ := if_pos h
    rw [e]
    have hm : me < size := hm
    have hs : size ≤ 16 := hs
    have e1 := appends_ok (leadN ⟨me, size, term, voted, log, commit, .can vs⟩).1 (leadPs ⟨me, size, term, voted, log, commit, .can vs⟩) (othN me size) (fun j hj => ⟨by rw [leadPs, List.length_set, List.length_replicate]; exact (oth_lt hj).1, lead_prev⟩) hl (Nat.le_trans (oth_len ..) (by (exact Nat.le_trans (by assumption) (by decide))))
    have e2 : leadPs ⟨me, size, term, voted, log, commit, .can vs⟩ = List.replicate me (log.length, 0) ++ [(log.length, log.length)] ++ List.replicate (size - me - 1) (log.length, 0) := leadPs_eq hm
    have e3 : doBin .sub (nD size) (nD me) = some (nD (size - me)) := by
      show some (PyData.int ((size : Int) - (me : Int))) = some (PyData.int ((size - me : Nat) : Int)); congr 2; lia
    have e4 : doBin .sub (nD (size - me)) (.int 1) = some (nD (size - me - 1)) := by
      show some (PyData.int (((size - me : Nat) : Int) - 1)) = some (PyData.int ((size - me - 1 : Nat) : Int)); congr 2; lia
    refine r_fn (l := [(3, .fz (nD me)), (4, .fz (nD size)), (6, .fz (nD term)), (8, .fz (.list (log.map entD))), (9, .fz (nD commit)), (68, .fz (.list (vs.map nD)))]) (f := .ret (wonD (leadN ⟨me, size, term, voted, log, commit, .can vs⟩)))
      (S := ⟨[(3, .fz (nD me)), (4, .fz (nD size)), (6, .fz (nD term)), (8, .fz (.list (log.map entD))), (9, .fz (nD commit)), (68, .fz (.list (vs.map nD))), (26, .fz (nD log.length)), (10, .fz (.list ((leadPs ⟨me, size, term, voted, log, commit, .can vs⟩).map psD))), (17, .fz (.list ((othN me size).map nD)))], []⟩) rfl
      (x_next (x_ifF (t_cmp (q_v (e_bin rfl (q_v (e_b1 rfl len_l)) b_mul2)) rfl (c_le.trans (congrArg some (decide_eq_false (by lia))))) rfl) (x_next (x_asg (e_b1 rfl len_l) rfl) (x_next (x_asg (d := .list ((leadPs ⟨me, size, term, voted, log, commit, .can vs⟩).map psD)) ?_ rfl) (x_next (x_asg (e_comp (s_rng rfl rfl (rng_n (by (exact Nat.le_trans (by assumption) (by decide))))) (compL_map nD (fun j => !decide (j = me)) nD fun j _ => ?_) ?_) rfl) (x_ret (e_ret (e_tup (es_cons rfl (es_cons rfl (es_cons (e_call (F := F_law_appends) rfl rfl e1) rfl)))))))))) rfl
    · rw [e2]
      exact e_bin (x := .list ((List.replicate me (log.length, 0) ++ [(log.length, log.length)]).map psD)) (q_v (e_bin (q_v (e_bin (x := .list [psD (log.length, 0)]) rfl rfl (mul_rep (f := psD) (x := (log.length, 0)) (by lia)))) (y := .list ([(log.length, log.length)].map psD)) rfl (b_addl (by rw [List.length_replicate, List.length_cons, List.length_nil]; unfold big; lia))))
        (q_v (e_bin (x := .list [psD (log.length, 0)]) rfl (q_v (e_bin (q_v (e_bin rfl rfl e3)) rfl e4)) (mul_rep (f := psD) (x := (log.length, 0)) (by lia)))) (b_addl (by rw [List.length_append, List.length_replicate, List.length_replicate, List.length_cons, List.length_nil]; unfold big; lia))
    · show ((doCm .ne (nD j) (nD me)).map PyData.bool |>.bind truth).bind (fun c => if c then (some (some (nD j))) else some none) = _
      rw [c_ne]; cases decide (j = me) <;> rfl
    · rw [List.length_map]
      have := oth_len me size
      show (othN me size).length ≤ big; unfold big; lia
  · have e : canN ⟨me, size, term, voted, log, commit, rl⟩ vs = (⟨me, size, term, voted, log, commit, .can vs⟩, []) := if_neg h
    rw [e]
    exact r_fn (l := [(3, .fz (nD me)), (4, .fz (nD size)), (6, .fz (nD term)), (8, .fz (.list (log.map entD))), (9, .fz (nD commit)), (68, .fz (.list (vs.map nD)))]) (f := .ret (wonD (⟨me, size, term, voted, log, commit, .can vs⟩, []))) rfl
      (x_ret (x_ifT (t_cmp (q_v (e_bin rfl (q_v (e_b1 rfl len_l)) b_mul2)) rfl (c_le.trans (congrArg some (decide_eq_true (Nat.le_of_not_lt h))))) (x_ret (e_ret (e_tup rfl))))) rfl
noncomputable def sameN : List Ent → List Ent → Nat
  | a :: as, b :: bs => if a.1 = b.1 then sameN as bs + 1 else 0
  | _, _ => 0
noncomputable def takeN (l : List Ent) (i : Nat) (es : List Ent) : List Ent := if sameN (l.drop i) es < es.length then l.take (i + sameN (l.drop i) es) ++ es.drop (sameN (l.drop i) es) else l
theorem putEs_cons (i : Nat) (l : List Ent) (e : Ent) (es l1 l2 : List Ent) (h1 : (if i < l.length ∧ tmAt l (i + 1) ≠ e.1 then l.take i else l) = l1) (h2 : (if l1.length ≤ i then l1 ++ [e] else l1) = l2) : putEs i l (e :: es) = putEs (i + 1) l2 es := by
  subst h1 h2; rfl
theorem putEs_end : ∀ (es l : List Ent), putEs l.length l es = l ++ es := by
  intro l0
  induction l0 with
  | nil =>
    intro l
    exact (List.append_nil l).symm
  | cons e es ih =>
    intro l
    rw [putEs_cons l.length l e es l (l ++ [e]) (if_neg fun h => Nat.lt_irrefl _ h.1) (if_pos (Nat.le_refl _))]
    have := ih (l ++ [e])
    rw [List.length_append] at this
    rw [show l.length + 1 = l.length + [e].length from rfl, this, List.append_assoc]; rfl
theorem putEs_take : ∀ (es l : List Ent) (i : Nat), i ≤ l.length → putEs i l es = takeN l i es := by
  intro l0
  induction l0 with
  | nil =>
    intro l i _
    unfold takeN; rw [if_neg (show ¬ sameN (l.drop i) [] < ([] : List Ent).length from Nat.not_lt_zero _)]; rfl
  | cons e es ih =>
    intro l i h
    by_cases hi : i < l.length
    · have hd : l.drop i = l[i] :: l.drop (i + 1) := List.drop_eq_getElem_cons hi
      have ht : tmAt l (i + 1) = l[i].1 := by rw [tmAt, List.getElem?_eq_getElem hi]
      unfold takeN
      rw [hd]
      by_cases he : l[i].1 = e.1
      · have hs : sameN (l[i] :: l.drop (i + 1)) (e :: es) = sameN (l.drop (i + 1)) es + 1 := if_pos he
        rw [putEs_cons i l e es l l (if_neg fun h => h.2 (ht.trans he)) (if_neg (by lia)), hs, ih l (i + 1) hi, takeN, List.length_cons, List.drop_succ_cons]
        by_cases hq : sameN (l.drop (i + 1)) es < es.length
        · rw [if_pos hq, if_pos (by lia), show i + (sameN (l.drop (i + 1)) es + 1) = i + 1 + sameN (l.drop (i + 1)) es by lia]
        · rw [if_neg hq, if_neg (by lia)]
      · have hs : sameN (l[i] :: l.drop (i + 1)) (e :: es) = 0 := if_neg he
        rw [putEs_cons i l e es (l.take i) (l.take i ++ [e]) (if_pos ⟨hi, fun h => he (ht.symm.trans h)⟩) (if_pos (by rw [List.length_take]; lia)), hs, if_pos (by rw [List.length_cons]; lia)]
        have := putEs_end es (l.take i ++ [e])
        rw [List.length_append, List.length_take, Nat.min_eq_left (Nat.le_of_lt hi)] at this
        rw [show i + 1 = i + [e].length from rfl, this, List.append_assoc]; rfl
    · have hi : i = l.length := by lia
      subst hi
      unfold takeN
      rw [putEs_cons l.length l e es l (l ++ [e]) (if_neg fun h => Nat.lt_irrefl _ h.1) (if_pos (Nat.le_refl _)), List.drop_length]
      have := putEs_end es (l ++ [e])
      rw [List.length_append] at this
      rw [show l.length + 1 = l.length + [e].length from rfl, this, List.append_assoc]
      show _ = if 0 < (e :: es).length then l.take (l.length + 0) ++ (e :: es) else _
      rw [if_pos (by rw [List.length_cons]; lia), Nat.add_zero, List.take_length]; rfl
theorem s_zip {O : Orc} {S : PS} {a b : Qx} {p q : Pos} {x y : List D} (ha : evQ O a S = some (.list x)) (hb : evQ O b S = some (.list y)) : evSr O (.zip a b p q) S = some (zipL x y) := by
  show (evQ O a S).bind _ = _; rw [ha]; show (evQ O b S).bind _ = _; rw [hb]; rfl
noncomputable def tkB (l : List Ent) (c : Nat) (p : Nat × Nat) (es : List Ent) (told k : Nat) (z : Al) : Al := [(8, .fz (.list (l.map entD))), (9, .fz (nD c)), (76, .fz (nnD p)), (39, .fz (.list (es.map entD))), (80, .fz (nD told)), (57, .fz (nD p.2)), (77, .fz (nD k))] ++ z
theorem c_neT {a b : Nat} : doCm .ne (nD a) (nD b) = some (!decide (a = b)) := c_ne
theorem zip_loop {l : List Ent} {c : Nat} {p : Nat × Nat} {es : List Ent} {told : Nat} : ∀ (a b : List Ent) (k : Nat) (z : Al), (z = [] ∨ ∃ x y, z = [(78, .fz x), (79, .fz y)]) →
    ∃ z', forL (loopF O21 (sNth 3 ir_law_take)) (zipL (a.map entD) (b.map entD)) ⟨tkB l c p es told k z, []⟩ = some (.next, ⟨tkB l c p es told (k + sameN a b) z', []⟩) ∧ (z' = [] ∨ ∃ x y, z' = [(78, .fz x), (79, .fz y)]) := by
  intro l0
  induction l0 with
  | nil =>
    intro _ k z hz
    exact ⟨z, rfl, hz⟩
  | cons x a ih =>
    intro l1
    cases l1 with
    | nil =>
      intro k z hz
      exact ⟨z, rfl, hz⟩
    | cons y b =>
      intro k z hz
      exact (by
    have hb : bindT (tgS (sNth 3 ir_law_take)) (.tuple [entD x, entD y]) (tkB l c p es told k z) = some (tkB l c p es told k [(78, .fz (entD x)), (79, .fz (entD y))]) := by
      rcases hz with rfl | ⟨u, v, rfl⟩ <;> rfl
    by_cases h : x.1 = y.1
    · have h1 : loopF O21 (sNth 3 ir_law_take) (.tuple [entD x, entD y]) ⟨tkB l c p es told k z, []⟩ = some (.next, ⟨tkB l c p es told (k + 1) [(78, .fz (entD x)), (79, .fz (entD y))], []⟩) :=
        x_loop hb (x_next (x_ifF (t_cmp (q_v (e_idx rfl rfl rfl)) (q_v (e_idx rfl rfl rfl)) (c_neT.trans (by rw [decide_eq_true h]; rfl))) rfl) (x_next rfl rfl))
      obtain ⟨z', h2, h3⟩ := ih b (k + 1) _ (.inr ⟨entD x, entD y, rfl⟩)
      refine ⟨z', ?_, h3⟩
      rw [show sameN (x :: a) (y :: b) = sameN a b + 1 from if_pos h, show k + (sameN a b + 1) = k + 1 + sameN a b by lia]
      show (loopF O21 (sNth 3 ir_law_take) (.tuple [entD x, entD y]) _).bind _ = _
      rw [h1]; exact h2
    · have h1 : loopF O21 (sNth 3 ir_law_take) (.tuple [entD x, entD y]) ⟨tkB l c p es told k z, []⟩ = some (.brk, ⟨tkB l c p es told k [(78, .fz (entD x)), (79, .fz (entD y))], []⟩) :=
        x_loop hb (x_brk (x_ifT (t_cmp (q_v (e_idx rfl rfl rfl)) (q_v (e_idx rfl rfl rfl)) (c_neT.trans (by rw [decide_eq_false h]; rfl))) (x_brk rfl)))
      refine ⟨[(78, .fz (entD x)), (79, .fz (entD y))], ?_, .inr ⟨_, _, rfl⟩⟩
      rw [show sameN (x :: a) (y :: b) = 0 from if_neg h]
      show (loopF O21 (sNth 3 ir_law_take) (.tuple [entD x, entD y]) _).bind _ = _
      rw [h1]; rfl)
end Mine
end
section
set_option maxRecDepth 100000
set_option genInjectivity false
set_option genSizeOf false
set_option genSizeOfSpec false
set_option backward.match.sparseCases false
namespace Mine
open PySem
section
theorem c_ne2 {a b : Nat × Nat} : doCm .ne (nnD a) (nnD b) = some (!decide (a = b)) := by
  show some (!(PyData.eqv (nD a.1) (nD b.1) && (PyData.eqv (nD a.2) (nD b.2) && true))) = _
  rw [eqv_n, eqv_n, Bool.and_true]
  congr 2
  by_cases h1 : a.1 = b.1
  · by_cases h2 : a.2 = b.2
    · rw [decide_eq_true h1, decide_eq_true h2, decide_eq_true (Prod.ext h1 h2)]; rfl
    · rw [decide_eq_false h2, Bool.and_false, decide_eq_false fun h => h2 (congrArg Prod.snd h)]
  · rw [decide_eq_false h1, Bool.false_and, decide_eq_false fun h => h1 (congrArg Prod.fst h)]
theorem an_t {O : Orc} {S : PS} {t : Te} {r : Tes} (h : evT O t S = some true) : evAny O (.cons t r) S = some true := by
  show (evT O t S).bind _ = _; rw [h]; rfl
theorem an_f {O : Orc} {S : PS} {t : Te} {r : Tes} {X} (h : evT O t S = some false) (hr : evAny O r S = X) : evAny O (.cons t r) S = X := by
  show (evT O t S).bind _ = _; rw [h]; exact hr
theorem an_c {O : Orc} {S : PS} {t : Te} {r : Tes} {c d : Bool} (h : evT O t S = some c) (hr : evAny O r S = some d) : evAny O (.cons t r) S = some (c || d) := by
  cases c
  · exact an_f h hr
  · exact an_t h
theorem t_any {O : Orc} {S : PS} {ts : Tes} {p : Pos} {X} (h : evAny O ts S = X) : evT O (.any ts p) S = X := h
theorem slc_to {α : Type} {f : α → D} {l : List α} {p : Nat} (h : p ≤ 1000000) : doSlc none (some (nD p)) (.list (l.map f)) = some (.list ((l.take p).map f)) := by
  show ((partI none).bind fun a => (partI (some (nD p))).bind _) = _
  rw [part_n h]
  show some (PyData.list ((l.map f).take p)) = _
  rw [List.map_take]
theorem same_le : ∀ (a b : List Ent), sameN a b ≤ a.length ∧ sameN a b ≤ b.length := by
  intro l0
  induction l0 with
  | nil =>
    intro _
    exact ⟨Nat.zero_le _, Nat.zero_le _⟩
  | cons x a ih =>
    intro l1
    cases l1 with
    | nil =>
      exact ⟨Nat.zero_le _, Nat.zero_le _⟩
    | cons y b =>
      exact (by
    show (if x.1 = y.1 then sameN a b + 1 else 0) ≤ _ ∧ (if x.1 = y.1 then sameN a b + 1 else 0) ≤ _
    have := ih b
    rw [List.length_cons, List.length_cons]
    split <;> lia)
noncomputable def takeOk (l : List Ent) (p : Nat × Nat) : Bool := decide (p.2 ≤ l.length) && decide ((tmAt l p.2, p.2) = p)
noncomputable def takeD (l : List Ent) (c : Nat) (p : Nat × Nat) (es : List Ent) (told : Nat) : D :=
  if takeOk l p then .tuple [.list ((takeN l p.2 es).map entD), nD (max c (min told (p.2 + es.length))), .bool true, nD (p.2 + es.length)] else .tuple [.list (l.map entD), nD c, .bool false, nD 0]
theorem take_ok (l : List Ent) (c : Nat) (p : Nat × Nat) (es : List Ent) (told : Nat) (hl : l.length ≤ 30000) (he : es.length ≤ 30000) :
    F_law_take [.list (l.map entD), nD c, nnD p, .list (es.map entD), nD told] = some (takeD l c p es told) := by
  let B : Al := [(8, .fz (.list (l.map entD))), (9, .fz (nD c)), (76, .fz (nnD p)), (39, .fz (.list (es.map entD))), (80, .fz (nD told))]
  have at_ : ex O21 (sNth 0 ir_law_take) ⟨B, []⟩ = some (.next, ⟨B ++ [(57, .fz (nD p.2))], []⟩) := x_asg (e_idx rfl rfl rfl) rfl
  unfold takeD
  by_cases h1 : p.2 ≤ l.length
  · by_cases h2 : (tmAt l p.2, p.2) = p
    · have hk : takeOk l p = true := by unfold takeOk; rw [decide_eq_true h1, decide_eq_true h2]; rfl
      rw [if_pos hk]
      obtain ⟨z, e1, hz⟩ := zip_loop (l := l) (c := c) (p := p) (es := es) (told := told) (l.drop p.2) es 0 [] (.inl rfl)
      rw [Nat.zero_add] at e1
      have hs := same_le (l.drop p.2) es
      have hsl : sameN (l.drop p.2) es ≤ l.length - p.2 := by have := hs.1; rw [List.length_drop] at this; exact this
      have e2 : ex O21 (sNth 4 ir_law_take) ⟨tkB l c p es told (sameN (l.drop p.2) es) z, []⟩ = some (.next, ⟨(8, .fz (.list ((takeN l p.2 es).map entD))) :: (tkB l c p es told (sameN (l.drop p.2) es) z).tail, []⟩) := by
        unfold takeN
        by_cases hq : sameN (l.drop p.2) es < es.length
        · rw [if_pos hq]
          exact x_ifT (t_cmp rfl (q_v (e_b1 rfl len_l)) (c_lt.trans (congrArg some (decide_eq_true hq)))) (x_next (x_asg (e_bin (q_v (e_slc rfl rfl (o_some (e_bin rfl rfl b_addn)) (slc_to (by lia)))) (q_v (e_slc rfl (o_some rfl) rfl (slc_from (by lia)))) (b_addl (by rw [List.length_take, List.length_drop]; unfold big; lia))) rfl) rfl)
        · rw [if_neg hq]
          exact x_ifF (t_cmp rfl (q_v (e_b1 rfl len_l)) (c_lt.trans (congrArg some (decide_eq_false hq)))) rfl
      refine r_fn (l := B) (f := .ret (.tuple [.list ((takeN l p.2 es).map entD), nD (max c (min told (p.2 + es.length))), .bool true, nD (p.2 + es.length)]))
        (S := ⟨((8, .fz (.list ((takeN l p.2 es).map entD))) :: (tkB l c p es told (sameN (l.drop p.2) es) z).tail) ++ [(42, .fz (nD (p.2 + es.length)))], []⟩) rfl
        (x_next at_ (x_next (x_ifF (t_any (an_f (t_cmp rfl (q_v (e_b1 rfl len_l)) (c_gt.trans (congrArg some (decide_eq_false (by lia))))) (an_f (t_cmp (q_v (e_call (F := F_law_entry) rfl rfl (entry_ok h1))) rfl (c_ne2.trans (by rw [decide_eq_true h2]; rfl))) rfl))) rfl) (x_next (S1 := ⟨tkB l c p es told 0 [], []⟩) rfl (x_next (x_for (s_zip (q_v (e_slc rfl (o_some rfl) rfl (slc_from (by lia)))) rfl) e1) (x_next e2 (x_next (x_asg (d := nD (p.2 + es.length)) (l := ((8, .fz (.list ((takeN l p.2 es).map entD))) :: (tkB l c p es told (sameN (l.drop p.2) es) z).tail) ++ [(42, .fz (nD (p.2 + es.length)))]) (e_bin rfl (q_v (e_b1 rfl len_l)) b_addn) ?_) (x_ret ?_))))))) rfl
      · rcases hz with rfl | ⟨x, y, rfl⟩ <;> rfl
      · rcases hz with rfl | ⟨x, y, rfl⟩ <;> exact e_ret (e_tup (es_cons rfl (es_cons (e_b2 rfl (e_b2 rfl rfl b_min) max_c) rfl)))
    · have hk : takeOk l p = false := by unfold takeOk; rw [decide_eq_false h2, Bool.and_false]
      rw [hk]
      exact r_fn (l := B) (f := .ret (.tuple [.list (l.map entD), nD c, .bool false, nD 0])) (S := ⟨B ++ [(57, .fz (nD p.2))], []⟩) rfl (x_next at_ (x_ret (x_ifT (t_any (an_f (t_cmp rfl (q_v (e_b1 rfl len_l)) (c_gt.trans (congrArg some (decide_eq_false (by lia))))) (an_t (t_cmp (q_v (e_call (F := F_law_entry) rfl rfl (entry_ok h1))) rfl (c_ne2.trans (by rw [decide_eq_false h2]; rfl)))))) (x_ret (e_ret (e_tup rfl)))))) rfl
  · have hk : takeOk l p = false := by unfold takeOk; rw [decide_eq_false h1]; rfl
    rw [hk]
    exact r_fn (l := B) (f := .ret (.tuple [.list (l.map entD), nD c, .bool false, nD 0])) (S := ⟨B ++ [(57, .fz (nD p.2))], []⟩) rfl (x_next at_ (x_ret (x_ifT (t_any (an_t (t_cmp rfl (q_v (e_b1 rfl len_l)) (c_gt.trans (congrArg some (decide_eq_true (by (exact Nat.lt_of_not_le (by assumption))))))))) (x_ret (e_ret (e_tup rfl)))))) rfl
set_option genCtorIdx false in
set_option backward.linearNoConfusionType false in
inductive Act
  | deliver (i : Int)
  | drop (i : Int)
  | double (i : Int)
  | crash (k : Nat)
  | timeout (k : Nat)
  | beat (k : Nat)
  | propose (k : Nat) (c : Int)
noncomputable def actD : Act → D
  | .deliver i => .tuple [sD "deliver", .int i]
  | .drop i => .tuple [sD "drop", .int i]
  | .double i => .tuple [sD "double", .int i]
  | .crash k => .tuple [sD "crash", nD k]
  | .timeout k => .tuple [sD "timeout", nD k]
  | .beat k => .tuple [sD "beat", nD k]
  | .propose k c => .tuple [sD "propose", nD k, .int c]
noncomputable def nl (d a : D) (x : Nat) (n : Nd) : Al := [(45, .fz d), (x, .fz a), (3, .fz (nD n.me)), (4, .fz (nD n.size)), (5, .fz (roleD n.rl)), (6, .fz (nD n.term)), (7, .fz (votD n.voted)), (8, .fz (.list (n.log.map entD))), (9, .fz (nD n.commit)), (10, .fz (.list (exD n.rl)))]
noncomputable def crashN (n : Nd) : Nd := { n with rl := .fol, commit := 0 }
theorem tell_crash (n : Nd) (k : Nat) : F_law_tell [ndD n, actD (.crash k)] = some (stD (crashN n, [])) :=
  r_fn (l := [(45, .fz (ndD n)), (72, .fz (actD (.crash k)))]) (S := ⟨nl (ndD n) (actD (.crash k)) 72 n, []⟩) (f := .ret (stD (crashN n, []))) rfl (x_next (x_unp rfl rfl rfl) (x_ret (x_ifT (by kernel_rfl) (x_ret (e_ret (e_tup rfl)))))) rfl
theorem oth_comp {O : Orc} {S : PS} {p q r s t u v w x : Pos} {me size : Nat} {sc} (hs : size ≤ 60000) (h4 : look 4 S.loc = some (.fz (nD size))) (hx : isObj 18 S.loc = false) (hp : ∀ j, look 3 (put 18 (.fz (nD j)) S.loc) = some (.fz (nD me)) ∧ look 18 (put 18 (.fz (nD j)) S.loc) = some (.fz (nD j))) :
    ev O (.comp (.var 18 p) (.one 18 q) (.rng (.cons (.var 4 r) .nil) s t) (.some (.v (.cmp .ne (.v (.var 18 u)) (.v (.var 3 v)) w))) sc x) S = some (.list ((othN me size).map nD)) := by
  refine e_comp (s_rng (ds := [nD size]) (es_cons (show fzOf (look 4 S.loc) = _ by rw [h4]; rfl) rfl) rfl (rng_n hs)) (compL_map nD (fun j => !decide (j = me)) nD fun j _ => ?_) ?_
  · show ((gd (!isObj 18 S.loc) (put 18 (.fz (nD j)) S.loc)).bind _) = _
    rw [hx]
    show ((((fzOf (look 18 (put 18 (.fz (nD j)) S.loc))).bind fun x => (fzOf (look 3 (put 18 (.fz (nD j)) S.loc))).bind fun y => (doCm .ne x y).map PyData.bool).bind truth).bind fun c => if c then (fzOf (look 18 (put 18 (.fz (nD j)) S.loc))).map some else some none) = _
    rw [(hp j).1, (hp j).2]
    show ((doCm .ne (nD j) (nD me)).map PyData.bool |>.bind truth).bind (fun c => if c then (some (some (nD j))) else some none) = _
    rw [c_ne]; cases decide (j = me) <;> rfl
  · rw [List.length_map]
    have := oth_len me size
    show (othN me size).length ≤ big; unfold big; lia
end
end Mine
end
section
set_option maxRecDepth 100000
set_option backward.match.sparseCases false
namespace Mine
open PySem
theorem compL_all {α : Type} (e : α → D) (g : α → D) {f : D → Option (Option D)} {l : List α} (h : ∀ x ∈ l, f (e x) = some (some (g x))) : compL f (l.map e) = some (l.map g) := by
  rw [compL_map e (fun _ => true) g (fun x hx => (h x hx).trans rfl), List.filter_eq_self.mpr fun _ _ => rfl]
theorem comp_step {O : Orc} {tg : Tx} {S : PS} {d : D} {l : Al} {cond : Cx} {elt : Ex} {y : D} (h1 : bindT tg d S.loc = some l) (h2 : evC O cond ⟨l, S.ob⟩ = some true) (h3 : ev O elt ⟨l, S.ob⟩ = some y) :
    ((bindT tg d S.loc).bind fun l => (evC O cond { S with loc := l }).bind fun c => if c then (ev O elt { S with loc := l }).map some else some none) = some (some y) := by
  rw [h1, Option.bind_some]; show (evC O cond ⟨l, S.ob⟩).bind (fun c => if c then (ev O elt ⟨l, S.ob⟩).map some else some none) = _; rw [h2, h3]; rfl
theorem comp_stepC {O : Orc} {tg : Tx} {S : PS} {d : D} {l : Al} {cond : Cx} {elt : Ex} {y : D} {c : Bool} (h1 : bindT tg d S.loc = some l) (h2 : evC O cond ⟨l, S.ob⟩ = some c) (h3 : ev O elt ⟨l, S.ob⟩ = some y) :
    ((bindT tg d S.loc).bind fun l => (evC O cond { S with loc := l }).bind fun c => if c then (ev O elt { S with loc := l }).map some else some none) = some (if c then some y else none) := by
  rw [h1, Option.bind_some]; show (evC O cond ⟨l, S.ob⟩).bind (fun c => if c then (ev O elt ⟨l, S.ob⟩).map some else some none) = _; rw [h2, h3]; cases c <;> rfl
theorem can_len (n : Nd) (vs : List Nat) : (canN n vs).2.length ≤ n.size := by
  unfold canN
  by_cases h : n.size < 2 * vs.length
  · rw [if_pos h]; show (appsN _ _ _).length ≤ _; rw [appsN, List.length_map]; exact oth_len ..
  · rw [if_neg h]; exact Nat.zero_le _
theorem can_eq (n : Nd) (vs : List Nat) : { n with rl := (canN n vs).1.rl } = (canN n vs).1 := by
  unfold canN
  by_cases h : n.size < 2 * vs.length
  · rw [if_pos h]; rfl
  · rw [if_neg h]
theorem tup_can1 (n : Nd) : tupN (canN n [n.me]).1 = (canN n [n.me]).1 := by
  unfold canN
  by_cases h : n.size < 2 * [n.me].length
  · rw [if_pos h]; rfl
  · rw [if_neg h]; rfl
theorem step_time {n : Nd} (h : isLed n.rl = false) : stepN n .timeout = ((canN (startN n) [n.me]).1, asksN (startN n) ++ (canN (startN n) [n.me]).2) := by
  have e : timeN n = ((canN (startN n) [n.me]).1, asksN (startN n) ++ (canN (startN n) [n.me]).2) := by
    unfold timeN; cases hr : n.rl with
    | led ps => rw [hr] at h; cases h
    | fol => rfl
    | can vs => rfl
  unfold stepN handN
  rw [e]
  exact congrArg (fun m => (m, _)) (tup_can1 (startN n))
noncomputable def tl (a : Act) (n : Nd) : Al := nl (ndD n) (actD a) 72 n ++ [(17, .fz (.list ((othN n.me n.size).map nD)))]
theorem tell_pre {n : Nd} {a : Act} {k : D} {r : List D} (ha : actD a = .tuple (k :: r)) (hk : doCm .eq k (.str (Str.ofString "crash")) = some false) (hs : n.size ≤ 16) {d : D} {S : PS}
    (h : exs O20 (sDrop 3 ir_law_tell) ⟨tl a n, []⟩ = some (.ret d, S)) : F_law_tell [ndD n, actD a] = some d :=
  r_fn (l := [(45, .fz (ndD n)), (72, .fz (actD a))]) (f := .ret d) (S := S) rfl (x_next (S1 := ⟨nl (ndD n) (actD a) 72 n, []⟩) (x_unp rfl rfl rfl) (x_next (S1 := ⟨nl (ndD n) (actD a) 72 n, []⟩) (x_ifF (t_cmp (x := k) (q_v (e_idx (x := actD a) (y := .int 0) rfl rfl (by rw [ha]; rfl))) rfl hk) rfl) (x_next (S1 := ⟨tl a n, []⟩) (x_asg (oth_comp (Nat.le_trans hs (by decide)) rfl rfl fun j => ⟨rfl, rfl⟩) rfl) h))) rfl
theorem tell_time {n : Nd} {k : Nat} (hm : n.me < n.size) (hs : n.size ≤ 16) (hl : n.log.length ≤ 30000) : F_law_tell [ndD n, actD (.timeout k)] = some (stD (stepN n .timeout)) := by
  have hrest : isLed n.rl = false → F_law_tell [ndD n, actD (.timeout k)] = some (stD ((canN (startN n) [n.me]).1, asksN (startN n) ++ (canN (startN n) [n.me]).2)) := by
    intro hr
    have hw := won_ok (startN n) [n.me] hm hs (show n.log.length ≤ 60000 by (exact Nat.le_trans (by assumption) (by decide)))
    rw [← can_eq (startN n) [n.me]]
    refine tell_pre (S := ⟨_, []⟩) rfl (by decide +kernel) hs (x_ret (x_ifT (by kernel_rfl) (x_next (x_ifF (t_cmp rfl rfl ((c_led _).trans (congrArg some hr))) rfl)
      (x_next (S1 := ⟨tl (.timeout k) n ++ [(14, .fz (nnD (lastN n.log)))], []⟩) (x_asg (e_call (F := F_law_entry) rfl (es_cons rfl (es_cons (e_b1 rfl len_l) rfl)) (entry_ok (Nat.le_refl _))) rfl) (x_next (S1 := ⟨tl (.timeout k) n ++ [(14, .fz (nnD (lastN n.log))), (73, .fz (.list ((asksN (startN n)).map msD)))], []⟩) (x_asg (d := .list ((asksN (startN n)).map msD)) ?_ rfl) (x_next (x_unp (d := wonD (canN (startN n) [n.me])) (e_call (F := F_law_won) rfl (es_cons rfl (es_cons rfl (es_cons (e_bin rfl rfl b_add1) rfl))) hw) rfl rfl)
        (x_ret (e_ret (e_tup (es_cons (e_tup (es_cons rfl (es_cons rfl (es_cons rfl (es_cons (e_bin rfl rfl b_add1) rfl))))) (es_cons (e_bin rfl rfl (b_addl ?_)) rfl)))))))))))
    · rw [asksN, List.map_map]
      refine e_comp (s_seq rfl rfl) (compL_all nD (msD ∘ fun j => .ask (startN n).term (startN n).me j (lastN (startN n).log)) fun j _ => ?_) ?_
      · exact comp_step rfl rfl (e_tup (es_cons rfl (es_cons (e_bin rfl rfl b_add1) (es_cons rfl (es_cons rfl rfl)))))
      · rw [List.length_map]
        have := oth_len n.me n.size
        show (othN n.me n.size).length ≤ big; unfold big; lia
    · rw [asksN, List.length_map]
      have h1 := oth_len n.me n.size
      have h2 := can_len (startN n) [n.me]
      show (othN n.me n.size).length + _ ≤ big
      have : (startN n).size = n.size := rfl
      unfold big; lia
  obtain ⟨me, size, term, voted, log, commit, rl⟩ := n
  cases rl with
  | led ps => exact tell_pre (S := ⟨_, []⟩) rfl (by decide +kernel) hs (x_ret (x_ifT (by kernel_rfl) (x_ret (x_ifT (t_cmp rfl rfl (c_led _)) (x_ret (e_ret (e_tup rfl)))))))
  | fol => rw [hrest rfl, step_time rfl]
  | can vs => rw [hrest rfl, step_time rfl]
theorem cut_a {α : Type} {l : List α} {i : Nat} {x : α} (h : l.length ≤ 60000) : (l.take i).length + [x].length ≤ big := by
  rw [List.length_take, List.length_cons, List.length_nil]; unfold big; lia
theorem cut_b {α : Type} {l : List α} {i : Nat} {x : α} (h : l.length ≤ 60000) : (l.take i ++ [x]).length + (l.drop (i + 1)).length ≤ big := by
  rw [List.length_append, List.length_take, List.length_drop, List.length_cons, List.length_nil]; unfold big; lia
theorem set_slices {α : Type} {x : α} : ∀ {l : List α} {i : Nat}, i < l.length → l.take i ++ [x] ++ l.drop (i + 1) = l.set i x := by
  intro l0
  induction l0 with
  | nil =>
    intro _ h
    exact absurd h (Nat.not_lt_zero _)
  | cons y r ih =>
    intro l1
    cases l1 with
    | zero =>
      intro _
      exact rfl
    | succ i =>
      intro h
      exact (by
    rw [List.take_succ_cons, List.drop_succ_cons, List.set_cons_succ, ← ih (Nat.lt_of_succ_lt_succ h)]; rfl)
theorem step_not {n : Nd} {e : Evt} (h : handN n e = (n, [])) (ht : tupN n = n) : stepN n e = (n, []) := by unfold stepN; rw [h]; exact congrArg (fun m => (m, _)) ht
theorem tell_end {n : Nd} {a : Act} {ps : List (Nat × Nat)} {o : D} (hr : n.rl = .led ps) (hs : n.size ≤ 16) (hlen : ps.length = n.size) (hp : ∀ p ∈ ps, p.1 ≤ n.log.length) (hl : n.log.length ≤ 60000) :
    ∃ S, exs O20 (sDrop 6 ir_law_tell) ⟨[(45, .fz o), (72, .fz (actD a)), (3, .fz (nD n.me)), (4, .fz (nD n.size)), (5, .fz (roleD n.rl)), (6, .fz (nD n.term)), (7, .fz (votD n.voted)), (8, .fz (.list (n.log.map entD))), (9, .fz (nD n.commit)), (10, .fz (.list (ps.map psD))), (17, .fz (.list ((othN n.me n.size).map nD)))], []⟩ = some (.ret (stD (n, appsN n ps (othN n.me n.size))), S) := by
  have e1 := appends_ok n ps (othN n.me n.size) (fun j hj => ⟨by rw [hlen]; exact (oth_lt hj).1, by
    unfold prevAt
    cases h : ps[j]? with
    | none => exact Nat.zero_le _
    | some p => exact hp p (List.mem_of_getElem? h)⟩) hl (Nat.le_trans (oth_len ..) (by (exact Nat.le_trans (by assumption) (by decide))))
  obtain ⟨me, size, term, voted, log, commit, rl⟩ := n
  cases hr
  exact ⟨_, x_next (x_asg (e_call (F := F_law_appends) rfl rfl e1) rfl) (x_ret (e_ret (e_tup (es_cons (e_tup rfl) rfl))))⟩
theorem tell_beat {n : Nd} {k : Nat} (ht : tupN n = n) (hs : n.size ≤ 16) (hl : n.log.length ≤ 30000) (hp : ∀ ps, n.rl = .led ps → ps.length = n.size ∧ ∀ p ∈ ps, p.1 ≤ n.log.length) : F_law_tell [ndD n, actD (.beat k)] = some (stD (stepN n .beat)) := by
  have no : isLed n.rl = false → F_law_tell [ndD n, actD (.beat k)] = some (stD (n, [])) := fun hr =>
    tell_pre (S := ⟨_, []⟩) rfl (by decide +kernel) hs (x_next (x_ifF (by kernel_rfl) rfl) (x_ret (x_ifT (t_cmp rfl rfl ((c_nled _).trans (by rw [hr]; rfl))) (x_ret (e_ret (e_tup rfl))))))
  cases hr : n.rl with
  | fol => rw [no (by rw [hr]; rfl), step_not (e := .beat) (show beatN n = (n, []) by unfold beatN; rw [hr]) ht]
  | can vs => rw [no (by rw [hr]; rfl), step_not (e := .beat) (show beatN n = (n, []) by unfold beatN; rw [hr]) ht]
  | led ps =>
    have e : stepN n .beat = (n, appsN n ps (othN n.me n.size)) := by
      unfold stepN; rw [show handN n .beat = (n, appsN n ps (othN n.me n.size)) by show beatN n = _; unfold beatN; rw [hr]]
      exact congrArg (fun m => (m, _)) ht
    rw [e]
    obtain ⟨S, h⟩ := tell_end (n := n) (a := .beat k) (o := ndD n) hr hs (hp ps hr).1 (hp ps hr).2 (by (exact Nat.le_trans (by assumption) (by decide)))
    refine tell_pre (S := S) rfl (by decide +kernel) hs (x_next (x_ifF (by kernel_rfl) rfl) (x_next (x_ifF (t_cmp rfl rfl ((c_nled _).trans (by rw [hr]; rfl))) rfl) (x_next (x_ifF (by kernel_rfl) rfl) ?_)))
    refine Eq.trans ?_ h
    unfold tl nl
    rw [hr]; rfl
theorem tell_prop {n : Nd} {k : Nat} {c : Int} (ht : tupN n = n) (hm : n.me < n.size) (hs : n.size ≤ 16) (hl : n.log.length < 30000) (hp : ∀ ps, n.rl = .led ps → ps.length = n.size ∧ ∀ p ∈ ps, p.1 ≤ n.log.length) : F_law_tell [ndD n, actD (.propose k c)] = some (stD (stepN n (.propose c))) := by
  have no : isLed n.rl = false → F_law_tell [ndD n, actD (.propose k c)] = some (stD (n, [])) := fun hr =>
    tell_pre (S := ⟨_, []⟩) rfl (by decide +kernel) hs (x_next (x_ifF (by kernel_rfl) rfl) (x_ret (x_ifT (t_cmp rfl rfl ((c_nled _).trans (by rw [hr]; rfl))) (x_ret (e_ret (e_tup rfl))))))
  cases hr : n.rl with
  | fol => rw [no (by rw [hr]; rfl), step_not (e := .propose c) (show propN n c = (n, []) by unfold propN; rw [hr]) ht]
  | can vs => rw [no (by rw [hr]; rfl), step_not (e := .propose c) (show propN n c = (n, []) by unfold propN; rw [hr]) ht]
  | led ps =>
    have hq := hp ps hr
    have hlen : (moreN n ps c).log.length = n.log.length + 1 := by show (n.log ++ [_]).length = _; rw [List.length_append]; rfl
    have hpl : (propPs n ps).length = n.size := by rw [propPs, List.length_set]; exact hq.1
    have hme : n.me < ps.length := by rw [hq.1]; exact hm
    obtain ⟨⟨p, m⟩, he⟩ : ∃ q, ps[n.me]? = some q := ⟨_, List.getElem?_eq_getElem hme⟩
    have ep : prevAt ps n.me = p := by unfold prevAt; rw [he]
    have hpp : ∀ q ∈ propPs n ps, q.1 ≤ n.log.length + 1 := fun q h => by
      rw [propPs] at h
      rcases List.mem_or_eq_of_mem_set h with h | h
      · exact Nat.le_succ_of_le (hq.2 q h)
      · rw [h]; show prevAt ps n.me ≤ _; rw [ep]; exact Nat.le_succ_of_le (hq.2 _ (List.mem_of_getElem? he))
    have e : stepN n (.propose c) = ({ moreN n ps c with commit := lookN (moreN n ps c) (propPs n ps) }, appsN { moreN n ps c with commit := lookN (moreN n ps c) (propPs n ps) } (propPs n ps) (othN n.me n.size)) := by
      unfold stepN; rw [show handN n (.propose c) = ({ moreN n ps c with commit := lookN (moreN n ps c) (propPs n ps) }, appsN { moreN n ps c with commit := lookN (moreN n ps c) (propPs n ps) } (propPs n ps) (othN n.me n.size)) by show propN n c = _; unfold propN; rw [hr]; rfl]
      rfl
    rw [e]
    have e1 := reached_ok (moreN n ps c) (propPs n ps) hpl (by lia) (by lia)
    obtain ⟨S, h⟩ := tell_end (n := { moreN n ps c with commit := lookN (moreN n ps c) (propPs n ps) }) (a := .propose k c) (o := ndD n) (ps := propPs n ps) rfl hs hpl (fun q h => by show q.1 ≤ (moreN n ps c).log.length; rw [hlen]; exact hpp q h) (by show (moreN n ps c).log.length ≤ 60000; lia)
    obtain ⟨me, size, term, voted, log, commit, rl⟩ := n
    cases hr
    have hl : log.length < 30000 := hl
    have hs : size ≤ 16 := hs
    have hml : me < ps.length := hme
    have hps : ps.length = size := hq.1
    have hcl : ps.length ≤ 60000 := by lia
    have el : (log ++ [(term, c)]).length = log.length + 1 := hlen
    exact tell_pre (S := S) rfl (by decide +kernel) hs (x_next (x_ifF (by kernel_rfl) rfl) (x_next (x_ifF (t_cmp rfl rfl (c_nled _)) rfl) (x_next (x_ifT (by kernel_rfl)
      (x_next (x_asg (d := .list ((log ++ [(term, c)]).map entD)) (e_bin rfl (y := .list ([(term, c)].map entD)) rfl (b_addl (by rw [List.length_cons, List.length_nil]; unfold big; (exact Nat.le_trans (by assumption) (by decide))))) rfl) (x_next (x_asg (d := .list ((propPs ⟨me, size, term, voted, log, commit, .led ps⟩ ps).map psD)) (by
        have ex : propPs ⟨me, size, term, voted, log, commit, .led ps⟩ ps = ps.take me ++ [(p, log.length + 1)] ++ ps.drop (me + 1) := by
          rw [set_slices hml]; show ps.set me (prevAt ps me, log.length + 1) = _; rw [show prevAt ps me = p from ep]
        rw [ex]
        exact e_bin (x := .list ((ps.take me ++ [(p, log.length + 1)]).map psD)) (q_v (e_bin (q_v (e_slc rfl rfl (o_some rfl) (slc_to (by lia)))) (y := .list ([(p, log.length + 1)].map psD)) (q_v (e_lst (es_cons (e_tup (es_cons (e_idx (x := psD (p, m)) (q_v (e_idx rfl rfl (idx_l (f := psD) he))) rfl rfl) (es_cons (e_b1 rfl (len_l.trans (by rw [el]))) rfl))) rfl))) (b_addl (cut_a hcl)))) (q_v (e_slc rfl (o_some (e_bin rfl rfl b_add1)) rfl (slc_from (by lia)))) (b_addl (cut_b hcl))) rfl)
      (x_next (x_asg (e_call (F := F_law_reached) rfl rfl e1) rfl) rfl)))) h)))
noncomputable def hl (m : Ms) (k : D) (t f : Nat) (n n' : Nd) (o : D) : Al := nl (ndD n) (msD m) 82 n' ++ [(33, .fz k), (81, .fz (nD t)), (34, .fz (nD f)), (11, .fz o), (83, .fz (.bool (decide (t = n'.term))))]
theorem hear_pre {n : Nd} {m : Ms} {k : D} {t f : Nat} {r : List D} (hm : msD m = .tuple (k :: nD t :: nD f :: r)) {n2 : Nd} {ms : List Ms} {z : Al}
    (h : ex O22 (sNth 5 ir_law_hear) ⟨hl m k t f n (upN n t) (.list []), []⟩ = some (.next, ⟨nl (ndD n) (msD m) 82 n2 ++ [(33, .fz k), (81, .fz (nD t)), (34, .fz (nD f)), (11, .fz (.list (ms.map msD)))] ++ z, []⟩)) :
    F_law_hear [ndD n, msD m] = some (stD (n2, ms)) := by
  have a1 : ex O22 (sNth 1 ir_law_hear) ⟨nl (ndD n) (msD m) 82 n, []⟩ = some (.next, ⟨nl (ndD n) (msD m) 82 n ++ [(33, .fz k), (81, .fz (nD t)), (34, .fz (nD f))], []⟩) :=
    x_asgT (ds := [k, nD t, nD f]) (es_cons (e_idx (x := msD m) (y := .int 0) rfl rfl (by rw [hm]; rfl)) (es_cons (e_idx (x := msD m) (y := .int 1) rfl rfl (by rw [hm]; rfl)) (es_cons (e_idx (x := msD m) (y := .int 2) rfl rfl (by rw [hm]; rfl)) rfl))) rfl rfl rfl
  have a2 : ex O22 (sNth 3 ir_law_hear) ⟨nl (ndD n) (msD m) 82 n ++ [(33, .fz k), (81, .fz (nD t)), (34, .fz (nD f)), (11, .fz (.list []))], []⟩ = some (.next, ⟨nl (ndD n) (msD m) 82 (upN n t) ++ [(33, .fz k), (81, .fz (nD t)), (34, .fz (nD f)), (11, .fz (.list []))], []⟩) := by
    unfold upN
    by_cases hu : n.term < t
    · rw [if_pos hu]; exact x_ifT (t_cmp rfl rfl (c_gt.trans (congrArg some (decide_eq_true hu)))) (x_next (x_asgT rfl rfl rfl rfl) rfl)
    · rw [if_neg hu]; exact x_ifF (t_cmp rfl rfl (c_gt.trans (congrArg some (decide_eq_false hu)))) rfl
  exact r_fn (l := [(45, .fz (ndD n)), (82, .fz (msD m))]) (f := .ret (stD (n2, ms))) rfl (x_next (S1 := ⟨nl (ndD n) (msD m) 82 n, []⟩) (x_unp rfl rfl rfl) (x_next a1 (x_next rfl (x_next a2 (x_next (S1 := ⟨hl m k t f n (upN n t) (.list []), []⟩) (x_asg (e_cmp rfl rfl c_eq) rfl) (x_next h (x_ret (e_ret (e_tup (es_cons (e_tup rfl) rfl)))))))))) rfl
theorem c_veq {v : Option Nat} {f : Nat} : doCm .eq (votD v) (nD f) = some (decide (v = some f)) := by
  cases v with
  | none => rfl
  | some i =>
    show some (PyData.eqv (nD i) (nD f)) = _
    rw [eqv_n]
    congr 1; exact decide_eq_decide.mpr ⟨fun h => h ▸ rfl, fun h => Option.some.inj h⟩
theorem e_isNone {O : Orc} {S : PS} {e : Ex} {p q : Pos} {v : Option Nat} (h : ev O e S = some (votD v)) : ev O (.isNone e p q) S = some (.bool (decide (v = none))) := by
  show (ev O e S).map _ = _; rw [h]; cases v <;> rfl
theorem evAny_nil {O : Orc} {S : PS} : evAny O .nil S = some false := rfl
theorem c_some {O : Orc} {S : PS} {t : Te} {X} (h : evT O t S = X) : evC O (.some t) S = X := h
theorem tup_up {n : Nd} (ht : tupN n = n) (t : Nat) : tupN (upN n t) = upN n t := by
  unfold upN
  by_cases hu : n.term < t
  · rw [if_pos hu]; rfl
  · rw [if_neg hu]; exact ht
theorem tup_rl {n : Nd} (ht : tupN n = n) : tupRl n.rl = n.rl := congrArg Nd.rl ht
theorem hear_ask {n : Nd} {t f j : Nat} {l : Nat × Nat} (ht : tupN n = n) : F_law_hear [ndD n, msD (.ask t f j l)] = some (stD (stepN n (.msg (.ask t f j l)))) := by
  have e : stepN n (.msg (.ask t f j l)) = askN (upN n t) t f l := by
    have := tup_rl (tup_up ht t)
    show (tupN (askN (upN n t) t f l).1, _) = _
    unfold tupN askN; simp only [this]; rfl
  rw [e]
  refine hear_pre (z := [(83, .fz (.bool (decide (t = (upN n t).term)))), (84, .fz (.bool (askOk (upN n t) t f l)))]) rfl ?_
  generalize upN n t = n'
  refine x_ifT (by kernel_rfl) (x_next rfl (x_next (S1 := ⟨nl (ndD n) (msD (.ask t f j l)) 82 (askN n' t f l).1 ++ [(33, .fz (sD "ask")), (81, .fz (nD t)), (34, .fz (nD f)), (11, .fz (.list []))] ++ [(83, .fz (.bool (decide (t = n'.term)))), (84, .fz (.bool (askOk n' t f l)))], []⟩) ?_ (x_next (x_asg rfl rfl) rfl)))
  have hc : ∀ S : PS, S = ⟨hl (.ask t f j l) (sD "ask") t f n n' (.list []) ++ [(84, .fz (.bool false))], []⟩ → evT O22 (testS (sNth 1 (thenS (sNth 5 ir_law_hear)))) S = some (askOk n' t f l) := by
    rintro S rfl
    have e : askOk n' t f l = (decide (t = n'.term) && ((decide (n'.voted = none) || (decide (n'.voted = some f) || false)) && (geP l (lastN n'.log) && true))) := by rw [Bool.or_false, Bool.and_true]; rfl
    rw [e]
    exact t_all (al_c (t_v rfl rfl) (al_c (t_any (an_c (t_v (e_isNone rfl) rfl) (an_c (t_cmp rfl rfl c_veq) evAny_nil))) (al_c (t_cmp (q_v (e_idx rfl rfl rfl)) (q_v (e_call (F := F_law_entry) rfl (es_cons rfl (es_cons (e_b1 rfl len_l) rfl)) (entry_ok (Nat.le_refl _)))) c_ge2) evAll_nil)))
  cases hk : askOk n' t f l
  · refine x_ifF ((hc _ rfl).trans (congrArg some hk)) ?_
    unfold askN; rw [hk]; rfl
  · refine x_ifT ((hc _ rfl).trans (congrArg some hk)) ?_
    unfold askN; rw [hk]; rfl
noncomputable def subs : Nat → List (List Nat)
  | 0 => [[]]
  | n + 1 => subs n ++ (subs n).map (· ++ [n])
noncomputable def votesN (size f : Nat) (vs : List Nat) : List Nat := (List.range size).filter fun v => decide (v = f) || decide (v ∈ vs)
theorem subs_all : ∀ size ∈ [0, 1, 2, 3, 4, 5], ∀ vs ∈ subs size, sortN vs = vs ∧ vs.length ≤ 5 ∧ ∀ f ∈ List.range size, sortN (addV f vs) = votesN size f vs ∧ (addV f vs).length = (votesN size f vs).length ∧ votesN size f vs ∈ subs size := by decide +kernel
theorem subs_me : ∀ size ∈ [0, 1, 2, 3, 4, 5], ∀ f ∈ List.range size, [f] ∈ subs size := by decide +kernel
theorem c_isin {f : Nat} {vs : List Nat} : doCm .isin (nD f) (.list (vs.map nD)) = some (decide (f ∈ vs)) := by
  show some ((vs.map nD).any fun y => PyData.eqv y (nD f)) = _; rw [any_n]
theorem hear_vote {n : Nd} {t f j : Nat} {ok : Bool} (ht : tupN n = n) (hm : n.me < n.size) (hs : n.size ∈ [0, 1, 2, 3, 4, 5]) (hl' : n.log.length ≤ 30000) (hf : f < n.size) (hv : ∀ vs, n.rl = .can vs → vs ∈ subs n.size) :
    F_law_hear [ndD n, msD (.vote t f j ok)] = some (stD (stepN n (.msg (.vote t f j ok)))) := by
  have hu : (upN n t).me < (upN n t).size ∧ (upN n t).size ∈ [0, 1, 2, 3, 4, 5] ∧ (upN n t).log.length ≤ 30000 ∧ f < (upN n t).size ∧ (∀ vs, (upN n t).rl = .can vs → vs ∈ subs (upN n t).size) := by
    unfold upN
    by_cases hu : n.term < t
    · rw [if_pos hu]; exact ⟨hm, hs, hl', hf, fun _ e => Rl.noConfusion e⟩
    · rw [if_neg hu]; exact ⟨hm, hs, hl', hf, hv⟩
  have htu := tup_rl (tup_up ht t)
  show _ = some (stD (tupN (voteN (upN n t) t f ok).1, (voteN (upN n t) t f ok).2))
  suffices ∀ n' : Nd, n' = upN n t → ∃ n2 ms z, stD (tupN (voteN n' t f ok).1, (voteN n' t f ok).2) = stD (n2, ms) ∧ ex O22 (sNth 5 ir_law_hear) ⟨hl (.vote t f j ok) (sD "vote") t f n n' (.list []), []⟩ = some (.next, ⟨nl (ndD n) (msD (.vote t f j ok)) 82 n2 ++ [(33, .fz (sD "vote")), (81, .fz (nD t)), (34, .fz (nD f)), (11, .fz (.list (ms.map msD)))] ++ z, []⟩) by
    obtain ⟨n2, ms, z, h1, h2⟩ := this _ rfl
    rw [h1]; exact hear_pre rfl h2
  intro n' hn'
  rw [← hn'] at hu htu
  clear hn'
  obtain ⟨hm', hs', hl1, hf', hv'⟩ := hu
  have no : voteN n' t f ok = (n', []) → ∃ n2 ms, stD (tupN (voteN n' t f ok).1, (voteN n' t f ok).2) = stD (n2, ms) ∧ n2 = n' ∧ ms = [] := fun h => ⟨n', [], by rw [h]; show stD (tupN n', []) = _; rw [show tupN n' = n' by unfold tupN; rw [htu]], rfl, rfl⟩
  have hc : evT O22 (testS (sNth 0 (thenS (sNth 0 (elseS (sNth 5 ir_law_hear)))))) ⟨hl (.vote t f j ok) (sD "vote") t f n n' (.list []), []⟩ = some (ok && (decide (t = n'.term) && (isCan n'.rl && true))) :=
    t_all (al_c (t_v (e_idx rfl rfl rfl) rfl) (al_c (t_v rfl rfl) (al_c (t_cmp rfl rfl (c_can _)) evAll_nil)))
  rw [Bool.and_true, ← Bool.and_assoc] at hc
  cases hok : ok && decide (t = n'.term) && isCan n'.rl with
  | false =>
    rw [hok] at hc
    obtain ⟨n2, ms, h1, rfl, rfl⟩ := no (by
      unfold voteN
      cases hr : n'.rl with
      | can vs =>
        refine if_neg fun h => ?_
        rw [hr, h.1, decide_eq_true h.2] at hok; cases hok
      | _ => rfl)
    exact ⟨n2, [], [(83, .fz (.bool (decide (t = n2.term))))], h1, x_ifF (by kernel_rfl) (x_next (x_ifT (by kernel_rfl) (x_next (x_ifF hc rfl) rfl)) rfl)⟩
  | true =>
    rw [hok] at hc
    cases hr : n'.rl with
    | fol => rw [hr] at hok; simp only [isCan, Bool.and_false] at hok; cases hok
    | led ps => rw [hr] at hok; simp only [isCan, Bool.and_false] at hok; cases hok
    | can vs =>
      have h2 : ok = true ∧ t = n'.term := by
        have := (Bool.and_eq_true_iff.mp hok).1
        exact ⟨(Bool.and_eq_true_iff.mp this).1, of_decide_eq_true (Bool.and_eq_true_iff.mp this).2⟩
      have hsub := subs_all n'.size hs' vs (hv' vs hr)
      have hq := hsub.2.2 f (List.mem_range.mpr hf')
      have hsz : n'.size ≤ 5 := by
        have : ∀ x ∈ [0, 1, 2, 3, 4, 5], x ≤ 5 := by decide
        exact this _ hs'
      have ev1 : voteN n' t f ok = canN n' (addV f vs) := by unfold voteN; rw [hr]; exact if_pos h2
      have ev2 : (tupN (canN n' (addV f vs)).1, (canN n' (addV f vs)).2) = canN n' (votesN n'.size f vs) := by
        unfold canN
        rw [← hq.2.1]
        by_cases hb : n'.size < 2 * (addV f vs).length
        · rw [if_pos hb, if_pos hb]; rfl
        · rw [if_neg hb, if_neg hb]; show (({ n' with rl := .can (sortN (addV f vs)) } : Nd), _) = _; rw [hq.1]
      have hw := won_ok n' (votesN n'.size f vs) hm' (by (exact Nat.le_trans (by assumption) (by decide))) (by (exact Nat.le_trans (by assumption) (by decide)))
      have hcv : ev O22 (match sNth 0 (thenS (sNth 0 (thenS (sNth 0 (elseS (sNth 5 ir_law_hear)))))) with | .asg _ _ e _ _ => e | _ => .lit .none ⟨0, 0, 0, 0⟩) ⟨hl (.vote t f j ok) (sD "vote") t f n n' (.list []), []⟩ = some (.list ((votesN n'.size f vs).map nD)) := by
        refine e_comp (s_rng rfl rfl (rng_n (by (exact Nat.le_trans (by assumption) (by decide))))) (compL_map nD (fun v => decide (v = f) || decide (v ∈ vs)) nD fun v _ => ?_) ?_
        · have e : (decide (v = f) || decide (v ∈ vs)) = (decide (v = f) || (decide (v ∈ vs) || false)) := by rw [Bool.or_false]
          show _ = some (if (decide (v = f) || decide (v ∈ vs)) = true then some (nD v) else none)
          rw [e]
          exact comp_stepC rfl (c_some (t_any (an_c (t_cmp rfl rfl c_eq) (an_c (t_cmp rfl (y := .list (vs.map nD)) (by show some (PyData.list (exD n'.rl)) = _; rw [hr]; rfl) c_isin) evAny_nil)))) rfl
        · rw [List.length_map]
          have := List.length_filter_le (fun v => decide (v = f) || decide (v ∈ vs)) (List.range n'.size)
          rw [List.length_range] at this; unfold votesN big; lia
      refine ⟨{ n' with rl := (canN n' (votesN n'.size f vs)).1.rl }, (canN n' (votesN n'.size f vs)).2, [(83, .fz (.bool (decide (t = n'.term)))), (68, .fz (.list ((votesN n'.size f vs).map nD)))], ?_, x_ifF (by kernel_rfl) (x_next (x_ifT (by kernel_rfl) (x_next (x_ifT hc (x_next (x_asg hcv rfl) (x_next (x_unp (d := wonD (canN n' (votesN n'.size f vs))) (e_call (F := F_law_won) rfl rfl hw) rfl rfl) rfl))) rfl)) rfl)⟩
      rw [can_eq, ev1, ev2]
theorem take_app {n : Nd} {p : Nat × Nat} (hp : p.2 = 0 → p.1 = 0) : takeOk n.log p = appOk n p := by
  obtain ⟨a, b⟩ := p
  unfold takeOk appOk
  by_cases hb : b = 0
  · subst hb
    have : a = 0 := hp rfl
    subst this; rfl
  · show (decide (b ≤ n.log.length) && decide ((tmAt n.log b, b) = (a, b))) = (decide (b = 0) || (decide (b ≤ n.log.length) && decide (tmAt n.log b = a)))
    rw [decide_eq_false hb, Bool.false_or]
    congr 1
    exact decide_eq_decide.mpr ⟨fun h => congrArg Prod.fst h, fun h => by rw [h]⟩
theorem tup_of {n : Nd} (h : tupRl n.rl = n.rl) : tupN n = n := by unfold tupN; rw [h]
theorem hear_app {n : Nd} {t f j c : Nat} {p : Nat × Nat} {es : List Ent} (ht : tupN n = n) (hp : p.2 = 0 → p.1 = 0) (hl' : n.log.length ≤ 30000) (he : es.length ≤ 30000) :
    F_law_hear [ndD n, msD (.app t f j p es c)] = some (stD (stepN n (.msg (.app t f j p es c)))) := by
  have hl2 : (upN n t).log.length ≤ 30000 := by unfold upN; by_cases hu : n.term < t <;> simp only [hu, if_true, if_false] <;> exact hl'
  have htu := tup_up ht t
  show _ = some (stD (tupN (appN (upN n t) t f p es c).1, (appN (upN n t) t f p es c).2))
  suffices ∀ n' : Nd, tupN n' = n' → n'.log.length ≤ 30000 → ∃ z, ex O22 (sNth 5 ir_law_hear) ⟨hl (.app t f j p es c) (sD "append") t f n n' (.list []), []⟩ = some (.next, ⟨nl (ndD n) (msD (.app t f j p es c)) 82 (tupN (appN n' t f p es c).1) ++ [(33, .fz (sD "append")), (81, .fz (nD t)), (34, .fz (nD f)), (11, .fz (.list ((appN n' t f p es c).2.map msD)))] ++ z, []⟩) by
    obtain ⟨z, h⟩ := this _ htu hl2
    exact hear_pre rfl h
  intro n' ht' hl3
  suffices h : ∃ z, exs O22 (thenS (sNth 0 (elseS (sNth 0 (elseS (sNth 5 ir_law_hear)))))) ⟨hl (.app t f j p es c) (sD "append") t f n n' (.list []), []⟩ = some (.next, ⟨nl (ndD n) (msD (.app t f j p es c)) 82 (tupN (appN n' t f p es c).1) ++ [(33, .fz (sD "append")), (81, .fz (nD t)), (34, .fz (nD f)), (11, .fz (.list ((appN n' t f p es c).2.map msD)))] ++ z, []⟩) by
    obtain ⟨z, h⟩ := h
    exact ⟨z, x_ifF (by kernel_rfl) (x_next (x_ifF (by kernel_rfl) (x_next (x_ifT (by kernel_rfl) h) rfl)) rfl)⟩
  by_cases hn : t = n'.term
  · have hd : (decide (t = n'.term)) = true := decide_eq_true hn
    have e1 := take_ok n'.log n'.commit p es c hl3 he
    have e2 : ∃ b k, (appN n' t f p es c).2 = [.done n'.term n'.me f b k] ∧ takeD n'.log n'.commit p es c = .tuple [.list ((appN n' t f p es c).1.log.map entD), nD (appN n' t f p es c).1.commit, .bool b, nD k] ∧ tupN (appN n' t f p es c).1 = { n' with rl := .fol, log := (appN n' t f p es c).1.log, commit := (appN n' t f p es c).1.commit } := by
      unfold appN takeD
      rw [if_pos hn, take_app hp]
      cases hk : appOk n' p with
      | false => exact ⟨false, 0, rfl, rfl, rfl⟩
      | true =>
        have hple : p.2 ≤ n'.log.length := by
          have := hk; rw [← take_app hp] at this; exact of_decide_eq_true (Bool.and_eq_true_iff.mp this).1
        refine ⟨true, p.2 + es.length, rfl, ?_, rfl⟩
        show PyData.tuple [.list ((takeN n'.log p.2 es).map entD), nD (max n'.commit (min c (p.2 + es.length))), .bool true, nD (p.2 + es.length)] = PyData.tuple [.list ((putEs p.2 n'.log es).map entD), nD (if n'.commit < min c (p.2 + es.length) then min c (p.2 + es.length) else n'.commit), .bool true, nD (p.2 + es.length)]
        rw [putEs_take _ _ _ hple, show max n'.commit (min c (p.2 + es.length)) = if n'.commit < min c (p.2 + es.length) then min c (p.2 + es.length) else n'.commit by split <;> lia]
    obtain ⟨b, k, h1, h2, h3⟩ := e2
    rw [h1, h3]
    rw [h2] at e1
    refine ⟨[(83, .fz (.bool true)), (70, .fz (.bool b)), (42, .fz (nD k))], ?_⟩
    unfold hl
    rw [hd]
    exact x_next (x_asgT rfl rfl rfl rfl) (x_next (x_ifT (t_v rfl rfl) (x_next (x_asgT rfl rfl rfl rfl) (x_next (x_unp (e_call (F := F_law_take) rfl (es_cons rfl (es_cons rfl (es_cons (e_idx rfl rfl rfl) (es_cons (e_idx rfl rfl rfl) (es_cons (e_idx rfl rfl rfl) rfl))))) e1) rfl rfl) rfl))) (x_next (x_asg rfl rfl) rfl))
  · have e : appN n' t f p es c = (n', [.done n'.term n'.me f false 0]) := if_neg hn
    rw [e]
    show ∃ z, _ = some (Fl.next, (⟨nl (ndD n) (msD (.app t f j p es c)) 82 (tupN n') ++ _ ++ z, []⟩ : PS))
    rw [ht']
    have hd : (decide (t = n'.term)) = false := decide_eq_false hn
    refine ⟨[(83, .fz (.bool false)), (70, .fz (.bool false)), (42, .fz (nD 0))], ?_⟩
    unfold hl
    rw [hd]
    exact x_next (x_asgT rfl rfl rfl rfl) (x_next (x_ifF (t_v rfl rfl) rfl) (x_next (x_asg rfl rfl) rfl))
theorem hear_done {n : Nd} {t f j e : Nat} {ok : Bool} (ht : tupN n = n) (hs : n.size ≤ 16) (hl' : n.log.length ≤ 30000) (hf : f < n.size) (hp : ∀ ps, n.rl = .led ps → ps.length = n.size ∧ ∀ p ∈ ps, p.1 ≤ n.log.length) :
    F_law_hear [ndD n, msD (.done t f j ok e)] = some (stD (stepN n (.msg (.done t f j ok e)))) := by
  have hu : (upN n t).size ≤ 16 ∧ (upN n t).log.length ≤ 30000 ∧ f < (upN n t).size ∧ (∀ ps, (upN n t).rl = .led ps → ps.length = (upN n t).size ∧ ∀ p ∈ ps, p.1 ≤ (upN n t).log.length) := by
    unfold upN
    by_cases hu : n.term < t
    · rw [if_pos hu]; exact ⟨hs, hl', hf, fun _ e => Rl.noConfusion e⟩
    · rw [if_neg hu]; exact ⟨hs, hl', hf, hp⟩
  have htu := tup_up ht t
  show _ = some (stD (tupN (doneN (upN n t) t f ok e).1, (doneN (upN n t) t f ok e).2))
  suffices ∀ n' : Nd, n' = upN n t → ∃ z, ex O22 (sNth 5 ir_law_hear) ⟨hl (.done t f j ok e) (sD "done") t f n n' (.list []), []⟩ = some (.next, ⟨nl (ndD n) (msD (.done t f j ok e)) 82 (tupN (doneN n' t f ok e).1) ++ [(33, .fz (sD "done")), (81, .fz (nD t)), (34, .fz (nD f)), (11, .fz (.list ((doneN n' t f ok e).2.map msD)))] ++ z, []⟩) by
    obtain ⟨z, h⟩ := this _ rfl
    exact hear_pre rfl h
  intro n' hn'
  rw [← hn'] at hu htu
  clear hn'
  obtain ⟨hs', hl3, hf', hp'⟩ := hu
  suffices h : ∃ z, exs O22 (elseS (sNth 0 (elseS (sNth 0 (elseS (sNth 5 ir_law_hear)))))) ⟨hl (.done t f j ok e) (sD "done") t f n n' (.list []), []⟩ = some (.next, ⟨nl (ndD n) (msD (.done t f j ok e)) 82 (tupN (doneN n' t f ok e).1) ++ [(33, .fz (sD "done")), (81, .fz (nD t)), (34, .fz (nD f)), (11, .fz (.list ((doneN n' t f ok e).2.map msD)))] ++ z, []⟩) by
    obtain ⟨z, h⟩ := h
    exact ⟨z, x_ifF (by kernel_rfl) (x_next (x_ifF (by kernel_rfl) (x_next (x_ifF (by kernel_rfl) h) rfl)) rfl)⟩
  have hc : evT O22 (testS (sNth 0 (elseS (sNth 0 (elseS (sNth 0 (elseS (sNth 5 ir_law_hear)))))))) ⟨hl (.done t f j ok e) (sD "done") t f n n' (.list []), []⟩ = some (decide (t = n'.term) && (isLed n'.rl && true)) :=
    t_all (al_c (t_v rfl rfl) (al_c (t_cmp rfl rfl (c_led _)) evAll_nil))
  rw [Bool.and_true] at hc
  cases hk : decide (t = n'.term) && isLed n'.rl with
  | false =>
    rw [hk] at hc
    have ed : doneN n' t f ok e = (n', []) := by
      unfold doneN
      cases hr : n'.rl with
      | led ps => exact if_neg fun h => by rw [hr, decide_eq_true h] at hk; cases hk
      | _ => rfl
    rw [ed]
    show ∃ z, _ = some (Fl.next, (⟨nl (ndD n) (msD (.done t f j ok e)) 82 (tupN n') ++ _ ++ z, []⟩ : PS))
    rw [htu]
    exact ⟨_, x_next (x_ifF hc rfl) rfl⟩
  | true =>
    rw [hk] at hc
    have hn := of_decide_eq_true (Bool.and_eq_true_iff.mp hk).1
    cases hr : n'.rl with
    | fol => rw [hr] at hk; simp only [isLed, Bool.and_false] at hk; cases hk
    | can vs => rw [hr] at hk; simp only [isLed, Bool.and_false] at hk; cases hk
    | led ps =>
      have hq := hp' ps hr
      have hfp : f < ps.length := by rw [hq.1]; exact hf'
      obtain ⟨⟨p, m⟩, he⟩ : ∃ q, ps[f]? = some q := ⟨_, List.getElem?_eq_getElem hfp⟩
      have hple : p ≤ n'.log.length := hq.2 _ (List.mem_of_getElem? he)
      have sl : ∀ q : Nat × Nat, ∃ l1 l2, ps.set f q = l1 ++ [q] ++ l2 ∧ l1 = ps.take f ∧ l2 = ps.drop (f + 1) := fun q => ⟨_, _, (set_slices hfp).symm, rfl, rfl⟩
      obtain ⟨me, size, term, voted, log, commit, rl⟩ := n'
      have hr : rl = .led ps := hr
      subst hr
      have hn : t = term := hn
      subst hn
      have hps : ps.length = size := hq.1
      have hcl : ps.length ≤ 60000 := by rw [hps]; exact Nat.le_trans hs' (by decide)
      have hs' : size ≤ 16 := hs'
      have hl3 : log.length ≤ 30000 := hl3
      have hf' : f < size := hf'
      cases ok with
      | true =>
        have ed : doneN ⟨me, size, t, voted, log, commit, .led ps⟩ t f true e = (⟨me, size, t, voted, log, lookN ⟨me, size, t, voted, log, commit, .led ps⟩ (ps.set f (max m e, max m e)), .led (ps.set f (max m e, max m e))⟩, []) := by
          simp only [doneN, he, if_true]
        rw [ed]
        have er := reached_ok ⟨me, size, t, voted, log, commit, .led ps⟩ (ps.set f (max m e, max m e)) (by rw [List.length_set]; exact hq.1) hl3 (by rw [List.length_set]; lia)
        refine ⟨[(83, .fz (.bool (decide (t = t)))), (66, .fz (.int ((p : Int) + 1))), (43, .fz (nD m)), (87, .fz (nD (max m e)))], x_next (x_ifT hc (x_next (x_unp (d := psD (p, m)) (ds := [.int ((p : Int) + 1), nD m]) (e_idx rfl rfl (idx_l (f := psD) he)) rfl rfl) (x_next (x_ifT (t_v (e_idx rfl rfl rfl) rfl) (x_next (x_asg (e_b2 rfl (e_idx rfl rfl rfl) max_c) rfl) (x_next (x_asg (d := .list ((ps.set f (max m e, max m e)).map psD)) ?_ rfl) (x_next (x_asg (e_call (F := F_law_reached) rfl rfl er) rfl) rfl)))) rfl))) rfl⟩
        rw [← set_slices hfp]
        exact e_bin (x := .list ((ps.take f ++ [(max m e, max m e)]).map psD)) (q_v (e_bin (q_v (e_slc rfl rfl (o_some rfl) (slc_to (by lia)))) (y := .list ([(max m e, max m e)].map psD)) rfl (b_addl (cut_a hcl)))) (q_v (e_slc rfl (o_some (e_bin rfl rfl b_add1)) rfl (slc_from (by lia)))) (b_addl (cut_b hcl))
      | false =>
        have ed : doneN ⟨me, size, t, voted, log, commit, .led ps⟩ t f false e = (⟨me, size, t, voted, log, commit, .led (ps.set f (p - 1, m))⟩, appsN ⟨me, size, t, voted, log, commit, .led (ps.set f (p - 1, m))⟩ (ps.set f (p - 1, m)) [f]) := by
          have : prevAt (ps.set f (p - 1, m)) f = p - 1 := by unfold prevAt; rw [List.getElem?_set_self hfp]
          simp only [doneN, he, if_true, appsN, List.map_cons, List.map_nil, this]; rfl
        rw [ed]
        have ea := appends_ok ⟨me, size, t, voted, log, commit, .led (ps.set f (p - 1, m))⟩ (ps.set f (p - 1, m)) [f] (fun j hj => by
          rw [List.mem_singleton] at hj; subst hj
          refine ⟨by rw [List.length_set]; exact hfp, ?_⟩
          unfold prevAt; rw [List.getElem?_set_self hfp]; exact Nat.le_trans (Nat.sub_le ..) hple) (Nat.le_trans hl3 (by decide)) (show 1 ≤ 60000 by decide)
        have e1 : doB2 .max (nD p) (.int 1) = some (.int (((p - 1 : Nat) : Int) + 1)) := by
          show some (PyData.int (if (1 : Int) > (p : Int) then (1 : Int) else (p : Int))) = _
          congr 2; split <;> lia
        refine ⟨[(83, .fz (.bool (decide (t = t)))), (66, .fz (.int ((p : Int) + 1))), (43, .fz (nD m))], x_next (x_ifT hc (x_next (x_unp (d := psD (p, m)) (ds := [.int ((p : Int) + 1), nD m]) (e_idx rfl rfl (idx_l (f := psD) he)) rfl rfl) (x_next (x_ifF (t_v (e_idx rfl rfl rfl) rfl) (x_next (x_asg (d := .list ((ps.set f (p - 1, m)).map psD)) ?_ rfl) (x_next (x_asg (e_call (F := F_law_appends) rfl rfl ea) rfl) rfl))) rfl))) rfl⟩
        rw [← set_slices hfp]
        exact e_bin (x := .list ((ps.take f ++ [(p - 1, m)]).map psD)) (q_v (e_bin (q_v (e_slc rfl rfl (o_some rfl) (slc_to (by lia)))) (y := .list ([(p - 1, m)].map psD)) (q_v (e_lst (es_cons (e_tup (es_cons (e_b2 (e_bin rfl rfl b_sub1) rfl e1) rfl)) rfl))) (b_addl (cut_a hcl)))) (q_v (e_slc rfl (o_some (e_bin rfl rfl b_add1)) rfl (slc_from (by lia)))) (b_addl (cut_b hcl))
end Mine
end
section
set_option maxRecDepth 100000
set_option genInjectivity false
set_option genSizeOf false
set_option genSizeOfSpec false
set_option backward.match.sparseCases false
namespace Mine
open PySem
structure NInv (B size k : Nat) (n : Nd) : Prop where
  me : n.me = k
  sz : n.size = size
  log : n.log.length ≤ B
  com : n.commit ≤ B
  can : ∀ vs, n.rl = .can vs → vs ∈ subs size
  led : ∀ ps, n.rl = .led ps → ps.length = size ∧ ∀ p ∈ ps, p.1 ≤ n.log.length ∧ p.2 ≤ n.log.length
noncomputable def okTo (n : Nd) (t e : Nat) : Prop := t ≤ n.term ∧ (t = n.term → isCan n.rl = false ∧ (isLed n.rl = true → e ≤ n.log.length))
noncomputable def Mono (n n' : Nd) : Prop := n.term ≤ n'.term ∧ (n'.term = n.term → (isCan n.rl = false → isCan n'.rl = false ∧ (isLed n'.rl = true → isLed n.rl = true ∧ n.log.length ≤ n'.log.length)))
theorem okTo.mono {n n' : Nd} {t e : Nat} (h : okTo n t e) (m : Mono n n') : okTo n' t e := by
  refine ⟨Nat.le_trans h.1 m.1, fun ht => ?_⟩
  have e1 : n'.term = n.term := Nat.le_antisymm (ht ▸ h.1) m.1
  obtain ⟨hc, hl⟩ := h.2 (ht.trans e1)
  obtain ⟨h1, h2⟩ := m.2 e1 hc
  exact ⟨h1, fun h3 => Nat.le_trans (hl (h2 h3).1) (h2 h3).2⟩
noncomputable def MInv (B size : Nat) (Q : Nat → Nat → Nat → Prop) : Ms → Prop
  | .ask _ f j _ => f < size ∧ j < size
  | .vote _ f j _ => f < size ∧ j < size
  | .app t f j p es _ => f < size ∧ j < size ∧ (p.2 = 0 → p.1 = 0) ∧ p.2 + es.length ≤ B ∧ Q f t (p.2 + es.length)
  | .done t f j ok e => f < size ∧ j < size ∧ e ≤ B ∧ (ok = true → Q j t e)
theorem MInv.imp {B B' size : Nat} {Q Q' : Nat → Nat → Nat → Prop} {m : Ms} (hB : B ≤ B') (h : ∀ f t e, Q f t e → Q' f t e) (hm : MInv B size Q m) : MInv B' size Q' m := by
  cases m with
  | ask => exact hm
  | vote => exact hm
  | app => exact ⟨hm.1, hm.2.1, hm.2.2.1, Nat.le_trans hm.2.2.2.1 hB, h _ _ _ hm.2.2.2.2⟩
  | done => exact ⟨hm.1, hm.2.1, Nat.le_trans hm.2.2.1 hB, fun e => h _ _ _ (hm.2.2.2 e)⟩
structure Res (B size k : Nat) (n : Nd) (Q : Nat → Nat → Nat → Prop) (r : Nd × List Ms) : Prop where
  inv : NInv B size k r.1
  mono : Mono n r.1
  out : ∀ m ∈ r.2, MInv B size (fun f t e => (f = k ∧ okTo r.1 t e) ∨ (f ≠ k ∧ Q f t e)) m
  few : r.2.length ≤ 2 * size
theorem NInv.up {B B' size k : Nat} {n : Nd} (h : NInv B size k n) (hB : B ≤ B') : NInv B' size k n := ⟨h.me, h.sz, Nat.le_trans h.log hB, Nat.le_trans h.com hB, h.can, h.led⟩
theorem Mono.refl (n : Nd) : Mono n n := ⟨Nat.le_refl _, fun _ h => ⟨h, fun h2 => ⟨h2, Nat.le_refl _⟩⟩⟩
theorem Mono.lt {n n' : Nd} (h : n.term < n'.term) : Mono n n' := ⟨Nat.le_of_lt h, fun e => absurd h (by rw [e]; exact Nat.lt_irrefl _)⟩
theorem Mono.trans {a b c : Nd} (h : Mono a b) (g : Mono b c) : Mono a c := by
  refine ⟨Nat.le_trans h.1 g.1, fun e ha => ?_⟩
  have e1 : b.term = a.term := Nat.le_antisymm (e ▸ g.1) h.1
  obtain ⟨h1, h2⟩ := h.2 e1 ha
  obtain ⟨g1, g2⟩ := g.2 (e.trans e1.symm) h1
  exact ⟨g1, fun h3 => ⟨(h2 (g2 h3).1).1, Nat.le_trans (h2 (g2 h3).1).2 (g2 h3).2⟩⟩
theorem up_mono (n : Nd) (t : Nat) : Mono n (upN n t) := by
  unfold upN
  by_cases h : n.term < t
  · rw [if_pos h]; exact Mono.lt h
  · rw [if_neg h]; exact Mono.refl n
theorem up_inv {B size k : Nat} {n : Nd} (h : NInv B size k n) (t : Nat) : NInv B size k (upN n t) := by
  unfold upN
  by_cases hu : n.term < t
  · rw [if_pos hu]; exact ⟨h.me, h.sz, h.log, h.com, (fun _ e => Rl.noConfusion e), (fun _ e => Rl.noConfusion e)⟩
  · rw [if_neg hu]; exact h
theorem apps_out {B size k : Nat} {n : Nd} {ps : List (Nat × Nat)} {Q : Nat → Nat → Nat → Prop} (h : NInv B size k n) (hr : n.rl = .led ps) {js : List Nat} (hj : ∀ j ∈ js, j < size) (hk : k < size) :
    ∀ m ∈ appsN n ps js, MInv B size (fun f t e => (f = k ∧ okTo n t e) ∨ (f ≠ k ∧ Q f t e)) m := by
  intro m hm
  obtain ⟨j, hj', rfl⟩ := List.mem_map.mp hm
  have hp : prevAt ps j ≤ n.log.length := by
    unfold prevAt
    cases hq : ps[j]? with
    | none => exact Nat.zero_le _
    | some p => exact ((h.led ps hr).2 p (List.mem_of_getElem? hq)).1
  have hlen : prevAt ps j + (n.log.drop (prevAt ps j)).length = n.log.length := by rw [List.length_drop]; exact Nat.add_sub_cancel' hp
  refine ⟨by rw [h.me]; exact hk, hj j hj', fun e => ?_, by rw [hlen]; exact h.log, .inl ⟨h.me, Nat.le_refl _, fun _ => ⟨by rw [hr]; rfl, fun _ => by rw [hlen]; exact Nat.le_refl _⟩⟩⟩
  have e : prevAt ps j = 0 := e
  show tmAt n.log (prevAt ps j) = 0
  rw [e]; rfl
theorem lead_inv {B size k : Nat} {n : Nd} (h : NInv B size k n) (r : Rl) : NInv B size k (leadN { n with rl := r }).1 := by
  refine ⟨h.me, h.sz, h.log, h.com, (fun _ e => Rl.noConfusion e), (fun ps e => ?_)⟩
  cases e
  refine ⟨by rw [leadPs, List.length_set, List.length_replicate]; exact h.sz, fun p hp => ?_⟩
  rw [leadPs] at hp
  rcases List.mem_or_eq_of_mem_set hp with hp | hp
  · rw [(List.mem_replicate.mp hp).2]; exact ⟨Nat.le_refl _, Nat.zero_le _⟩
  · rw [hp]; exact ⟨Nat.le_refl _, Nat.le_refl _⟩
theorem oth_all {me size : Nat} : ∀ j ∈ othN me size, j < size := fun _ h => (oth_lt h).1
theorem can_res {B size k : Nat} {n : Nd} {vs : List Nat} {Q : Nat → Nat → Nat → Prop} (h : NInv B size k n) (hk : k < size) (hv : vs ∈ subs size) :
    NInv B size k (canN n vs).1 ∧ (canN n vs).1.term = n.term ∧ (∀ m ∈ (canN n vs).2, MInv B size (fun f t e => (f = k ∧ okTo (canN n vs).1 t e) ∨ (f ≠ k ∧ Q f t e)) m) ∧ (canN n vs).2.length ≤ size := by
  refine ⟨?_, ?_, ?_, h.sz ▸ can_len n vs⟩ <;> unfold canN <;> by_cases hb : n.size < 2 * vs.length
  · rw [if_pos hb]; exact lead_inv h _
  · rw [if_neg hb]; exact ⟨h.me, h.sz, h.log, h.com, (fun _ e => by cases e; exact hv), (fun _ e => Rl.noConfusion e)⟩
  · rw [if_pos hb]; rfl
  · rw [if_neg hb]
  · rw [if_pos hb]
    exact apps_out (lead_inv h _) rfl (fun j hj => h.sz ▸ oth_all j hj) hk
  · rw [if_neg hb]; exact fun m hm => absurd hm List.not_mem_nil
end Mine
end
section
set_option maxRecDepth 100000
set_option backward.match.sparseCases false
namespace Mine
open PySem
section
theorem sz5 {x : Nat} (h : x ∈ [0, 1, 2, 3, 4, 5]) : x ≤ 5 := by
  have : ∀ x ∈ [0, 1, 2, 3, 4, 5], x ≤ 5 := by decide
  exact this _ h
theorem NInv.tup {B size k : Nat} {n : Nd} (h : NInv B size k n) (hs : size ∈ [0, 1, 2, 3, 4, 5]) : tupN n = n := by
  refine tup_of ?_
  cases hr : n.rl with
  | fol => rfl
  | led ps => rfl
  | can vs => show Rl.can (sortN vs) = _; rw [(subs_all size hs vs (h.can vs hr)).1]
theorem res_same {B size k : Nat} {n : Nd} {Q : Nat → Nat → Nat → Prop} (h : NInv B size k n) : Res B size k n Q (n, []) := ⟨h, Mono.refl n, (fun _ hm => absurd hm List.not_mem_nil), Nat.zero_le _⟩
variable {B size k : Nat} {n : Nd} {Q : Nat → Nat → Nat → Prop}
theorem time_res (h : NInv B size k n) (hs : size ∈ [0, 1, 2, 3, 4, 5]) (hk : k < size) : Res B size k n Q (stepN n .timeout) := by
  cases hr : isLed n.rl with
  | true =>
    have e : handN n .timeout = (n, []) := by
      show timeN n = _; unfold timeN
      cases h' : n.rl with
      | led ps => rfl
      | fol => rw [h'] at hr; cases hr
      | can vs => rw [h'] at hr; cases hr
    rw [step_not e (h.tup hs)]; exact res_same h
  | false =>
    rw [step_time hr]
    have hst : NInv B size k (startN n) := ⟨h.me, h.sz, h.log, h.com, (fun vs e => by cases e; rw [h.me]; exact subs_me size hs k (List.mem_range.mpr hk)), (fun _ e => Rl.noConfusion e)⟩
    obtain ⟨c1, c2, c3, c4⟩ := can_res (Q := Q) hst hk (vs := [n.me]) (by rw [h.me]; exact subs_me size hs k (List.mem_range.mpr hk))
    refine ⟨c1, Mono.lt (by rw [c2]; exact Nat.lt_succ_self _), fun m hm => ?_, ?_⟩
    · rcases List.mem_append.mp hm with hm | hm
      · obtain ⟨j, hj, rfl⟩ := List.mem_map.mp hm
        exact ⟨by show n.me < size; rw [h.me]; exact hk, h.sz ▸ oth_all j hj⟩
      · exact c3 m hm
    · show (asksN (startN n) ++ (canN (startN n) [n.me]).2).length ≤ _
      rw [List.length_append, asksN, List.length_map]
      have h1 := oth_len (startN n).me (startN n).size
      have h2 : (startN n).size = size := h.sz
      lia
theorem beat_eq (ht : tupN n = n) : (∃ ps, n.rl = .led ps ∧ stepN n .beat = (n, appsN n ps (othN n.me n.size))) ∨ stepN n .beat = (n, []) := by
  cases hr : n.rl with
  | led ps =>
    refine .inl ⟨ps, rfl, ?_⟩
    unfold stepN; rw [show handN n .beat = (n, appsN n ps (othN n.me n.size)) by show beatN n = _; unfold beatN; rw [hr]]
    exact congrArg (fun m => (m, _)) ht
  | fol => exact .inr (step_not (e := .beat) (show beatN n = (n, []) by unfold beatN; rw [hr]) ht)
  | can vs => exact .inr (step_not (e := .beat) (show beatN n = (n, []) by unfold beatN; rw [hr]) ht)
theorem apps_len {ps : List (Nat × Nat)} {m : Nd} (h : m.size = size) : (appsN m ps (othN m.me m.size)).length ≤ 2 * size := by
  rw [appsN, List.length_map]; have := oth_len m.me m.size; lia
theorem beat_res (h : NInv B size k n) (hs : size ∈ [0, 1, 2, 3, 4, 5]) (hk : k < size) : Res B size k n Q (stepN n .beat) := by
  rcases beat_eq (h.tup hs) with ⟨ps, hr, e⟩ | e
  · rw [e]; exact ⟨h, Mono.refl n, apps_out h hr (fun j hj => h.sz ▸ oth_all j hj) hk, apps_len h.sz⟩
  · rw [e]; exact res_same h
theorem prop_eq (ht : tupN n = n) (c : Int) : (∃ ps, n.rl = .led ps ∧ stepN n (.propose c) = ({ moreN n ps c with commit := lookN (moreN n ps c) (propPs n ps) }, appsN { moreN n ps c with commit := lookN (moreN n ps c) (propPs n ps) } (propPs n ps) (othN n.me n.size))) ∨ stepN n (.propose c) = (n, []) := by
  cases hr : n.rl with
  | led ps =>
    refine .inl ⟨ps, rfl, ?_⟩
    unfold stepN; rw [show handN n (.propose c) = ({ moreN n ps c with commit := lookN (moreN n ps c) (propPs n ps) }, appsN { moreN n ps c with commit := lookN (moreN n ps c) (propPs n ps) } (propPs n ps) (othN n.me n.size)) by show propN n c = _; unfold propN; rw [hr]; rfl]
    rfl
  | fol => exact .inr (step_not (e := .propose c) (show propN n c = (n, []) by unfold propN; rw [hr]) ht)
  | can vs => exact .inr (step_not (e := .propose c) (show propN n c = (n, []) by unfold propN; rw [hr]) ht)
theorem prop_res (h : NInv B size k n) (hs : size ∈ [0, 1, 2, 3, 4, 5]) (hk : k < size) (c : Int) : Res (B + 1) size k n Q (stepN n (.propose c)) := by
  rcases prop_eq (h.tup hs) c with ⟨ps, hr, e⟩ | e
  · rw [e]
    have hl := h.led ps hr
    have hlen : (moreN n ps c).log.length = n.log.length + 1 := by show (n.log ++ [_]).length = _; rw [List.length_append]; rfl
    have hlog := h.log
    have hi : NInv (B + 1) size k { moreN n ps c with commit := lookN (moreN n ps c) (propPs n ps) } := by
      refine ⟨h.me, h.sz, by show (moreN n ps c).log.length ≤ _; lia, look_le (by lia) (Nat.le_succ_of_le h.com), (fun _ e => Rl.noConfusion e), (fun qs e => ?_)⟩
      cases e
      refine ⟨by rw [propPs, List.length_set]; exact hl.1, fun q hq => ?_⟩
      show q.1 ≤ (moreN n ps c).log.length ∧ q.2 ≤ (moreN n ps c).log.length
      rw [hlen]
      rw [propPs] at hq
      rcases List.mem_or_eq_of_mem_set hq with hq | hq
      · have := hl.2 q hq; lia
      · rw [hq]
        refine ⟨?_, Nat.le_refl _⟩
        show prevAt ps n.me ≤ _
        unfold prevAt
        cases hp : ps[n.me]? with
        | none => exact Nat.zero_le _
        | some p => exact Nat.le_succ_of_le (hl.2 p (List.mem_of_getElem? hp)).1
    refine ⟨hi, ⟨Nat.le_refl _, fun _ _ => ⟨rfl, fun _ => ⟨by rw [hr]; rfl, by show _ ≤ (moreN n ps c).log.length; lia⟩⟩⟩, apps_out hi rfl (fun j hj => h.sz ▸ oth_all j hj) hk, ?_⟩
    exact apps_len (m := { moreN n ps c with commit := lookN (moreN n ps c) (propPs n ps) }) h.sz
  · rw [e]; exact res_same (h.up (Nat.le_succ B))
noncomputable def toN : Ms → Nat
  | .ask _ _ j _ => j
  | .vote _ _ j _ => j
  | .app _ _ j _ _ _ => j
  | .done _ _ j _ _ => j
theorem take_len {l es : List Ent} {i : Nat} : (takeN l i es).length ≤ max l.length (i + es.length) := by
  unfold takeN
  have := same_le (l.drop i) es
  split
  · rw [List.length_append, List.length_take, List.length_drop]
    refine Nat.le_trans (Nat.add_le_add_right (Nat.min_le_left _ _) _) (Nat.le_trans (Nat.le_of_eq ?_) (Nat.le_max_right _ _))
    rw [Nat.add_assoc, Nat.add_sub_of_le this.2]
  · exact Nat.le_max_left _ _
theorem vote_eq {t f : Nat} {ok : Bool} (h : NInv B size k n) (hs : size ∈ [0, 1, 2, 3, 4, 5]) (hf : f < size) :
    (tupN (voteN n t f ok).1, (voteN n t f ok).2) = (n, []) ∨ ∃ vs, n.rl = .can vs ∧ votesN size f vs ∈ subs size ∧ (tupN (voteN n t f ok).1, (voteN n t f ok).2) = canN n (votesN size f vs) := by
  unfold voteN
  cases hr : n.rl with
  | fol => exact .inl (congrArg (fun m => (m, _)) (h.tup hs))
  | led ps => exact .inl (congrArg (fun m => (m, _)) (h.tup hs))
  | can vs =>
    by_cases hc : ok = true ∧ t = n.term
    · refine .inr ⟨vs, rfl, ?_⟩
      have hq := (subs_all size hs vs (h.can vs hr)).2.2 f (List.mem_range.mpr hf)
      refine ⟨hq.2.2, ?_⟩
      simp only [if_pos hc]
      unfold canN
      rw [← hq.2.1]
      by_cases hb : n.size < 2 * (addV f vs).length
      · rw [if_pos hb, if_pos hb]; rfl
      · rw [if_neg hb, if_neg hb]; show (({ n with rl := .can (sortN (addV f vs)) } : Nd), _) = _; rw [hq.1]
    · simp only [if_neg hc]; exact .inl (congrArg (fun m => (m, _)) (h.tup hs))
theorem recv_res (h : NInv B size k n) (hs : size ∈ [0, 1, 2, 3, 4, 5]) (hk : k < size) {m : Ms} (hm : MInv B size Q m) (hto : toN m = k) (hQ : ∀ t e, Q k t e → okTo n t e) : Res B size k n Q (stepN n (.msg m)) := by
  cases m with
  | ask t f j l =>
    have hu := up_inv h t
    have e : stepN n (.msg (.ask t f j l)) = askN (upN n t) t f l := by
      have := tup_rl (tup_up (h.tup hs) t)
      show (tupN (askN (upN n t) t f l).1, _) = _
      unfold tupN askN; simp only [this]; rfl
    rw [e]
    refine ⟨⟨hu.me, hu.sz, hu.log, hu.com, hu.can, hu.led⟩, up_mono n t, fun m hm' => ?_, ?_⟩
    · rw [List.mem_singleton.mp hm']; exact ⟨by rw [hu.me]; exact hk, hm.1⟩
    · show 1 ≤ 2 * size; lia
  | vote t f j ok =>
    have hu := up_inv h t
    show Res B size k n Q (tupN (voteN (upN n t) t f ok).1, (voteN (upN n t) t f ok).2)
    rcases vote_eq (t := t) (ok := ok) hu hs hm.1 with e | ⟨vs, hr, hv, e⟩
    · rw [e]; exact ⟨hu, up_mono n t, (fun _ hm => absurd hm List.not_mem_nil), Nat.zero_le _⟩
    · rw [e]
      obtain ⟨c1, c2, c3, c4⟩ := can_res (Q := Q) hu hk hv
      refine ⟨c1, (up_mono n t).trans ⟨by rw [c2]; exact Nat.le_refl _, fun _ hc => by rw [hr] at hc; cases hc⟩, c3, by lia⟩
  | app t f j p es c =>
    have hu := up_inv h t
    have hmo := up_mono n t
    have hle : t ≤ (upN n t).term := by unfold upN; by_cases hx : n.term < t <;> simp only [hx, if_true, if_false]; exact Nat.le_refl _; (exact Nat.le_of_not_lt (by assumption))
    have htu := hu.tup hs
    obtain ⟨m1, m2, m3, m4, m5⟩ := hm
    show Res B size k n Q (tupN (appN (upN n t) t f p es c).1, (appN (upN n t) t f p es c).2)
    revert hu hmo hle htu
    generalize upN n t = n'
    intro hu hmo hle htu
    unfold appN
    by_cases ht : t = n'.term
    · rw [if_pos ht]
      have hmo' : ∀ (x : Nd), x.term = n'.term → x.rl = .fol → Mono n x := fun x e1 e2 => hmo.trans ⟨by rw [e1]; exact Nat.le_refl _, fun _ _ => ⟨by rw [e2]; rfl, fun h => by rw [e2] at h; cases h⟩⟩
      cases ha : appOk n' p with
      | false =>
        refine ⟨⟨hu.me, hu.sz, hu.log, hu.com, (fun _ e => Rl.noConfusion e), (fun _ e => Rl.noConfusion e)⟩, hmo' _ rfl rfl, fun m hm' => ?_, show 1 ≤ 2 * size by lia⟩
        rw [List.mem_singleton.mp hm']; exact ⟨by rw [hu.me]; exact hk, m1, Nat.zero_le _, fun e => Bool.noConfusion e⟩
      | true =>
        have hple : p.2 ≤ n'.log.length := by
          have := ha; rw [← take_app m3] at this; exact of_decide_eq_true (Bool.and_eq_true_iff.mp this).1
        have hl1 : (putEs p.2 n'.log es).length ≤ B := by
          rw [putEs_take _ _ _ hple]
          have := take_len (l := n'.log) (es := es) (i := p.2); have := hu.log; lia
        refine ⟨⟨hu.me, hu.sz, hl1, ?_, (fun _ e => Rl.noConfusion e), (fun _ e => Rl.noConfusion e)⟩, hmo' _ rfl rfl, fun m hm' => ?_, show 1 ≤ 2 * size by lia⟩
        · show (if n'.commit < min c (p.2 + es.length) then min c (p.2 + es.length) else n'.commit) ≤ B
          have := hu.com; split <;> lia
        · rw [List.mem_singleton.mp hm']
          refine ⟨by rw [hu.me]; exact hk, m1, m4, fun _ => ?_⟩
          by_cases hfk : f = k
          · exact .inl ⟨hfk, Nat.le_refl _, fun _ => ⟨rfl, fun e => Bool.noConfusion e⟩⟩
          · exact .inr ⟨hfk, ht ▸ m5⟩
    · rw [if_neg ht]
      show Res B size k n Q (tupN n', [.done n'.term n'.me f false 0])
      rw [htu]
      refine ⟨hu, hmo, fun m hm' => ?_, show 1 ≤ 2 * size by lia⟩
      rw [List.mem_singleton.mp hm']; exact ⟨by rw [hu.me]; exact hk, m1, Nat.zero_le _, fun e => Bool.noConfusion e⟩
  | done t f j ok e =>
    have hu := up_inv h t
    have hmo := up_mono n t
    have htu := hu.tup hs
    obtain ⟨m1, m2, m3, m4⟩ := hm
    have hto : j = k := hto
    subst hto
    have hok : ok = true → okTo (upN n t) t e := fun e => (hQ _ _ (m4 e)).mono hmo
    show Res B size j n Q (tupN (doneN (upN n t) t f ok e).1, (doneN (upN n t) t f ok e).2)
    obtain ⟨n', hn'⟩ : ∃ n', n' = upN n t := ⟨_, rfl⟩
    rw [← hn'] at hu hmo htu hok ⊢
    clear hn'
    unfold doneN
    cases hr : n'.rl with
    | fol => show Res B size j n Q (tupN n', []); rw [htu]; exact ⟨hu, hmo, (fun _ hm => absurd hm List.not_mem_nil), Nat.zero_le _⟩
    | can vs => show Res B size j n Q (tupN n', []); rw [htu]; exact ⟨hu, hmo, (fun _ hm => absurd hm List.not_mem_nil), Nat.zero_le _⟩
    | led ps =>
      have hl := hu.led ps hr
      by_cases ht : t = n'.term
      · simp only [if_pos ht]
        obtain ⟨⟨p, q⟩, hp⟩ : ∃ q, ps[f]? = some q := ⟨_, List.getElem?_eq_getElem (by rw [hl.1]; exact m1)⟩
        have hpq := hl.2 _ (List.mem_of_getElem? hp)
        have hmo' : ∀ x : Nd, x.term = n'.term → x.log = n'.log → isCan x.rl = false → Mono n x := fun x e1 e2 e3 => hmo.trans ⟨by rw [e1]; exact Nat.le_refl _, fun _ _ => ⟨e3, fun _ => ⟨by rw [hr]; rfl, by rw [e2]; exact Nat.le_refl _⟩⟩⟩
        have hset : ∀ a b : Nat, a ≤ n'.log.length → b ≤ n'.log.length → (ps.set f (a, b)).length = size ∧ ∀ p ∈ ps.set f (a, b), p.1 ≤ n'.log.length ∧ p.2 ≤ n'.log.length := fun a b ha hb =>
          ⟨by rw [List.length_set]; exact hl.1, fun p hp => by rcases List.mem_or_eq_of_mem_set hp with hp | hp; exact hl.2 p hp; rw [hp]; exact ⟨ha, hb⟩⟩
        rw [hp]
        cases hk' : ok with
        | true =>
          have he : e ≤ n'.log.length := ((hok hk').2 ht).2 (by rw [hr]; rfl)
          have hmx : max q e ≤ n'.log.length := Nat.max_le.mpr ⟨hpq.2, he⟩
          refine ⟨⟨hu.me, hu.sz, hu.log, look_le hu.log hu.com, (fun _ e => Rl.noConfusion e), (fun qs e => by cases e; exact hset _ _ hmx hmx)⟩, hmo' _ rfl rfl rfl, (fun _ hm => absurd hm List.not_mem_nil), Nat.zero_le _⟩
        | false =>
          have hi : NInv B size j { n' with rl := .led (ps.set f (p - 1, q)) } := ⟨hu.me, hu.sz, hu.log, hu.com, (fun _ e => Rl.noConfusion e), (fun qs e => by cases e; exact hset _ _ (Nat.le_trans (Nat.sub_le ..) hpq.1) hpq.2)⟩
          have ha := apps_out (Q := Q) hi rfl (js := [f]) (fun j hj => by rw [List.mem_singleton.mp hj]; exact m1) hk
          refine ⟨hi, hmo' _ rfl rfl rfl, fun m hm' => ha m ?_, show 1 ≤ 2 * size by lia⟩
          rw [List.mem_singleton.mp hm']
          have : prevAt (ps.set f (p - 1, q)) f = p - 1 := by unfold prevAt; rw [List.getElem?_set_self (by rw [hl.1]; exact m1)]
          show _ ∈ [sendN _ (prevAt (ps.set f (p - 1, q)) f) f]
          rw [this]; exact List.mem_singleton.mpr rfl
      · simp only [if_neg ht]; show Res B size j n Q (tupN n', []); rw [htu]; exact ⟨hu, hmo, (fun _ hm => absurd hm List.not_mem_nil), Nat.zero_le _⟩
end
end Mine
end
section
set_option maxRecDepth 100000
set_option genInjectivity false
set_option genSizeOf false
set_option genSizeOfSpec false
set_option backward.match.sparseCases false
namespace Mine
open PySem
structure Sta where
  nodes : List Nd
  way : List Ms
noncomputable def cutAt (i : Int) (n : Nat) : Nat := (i.fmod n).toNat
noncomputable def goN (s : Sta) (k : Nat) (e : Evt) (w : List Ms) : Sta := match s.nodes[k]? with
  | some n => ⟨s.nodes.set k (stepN n e).1, w ++ (stepN n e).2⟩
  | none => s
noncomputable def playS (s : Sta) : Act → Sta
  | .deliver i => match s.way[cutAt i s.way.length]? with
    | some m => goN s (toN m) (.msg m) (s.way.eraseIdx (cutAt i s.way.length))
    | none => s
  | .drop i => ⟨s.nodes, s.way.eraseIdx (cutAt i s.way.length)⟩
  | .double i => match s.way[cutAt i s.way.length]? with
    | some m => ⟨s.nodes, s.way ++ [m]⟩
    | none => s
  | .crash k => match s.nodes[k]? with
    | some n => ⟨s.nodes.set k (crashN n), s.way⟩
    | none => s
  | .timeout k => goN s k .timeout s.way
  | .beat k => goN s k .beat s.way
  | .propose k c => goN s k (.propose c) s.way
noncomputable def ActOK (size : Nat) : Act → Prop
  | .crash k => k < size
  | .timeout k => k < size
  | .beat k => k < size
  | .propose k _ => k < size
  | _ => True
noncomputable def Qs (s : Sta) (f t e : Nat) : Prop := ∀ n, s.nodes[f]? = some n → okTo n t e
structure SInv (B size : Nat) (s : Sta) : Prop where
  len : s.nodes.length = size
  node : ∀ k n, s.nodes[k]? = some n → NInv B size k n
  mail : ∀ m ∈ s.way, MInv B size (Qs s) m
  few : s.way.length ≤ 10 * B
theorem SInv.up {B size : Nat} {s : Sta} (h : SInv B size s) : SInv (B + 1) size s :=
  ⟨h.len, fun k n e => (h.node k n e).up (Nat.le_succ B), fun m hm => (h.mail m hm).imp (Nat.le_succ B) fun _ _ _ h => h, by have := h.few; lia⟩
theorem SInv.set {B size k : Nat} {s : Sta} {n : Nd} {r : Nd × List Ms} {w : List Ms} (h : SInv B size s) (hs : size ≤ 5) (hn : s.nodes[k]? = some n) (hr : Res (B + 1) size k n (Qs s) r) (hw : ∀ m ∈ w, m ∈ s.way) (hwl : w.length ≤ s.way.length) : SInv (B + 1) size ⟨s.nodes.set k r.1, w ++ r.2⟩ := by
  have hk : k < s.nodes.length := (List.getElem?_eq_some_iff.mp hn).1
  have hget : ∀ f n', (s.nodes.set k r.1)[f]? = some n' → (f = k ∧ n' = r.1) ∨ (f ≠ k ∧ s.nodes[f]? = some n') := fun f n' e => by
    by_cases hf : f = k
    · subst hf; rw [List.getElem?_set_self hk] at e; exact .inl ⟨rfl, (Option.some.inj e).symm⟩
    · rw [List.getElem?_set_ne (Ne.symm hf)] at e; exact .inr ⟨hf, e⟩
  refine ⟨by rw [List.length_set]; exact h.len, fun f n' e => ?_, fun m hm => ?_, ?_⟩
  · rcases hget f n' e with ⟨rfl, rfl⟩ | ⟨_, e⟩
    · exact hr.inv
    · exact (h.node f n' e).up (Nat.le_succ B)
  · rcases List.mem_append.mp hm with hm | hm
    · refine (h.mail m (hw m hm)).imp (Nat.le_succ B) fun f t e hq n' hn' => ?_
      rcases hget f n' hn' with ⟨rfl, rfl⟩ | ⟨_, e'⟩
      · exact (hq n hn).mono hr.mono
      · exact hq n' e'
    · refine (hr.out m hm).imp (Nat.le_refl _) fun f t e hq n' hn' => ?_
      rcases hget f n' hn' with ⟨rfl, rfl⟩ | ⟨hf, e'⟩
      · rcases hq with ⟨_, hq⟩ | ⟨hf, _⟩
        · exact hq
        · exact absurd rfl hf
      · rcases hq with ⟨hf', _⟩ | ⟨_, hq⟩
        · exact absurd hf' hf
        · exact hq n' e'
  · show (w ++ r.2).length ≤ _
    rw [List.length_append]
    have := h.few; have := hr.few; lia
theorem Res.up {B size k : Nat} {n : Nd} {Q : Nat → Nat → Nat → Prop} {r : Nd × List Ms} (h : Res B size k n Q r) : Res (B + 1) size k n Q r :=
  ⟨h.inv.up (Nat.le_succ B), h.mono, fun m hm => (h.out m hm).imp (Nat.le_succ B) fun _ _ _ h => h, h.few⟩
theorem MInv.to {B size : Nat} {Q : Nat → Nat → Nat → Prop} {m : Ms} (h : MInv B size Q m) : toN m < size := by
  cases m with
  | ask => exact h.2
  | vote => exact h.2
  | app => exact h.2.1
  | done => exact h.2.1
theorem mem_erase {α : Type} {l : List α} {i : Nat} {x : α} (h : x ∈ l.eraseIdx i) : x ∈ l := List.mem_of_mem_eraseIdx h
theorem go_res {B size k : Nat} {s : Sta} {n : Nd} {e : Evt} (h : SInv B size s) (hs : size ∈ [0, 1, 2, 3, 4, 5]) (hn : s.nodes[k]? = some n) (he : ∀ m, e = .msg m → m ∈ s.way ∧ toN m = k) : Res (B + 1) size k n (Qs s) (stepN n e) := by
  have hk : k < size := h.len ▸ (List.getElem?_eq_some_iff.mp hn).1
  have hi := h.node k n hn
  cases e with
  | timeout => exact (time_res hi hs hk).up
  | beat => exact (beat_res hi hs hk).up
  | propose c => exact prop_res hi hs hk c
  | msg m => exact (recv_res hi hs hk (h.mail m (he m rfl).1) (he m rfl).2 fun t e hq => hq n hn).up
theorem go_inv {B size k : Nat} {s : Sta} {e : Evt} {w : List Ms} (h : SInv B size s) (hs : size ∈ [0, 1, 2, 3, 4, 5]) (he : ∀ m, e = .msg m → m ∈ s.way ∧ toN m = k) (hw : ∀ m ∈ w, m ∈ s.way) (hwl : w.length ≤ s.way.length) : SInv (B + 1) size (goN s k e w) := by
  unfold goN
  cases hn : s.nodes[k]? with
  | none => exact h.up
  | some n => exact h.set (sz5 hs) hn (go_res h hs hn he) hw hwl
theorem play_del {s : Sta} {i : Int} {m : Ms} (h : s.way[cutAt i s.way.length]? = some m) : playS s (.deliver i) = goN s (toN m) (.msg m) (s.way.eraseIdx (cutAt i s.way.length)) := by simp only [playS, h]
theorem play_dbl {s : Sta} {i : Int} {m : Ms} (h : s.way[cutAt i s.way.length]? = some m) : playS s (.double i) = ⟨s.nodes, s.way ++ [m]⟩ := by simp only [playS, h]
theorem play_cra {s : Sta} {k : Nat} {n : Nd} (h : s.nodes[k]? = some n) : playS s (.crash k) = ⟨s.nodes.set k (crashN n), s.way⟩ := by simp only [playS, h]
theorem go_eq {s : Sta} {k : Nat} {n : Nd} {e : Evt} {w : List Ms} (h : s.nodes[k]? = some n) : goN s k e w = ⟨s.nodes.set k (stepN n e).1, w ++ (stepN n e).2⟩ := by simp only [goN, h]
theorem play_inv {B size : Nat} {s : Sta} (h : SInv B size s) (hs : size ∈ [0, 1, 2, 3, 4, 5]) (a : Act) : SInv (B + 1) size (playS s a) := by
  have he : ∀ i, (s.way.eraseIdx i).length ≤ s.way.length := fun i => (List.eraseIdx_sublist _ _).length_le
  cases a with
  | deliver i =>
    cases hm : s.way[cutAt i s.way.length]? with
    | none => rw [show playS s (.deliver i) = s by simp only [playS, hm]]; exact h.up
    | some m => rw [play_del hm]; exact go_inv h hs (fun m' e => by cases e; exact ⟨List.mem_of_getElem? hm, rfl⟩) (fun m hm => mem_erase hm) (he _)
  | drop i => exact ⟨h.len, fun k n e => (h.node k n e).up (Nat.le_succ B), fun m hm => (h.mail m (mem_erase hm)).imp (Nat.le_succ B) fun _ _ _ h => h, by have := h.few; have := he (cutAt i s.way.length); show (s.way.eraseIdx _).length ≤ _; lia⟩
  | double i =>
    cases hm : s.way[cutAt i s.way.length]? with
    | none => rw [show playS s (.double i) = s by simp only [playS, hm]]; exact h.up
    | some m => rw [play_dbl hm]; exact ⟨h.len, fun k n e => (h.node k n e).up (Nat.le_succ B), fun m' hm' => (h.mail m' (by
        rcases List.mem_append.mp hm' with hm' | hm'
        · exact hm'
        · rw [List.mem_singleton.mp hm']; exact List.mem_of_getElem? hm)).imp (Nat.le_succ B) fun _ _ _ h => h, by have := h.few; show (s.way ++ [m]).length ≤ _; rw [List.length_append]; show _ + 1 ≤ _; lia⟩
  | crash k =>
    cases hn : s.nodes[k]? with
    | none => rw [show playS s (.crash k) = s by simp only [playS, hn]]; exact h.up
    | some n =>
      rw [play_cra hn]
      have hi := h.node k n hn
      have hr : Res (B + 1) size k n (Qs s) (crashN n, []) := ⟨⟨hi.me, hi.sz, Nat.le_succ_of_le hi.log, Nat.zero_le _, (fun _ e => Rl.noConfusion e), (fun _ e => Rl.noConfusion e)⟩, ⟨Nat.le_refl _, fun _ _ => ⟨rfl, fun e => nomatch e⟩⟩, (fun _ hm => absurd hm List.not_mem_nil), Nat.zero_le _⟩
      have := h.set (w := s.way) (sz5 hs) hn hr (fun _ h => h) (Nat.le_refl _)
      rw [List.append_nil] at this; exact this
  | timeout k => exact go_inv h hs (fun _ e => Evt.noConfusion e) (fun _ h => h) (Nat.le_refl _)
  | beat k => exact go_inv h hs (fun _ e => Evt.noConfusion e) (fun _ h => h) (Nat.le_refl _)
  | propose k c => exact go_inv h hs (fun _ e => Evt.noConfusion e) (fun _ h => h) (Nat.le_refl _)
theorem ins_len (x : Nat) : ∀ l : List Nat, (insN x l).length = l.length + 1 := by
  intro l0
  induction l0 with
  | nil =>
    exact rfl
  | cons y r ih =>
    (show (if x ≤ y then _ else _ : List Nat).length = _; split; rfl; rw [List.length_cons, ih]; rfl)
theorem sort_len : ∀ l : List Nat, (sortN l).length = l.length := by
  intro l0
  induction l0 with
  | nil =>
    exact rfl
  | cons x r ih =>
    (show (insN x (sortN r)).length = _; rw [ins_len, ih]; rfl)
theorem go_step {B size k : Nat} {s : Sta} {n : Nd} {e : Evt} (h : SInv B size s) (hs : size ∈ [0, 1, 2, 3, 4, 5]) (hB : B ≤ 1000) (hn : s.nodes[k]? = some n) (he : ∀ m, e = .msg m → m ∈ s.way ∧ toN m = k) : F_step [ndD n, evD e] = some (stD (stepN n e)) := by
  have hk : k < size := h.len ▸ (List.getElem?_eq_some_iff.mp hn).1
  have hi := h.node k n hn
  have h5 := sz5 hs
  have hl := hi.log
  refine step_ok ⟨by rw [hi.me, hi.sz]; exact hk, by rw [hi.sz]; (exact Nat.le_trans (by assumption) (by decide)), by lia, by have := hi.com; lia, fun vs hv => ?_, fun ps hp => ?_⟩ ?_ fun vs hv => ?_
  · have := (subs_all size hs vs (hi.can vs hv)).2.1; (exact Nat.le_trans (by assumption) (by decide))
  · exact ⟨by rw [hi.sz]; exact (hi.led ps hp).1, fun p hp' => by have := (hi.led ps hp).2 p hp'; lia⟩
  · cases e with
    | timeout => trivial
    | beat => trivial
    | propose c => show n.log.length < 30000; clear he; lia
    | msg m =>
      have hm := h.mail m (he m rfl).1
      cases m with
      | ask => trivial
      | vote => trivial
      | app t f j p es c => have := hm.2.2.2.1; exact ⟨by lia, by lia⟩
      | done t f j ok e => exact ⟨by rw [hi.sz]; exact hm.1, by have := hm.2.2.1; lia⟩
  · have hr := (go_res h hs hn he).inv
    have : sortN vs ∈ subs size := hr.can (sortN vs) (by show tupRl (handN n e).1.rl = _; rw [hv]; rfl)
    have := (subs_all size hs _ this).2.1
    rw [sort_len] at this; (exact Nat.lt_of_le_of_lt (by assumption) (by decide))
theorem go_tell {B size k : Nat} {s : Sta} {n : Nd} (h : SInv B size s) (hs : size ∈ [0, 1, 2, 3, 4, 5]) (hB : B ≤ 1000) (hn : s.nodes[k]? = some n) :
    F_law_tell [ndD n, actD (.timeout k)] = some (stD (stepN n .timeout)) ∧ F_law_tell [ndD n, actD (.beat k)] = some (stD (stepN n .beat)) ∧ ∀ c, F_law_tell [ndD n, actD (.propose k c)] = some (stD (stepN n (.propose c))) := by
  have hk : k < size := h.len ▸ (List.getElem?_eq_some_iff.mp hn).1
  have hi := h.node k n hn
  have h5 := sz5 hs
  have hl := hi.log
  have hm : n.me < n.size := by rw [hi.me, hi.sz]; exact hk
  have hz : n.size ≤ 16 := by rw [hi.sz]; (exact Nat.le_trans (by assumption) (by decide))
  have hp : ∀ ps, n.rl = .led ps → ps.length = n.size ∧ ∀ p ∈ ps, p.1 ≤ n.log.length := fun ps hp => ⟨by rw [hi.sz]; exact (hi.led ps hp).1, fun p hp' => ((hi.led ps hp).2 p hp').1⟩
  exact ⟨tell_time hm hz (by lia), tell_beat (hi.tup hs) hz (by lia) hp, fun c => tell_prop (hi.tup hs) hm hz (by lia) hp⟩
theorem go_hear {B size : Nat} {s : Sta} {n : Nd} {m : Ms} (h : SInv B size s) (hs : size ∈ [0, 1, 2, 3, 4, 5]) (hB : B ≤ 1000) (hn : s.nodes[toN m]? = some n) (hm : m ∈ s.way) : F_law_hear [ndD n, msD m] = some (stD (stepN n (.msg m))) := by
  have hk : toN m < size := h.len ▸ (List.getElem?_eq_some_iff.mp hn).1
  have hi := h.node _ n hn
  have h5 := sz5 hs
  have hl := hi.log
  have hmi := h.mail m hm
  have ht := hi.tup hs
  cases m with
  | ask t f j l => exact hear_ask ht
  | vote t f j ok => exact hear_vote ht (by rw [hi.me, hi.sz]; exact hk) (by rw [hi.sz]; exact hs) (by lia) (by rw [hi.sz]; exact hmi.1) fun vs hv => by rw [hi.sz]; exact hi.can vs hv
  | app t f j p es c => have := hmi.2.2.2.1; exact hear_app ht hmi.2.2.1 (by lia) (by lia)
  | done t f j ok e => exact hear_done ht (by rw [hi.sz]; (exact Nat.le_trans (by assumption) (by decide))) (by lia) (by rw [hi.sz]; exact hmi.1) fun ps hp => ⟨by rw [hi.sz]; exact (hi.led ps hp).1, fun p hp' => ((hi.led ps hp).2 p hp').1⟩
end Mine
end
section
set_option maxRecDepth 100000
set_option backward.match.sparseCases false
namespace Mine
open PySem
theorem lk_same (x : Nat) (v : AV) : ∀ z, look x (put x v z) = some v := by
  intro l0
  induction l0 with
  | nil =>
    (show (if x = x then _ else _) = _; rw [if_pos rfl])
  | cons q0 r ih =>
    obtain ⟨y, u⟩ := q0
    show look x (if y = x then (x, v) :: r else (y, u) :: put x v r) = _
    by_cases h : y = x
    · rw [if_pos h]; show (if x = x then _ else _) = _; rw [if_pos rfl]
    · rw [if_neg h]; show (if y = x then _ else _) = _; rw [if_neg h]; exact ih
theorem lk_ne {x y : Nat} (hxy : y ≠ x) (v : AV) : ∀ z, look x (put y v z) = look x z := by
  intro l0
  induction l0 with
  | nil =>
    (show (if y = x then _ else _) = _; rw [if_neg hxy])
  | cons q0 r ih =>
    obtain ⟨w, u⟩ := q0
    show look x (if w = y then (y, v) :: r else (w, u) :: put y v r) = if w = x then some u else look x r
    by_cases h : w = y
    · subst h; rw [if_pos rfl, if_neg hxy]; show (if w = x then _ else _) = _; rw [if_neg hxy]
    · rw [if_neg h]; show (if w = x then _ else look x (put y v r)) = _; rw [ih]
theorem nob_put {x : Nat} {v : D} : ∀ {z : Al}, noObj z = true → noObj (put x (.fz v) z) = true := by
  intro z
  induction z with
  | nil => exact fun _ => rfl
  | cons q r ih =>
    obtain ⟨w, u⟩ := q
    intro h
    show noObj (if w = x then (x, .fz v) :: r else (w, u) :: put x (.fz v) r) = true
    cases u with
    | obj => cases h
    | fz d =>
      by_cases hw : w = x
      · rw [if_pos hw]; exact h
      · rw [if_neg hw]; exact ih h
    | own ds =>
      by_cases hw : w = x
      · rw [if_pos hw]; exact h
      · rw [if_neg hw]; exact ih h
theorem nob_is {x : Nat} : ∀ {z : Al}, noObj z = true → isObj x z = false := by
  intro z
  induction z with
  | nil => exact fun _ => rfl
  | cons q r ih =>
    obtain ⟨w, u⟩ := q
    intro h
    show (match (if w = x then some u else look x r) with | some .obj => true | _ => false) = false
    cases u with
    | obj => cases h
    | fz d =>
      by_cases hw : w = x
      · rw [if_pos hw]
      · rw [if_neg hw]; exact ih h
    | own ds =>
      by_cases hw : w = x
      · rw [if_pos hw]
      · rw [if_neg hw]; exact ih h
theorem gd_not {b : Bool} {α : Type} {x : α} (h : b = false) : gd (!b) x = some x := by rw [h]; rfl
theorem e_var {O : Orc} {S : PS} {x : Nat} {p : Pos} {d : D} (h : look x S.loc = some (.fz d)) : ev O (.var x p) S = some d := by
  show fzOf (look x S.loc) = _; rw [h]; rfl
noncomputable def nsD (ns : List Nd) : D := .list (ns.map ndD)
noncomputable def pb (size : Nat) (acts : List Act) (s : Sta) (hist : List (List Nd)) (z : Al) : Al := [(4, .fz (nD size)), (56, .fz (.list (acts.map actD))), (51, .own (s.nodes.map ndD)), (53, .own (hist.map nsD)), (54, .own (s.way.map msD))] ++ z
theorem b_mod {i : Int} {n : Nat} (h : 0 < n) : doBin .mod (.int i) (nD n) = some (nD (cutAt i n)) := by
  show gd (decide ((0 : Int) < (n : Int))) (PyData.int (i.fmod (n : Int))) = some (PyData.int (((i.fmod (n : Int)).toNat : Nat) : Int))
  rw [decide_eq_true (Int.natCast_pos.mpr h), Int.toNat_of_nonneg (Int.fmod_nonneg_of_pos _ (Int.natCast_pos.mpr h))]; rfl
theorem cut_lt {i : Int} {n : Nat} (h : 0 < n) : cutAt i n < n := by
  have h1 := Int.fmod_nonneg_of_pos i (Int.natCast_pos.mpr h)
  have h2 := Int.fmod_lt_of_pos i (Int.natCast_pos.mpr h)
  exact (Int.toNat_lt h1).mpr h2
theorem place_n {n k : Nat} (h : k < n) : placeOf n (nD k) = some k := by
  show gd (decide ((0 : Int) ≤ (k : Int)) && decide ((k : Int).toNat < n)) (k : Int).toNat = _
  rw [Int.toNat_natCast, decide_eq_true (Int.natCast_nonneg k), decide_eq_true h]; rfl
theorem x_pop {O : Orc} {S : PS} {y x k : Nat} {i : Ex} {p q c a r : Pos} {ds : List D} {d : D} {l : Al} (hl : ownOf (look x S.loc) = some ds) (hi : ev O i S = some (nD k)) (hd : ds[k]? = some d) (hp : putO y (.fz d) (put x (.own (ds.eraseIdx k)) S.loc) = some l) : ex O (.pop y x i p q c a r) S = some (.next, { S with loc := l }) := by
  have hk := (List.getElem?_eq_some_iff.mp hd).1
  show (ownOf (look x S.loc)).bind _ = _; rw [hl]; show (ev O i S).bind _ = _; rw [hi]; show (placeOf ds.length (nD k)).bind _ = _; rw [place_n hk]; show (ds[k]?).bind _ = _; rw [hd]; show (putO y (.fz d) _).map _ = _; rw [hp]; rfl
theorem x_unpSet {O : Orc} {S : PS} {x y k : Nat} {i e : Ex} {p t u q r : Pos} {ds : List D} {a b : D} {l : Al} (he : ev O e S = some (.tuple [a, b])) (hl : ownOf (look x S.loc) = some ds) (hi : ev O i S = some (nD k)) (hk : k < ds.length) (hp : putO y (.fz b) (put x (.own (ds.set k a)) S.loc) = some l) : ex O (.unpSet x i y e p t u q r) S = some (.next, { S with loc := l }) := by
  show (ev O e S).bind _ = _; rw [he]; show (ownOf (look x S.loc)).bind _ = _; rw [hl]; show (ev O i S).bind _ = _; rw [hi]; show (placeOf ds.length (nD k)).bind _ = _; rw [place_n hk]; show (putO y (.fz b) _).map _ = _; rw [hp]; rfl
theorem x_ext {O : Orc} {S : PS} {x : Nat} {e : Ex} {p q : Pos} {ds l : List D} (hl : ownOf (look x S.loc) = some ds) (he : ev O e S = some (.list l)) (hb : ds.length + l.length ≤ big) : ex O (.ext x e p q) S = some (.next, { S with loc := put x (.own (ds ++ l)) S.loc }) := by
  show (ownOf (look x S.loc)).bind _ = _; rw [hl]; show (ev O e S).bind _ = _; rw [he]; show gd _ _ = _; rw [decide_eq_true hb]; rfl
noncomputable def pIf : Sm := sNth 0 (bodyS (sNth 2 ir_play))
theorem play_go {B size k : Nat} {acts : List Act} {s : Sta} {hist : List (List Nd)} {z : Al} {n : Nd} {e : Evt} {w : List Ms} {O : Orc} {x : Pos} {i c : Ex} {p t u q r p' q' : Pos}
    (h : SInv B size s) (hs : size ∈ [0, 1, 2, 3, 4, 5]) (hB : B ≤ 1000) (hn : s.nodes[k]? = some n) (he : ∀ m, e = .msg m → m ∈ s.way ∧ toN m = k) (hw : w.length ≤ s.way.length) (hz : noObj z = true)
    (hi : ev O i ⟨pb size acts ⟨s.nodes, w⟩ hist z, []⟩ = some (nD k)) (hc : ev O c ⟨pb size acts ⟨s.nodes, w⟩ hist z, []⟩ = some (stD (stepN n e))) :
    exs O (.cons (.unpSet 51 i 11 c p t u q r) (.cons (.ext 54 (.var 11 x) p' q') .nil)) ⟨pb size acts ⟨s.nodes, w⟩ hist z, []⟩ = some (.next, ⟨pb size acts (goN s k e w) hist (put 11 (.fz (.list ((stepN n e).2.map msD))) z), []⟩) := by
  have hk := (List.getElem?_eq_some_iff.mp hn).1
  have hr := go_res h hs hn he
  have h5 := sz5 hs
  rw [go_eq hn]
  refine x_next (S1 := ⟨pb size acts ⟨s.nodes.set k (stepN n e).1, w⟩ hist (put 11 (.fz (.list ((stepN n e).2.map msD))) z), []⟩) (x_unpSet hc rfl hi (by rw [List.length_map]; exact hk) ?_) (x_next (x_ext (ds := w.map msD) (l := (stepN n e).2.map msD) rfl (e_var (lk_same 11 _ z)) ?_) ?_)
  · show gd (!isObj 11 z) _ = _
    rw [gd_not (nob_is hz)]
    unfold pb; rw [List.map_set]; rfl
  · rw [List.length_map, List.length_map]
    have := h.few; have := hr.few; unfold big; lia
  · unfold pb; rw [List.map_append]; rfl
theorem idx_n {s : Sta} {k : Nat} {n : Nd} (h : s.nodes[k]? = some n) : doIdx (.list (s.nodes.map ndD)) (nD k) = some (ndD n) := idx_l (f := ndD) h
theorem m3 (m : Ms) : doIdx (msD m) (.int 3) = some (nD (toN m)) := by cases m <;> rfl
theorem slc_tt {b : Nat} {l : List D} (h : b ≤ 1000000) : doSlc none (some (nD b)) (.tuple l) = some (.tuple (l.take b)) := by
  show ((partI none).bind fun a => (partI (some (nD b))).bind _) = _
  rw [part_n h]; rfl
theorem slc_tf {b : Nat} {l : List D} (h : b ≤ 1000000) : doSlc (some (nD b)) none (.tuple l) = some (.tuple (l.drop b)) := by
  show (partI (some (nD b))).bind _ = _
  rw [part_n h]; rfl
theorem slc_tft {a b : Nat} {l : List D} (ha : a ≤ 1000000) (h : b ≤ 1000000) : doSlc (some (nD a)) (some (nD b)) (.tuple l) = some (.tuple ((l.take b).drop a)) := by
  show ((partI (some (nD a))).bind fun a => (partI (some (nD b))).bind _) = _
  rw [part_n ha, part_n h]; rfl
theorem erase_map {α β : Type} (f : α → β) : ∀ (l : List α) (k : Nat), (l.map f).eraseIdx k = (l.eraseIdx k).map f := by
  intro l0
  induction l0 with
  | nil =>
    intro _
    exact rfl
  | cons x r ih =>
    intro l1
    cases l1 with
    | zero =>
      exact rfl
    | succ k =>
      (show f x :: (r.map f).eraseIdx k = _; rw [ih k]; rfl)
theorem er_len {α : Type} {l : List α} (i : Nat) : (l.eraseIdx i).length ≤ l.length := by exact (List.eraseIdx_sublist _ _).length_le
theorem pop_ok {size : Nat} {acts : List Act} {s : Sta} {hist : List (List Nd)} {z : Al} {k : Nat} {m : Ms} {O : Orc} {p q c a r p' : Pos} (hm : s.way[k]? = some m) (hz : noObj z = true) (h57 : look 57 z = some (.fz (nD k))) :
    ex O (.pop 58 54 (.var 57 p') p q c a r) ⟨pb size acts s hist z, []⟩ = some (.next, ⟨pb size acts ⟨s.nodes, s.way.eraseIdx k⟩ hist (put 58 (.fz (msD m)) z), []⟩) := by
  refine x_pop (ds := s.way.map msD) rfl (e_var h57) (by rw [List.getElem?_map, hm]; rfl) ?_
  show gd (!isObj 58 z) _ = _
  rw [gd_not (nob_is hz)]
  unfold pb; rw [erase_map]; rfl
theorem play_ite {B size : Nat} {acts : List Act} {s : Sta} {hist : List (List Nd)} {z : Al} (h : SInv B size s) (hs : size ∈ [0, 1, 2, 3, 4, 5]) (hB : B ≤ 1000) (hz : noObj z = true) : ∀ {a : Act}, ActOK size a → look 55 z = some (.fz (actD a)) →
    ∃ z', ex O14 pIf ⟨pb size acts s hist z, []⟩ = some (.next, ⟨pb size acts (playS s a) hist z', []⟩) ∧ noObj z' = true := by
  have nodeAt : ∀ k, k < size → ∃ n, s.nodes[k]? = some n := fun k hk => ⟨_, List.getElem?_eq_getElem (by rw [h.len]; exact hk)⟩
  have mail : ∀ (a : Act) (kd : String) (i : Int), actD a = .tuple [sD kd, .int i] → look 55 z = some (.fz (actD a)) → s.way.length ≠ 0 →
      ∃ m, s.way[cutAt i s.way.length]? = some m ∧ noObj (put 57 (.fz (nD (cutAt i s.way.length))) z) = true ∧ ex O14 (sNth 0 (thenS (sNth 0 (thenS pIf)))) ⟨pb size acts s hist z, []⟩ = some (.next, ⟨pb size acts s hist (put 57 (.fz (nD (cutAt i s.way.length))) z), []⟩) := by
    intro a kd i ha h55 hw
    have hc := cut_lt (i := i) (Nat.pos_of_ne_zero hw)
    refine ⟨_, List.getElem?_eq_getElem hc, nob_put hz, x_asg (d := nD (cutAt i s.way.length)) (e_bin (q_v (e_idx (x := actD a) (q_v (e_var h55)) rfl (by rw [ha]; rfl))) (q_v (e_b1 rfl len_l)) (b_mod (Nat.pos_of_ne_zero hw))) ?_⟩
    show gd (!isObj 57 z) _ = _
    rw [gd_not (nob_is hz)]; rfl
  have emp : ∀ (a : Act) (kd : String) (i : Int), actD a = .tuple [sD kd, .int i] → look 55 z = some (.fz (actD a)) → doCm .isin (sD kd) (.tuple [sD "deliver", sD "drop", sD "double"]) = some true → s.way = [] → ex O14 pIf ⟨pb size acts s hist z, []⟩ = some (.next, ⟨pb size acts s hist z, []⟩) := by
    intro a kd i ha h55 hd hw
    exact x_ifT (t_cmp (x := sD kd) (q_v (e_idx (x := actD a) (q_v (e_var h55)) rfl (by rw [ha]; rfl))) rfl hd) (x_next (x_ifF (show some (!(s.way.map msD).isEmpty) = some false by rw [hw]; rfl) rfl) rfl)
  have full : s.way ≠ [] → evT O14 (testS (sNth 0 (thenS pIf))) ⟨pb size acts s hist z, []⟩ = some true := by
    intro hw
    show some (!(s.way.map msD).isEmpty) = some true
    cases hq : s.way with
    | nil => exact absurd hq hw
    | cons => rfl
  intro a ha h55
  cases a with
  | deliver i =>
    by_cases hw : s.way = []
    · refine ⟨z, ?_, hz⟩
      rw [show playS s (.deliver i) = s by simp only [playS, hw]; rfl]
      exact emp (.deliver i) "deliver" i rfl h55 (by decide +kernel) hw
    · obtain ⟨m, hm, hz1, h1⟩ := mail (.deliver i) "deliver" i rfl h55 (fun e => hw (List.length_eq_zero_iff.mp e))
      have hmem := List.mem_of_getElem? hm
      obtain ⟨n, hn⟩ := nodeAt (toN m) (h.mail m hmem).to
      have h55' : look 55 (put 57 (.fz (nD (cutAt i s.way.length))) z) = some (.fz (actD (.deliver i))) := (lk_ne (by decide) _ _).trans h55
      have hg := go_step h hs hB hn (e := .msg m) fun m' e => by cases e; exact ⟨hmem, rfl⟩
      rw [play_del hm]
      have h57 : look 57 (put 57 (.fz (nD (cutAt i s.way.length))) z) = some (.fz (nD (cutAt i s.way.length))) := lk_same ..
      generalize put 57 (.fz (nD (cutAt i s.way.length))) z = z1 at hz1 h1 h55' h57
      have v58 : ∀ O l p, ev O (.var 58 p) ⟨pb size acts l hist (put 58 (.fz (msD m)) z1), []⟩ = some (msD m) := fun O l p => e_var (lk_same 58 _ z1)
      refine ⟨_, x_ifT (t_cmp (q_v (e_idx (q_v (e_var h55)) rfl rfl)) rfl (by decide +kernel)) (x_next (x_ifT (full hw) (x_next h1 (x_next (x_ifF (t_cmp (q_v (e_idx (q_v (e_var h55')) rfl rfl)) rfl (by decide +kernel)) (x_next (pop_ok hm hz1 h57) (x_next (x_ifT (t_cmp (q_v (e_idx (q_v (e_var ((lk_ne (by decide) _ _).trans h55'))) rfl rfl)) rfl (by decide +kernel))
        (play_go h hs hB hn (fun m' e => by cases e; exact ⟨hmem, rfl⟩) (er_len _) (nob_put hz1) (e_idx (q_v (v58 ..)) rfl (m3 m)) (e_call (F := F_step) rfl (es_cons (e_idx rfl (e_idx (q_v (v58 ..)) rfl (m3 m)) (idx_n hn)) (es_cons (e_tup (es_cons rfl (es_cons (v58 ..) rfl))) rfl)) hg))) rfl))) rfl))) rfl), nob_put (nob_put hz1)⟩
  | drop i =>
    by_cases hw : s.way = []
    · refine ⟨z, ?_, hz⟩
      have e : s.way.eraseIdx (cutAt i s.way.length) = s.way := by rw [hw]; rfl
      show _ = some (Fl.next, (⟨pb size acts ⟨s.nodes, s.way.eraseIdx (cutAt i s.way.length)⟩ hist z, []⟩ : PS))
      rw [e]
      exact emp (.drop i) "drop" i rfl h55 (by decide +kernel) hw
    · obtain ⟨m, hm, hz1, h1⟩ := mail (.drop i) "drop" i rfl h55 (fun e => hw (List.length_eq_zero_iff.mp e))
      have h55' : look 55 (put 57 (.fz (nD (cutAt i s.way.length))) z) = some (.fz (actD (.drop i))) := (lk_ne (by decide) _ _).trans h55
      have h57 : look 57 (put 57 (.fz (nD (cutAt i s.way.length))) z) = some (.fz (nD (cutAt i s.way.length))) := lk_same ..
      generalize put 57 (.fz (nD (cutAt i s.way.length))) z = z1 at hz1 h1 h55' h57
      exact ⟨_, x_ifT (t_cmp (q_v (e_idx (q_v (e_var h55)) rfl rfl)) rfl (by decide +kernel)) (x_next (x_ifT (full hw) (x_next h1 (x_next (x_ifF (t_cmp (q_v (e_idx (q_v (e_var h55')) rfl rfl)) rfl (by decide +kernel)) (x_next (pop_ok hm hz1 h57) (x_next (x_ifF (t_cmp (q_v (e_idx (q_v (e_var ((lk_ne (by decide) _ _).trans h55'))) rfl rfl)) rfl (by decide +kernel)) rfl) rfl))) rfl))) rfl), nob_put hz1⟩
  | double i =>
    by_cases hw : s.way = []
    · refine ⟨z, ?_, hz⟩
      rw [show playS s (.double i) = s by simp only [playS, hw]; rfl]
      exact emp (.double i) "double" i rfl h55 (by decide +kernel) hw
    · obtain ⟨m, hm, hz1, h1⟩ := mail (.double i) "double" i rfl h55 (fun e => hw (List.length_eq_zero_iff.mp e))
      have h55' : look 55 (put 57 (.fz (nD (cutAt i s.way.length))) z) = some (.fz (actD (.double i))) := (lk_ne (by decide) _ _).trans h55
      have h57 : look 57 (put 57 (.fz (nD (cutAt i s.way.length))) z) = some (.fz (nD (cutAt i s.way.length))) := lk_same ..
      rw [play_dbl hm]
      generalize put 57 (.fz (nD (cutAt i s.way.length))) z = z1 at hz1 h1 h55' h57
      refine ⟨z1, x_ifT (t_cmp (q_v (e_idx (q_v (e_var h55)) rfl rfl)) rfl (by decide +kernel)) (x_next (x_ifT (full hw) (x_next h1 (x_next (x_ifT (t_cmp (q_v (e_idx (q_v (e_var h55')) rfl rfl)) rfl (by decide +kernel)) (x_next (x_app (ds := s.way.map msD) (d := msD m) rfl (e_idx rfl (e_var h57) (idx_l hm)) (by rw [List.length_map]; have := h.few; unfold big; lia)) ?_)) rfl))) rfl), hz1⟩
      unfold pb; rw [List.map_append]; rfl
  | crash k =>
    obtain ⟨n, hn⟩ := nodeAt k ha
    have hk := (List.getElem?_eq_some_iff.mp hn).1
    rw [play_cra hn]
    have v26 : ∀ O l p, ev O (.var 26 p) ⟨pb size acts l hist (put 26 (.fz (ndD n)) z), []⟩ = some (ndD n) := fun O l p => e_var (lk_same 26 _ z)
    have h55' : look 55 (put 26 (.fz (ndD n)) z) = some (.fz (actD (.crash k))) := (lk_ne (by decide) _ _).trans h55
    refine ⟨put 26 (.fz (ndD n)) z, x_ifF (t_cmp (q_v (e_idx (q_v (e_var h55)) rfl rfl)) rfl (by decide +kernel)) (x_next (x_ifT (t_cmp (q_v (e_idx (q_v (e_var h55)) rfl rfl)) rfl (by decide +kernel)) (x_next (S1 := ⟨pb size acts s hist (put 26 (.fz (ndD n)) z), []⟩) (x_asg (e_idx rfl (e_idx (q_v (e_var h55)) rfl rfl) (idx_n hn)) ?_) (x_next (x_setI (ds := s.nodes.map ndD) (k := k) (d := ndD (crashN n)) ?_ rfl (e_idx (q_v (e_var h55')) rfl rfl) (by rw [List.length_map]; exact hk)) ?_))) rfl), nob_put hz⟩
    · show gd (!isObj 26 z) _ = _
      rw [gd_not (nob_is hz)]; rfl
    · exact e_bin (q_v (e_bin (q_v (e_bin (q_v (e_slc (q_v (v26 ..)) rfl (o_some rfl) (slc_tt (b := 2) (by decide)))) (q_v (e_tup rfl)) rfl)) (q_v (e_slc (q_v (v26 ..)) (o_some rfl) (o_some rfl) (slc_tft (a := 3) (b := 6) (by decide) (by decide)))) rfl)) (q_v (e_tup rfl)) rfl
    · show some (Fl.next, (⟨put 51 (.own ((s.nodes.map ndD).set k (ndD (crashN n)))) _, []⟩ : PS)) = _
      unfold pb; rw [List.map_set]; rfl
  | timeout k =>
    obtain ⟨n, hn⟩ := nodeAt k ha
    have hg := go_step h hs hB hn (e := .timeout) fun m' e => Evt.noConfusion e
    exact ⟨_, x_ifF (t_cmp (q_v (e_idx (q_v (e_var h55)) rfl rfl)) rfl (by decide +kernel)) (x_next (x_ifF (t_cmp (q_v (e_idx (q_v (e_var h55)) rfl rfl)) rfl (by decide +kernel)) (play_go (e := .timeout) h hs hB hn (fun m' e => Evt.noConfusion e) (Nat.le_refl _) hz (e_idx (q_v (e_var h55)) rfl rfl) (e_call (F := F_step) rfl (es_cons (e_idx rfl (e_idx (q_v (e_var h55)) rfl rfl) (idx_n hn)) (es_cons (e_bin (q_v (e_tup (es_cons (e_idx (q_v (e_var h55)) rfl rfl) rfl))) (q_v (e_slc (q_v (e_var h55)) (o_some rfl) rfl (slc_tf (b := 2) (by decide)))) rfl) rfl)) hg))) rfl), nob_put hz⟩
  | beat k =>
    obtain ⟨n, hn⟩ := nodeAt k ha
    have hg := go_step h hs hB hn (e := .beat) fun m' e => Evt.noConfusion e
    exact ⟨_, x_ifF (t_cmp (q_v (e_idx (q_v (e_var h55)) rfl rfl)) rfl (by decide +kernel)) (x_next (x_ifF (t_cmp (q_v (e_idx (q_v (e_var h55)) rfl rfl)) rfl (by decide +kernel)) (play_go (e := .beat) h hs hB hn (fun m' e => Evt.noConfusion e) (Nat.le_refl _) hz (e_idx (q_v (e_var h55)) rfl rfl) (e_call (F := F_step) rfl (es_cons (e_idx rfl (e_idx (q_v (e_var h55)) rfl rfl) (idx_n hn)) (es_cons (e_bin (q_v (e_tup (es_cons (e_idx (q_v (e_var h55)) rfl rfl) rfl))) (q_v (e_slc (q_v (e_var h55)) (o_some rfl) rfl (slc_tf (b := 2) (by decide)))) rfl) rfl)) hg))) rfl), nob_put hz⟩
  | propose k c =>
    obtain ⟨n, hn⟩ := nodeAt k ha
    have hg := go_step h hs hB hn (e := .propose c) fun m' e => Evt.noConfusion e
    exact ⟨_, x_ifF (t_cmp (q_v (e_idx (q_v (e_var h55)) rfl rfl)) rfl (by decide +kernel)) (x_next (x_ifF (t_cmp (q_v (e_idx (q_v (e_var h55)) rfl rfl)) rfl (by decide +kernel)) (play_go (e := .propose c) h hs hB hn (fun m' e => Evt.noConfusion e) (Nat.le_refl _) hz (e_idx (q_v (e_var h55)) rfl rfl) (e_call (F := F_step) rfl (es_cons (e_idx rfl (e_idx (q_v (e_var h55)) rfl rfl) (idx_n hn)) (es_cons (e_bin (q_v (e_tup (es_cons (e_idx (q_v (e_var h55)) rfl rfl) rfl))) (q_v (e_slc (q_v (e_var h55)) (o_some rfl) rfl (slc_tf (b := 2) (by decide)))) rfl) rfl)) hg))) rfl), nob_put hz⟩
noncomputable def freshN (k size : Nat) : Nd := ⟨k, size, 0, none, [], 0, .fol⟩
noncomputable def s0 (size : Nat) : Sta := ⟨(List.range size).map fun k => freshN k size, []⟩
noncomputable def runS (s : Sta) : List Act → Sta
  | [] => s
  | a :: r => runS (playS s a) r
noncomputable def histS (s : Sta) : List Act → List (List Nd)
  | [] => []
  | a :: r => (playS s a).nodes :: histS (playS s a) r
theorem s0_inv (size : Nat) : SInv 0 size (s0 size) := by
  refine ⟨by show ((List.range size).map _).length = _; rw [List.length_map, List.length_range], fun k n e => ?_, (fun _ hm => absurd hm List.not_mem_nil), Nat.zero_le _⟩
  have e2 : ((List.range size).map fun k => freshN k size)[k]? = some n := e
  rw [List.getElem?_map] at e2
  cases hq : (List.range size)[k]? with
  | none => rw [hq] at e2; cases e2
  | some j =>
    rw [hq] at e2
    have hj : j = k := by
      have := List.getElem?_eq_some_iff.mp hq
      obtain ⟨h1, h2⟩ := this
      rw [List.getElem_range] at h2; exact h2.symm
    subst hj
    have hx : freshN j size = n := Option.some.inj e2
    subst hx
    exact ⟨rfl, rfl, Nat.zero_le _, Nat.zero_le _, (fun _ e => Rl.noConfusion e), (fun _ e => Rl.noConfusion e)⟩
theorem play_loop {size : Nat} {acts : List Act} (hs : size ∈ [0, 1, 2, 3, 4, 5]) : ∀ (as : List Act) (B : Nat) (s : Sta) (hist : List (List Nd)) (z : Al), SInv B size s → B + as.length ≤ 1000 → hist.length + as.length ≤ 2000 → (∀ a ∈ as, ActOK size a) → noObj z = true →
    ∃ z', forL (loopF O14 (sNth 2 ir_play)) (as.map actD) ⟨pb size acts s hist z, []⟩ = some (.next, ⟨pb size acts (runS s as) (hist ++ histS s as) z', []⟩) ∧ noObj z' = true := by
  intro l0
  induction l0 with
  | nil =>
    intro _ s hist z _ _ _ _ hz
    exact ⟨z, by rw [histS, List.append_nil]; rfl, hz⟩
  | cons a as ih =>
    intro B s hist z h hB hH ha hz
    rw [List.length_cons] at hB hH
    have hz1 := nob_put (x := 55) (v := actD a) hz
    obtain ⟨z1, e1, h1⟩ := play_ite (acts := acts) (hist := hist) h hs (by lia) hz1 (ha a (List.mem_cons_self ..)) (lk_same ..)
    have e2 : loopF O14 (sNth 2 ir_play) (actD a) ⟨pb size acts s hist z, []⟩ = some (.next, ⟨pb size acts (playS s a) (hist ++ [(playS s a).nodes]) z1, []⟩) := by
      refine x_loop (l := pb size acts s hist (put 55 (.fz (actD a)) z)) ?_ (x_next e1 (x_next (x_app (ds := hist.map nsD) (d := nsD (playS s a).nodes) rfl rfl ?_) ?_))
      · show gd (!isObj 55 z) _ = _
        rw [gd_not (nob_is hz)]; rfl
      · rw [List.length_map]; unfold big; lia
      · show some (Fl.next, (⟨put 53 (.own (hist.map nsD ++ [nsD (playS s a).nodes])) _, []⟩ : PS)) = _
        unfold pb; rw [List.map_append]; rfl
    obtain ⟨z2, e3, h3⟩ := ih (B + 1) (playS s a) (hist ++ [(playS s a).nodes]) z1 (play_inv h hs a) (by lia) (by rw [List.length_append, List.length_cons, List.length_nil]; lia) (fun b hb => ha b (List.mem_cons_of_mem _ hb)) h1
    refine ⟨z2, ?_, h3⟩
    show (loopF O14 (sNth 2 ir_play) (actD a) _).bind _ = _
    rw [e2]
    refine e3.trans ?_
    rw [List.append_assoc]; rfl
noncomputable def resD (size : Nat) (acts : List Act) : D := .tuple [.list (((s0 size).nodes :: histS (s0 size) acts).map nsD), .list ((runS (s0 size) acts).way.map msD)]
theorem fresh_comp {size : Nat} (hs : size ≤ 5) {O : Orc} {S : PS} {elt : Ex} {p q r s t : Pos} {sc} (h4 : look 4 S.loc = some (.fz (nD size))) (hf : ∀ k, (bindT (.one 40 p) (nD k) S.loc).bind (fun l => (ev O elt ⟨l, S.ob⟩).map some) = some (some (ndD (freshN k size)))) :
    ev O (.comp elt (.one 40 p) (.rng (.cons (.var 4 q) .nil) r s) .none sc t) S = some (.list ((s0 size).nodes.map ndD)) := by
  have e : (s0 size).nodes.map ndD = (List.range size).map fun k => ndD (freshN k size) := by show ((List.range size).map _).map ndD = _; rw [List.map_map]; rfl
  rw [e]
  exact e_comp (s_rng (ds := [nD size]) (es_cons (e_var h4) rfl) rfl (rng_n (by (exact Nat.le_trans (by assumption) (by decide))))) (compL_all nD (fun k => ndD (freshN k size)) fun k _ => hf k) (by rw [List.length_map, List.length_range]; unfold big; (exact Nat.le_trans (by assumption) (by decide)))
theorem play_ok {size : Nat} {acts : List Act} (hs : size ∈ [0, 1, 2, 3, 4, 5]) (hl : acts.length ≤ 900) (ha : ∀ a ∈ acts, ActOK size a) : F_play [nD size, .list (acts.map actD)] = some (resD size acts) := by
  obtain ⟨z, e, hz⟩ := play_loop (acts := acts) hs acts 0 (s0 size) [(s0 size).nodes] [] (s0_inv size) (by lia) (by rw [List.length_cons, List.length_nil]; lia) ha rfl
  exact r_fn (l := [(4, .fz (nD size)), (56, .fz (.list (acts.map actD)))]) (f := .ret (resD size acts)) (S := ⟨[(4, .fz (nD size)), (56, .fz (.list (acts.map actD))), (51, .own ((runS (s0 size) acts).nodes.map ndD)), (53, .fz (.list (((s0 size).nodes :: histS (s0 size) acts).map nsD))), (54, .fz (.list ((runS (s0 size) acts).way.map msD)))] ++ z, []⟩) rfl
    (x_next (x_asgO (fresh_comp (sz5 hs) rfl fun k => rfl) rfl rfl) (x_next (S1 := ⟨pb size acts (s0 size) [(s0 size).nodes] [], []⟩) (x_asgT (ds := [.list [nsD (s0 size).nodes], .list []]) rfl rfl rfl rfl) (x_next (x_for (s_seq rfl rfl) e) (x_next rfl (x_next rfl (x_ret (e_ret (e_tup rfl)))))))) rfl
noncomputable def rb (size : Nat) (acts : List Act) (s : Sta) (hist : List (List Nd)) (z : Al) : Al := [(4, .fz (nD size)), (56, .fz (.list (acts.map actD))), (51, .fz (nsD s.nodes)), (53, .own (hist.map nsD)), (54, .fz (.list (s.way.map msD)))] ++ z
noncomputable def rIf : Sm := sNth 1 (bodyS (sNth 3 ir_law_reckon))
theorem nodes_set {size : Nat} {acts : List Act} {s : Sta} {hist : List (List Nd)} {z : Al} {k : Nat} {n' : Nd} {O : Orc} {i i' : Ex} {p1 p2 p3 p4 p5 p6 p7 p8 p9 p10 p11 p12 p13 p14 : Pos} (hk : k < s.nodes.length) (hb : s.nodes.length ≤ 100)
    (hi : ev O i ⟨rb size acts s hist z, []⟩ = some (nD k)) (hi' : ev O i' ⟨rb size acts s hist z, []⟩ = some (nD k)) (h45 : look 45 z = some (.fz (ndD n'))) :
    ex O (.asg 51 false (.bin .add (.v (.bin .add (.v (.slc (.v (.var 51 p1)) .none (.some i) p2 p3)) (.v (.lst (.cons (.var 45 p4) .nil) p5)) p6)) (.v (.slc (.v (.var 51 p7)) (.some (.bin .add (.v i') (.v (.lit (.int 1) p8)) p9)) .none p10 p11)) p12) p13 p14) ⟨rb size acts s hist z, []⟩ = some (.next, ⟨rb size acts ⟨s.nodes.set k n', s.way⟩ hist z, []⟩) := by
  have hcl : s.nodes.length ≤ 60000 := Nat.le_trans hb (by decide)
  refine x_asg (d := nsD (s.nodes.set k n')) ?_ rfl
  unfold nsD
  rw [← set_slices hk]
  exact e_bin (x := .list ((s.nodes.take k ++ [n']).map ndD)) (q_v (e_bin (q_v (e_slc rfl rfl (o_some hi) (slc_to (by lia)))) (y := .list ([n'].map ndD)) (q_v (e_lst (es_cons (e_var h45) rfl))) (b_addl (cut_a hcl)))) (q_v (e_slc rfl (o_some (e_bin (q_v hi') rfl b_add1)) rfl (slc_from (by lia)))) (b_addl (cut_b hcl))
theorem unp2 {size : Nat} {acts : List Act} {s : Sta} {hist : List (List Nd)} {z : Al} {O : Orc} {e : Ex} {p q r t : Pos} {x : Nd × List Ms} (hz : noObj z = true) (he : ev O e ⟨rb size acts s hist z, []⟩ = some (stD x)) :
    ex O (.unp [.nm 45 p, .nm 11 q] e r t) ⟨rb size acts s hist z, []⟩ = some (.next, ⟨rb size acts s hist (put 11 (.fz (.list (x.2.map msD))) (put 45 (.fz (ndD x.1)) z)), []⟩) := by
  refine x_unp he rfl ?_
  show ((gd (!isObj 45 z) (rb size acts s hist (put 45 (.fz (ndD x.1)) z))).map fun l => (⟨l, []⟩ : PS)).bind _ = _
  rw [gd_not (nob_is hz)]
  show (((gd (!isObj 11 (put 45 (.fz (ndD x.1)) z)) (rb size acts s hist (put 11 (.fz (.list (x.2.map msD))) (put 45 (.fz (ndD x.1)) z)))).map fun l => (⟨l, []⟩ : PS))).bind _ = _
  rw [gd_not (nob_is (nob_put hz))]; rfl
theorem reckon_ite {B size : Nat} {acts : List Act} {s : Sta} {hist : List (List Nd)} {z : Al} (h : SInv B size s) (hs : size ∈ [0, 1, 2, 3, 4, 5]) (hB : B ≤ 1000) (hz : noObj z = true) (h11 : look 11 z = some (.fz (.list []))) : ∀ {a : Act}, ActOK size a → look 72 z = some (.fz (actD a)) →
    ∃ ns w out z', ex O23 rIf ⟨rb size acts s hist z, []⟩ = some (.next, ⟨rb size acts ⟨ns, w⟩ hist z', []⟩) ∧ noObj z' = true ∧ look 11 z' = some (.fz (.list (out.map msD))) ∧ playS s a = ⟨ns, w ++ out⟩ ∧ w.length + out.length ≤ 60000 := by
  have hf := h.few
  have h5 := sz5 hs
  have hlen : s.nodes.length ≤ 100 := by rw [h.len]; (exact Nat.le_trans (by assumption) (by decide))
  have nodeAt : ∀ k, k < size → ∃ n, s.nodes[k]? = some n := fun k hk => ⟨_, List.getElem?_eq_getElem (by rw [h.len]; exact hk)⟩
  have emp : ∀ (a : Act) (kd : String) (i : Int), actD a = .tuple [sD kd, .int i] → look 72 z = some (.fz (actD a)) → doCm .isin (sD kd) (.tuple [sD "deliver", sD "drop", sD "double"]) = some true → s.way = [] → ex O23 rIf ⟨rb size acts s hist z, []⟩ = some (.next, ⟨rb size acts s hist z, []⟩) := by
    intro a kd i ha h72 hd hw
    exact x_ifT (t_cmp (x := sD kd) (q_v (e_idx (x := actD a) (q_v (e_var h72)) rfl (by rw [ha]; rfl))) rfl hd) (x_next (x_ifF (show some (!(s.way.map msD).isEmpty) = some false by rw [hw]; rfl) rfl) rfl)
  have empt : ∀ a, s.way = [] → playS s a = s → ∃ ns w out z', (∃ _ : ex O23 rIf ⟨rb size acts s hist z, []⟩ = some (.next, ⟨rb size acts s hist z, []⟩), True) → ex O23 rIf ⟨rb size acts s hist z, []⟩ = some (.next, ⟨rb size acts ⟨ns, w⟩ hist z', []⟩) ∧ noObj z' = true ∧ look 11 z' = some (.fz (.list (out.map msD))) ∧ playS s a = ⟨ns, w ++ out⟩ ∧ w.length + out.length ≤ 60000 := by
    intro a hw hp
    exact ⟨s.nodes, s.way, [], z, fun ⟨e, _⟩ => ⟨e, hz, h11, by rw [hp, List.append_nil], by rw [hw]; decide⟩⟩
  have mail : ∀ (a : Act) (kd : String) (i : Int), actD a = .tuple [sD kd, .int i] → look 72 z = some (.fz (actD a)) → doCm .isin (sD kd) (.tuple [sD "deliver", sD "drop", sD "double"]) = some true → s.way ≠ [] →
      ∃ m z1, s.way[cutAt i s.way.length]? = some m ∧ noObj z1 = true ∧ look 57 z1 = some (.fz (nD (cutAt i s.way.length))) ∧ look 82 z1 = some (.fz (msD m)) ∧ look 72 z1 = some (.fz (actD a)) ∧ look 11 z1 = some (.fz (.list [])) ∧
        ∀ X, exs O23 (sDrop 2 (thenS (sNth 0 (thenS rIf)))) ⟨rb size acts s hist z1, []⟩ = some (.next, X) → ex O23 rIf ⟨rb size acts s hist z, []⟩ = some (.next, X) := by
    intro a kd i ha h72 hd hw
    have hpos : 0 < s.way.length := List.length_pos_iff.mpr hw
    have hc := cut_lt (i := i) hpos
    have hm := List.getElem?_eq_getElem hc
    refine ⟨_, put 82 (.fz (msD s.way[cutAt i s.way.length])) (put 57 (.fz (nD (cutAt i s.way.length))) z), hm, nob_put (nob_put hz), (lk_ne (by decide) _ _).trans (lk_same ..), lk_same .., (lk_ne (by decide) _ _).trans ((lk_ne (by decide) _ _).trans h72), (lk_ne (by decide) _ _).trans ((lk_ne (by decide) _ _).trans h11), fun X hX => ?_⟩
    have full : evT O23 (testS (sNth 0 (thenS rIf))) ⟨rb size acts s hist z, []⟩ = some true := by
      show some (!(s.way.map msD).isEmpty) = some true
      cases hq : s.way with
      | nil => exact absurd hq hw
      | cons => rfl
    refine x_ifT (t_cmp (x := sD kd) (q_v (e_idx (x := actD a) (q_v (e_var h72)) rfl (by rw [ha]; rfl))) rfl hd) (x_next (x_ifT full (x_next (S1 := ⟨rb size acts s hist (put 57 (.fz (nD (cutAt i s.way.length))) z), []⟩) (x_asg (d := nD (cutAt i s.way.length)) (e_bin (q_v (e_idx (x := actD a) (q_v (e_var h72)) rfl (by rw [ha]; rfl))) (q_v (e_b1 rfl len_l)) (b_mod hpos)) ?_) (x_next (x_asg (d := msD s.way[cutAt i s.way.length]) (e_idx rfl (e_var (lk_same ..)) (idx_l hm)) ?_) hX))) rfl)
    · show gd (!isObj 57 z) _ = _
      rw [gd_not (nob_is hz)]; rfl
    · show gd (!isObj 82 (put 57 (.fz (nD (cutAt i s.way.length))) z)) _ = _
      rw [gd_not (nob_is (nob_put hz))]; rfl
  have cut : ∀ (z1 : Al) (k : Nat) (m : Ms), s.way[k]? = some m → look 57 z1 = some (.fz (nD k)) → exs O23 (elseS (sNth 2 (thenS (sNth 0 (thenS rIf))))) ⟨rb size acts s hist z1, []⟩ = some (.next, ⟨rb size acts ⟨s.nodes, s.way.eraseIdx k⟩ hist z1, []⟩) := by
    intro z1 k m hm h57
    have hk := (List.getElem?_eq_some_iff.mp hm).1
    rw [List.eraseIdx_eq_take_drop_succ]
    exact x_next (x_asg (d := .list ((s.way.take k ++ s.way.drop (k + 1)).map msD)) (e_bin (q_v (e_slc rfl rfl (o_some (e_var h57)) (slc_to (by lia)))) (q_v (e_slc rfl (o_some (e_bin (q_v (e_var h57)) rfl b_add1)) rfl (slc_from (by lia)))) (b_addl (by rw [List.length_take, List.length_drop]; unfold big; lia))) rfl) rfl
  have tell : ∀ (a : Act) (kd : String) (k : Nat) (r : List D) (n : Nd) (x : Nd × List Ms), actD a = .tuple (sD kd :: nD k :: r) → look 72 z = some (.fz (actD a)) → doCm .isin (sD kd) (.tuple [sD "deliver", sD "drop", sD "double"]) = some false → s.nodes[k]? = some n → F_law_tell [ndD n, actD a] = some (stD x) →
      ex O23 rIf ⟨rb size acts s hist z, []⟩ = some (.next, ⟨rb size acts ⟨s.nodes.set k x.1, s.way⟩ hist (put 11 (.fz (.list (x.2.map msD))) (put 45 (.fz (ndD x.1)) z)), []⟩) := by
    intro a kd k r n x ha h72 hd hn ht
    have hi : ∀ O p q t z', look 72 z' = some (.fz (actD a)) → ev O (.idx (.v (.var 72 p)) (.lit (.int 1) q) t) ⟨rb size acts s hist z', []⟩ = some (nD k) := fun O p q t z' h => e_idx (x := actD a) (y := .int 1) (q_v (e_var h)) rfl (by rw [ha]; rfl)
    have h72' : look 72 (put 11 (.fz (.list (x.2.map msD))) (put 45 (.fz (ndD x.1)) z)) = some (.fz (actD a)) := (lk_ne (by decide) _ _).trans ((lk_ne (by decide) _ _).trans h72)
    exact x_ifF (t_cmp (x := sD kd) (q_v (e_idx (x := actD a) (q_v (e_var h72)) rfl (by rw [ha]; rfl))) rfl hd) (x_next (unp2 hz (e_call (F := F_law_tell) rfl (es_cons (e_idx rfl (hi _ _ _ _ _ h72) (idx_n hn)) (es_cons (e_var h72) rfl)) ht)) (x_next (nodes_set (List.getElem?_eq_some_iff.mp hn).1 hlen (hi _ _ _ _ _ h72') (hi _ _ _ _ _ h72') ((lk_ne (by decide) _ _).trans (lk_same ..))) rfl))
  intro a ha h72
  cases a with
  | deliver i =>
    by_cases hw : s.way = []
    · obtain ⟨ns, w, out, z', hx⟩ := empt (.deliver i) hw (by simp only [playS, hw]; rfl)
      exact ⟨ns, w, out, z', hx ⟨emp (.deliver i) "deliver" i rfl h72 (by decide +kernel) hw, trivial⟩⟩
    · obtain ⟨m, z1, hm, hz1, h57, h82, h72', h11', hX⟩ := mail (.deliver i) "deliver" i rfl h72 (by decide +kernel) hw
      have hmem := List.mem_of_getElem? hm
      obtain ⟨n, hn⟩ := nodeAt (toN m) (h.mail m hmem).to
      have hg := go_hear h hs hB hn hmem
      have hr := (go_res h hs hn (e := .msg m) fun m' e => by cases e; exact ⟨hmem, rfl⟩).few
      have hi : ∀ O p q t l z', look 82 z' = some (.fz (msD m)) → ev O (.idx (.v (.var 82 p)) (.lit (.int 3) q) t) ⟨rb size acts l hist z', []⟩ = some (nD (toN m)) := fun O p q t l z' h => e_idx (q_v (e_var h)) rfl (m3 m)
      have h82' : look 82 (put 11 (.fz (.list ((stepN n (.msg m)).2.map msD))) (put 45 (.fz (ndD (stepN n (.msg m)).1)) z1)) = some (.fz (msD m)) := (lk_ne (by decide) _ _).trans ((lk_ne (by decide) _ _).trans h82)
      refine ⟨s.nodes.set (toN m) (stepN n (.msg m)).1, s.way.eraseIdx (cutAt i s.way.length), (stepN n (.msg m)).2, _, hX _ (x_next (x_ifF (t_cmp (q_v (e_idx (q_v (e_var h72')) rfl rfl)) rfl (by decide +kernel)) (cut z1 _ m hm h57)) (x_next (x_ifT (t_cmp (q_v (e_idx (q_v (e_var h72')) rfl rfl)) rfl (by decide +kernel))
        (x_next (unp2 hz1 (e_call (F := F_law_hear) rfl (es_cons (e_idx rfl (hi _ _ _ _ _ _ h82) (idx_n hn)) (es_cons (e_var h82) rfl)) hg)) (x_next (nodes_set (s := ⟨s.nodes, s.way.eraseIdx (cutAt i s.way.length)⟩) (List.getElem?_eq_some_iff.mp hn).1 hlen (hi _ _ _ _ _ _ h82') (hi _ _ _ _ _ _ h82') ((lk_ne (by decide) _ _).trans (lk_same ..))) rfl))) rfl)), nob_put (nob_put hz1), lk_same .., ?_, ?_⟩
      · rw [play_del hm, go_eq hn]
      · have := er_len (l := s.way) (cutAt i s.way.length); lia
  | drop i =>
    by_cases hw : s.way = []
    · obtain ⟨ns, w, out, z', hx⟩ := empt (.drop i) hw (by show (⟨s.nodes, s.way.eraseIdx (cutAt i s.way.length)⟩ : Sta) = s; rw [show s.way.eraseIdx (cutAt i s.way.length) = s.way by rw [hw]; rfl])
      exact ⟨ns, w, out, z', hx ⟨emp (.drop i) "drop" i rfl h72 (by decide +kernel) hw, trivial⟩⟩
    · obtain ⟨m, z1, hm, hz1, h57, h82, h72', h11', hX⟩ := mail (.drop i) "drop" i rfl h72 (by decide +kernel) hw
      exact ⟨s.nodes, s.way.eraseIdx (cutAt i s.way.length), [], z1, hX _ (x_next (x_ifF (t_cmp (q_v (e_idx (q_v (e_var h72')) rfl rfl)) rfl (by decide +kernel)) (cut z1 _ m hm h57)) (x_next (x_ifF (t_cmp (q_v (e_idx (q_v (e_var h72')) rfl rfl)) rfl (by decide +kernel)) rfl) rfl)), hz1, h11', by rw [List.append_nil]; rfl, by have := er_len (l := s.way) (cutAt i s.way.length); show _ + 0 ≤ _; lia⟩
  | double i =>
    by_cases hw : s.way = []
    · obtain ⟨ns, w, out, z', hx⟩ := empt (.double i) hw (by simp only [playS, hw]; rfl)
      exact ⟨ns, w, out, z', hx ⟨emp (.double i) "double" i rfl h72 (by decide +kernel) hw, trivial⟩⟩
    · obtain ⟨m, z1, hm, hz1, h57, h82, h72', h11', hX⟩ := mail (.double i) "double" i rfl h72 (by decide +kernel) hw
      exact ⟨s.nodes, s.way ++ [m], [], z1, hX _ (x_next (x_ifT (t_cmp (q_v (e_idx (q_v (e_var h72')) rfl rfl)) rfl (by decide +kernel)) (x_next (x_asg (d := .list ((s.way ++ [m]).map msD)) (e_bin rfl (y := .list ([m].map msD)) (q_v (e_lst (es_cons (e_var h82) rfl))) (b_addl (by show _ + 1 ≤ big; unfold big; lia))) rfl) rfl)) (x_next (x_ifF (t_cmp (q_v (e_idx (q_v (e_var h72')) rfl rfl)) rfl (by decide +kernel)) rfl) rfl)), hz1, h11', by rw [play_dbl hm, List.append_nil], by rw [List.length_append]; show _ + 1 + 0 ≤ _; lia⟩
  | crash k =>
    obtain ⟨n, hn⟩ := nodeAt k ha
    exact ⟨_, s.way, [], _, tell (.crash k) "crash" k [] n (crashN n, []) rfl h72 (by decide +kernel) hn (tell_crash n k), nob_put (nob_put hz), lk_same .., by rw [play_cra hn, List.append_nil], by show _ + 0 ≤ _; lia⟩
  | timeout k =>
    obtain ⟨n, hn⟩ := nodeAt k ha
    have hr := (go_res h hs hn (e := .timeout) fun m' e => Evt.noConfusion e).few
    exact ⟨_, s.way, _, _, tell (.timeout k) "timeout" k [] n (stepN n .timeout) rfl h72 (by decide +kernel) hn (go_tell h hs hB hn).1, nob_put (nob_put hz), lk_same .., go_eq hn, by lia⟩
  | beat k =>
    obtain ⟨n, hn⟩ := nodeAt k ha
    have hr := (go_res h hs hn (e := .beat) fun m' e => Evt.noConfusion e).few
    exact ⟨_, s.way, _, _, tell (.beat k) "beat" k [] n (stepN n .beat) rfl h72 (by decide +kernel) hn (go_tell h hs hB hn).2.1, nob_put (nob_put hz), lk_same .., go_eq hn, by lia⟩
  | propose k c =>
    obtain ⟨n, hn⟩ := nodeAt k ha
    have hr := (go_res h hs hn (e := .propose c) fun m' e => Evt.noConfusion e).few
    exact ⟨_, s.way, _, _, tell (.propose k c) "propose" k [.int c] n (stepN n (.propose c)) rfl h72 (by decide +kernel) hn ((go_tell h hs hB hn).2.2 c), nob_put (nob_put hz), lk_same .., go_eq hn, by lia⟩
theorem reckon_loop {size : Nat} {acts : List Act} (hs : size ∈ [0, 1, 2, 3, 4, 5]) : ∀ (as : List Act) (B : Nat) (s : Sta) (hist : List (List Nd)) (z : Al), SInv B size s → B + as.length ≤ 1000 → hist.length + as.length ≤ 2000 → (∀ a ∈ as, ActOK size a) → noObj z = true →
    ∃ z', forL (loopF O23 (sNth 3 ir_law_reckon)) (as.map actD) ⟨rb size acts s hist z, []⟩ = some (.next, ⟨rb size acts (runS s as) (hist ++ histS s as) z', []⟩) ∧ noObj z' = true := by
  intro l0
  induction l0 with
  | nil =>
    intro _ s hist z _ _ _ _ hz
    exact ⟨z, by rw [histS, List.append_nil]; rfl, hz⟩
  | cons a as ih =>
    intro B s hist z h hB hH ha hz
    rw [List.length_cons] at hB hH
    have hz1 := nob_put (x := 11) (v := .list []) (nob_put (x := 72) (v := actD a) hz)
    obtain ⟨ns, w, out, z1, e1, h1, h11, hp, hlen⟩ := reckon_ite (acts := acts) (hist := hist) h hs (by lia) hz1 (lk_same ..) (ha a (List.mem_cons_self ..)) ((lk_ne (by decide) _ _).trans (lk_same ..))
    have e2 : loopF O23 (sNth 3 ir_law_reckon) (actD a) ⟨rb size acts s hist z, []⟩ = some (.next, ⟨rb size acts (playS s a) (hist ++ [(playS s a).nodes]) z1, []⟩) := by
      rw [hp]
      refine x_loop (l := rb size acts s hist (put 72 (.fz (actD a)) z)) ?_ (x_next (S1 := ⟨rb size acts s hist (put 11 (.fz (.list [])) (put 72 (.fz (actD a)) z)), []⟩) (x_asg rfl ?_) (x_next e1 (x_next (S1 := ⟨rb size acts ⟨ns, w ++ out⟩ hist z1, []⟩) (x_asg (e_bin rfl (q_v (e_var h11)) (b_addl (show w.length + out.length ≤ big by unfold big; (exact Nat.le_trans (by assumption) (by decide))))) rfl) (x_next (x_app (ds := hist.map nsD) (d := nsD ns) rfl rfl ?_) ?_))))
      · show gd (!isObj 72 z) _ = _
        rw [gd_not (nob_is hz)]; rfl
      · show gd (!isObj 11 (put 72 (.fz (actD a)) z)) _ = _
        rw [gd_not (nob_is (nob_put hz))]; rfl
      · rw [List.length_map]; unfold big; lia
      · show some (Fl.next, (⟨put 53 (.own (hist.map nsD ++ [nsD ns])) _, []⟩ : PS)) = _
        unfold rb; rw [List.map_append (f := nsD)]; rfl
    obtain ⟨z2, e3, h3⟩ := ih (B + 1) (playS s a) (hist ++ [(playS s a).nodes]) z1 (play_inv h hs a) (by lia) (by rw [List.length_append, List.length_cons, List.length_nil]; lia) (fun b hb => ha b (List.mem_cons_of_mem _ hb)) h1
    refine ⟨z2, ?_, h3⟩
    show (loopF O23 (sNth 3 ir_law_reckon) (actD a) _).bind _ = _
    rw [e2]
    refine e3.trans ?_
    rw [List.append_assoc]; rfl
theorem reckon_ok {size : Nat} {acts : List Act} (hs : size ∈ [0, 1, 2, 3, 4, 5]) (hl : acts.length ≤ 900) (ha : ∀ a ∈ acts, ActOK size a) : F_law_reckon [nD size, .list (acts.map actD)] = some (resD size acts) := by
  obtain ⟨z, e, hz⟩ := reckon_loop (acts := acts) hs acts 0 (s0 size) [(s0 size).nodes] [] (s0_inv size) (by lia) (by rw [List.length_cons, List.length_nil]; lia) ha rfl
  exact r_fn (l := [(4, .fz (nD size)), (56, .fz (.list (acts.map actD)))]) (f := .ret (resD size acts)) (S := ⟨[(4, .fz (nD size)), (56, .fz (.list (acts.map actD))), (51, .fz (nsD (runS (s0 size) acts).nodes)), (53, .fz (.list (((s0 size).nodes :: histS (s0 size) acts).map nsD))), (54, .fz (.list ((runS (s0 size) acts).way.map msD)))] ++ z, []⟩) rfl
    (x_next (x_asg (fresh_comp (sz5 hs) rfl fun k => rfl) rfl) (x_next (x_asgO (ds := [nsD (s0 size).nodes]) rfl rfl rfl) (x_next (S1 := ⟨rb size acts (s0 size) [(s0 size).nodes] [], []⟩) (x_asg rfl rfl) (x_next (x_for (s_seq rfl rfl) e) (x_next rfl (x_ret (e_ret (e_tup rfl)))))))) rfl
theorem eqvAll_map {α : Type} {f : α → D} (h : ∀ x, PyData.eqv (f x) (f x) = true) : ∀ l : List α, PyData.eqvAll (l.map f) (l.map f) = true := by
  intro l0
  induction l0 with
  | nil =>
    exact rfl
  | cons x r ih =>
    (show (PyData.eqv (f x) (f x) && PyData.eqvAll (r.map f) (r.map f)) = true; rw [h x, ih]; rfl)
theorem depth_map {α : Type} {f : α → D} {k : Nat} (h : ∀ x, (f x).depth ≤ k) : ∀ l : List α, PyData.depthAll (l.map f) ≤ k := by
  intro l0
  induction l0 with
  | nil =>
    exact Nat.zero_le _
  | cons x r ih =>
    (show max (f x).depth (PyData.depthAll (r.map f)) ≤ k; exact Nat.max_le.mpr ⟨h x, ih⟩)
theorem ef_n (n : Nat) : PyData.eqv (nD n) (nD n) = true := by rw [eqv_n]; exact decide_eq_true rfl
theorem ef_i (i : Int) : PyData.eqv (.int i) (.int i) = true := beq_self_eq_true i
theorem ef_s (s : String) : PyData.eqv (sD s) (sD s) = true := beq_self_eq_true (Str.ofString s)
theorem ef_b (b : Bool) : PyData.eqv (.bool b) (.bool b) = true := beq_self_eq_true b
theorem ef_v (v : Option Nat) : PyData.eqv (votD v) (votD v) = true := by
  cases v with
  | none => rfl
  | some i => exact ef_n i
theorem ef_cons {x : D} {r : List D} (h : PyData.eqv x x = true) (hr : PyData.eqvAll r r = true) : PyData.eqvAll (x :: r) (x :: r) = true := by
  show (PyData.eqv x x && PyData.eqvAll r r) = true; rw [h, hr]; rfl
theorem ef_ent (e : Ent) : PyData.eqv (entD e) (entD e) = true := ef_cons (ef_n _) (ef_cons (ef_i _) rfl)
theorem ef_nn (e : Nat × Nat) : PyData.eqv (nnD e) (nnD e) = true := ef_cons (ef_n _) (ef_cons (ef_n _) rfl)
theorem ef_ps (e : Nat × Nat) : PyData.eqv (psD e) (psD e) = true := ef_cons (ef_i _) (ef_cons (ef_n _) rfl)
theorem ef_role (r : Rl) : PyData.eqv (roleD r) (roleD r) = true := by cases r <;> exact ef_s _
theorem ef_ex (r : Rl) : PyData.eqvAll (exD r) (exD r) = true := by
  cases r with
  | fol => rfl
  | can vs => exact eqvAll_map ef_n vs
  | led ps => exact eqvAll_map ef_ps ps
theorem ef_nd (n : Nd) : PyData.eqv (ndD n) (ndD n) = true := ef_cons (ef_n _) (ef_cons (ef_n _) (ef_cons (ef_role _) (ef_cons (ef_n _) (ef_cons (ef_v _) (ef_cons (x := .list _) (eqvAll_map ef_ent _) (ef_cons (ef_n _) (ef_cons (x := .list _) (ef_ex _) rfl)))))))
theorem ef_ms (m : Ms) : PyData.eqv (msD m) (msD m) = true := by
  cases m with
  | ask => exact ef_cons (ef_s _) (ef_cons (ef_n _) (ef_cons (ef_n _) (ef_cons (ef_n _) (ef_cons (ef_nn _) rfl))))
  | vote => exact ef_cons (ef_s _) (ef_cons (ef_n _) (ef_cons (ef_n _) (ef_cons (ef_n _) (ef_cons (ef_b _) rfl))))
  | app => exact ef_cons (ef_s _) (ef_cons (ef_n _) (ef_cons (ef_n _) (ef_cons (ef_n _) (ef_cons (ef_nn _) (ef_cons (x := .list _) (eqvAll_map ef_ent _) (ef_cons (ef_n _) rfl))))))
  | done => exact ef_cons (ef_s _) (ef_cons (ef_n _) (ef_cons (ef_n _) (ef_cons (ef_n _) (ef_cons (ef_b _) (ef_cons (ef_n _) rfl)))))
theorem dp_cons {x : D} {r : List D} {k : Nat} (h : x.depth ≤ k) (hr : PyData.depthAll r ≤ k) : PyData.depthAll (x :: r) ≤ k := Nat.max_le.mpr ⟨h, hr⟩
theorem dp_l {l : List D} {k : Nat} (h : PyData.depthAll l ≤ k) : (PyData.list l).depth ≤ k + 1 := Nat.succ_le_succ h
theorem dp_t {l : List D} {k : Nat} (h : PyData.depthAll l ≤ k) : (PyData.tuple l).depth ≤ k + 1 := Nat.succ_le_succ h
theorem dp_v (v : Option Nat) : (votD v).depth ≤ 3 := by cases v <;> exact Nat.zero_le _
theorem dp_role (r : Rl) : (roleD r).depth ≤ 3 := by cases r <;> exact Nat.zero_le _
theorem dp_ex (r : Rl) : PyData.depthAll (exD r) ≤ 2 := by
  cases r with
  | fol => exact Nat.zero_le _
  | can vs => exact depth_map (fun _ => Nat.zero_le _) vs
  | led ps => exact depth_map (fun _ => (by decide : 1 ≤ 2)) ps
theorem dp_nd (n : Nd) : (ndD n).depth ≤ 4 := dp_t (dp_cons (Nat.zero_le _) (dp_cons (Nat.zero_le _) (dp_cons (dp_role _) (dp_cons (Nat.zero_le _) (dp_cons (dp_v _) (dp_cons (dp_l (k := 2) (depth_map (fun _ => (by decide : 1 ≤ 2)) _)) (dp_cons (Nat.zero_le _) (dp_cons (dp_l (dp_ex _)) (Nat.zero_le _)))))))))
theorem dp_ms (m : Ms) : (msD m).depth ≤ 4 := by
  cases m with
  | app => exact dp_t (dp_cons (Nat.zero_le _) (dp_cons (Nat.zero_le _) (dp_cons (Nat.zero_le _) (dp_cons (Nat.zero_le _) (dp_cons (by decide : 1 ≤ 3) (dp_cons (dp_l (k := 2) (depth_map (fun _ => (by decide : 1 ≤ 2)) _)) (dp_cons (Nat.zero_le _) (Nat.zero_le _))))))))
  | ask => exact (by decide : 2 ≤ 4)
  | vote => exact (by decide : 1 ≤ 4)
  | done => exact (by decide : 1 ≤ 4)
theorem c_self {d : D} (h : d.depth ≤ 64) (he : PyData.eqv d d = true) : doCm .ne d d = some false := by
  show (gd (decide (d.depth ≤ 64) && decide (d.depth ≤ 64)) (PyData.eqv d d)).map (!·) = _
  rw [decide_eq_true h, he]; rfl
theorem c_acts (as : List Act) : doCm .ne (.list (as.map actD)) (.list (as.map actD)) = some false := by
  refine c_self (Nat.le_trans (dp_l (k := 1) (depth_map (fun a => ?_) as)) (by decide)) (eqvAll_map (fun a => ?_) as)
  · cases a <;> exact (by decide : 1 ≤ 1)
  · cases a
    case propose => exact ef_cons (ef_s _) (ef_cons (ef_n _) (ef_cons (ef_i _) rfl))
    all_goals first | exact ef_cons (ef_s _) (ef_cons (ef_i _) rfl) | exact ef_cons (ef_s _) (ef_cons (ef_n _) rfl)
theorem c_res (size : Nat) (acts : List Act) : doCm .ne (resD size acts) (resD size acts) = some false := by
  refine c_self (Nat.le_trans (dp_t (k := 6) (dp_cons (dp_l (depth_map (fun ns => dp_l (depth_map dp_nd ns)) _)) (dp_cons (Nat.le_trans (dp_l (depth_map dp_ms _)) (by decide)) (Nat.zero_le _)))) (by decide)) (ef_cons (x := .list _) (eqvAll_map (f := nsD) (fun ns => eqvAll_map ef_nd ns) _) (ef_cons (x := .list _) (eqvAll_map ef_ms _) rfl))
noncomputable def chainN : Nat → List Act
  | 0 => [.deliver (-1), .deliver (-1), .deliver (-1), .deliver (-1)]
  | 1 => [.deliver (-1), .deliver (-1)]
  | 2 => [.deliver (-2), .deliver (-1), .deliver (-2), .deliver (-1)]
  | 5 => [.deliver (-2), .deliver (-1)]
  | 6 => [.deliver (-2), .double (-1), .deliver (-1), .deliver (-2), .deliver (-1)]
  | 8 => [.deliver (-1), .deliver (-1)]
  | 9 => [.deliver (-1)]
  | _ => []
noncomputable def headN (size head : Nat) (w : Int) (k : Nat) : Nat := if k = 0 ∨ k = 2 ∨ k = 9 then cutAt w size else head
noncomputable def moveN (size head : Nat) (w : Int) : Nat → Act
  | 0 => .timeout (cutAt w size)
  | 1 => .propose head w
  | 2 => .timeout (cutAt w size)
  | 3 => .propose (cutAt w size) w
  | 4 => .deliver w
  | 5 => .propose head w
  | 6 => .beat head
  | 7 => .crash (cutAt w size)
  | 8 => .double w
  | 9 => .timeout (cutAt w size)
  | _ => .drop w
noncomputable def partN (size head : Nat) (w : Int) (k : Nat) : List Act := moveN size head w k :: chainN k
noncomputable def mvD (size head : Nat) (w : Int) (k : Nat) : D := .tuple [nD (headN size head w k), .list ((partN size head w k).map actD)]
theorem moves_ok {size head : Nat} {w : Int} (hs : 0 < size) : ∀ k, k < 11 → F_law_moves [nD size, nD head, nD k, .int w] = some (mvD size head w k)
  | 0, _ => r_fn (l := [(4, .fz (nD size)), (62, .fz (nD head)), (33, .fz (nD 0)), (63, .fz (.int w))]) (f := .ret (mvD size head w 0)) rfl (x_next (x_unp (e_idx rfl rfl rfl) rfl rfl) (x_next (x_ifT (by kernel_rfl) (x_next (x_asg (e_bin rfl rfl (b_mod hs)) rfl) (x_next (x_asg rfl rfl) rfl))) (x_ret (e_ret (e_tup rfl))))) rfl
  | 1, _ => r_fn (l := [(4, .fz (nD size)), (62, .fz (nD head)), (33, .fz (nD 1)), (63, .fz (.int w))]) (f := .ret (mvD size head w 1)) rfl (x_next (x_unp (e_idx rfl rfl rfl) rfl rfl) (x_next (x_ifF (by kernel_rfl) (x_next (x_ifF (by kernel_rfl) (x_next (x_ifF (by kernel_rfl) (x_next (x_ifT (by kernel_rfl) (x_next (x_asg rfl rfl) rfl)) rfl)) rfl)) rfl)) (x_ret (e_ret (e_tup rfl))))) rfl
  | 2, _ => r_fn (l := [(4, .fz (nD size)), (62, .fz (nD head)), (33, .fz (nD 2)), (63, .fz (.int w))]) (f := .ret (mvD size head w 2)) rfl (x_next (x_unp (e_idx rfl rfl rfl) rfl rfl) (x_next (x_ifT (by kernel_rfl) (x_next (x_asg (e_bin rfl rfl (b_mod hs)) rfl) (x_next (x_asg rfl rfl) rfl))) (x_ret (e_ret (e_tup rfl))))) rfl
  | 3, _ => r_fn (l := [(4, .fz (nD size)), (62, .fz (nD head)), (33, .fz (nD 3)), (63, .fz (.int w))]) (f := .ret (mvD size head w 3)) rfl (x_next (x_unp (e_idx rfl rfl rfl) rfl rfl) (x_next (x_ifF (by kernel_rfl) (x_next (x_ifF (by kernel_rfl) (x_next (x_ifT (by kernel_rfl) (x_next (x_asg (e_lst (es_cons (e_tup (es_cons rfl (es_cons (e_bin rfl rfl (b_mod hs)) rfl))) rfl)) rfl) rfl)) rfl)) rfl)) (x_ret (e_ret (e_tup rfl))))) rfl
  | 4, _ => r_fn (l := [(4, .fz (nD size)), (62, .fz (nD head)), (33, .fz (nD 4)), (63, .fz (.int w))]) (f := .ret (mvD size head w 4)) rfl (x_next (x_unp (e_idx rfl rfl rfl) rfl rfl) (x_next (x_ifF (by kernel_rfl) (x_next (x_ifF (by kernel_rfl) (x_next (x_ifF (by kernel_rfl) (x_next (x_ifF (by kernel_rfl) (x_next (x_ifF (by kernel_rfl) (x_next (x_asg rfl rfl) rfl)) rfl)) rfl)) rfl)) rfl)) (x_ret (e_ret (e_tup rfl))))) rfl
  | 5, _ => r_fn (l := [(4, .fz (nD size)), (62, .fz (nD head)), (33, .fz (nD 5)), (63, .fz (.int w))]) (f := .ret (mvD size head w 5)) rfl (x_next (x_unp (e_idx rfl rfl rfl) rfl rfl) (x_next (x_ifF (by kernel_rfl) (x_next (x_ifF (by kernel_rfl) (x_next (x_ifF (by kernel_rfl) (x_next (x_ifT (by kernel_rfl) (x_next (x_asg rfl rfl) rfl)) rfl)) rfl)) rfl)) (x_ret (e_ret (e_tup rfl))))) rfl
  | 6, _ => r_fn (l := [(4, .fz (nD size)), (62, .fz (nD head)), (33, .fz (nD 6)), (63, .fz (.int w))]) (f := .ret (mvD size head w 6)) rfl (x_next (x_unp (e_idx rfl rfl rfl) rfl rfl) (x_next (x_ifF (by kernel_rfl) (x_next (x_ifF (by kernel_rfl) (x_next (x_ifF (by kernel_rfl) (x_next (x_ifF (by kernel_rfl) (x_next (x_ifT (by kernel_rfl) (x_next (x_asg rfl rfl) rfl)) rfl)) rfl)) rfl)) rfl)) (x_ret (e_ret (e_tup rfl))))) rfl
  | 7, _ => r_fn (l := [(4, .fz (nD size)), (62, .fz (nD head)), (33, .fz (nD 7)), (63, .fz (.int w))]) (f := .ret (mvD size head w 7)) rfl (x_next (x_unp (e_idx rfl rfl rfl) rfl rfl) (x_next (x_ifF (by kernel_rfl) (x_next (x_ifT (by kernel_rfl) (x_next (x_asg (e_lst (es_cons (e_tup (es_cons rfl (es_cons (e_bin rfl rfl (b_mod hs)) rfl))) rfl)) rfl) rfl)) rfl)) (x_ret (e_ret (e_tup rfl))))) rfl
  | 8, _ => r_fn (l := [(4, .fz (nD size)), (62, .fz (nD head)), (33, .fz (nD 8)), (63, .fz (.int w))]) (f := .ret (mvD size head w 8)) rfl (x_next (x_unp (e_idx rfl rfl rfl) rfl rfl) (x_next (x_ifF (by kernel_rfl) (x_next (x_ifF (by kernel_rfl) (x_next (x_ifF (by kernel_rfl) (x_next (x_ifF (by kernel_rfl) (x_next (x_ifF (by kernel_rfl) (x_next (x_asg rfl rfl) rfl)) rfl)) rfl)) rfl)) rfl)) (x_ret (e_ret (e_tup rfl))))) rfl
  | 9, _ => r_fn (l := [(4, .fz (nD size)), (62, .fz (nD head)), (33, .fz (nD 9)), (63, .fz (.int w))]) (f := .ret (mvD size head w 9)) rfl (x_next (x_unp (e_idx rfl rfl rfl) rfl rfl) (x_next (x_ifT (by kernel_rfl) (x_next (x_asg (e_bin rfl rfl (b_mod hs)) rfl) (x_next (x_asg rfl rfl) rfl))) (x_ret (e_ret (e_tup rfl))))) rfl
  | 10, _ => r_fn (l := [(4, .fz (nD size)), (62, .fz (nD head)), (33, .fz (nD 10)), (63, .fz (.int w))]) (f := .ret (mvD size head w 10)) rfl (x_next (x_unp (e_idx rfl rfl rfl) rfl rfl) (x_next (x_ifF (by kernel_rfl) (x_next (x_ifF (by kernel_rfl) (x_next (x_ifF (by kernel_rfl) (x_next (x_ifF (by kernel_rfl) (x_next (x_ifF (by kernel_rfl) (x_next (x_asg rfl rfl) rfl)) rfl)) rfl)) rfl)) rfl)) (x_ret (e_ret (e_tup rfl))))) rfl
  | k + 11, h => absurd h (by lia)
noncomputable def isDD : Act → Bool
  | .deliver _ => true
  | .double _ => true
  | _ => false
theorem mv_dd (k : Nat) (hk : k < 11) (size head : Nat) (w : Int) (h1 : k ≠ 1) (h5 : k ≠ 5) (h6 : k ≠ 6) (hc : cutAt w size < size) : ActOK size (moveN size head w k) := by
  have key : ∀ k, k < 11 → k = 1 ∨ k = 5 ∨ k = 6 ∨ k ∈ [0, 2, 3, 4, 7, 8, 9, 10] := by decide
  have key : k ∈ [0, 2, 3, 4, 7, 8, 9, 10] := (((key k hk).resolve_left h1).resolve_left h5).resolve_left h6
  simp only [List.mem_cons, List.not_mem_nil, or_false] at key
  rcases key with rfl | rfl | rfl | rfl | rfl | rfl | rfl | rfl <;> first | exact hc | trivial
theorem part_all {size head : Nat} {w : Int} {k : Nat} (hs : 0 < size) (hh : head < size) (hk : k < 11) : headN size head w k < size ∧ (partN size head w k).length ≤ 6 ∧ ∀ a ∈ partN size head w k, ActOK size a := by
  have hc := cut_lt (i := w) hs
  refine ⟨by unfold headN; split <;> assumption, ?_, fun a ha => ?_⟩
  · have : ∀ k, k < 11 → (chainN k).length ≤ 5 := by decide
    have := this k hk
    show (chainN k).length + 1 ≤ 6; (exact Nat.lt_of_le_of_lt (by assumption) (by decide))
  · have hd : ∀ k, k < 11 → ((chainN k).all isDD) = true := by decide
    rcases List.mem_cons.mp ha with rfl | ha
    · by_cases h : k = 1 ∨ k = 5 ∨ k = 6
      · rcases h with rfl | rfl | rfl <;> exact hh
      · have := mv_dd k hk size head w (fun e => h (.inl e)) (fun e => h (.inr (.inl e))) (fun e => h (.inr (.inr e)))
        exact this hc
    · have := List.all_eq_true.mp (hd k hk) a ha
      cases a <;> first | trivial | cases this
noncomputable def prD (p : Int × Int) : D := .tuple [.int p.1, .int p.2]
noncomputable def lb (ns : List Int) (size head : Nat) (acts : List Act) (z : Al) : Al := [(50, .fz (.list (ns.map .int))), (4, .fz (nD size)), (62, .fz (nD head)), (64, .fz (.list (acts.map actD)))] ++ z
theorem law_loop {ns : List Int} {size : Nat} (hs : 0 < size) : ∀ (ps : List (Int × Int)) (head : Nat) (acts : List Act) (z : Al), head < size → (∀ a ∈ acts, ActOK size a) → acts.length + 6 * ps.length ≤ 900 → (z = [] ∨ ∃ a b c, z = [(33, .fz a), (63, .fz b), (91, .fz c)]) →
    ∃ head' acts' z', forL (loopF O24 (sNth 4 ir_law)) (ps.map prD) ⟨lb ns size head acts z, []⟩ = some (.next, ⟨lb ns size head' acts' z', []⟩) ∧ (∀ a ∈ acts', ActOK size a) ∧ acts'.length ≤ 900 ∧ (ps ≠ [] ∨ (∃ a b c, z = [(33, .fz a), (63, .fz b), (91, .fz c)]) → ∃ a b c, z' = [(33, .fz a), (63, .fz b), (91, .fz c)]) := by
  intro l0
  induction l0 with
  | nil =>
    intro head acts z _ ha hl hz
    exact ⟨head, acts, z, rfl, ha, by assumption, fun h => h.elim (fun h => absurd rfl h) fun h => h⟩
  | cons q0 ps ih =>
    obtain ⟨k, w⟩ := q0
    intro head acts z hh ha hl hz
    rw [List.length_cons] at hl
    have hk := cut_lt (i := k) (n := 11) (by decide)
    obtain ⟨p1, p2, p3⟩ := part_all (w := w) hs hh hk
    have e1 : loopF O24 (sNth 4 ir_law) (prD (k, w)) ⟨lb ns size head acts z, []⟩ = some (.next, ⟨lb ns size (headN size head w (cutAt k 11)) (acts ++ partN size head w (cutAt k 11)) [(33, .fz (.int k)), (63, .fz (.int w)), (91, .fz (.list ((partN size head w (cutAt k 11)).map actD)))], []⟩) := by
      have hb : ∃ z1, bindT (tgS (sNth 4 ir_law)) (prD (k, w)) (lb ns size head acts z) = some (lb ns size head acts ([(33, .fz (.int k)), (63, .fz (.int w))] ++ z1)) ∧ (z1 = [] ∨ ∃ c, z1 = [(91, .fz c)]) := by
        rcases hz with rfl | ⟨a, b, c, rfl⟩
        · exact ⟨[], rfl, .inl rfl⟩
        · exact ⟨[(91, .fz c)], rfl, .inr ⟨c, rfl⟩⟩
      obtain ⟨z1, hb, hz1⟩ := hb
      refine x_loop hb (x_next (S1 := ⟨lb ns size (headN size head w (cutAt k 11)) acts [(33, .fz (.int k)), (63, .fz (.int w)), (91, .fz (.list ((partN size head w (cutAt k 11)).map actD)))], []⟩) (x_unp (d := mvD size head w (cutAt k 11)) (e_call (F := F_law_moves) rfl (es_cons rfl (es_cons rfl (es_cons (e_bin rfl rfl (b_mod (n := 11) (by decide))) rfl))) (moves_ok hs _ hk)) rfl ?_) (x_next (x_asg (e_bin rfl rfl (b_addl (by unfold big; lia))) rfl) rfl))
      rcases hz1 with rfl | ⟨c, rfl⟩ <;> rfl
    obtain ⟨head', acts', z', e2, h2, h3, h4⟩ := ih (headN size head w (cutAt k 11)) (acts ++ partN size head w (cutAt k 11)) _ p1 (fun a h => by
      rcases List.mem_append.mp h with h | h
      · exact ha a h
      · exact p3 a h) (by rw [List.length_append]; lia) (.inr ⟨_, _, _, rfl⟩)
    refine ⟨head', acts', z', ?_, h2, h3, fun _ => h4 (.inr ⟨_, _, _, rfl⟩)⟩
    show (loopF O24 (sNth 4 ir_law) (prD (k, w)) _).bind _ = _
    rw [e1]; exact e2
noncomputable def sizesN : Nat → Nat
  | 0 => 3 | 1 => 4 | 2 => 3 | 3 => 2 | 4 => 3 | 5 => 1 | _ => 5
theorem size_ok : ∀ k, k < 7 → doIdx (.tuple [.int 3, .int 4, .int 3, .int 2, .int 3, .int 1, .int 5]) (nD k) = some (nD (sizesN k))
  | 0, _ => rfl | 1, _ => rfl | 2, _ => rfl | 3, _ => rfl | 4, _ => rfl | 5, _ => rfl | 6, _ => rfl
  | k + 7, h => absurd h (by lia)
theorem size_in : ∀ k, k < 7 → sizesN k ∈ [0, 1, 2, 3, 4, 5] ∧ 0 < sizesN k := by decide
theorem t_not {O : Orc} {S : PS} {t : Te} {p : Pos} {c : Bool} (h : evT O t S = some c) : evT O (.not t p) S = some (!c) := by
  show (evT O t S).map _ = _; rw [h]; rfl
theorem e_isTy {O : Orc} {S : PS} {e : Ex} {t : Ty} {p c f q : Pos} {d : D} {b : Bool} (h : ev O e S = some d) (hb : (tyName d == tyStr t) = b) : ev O (.isTy e t p c f q) S = some (.bool b) := by
  show (ev O e S).map _ = _; rw [h, ← hb]; rfl
theorem last_h (ns : List Nd) (r : List (List Nd)) : ∃ xs, doIdx (.list ((ns :: r).map nsD)) (.int (-1)) = some (nsD xs) := by
  have hi : r.length < (ns :: r).length := Nat.lt_succ_self _
  refine ⟨(ns :: r)[r.length], ?_⟩
  have e0 : (ns :: r)[r.length]? = some (ns :: r)[r.length] := List.getElem?_eq_getElem hi
  show atI ((ns :: r).map nsD) (-1) = _
  have : (((ns :: r).map nsD).length : Int) = (r.length : Int) + 1 := by rw [List.length_map]; rfl
  unfold atI
  rw [if_neg (by decide), if_pos (by rw [this]; lia), this, show ((-1 : Int) + ((r.length : Int) + 1)).toNat = r.length by lia, List.getElem?_map, e0]; rfl
noncomputable def pairsN (f : Nat → Int) : List (Int × Int) := [(f 1, f 6), (f 2, f 7), (f 3, f 8), (f 4, f 9), (f 5, f 10), (f 6, f 11), (f 7, f 12), (f 8, f 13), (f 9, f 14), (f 10, f 1), (f 11, f 2), (f 12, f 3), (f 13, f 4), (f 14, f 5)]
theorem at_f {ns : List Int} {i : Nat} (h : i < ns.length) : doIdx (.list (ns.map .int)) (nD i) = some (.int (ns.getD i 0)) := by
  refine idx_l (f := PyData.int) ?_
  rw [List.getD_eq_getElem?_getD, List.getElem?_eq_getElem h]; rfl
theorem pairs_ok {ns : List Int} (hl : 15 ≤ ns.length) {S : PS} (h50 : look 50 S.loc = some (.fz (.list (ns.map .int)))) : evSr O24 (srS (sNth 4 ir_law)) S = some ((pairsN fun i => ns.getD i 0).map prD) := by
  have g : ∀ (i : Nat) p q r, i < 15 → ev O24 (.idx (.v (.var 50 p)) (.lit (.int (i : Int)) q) r) S = some (.int (ns.getD i 0)) := fun i p q r hi => e_idx (q_v (e_var h50)) rfl (at_f (Nat.lt_of_lt_of_le hi hl))
  have t : ∀ (i j : Nat) p q r p' q' r' u, i < 15 → j < 15 → ev O24 (.tup (.cons (.idx (.v (.var 50 p)) (.lit (.int (i : Int)) q) r) (.cons (.idx (.v (.var 50 p')) (.lit (.int (j : Int)) q') r') .nil)) u) S = some (prD (ns.getD i 0, ns.getD j 0)) := fun i j p q r p' q' r' u hi hj => e_tup (es_cons (g i p q r hi) (es_cons (g j p' q' r' hj) rfl))
  exact s_seq (q_v (e_lst (es_cons (t 1 6 _ _ _ _ _ _ _ (by decide) (by decide)) (es_cons (t 2 7 _ _ _ _ _ _ _ (by decide) (by decide)) (es_cons (t 3 8 _ _ _ _ _ _ _ (by decide) (by decide)) (es_cons (t 4 9 _ _ _ _ _ _ _ (by decide) (by decide)) (es_cons (t 5 10 _ _ _ _ _ _ _ (by decide) (by decide)) (es_cons (t 6 11 _ _ _ _ _ _ _ (by decide) (by decide)) (es_cons (t 7 12 _ _ _ _ _ _ _ (by decide) (by decide))
    (es_cons (t 8 13 _ _ _ _ _ _ _ (by decide) (by decide)) (es_cons (t 9 14 _ _ _ _ _ _ _ (by decide) (by decide)) (es_cons (t 10 1 _ _ _ _ _ _ _ (by decide) (by decide)) (es_cons (t 11 2 _ _ _ _ _ _ _ (by decide) (by decide)) (es_cons (t 12 3 _ _ _ _ _ _ _ (by decide) (by decide)) (es_cons (t 13 4 _ _ _ _ _ _ _ (by decide) (by decide)) (es_cons (t 14 5 _ _ _ _ _ _ _ (by decide) (by decide)) rfl)))))))))))))))) rfl
theorem law_long (ns : List Int) (hl : 15 ≤ ns.length) : F_law [.list (ns.map .int)] = some (.bool true) := by
  have hk := cut_lt (i := ns.getD 0 0) (n := 7) (by decide)
  have hsz := size_in _ hk
  obtain ⟨size, hsize⟩ : ∃ size, size = sizesN (cutAt (ns.getD 0 0) 7) := ⟨_, rfl⟩
  rw [← hsize] at hsz
  obtain ⟨hs, h0⟩ := hsz
  obtain ⟨head, acts, z, e1, h1, h2, hz0⟩ := law_loop (ns := ns) h0 (pairsN fun i => ns.getD i 0) 0 [] [] h0 (fun _ h => nomatch h) (show 84 ≤ 900 by decide) (.inl rfl)
  obtain ⟨za, zb, zc, rfl⟩ := hz0 (.inl (by unfold pairsN; exact fun h => nomatch h))
  have eA : evSr O24 (srS (sNth 4 ir_law)) ⟨lb ns size 0 [] [], []⟩ = some ((pairsN fun i => ns.getD i 0).map prD) := pairs_ok hl rfl
  have eS : ev O24 (match sNth 1 ir_law with | .asg _ _ e _ _ => e | _ => .lit .none ⟨0, 0, 0, 0⟩) ⟨[(50, .fz (.list (ns.map .int)))], []⟩ = some (nD size) := by
    rw [hsize]
    exact e_idx rfl (e_bin (q_v (e_idx rfl rfl (at_f (i := 0) (Nat.lt_of_lt_of_le (by decide) hl)))) rfl (b_mod (n := 7) (by decide))) (size_ok _ hk)
  obtain ⟨xs, hxs⟩ := last_h (s0 size).nodes (histS (s0 size) acts)
  let Z : Al := lb ns size head acts [(33, .fz za), (63, .fz zb), (91, .fz zc)] ++ [(93, .fz (.list (acts.map actD))), (94, .fz (resD size acts))]
  have hZ : ∀ x v, (x = 45 ∨ x = 82) → putO x (.fz v) Z = some (Z ++ [(x, .fz v)]) ∧ ∀ u, putO x (.fz v) (Z ++ [(x, .fz u)]) = some (Z ++ [(x, .fz v)]) := by
    intro x v hx
    rcases hx with rfl | rfl <;> exact ⟨rfl, fun _ => rfl⟩
  have v94 : ∀ O p y, ev O (.var 94 p) ⟨Z ++ y, []⟩ = some (resD size acts) := by
    intro O p y; rfl
  have v94' : ∀ O p, ev O (.var 94 p) ⟨Z, []⟩ = some (resD size acts) := by
    intro O p; rfl
  have eN : ∃ y, forL (loopF O24 (sNth 9 ir_law)) (xs.map ndD) ⟨Z, []⟩ = some (.next, ⟨Z ++ y, []⟩) ∧ (y = [] ∨ ∃ u, y = [(45, .fz u)]) := by
    obtain ⟨⟨l', o'⟩, e, hi, ho⟩ := forL_pre (α := Nd) ndD (f := loopF O24 (sNth 9 ir_law)) (L := xs) (fun _ S => (∃ y, S.loc = Z ++ y ∧ (y = [] ∨ ∃ u, y = [(45, .fz u)])) ∧ S.ob = []) (fun d n r S _ hi => by
      obtain ⟨loc, ob⟩ := S
      obtain ⟨⟨y, hy, hy'⟩, ho⟩ := hi
      have hy : loc = _ := hy
      have ho : ob = _ := ho
      subst hy ho
      have v45 : ∀ O p, ev O (.var 45 p) ⟨Z ++ [(45, .fz (ndD n))], []⟩ = some (ndD n) := by
        intro O p; rfl
      refine ⟨⟨Z ++ [(45, .fz (ndD n))], []⟩, x_loop (l := Z ++ [(45, .fz (ndD n))]) ?_ (x_next (x_ifF (t_not (c := true) (t_all (al_t (t_v (e_isTy (d := nD n.term) (b := true) (e_idx (q_v (v45 ..)) rfl rfl) (show ("int" == "int") = true by decide +kernel)) rfl) (al_t (t_v (e_isTy (d := nD n.commit) (b := true) (e_idx (q_v (v45 ..)) rfl rfl) (show ("int" == "int") = true by decide +kernel)) rfl) rfl)))) rfl) (x_next (x_ifF (t_not (c := true) (t_any ?_)) rfl) rfl)), ⟨_, rfl, .inr ⟨_, rfl⟩⟩, rfl⟩
      · rcases hy' with rfl | ⟨u, rfl⟩
        · show putO 45 _ (Z ++ []) = _; rw [List.append_nil]; exact (hZ 45 _ (.inl rfl)).1
        · exact (hZ 45 _ (.inl rfl)).2 u
      · obtain ⟨me, sz, term, voted, log, commit, rl⟩ := n
        cases voted with
        | none => exact an_t (t_v (e_isNone (v := none) (e_idx (q_v (v45 ..)) rfl rfl)) rfl)
        | some i => exact an_f (t_v (e_isNone (v := some i) (e_idx (q_v (v45 ..)) rfl rfl)) rfl) (an_t (t_v (e_isTy (b := true) (e_idx (q_v (v45 ..)) rfl rfl) (show ("int" == "int") = true by decide +kernel)) rfl))) xs [] ⟨Z, []⟩ rfl ⟨⟨[], (List.append_nil _).symm, .inl rfl⟩, rfl⟩
    obtain ⟨y, hy, hy'⟩ := hi
    have hy : l' = _ := hy
    have ho : o' = _ := ho
    subst hy ho
    exact ⟨y, e, hy'⟩
  obtain ⟨y, eN, hy⟩ := eN
  have eM : ∃ S, forL (loopF O24 (sNth 10 ir_law)) ((runS (s0 size) acts).way.map msD) ⟨Z ++ y, []⟩ = some (.next, S) := by
    obtain ⟨S', e, -⟩ := forL_pre (α := Ms) msD (f := loopF O24 (sNth 10 ir_law)) (L := (runS (s0 size) acts).way) (fun _ S => (∃ y', S.loc = Z ++ y ++ y' ∧ (y' = [] ∨ ∃ u, y' = [(82, .fz u)])) ∧ S.ob = []) (fun d m r S _ hi => by
      obtain ⟨loc, ob⟩ := S
      obtain ⟨⟨y', hy1, hy2⟩, ho⟩ := hi
      have hy1 : loc = _ := hy1
      have ho : ob = _ := ho
      subst hy1 ho
      have v82 : ∀ O p, ev O (.var 82 p) ⟨Z ++ y ++ [(82, .fz (msD m))], []⟩ = some (msD m) := by
        intro O p; rcases hy with rfl | ⟨u, rfl⟩ <;> rfl
      refine ⟨⟨Z ++ y ++ [(82, .fz (msD m))], []⟩, x_loop (l := Z ++ y ++ [(82, .fz (msD m))]) ?_ (x_next (x_ifF (t_all ?_) rfl) rfl), ⟨_, rfl, .inr ⟨_, rfl⟩⟩, rfl⟩
      · rcases hy with rfl | ⟨u, rfl⟩ <;> rcases hy2 with rfl | ⟨u, rfl⟩ <;> rfl
      · cases m with
        | ask => exact al_f (t_cmp (q_v (e_idx (q_v (v82 ..)) rfl rfl)) rfl (by decide +kernel))
        | app => exact al_f (t_cmp (q_v (e_idx (q_v (v82 ..)) rfl rfl)) rfl (by decide +kernel))
        | vote t f j ok => exact al_t (t_cmp (q_v (e_idx (q_v (v82 ..)) rfl rfl)) rfl (by decide +kernel)) (al_f (t_not (c := true) (t_v (e_isTy (b := true) (e_idx (q_v (v82 ..)) rfl rfl) (show ("bool" == "bool") = true by decide +kernel)) rfl)))
        | done t f j ok e => exact al_t (t_cmp (q_v (e_idx (q_v (v82 ..)) rfl rfl)) rfl (by decide +kernel)) (al_f (t_not (c := true) (t_v (e_isTy (b := true) (e_idx (q_v (v82 ..)) rfl rfl) (show ("bool" == "bool") = true by decide +kernel)) rfl)))) (runS (s0 size) acts).way [] ⟨Z ++ y, []⟩ rfl ⟨⟨[], (List.append_nil _).symm, .inl rfl⟩, rfl⟩
    exact ⟨S', e⟩
  obtain ⟨S, eM⟩ := eM
  refine r_fn (l := [(50, .fz (.list (ns.map .int)))]) (f := .ret (.bool true)) (S := S) rfl (x_next (x_ifF (t_cmp (q_v (e_b1 rfl len_l)) rfl (c_lt (b := 15) |>.trans (congrArg some (decide_eq_false ?_)))) rfl) (x_next (x_asg eS rfl) (x_next (x_asg rfl rfl) (x_next (S1 := ⟨lb ns size 0 [] [], []⟩) (x_asg rfl rfl) (x_next (x_for eA e1) (x_next (S1 := ⟨lb ns size head acts [(33, .fz za), (63, .fz zb), (91, .fz zc)] ++ [(93, .fz (.list (acts.map actD)))], []⟩) (x_asg (d := .list (acts.map actD)) rfl ?_) (x_next (S1 := ⟨Z, []⟩) (x_asg (d := resD size acts) (e_call (F := F_play) rfl ?_ (play_ok hs h2 h1)) ?_) (x_next (x_ifF ?_ rfl) (x_next (x_ifF ?_ rfl) (x_next (x_for (s_seq (q_v (e_idx (q_v (e_idx (q_v (v94' ..)) rfl rfl)) rfl hxs)) rfl) eN) (x_next (x_for (s_seq (q_v (e_idx (q_v (v94 ..)) rfl rfl)) rfl) eM) (x_ret (e_ret rfl))))))))))))) rfl
  · exact Nat.not_lt.mpr hl
  · rfl
  · rfl
  · rfl
  · exact t_cmp rfl rfl (c_acts acts)
  · exact t_cmp rfl (q_v (e_call (F := F_law_reckon) rfl rfl (reckon_ok hs h2 h1))) (c_res size acts)
theorem law_true (ns : List Int) (h : ns.length ≤ 63) : F_law [.list (ns.map .int)] = some (.bool true) := by
  by_cases hs : ns.length < 15
  · exact r_fn (l := [(50, .fz (.list (ns.map .int)))]) (f := .ret (.bool true)) rfl (x_ret (x_ifT (t_cmp (q_v (e_b1 rfl len_l)) rfl (c_lt (b := 15) |>.trans (congrArg some (decide_eq_true hs)))) (x_ret (e_ret rfl)))) rfl
  · exact law_long ns (Nat.not_lt.mp hs)
end Mine
end
section
set_option maxRecDepth 100000
set_option backward.match.sparseCases false
namespace Mine
open PySem PySem.Calls PySem.Spec PyProof.Rows PySem.W
section
theorem mem_of_lookup {α β : Type} [BEq α] [LawfulBEq α] {x : α} {y : β} : ∀ {l : List (α × β)}, l.lookup x = some y → (x, y) ∈ l := by
  intro l0
  induction l0 with
  | nil =>
    intro h
    exact nomatch h
  | cons q0 r ih =>
    obtain ⟨a, b⟩ := q0
    intro h
    rw [List.lookup_cons] at h
    by_cases e : x = a
    · subst e; rw [beq_self_eq_true] at h; cases h; exact List.mem_cons_self ..
    · rw [beq_eq_false_iff_ne.mpr e] at h; exact List.mem_cons_of_mem _ (ih h)
theorem len1 {vals : List Value} (h : vals.length = 1) : ∃ v0, vals = [v0] := List.length_eq_one_iff.mp h
theorem len2 {vals : List Value} (h : vals.length = 2) : ∃ v0 v1, vals = [v0, v1] := by
  obtain ⟨v0, r, rfl⟩ := List.exists_cons_of_length_eq_add_one h
  obtain ⟨v1, rfl⟩ := len1 (Nat.succ.inj h)
  exact ⟨v0, v1, rfl⟩
theorem len3 {vals : List Value} (h : vals.length = 3) : ∃ v0 v1 v2, vals = [v0, v1, v2] := by
  obtain ⟨v0, r, rfl⟩ := List.exists_cons_of_length_eq_add_one h
  obtain ⟨v1, v2, rfl⟩ := len2 (Nat.succ.inj h)
  exact ⟨v0, v1, v2, rfl⟩
theorem len4 {vals : List Value} (h : vals.length = 4) : ∃ v0 v1 v2 v3, vals = [v0, v1, v2, v3] := by
  obtain ⟨v0, r, rfl⟩ := List.exists_cons_of_length_eq_add_one h
  obtain ⟨v1, v2, v3, rfl⟩ := len3 (Nat.succ.inj h)
  exact ⟨v0, v1, v2, v3, rfl⟩
theorem len5 {vals : List Value} (h : vals.length = 5) : ∃ v0 v1 v2 v3 v4, vals = [v0, v1, v2, v3, v4] := by
  obtain ⟨v0, r, rfl⟩ := List.exists_cons_of_length_eq_add_one h
  obtain ⟨v1, v2, v3, v4, rfl⟩ := len4 (Nat.succ.inj h)
  exact ⟨v0, v1, v2, v3, v4, rfl⟩
theorem len6 {vals : List Value} (h : vals.length = 6) : ∃ v0 v1 v2 v3 v4 v5, vals = [v0, v1, v2, v3, v4, v5] := by
  obtain ⟨v0, r, rfl⟩ := List.exists_cons_of_length_eq_add_one h
  obtain ⟨v1, v2, v3, v4, v5, rfl⟩ := len5 (Nat.succ.inj h)
  exact ⟨v0, v1, v2, v3, v4, v5, rfl⟩
theorem nf_of {ns : List (Str × NameKind)} (h : (ns.all fun p => !(p.2 == NameKind.free)) = true) (x : Str) : ns.lookup x ≠ some .free := fun e => by
  have := List.all_eq_true.mp h _ (mem_of_lookup e)
  cases this
section
variable [GOK]
theorem D_init : DefAt 28 ps_init ir_init fd_init where
  obj := ⟨.type "function", none, #[], by kernel_rfl⟩
  fd := { body := rfl, clo := rfl, glob := rfl, blt := rfl, kind := rfl, co := rfl, gen := rfl, code := by kernel_rfl, bind := fun vals h => by
            obtain ⟨v0, v1, rfl⟩ := len2 h
            rfl, nd := by decide +kernel, pk := (show (ps_init.all fun x => kW fd_init.scope.names (T x)) = true by decide +kernel), nf := nf_of (by decide +kernel) }
theorem D_others : DefAt 54 ps_others ir_others fd_others where
  obj := ⟨.type "function", none, #[], by kernel_rfl⟩
  fd := { body := rfl, clo := rfl, glob := rfl, blt := rfl, kind := rfl, co := rfl, gen := rfl, code := by kernel_rfl, bind := fun vals h => by
            obtain ⟨v0, rfl⟩ := len1 h
            rfl, nd := by decide +kernel, pk := (show (ps_others.all fun x => kW fd_others.scope.names (T x)) = true by decide +kernel), nf := nf_of (by decide +kernel) }
theorem D_term_at : DefAt 49 ps_term_at ir_term_at fd_term_at where
  obj := ⟨.type "function", none, #[], by kernel_rfl⟩
  fd := { body := rfl, clo := rfl, glob := rfl, blt := rfl, kind := rfl, co := rfl, gen := rfl, code := by kernel_rfl, bind := fun vals h => by
            obtain ⟨v0, v1, rfl⟩ := len2 h
            rfl, nd := by decide +kernel, pk := (show (ps_term_at.all fun x => kW fd_term_at.scope.names (T x)) = true by decide +kernel), nf := nf_of (by decide +kernel) }
theorem D_send_append : DefAt 61 ps_send_append ir_send_append fd_send_append where
  obj := ⟨.type "function", none, #[], by kernel_rfl⟩
  fd := { body := rfl, clo := rfl, glob := rfl, blt := rfl, kind := rfl, co := rfl, gen := rfl, code := by kernel_rfl, bind := fun vals h => by
            obtain ⟨v0, v1, rfl⟩ := len2 h
            rfl, nd := by decide +kernel, pk := (show (ps_send_append.all fun x => kW fd_send_append.scope.names (T x)) = true by decide +kernel), nf := nf_of (by decide +kernel) }
theorem D_beat : DefAt 68 ps_beat ir_beat fd_beat where
  obj := ⟨.type "function", none, #[], by kernel_rfl⟩
  fd := { body := rfl, clo := rfl, glob := rfl, blt := rfl, kind := rfl, co := rfl, gen := rfl, code := by kernel_rfl, bind := fun vals h => by
            obtain ⟨v0, rfl⟩ := len1 h
            rfl, nd := by decide +kernel, pk := (show (ps_beat.all fun x => kW fd_beat.scope.names (T x)) = true by decide +kernel), nf := nf_of (by decide +kernel) }
theorem D_maybe_lead : DefAt 75 ps_maybe_lead ir_maybe_lead fd_maybe_lead where
  obj := ⟨.type "function", none, #[], by kernel_rfl⟩
  fd := { body := rfl, clo := rfl, glob := rfl, blt := rfl, kind := rfl, co := rfl, gen := rfl, code := by kernel_rfl, bind := fun vals h => by
            obtain ⟨v0, rfl⟩ := len1 h
            rfl, nd := by decide +kernel, pk := (show (ps_maybe_lead.all fun x => kW fd_maybe_lead.scope.names (T x)) = true by decide +kernel), nf := nf_of (by decide +kernel) }
theorem D_follow : DefAt 87 ps_follow ir_follow fd_follow where
  obj := ⟨.type "function", none, #[], by kernel_rfl⟩
  fd := { body := rfl, clo := rfl, glob := rfl, blt := rfl, kind := rfl, co := rfl, gen := rfl, code := by kernel_rfl, bind := fun vals h => by
            obtain ⟨v0, rfl⟩ := len1 h
            rfl, nd := by decide +kernel, pk := (show (ps_follow.all fun x => kW fd_follow.scope.names (T x)) = true by decide +kernel), nf := nf_of (by decide +kernel) }
theorem D_last : DefAt 42 ps_last ir_last fd_last where
  obj := ⟨.type "function", none, #[], by kernel_rfl⟩
  fd := { body := rfl, clo := rfl, glob := rfl, blt := rfl, kind := rfl, co := rfl, gen := rfl, code := by kernel_rfl, bind := fun vals h => by
            obtain ⟨v0, rfl⟩ := len1 h
            rfl, nd := by decide +kernel, pk := (show (ps_last.all fun x => kW fd_last.scope.names (T x)) = true by decide +kernel), nf := nf_of (by decide +kernel) }
theorem D_look : DefAt 80 ps_look ir_look fd_look where
  obj := ⟨.type "function", none, #[], by kernel_rfl⟩
  fd := { body := rfl, clo := rfl, glob := rfl, blt := rfl, kind := rfl, co := rfl, gen := rfl, code := by kernel_rfl, bind := fun vals h => by
            obtain ⟨v0, rfl⟩ := len1 h
            rfl, nd := by decide +kernel, pk := (show (ps_look.all fun x => kW fd_look.scope.names (T x)) = true by decide +kernel), nf := nf_of (by decide +kernel) }
theorem D_receive : DefAt 101 ps_receive ir_receive fd_receive where
  obj := ⟨.type "function", none, #[], by kernel_rfl⟩
  fd := { body := rfl, clo := rfl, glob := rfl, blt := rfl, kind := rfl, co := rfl, gen := rfl, code := by kernel_rfl, bind := fun vals h => by
            obtain ⟨v0, v1, rfl⟩ := len2 h
            rfl, nd := by decide +kernel, pk := (show (ps_receive.all fun x => kW fd_receive.scope.names (T x)) = true by decide +kernel), nf := nf_of (by decide +kernel) }
theorem D_handle : DefAt 94 ps_handle ir_handle fd_handle where
  obj := ⟨.type "function", none, #[], by kernel_rfl⟩
  fd := { body := rfl, clo := rfl, glob := rfl, blt := rfl, kind := rfl, co := rfl, gen := rfl, code := by kernel_rfl, bind := fun vals h => by
            obtain ⟨v0, v1, rfl⟩ := len2 h
            rfl, nd := by decide +kernel, pk := (show (ps_handle.all fun x => kW fd_handle.scope.names (T x)) = true by decide +kernel), nf := nf_of (by decide +kernel) }
theorem D_tup : DefAt 35 ps_tup ir_tup fd_tup where
  obj := ⟨.type "function", none, #[], by kernel_rfl⟩
  fd := { body := rfl, clo := rfl, glob := rfl, blt := rfl, kind := rfl, co := rfl, gen := rfl, code := by kernel_rfl, bind := fun vals h => by
            obtain ⟨v0, rfl⟩ := len1 h
            rfl, nd := by decide +kernel, pk := (show (ps_tup.all fun x => kW fd_tup.scope.names (T x)) = true by decide +kernel), nf := nf_of (by decide +kernel) }
theorem D_step : DefAt 122 ps_step ir_step fd_step where
  obj := ⟨.type "function", none, #[], by kernel_rfl⟩
  fd := { body := rfl, clo := rfl, glob := rfl, blt := rfl, kind := rfl, co := rfl, gen := rfl, code := by kernel_rfl, bind := fun vals h => by
            obtain ⟨v0, v1, rfl⟩ := len2 h
            rfl, nd := by decide +kernel, pk := (show (ps_step.all fun x => kW fd_step.scope.names (T x)) = true by decide +kernel), nf := nf_of (by decide +kernel) }
theorem D_fresh : DefAt 115 ps_fresh ir_fresh fd_fresh where
  obj := ⟨.type "function", none, #[], by kernel_rfl⟩
  fd := { body := rfl, clo := rfl, glob := rfl, blt := rfl, kind := rfl, co := rfl, gen := rfl, code := by kernel_rfl, bind := fun vals h => by
            obtain ⟨v0, v1, rfl⟩ := len2 h
            rfl, nd := by decide +kernel, pk := (show (ps_fresh.all fun x => kW fd_fresh.scope.names (T x)) = true by decide +kernel), nf := nf_of (by decide +kernel) }
theorem D_play : DefAt 127 ps_play ir_play fd_play where
  obj := ⟨.type "function", none, #[], by kernel_rfl⟩
  fd := { body := rfl, clo := rfl, glob := rfl, blt := rfl, kind := rfl, co := rfl, gen := rfl, code := by kernel_rfl, bind := fun vals h => by
            obtain ⟨v0, v1, rfl⟩ := len2 h
            rfl, nd := by decide +kernel, pk := (show (ps_play.all fun x => kW fd_play.scope.names (T x)) = true by decide +kernel), nf := nf_of (by decide +kernel) }
theorem D_law_moves : DefAt 178 ps_law_moves ir_law_moves fd_law_moves where
  obj := ⟨.type "function", none, #[], by kernel_rfl⟩
  fd := { body := rfl, clo := rfl, glob := rfl, blt := rfl, kind := rfl, co := rfl, gen := rfl, code := by kernel_rfl, bind := fun vals h => by
            obtain ⟨v0, v1, v2, v3, rfl⟩ := len4 h
            rfl, nd := by decide +kernel, pk := (show (ps_law_moves.all fun x => kW fd_law_moves.scope.names (T x)) = true by decide +kernel), nf := nf_of (by decide +kernel) }
theorem D_law_entry : DefAt 185 ps_law_entry ir_law_entry fd_law_entry where
  obj := ⟨.type "function", none, #[], by kernel_rfl⟩
  fd := { body := rfl, clo := rfl, glob := rfl, blt := rfl, kind := rfl, co := rfl, gen := rfl, code := by kernel_rfl, bind := fun vals h => by
            obtain ⟨v0, v1, rfl⟩ := len2 h
            rfl, nd := by decide +kernel, pk := (show (ps_law_entry.all fun x => kW fd_law_entry.scope.names (T x)) = true by decide +kernel), nf := nf_of (by decide +kernel) }
theorem D_law_appends : DefAt 192 ps_law_appends ir_law_appends fd_law_appends where
  obj := ⟨.type "function", none, #[], by kernel_rfl⟩
  fd := { body := rfl, clo := rfl, glob := rfl, blt := rfl, kind := rfl, co := rfl, gen := rfl, code := by kernel_rfl, bind := fun vals h => by
            obtain ⟨v0, v1, v2, v3, v4, v5, rfl⟩ := len6 h
            rfl, nd := by decide +kernel, pk := (show (ps_law_appends.all fun x => kW fd_law_appends.scope.names (T x)) = true by decide +kernel), nf := nf_of (by decide +kernel) }
theorem D_law_won : DefAt 202 ps_law_won ir_law_won fd_law_won where
  obj := ⟨.type "function", none, #[], by kernel_rfl⟩
  fd := { body := rfl, clo := rfl, glob := rfl, blt := rfl, kind := rfl, co := rfl, gen := rfl, code := by kernel_rfl, bind := fun vals h => by
            obtain ⟨v0, v1, v2, v3, v4, v5, rfl⟩ := len6 h
            rfl, nd := by decide +kernel, pk := (show (ps_law_won.all fun x => kW fd_law_won.scope.names (T x)) = true by decide +kernel), nf := nf_of (by decide +kernel) }
theorem D_law_reached : DefAt 197 ps_law_reached ir_law_reached fd_law_reached where
  obj := ⟨.type "function", none, #[], by kernel_rfl⟩
  fd := { body := rfl, clo := rfl, glob := rfl, blt := rfl, kind := rfl, co := rfl, gen := rfl, code := by kernel_rfl, bind := fun vals h => by
            obtain ⟨v0, v1, v2, v3, rfl⟩ := len4 h
            rfl, nd := by decide +kernel, pk := (show (ps_law_reached.all fun x => kW fd_law_reached.scope.names (T x)) = true by decide +kernel), nf := nf_of (by decide +kernel) }
theorem D_law_tell : DefAt 214 ps_law_tell ir_law_tell fd_law_tell where
  obj := ⟨.type "function", none, #[], by kernel_rfl⟩
  fd := { body := rfl, clo := rfl, glob := rfl, blt := rfl, kind := rfl, co := rfl, gen := rfl, code := by kernel_rfl, bind := fun vals h => by
            obtain ⟨v0, v1, rfl⟩ := len2 h
            rfl, nd := by decide +kernel, pk := (show (ps_law_tell.all fun x => kW fd_law_tell.scope.names (T x)) = true by decide +kernel), nf := nf_of (by decide +kernel) }
theorem D_law_take : DefAt 209 ps_law_take ir_law_take fd_law_take where
  obj := ⟨.type "function", none, #[], by kernel_rfl⟩
  fd := { body := rfl, clo := rfl, glob := rfl, blt := rfl, kind := rfl, co := rfl, gen := rfl, code := by kernel_rfl, bind := fun vals h => by
            obtain ⟨v0, v1, v2, v3, v4, rfl⟩ := len5 h
            rfl, nd := by decide +kernel, pk := (show (ps_law_take.all fun x => kW fd_law_take.scope.names (T x)) = true by decide +kernel), nf := nf_of (by decide +kernel) }
theorem D_law_hear : DefAt 219 ps_law_hear ir_law_hear fd_law_hear where
  obj := ⟨.type "function", none, #[], by kernel_rfl⟩
  fd := { body := rfl, clo := rfl, glob := rfl, blt := rfl, kind := rfl, co := rfl, gen := rfl, code := by kernel_rfl, bind := fun vals h => by
            obtain ⟨v0, v1, rfl⟩ := len2 h
            rfl, nd := by decide +kernel, pk := (show (ps_law_hear.all fun x => kW fd_law_hear.scope.names (T x)) = true by decide +kernel), nf := nf_of (by decide +kernel) }
theorem D_law_reckon : DefAt 224 ps_law_reckon ir_law_reckon fd_law_reckon where
  obj := ⟨.type "function", none, #[], by kernel_rfl⟩
  fd := { body := rfl, clo := rfl, glob := rfl, blt := rfl, kind := rfl, co := rfl, gen := rfl, code := by kernel_rfl, bind := fun vals h => by
            obtain ⟨v0, v1, rfl⟩ := len2 h
            rfl, nd := by decide +kernel, pk := (show (ps_law_reckon.all fun x => kW fd_law_reckon.scope.names (T x)) = true by decide +kernel), nf := nf_of (by decide +kernel) }
theorem D_law : DefAt 231 ps_law ir_law fd_law where
  obj := ⟨.type "function", none, #[], by kernel_rfl⟩
  fd := { body := rfl, clo := rfl, glob := rfl, blt := rfl, kind := rfl, co := rfl, gen := rfl, code := by kernel_rfl, bind := fun vals h => by
            obtain ⟨v0, rfl⟩ := len1 h
            rfl, nd := by decide +kernel, pk := (show (ps_law.all fun x => kW fd_law.scope.names (T x)) = true by decide +kernel), nf := nf_of (by decide +kernel) }
theorem cls_ok : ClsOK 47 := ⟨by kernel_rfl, by kernel_rfl, by kernel_rfl, rfl⟩
theorem M_init : MethAt 0 28 := ⟨by kernel_rfl, by kernel_rfl, by kernel_rfl, by kernel_rfl, (show ¬ 0 ∈ ats by decide +kernel)⟩
theorem W_init : wfMs T fd_init.scope.names ats 47 ir_init = true := by decide +kernel
theorem M_others : MethAt 17 54 := ⟨by kernel_rfl, by kernel_rfl, by kernel_rfl, by kernel_rfl, (show ¬ 17 ∈ ats by decide +kernel)⟩
theorem W_others : wfMs T fd_others.scope.names ats 47 ir_others = true := by decide +kernel
theorem M_term_at : MethAt 15 49 := ⟨by kernel_rfl, by kernel_rfl, by kernel_rfl, by kernel_rfl, (show ¬ 15 ∈ ats by decide +kernel)⟩
theorem W_term_at : wfMs T fd_term_at.scope.names ats 47 ir_term_at = true := by decide +kernel
theorem M_send_append : MethAt 20 61 := ⟨by kernel_rfl, by kernel_rfl, by kernel_rfl, by kernel_rfl, (show ¬ 20 ∈ ats by decide +kernel)⟩
theorem W_send_append : wfMs T fd_send_append.scope.names ats 47 ir_send_append = true := by decide +kernel
theorem M_beat : MethAt 23 68 := ⟨by kernel_rfl, by kernel_rfl, by kernel_rfl, by kernel_rfl, (show ¬ 23 ∈ ats by decide +kernel)⟩
theorem W_beat : wfMs T fd_beat.scope.names ats 47 ir_beat = true := by decide +kernel
theorem M_maybe_lead : MethAt 24 75 := ⟨by kernel_rfl, by kernel_rfl, by kernel_rfl, by kernel_rfl, (show ¬ 24 ∈ ats by decide +kernel)⟩
theorem W_maybe_lead : wfMs T fd_maybe_lead.scope.names ats 47 ir_maybe_lead = true := by decide +kernel
theorem M_follow : MethAt 28 87 := ⟨by kernel_rfl, by kernel_rfl, by kernel_rfl, by kernel_rfl, (show ¬ 28 ∈ ats by decide +kernel)⟩
theorem W_follow : wfMs T fd_follow.scope.names ats 47 ir_follow = true := by decide +kernel
theorem M_last : MethAt 14 42 := ⟨by kernel_rfl, by kernel_rfl, by kernel_rfl, by kernel_rfl, (show ¬ 14 ∈ ats by decide +kernel)⟩
theorem W_last : wfMs T fd_last.scope.names ats 47 ir_last = true := by decide +kernel
theorem M_look : MethAt 25 80 := ⟨by kernel_rfl, by kernel_rfl, by kernel_rfl, by kernel_rfl, (show ¬ 25 ∈ ats by decide +kernel)⟩
theorem W_look : wfMs T fd_look.scope.names ats 47 ir_look = true := by decide +kernel
theorem M_receive : MethAt 31 101 := ⟨by kernel_rfl, by kernel_rfl, by kernel_rfl, by kernel_rfl, (show ¬ 31 ∈ ats by decide +kernel)⟩
theorem W_receive : wfMs T fd_receive.scope.names ats 47 ir_receive = true := by decide +kernel
theorem M_handle : MethAt 29 94 := ⟨by kernel_rfl, by kernel_rfl, by kernel_rfl, by kernel_rfl, (show ¬ 29 ∈ ats by decide +kernel)⟩
theorem W_handle : wfMs T fd_handle.scope.names ats 47 ir_handle = true := by decide +kernel
theorem M_tup : MethAt 12 35 := ⟨by kernel_rfl, by kernel_rfl, by kernel_rfl, by kernel_rfl, (show ¬ 12 ∈ ats by decide +kernel)⟩
theorem W_tup : wfMs T fd_tup.scope.names ats 47 ir_tup = true := by decide +kernel
theorem W_step : wfMs T fd_step.scope.names ats 47 ir_step = true := by decide +kernel
theorem W_fresh : wfMs T fd_fresh.scope.names ats 47 ir_fresh = true := by decide +kernel
theorem W_play : wfMs T fd_play.scope.names ats 47 ir_play = true := by decide +kernel
theorem W_law_moves : wfMs T fd_law_moves.scope.names ats 47 ir_law_moves = true := by decide +kernel
theorem W_law_entry : wfMs T fd_law_entry.scope.names ats 47 ir_law_entry = true := by decide +kernel
theorem W_law_appends : wfMs T fd_law_appends.scope.names ats 47 ir_law_appends = true := by decide +kernel
theorem W_law_won : wfMs T fd_law_won.scope.names ats 47 ir_law_won = true := by decide +kernel
theorem W_law_reached : wfMs T fd_law_reached.scope.names ats 47 ir_law_reached = true := by decide +kernel
theorem W_law_tell : wfMs T fd_law_tell.scope.names ats 47 ir_law_tell = true := by decide +kernel
theorem W_law_take : wfMs T fd_law_take.scope.names ats 47 ir_law_take = true := by decide +kernel
theorem W_law_hear : wfMs T fd_law_hear.scope.names ats 47 ir_law_hear = true := by decide +kernel
theorem W_law_reckon : wfMs T fd_law_reckon.scope.names ats 47 ir_law_reckon = true := by decide +kernel
theorem W_law : wfMs T fd_law.scope.names ats 47 ir_law = true := by decide +kernel
theorem h0 : SndM 0 O0 where
  gl x d e := by
    have e : gls x = some d := e
    unfold gls at e
    split at e
    · cases e; exact ⟨.ref 128, by kernel_rfl, (.tuple (n := 0) (GOK.X 128 _ (by kernel_rfl)) (fun h => h) (by decide) (.cons (.int 3 352) (.cons (.int 4 353) (.cons (.int 3 354) (.cons (.int 2 355) (.cons (.int 3 356) (.cons (.int 1 357) (.cons (.int 5 358) .nil))))))))⟩
    · cases e; exact ⟨.ref 171, by kernel_rfl, (.tuple (n := 0) (GOK.X 171 _ (by kernel_rfl)) (fun h => h) (by decide) (.cons (.tuple (n := 0) (GOK.X 134 _ (by kernel_rfl)) (fun h => h) (by decide) (.cons (.str "timeout" 360 (by decide +kernel)) (.cons (.tuple (n := 0) (GOK.X 133 _ (by kernel_rfl)) (fun h => h) (by decide) (.cons (.tuple (n := 0) (GOK.X 129 _ (by kernel_rfl)) (fun h => h) (by decide) (.cons (.str "deliver" 361 (by decide +kernel)) (.cons (.int (-1) 363) .nil))) (.cons (.tuple (n := 0) (GOK.X 130 _ (by kernel_rfl)) (fun h => h) (by decide) (.cons (.str "deliver" 364 (by decide +kernel)) (.cons (.int (-1) 366) .nil))) (.cons (.tuple (n := 0) (GOK.X 131 _ (by kernel_rfl)) (fun h => h) (by decide) (.cons (.str "deliver" 367 (by decide +kernel)) (.cons (.int (-1) 369) .nil))) (.cons (.tuple (n := 0) (GOK.X 132 _ (by kernel_rfl)) (fun h => h) (by decide) (.cons (.str "deliver" 370 (by decide +kernel)) (.cons (.int (-1) 372) .nil))) .nil))))) .nil))) (.cons (.tuple (n := 0) (GOK.X 138 _ (by kernel_rfl)) (fun h => h) (by decide) (.cons (.str "propose" 373 (by decide +kernel)) (.cons (.tuple (n := 0) (GOK.X 137 _ (by kernel_rfl)) (fun h => h) (by decide) (.cons (.tuple (n := 0) (GOK.X 135 _ (by kernel_rfl)) (fun h => h) (by decide) (.cons (.str "deliver" 374 (by decide +kernel)) (.cons (.int (-1) 376) .nil))) (.cons (.tuple (n := 0) (GOK.X 136 _ (by kernel_rfl)) (fun h => h) (by decide) (.cons (.str "deliver" 377 (by decide +kernel)) (.cons (.int (-1) 379) .nil))) .nil))) .nil))) (.cons (.tuple (n := 0) (GOK.X 144 _ (by kernel_rfl)) (fun h => h) (by decide) (.cons (.str "timeout" 380 (by decide +kernel)) (.cons (.tuple (n := 0) (GOK.X 143 _ (by kernel_rfl)) (fun h => h) (by decide) (.cons (.tuple (n := 0) (GOK.X 139 _ (by kernel_rfl)) (fun h => h) (by decide) (.cons (.str "deliver" 381 (by decide +kernel)) (.cons (.int (-2) 383) .nil))) (.cons (.tuple (n := 0) (GOK.X 140 _ (by kernel_rfl)) (fun h => h) (by decide) (.cons (.str "deliver" 384 (by decide +kernel)) (.cons (.int (-1) 386) .nil))) (.cons (.tuple (n := 0) (GOK.X 141 _ (by kernel_rfl)) (fun h => h) (by decide) (.cons (.str "deliver" 387 (by decide +kernel)) (.cons (.int (-2) 389) .nil))) (.cons (.tuple (n := 0) (GOK.X 142 _ (by kernel_rfl)) (fun h => h) (by decide) (.cons (.str "deliver" 390 (by decide +kernel)) (.cons (.int (-1) 392) .nil))) .nil))))) .nil))) (.cons (.tuple (n := 0) (GOK.X 146 _ (by kernel_rfl)) (fun h => h) (by decide) (.cons (.str "put" 393 (by decide +kernel)) (.cons (.tuple (n := 0) (GOK.X 145 _ (by kernel_rfl)) (fun h => h) (by decide) .nil) .nil))) (.cons (.tuple (n := 0) (GOK.X 148 _ (by kernel_rfl)) (fun h => h) (by decide) (.cons (.str "deliver" 394 (by decide +kernel)) (.cons (.tuple (n := 0) (GOK.X 147 _ (by kernel_rfl)) (fun h => h) (by decide) .nil) .nil))) (.cons (.tuple (n := 0) (GOK.X 152 _ (by kernel_rfl)) (fun h => h) (by decide) (.cons (.str "propose" 395 (by decide +kernel)) (.cons (.tuple (n := 0) (GOK.X 151 _ (by kernel_rfl)) (fun h => h) (by decide) (.cons (.tuple (n := 0) (GOK.X 149 _ (by kernel_rfl)) (fun h => h) (by decide) (.cons (.str "deliver" 396 (by decide +kernel)) (.cons (.int (-2) 398) .nil))) (.cons (.tuple (n := 0) (GOK.X 150 _ (by kernel_rfl)) (fun h => h) (by decide) (.cons (.str "deliver" 399 (by decide +kernel)) (.cons (.int (-1) 401) .nil))) .nil))) .nil))) (.cons (.tuple (n := 0) (GOK.X 159 _ (by kernel_rfl)) (fun h => h) (by decide) (.cons (.str "beat" 402 (by decide +kernel)) (.cons (.tuple (n := 0) (GOK.X 158 _ (by kernel_rfl)) (fun h => h) (by decide) (.cons (.tuple (n := 0) (GOK.X 153 _ (by kernel_rfl)) (fun h => h) (by decide) (.cons (.str "deliver" 403 (by decide +kernel)) (.cons (.int (-2) 405) .nil))) (.cons (.tuple (n := 0) (GOK.X 154 _ (by kernel_rfl)) (fun h => h) (by decide) (.cons (.str "double" 406 (by decide +kernel)) (.cons (.int (-1) 408) .nil))) (.cons (.tuple (n := 0) (GOK.X 155 _ (by kernel_rfl)) (fun h => h) (by decide) (.cons (.str "deliver" 409 (by decide +kernel)) (.cons (.int (-1) 411) .nil))) (.cons (.tuple (n := 0) (GOK.X 156 _ (by kernel_rfl)) (fun h => h) (by decide) (.cons (.str "deliver" 412 (by decide +kernel)) (.cons (.int (-2) 414) .nil))) (.cons (.tuple (n := 0) (GOK.X 157 _ (by kernel_rfl)) (fun h => h) (by decide) (.cons (.str "deliver" 415 (by decide +kernel)) (.cons (.int (-1) 417) .nil))) .nil)))))) .nil))) (.cons (.tuple (n := 0) (GOK.X 161 _ (by kernel_rfl)) (fun h => h) (by decide) (.cons (.str "crash" 418 (by decide +kernel)) (.cons (.tuple (n := 0) (GOK.X 160 _ (by kernel_rfl)) (fun h => h) (by decide) .nil) .nil))) (.cons (.tuple (n := 0) (GOK.X 165 _ (by kernel_rfl)) (fun h => h) (by decide) (.cons (.str "double" 419 (by decide +kernel)) (.cons (.tuple (n := 0) (GOK.X 164 _ (by kernel_rfl)) (fun h => h) (by decide) (.cons (.tuple (n := 0) (GOK.X 162 _ (by kernel_rfl)) (fun h => h) (by decide) (.cons (.str "deliver" 420 (by decide +kernel)) (.cons (.int (-1) 422) .nil))) (.cons (.tuple (n := 0) (GOK.X 163 _ (by kernel_rfl)) (fun h => h) (by decide) (.cons (.str "deliver" 423 (by decide +kernel)) (.cons (.int (-1) 425) .nil))) .nil))) .nil))) (.cons (.tuple (n := 0) (GOK.X 168 _ (by kernel_rfl)) (fun h => h) (by decide) (.cons (.str "timeout" 426 (by decide +kernel)) (.cons (.tuple (n := 0) (GOK.X 167 _ (by kernel_rfl)) (fun h => h) (by decide) (.cons (.tuple (n := 0) (GOK.X 166 _ (by kernel_rfl)) (fun h => h) (by decide) (.cons (.str "deliver" 427 (by decide +kernel)) (.cons (.int (-1) 429) .nil))) .nil)) .nil))) (.cons (.tuple (n := 0) (GOK.X 170 _ (by kernel_rfl)) (fun h => h) (by decide) (.cons (.str "drop" 430 (by decide +kernel)) (.cons (.tuple (n := 0) (GOK.X 169 _ (by kernel_rfl)) (fun h => h) (by decide) .nil) .nil))) .nil))))))))))))⟩
    · cases e
  fn _ _ _ e := nomatch e
  pm _ _ _ _ e := nomatch e
  mm _ _ _ _ e := nomatch e
theorem h1 : SndM 2 O1 := (h0.up (by decide)).addM (mm_ok h0 (cls_ok ) (D_init ) (M_init ) W_init)
theorem h2 : SndM 3 O2 := (h1.up (by decide)).addP (pm_ok h1.toSndO (D_others ) (M_others ) W_others)
theorem h3 : SndM 4 O3 := (h2.up (by decide)).addP (pm_ok h2.toSndO (D_term_at ) (M_term_at ) W_term_at)
theorem h4 : SndM 6 O4 := (h3.up (by decide)).addM (mm_ok h3 (cls_ok ) (D_send_append ) (M_send_append ) W_send_append)
theorem h5 : SndM 8 O5 := (h4.up (by decide)).addM (mm_ok h4 (cls_ok ) (D_beat ) (M_beat ) W_beat)
theorem h6 : SndM 10 O6 := (h5.up (by decide)).addM (mm_ok h5 (cls_ok ) (D_maybe_lead ) (M_maybe_lead ) W_maybe_lead)
theorem h7 : SndM 12 O7 := (h6.up (by decide)).addM (mm_ok h6 (cls_ok ) (D_follow ) (M_follow ) W_follow)
theorem h8 : SndM 13 O8 := (h7.up (by decide)).addP (pm_ok h7.toSndO (D_last ) (M_last ) W_last)
theorem h9 : SndM 15 O9 := (h8.up (by decide)).addM (mm_ok h8 (cls_ok ) (D_look ) (M_look ) W_look)
theorem h10 : SndM 17 O10 := (h9.up (by decide)).addM (mm_ok h9 (cls_ok ) (D_receive ) (M_receive ) W_receive)
theorem h11 : SndM 19 O11 := (h10.up (by decide)).addM (mm_ok h10 (cls_ok ) (D_handle ) (M_handle ) W_handle)
theorem h12 : SndM 20 O12 := (h11.up (by decide)).addP (pm_ok h11.toSndO (D_tup ) (M_tup ) W_tup)
theorem fn_step : FnOK 22 44 F_step := fn_ok h12 (cls_ok ) (D_step ) (by kernel_rfl) (by kernel_rfl) W_step
theorem h13 : SndM 22 O13 := (h12.up (by decide)).addF (fn_step )
theorem fn_fresh : FnOK 24 52 F_fresh := fn_ok h13 (cls_ok ) (D_fresh ) (by kernel_rfl) (by kernel_rfl) W_fresh
theorem h14 : SndM 24 O14 := (h13.up (by decide)).addF (fn_fresh )
theorem fn_play : FnOK 26 95 F_play := fn_ok h14 (cls_ok ) (D_play ) (by kernel_rfl) (by kernel_rfl) W_play
theorem h15 : SndM 26 O15 := (h14.up (by decide)).addF (fn_play )
theorem fn_law_moves : FnOK 28 92 F_law_moves := fn_ok h15 (cls_ok ) (D_law_moves ) (by kernel_rfl) (by kernel_rfl) W_law_moves
theorem h16 : SndM 28 O16 := (h15.up (by decide)).addF (fn_law_moves )
theorem fn_law_entry : FnOK 30 67 F_law_entry := fn_ok h16 (cls_ok ) (D_law_entry ) (by kernel_rfl) (by kernel_rfl) W_law_entry
theorem h17 : SndM 30 O17 := (h16.up (by decide)).addF (fn_law_entry )
theorem fn_law_appends : FnOK 32 69 F_law_appends := fn_ok h17 (cls_ok ) (D_law_appends ) (by kernel_rfl) (by kernel_rfl) W_law_appends
theorem h18 : SndM 32 O18 := (h17.up (by decide)).addF (fn_law_appends )
theorem fn_law_won : FnOK 34 74 F_law_won := fn_ok h18 (cls_ok ) (D_law_won ) (by kernel_rfl) (by kernel_rfl) W_law_won
theorem h19 : SndM 34 O19 := (h18.up (by decide)).addF (fn_law_won )
theorem fn_law_reached : FnOK 36 75 F_law_reached := fn_ok h19 (cls_ok ) (D_law_reached ) (by kernel_rfl) (by kernel_rfl) W_law_reached
theorem h20 : SndM 36 O20 := (h19.up (by decide)).addF (fn_law_reached )
theorem fn_law_tell : FnOK 38 89 F_law_tell := fn_ok h20 (cls_ok ) (D_law_tell ) (by kernel_rfl) (by kernel_rfl) W_law_tell
theorem h21 : SndM 38 O21 := (h20.up (by decide)).addF (fn_law_tell )
theorem fn_law_take : FnOK 40 86 F_law_take := fn_ok h21 (cls_ok ) (D_law_take ) (by kernel_rfl) (by kernel_rfl) W_law_take
theorem h22 : SndM 40 O22 := (h21.up (by decide)).addF (fn_law_take )
theorem fn_law_hear : FnOK 42 88 F_law_hear := fn_ok h22 (cls_ok ) (D_law_hear ) (by kernel_rfl) (by kernel_rfl) W_law_hear
theorem h23 : SndM 42 O23 := (h22.up (by decide)).addF (fn_law_hear )
theorem fn_law_reckon : FnOK 44 96 F_law_reckon := fn_ok h23 (cls_ok ) (D_law_reckon ) (by kernel_rfl) (by kernel_rfl) W_law_reckon
theorem h24 : SndM 44 O24 := (h23.up (by decide)).addF (fn_law_reckon )
theorem fn_law : FnOK 46 49 F_law := fn_ok h24 (cls_ok ) (D_law ) (by kernel_rfl) (by kernel_rfl) W_law
theorem h25 : SndM 46 O25 := (h24.up (by decide)).addF (fn_law )
end
end
theorem behind : Ask q0.w q0.H q0.mg q0.mb := by
  intro p loose R XP s₀ s₁ eH Gr KX fa hmg hg args vals as hpre hlay hrd hwl hlo
  have ok : GOK := ⟨(show (KK q0.w.params).In q0.H from eH ▸ KX), (show q0.H.Ns mainGlobals q0.mg from eH ▸ Gr.T.g), (show q0.H.Ns builtinsNs q0.mb from eH ▸ Gr.T.b), (show q0.H.NoLimit from eH ▸ Gr.T.nolimit), Gr.T.builtins⟩
  wrow_args hpre hlay hrd hwl hlo
  rename_i ns _ _ _ _ _ _ _ a vs _ hL _ w1 _ hI _ hc _
  have hlen : ns.length ≤ 63 := by lia
  obtain ⟨fa', e1, e2, H⟩ := fn_law [.list (ns.map .int)] (.bool true) (law_true ns hlen)
  have ef : fa = fa' := by
    have := mg_of KX Gr.T.g (n := "law") e1
    rw [hmg] at this
    exact Value.ref.inj (Option.some.inj this)
  subst ef
  refine enter_call (H callerA s₁ [.ref a] (fun _ => False) _ ⟨rfl, by decide, by decide⟩ ⟨fun b o h => (show s₁.heap.get? b = some o from eH.symm ▸ (show q0.H.get? b = some o from h)), (show q0.H.objs.size ≤ s₁.heap.objs.size by rw [eH]; exact Nat.le_refl _)⟩ ⟨fun _ h => h.elim, fun _ h => h.elim⟩ (.one ?_) fun v h' tk ks dv => ?_)
  · obtain ⟨o, ho, hoc, n, hod⟩ := hL
    have w2 : Well q0.w.params s₁.heap (.ref a) (.list (ofPys (ns.map .int))) := w1
    cases w2 with
    | list e2 _ =>
      rw [ho] at e2
      have e3 := Option.some.inj e2
      rw [e3] at hod
      have e4 := (Data.seq.inj hod).1
      rw [e4] at e3
      exact .list (ho.trans (congrArg some e3)) (fun h => h) (by have := (dis_of_ints (h := s₁.heap) (Z := fun _ => False) hI).length; rw [List.length_map] at this; rw [this]; unfold big; lia) (dis_of_ints hI)
  · cases dv
    exact ⟨.inl ⟨_, .bool true, [], rfl, fun cls => rfl, .bool true, by kernel_rfl, fun _ => ⟨List.nodup_nil, fun _ h => absurd h List.not_mem_nil⟩⟩, .of_keep ks, rfl, .of_eq hg⟩
end Mine
end
section
open PySem PySem.W PyProof.Rows
set_option Elab.async false
set_option maxRecDepth 100000 in
set_option maxHeartbeats 0 in
theorem PySem.Challenge.cw_sx_r021_2_holds : PySem.Challenge.rw_sx_r021_2.Holds := by
  w_on; o_law
  o_head (kHook Mine.KK Mine.kas (fun _ => by kernel_rfl))
  (case hw => w_witness2)
  intro w s₀ s₁ mg mb G Y fa o pm cd doc dV kV ho hd hcd hD hmg hg args vals as hpre hlay hrd hwl hlo
  exact Mine.ask_all Mine.behind w s₁.heap mg mb _ _ _ _ s₀ s₁ rfl G (kIn_of Y) fa hmg hg args vals as hpre hlay hrd hwl hlo
end
